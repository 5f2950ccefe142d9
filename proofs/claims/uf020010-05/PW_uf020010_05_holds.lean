import PyProof.Rows.All
import PyProof.Walk
import PyProof.Calls
import PyProof.EvalArms
import PyProof.Boot
import PyProof.FactsAll.list
import PyProof.TupleIter
import PyProof.AutoIntOps
import PyProof.AutoSeq1
import PyProof.Rules3
import PyProof.ListIndex
import PyProof.SliceList
import PyProof.FactsAll.range_2
import PyProof.Cells
import PyProof.PlainList
import PyProof.ConsumeWalk
import PyProof.CompFree
import PyProof.PureInt
import PyProof.Conv_int_bool
import PyProof.DefCall
import PyProof.MeetsSeq
import PyProof.DictKinds
import PyProof.MeetsDict
import PyProof.DictRoads
import PyProof.DictStraight
import PyProof.DictIter
import PyProof.TupleKey
import PyProof.DictRoadsH
import PyProof.Rows.RowHeap
import PyProof.DictWalks
import PyProof.EnumMake
import PyProof.IsRules
import PyProof.NeKinds
import PyProof.IsiBase
import PyProof.ExcClass2
import PyProof.ExcArgsOwn
import PyProof.ExcBaseAll.ValueError
import PyProof.ExcAttrAll.ValueError
import PyProof.RaisesMany
import PyProof.StrLawsIn
import PyProof.StrOps
import PyProof.StrOps2
import PyProof.RangeIter
import PyProof.WalksMore
import PyProof.RangeFor
import PyProof.IsiHeapPairs
import PyProof.IsiNone
import PyProof.IsiPairs
import PyProof.LetGo
import PyProof.ListNew
import PyProof.ListCopy
import PyProof.ListTruth
import PyProof.WalkInts
import PyProof.RulesAs
import PyProof.P3In
import PyProof.ReprLoop
import PyProof.Rows.News
import PyProof.Rows.Tup
import PyProof.Rows.TupSub
import PyProof.Rows.Lst
import PyProof.Truth
import PyProof.Rows.CatchOwn
import PyProof.Rows.SeqSlice
import PyProof.Rows.RuleN_isinstance
import PyProof.Rows.TupMore
import PyProof.SliceMore
import PyProof.Rows.BootFacts.P1
import PyProof.Rows.BootFacts.P2
import PyProof.Rows.BootFacts.P3
import PyProof.Rows.BootFacts.P4
import PyProof.Rows.BootFacts.P5
import PyProof.Rows.EqDataRows
import PyProof.RulesAssignMore
import PyProof.Rows.SeqMore
import PyProof.Rows.SortRuns
import PyProof.Rows.SortPure
import PyProof.Rows.SortShell
import PyProof.Rows.SortWalk
import OpenK.KCall
import OpenK.KMake
import Open.Row
import Open.Line
import OpenK.KWalk
import OpenK.KCell
import KE.LcSums
import Wide.FinOn
import Wide.All
import PySem.Challenge.RW_uf020010_05
set_option Elab.async false
set_option bootstrap.genMatcherCode false
set_option genSizeOf false
set_option genInjectivity false
namespace BP
open PySem PyProof.Rows
section
variable {M : Model} {A : Around} {E : Value → Shared → Prop} {s : Shared} {σ α : Type} {t e : StateT σ Sem α} {Q : α → σ → Prop} {st : σ}
theorem wpS_neg {p : Prop} [Decidable p] (h : ¬ p) (h2 : wpS M A E s e Q st) : wpS M A E s (if p then t else e) Q st := by rw [if_neg h]; exact h2
theorem wpS_pos {p : Prop} [Decidable p] (h : p) (h2 : wpS M A E s t Q st) : wpS M A E s (if p then t else e) Q st := by rw [if_pos h]; exact h2
end
noncomputable def Stp {β : Type} (D Y : β → SortSt → Prop) : ForInStep β → SortSt → Prop
  | .done c, st => D c st
  | .yield c, st => Y c st
theorem wpS_loopR {M : Model} {A : Around} {E : Value → Shared → Prop} {s : Shared} {β : Type} {a n : Nat} {f : Nat → β → StateT SortSt Sem (ForInStep β)} (I : Nat → β → SortSt → Prop) (D : β → SortSt → Prop) {c : β} {st : SortSt} {α : Type} {k : β → StateT SortSt Sem α} {Q : α → SortSt → Prop} (h0 : I a c st)
    (hs : ∀ i c st, a ≤ i → i < n → I i c st → wpS M A E s (f i c) (Stp D (I (i + 1))) st) (he : ∀ c st, I (max a n) c st → D c st) (hk : ∀ c st, D c st → wpS M A E s (k c) Q st) : wpS M A E s (forIn [a:n] c f >>= k) Q st :=
  wpS_bind (wpS_mono (wpS_forRange (I := I) (Q := D) (fun i c st' ha hi q => wpS_mono (hs i c st' ha hi q) fun r st2 h => by cases r <;> exact h) he h0) hk)
theorem wpS_loop0 {M : Model} {A : Around} {E : Value → Shared → Prop} {s : Shared} {β : Type} {a n : Nat} (hn : n ≤ a) {f : Nat → β → StateT SortSt Sem (ForInStep β)} {c : β} {st : SortSt} {α : Type} {k : β → StateT SortSt Sem α} {Q : α → SortSt → Prop} (hk : wpS M A E s (k c) Q st) : wpS M A E s (forIn [a:n] c f >>= k) Q st :=
  wpS_loopR (fun o' c' st' => c' = c ∧ st' = st) (fun c' st' => c' = c ∧ st' = st) ⟨rfl, rfl⟩ (fun i o' o' h1 h2 => absurd h2 (by lia)) (fun o' o' h => h) fun c' st' h => by rw [h.1, h.2]; exact hk
section
variable {prog : Program} {w : World} {A : Around} {E : Value → Shared → Prop} {s : Shared} {kd : SortKind} {v1 v2 : Value} {b : Bool}
abbrev duo (v1 v2 : Value) : Array Keyed := #[(v1, v1), (v2, v2)]
noncomputable def Asks (prog : Program) (w : World) (A : Around) (s : Shared) (kd : SortKind) (v1 v2 : Value) (b : Bool) : Prop := wpAny (model prog w) A (keyLt' kd v2 v1) (fun r s' => r = b ∧ s' = s) (fun o' o' => False) s
theorem wpS_lt2 (C : Asks prog w A s kd v1 v2 b) {st : SortSt} (hk : kindOf st = kd) (ha : arrOf st = duo v1 v2) {Q : Option Bool → SortSt → Prop} (h : Q (some b) st) : wpS (model prog w) A E s (ltAt' 1 0) Q st := by
  rw [ltAt'_eq]
  refine wpS_bind (wpS_get ?_)
  rw [ha]
  dsimp only
  rw [elem'_eq, elem'_eq]
  refine wpS_bind (wpS_pure ?_)
  refine wpS_bind (wpS_pure ?_)
  rw [lt'_eq]
  refine wpS_bind (wpS_get ?_)
  rw [hk]
  refine wpS_bind (wpS_lift (wpAny_attempt (wpAny_mono C (fun r s' e => ⟨e.2, ?_⟩) fun o' o' q => q.elim)))
  rw [e.1]
  exact wpS_pure h
theorem mirror_duo : mirror (duo v1 v2) 0 2 1 = duo v2 v1 := rfl
theorem wpS_run2 (C : Asks prog w A s kd v1 v2 b) {st : SortSt} (hk : kindOf st = kd) (ha : arrOf st = duo v1 v2) {Q : Option Nat → SortSt → Prop} (h : Q (some 2) (if b then setArr st (duo v2 v1) else st)) : wpS (model prog w) A E s (countRun' 0 2) Q st := by
  rw [countRun'_eq]
  refine wpS_loopR (fun x c st' => st' = st ∧ (x = 1 ∧ c = (none, 1) ∨ x = 2 ∧ c = (none, 2) ∧ b = false)) (fun c st' => st' = st ∧ (c = (none, 1) ∧ b = true ∨ c = (none, 2) ∧ b = false)) ⟨rfl, .inl ⟨rfl, rfl⟩⟩ (fun x c st' h1 h2 H => ?_) (fun c st' H => ?_) fun c st' H => ?_
  · obtain ⟨rfl, H | H⟩ := H
    · obtain ⟨rfl, rfl⟩ := H
      refine wpS_bind (wpS_lt2 C hk ha ?_)
      cases b with
      | true => exact wpS_pure ⟨rfl, .inl ⟨rfl, rfl⟩⟩
      | false => exact wpS_pure ⟨rfl, .inr ⟨rfl, rfl, rfl⟩⟩
    · lia
  · obtain ⟨rfl, H | H⟩ := H
    · exact absurd H.1 (by decide)
    · exact ⟨rfl, .inr H.2⟩
  · obtain ⟨rfl, H | H⟩ := H
    · obtain ⟨rfl, rfl⟩ := H
      refine wpS_neg (by decide) ?_
      extract_lets n1 n2 jp
      refine wpS_neg (by decide) ?_
      refine wpS_bind (wpS_lift (wpAny_rule ⟨rfl, ?_⟩))
      refine wpS_loop0 (by decide) ?_
      refine wpS_neg (by decide) ?_
      refine wpS_bind (wpS_reverse ?_)
      refine wpS_loop0 (by decide) ?_
      rw [ha]
      rw [if_pos rfl, ← mirror_duo] at h
      dsimp only
      rw [show n1 = 2 from rfl]
      exact wpS_pure h
    · obtain ⟨rfl, rfl⟩ := H
      exact wpS_pure h
theorem wpS_runs2 (C : Asks prog w A s kd v1 v2 b) {st : SortSt} (hk : kindOf st = kd) (ha : arrOf st = duo v1 v2) (hp : pendingOf st = #[]) (hf : failedOf st = none) {Q : Unit → SortSt → Prop} (h : ∀ st', failedOf st' = none → arrOf st' = (if b then duo v2 v1 else duo v1 v2) → Q () st') : wpS (model prog w) A E s sortRuns' Q st := by
  rw [sortRuns'_eq]
  refine wpS_bind (wpS_get ?_)
  rw [ha]
  refine wpS_loopR (fun x c st' => (x = 0 ∧ c = (none, 0) ∧ st' = st) ∨ (1 ≤ x ∧ c = (none, 2) ∧ failedOf st' = none ∧ arrOf st' = (if b then duo v2 v1 else duo v1 v2) ∧ (pendingOf st').size ≤ 1)) (fun c st' => c = (none, 2) ∧ failedOf st' = none ∧ arrOf st' = (if b then duo v2 v1 else duo v1 v2) ∧ (pendingOf st').size ≤ 1) (.inl ⟨rfl, rfl, rfl⟩) (fun x c st' h1 h2 H => ?_) (fun c st' H => ?_) fun c st' H => ?_
  · rcases H with ⟨rfl, rfl, rfl⟩ | ⟨hx, rfl, H⟩
    · refine wpS_neg (show ¬ (0 : Nat) ≥ 2 by decide) ?_
      refine wpS_bind (wpS_run2 C hk ha ?_)
      refine wpS_neg (show ¬ 2 < minRun' 2 2 0 by decide) ?_
      refine wpS_bind (wpS_get ?_)
      have hp2 : pendingOf (if b = true then setArr st' (duo v2 v1) else st') = #[] := by cases b <;> exact hp
      rw [hp2]
      refine wpS_bind (wpS_modify (wpS_pure (.inr ⟨by lia, rfl, ?_, ?_, ?_⟩)))
      · cases b <;> exact hf
      · cases b
        · exact ha
        · rfl
      · show ((pendingOf _).push _).size ≤ 1
        rw [hp2]; decide
    · refine wpS_pos (show (2 : Nat) ≥ 2 by decide) ?_
      exact wpS_pure ⟨rfl, H⟩
  · rcases H with ⟨h1, _⟩ | ⟨_, H⟩
    · exact absurd h1 (show ¬ max 0 2 = 0 by decide)
    · exact H
  · obtain ⟨rfl, h1, h2, h3⟩ := H
    refine wpS_loopR (fun x c st'' => c = (none, ()) ∧ st'' = st') (fun c st'' => c = (none, ()) ∧ st'' = st') ⟨rfl, rfl⟩ (fun x c st'' o' o' H => ?_) (fun o' o' H => H) fun c st'' H => ?_
    · obtain ⟨rfl, rfl⟩ := H
      refine wpS_bind (wpS_get ?_)
      refine wpS_pos h3 ?_
      exact wpS_pure ⟨rfl, rfl⟩
    · obtain ⟨rfl, rfl⟩ := H
      exact wpS_pure (h _ h1 h2)
end
noncomputable def tuplesK : Bool → SortKind := sortPriv% PySem.Builtin.KeyKind.tuples
section
variable {prog : Program} {w : World} {A : Around} {E : Value → Shared → Prop} {s : Shared}
theorem oneLt_any {c : Bool} {a b : Int} {t u : Tok} {Q : Bool → Shared → Prop} (h : Q (decide (a < b)) s) : wpAny (model prog w) A (oneLt' c (.int a t) (.int b u)) Q E s := by
  cases c with
  | true => exact oneLt_int h
  | false =>
    rw [oneLt'_eq]
    simp only [Bool.false_eq_true, if_false]
    exact wpAny_bind (show wpAny (model prog w) A (richCompare .Lt (.int a t) (.int b u)) _ E s from wpAny_lt_int (wpAny_truthy_bool h))
structure PairAt (h : Heap) (v : Value) (i m : Int) : Prop where
  e : ∃ a n t t', v = .ref a ∧ h.get? a = some (seqObj "tuple" #[.int i t, .int m t'] n)
theorem asks_pair {b : Bool} {v1 v2 : Value} {i m j n : Int} (h1 : PairAt s.heap v1 i m) (h2 : PairAt s.heap v2 j n) (hn : i ≠ j) : Asks prog w A s (tuplesK b) v1 v2 (decide (j < i)) := by
  obtain ⟨a1, n1, t1, u1, rfl, g1⟩ := h1.e
  obtain ⟨a2, n2, t2, u2, rfl, g2⟩ := h2.e
  show wpAny _ _ (keyLt' ((sortPriv% PySem.Builtin.KeyKind.tuples) b) (.ref a2) (.ref a1)) _ _ _
  wp_delta
  wp_delta
  refine wpAny_bind (listItems_at g2 rfl (wpAny_bind (listItems_at g1 rfl ?_)))
  refine wpAny_bind ?_
  show wpAny _ _ (forIn [((Value.int j t2, Value.int i t1), 0), ((Value.int n u2, Value.int m u1), 1)] _ _) _ _ _
  rw [List.forIn_cons]
  refine wpAny_bind (wpAny_bind (wpAny_eqBool_int ?_))
  rw [show (j == i) = false from beq_false_of_ne fun q => hn q.symm]
  exact wpAny_bind (oneLt_any (wpAny_pure (wpAny_pure (wpAny_pure ⟨rfl, rfl⟩))))
theorem first_pair {v : Value} {i m : Int} {Q : Option Value → Shared → Prop} (h : PairAt s.heap v i m) (hq : ∀ t, Q (some (.int i t)) s) : wpAny (model prog w) A (firstOfTuple' v) Q E s := by
  obtain ⟨a, n, t, u, rfl, g⟩ := h.e
  wp_delta
  wp_delta
  refine wpAny_bind (wpAny_typeOf (T := "tuple") ⟨_, g, rfl⟩ ?_)
  rw [if_neg (by decide)]
  exact wpAny_bind (listItems_at g rfl (wpAny_pure (hq t)))
theorem kind_pair {v1 v2 : Value} {i m j n : Int} {Q : SortKind → Shared → Prop} (h1 : PairAt s.heap v1 i m) (h2 : PairAt s.heap v2 j n) (h : ∀ b, Q (tuplesK b) s) : wpAny (model prog w) A (keyKind' #[v1, v2]) Q E s := by
  wp_delta
  wp_delta
  show wpAny _ _ ([v1, v2].toArray.mapM firstOfTuple' >>= _) _ _ _
  rw [List.mapM_toArray, map_eq_pure_bind, List.mapM_cons, List.mapM_cons, List.mapM_nil]
  refine wpAny_bind (wpAny_bind (wpAny_bind (first_pair h1 fun t => wpAny_bind (wpAny_bind (first_pair h2 fun u => wpAny_bind (wpAny_pure (wpAny_pure (wpAny_pure (wpAny_pure ?_)))))))))
  rw [if_pos (show ([some (Value.int i t), some (Value.int j u)].toArray.all fun x => x.isSome) = true by simp)]
  refine wpAny_bind (wpAny_rule ?_)
  rw [show ([some (Value.int i t), some (Value.int j u)].toArray.filterMap id) = [Value.int i t, Value.int j u].toArray from rfl]
  show wpAny _ _ (oneTypeOnly' [Value.int i t, Value.int j u].toArray >>= _) _ _ _
  rw [oneTypeOnly'_eq, List.mapM_toArray, map_eq_pure_bind]
  have hI : IntsAre [Value.int i t, Value.int j u] [i, j] := intsAre_map _ (fun f hf => by
    rcases List.mem_cons.mp hf with q | q
    · exact ⟨i, t, q⟩
    · exact ⟨j, u, List.mem_singleton.mp q⟩)
  rw [mapM_typeOf_ints hI]
  refine wpAny_bind (wpAny_bind (wpAny_bind (wpAny_pure (wpAny_pure ?_))))
  split
  · exact wpAny_pure (wpAny_pure (h _))
  · exact wpAny_pure (wpAny_pure (h _))
theorem PairAt.keep {h h' : Heap} {v : Value} {i m : Int} (p : PairAt h v i m) (k : ∀ b o (xs : Array Value) (n : Nat), h.get? b = some o → o = seqObj "tuple" xs n → h'.get? b = some o) : PairAt h' v i m := by
  obtain ⟨a, n, t, u, e, g⟩ := p.e
  exact ⟨a, n, t, u, e, k a _ _ _ g rfl⟩
theorem list_sort2 {a : Addr} {v1 v2 : Value} {n : Nat} {i m j k : Int} {P : PySem.Fin → Shared → Prop} (ho : s.heap.get? a = some (seqObj "list" #[v1, v2] n)) (p1 : PairAt s.heap v1 i m) (p2 : PairAt s.heap v2 j k) (hn : i ≠ j)
    (h : P (.done (.ret .none)) { s with heap := sortedHeap s.heap a [v1, v2] (if j < i then #[v2, v1] else #[v1, v2]) }) :
    wpAny (model prog w) A (Builtin.«list.sort» ⟨[.ref a], []⟩) P E s := by
  rw [list_sort_plain]
  have ha : a < s.heap.objs.size := Heap.lt_size ho
  refine wpAny_bind (listItems_at ho rfl ?_)
  refine wpAny_bind (listUpdate_at ho rfl ?_ (show 2 ≤ _ by rw [sizeLine_eq]; decide) (Nat.zero_le _))
  obtain ⟨e1, ho1⟩ : ∃ e1, (s.heap.update a (Obj.mapSeq fun o' => #[])).get? a = some (seqObj "list" #[] e1) := ⟨_, get?_update_seq ho (fun o' => #[])⟩
  refine wpAny_bind (seqEpoch_at ho1 rfl ?_)
  refine wpAny_bind (wpAny_newTuple ?_)
  refine wpAny_bind (wpAny_newList ?_)
  refine wpAny_holding ?_
  have ho6 : (((s.heap.update a (Obj.mapSeq fun o' => #[])).push (seqObj "tuple" #[v1, v2] 0)).push (seqObj "list" #[] 0)).get? a = some (seqObj "list" #[] e1) := by
    rw [Heap.get?_push_ne _ _ _ (by rw [size_push', Heap.size_update]; exact Nat.ne_of_lt (Nat.lt_succ_of_lt ha)), Heap.get?_push_ne _ _ _ (by rw [Heap.size_update]; exact Nat.ne_of_lt ha)]
    exact ho1
  show wpAny (model prog w) A _ P E { s with heap := ((s.heap.update a (Obj.mapSeq fun o' => #[])).push (seqObj "tuple" #[v1, v2] 0)).push (seqObj "list" #[] 0) }
  have kp : ∀ {v i m}, PairAt s.heap v i m → PairAt (((s.heap.update a (Obj.mapSeq fun o' => #[])).push (seqObj "tuple" #[v1, v2] 0)).push (seqObj "list" #[] 0)) v i m := fun p => p.keep fun b o xs n q hq => Heap.get?_push_of_some _ (Heap.get?_push_of_some _ (by rw [Heap.get?_update_ne _ _ _ _ (fun e => by rw [e, ho, hq] at q; exact absurd (Value.type.inj (congrArg Obj.cls (Option.some.inj q))) (by decide))]; exact q))
  have q1 := kp p1
  have q2 := kp p2
  rw [if_neg (show ¬ #[v1, v2].size < 2 by simp), if_neg (show ¬ #[v1, v2].size < 2 by simp), show #[v1, v2].zip #[v1, v2] = duo v1 v2 by simp [duo]]
  refine wpAny_bind (kind_pair q1 q2 fun b => ?_)
  refine wpAny_bind (wpAny_mono (wpS_runs2 (asks_pair (b := b) q1 q2 hn) (st := SortSt.mk' (tuplesK b) (duo v1 v2) #[] 7 none) (Q := fun o' st' => failedOf st' = none ∧ arrOf st' = (if decide (j < i) then duo v2 v1 else duo v1 v2)) rfl rfl rfl rfl fun st' f a => ⟨f, a⟩) ?_ fun o' o' e => e)
  rintro ⟨⟨⟩, st'⟩ s' ⟨rfl, hf, hs⟩
  dsimp only
  refine wpAny_bind (seqEpoch_at ho6 rfl ?_)
  have ho : ((arrOf st').map fun p => p.2) = if j < i then #[v2, v1] else #[v1, v2] := by
    rw [hs]
    by_cases q : j < i
    · rw [if_pos (decide_eq_true q), if_pos q]; simp [duo]
    · rw [if_neg (by simpa using q), if_neg q]; simp [duo]
  rw [ho]
  refine wpAny_bind (listUpdate_at ho6 rfl ?_ (hsz2 := by rw [sizeLine_eq]; split <;> exact (show 2 ≤ 16777216 + 1 by decide)))
  rw [hf]
  simp only [bne_self_eq_false, Bool.false_eq_true, if_false]
  exact wpAny_pure h
theorem sorted2 {l : Addr} {v1 v2 : Value} {i m j k : Int} {Q : Value → Shared → Prop} (hl : s.heap.IsList l #[v1, v2]) (p1 : PairAt s.heap v1 i m) (p2 : PairAt s.heap v2 j k) (hn : i ≠ j)
    (h : Q (.ref (s.heap.objs.size + 1)) { s with heap := sortedAll s.heap [v1, v2] (if j < i then #[v2, v1] else #[v1, v2]) }) :
    wpAny (model prog w) A (call (.builtin "sorted") [.ref l]) Q E s := by
  refine Calls.call_function_entry kind_sorted plain_sorted entry_sorted (args_sorted1 _) ?_
  unfold Builtin.«sorted»
  refine wpAny_bind (m := checkCount "sorted" 1 1 _) (wpAny_pure ?_)
  refine wpAny_bind (collect_list (vs := [v1, v2]) hl ?_)
  refine wpAny_bind (wpAny_newList ?_)
  have hsz : ((s.heap.push (seqObj "list" #[] 0)).update s.heap.objs.size (Obj.mapSeq (· ++ [v1, v2].toArray))).objs.size = s.heap.objs.size + 1 := by
    rw [Heap.size_update, size_push']
  have hoL : (((s.heap.push (seqObj "list" #[] 0)).update s.heap.objs.size (Obj.mapSeq (· ++ [v1, v2].toArray))).push (seqObj "list" [v1, v2].toArray 0)).get? (s.heap.objs.size + 1) = some (seqObj "list" [v1, v2].toArray 0) := by
    rw [← hsz]; exact Heap.get?_push_size _ rfl
  show wpAny _ _ _ _ _ { s with heap := ((s.heap.push (seqObj "list" #[] 0)).update s.heap.objs.size (Obj.mapSeq (· ++ [v1, v2].toArray))).push (seqObj "list" [v1, v2].toArray 0) }
  rw [hsz]
  have kp : ∀ {v i m}, PairAt s.heap v i m → PairAt (((s.heap.push (seqObj "list" #[] 0)).update s.heap.objs.size (Obj.mapSeq (· ++ [v1, v2].toArray))).push (seqObj "list" [v1, v2].toArray 0)) v i m := fun p => p.keep fun b o xs n q hq => Heap.get?_push_of_some _ (by rw [Heap.get?_update_ne _ _ _ _ (Nat.ne_of_lt (Heap.lt_size q))]; exact Heap.get?_push_of_some _ q)
  refine wpAny_bind (wpAny_holding (wpAny_call_entry slot_list_sort ⟨_, hoL, rfl⟩ entry_list_sort (list_sort2 hoL (kp p1) (kp p2) hn ⟨_, rfl, ?_⟩) (args_list_sort _)))
  exact wpAny_pure ⟨_, rfl, h⟩
end
end BP

set_option maxRecDepth 100000
namespace BP
open PySem
noncomputable def xNames : List Str := ["__init__", "__getattribute__", "__getattr__", "__class__"]
inductive TailX (h : Heap) (bmB : List Value) : List Value → Prop
  | base : TailX h bmB bmB
  | own {A : Addr} {c0 : Value} {dd : Option Addr} {cd : ClassData} {sl : Array (Option Value)} {mA : Str → Option Value} {tl : List Value} :
      h.get? A = some { cls := c0, dict := dd, data := .cls cd, slots := sl } → h.Ns cd.ns mA → (∀ n ∈ xNames, mA n = none) → TailX h bmB tl → TailX h bmB (.ref A :: tl)
theorem TailX.tail {h : Heap} {bmB tl : List Value} (T : TailX h bmB tl) : OwnTail h bmB tl := by
  induction T with
  | base => exact .base
  | own hA hN hq _ ih => exact .own hA hN (hq _ (.head _)) ih
theorem TailX.keeps {h h' : Heap} {bmB tl : List Value} (T : TailX h bmB tl) (hk : ∀ b o, h.get? b = some o → h'.get? b = some o) : TailX h' bmB tl := by
  induction T with
  | base => exact .base
  | own hA hN hq _ ih => exact .own (hk _ _ hA) (hN.keeps hk) hq ih
noncomputable def XCls (h : Heap) (C : Addr) (bm bmB : List Value) (newId : String) : Prop :=
  ∃ N nm q bs hdct sn sub ab col dd k0 k1 k2 k3 k5 mN, h.get? C = some (excClassObj nm q C N bs bm hdct sn sub ab col dd k0 k1 k2 k3 k5 newId) ∧ h.Ns N mN ∧ (∀ n ∈ xNames, mN n = none) ∧ TailX h bmB bm
theorem XCls.keeps {h h' : Heap} {C : Addr} {bm bmB : List Value} {newId : String} (X : XCls h C bm bmB newId) (hk : ∀ b o, h.get? b = some o → h'.get? b = some o) : XCls h' C bm bmB newId := by
  obtain ⟨N, nm, q, bs, hdct, sn, sub, ab, col, dd, k0, k1, k2, k3, k5, mN, h1, h2, h3, h4⟩ := X
  exact ⟨N, nm, q, bs, hdct, sn, sub, ab, col, dd, k0, k1, k2, k3, k5, mN, hk _ _ h1, h2.keeps hk, h3, h4.keeps hk⟩
section
variable {M : Model} {A : Around} {E : Value → Shared → Prop} {h : Heap} {g : Array GenState} {d : Drawn} {t : Nat} {os : OsState} {C : Addr} {bm bmB : List Value} {newId B : String}
theorem lookupAlong_x {tl : List Value} {n : Str} {y : Option Value} {Q : Option Value → Shared → Prop} (hn : n ∈ xNames) (T : TailX h bmB tl) (hrest : lookupAlong bmB n = pure y) (hq : Q y ⟨h, g, d, t, os⟩) :
    wpAny M A (lookupAlong tl n) Q E ⟨h, g, d, t, os⟩ := by
  induction T with
  | base => rw [hrest]; exact wpAny_pure hq
  | own hA hN hni _ ih =>
    rw [lookupAlong_cons]
    refine wpAny_bind (wpAny_classOwn_cls hA hN ?_)
    rw [hni n hn]
    exact ih
theorem typeLookup_x {n : Str} {y : Option Value} {Q : Option Value → Shared → Prop} (hn : n ∈ xNames) (X : XCls h C bm bmB newId) (hbm : mroOf (.type B) = pure bmB) (hB : typeLookup (.type B) n = pure y) (hq : Q y ⟨h, g, d, t, os⟩) :
    wpAny M A (typeLookup (.ref C) n) Q E ⟨h, g, d, t, os⟩ := by
  have hrest : lookupAlong bmB n = pure y := by rw [typeLookup_eq, hbm] at hB; exact hB
  obtain ⟨N, nm, q, bs, hdct, sn, sub, ab, col, dd, k0, k1, k2, k3, k5, mN, hC, hN, hmN, T⟩ := X
  rw [typeLookup_eq]
  refine wpAny_bind (wpAny_mroOf_exc hC ?_)
  rw [lookupAlong_cons]
  refine wpAny_bind (wpAny_classOwn_exc hC hN ?_)
  rw [hmN n hn]
  exact lookupAlong_x hn T hrest hq
theorem isSubtype_x {base : Value} {Q : Bool → Shared → Prop} (X : XCls h C bm bmB newId) (hq : Q ((Value.ref C :: bm).contains base) ⟨h, g, d, t, os⟩) : wpAny M A (isSubtype (.ref C) base) Q E ⟨h, g, d, t, os⟩ := by
  obtain ⟨N, nm, q, bs, hdct, sn, sub, ab, col, dd, k0, k1, k2, k3, k5, mN, hC, hN, hmN, T⟩ := X
  exact wpAny_isSubtype_exc hC hq
end
structure XBase (B : String) (bmB : List Value) : Prop extends ExcAttrBase B bmB where
  hasObj : bmB.contains (.type "object") = true
  lkClass : typeLookup (.type B) "__class__" = pure (some (.builtin "object.__class__"))
section
variable {prog : Program} {w : World} {A : Around} {E : Value → Shared → Prop} {h : Heap} {g : Array GenState} {d : Drawn} {t : Nat} {os : OsState} {a C : Addr} {o : Obj} {bm bmB : List Value} {newId B : String}
theorem class_get_x {R : Result → Shared → Prop} (FB : XBase B bmB) (X : XCls h C bm bmB newId) (hx : h.get? a = some o) (hc : o.cls = .ref C) (hq : R (.ok (.ret (.ref C))) ⟨h, g, d, t, os⟩) :
    codeAny (model prog w) A (.call (.builtin "getset_descriptor.__get__") ⟨[.builtin "object.__class__", .ref a, .ref C], []⟩) R ⟨h, g, d, t, os⟩ := by
  have hT5 : (⟨h, g, d, t, os⟩ : Shared).TypeIs (.builtin "object.__class__") "getset_descriptor" := F.typeOf_object_class
  have hcB : (Value.ref C :: bm).contains (.type (".".intercalate ("object.__class__".cutAt '.').dropLast)) = true := by
    obtain ⟨N, nm, q, bs, hdct, sn, sub, ab, col, dd, k0, k1, k2, k3, k5, mN, hC, hN, hmN, T⟩ := X
    rw [F.owner_object_class, List.contains_cons, T.tail.hasType FB.hasObj]; rfl
  refine codeAny_call_builtin F.slot_gs_get.plain F.entry_gs_get (F.slot_gs_get.check _ _ _ _ _ _ _ _ hT5 (F.args_gs_get _ _ _) ?_)
  repeat (any_goals (first | assumption | (with_reducible refine wpAny_loadPart_at hx ?_; rw [hc]) | (with_reducible refine isSubtype_x X ?_; rw [hcB]) | wp_step))
  refine ⟨Code.quiet_builtin _ (by decide +kernel), codeAny_builtin F.entry_object_class ?_⟩
  repeat (any_goals (first | assumption | (with_reducible refine wpAny_loadPart_at hx ?_; rw [hc]) | wp_step))
theorem check_ga_x {M : Model} {nameV : Value} {Q : Unit → Shared → Prop} (FB : XBase B bmB) (X : XCls h C bm bmB newId)
    (hx : h.get? a = some o) (hc : o.cls = .ref C) (hq : Q () ⟨h, g, d, t, os⟩) : wpAny M A (checkBuiltinCall "BaseException.__getattribute__" ⟨[.ref a, nameV], []⟩) Q E ⟨h, g, d, t, os⟩ := by
  have hk : builtinKind "BaseException.__getattribute__" = some .slot := by decide +kernel
  have hsplit : splitId "BaseException.__getattribute__" = some ("BaseException", "__getattribute__") := by decide +kernel
  have hcB : (Value.ref C :: bm).contains (.type "BaseException") = true := by
    obtain ⟨N, nm, q, bs, hdct, sn, sub, ab, col, dd, k0, k1, k2, k3, k5, mN, hC, hN, hmN, T⟩ := X
    rw [List.contains_cons, T.tail.hasType FB.hasBase]; rfl
  have ha := F.args_bexc_ga (.ref a) nameV
  simp only [checkBuiltinCall, hk, hsplit]
  refine wpAny_bind ?_
  · unfold isInstance
    repeat (first | (with_reducible refine wpAny_loadPart_at hx ?_; rw [hc]) | (with_reducible refine isSubtype_x X ?_; rw [hcB]) | wp_step)
    exact hq
theorem class_entry_x {tk : Tok} {Q : Fin → Shared → Prop} (FB : XBase B bmB) (X : XCls h C bm bmB newId) (hx : h.get? a = some o) (hc : o.cls = .ref C) (hq : Q (.done (.ret (.ref C))) ⟨h, g, d, t, os⟩) :
    wpAny (model prog w) A (Builtin.«object.__getattribute__» ⟨[.ref a, .str "__class__" tk], []⟩) Q E ⟨h, g, d, t, os⟩ := by
  have hT5 : (⟨h, g, d, t, os⟩ : Shared).TypeIs (.builtin "object.__class__") "getset_descriptor" := F.typeOf_object_class
  have f5 := F.typeOf_object_class
  have f6 := F.slot_gs_get.lookup
  have f7 := F.slot_gs_set.lookup
  have hmA : ("__class__" : Str) ∈ xNames := .tail _ (.tail _ (.tail _ (.head _)))
  repeat (any_goals (first | assumption | (with_reducible refine wpAny_loadPart_at hx ?_; rw [hc]) | with_reducible refine typeLookup_x hmA X FB.mro FB.lkClass ?_ | wp_step))
  refine class_get_x FB X hx hc ?_
  repeat (any_goals (first | assumption | wp_step))
theorem class_call_x {tk : Tok} {R : Result → Shared → Prop} (FB : XBase B bmB) (X : XCls h C bm bmB newId) (hx : h.get? a = some o) (hc : o.cls = .ref C) (hq : R (.ok (.ret (.ref C))) ⟨h, g, d, t, os⟩) :
    codeAny (model prog w) A (.call (.builtin "BaseException.__getattribute__") ⟨[.ref a, .str "__class__" tk], []⟩) R ⟨h, g, d, t, os⟩ :=
  codeAny_call_builtin FB.ga.plain F.entry_bexc_ga (check_ga_x FB X hx hc (class_entry_x FB X hx hc hq))
theorem class_by_x {tk : Tok} {fill expr : Bool} {Q : Value → Shared → Prop} (FB : XBase B bmB) (X : XCls h C bm bmB newId) (hx : h.get? a = some o) (hc : o.cls = .ref C) (hq : Q (.ref C) ⟨h, g, d, t, os⟩) :
    wpAny (model prog w) A (getAttrBy (.ref a) (.str "__class__" tk) fill expr) Q E ⟨h, g, d, t, os⟩ := by
  have f3 := FB.ga.bind (.ref a)
  have hx0 : (expr && onTheHeap (Value.builtin "BaseException.__getattribute__")) = false := by cases expr <;> rfl
  have hx2 : (Value.builtin "BaseException.__getattribute__" == Value.builtin "object.__getattribute__") = false := by decide +kernel
  have hx1 : (onTheHeap (Value.ref C) && Value.builtin "BaseException.__getattribute__" == Value.builtin "object.__getattribute__") = false := by rw [hx2]; rfl
  have hm1 : ("__getattribute__" : Str) ∈ xNames := .tail _ (.head _)
  have hm2 : ("__getattr__" : Str) ∈ xNames := .tail _ (.tail _ (.head _))
  repeat (any_goals (first | assumption | (with_reducible refine wpAny_loadPart_at hx ?_; rw [hc]) | with_reducible refine typeLookup_x hm1 X FB.mro FB.ga.lookup ?_ | with_reducible refine typeLookup_x hm2 X FB.mro FB.noGetattr ?_ | wp_step))
  refine class_call_x FB X hx hc ?_
  repeat (any_goals (first | assumption | wp_step))
theorem class_attr_x {Q : Option Value → Shared → Prop} (FB : XBase B bmB) (X : XCls h C bm bmB newId) (hx : h.get? a = some o) (hc : o.cls = .ref C) (hq : Q (some (.ref C)) ⟨h, g, d, t + 1, os⟩) :
    wpAny (model prog w) A (getAttr? (.ref a) "__class__") Q E ⟨h, g, d, t, os⟩ := by
  unfold getAttr? getAttrBy?
  repeat (any_goals (first | assumption | with_reducible apply class_by_x FB X hx hc | wp_step))
end
end BP

set_option maxRecDepth 100000
namespace BP
open PySem
section
variable {prog : Program} {w : World} {A : Around} {E : Value → Shared → Prop} {h : Heap} {g : Array GenState} {d : Drawn} {t : Nat} {os : OsState} {a C D : Addr} {o : Obj} {bm bmB bmD : List Value} {newId newD B : String}
theorem XCls.obj (X : XCls h C bm bmB newId) : ∃ o, h.get? C = some o ∧ o.cls = .type "type" ∧ ∃ cd, o.data = .cls cd := by
  obtain ⟨N, nm, q, bs, hdct, sn, sub, ab, col, dd, k0, k1, k2, k3, k5, mN, hC, hN, hmN, T⟩ := X
  exact ⟨_, hC, rfl, _, rfl⟩
theorem nested_x_type_yes {T : String} {dep : Int} {tk : Tok} {Q : Fin → Shared → Prop} (X : XCls h C bm bmB newId) (hx : h.get? a = some o) (hc : o.cls = .ref C)
    (hty : typeOf (.type T) = pure (.type "type")) (hsub : (Value.ref C :: bm).contains (.type T) = true) (hq : Q (.done (.ret (.bool true))) ⟨h, g, d, t, os⟩) :
    wpAny (model prog w) A (Builtin.«isinstance.nested» ⟨[.ref a, .type T, .int dep tk], []⟩) Q E ⟨h, g, d, t, os⟩ := by
  have hne : (Value.ref C == Value.type T) = false := by simp
  repeat (any_goals (first | assumption | (with_reducible refine wpAny_loadPart_at hx ?_; rw [hc]) | (with_reducible refine isSubtype_x X ?_; rw [hsub]) | wp_step))
theorem nested_x_own_no {dep : Int} {tk : Tok} {Q : Fin → Shared → Prop} (FB : XBase B bmB) (X : XCls h C bm bmB newId) (XD : XCls h D bmD bmB newD) (hx : h.get? a = some o) (hc : o.cls = .ref C)
    (hsub : (Value.ref C :: bm).contains (.ref D) = false) (hq : Q (.done (.ret (.bool false))) ⟨h, g, d, t + 1, os⟩) :
    wpAny (model prog w) A (Builtin.«isinstance.nested» ⟨[.ref a, .ref D, .int dep tk], []⟩) Q E ⟨h, g, d, t, os⟩ := by
  have hne : (Value.ref C == Value.ref D) = false := by
    rw [List.contains_cons] at hsub
    have h1 := (Bool.or_eq_false_iff.mp hsub).1
    rw [beq_eq_false_iff_ne] at h1 ⊢
    exact fun e => h1 e.symm
  obtain ⟨oC, hC, hCc, cdC, hCd⟩ := X.obj
  obtain ⟨oD, hD, hDc, cdD, hDd⟩ := XD.obj
  have hTD : (⟨h, g, d, t, os⟩ : Shared).TypeIs (.ref D) "type" := ⟨_, hD, hDc⟩
  repeat (any_goals (first | assumption | (with_reducible refine wpAny_loadPart_at hx ?_; rw [hc]) | (with_reducible refine isSubtype_x X ?_; rw [hsub]) | with_reducible apply class_attr_x FB X hx hc | (with_reducible refine wpAny_loadPart_at hC ?_; rw [hCd]) | (with_reducible refine wpAny_loadPart_at hD ?_; first | rw [hDd] | rw [hDc]) | wp_step))
theorem nested_x_own_yes {dep : Int} {tk : Tok} {Q : Fin → Shared → Prop} (X : XCls h C bm bmB newId) (XD : XCls h D bmD bmB newD) (hx : h.get? a = some o) (hc : o.cls = .ref C)
    (hsub : (Value.ref C :: bm).contains (.ref D) = true) (hq : Q (.done (.ret (.bool true))) ⟨h, g, d, t, os⟩) :
    wpAny (model prog w) A (Builtin.«isinstance.nested» ⟨[.ref a, .ref D, .int dep tk], []⟩) Q E ⟨h, g, d, t, os⟩ := by
  obtain ⟨oD, hD, hDc, cdD, hDd⟩ := XD.obj
  have hTD : (⟨h, g, d, t, os⟩ : Shared).TypeIs (.ref D) "type" := ⟨_, hD, hDc⟩
  by_cases he : C = D
  · subst he
    have hne : (Value.ref C == Value.ref C) = true := by simp
    repeat (any_goals (first | assumption | (with_reducible refine wpAny_loadPart_at hx ?_; rw [hc]) | wp_step))
  · have hne : (Value.ref C == Value.ref D) = false := by simpa using he
    repeat (any_goals (first | assumption | (with_reducible refine wpAny_loadPart_at hx ?_; rw [hc]) | (with_reducible refine isSubtype_x X ?_; rw [hsub]) | (with_reducible refine wpAny_loadPart_at hD ?_; first | rw [hDd] | rw [hDc]) | wp_step))
theorem excMatches_x {M : Model} {Q : Bool → Shared → Prop} (FB : XBase B bmB) (X : XCls h C bm bmB newId) (XD : XCls h D bmD bmB newD) (hx : h.get? a = some o) (hc : o.cls = .ref C)
    (hq : Q ((Value.ref C :: bm).contains (.ref D)) ⟨h, g, d, t, os⟩) : wpAny M A (excMatches (.ref a) (.ref D)) Q E ⟨h, g, d, t, os⟩ := by
  have hDB : (Value.ref D :: bmD).contains (.type "BaseException") = true := by
    obtain ⟨N, nm, q, bs, hdct, sn, sub, ab, col, dd, k0, k1, k2, k3, k5, mN, hC, hN, hmN, T⟩ := XD
    rw [List.contains_cons, T.tail.hasType FB.hasBase]; rfl
  obtain ⟨oD, hD, hDc, cdD, hDd⟩ := XD.obj
  have f := tc_notTuple
  unfold excMatches
  repeat (first | (with_reducible refine wpAny_loadPart_at hx ?_; rw [hc]) | (with_reducible refine wpAny_loadPart_at hD ?_; first | rw [hDd] | rw [hDc]) | (with_reducible refine isSubtype_x XD ?_; rw [hDB]) | (with_reducible refine isSubtype_x X ?_) | wp_step)
  cases hb : (Value.ref C :: bm).contains (.ref D) <;> (rw [hb] at hq; wp_walk; exact hq)
end
end BP

namespace BP
open PySem
inductive Val where
  | none | bool (b : Bool) | int (i : Int) | str (s : List Nat) | ref (a : Nat)
  deriving DecidableEq
inductive Ob where
  | list (xs : List Val)
  | tup (xs : List Val)
  | range (lo hi : Int)
  | ro (xs : List Val)
  | exc (c : String)
  | inst (cls : String) (dx : Nat)
  | attrs (fs : List (String × Val))
  | idict (ep : Nat) (es : List (Int × Val))
  | tdict (ep : Nat) (es : List (List Int × Nat × Val))
noncomputable def Ob.isRo : Ob → Bool
  | .ro _ => true
  | _ => false
abbrev Sto := Nat → Option Ob
noncomputable def Sto.set (σ : Sto) (a : Nat) (o : Ob) : Sto := fun x => if x = a then some o else σ x
abbrev Loc := String → Option Val
noncomputable def upd (ρ : Loc) (x : String) (v : Val) : Loc := fun y => if y = x then some v else ρ y
inductive Dat where
  | none | bool (b : Bool) | int (i : Int) | list (ds : List Dat) | tup (ds : List Dat)
mutual
noncomputable def Has (σ : Sto) : Dat → Val → Prop
  | .none, v => v = .none
  | .bool b, v => v = .bool b
  | .int i, v => v = .int i
  | .list ds, v => ∃ a xs, v = .ref a ∧ σ a = some (.list xs) ∧ HasL σ ds xs
  | .tup ds, v => ∃ a xs, v = .ref a ∧ σ a = some (.tup xs) ∧ HasL σ ds xs
noncomputable def HasL (σ : Sto) : List Dat → List Val → Prop
  | [], xs => xs = []
  | d :: ds, xs => ∃ y ys, xs = y :: ys ∧ Has σ d y ∧ HasL σ ds ys
end
mutual
noncomputable def pyEq : Dat → Dat → Bool
  | .none, e => (match e with | .none => true | _ => false)
  | .bool a, e => (match e with | .bool b => a == b | .int b => (if a then 1 else 0) == b | _ => false)
  | .int a, e => (match e with | .int b => a == b | .bool b => a == (if b then 1 else 0) | _ => false)
  | .list a, e => (match e with | .list b => pyEqL a b | _ => false)
  | .tup a, e => (match e with | .tup b => pyEqL a b | _ => false)
noncomputable def pyEqL : List Dat → List Dat → Bool
  | [], bs => bs.isEmpty
  | a :: as, bs => (match bs with | b :: bs => pyEq a b && pyEqL as bs | [] => false)
end
noncomputable def dOk : Nat → Dat → Bool
  | _, .none => true
  | _, .bool _ => true
  | _, .int _ => true
  | 0, _ => false
  | n + 1, .list ds => ds.all (dOk n)
  | n + 1, .tup ds => ds.all (dOk n)
set_option genSizeOf false in
set_option genInjectivity false in
inductive BI where
  | len | all | list | range | min | max | int | sorted
set_option genSizeOf false in
set_option genInjectivity false in
inductive ME where
  | append | clear | extend
set_option genSizeOf false in
set_option genInjectivity false in
inductive Ty where
  | list | int | bool | tuple | own (d : String) | valueError
set_option genSizeOf false in
set_option genInjectivity false in
inductive OpB where
  | add | sub | mul | fdiv | mod
set_option genSizeOf false in
set_option genInjectivity false in
inductive OpC where
  | eq | ne | lt | le | gt | ge | is_ | isNot | isIn | notIn
set_option genSizeOf false in
set_option genInjectivity false in
inductive Ex where
  | none_ | bool_ (b : Bool) | int_ (i : Int) | str_ (s : String) | dict0
  | var (x : String)
  | glob (x : String)
  | bin (op : OpB) (l r : Ex)
  | not_ (e : Ex)
  | ite (c t f : Ex)
  | neg (e : Ex)
  | bop (h : Bool) (es : List Ex)
  | cmp (op : OpC) (l r : Ex)
  | cmp2 (op op' : OpC) (l m r : Ex)
  | list (es : List Ex)
  | tup (es : List Ex)
  | call (f : String) (as : List Ex)
  | bcall (f : BI) (as : List Ex)
  | isi (e : Ex) (t : Ty)
  | meth (o : Ex) (m : ME) (as : List Ex)
  | sub (o i : Ex)
  | slice (o lo hi : Ex)
  | attr (o : Ex) (a : String)
  | comp (elt : Ex) (k : Nat) (xs : List String) (it : Ex) (ifs : List Ex)
set_option genSizeOf false in
set_option genInjectivity false in
inductive St where
  | assign (x : String) (e : Ex)
  | assignT (xs : List String) (e : Ex)
  | assignSub (o i e : Ex)
  | assignAttr (o : Ex) (a : String) (e : Ex)
  | expr (e : Ex)
  | ret (e : Ex)
  | if_ (c : Ex) (t e : List St)
  | for_ (k : Nat) (xs : List String) (it : Ex) (body : List St)
  | try_ (body : List St) (cls x : String) (h : List St)
  | raise (cls msg : String)
inductive Fl where
  | next | ret (v : Val)
abbrev KV := Val → Sto → Prop
noncomputable def lim : Nat := 1000000
noncomputable def sLim : Nat := 10000000
noncomputable def truthyO (o : Option Ob) (K : Bool → Prop) : Prop := match o with
  | some (.list xs) => K (!xs.isEmpty)
  | some (.tup xs) => K (!xs.isEmpty)
  | _ => False
noncomputable def truthyW (σ : Sto) (v : Val) (K : Bool → Prop) : Prop :=
  match v with
  | .none => K false
  | .bool b => K b
  | .int i => K (decide (i ≠ 0))
  | .str _ => False
  | .ref a => truthyO (σ a) K
noncomputable def newW (σ : Sto) (o : Ob) (Q : KV) : Prop := ∀ a, σ a = none → Q (.ref a) (σ.set a o)
noncomputable def int2 (a b : Val) (K : Int → Int → Prop) : Prop := match a with
  | .int i => match b with | .int j => K i j | _ => False
  | _ => False
noncomputable def ref1 (vs : List Val) (K : Nat → Prop) : Prop := match vs with
  | [] => False
  | v :: r => match r with | [] => (match v with | .ref a => K a | _ => False) | _ => False
noncomputable def onI (i : Val) (K : Int → Prop) : Prop := match i with | .int k => K k | _ => False
noncomputable def onT (i : Val) (K : List Nat → Prop) : Prop := match i with | .str k => K k | _ => False
noncomputable def onS1 {α : Type} (o : Option α) (K : α → Prop) : Prop := match o with | some x => K x | none => False
noncomputable def onL (o : Option Ob) (K : List Val → Prop) : Prop := match o with
  | some (.list xs) => K xs
  | _ => False
theorem int2_inv {a b : Val} {K : Int → Int → Prop} (h : int2 a b K) : ∃ i j, a = .int i ∧ b = .int j ∧ K i j := by
  cases a with
  | int i => cases b with
    | int j => exact ⟨i, j, rfl, rfl, h⟩
    | none => exact h.elim
    | bool _ => exact h.elim
    | str _ => exact h.elim
    | ref _ => exact h.elim
  | none => exact h.elim
  | bool _ => exact h.elim
  | str _ => exact h.elim
  | ref _ => exact h.elim
theorem ref1_inv {vs : List Val} {K : Nat → Prop} (h : ref1 vs K) : ∃ a, vs = [.ref a] ∧ K a := by
  cases vs with
  | nil => exact h.elim
  | cons v r => cases r with
    | cons _ _ => exact h.elim
    | nil => cases v with
      | ref a => exact ⟨a, rfl, h⟩
      | none => exact h.elim
      | bool _ => exact h.elim
      | int _ => exact h.elim
      | str _ => exact h.elim
theorem onL_inv {o : Option Ob} {K : List Val → Prop} (h : onL o K) : ∃ xs, o = some (.list xs) ∧ K xs := by
  cases o with
  | none => exact h.elim
  | some o => cases o <;> first | exact h.elim | exact ⟨_, rfl, h⟩
theorem onI_inv {i : Val} {K : Int → Prop} (h : onI i K) : ∃ k, i = .int k ∧ K k := by
  cases i with
  | int k => exact ⟨k, rfl, h⟩
  | none => exact h.elim
  | bool _ => exact h.elim
  | str _ => exact h.elim
  | ref _ => exact h.elim
theorem onS1_inv {α : Type} {o : Option α} {K : α → Prop} (h : onS1 o K) : ∃ x, o = some x ∧ K x := by
  cases o with
  | none => exact h.elim
  | some x => exact ⟨x, rfl, h⟩
@[simp] theorem onL_list (xs : List Val) (K : List Val → Prop) : onL (some (.list xs)) K = K xs := rfl
@[simp] theorem ref1_ref (a : Nat) (K : Nat → Prop) : ref1 [.ref a] K = K a := rfl
@[simp] theorem int2_int (i j : Int) (K : Int → Int → Prop) : int2 (.int i) (.int j) K = K i j := rfl
noncomputable def rep {α : Type} (xs : List α) : Nat → List α
  | 0 => []
  | n + 1 => xs ++ rep xs n
noncomputable def binW (op : OpB) (a b : Val) (σ : Sto) (Q : KV) : Prop :=
  match op with
  | .add => match a with
    | .int i => match b with | .int j => Q (.int (i + j)) σ | _ => False
    | .str x => match b with | .str y => x.length + y.length ≤ sLim ∧ Q (.str (x ++ y)) σ | _ => False
    | .ref x => match b with
      | .ref y => onL (σ x) fun xs => onL (σ y) fun ys => xs.length + ys.length ≤ lim ∧ newW σ (.list (xs ++ ys)) Q
      | _ => False
    | _ => False
  | .sub => int2 a b fun i j => Q (.int (i - j)) σ
  | .mul => match a with
    | .int i => match b with | .int j => ((-lim ≤ i ∧ i ≤ lim) ∨ (-lim ≤ j ∧ j ≤ lim)) ∧ Q (.int (i * j)) σ | _ => False
    | .str x => onI b fun n => 0 ≤ n ∧ n ≤ 1000 ∧ x.length ≤ 1000 ∧ Q (.str (rep x n.toNat)) σ
    | _ => False
  | .fdiv => int2 a b fun i j => 0 < j ∧ j ≤ lim ∧ Q (.int (i / j)) σ
  | .mod => int2 a b fun i j => 0 < j ∧ j ≤ lim ∧ Q (.int (i % j)) σ
noncomputable def isW (v w : Val) (K : Bool → Prop) : Prop :=
  match v, w with
  | v, .none => K (decide (v = .none))
  | v, .bool b => K (decide (v = .bool b))
  | _, _ => False
noncomputable def keyW (σ : Sto) (v : Val) (K : Nat → List Int → Prop) : Prop := ∃ t k, v = .ref t ∧ σ t = some (.tup (k.map .int)) ∧ K t k
noncomputable def keysIn (σ : Sto) (es : List (List Int × Nat × Val)) : Prop := ∀ e ∈ es, σ e.2.1 = some (.tup (e.1.map .int))
noncomputable def tget (es : List (List Int × Nat × Val)) (k : List Int) : Option Val := (es.find? fun e => decide (e.1 = k)).map (·.2.2)
noncomputable def tput (es : List (List Int × Nat × Val)) (k : List Int) (a : Nat) (x : Val) : List (List Int × Nat × Val) :=
  match tget es k with
  | some _ => es.map fun e => if e.1 = k then (e.1, e.2.1, x) else e
  | none => es ++ [(k, a, x)]
noncomputable def dget (es : List (Int × Val)) (k : Int) : Option Val := (es.find? fun e => decide (e.1 = k)).map (·.2)
noncomputable def dput (es : List (Int × Val)) (k : Int) (x : Val) : List (Int × Val) := match dget es k with
  | some _ => es.map fun e => if e.1 = k then (e.1, x) else e
  | none => es ++ [(k, x)]
noncomputable def inW (v w : Val) (σ : Sto) (K : Bool → Prop) : Prop :=
  match w with
  | .ref a => match σ a with
    | some (.list xs) => ∃ d ds, Has σ d v ∧ HasL σ ds xs ∧ dOk 9 d = true ∧ ds.all (dOk 9) = true ∧ K (ds.any fun y => pyEq y d)
    | some (.idict _ es) => onI v fun k => K (dget es k).isSome
    | _ => False
  | _ => False
noncomputable def eqW (v w : Val) (σ : Sto) (Q : Bool → Prop) : Prop := (∃ x y, v = .str x ∧ w = .str y ∧ Q (decide (x = y))) ∨ ∃ d e, Has σ d v ∧ Has σ e w ∧ dOk 9 d = true ∧ dOk 9 e = true ∧ Q (pyEq d e)
noncomputable def neLen (v w : Val) (σ : Sto) (P : Prop) : Prop := ∃ a b xs ys, v = .ref a ∧ w = .ref b ∧ σ a = some (.list xs) ∧ σ b = some (.list ys) ∧ xs.length ≠ ys.length ∧ P
noncomputable def cmpW (op : OpC) (v w : Val) (σ : Sto) (Q : Bool → Prop) : Prop :=
  match op with
  | .eq => eqW v w σ Q
  | .ne => (eqW v w σ fun b => Q (!b)) ∨ neLen v w σ (Q true)
  | .lt => int2 v w fun i j => Q (decide (i < j))
  | .le => int2 v w fun i j => Q (decide (i ≤ j))
  | .gt => int2 v w fun i j => Q (decide (i > j))
  | .ge => int2 v w fun i j => Q (decide (i ≥ j))
  | .is_ => isW v w Q
  | .isNot => isW v w fun b => Q (!b)
  | .isIn => inW v w σ Q
  | .notIn => inW v w σ fun b => Q (!b)
noncomputable def getPos {α : Type} (xs : List α) (k : Int) : Option α := if 0 ≤ k then xs[k.toNat]? else if 0 ≤ k + xs.length then xs[(k + xs.length).toNat]? else none
noncomputable def subO (o : Option Ob) (i : Val) (σ : Sto) (Q : KV) : Prop := match o with
  | some (.list xs) => onI i fun k => onS1 (getPos xs k) fun x => Q x σ
  | some (.tup xs) => onI i fun k => 0 ≤ k ∧ onS1 (getPos xs k) fun x => Q x σ
  | some (.idict _ es) => onI i fun k => onS1 (dget es k) fun x => Q x σ
  | some (.tdict _ es) => keysIn σ es ∧ keyW σ i fun o' k => onS1 (tget es k) fun x => Q x σ
  | _ => False
noncomputable def subW (v i : Val) (σ : Sto) (Q : KV) : Prop :=
  match v with
  | .ref a => subO (σ a) i σ Q
  | _ => False
noncomputable def setSubO (o : Option Ob) (a : Nat) (i x : Val) (σ : Sto) (K : Sto → Prop) : Prop := match o with
  | some (.list xs) => onI i fun k => 0 ≤ k ∧ k < xs.length ∧ K (σ.set a (.list (xs.set k.toNat x)))
  | some (.idict _ es) => onI i fun k => es.length ≤ lim ∧ ∀ ep, K (σ.set a (.idict ep (dput es k x)))
  | some (.tdict _ es) => keysIn σ es ∧ es.length ≤ lim ∧ keyW σ i fun t k => ∀ ep, K (σ.set a (.tdict ep (tput es k t x)))
  | _ => False
noncomputable def setSubW (v i x : Val) (σ : Sto) (K : Sto → Prop) : Prop :=
  match v with
  | .ref a => setSubO (σ a) a i x σ K
  | _ => False
noncomputable def bnd (n : Nat) (dflt : Nat) : Val → Option Nat
  | .none => some dflt
  | .int i => some (max 0 (min (if i < 0 then i + n else i) n)).toNat
  | _ => none
noncomputable def cut {α : Type} (xs : List α) (i j : Nat) : List α := (xs.drop i).take (j - i)
noncomputable def slicedW {α : Type} (xs : List α) (lo hi : Val) (K : List α → Prop) : Prop := onS1 (bnd xs.length 0 lo) fun i => onS1 (bnd xs.length xs.length hi) fun j => K (cut xs i j)
noncomputable def listOr (σ : Sto) (a : Nat) : Option (List Val) :=
  match σ a with
  | some (.list xs) => some xs
  | some (.ro xs) => some xs
  | _ => none
noncomputable def sliceW (v lo hi : Val) (σ : Sto) (Q : KV) : Prop :=
  match v with
  | .ref a => match σ a with
    | some (.tup xs) => lo = .none ∧ onI hi fun k => 0 ≤ k ∧ k < xs.length ∧ newW σ (.tup (xs.take k.toNat)) Q
    | _ => match listOr σ a with
      | some xs => slicedW xs lo hi fun ys => newW σ (.list ys) Q
      | none => False
  | _ => False
noncomputable def excSub (c d : String) : Bool := c == d || d == "HouseError"
noncomputable def Ty.isB : Ty → Bool | .bool => true | .int => true | _ => false
noncomputable def Ty.isI : Ty → Bool | .int => true | _ => false
noncomputable def Ty.isL : Ty → Bool | .list => true | _ => false
noncomputable def Ty.isT : Ty → Bool | .tuple => true | _ => false
noncomputable def isiW (v : Val) (t : Ty) (σ : Sto) (K : Bool → Prop) : Prop :=
  match v with
  | .none => K false
  | .bool _ => K t.isB
  | .int _ => K t.isI
  | .str _ => False
  | .ref a => match σ a with
    | some (.list _) => K t.isL
    | some (.tup _) => K t.isT
    | _ => False
noncomputable def irange (lo hi : Int) : List Int := (List.range (hi - lo).toNat).map fun i : Nat => lo + (i : Int)
noncomputable def itemsO (o : Option Ob) : Option (List Val) := match o with
  | some (.list xs) => some xs
  | some (.tup xs) => some xs
  | some (.range lo hi) => some ((irange lo hi).map .int)
  | some (.idict _ es) => some (es.map fun e => .int e.1)
  | _ => none
noncomputable def itemsOf (σ : Sto) (v : Val) : Option (List Val) :=
  match v with
  | .ref a => itemsO (σ a)
  | _ => none
noncomputable def pairV (σ : Sto) (v : Val) : Option (List Val) := match v with
  | .ref t => match σ t with
    | some (.tup xs) => if xs.length = 2 then some xs else none
    | _ => none
  | _ => none
noncomputable def pairsV (σ : Sto) : List Val → Option (List (List Val))
  | [] => some []
  | v :: vs => (pairV σ v).bind fun p => (pairsV σ vs).map (p :: ·)
noncomputable def listV (σ : Sto) (v : Val) : Option (List Val) := match v with
  | .ref a => match σ a with | some (.list xs) => some xs | _ => none
  | _ => none
noncomputable def enumV : Nat → List Val → List (List Val)
  | _, [] => []
  | k, x :: xs => [.int k, x] :: enumV (k + 1) xs
noncomputable def revV (σ : Sto) (v : Val) : Option (List Val) := match v with
  | .ref a => match σ a with | some (.range lo hi) => some ((irange lo hi).reverse.map .int) | _ => none
  | _ => none
noncomputable def turnsOf (σ : Sto) (v : Val) (k : Nat) : Option (List (List Val)) :=
  if k = 1 then (itemsOf σ v).map (List.map fun x => [x]) else if k = 4 then (revV σ v).map (List.map fun x => [x]) else if k = 2 then (listV σ v).map (enumV 0) else (itemsOf σ v).bind (pairsV σ)
noncomputable def stay (σ₁ : Sto) (v : Val) (k : Nat) (turns : List (List Val)) (σ' : Sto) : Prop := (∀ a, v = .ref a → σ' a = σ₁ a) ∧ turnsOf σ' v k = some turns
noncomputable def bindT (xs : List String) (vs : List Val) (ρ : Loc) : Loc :=
  match xs, vs with
  | x :: xs, v :: vs => bindT xs vs (upd ρ x v)
  | _, _ => ρ
noncomputable def wpFor (B : Loc → Sto → (Fl → Loc → Sto → Prop) → Prop) (it : Sto → Prop) (xs : List String) :
    List (List Val) → Loc → Sto → (Fl → Loc → Sto → Prop) → Prop
  | [], ρ, σ, Q => it σ ∧ Q .next ρ σ
  | vs :: r, ρ, σ, Q => it σ ∧ B (bindT xs vs ρ) σ fun fl ρ' σ' => match fl with
    | .next => wpFor B it xs r ρ' σ' Q
    | .ret v => Q (.ret v) ρ' σ'
noncomputable def wpComp (C : Loc → Sto → (Bool → Sto → Prop) → Prop) (B : Loc → Sto → KV → Prop) (it : Sto → Prop) (xs : List String) :
    List (List Val) → List Val → Loc → Sto → (List Val → Sto → Prop) → Prop
  | [], acc, _, σ, K => it σ ∧ K acc σ
  | vs :: r, acc, ρ, σ, K => it σ ∧ C (bindT xs vs ρ) σ fun b σ₁ =>
    if b = true then B (bindT xs vs ρ) σ₁ fun y σ₂ => wpComp C B it xs r (acc ++ [y]) ρ σ₂ K
    else wpComp C B it xs r acc ρ σ₁ K
noncomputable def sort2W (xs : List Val) (σ : Sto) (Q : KV) : Prop := (∃ i j, xs = [.int i, .int j] ∧ newW σ (.list (if j < i then [.int j, .int i] else [.int i, .int j])) Q) ∨
  ∃ t u i m j n, xs = [.ref t, .ref u] ∧ σ t = some (.tup [.int i, .int m]) ∧ σ u = some (.tup [.int j, .int n]) ∧ i ≠ j ∧ newW σ (.list (if j < i then [.ref u, .ref t] else [.ref t, .ref u])) Q
noncomputable def bcallW (f : BI) (vs : List Val) (σ : Sto) (Q : KV) : Prop :=
  match f with
  | .len => ref1 vs fun a => match σ a with
    | some (.list xs) => Q (.int xs.length) σ
    | some (.tup xs) => Q (.int xs.length) σ
    | _ => False
  | .all => ref1 vs fun a => onL (σ a) fun xs => ∃ bs : List Bool, xs = bs.map .bool ∧ Q (.bool (bs.all id)) σ
  | .list => ref1 vs fun a => onL (σ a) fun xs => newW σ (.list xs) Q
  | .range => match vs with
    | v :: r => match r with
      | [] => onI v fun n => -lim ≤ n ∧ n ≤ lim ∧ newW σ (.range 0 n) Q
      | w :: r => (match r with | [] => int2 v w fun m n => -lim ≤ m ∧ m ≤ lim ∧ -lim ≤ n ∧ n ≤ lim ∧ newW σ (.range m n) Q | _ => False)
    | _ => False
  | .min => match vs with
    | v :: r => match r with
      | w :: r => (match r with | [] => int2 v w fun a b => Q (.int (min a b)) σ | _ => False)
      | [] => False
    | _ => False
  | .max => match vs with
    | v :: r => match r with
      | w :: r => (match r with | [] => int2 v w fun a b => Q (.int (max a b)) σ | _ => False)
      | [] => ref1 [v] fun a => onL (σ a) fun xs => ∃ ns : List Int, xs = ns.map .int ∧ ns ≠ [] ∧ ∀ m ∈ ns, (∀ x ∈ ns, x ≤ m) → Q (.int m) σ
    | _ => False
  | .int => match vs with
    | v :: r => match r with
      | [] => (match v with | .bool b => Q (.int (if b then 1 else 0)) σ | _ => False)
      | _ => False
    | _ => False
  | .sorted => ref1 vs fun a => onL (σ a) fun xs => sort2W xs σ Q
noncomputable def methW (m : ME) (o : Val) (vs : List Val) (σ : Sto) (Q : KV) : Prop :=
  match o with
  | .ref a => onL (σ a) fun xs => match m with
    | .append => (match vs with
      | x :: r => match r with | [] => xs.length < lim ∧ Q .none (σ.set a (.list (xs ++ [x]))) | _ => False
      | _ => False)
    | .clear => vs = [] ∧ Q .none (σ.set a (.list []))
    | .extend => ref1 vs fun b => onL (σ b) fun ys => xs.length + ys.length ≤ lim ∧ Q .none (σ.set a (.list (xs ++ ys)))
  | _ => False
noncomputable def methOn (v : Val) (σ : Sto) : Prop := ∃ a xs, v = .ref a ∧ σ a = some (.list xs)
noncomputable def attrNames : List String := ["looks", "deeds", "wished"]
noncomputable def attrW (v : Val) (x : String) (σ : Sto) (Q : KV) : Prop :=
  x ∈ attrNames ∧ match v with
  | .ref a => match σ a with
    | some (.inst _ dx) => match σ dx with
      | some (.attrs fs) => match fs.lookup x with | some y => Q y σ | none => False
      | _ => False
    | _ => False
  | _ => False
noncomputable def setAttrW (v : Val) (n : String) (x : Val) (σ : Sto) (K : Sto → Prop) : Prop :=
  n ∈ attrNames ∧ match v with
  | .ref a => match σ a with
    | some (.inst _ dx) => match σ dx with
      | some (.attrs fs) => (fs.lookup n = none) ∧ fs.length < 100 ∧ K (σ.set dx (.attrs (fs ++ [(n, x)])))
      | _ => False
    | _ => False
  | _ => False
noncomputable def seqV (σ : Sto) (v : Val) : Option (List Val) := match v with
  | .ref a => match σ a with | some (.tup xs) => some xs | some (.list xs) => some xs | _ => none
  | _ => none
structure Glo where
  gv : String → Option Val
  cf : String → Bool
  ex : String → Bool
  hd : Bool
  err : String → Sto → Prop
noncomputable def Glo.withErr (g : Glo) (e : String → Sto → Prop) : Glo := { g with err := e }
noncomputable def Glo.inHd (g : Glo) : Glo := { g with hd := true, err := fun o' o' => False }
abbrev CallW := Bool → String → List Val → Sto → KV → (String → Sto → Prop) → Prop
noncomputable def isxW (v : Val) (σ : Sto) (f : String → Bool) (K : Bool → Prop) : Prop :=
  match v with
  | .ref a => match σ a with
    | some (.exc c) => K (f c)
    | _ => False
  | _ => False
noncomputable def isiAny (gv : Glo) (v : Val) (t : Ty) (σ : Sto) (K : Bool → Prop) : Prop :=
  match t with
  | .own d => gv.ex d = true ∧ isxW v σ (fun c => excSub c d) K
  | .valueError => isxW v σ (fun o' => true) K
  | t => isiW v t σ K
mutual
noncomputable def wpE (F : CallW) (gv : Glo) : Ex → Loc → Sto → KV → Prop
  | .none_, _, σ, Q => Q .none σ
  | .bool_ b, _, σ, Q => Q (.bool b) σ
  | .int_ i, _, σ, Q => Q (.int i) σ
  | .str_ s, _, σ, Q => s.length ≤ 1000 ∧ Q (.str (Str.ofString s).cps.toList) σ
  | .dict0, _, σ, Q => newW σ (.idict 0 []) Q ∨ newW σ (.tdict 0 []) Q
  | .var x, ρ, σ, Q => ∃ v, ρ x = some v ∧ Q v σ
  | .glob x, _, σ, Q => ∃ v, gv.gv x = some v ∧ Q v σ
  | .bin op l r, ρ, σ, Q => wpE F gv l ρ σ fun a σ₁ => wpE F gv r ρ σ₁ fun b σ₂ => binW op a b σ₂ Q
  | .not_ e, ρ, σ, Q => wpE F gv e ρ σ fun v σ₁ => truthyW σ₁ v fun b => Q (.bool (!b)) σ₁
  | .ite c t f, ρ, σ, Q => wpE F gv c ρ σ fun v σ₁ => truthyW σ₁ v fun b => if b = true then wpE F gv t ρ σ₁ Q else wpE F gv f ρ σ₁ Q
  | .neg e, ρ, σ, Q => wpE F gv e ρ σ fun v σ₁ => onI v fun i => Q (.int (-i)) σ₁
  | .bop h es, ρ, σ, Q => wpB F gv h es ρ σ Q
  | .cmp op l r, ρ, σ, Q => wpE F gv l ρ σ fun v σ₁ => wpE F gv r ρ σ₁ fun w σ₂ => cmpW op v w σ₂ fun b => Q (.bool b) σ₂
  | .cmp2 op op' l m r, ρ, σ, Q => wpE F gv l ρ σ fun v σ₁ => wpE F gv m ρ σ₁ fun w σ₂ => cmpW op v w σ₂ fun b => if b = true then wpE F gv r ρ σ₂ fun u σ₃ => cmpW op' w u σ₃ fun b => Q (.bool b) σ₃ else Q (.bool b) σ₂
  | .list es, ρ, σ, Q => wpEs F gv es ρ σ fun vs σ₁ => vs.length ≤ lim ∧ newW σ₁ (.list vs) Q
  | .tup es, ρ, σ, Q => wpEs F gv es ρ σ fun vs σ₁ => vs.length ≤ lim ∧ newW σ₁ (.tup vs) Q
  | .call f as, ρ, σ, Q => gv.cf f = true ∧ wpEs F gv as ρ σ fun vs σ₁ => F gv.hd f vs σ₁ Q gv.err
  | .bcall f as, ρ, σ, Q => wpEs F gv as ρ σ fun vs σ₁ => (gv.hd = false ∨ f = .int) ∧ bcallW f vs σ₁ Q
  | .isi e t, ρ, σ, Q => wpE F gv e ρ σ fun v σ₁ => isiAny gv v t σ₁ fun b => Q (.bool b) σ₁
  | .meth o m as, ρ, σ, Q => wpE F gv o ρ σ fun v σ₁ => methOn v σ₁ ∧ wpEs F gv as ρ σ₁ fun vs σ₂ => methW m v vs σ₂ Q
  | .sub o i, ρ, σ, Q => wpE F gv o ρ σ fun v σ₁ => wpE F gv i ρ σ₁ fun k σ₂ => subW v k σ₂ Q
  | .slice o lo hi, ρ, σ, Q => wpE F gv o ρ σ fun v σ₁ => wpE F gv lo ρ σ₁ fun l σ₂ => wpE F gv hi ρ σ₂ fun u σ₃ => sliceW v l u σ₃ Q
  | .attr o a, ρ, σ, Q => wpE F gv o ρ σ fun v σ₁ => attrW v a σ₁ Q
  | .comp elt k xs it ifs, ρ, σ, Q => gv.hd = false ∧ wpE F gv it ρ σ fun v σ₁ => onS1 (turnsOf σ₁ v k) fun turns => turns.length ≤ lim ∧
      wpComp (fun ρ' σ' K => wpIfs F gv ifs ρ' σ' K) (fun ρ' σ' K => wpE F gv elt ρ' σ' K) (stay σ₁ v k turns) xs turns [] ρ σ₁ fun ys σ' => newW σ' (.list ys) Q
noncomputable def wpEs (F : CallW) (gv : Glo) : List Ex → Loc → Sto → (List Val → Sto → Prop) → Prop
  | [], _, σ, Q => Q [] σ
  | e :: es, ρ, σ, Q => wpE F gv e ρ σ fun v σ₁ => wpEs F gv es ρ σ₁ fun vs σ₂ => Q (v :: vs) σ₂
noncomputable def wpB (F : CallW) (gv : Glo) (h : Bool) : List Ex → Loc → Sto → KV → Prop
  | [], _, _, _ => False
  | [e], ρ, σ, Q => wpE F gv e ρ σ Q
  | e :: e' :: es, ρ, σ, Q => wpE F gv e ρ σ fun v σ₁ => truthyW σ₁ v fun b => if b = h then Q v σ₁ else wpB F gv h (e' :: es) ρ σ₁ Q
noncomputable def wpIfs (F : CallW) (gv : Glo) : List Ex → Loc → Sto → (Bool → Sto → Prop) → Prop
  | [], _, σ, K => K true σ
  | e :: es, ρ, σ, K => wpE F gv e ρ σ fun v σ₁ => truthyW σ₁ v fun b => if b = true then wpIfs F gv es ρ σ₁ K else K false σ₁
end
abbrev KS := Fl → Loc → Sto → Prop
noncomputable def thenW (K : Loc → Sto → Prop) (Q : KS) : KS := fun fl ρ' σ' => match fl with
  | .next => K ρ' σ'
  | .ret v => Q (.ret v) ρ' σ'
mutual
noncomputable def wpS (F : CallW) (gv : Glo) : St → Loc → Sto → KS → Prop
  | .assign x e, ρ, σ, Q => wpE F gv e ρ σ fun v σ₁ => Q .next (upd ρ x v) σ₁
  | .assignT xs e, ρ, σ, Q => gv.hd = false ∧ wpE F gv e ρ σ fun v σ₁ => onS1 (seqV σ₁ v) fun vs => vs.length = xs.length ∧ Q .next (bindT xs vs ρ) σ₁
  | .assignAttr o a e, ρ, σ, Q => wpE F gv e ρ σ fun x σ₁ => wpE F gv o ρ σ₁ fun v σ₂ => setAttrW v a x σ₂ fun σ₃ => Q .next ρ σ₃
  | .assignSub o i e, ρ, σ, Q => wpE F gv e ρ σ fun x σ₁ => wpE F gv o ρ σ₁ fun v σ₂ => wpE F gv i ρ σ₂ fun k σ₃ => setSubW v k x σ₃ fun σ₄ => Q .next ρ σ₄
  | .expr e, ρ, σ, Q => wpE F gv e ρ σ fun o' σ₁ => Q .next ρ σ₁
  | .ret e, ρ, σ, Q => wpE F gv e ρ σ fun v σ₁ => Q (.ret v) ρ σ₁
  | .if_ c t e, ρ, σ, Q => wpE F gv c ρ σ fun v σ₁ => truthyW σ₁ v fun b => if b = true then wpSs F gv t ρ σ₁ Q else wpSs F gv e ρ σ₁ Q
  | .for_ k xs it body, ρ, σ, Q => gv.hd = false ∧ wpE F gv it ρ σ fun v σ₁ => onS1 (turnsOf σ₁ v k) fun turns =>
      wpFor (fun ρ' σ' K => wpSs F gv body ρ' σ' K) (stay σ₁ v k turns) xs turns ρ σ₁ Q
  | .raise cls _, _, σ, _ => gv.hd = false ∧ gv.ex cls = true ∧ gv.err cls σ
  | .try_ body cls x h, ρ, σ, Q => gv.hd = false ∧ gv.ex cls = true ∧ wpSs F (gv.withErr fun c σ' => excSub c cls = true ∧ ∀ a, σ' a = none →
      wpSs F gv.inHd h (upd (fun o' => none) x (.ref a)) (σ'.set a (.exc c)) (fun fl o' σ'' => Q fl (fun o' => none) σ'')) body ρ σ Q
noncomputable def wpSs (F : CallW) (gv : Glo) : List St → Loc → Sto → KS → Prop
  | [], ρ, σ, Q => Q .next ρ σ
  | s :: r, ρ, σ, Q => wpS F gv s ρ σ (thenW (fun ρ' σ' => wpSs F gv r ρ' σ' Q) Q)
end
end BP

namespace BP
open PySem
abbrev Nms := List (Str × NameKind)
noncomputable def isVar (nm : Nms) (x : String) : Bool :=
  x != ".0" && Str.ofString x != ("__debug__" : Str) && (nm.lookup (Str.ofString x) == some .local || nm.lookup (Str.ofString x) == some .cell)
noncomputable def isGlob (nm : Nms) (x : Str) : Bool := x != ("__debug__" : Str) && nm.lookup x == some .globalImplicit
noncomputable def OpB.py : OpB → Operator
  | .add => .Add | .sub => .Sub | .mul => .Mult | .fdiv => .FloorDiv | .mod => .Mod
noncomputable def OpC.py : OpC → CmpOp
  | .eq => .Eq | .ne => .NotEq | .lt => .Lt | .le => .LtE | .gt => .Gt | .ge => .GtE | .is_ => .Is | .isNot => .IsNot | .isIn => .In | .notIn => .NotIn
noncomputable def BI.py : BI → String
  | .len => "len" | .all => "all" | .list => "list" | .range => "range" | .min => "min" | .max => "max" | .int => "int" | .sorted => "sorted"
noncomputable def ME.py : ME → String
  | .append => "append" | .clear => "clear" | .extend => "extend"
noncomputable def Ty.py : Ty → String
  | .list => "list" | .int => "int" | .bool => "bool" | .tuple => "tuple" | .own d => d | .valueError => "ValueError"
noncomputable def bopPy (h : Bool) : BoolOp := bif h then .Or else .And
noncomputable def relab (nm : Nms) : Nms := nm.map fun x => (x.1, if x.2 == .free then .cell else x.2)
set_option genInjectivity false in
structure V where
  p : Pos
  s : Str
  n : Nat
  k : PySem.Const
  bo : BoolOp
  op : Operator
  uo : UnaryOp
  a : PySem.Expr
  b : PySem.Expr
  c : PySem.Expr
  es : List PySem.Expr
  ops : List CmpOp
  ks : List Keyword
  gs : List Comprehension
  sc : Scope
  o1 : Option PySem.Expr
  o2 : Option PySem.Expr
  o3 : Option PySem.Expr
  dk : List (Option PySem.Expr)
noncomputable def v0 : V := ⟨default, default, 0, default, default, default, default, default, default, default, [], [], [], [], default, none, none, none, []⟩
noncomputable def vw : PySem.Expr → Nat × V
  | .BoolOp o es p => (1, { v0 with bo := o, es := es, p := p })
  | .BinOp l o r p => (2, { v0 with a := l, op := o, b := r, p := p })
  | .UnaryOp o x p => (3, { v0 with uo := o, a := x, p := p })
  | .ListComp e gs sc p => (4, { v0 with a := e, gs := gs, sc := sc, p := p })
  | .Compare l ops rs p => (5, { v0 with a := l, ops := ops, es := rs, p := p })
  | .Call f as kw p => (6, { v0 with a := f, es := as, ks := kw, p := p })
  | .Constant c n p => (7, { v0 with k := c, n := n, p := p })
  | .Attribute o s p => (8, { v0 with a := o, s := s, p := p })
  | .Subscript o i p => (9, { v0 with a := o, b := i, p := p })
  | .Name s p => (10, { v0 with s := s, p := p })
  | .List es p => (11, { v0 with es := es, p := p })
  | .Tuple es n p => (12, { v0 with es := es, n := n, p := p })
  | .Slice x y z p => (13, { v0 with o1 := x, o2 := y, o3 := z, p := p })
  | .IfExp a b c p => (14, { v0 with a := a, b := b, c := c, p := p })
  | .Dict ks es p => (15, { v0 with dk := ks, es := es, p := p })
  | _ => (0, v0)
noncomputable def decs (v : V) : List PySem.Expr := [default, .BoolOp v.bo v.es v.p, .BinOp v.a v.op v.b v.p, .UnaryOp v.uo v.a v.p, .ListComp v.a v.gs v.sc v.p, .Compare v.a v.ops v.es v.p, .Call v.a v.es v.ks v.p, .Constant v.k v.n v.p, .Attribute v.a v.s v.p, .Subscript v.a v.b v.p, .Name v.s v.p, .List v.es v.p, .Tuple v.es v.n v.p, .Slice v.o1 v.o2 v.o3 v.p, .IfExp v.a v.b v.c v.p, .Dict v.dk v.es v.p]
noncomputable def dec (k : Nat) (v : V) : PySem.Expr := (decs v).getD k default
theorem dec_vw (e : PySem.Expr) : (vw e).1 = 0 ∨ e = dec (vw e).1 (vw e).2 := by
  cases e <;> first | exact .inr rfl | exact .inl rfl
noncomputable def on (k : Nat) (P : V → Bool) (e : PySem.Expr) : Bool := (vw e).1 == k && P (vw e).2
theorem on_of {k : Nat} {P : V → Bool} {e : PySem.Expr} {M : PySem.Expr → Prop} (h : on k P e = true) (hk : (k == 0) = false) (K : ∀ v, P v = true → M (dec k v)) : M e := by
  have h := (Bool.and_eq_true _ _).mp h
  have h1 := eq_of_beq h.1
  rcases dec_vw e with q | q
  · rw [← h1, q] at hk; cases hk
  · rw [q, h1]; exact K _ h.2
theorem and2 {a b : Bool} (h : (a && b) = true) : a = true ∧ b = true := (Bool.and_eq_true a b).mp h
theorem and3 {a b c : Bool} (h : (a && b && c) = true) : (a = true ∧ b = true) ∧ c = true := ⟨and2 (and2 h).1, (and2 h).2⟩
theorem and4 {a b c d : Bool} (h : (a && b && c && d) = true) : ((a = true ∧ b = true) ∧ c = true) ∧ d = true := ⟨and3 (and2 h).1, (and2 h).2⟩
theorem and5 {a b c d e : Bool} (h : (a && b && c && d && e) = true) : (((a = true ∧ b = true) ∧ c = true) ∧ d = true) ∧ e = true := ⟨and4 (and2 h).1, (and2 h).2⟩
theorem and6 {a b c d e f : Bool} (h : (a && b && c && d && e && f) = true) : ((((a = true ∧ b = true) ∧ c = true) ∧ d = true) ∧ e = true) ∧ f = true := ⟨and5 (and2 h).1, (and2 h).2⟩
noncomputable def isN (x : Str) (e : PySem.Expr) : Bool := on 10 (fun v => x == v.s) e
theorem isN_of {x : Str} {e : PySem.Expr} {M : PySem.Expr → Prop} (h : isN x e = true) (K : ∀ p, M (.Name x p)) : M e :=
  on_of h rfl fun v h => by have h := beq_iff_eq.mp h; subst h; exact K v.p
noncomputable def one {α : Type} (P : α → Bool) : List α → Bool
  | [] => false
  | a :: r => r.isEmpty && P a
theorem one_of {α : Type} {P : α → Bool} {l : List α} {M : List α → Prop} (h : one P l = true) (K : ∀ a, P a = true → M [a]) : M l := by
  cases l with
  | nil => cases h
  | cons a r => cases r with
    | nil => exact K a h
    | cons _ _ => cases h
noncomputable def two {α : Type} (P R : α → Bool) : List α → Bool
  | [] => false
  | a :: r => P a && one R r
theorem two_of {α : Type} {P R : α → Bool} {l : List α} {M : List α → Prop} (h : two P R l = true) (K : ∀ a b, P a = true → R b = true → M [a, b]) : M l := by
  cases l with
  | nil => cases h
  | cons a r => exact one_of (M := fun r => M (a :: r)) (and2 h).2 fun b h' => K a b (and2 h).1 h'
noncomputable def isC (f : Str) (P : List PySem.Expr → Bool) (e : PySem.Expr) : Bool := on 6 (fun v => v.ks.isEmpty && isN f v.a && P v.es) e
theorem isC_of {f : Str} {P : List PySem.Expr → Bool} {e : PySem.Expr} {M : PySem.Expr → Prop} (h : isC f P e = true) (K : ∀ as p q, P as = true → M (.Call (.Name f q) as [] p)) : M e :=
  on_of h rfl fun v h => by
    have h := and3 h
    have h0 : v.ks = [] := List.isEmpty_iff.mp h.1.1
    show M (.Call v.a v.es v.ks v.p)
    rw [h0]
    exact isN_of (M := fun a => M (.Call a v.es [] v.p)) h.1.2 fun q => K _ _ q h.2
noncomputable def plainBase (e : PySem.Expr) : Bool := (vw e).1 != 6
noncomputable def compOk (nm : Nms) (sc : Scope) (xs : List String) : Bool :=
  sc.kind == .function && sc.names.all (fun x => x.2 == .local || x.2 == .globalImplicit || x.2 == .free) &&
  sc.names.all (fun x => sc.names.lookup x.1 == some x.2) && xs.all (fun x => sc.names.lookup (Str.ofString x) == some .local) &&
  sc.names.all (fun x => x.2 != .free || nm.lookup x.1 == some .cell) && sc.names.all (fun y => y.2 != .local || y.1 == (".0" : Str) || xs.any fun x => Str.ofString x == y.1)
noncomputable def mTup : List String → List PySem.Expr → Bool
  | [] => fun l => l.isEmpty
  | x :: xs => fun l => match l with
    | t :: ts => isN (Str.ofString x) t && mTup xs ts
    | [] => false
noncomputable def mTgt (k : Nat) (xs : List String) (t : PySem.Expr) : Bool := bif k == 1 || k == 4 then one (fun x => isN (Str.ofString x) t) xs else decide (xs.length = 2) && on 12 (fun v => mTup xs v.es) t
noncomputable def mIt (nm : Nms) (k : Nat) (g : PySem.Expr → Bool) (e : PySem.Expr) : Bool := bif k == 2 then isC "enumerate" (fun as => isGlob nm "enumerate" && one g as) e else bif k == 4 then isC "reversed" (fun as => isGlob nm "reversed" && one g as) e else g e
noncomputable def isNone_ : Ex → Bool
  | .none_ => true
  | _ => false
noncomputable def mO (e : Ex) (g : PySem.Expr → Bool) (o : Option PySem.Expr) : Bool := match o with
  | none => isNone_ e
  | some e' => g e'
mutual
noncomputable def mE (nm : Nms) : Ex → PySem.Expr → Bool
  | .none_ => on 7 fun v => decide (v.k = .none)
  | .bool_ b => on 7 fun v => decide (v.k = .bool b)
  | .int_ i => on 7 fun v => decide (v.k = .int i)
  | .str_ s => on 7 fun v => decide (v.k = .str (Str.ofString s))
  | .dict0 => on 15 fun v => v.dk.isEmpty && v.es.isEmpty
  | .var x => fun e => isVar nm x && isN (Str.ofString x) e
  | .glob x => fun e => isGlob nm (Str.ofString x) && isN (Str.ofString x) e
  | .bin op l r => on 2 fun v => decide (op.py = v.op) && mE nm l v.a && mE nm r v.b
  | .not_ x => on 3 fun v => decide (v.uo = .Not) && mE nm x v.a
  | .ite c t f => on 14 fun v => mE nm c v.a && mE nm t v.b && mE nm f v.c
  | .neg x => on 3 fun v => decide (v.uo = .USub) && mE nm x v.a
  | .bop h es => on 1 fun v => decide (v.bo = bopPy h) && mEs nm es v.es
  | .cmp op l r => on 5 fun v => decide (v.ops = [op.py]) && mE nm l v.a && one (fun r' => mE nm r r') v.es
  | .cmp2 op op' l m r => on 5 fun v => decide (v.ops = [op.py, op'.py]) && mE nm l v.a && two (fun m' => mE nm m m') (fun r' => mE nm r r') v.es
  | .list es => on 11 fun v => mEs nm es v.es
  | .tup es => on 12 fun v => mEs nm es v.es
  | .call f as => isC (Str.ofString f) fun as' => isGlob nm (Str.ofString f) && mEs nm as as'
  | .bcall f as => isC (Str.ofString f.py) fun as' => isGlob nm (Str.ofString f.py) && mEs nm as as'
  | .isi x t => isC "isinstance" fun as' => (isGlob nm "isinstance" && isGlob nm (Str.ofString t.py)) && two (fun e' => mE nm x e') (fun te => isN (Str.ofString t.py) te) as'
  | .meth o m as => on 6 fun v => v.ks.isEmpty && on 8 (fun u => Str.ofString m.py == u.s && mE nm o u.a && mEs nm as v.es && plainBase u.a && u.p.endLine == v.p.line && decide (as.length < 25)) v.a
  | .slice o lo hi => on 9 fun v => mE nm o v.a && on 13 (fun u => mO lo (mE nm lo) u.o1 && mO hi (mE nm hi) u.o2 && u.o3.isNone) v.b
  | .sub o i => on 9 fun v => mE nm o v.a && mE nm i v.b
  | .attr o a => on 8 fun v => Str.ofString a == v.s && mE nm o v.a && plainBase v.a
  | .comp elt k xs it ifs => on 4 fun v => one (fun g => g.is_async == 0 && compOk nm v.sc xs && mTgt k xs g.target && mIt nm k (mE nm it) g.iter && mE (relab v.sc.names) elt v.a && mEs (relab v.sc.names) ifs g.ifs) v.gs
noncomputable def mEs (nm : Nms) : List Ex → List PySem.Expr → Bool
  | [] => fun l => l.isEmpty
  | e :: es => fun l => match l with | e' :: es' => mE nm e e' && mEs nm es es' | [] => false
end
section
variable {nm : Nms} {e : PySem.Expr} {M : PySem.Expr → Prop}
theorem mE_con {c : PySem.Const} (h : on 7 (fun v => decide (v.k = c)) e = true) (K : ∀ n p, M (.Constant c n p)) : M e :=
  on_of h rfl fun v h => by have h := of_decide_eq_true h; subst h; exact K v.n v.p
theorem mE_bin {op : OpB} {l r : Ex} (h : mE nm (.bin op l r) e = true) (K : ∀ l' r' p, mE nm l l' = true → mE nm r r' = true → M (.BinOp l' op.py r' p)) : M e :=
  on_of (k := 2) h rfl fun v h => by
    have h := and3 h
    show M (.BinOp v.a v.op v.b v.p)
    exact of_decide_eq_true h.1.1 ▸ K v.a v.b v.p h.1.2 h.2
theorem mE_un {o : UnaryOp} {g : PySem.Expr → Bool} (h : on 3 (fun v => decide (v.uo = o) && g v.a) e = true) (K : ∀ x p, g x = true → M (.UnaryOp o x p)) : M e :=
  on_of h rfl fun v h => (of_decide_eq_true (and2 h).1 ▸ K v.a v.p (and2 h).2 : M (.UnaryOp v.uo v.a v.p))
theorem mE_ite {c t f : Ex} (h : mE nm (.ite c t f) e = true) (K : ∀ c' t' f' p, mE nm c c' = true → mE nm t t' = true → mE nm f f' = true → M (.IfExp c' t' f' p)) : M e :=
  on_of (k := 14) h rfl fun v h => K v.a v.b v.c v.p (and3 h).1.1 (and3 h).1.2 (and3 h).2
theorem mE_boo {o : BoolOp} {g : List PySem.Expr → Bool} (h : on 1 (fun v => decide (v.bo = o) && g v.es) e = true) (K : ∀ es p, g es = true → M (.BoolOp o es p)) : M e :=
  on_of h rfl fun v h => (of_decide_eq_true (and2 h).1 ▸ K v.es v.p (and2 h).2 : M (.BoolOp v.bo v.es v.p))
theorem mE_cmp {op : OpC} {l r : Ex} (h : mE nm (.cmp op l r) e = true) (K : ∀ l' r' p, mE nm l l' = true → mE nm r r' = true → M (.Compare l' [op.py] [r'] p)) : M e :=
  on_of (k := 5) h rfl fun v h => by
    have h := and3 h
    have h0 : v.ops = [op.py] := of_decide_eq_true h.1.1
    show M (.Compare v.a v.ops v.es v.p)
    rw [h0]
    exact one_of (M := fun es => M (.Compare v.a [op.py] es v.p)) h.2 fun r' h' => K v.a r' v.p h.1.2 h'
theorem mE_cmp2 {op op' : OpC} {l m r : Ex} (h : mE nm (.cmp2 op op' l m r) e = true) (K : ∀ l' m' r' p, mE nm l l' = true → mE nm m m' = true → mE nm r r' = true → M (.Compare l' [op.py, op'.py] [m', r'] p)) : M e :=
  on_of (k := 5) h rfl fun v h => by
    have h := and3 h
    have h0 : v.ops = [op.py, op'.py] := of_decide_eq_true h.1.1
    show M (.Compare v.a v.ops v.es v.p)
    rw [h0]
    exact two_of (M := fun es => M (.Compare v.a [op.py, op'.py] es v.p)) h.2 fun m' r' h' h'' => K v.a m' r' v.p h.1.2 h' h''
theorem mE_meth {o : Ex} {m : ME} {as : List Ex} (h : mE nm (.meth o m as) e = true) (K : ∀ o' as' p q, mE nm o o' = true → mEs nm as as' = true → plainBase o' = true → q.endLine = p.line → as.length < 25 → M (.Call (.Attribute o' (Str.ofString m.py) q) as' [] p)) : M e :=
  on_of (k := 6) h rfl fun v h => by
    have h := and2 h
    have h0 : v.ks = [] := List.isEmpty_iff.mp h.1
    show M (.Call v.a v.es v.ks v.p)
    rw [h0]
    refine on_of (k := 8) (M := fun a => M (.Call a v.es [] v.p)) h.2 rfl fun u h => ?_
    have h := and6 h
    show M (.Call (.Attribute u.a u.s u.p) v.es [] v.p)
    exact beq_iff_eq.mp h.1.1.1.1.1 ▸ K u.a v.es v.p u.p h.1.1.1.1.2 h.1.1.1.2 h.1.1.2 (beq_iff_eq.mp h.1.2) (of_decide_eq_true h.2)
theorem mE_slice {o lo hi : Ex} (h : mE nm (.slice o lo hi) e = true) (K : ∀ o' lo' hi' p q, mE nm o o' = true → mO lo (mE nm lo) lo' = true → mO hi (mE nm hi) hi' = true → M (.Subscript o' (.Slice lo' hi' none p) q)) : M e :=
  on_of (k := 9) h rfl fun v h => by
    have h := and2 h
    refine on_of (k := 13) (M := fun b => M (.Subscript v.a b v.p)) h.2 rfl fun u h' => ?_
    have h' := and3 h'
    show M (.Subscript v.a (.Slice u.o1 u.o2 u.o3 u.p) v.p)
    rw [Option.isNone_iff_eq_none.mp h'.2]
    exact K v.a u.o1 u.o2 u.p v.p h.1 h'.1.1 h'.1.2
theorem mE_isi {x : Ex} {t : Ty} (h : mE nm (.isi x t) e = true) (K : ∀ e' p q r, isGlob nm "isinstance" = true → isGlob nm (Str.ofString t.py) = true → mE nm x e' = true → M (.Call (.Name "isinstance" q) [e', .Name (Str.ofString t.py) r] [] p)) : M e :=
  isC_of h fun as p q h => two_of (M := fun l => M (.Call (.Name "isinstance" q) l [] p)) (and2 h).2 fun e' te h1 h2 =>
    isN_of (M := fun te => M (.Call (.Name "isinstance" q) [e', te] [] p)) h2 fun r => K e' p q r (and2 (and2 h).1).1 (and2 (and2 h).1).2 h1
theorem mE_attr {o : Ex} {a : String} (h : mE nm (.attr o a) e = true) (K : ∀ o' p, mE nm o o' = true → plainBase o' = true → M (.Attribute o' (Str.ofString a) p)) : M e :=
  on_of (k := 8) h rfl fun v h => by
    have h := and3 h
    show M (.Attribute v.a v.s v.p)
    exact beq_iff_eq.mp h.1.1 ▸ K v.a v.p h.1.2 h.2
theorem mE_comp {elt it : Ex} {k : Nat} {xs : List String} {ifs : List Ex} (h : mE nm (.comp elt k xs it ifs) e = true)
    (K : ∀ tg elt' it' ifs' sc pos, mTgt k xs tg = true → compOk nm sc xs = true → mIt nm k (mE nm it) it' = true → mE (relab sc.names) elt elt' = true → mEs (relab sc.names) ifs ifs' = true → M (.ListComp elt' [⟨tg, it', ifs', 0⟩] sc pos)) : M e :=
  on_of (k := 4) h rfl fun v h => one_of (M := fun gs => M (.ListComp v.a gs v.sc v.p)) h fun g h => by
    have h := and6 h
    obtain ⟨tg, it', ifs', as⟩ := g
    have h0 : as = 0 := beq_iff_eq.mp h.1.1.1.1.1
    subst h0
    exact K tg _ it' ifs' _ _ h.1.1.1.2 h.1.1.1.1.2 h.1.1.2 h.1.2 h.2
end
noncomputable def kp : Ex → Nat
  | .none_ => 6
  | .bool_ _ => 6
  | .int_ _ => 6
  | .str_ _ => 6
  | .dict0 => 14
  | .var _ => 9
  | .glob _ => 9
  | .bin _ _ _ => 1
  | .not_ _ => 2
  | .ite _ _ _ => 13
  | .neg _ => 2
  | .bop _ _ => 0
  | .cmp _ _ _ => 4
  | .cmp2 _ _ _ _ _ => 4
  | .list _ => 10
  | .tup _ => 11
  | .call _ _ => 5
  | .bcall _ _ => 5
  | .isi _ _ => 5
  | .meth _ _ _ => 5
  | .slice _ _ _ => 8
  | .sub _ _ => 8
  | .attr _ _ => 7
  | .comp _ _ _ _ _ => 3
theorem on_kd {k : Nat} {P : V → Bool} {e : PySem.Expr} (h : on k P e = true) : (vw e).1 = k := eq_of_beq (and2 h).1
theorem isC_kd {f : Str} {P : List PySem.Expr → Bool} {e : PySem.Expr} (h : isC f P e = true) : (vw e).1 = 6 := eq_of_beq (and2 h).1
theorem mE_kd {nm : Nms} {ex : Ex} {e : PySem.Expr} (h : mE nm ex e = true) : (vw e).1 = kp ex + 1 := by
  cases ex <;> first | exact on_kd h | exact isC_kd h | exact on_kd (k := 10) (and2 h).2
theorem mE_kind {nm : Nms} {ex : Ex} {e : PySem.Expr} (h : mE nm ex e = true) (q : (vw e).1 = 0) : False := Nat.succ_ne_zero _ ((mE_kd h).symm.trans q)
noncomputable def isComp (ex : Ex) : Bool := decide (kp ex = 3)
set_option genInjectivity false in
structure VS where
  ts : List PySem.Expr
  e : PySem.Expr
  f : PySem.Expr
  o : Option PySem.Expr
  b : List PySem.Stmt
  c : List PySem.Stmt
  d : List PySem.Stmt
  q : Option PySem.Expr
  hs : List ExceptHandler
  p : Pos
noncomputable def w0 : VS := ⟨[], default, default, none, [], [], [], none, [], default⟩
noncomputable def vs : PySem.Stmt → Nat × VS
  | .Assign ts e p => (1, { w0 with ts := ts, e := e, p := p })
  | .Expr e p => (2, { w0 with e := e, p := p })
  | .Return o p => (3, { w0 with o := o, p := p })
  | .If e b c p => (4, { w0 with e := e, b := b, c := c, p := p })
  | .For e f b c p => (5, { w0 with e := e, f := f, b := b, c := c, p := p })
  | .Raise o q p => (6, { w0 with o := o, q := q, p := p })
  | .Try b hs c d p => (7, { w0 with b := b, hs := hs, c := c, d := d, p := p })
  | _ => (0, w0)
noncomputable def decsS (v : VS) : List PySem.Stmt := [default, .Assign v.ts v.e v.p, .Expr v.e v.p, .Return v.o v.p, .If v.e v.b v.c v.p, .For v.e v.f v.b v.c v.p, .Raise v.o v.q v.p, .Try v.b v.hs v.c v.d v.p]
noncomputable def decS (k : Nat) (v : VS) : PySem.Stmt := (decsS v).getD k default
theorem dec_vs (e : PySem.Stmt) : (vs e).1 = 0 ∨ e = decS (vs e).1 (vs e).2 := by
  cases e <;> first | exact .inr rfl | exact .inl rfl
noncomputable def onS (k : Nat) (P : VS → Bool) (e : PySem.Stmt) : Bool := (vs e).1 == k && P (vs e).2
theorem onS_of {k : Nat} {P : VS → Bool} {e : PySem.Stmt} {M : PySem.Stmt → Prop} (h : onS k P e = true) (hk : (k == 0) = false) (K : ∀ v, P v = true → M (decS k v)) : M e := by
  have h := (Bool.and_eq_true _ _).mp h
  have h1 := eq_of_beq h.1
  rcases dec_vs e with q | q
  · rw [← h1, q] at hk; cases hk
  · rw [q, h1]; exact K _ h.2
noncomputable def on1 (P : PySem.Expr → PySem.Expr → Bool) : PySem.Stmt → Bool := onS 1 fun v => one (fun t => P t v.e) v.ts
noncomputable def mRaise (nm : Nms) (cls msg : String) : PySem.Expr → Bool := isC (Str.ofString cls) fun as => isGlob nm (Str.ofString cls) && one (fun a => on 7 (fun v => decide (v.k = .str (Str.ofString msg))) a) as
noncomputable def mHand (nm : Nms) (cls x : String) (g : List PySem.Stmt → Bool) : List ExceptHandler → Bool := one fun h => match h with
  | .ExceptHandler t n b _ => (match t with | some te => isN (Str.ofString cls) te | none => false) && decide (n = some (Str.ofString x)) && isGlob nm (Str.ofString cls) && isVar nm x && (nm.lookup (Str.ofString x) == some .local) && (!b.isEmpty && g b)
mutual
noncomputable def mS (nm : Nms) : St → PySem.Stmt → Bool
  | .assign x e => on1 fun t e' => isVar nm x && isN (Str.ofString x) t && mE nm e e'
  | .assignT xs e => on1 fun t e' => on 12 (fun v => mTup xs v.es && xs.all (isVar nm)) t && (mE nm e e' && (vw e').1 != 12)
  | .assignAttr o a e => on1 fun t e' => on 8 (fun v => Str.ofString a == v.s && mE nm o v.a) t && mE nm e e'
  | .assignSub o i e => on1 fun t e' => on 9 (fun v => mE nm o v.a && mE nm i v.b) t && mE nm e e'
  | .expr e => onS 2 fun v => !isComp e && mE nm e v.e
  | .ret e => onS 3 fun v => match v.o with | some e' => mE nm e e' | none => false
  | .if_ c t e => onS 4 fun v => mE nm c v.e && mSs nm t v.b && mSs nm e v.c
  | .for_ k xs it b => onS 5 fun v => v.c.isEmpty && mTgt k xs v.e && xs.all (isVar nm) && mIt nm k (mE nm it) v.f && mSs nm b v.b
  | .raise cls msg => onS 6 fun v => v.q.isNone && (match v.o with | some e' => mRaise nm cls msg e' | none => false)
  | .try_ b cls x h => onS 7 fun v => v.c.isEmpty && v.d.isEmpty && (mSs nm b v.b && mHand nm cls x (mSs nm h) v.hs)
noncomputable def mSs (nm : Nms) : List St → List PySem.Stmt → Bool
  | [] => fun l => l.isEmpty
  | s :: r => fun l => match l with | s' :: r' => mS nm s s' && mSs nm r r' | [] => false
end
section
variable {nm : Nms} {s : PySem.Stmt} {M : PySem.Stmt → Prop}
theorem on1_of {P : PySem.Expr → PySem.Expr → Bool} (h : on1 P s = true) (K : ∀ t e p, P t e = true → M (.Assign [t] e p)) : M s :=
  onS_of h rfl fun v h => one_of (M := fun ts => M (.Assign ts v.e v.p)) h fun t h => K t v.e v.p h
theorem mS_assign {x : String} {ex : Ex} (h : mS nm (.assign x ex) s = true) (K : ∀ e' q p, isVar nm x = true → mE nm ex e' = true → M (.Assign [.Name (Str.ofString x) q] e' p)) : M s :=
  on1_of (P := fun t e' => isVar nm x && isN (Str.ofString x) t && mE nm ex e') h fun t e p h => isN_of (M := fun t => M (.Assign [t] e p)) (and3 h).1.2 fun q => K e q p (and3 h).1.1 (and3 h).2
theorem mS_assignSub {o i ex : Ex} (h : mS nm (.assignSub o i ex) s = true) (K : ∀ o' i' e' q p, mE nm o o' = true → mE nm i i' = true → mE nm ex e' = true → M (.Assign [.Subscript o' i' q] e' p)) : M s :=
  on1_of (P := fun t e' => on 9 (fun v => mE nm o v.a && mE nm i v.b) t && mE nm ex e') h fun t e p h => on_of (k := 9) (M := fun t => M (.Assign [t] e p)) (and2 h).1 rfl fun v h' => K v.a v.b e v.p p (and2 h').1 (and2 h').2 (and2 h).2
theorem mS_ret {ex : Ex} (h : mS nm (.ret ex) s = true) (K : ∀ e' p, mE nm ex e' = true → M (.Return (some e') p)) : M s :=
  onS_of (k := 3) (P := fun v => match v.o with | some e' => mE nm ex e' | none => false) h rfl fun v h => by
    have h : (match v.o with | some e' => mE nm ex e' | none => false) = true := h
    show M (.Return v.o v.p)
    cases q : v.o with
    | none => rw [q] at h; cases h
    | some e' => rw [q] at h; exact K e' v.p h
theorem mS_assignT {xs : List String} {ex : Ex} (h : mS nm (.assignT xs ex) s = true) (K : ∀ us k q e' p, mTup xs us = true → xs.all (isVar nm) = true → mE nm ex e' = true → ((vw e').1 != 12) = true → M (.Assign [.Tuple us k q] e' p)) : M s :=
  on1_of (P := fun t e' => on 12 (fun v => mTup xs v.es && xs.all (isVar nm)) t && (mE nm ex e' && (vw e').1 != 12)) h fun t e p h => on_of (k := 12) (M := fun t => M (.Assign [t] e p)) (and2 h).1 rfl fun v h' => K v.es v.n v.p e p (and2 h').1 (and2 h').2 (and2 (and2 h).2).1 (and2 (and2 h).2).2
theorem mS_assignAttr {o : Ex} {a : String} {ex : Ex} (h : mS nm (.assignAttr o a ex) s = true) (K : ∀ o' e' q p, mE nm o o' = true → mE nm ex e' = true → M (.Assign [.Attribute o' (Str.ofString a) q] e' p)) : M s :=
  on1_of (P := fun t e' => on 8 (fun v => Str.ofString a == v.s && mE nm o v.a) t && mE nm ex e') h fun t e p h => on_of (k := 8) (M := fun t => M (.Assign [t] e p)) (and2 h).1 rfl fun v h' => (beq_iff_eq.mp (and2 h').1 ▸ K v.a e v.p p (and2 h').2 (and2 h).2 : M (.Assign [.Attribute v.a v.s v.p] e p))
theorem mS_for {k : Nat} {xs : List String} {it : Ex} {b : List St} (h : mS nm (.for_ k xs it b) s = true) (K : ∀ tg it' b' p, mTgt k xs tg = true → xs.all (isVar nm) = true → mIt nm k (mE nm it) it' = true → mSs nm b b' = true → M (.For tg it' b' [] p)) : M s :=
  onS_of (k := 5) (P := fun v => v.c.isEmpty && mTgt k xs v.e && xs.all (isVar nm) && mIt nm k (mE nm it) v.f && mSs nm b v.b) h rfl fun v h => by
    have h := and5 h
    have h0 : v.c = [] := List.isEmpty_iff.mp h.1.1.1.1
    show M (.For v.e v.f v.b v.c v.p)
    rw [h0]
    exact K v.e v.f v.b v.p h.1.1.1.2 h.1.1.2 h.1.2 h.2
theorem mS_raise {cls msg : String} (h : mS nm (.raise cls msg) s = true) (K : ∀ p1 k p2 p3 p, isGlob nm (Str.ofString cls) = true → M (.Raise (some (.Call (.Name (Str.ofString cls) p1) [.Constant (.str (Str.ofString msg)) k p2] [] p3)) none p)) : M s :=
  onS_of (k := 6) (P := fun v => v.q.isNone && (match v.o with | some e' => mRaise nm cls msg e' | none => false)) h rfl fun v h => by
    have h := and2 h
    have h2 : (match v.o with | some e' => mRaise nm cls msg e' | none => false) = true := h.2
    show M (.Raise v.o v.q v.p)
    rw [Option.isNone_iff_eq_none.mp h.1]
    cases q : v.o with
    | none => rw [q] at h2; cases h2
    | some e' =>
      rw [q] at h2
      exact isC_of (M := fun e => M (.Raise (some e) none v.p)) h2 fun as p3 p1 g => one_of (M := fun as => M (.Raise (some (.Call (.Name (Str.ofString cls) p1) as [] p3)) none v.p)) (and2 g).2 fun a g2 => mE_con (M := fun a => M (.Raise (some (.Call (.Name (Str.ofString cls) p1) [a] [] p3)) none v.p)) g2 fun k p2 => K p1 k p2 p3 v.p (and2 g).1
theorem mS_try {b h : List St} {cls x : String} (hm : mS nm (.try_ b cls x h) s = true) (K : ∀ b' p1 p2 h' p, isGlob nm (Str.ofString cls) = true → isVar nm x = true → nm.lookup (Str.ofString x) = some .local → h'.isEmpty = false → mSs nm b b' = true → mSs nm h h' = true → M (.Try b' [.ExceptHandler (some (.Name (Str.ofString cls) p1)) (some (Str.ofString x)) h' p2] [] [] p)) : M s :=
  onS_of (k := 7) (P := fun v => v.c.isEmpty && v.d.isEmpty && (mSs nm b v.b && mHand nm cls x (mSs nm h) v.hs)) hm rfl fun v g => by
    have g := and3 g
    have g3 := and2 g.2
    show M (.Try v.b v.hs v.c v.d v.p)
    rw [List.isEmpty_iff.mp g.1.1, List.isEmpty_iff.mp g.1.2]
    refine one_of (M := fun hs => M (.Try v.b hs [] [] v.p)) g3.2 fun hd g4 => ?_
    obtain ⟨t, n, hb, p2⟩ := hd
    have g4 := and6 g4
    have g5 := and2 g4.2
    have hn : n = some (Str.ofString x) := of_decide_eq_true g4.1.1.1.1.2
    subst hn
    cases t with
    | none => exact Bool.noConfusion g4.1.1.1.1.1
    | some te => exact isN_of (M := fun te => M (.Try v.b [.ExceptHandler (some te) (some (Str.ofString x)) hb p2] [] [] v.p)) g4.1.1.1.1.1 fun p1 => K v.b p1 p2 hb v.p g4.1.1.1.2 g4.1.1.2 (beq_iff_eq.mp g4.1.2) (Bool.not_eq_true' _ |>.mp g5.1) g3.1 g5.2
end
noncomputable def codeS (s : Str) : Nat := s.cps.toList.foldl (fun a c => a * 256 + c) 1
noncomputable def disB : List Nat → Bool
  | [] => true
  | c :: cs => cs.all (fun d => !Nat.beq c d) && disB cs
theorem dis_lookup {nm : Nms} (h : disB (nm.map fun x => codeS x.1) = true) : ∀ x ∈ nm, nm.lookup x.1 = some x.2 := by
  induction nm with
  | nil => exact fun o' h => nomatch h
  | cons y nm ih =>
    obtain ⟨h1, h2⟩ := (Bool.and_eq_true _ _).mp h
    intro x hx
    obtain ⟨k, v⟩ := y
    rw [List.lookup_cons]
    rcases List.mem_cons.mp hx with q | q
    · rw [q, beq_self_eq_true]
    · have : (x.1 == k) = false := beq_eq_false_iff_ne.mpr fun e => by
        have := List.all_eq_true.mp h1 _ (List.mem_map.mpr ⟨x, q, rfl⟩)
        rw [e, Nat.beq_refl] at this
        cases this
      rw [this]
      exact ih h2 x q
noncomputable def mFn (df : List String × List St) (ps : Arguments) (body : List PySem.Stmt) (sc : Scope) : Bool :=
  ps.posonlyargs.isEmpty && ps.vararg.isNone && ps.kwonlyargs.isEmpty && ps.kwarg.isNone && ps.defaults.isEmpty && ps.kw_defaults.isEmpty &&
  decide (df.1.map Str.ofString = ps.args.map (·.arg)) && sc.kind == .function && !sc.isCoroutine && !sc.isGenerator &&
  sc.names.all (fun x => x.2 == .local || x.2 == .globalImplicit || x.2 == .cell) && disB (sc.names.map fun x => codeS x.1) &&
  df.1.all (isVar sc.names) && decide df.1.Nodup && mSs sc.names df.2 body
end BP

namespace BP
open PySem PyProof.Rows
noncomputable def vval : Value → Option Val
  | .none => some .none
  | .bool b => some (.bool b)
  | .int i _ => some (.int i)
  | .str x _ => if x.cps.size ≤ sLim then some (.str x.cps.toList) else none
  | .ref a => some (.ref a)
  | _ => none
abbrev bNames : List String := ["len", "all", "list", "tuple", "range", "min", "max", "int", "bool", "sorted", "enumerate", "reversed", "isinstance", "ValueError"]
noncomputable def veMro : List Value := [.type "ValueError", .type "Exception", .type "BaseException", .type "object"]
noncomputable def clsOf (d : Data) : Option ClassData := match d with
  | .cls c => some c
  | _ => none
noncomputable def funOf (d : Data) : Option FuncData := match d with
  | .func f => some f
  | _ => none
noncomputable def refOf (v : Value) : Option Addr := match v with
  | .ref a => some a
  | _ => none
noncomputable def bodyOf (b : FuncBody) : Option (List PySem.Stmt) := match b with
  | .stmts l => some l
  | _ => none
noncomputable def fdB (K : W.Frag) (a : Addr) (df : List String × List St) : Bool := (K.lookup a).any fun o => (funOf o.data).any fun fd => (bodyOf fd.body).any fun body =>
  mFn df fd.params body fd.scope && fd.defaults == .none && fd.closure.isEmpty && fd.globals == mainGlobals && fd.builtins == builtinsNs && W.codeIn K fd.code fd.qualname
noncomputable def refB (K : W.Frag) (x : String) : Option Addr := (W.nsIn K mainGlobals (Str.ofString x)).bind fun o => o.bind refOf
noncomputable def fnB (K : W.Frag) (x : String) (df : List String × List St) : Bool := (refB K x).any fun a => fdB K a df
noncomputable def calB (K : W.Frag) (x : String) : Bool := (refB K x).any fun a => W.keepIn K (.ref a)
noncomputable def clsB (K : W.Frag) (C : Addr) : Bool := W.plainGet K C "" && W.hasDictIn K C && W.plainOver K C && W.findIn K (.ref C) "__setattr__" == some (some (.builtin "object.__setattr__")) && attrNames.all fun a => W.findIn K (.ref C) (Str.ofString a) == some none
noncomputable def makeB (K : W.Frag) (C : Addr) (df : List String × List St) : Bool := W.makesIn K C && ((W.findIn K (.ref C) "__init__").bind fun o => o.bind refOf).any fun f => W.typeIn K (.ref f) == some (.type "function") && fdB K f df
noncomputable def freeB (K : W.Frag) (x : String) : Bool := W.nsIn K mainGlobals (Str.ofString x) == some none
noncomputable def dictOf (d : Data) : Option (Array DictEntry × Nat) := match d with
  | .dict es n => some (es, n)
  | _ => none
noncomputable def strV (v : Value) : Bool := match v with
  | .str _ _ => true
  | _ => false
noncomputable def nsB (K : W.Frag) (N : Addr) : Bool := (K.lookup N).any fun o => (dictOf o.data).any fun p => p.1.toList.all (fun e => strV e.key) && xNames.all fun n => (p.1.toList.find? (·.key.isStr n)).isNone
noncomputable def tailB (K : W.Frag) (l : List Value) : Bool := List.rec (motive := fun o' => Bool) false (fun v r b => (v :: r) == veMro || (refOf v).any fun A => (K.lookup A).any fun o => (clsOf o.data).any fun cd => nsB K cd.ns && b) l
noncomputable def excB (K : W.Frag) (C : Addr) (bm : List Value) : Bool := (K.lookup C).any fun o => (clsOf o.data).any fun cd =>
  o.slots == #[o.slots.getD 0 none, o.slots.getD 1 none, o.slots.getD 2 none, o.slots.getD 3 none, some (.builtin "ValueError.__new__"), o.slots.getD 5 none] && cd.mro == .ref C :: bm && o.cls == .type "type" && cd.hasDel == false && tailB K bm && nsB K cd.ns
noncomputable def mroB (K : W.Frag) (C : Addr) : List Value := match K.lookup C with
  | some ⟨_, _, .cls cd, _⟩ => cd.mro.tail
  | _ => []
noncomputable def excsB (K : W.Frag) (names : List String) : Bool := names.all fun c => match refB K c with
  | some C => excB K C (mroB K C) && names.all fun d => match refB K d with
    | some D => (Value.ref C :: mroB K C).contains (.ref D) == excSub c d
    | none => false
  | none => false
noncomputable def excNames : List String := ["HouseError", "BadHouse", "BadGuess", "BadDeed", "BadPlan", "BadSteps", "NoWay", "BadText"]
noncomputable def okB (K : W.Frag) (fns : List (String × (List String × List St))) : Bool := fns.all fun p => fnB K p.1 p.2 && calB K p.1
noncomputable def clsOkB (K : W.Frag) (x : String) (df : List String × List St) : Bool := (refB K x).any fun C => clsB K C && makeB K C df && calB K x
noncomputable def intB (K : W.Frag) (x : String) (i : Int) : Bool := (W.nsIn K mainGlobals (Str.ofString x)).any fun o => o.any fun v => decide (vval v = some (.int i))
noncomputable def fragAt (h : Heap) (as : List Addr) : W.Frag := as.filterMap fun a => (h.get? a).map fun o => (a, o)
theorem lookup_mem {α : Type} : ∀ {l : List (Nat × α)} {a : Nat} {o : α}, l.lookup a = some o → (a, o) ∈ l
  | [], _, _, h => by cases h
  | (b, x) :: l, a, o, h => by
    rw [List.lookup_cons] at h
    split at h
    · rename_i q; cases h; rw [eq_of_beq q]; exact List.mem_cons_self
    · exact List.mem_cons_of_mem _ (lookup_mem h)
theorem fragAt_in (h : Heap) (as : List Addr) : (fragAt h as).In h := by
  intro a o hm
  have hm := lookup_mem hm
  obtain ⟨b, _, hb⟩ := List.mem_filterMap.mp hm
  cases q : h.get? b with
  | none => rw [q] at hb; cases hb
  | some o' => rw [q] at hb; cases hb; exact q
noncomputable def cHook (as : List Addr) (chk : W.Frag → Bool) : W.Hook where
  α := Bool
  obs := fun s => chk (fragAt s.heap as)
  val := fun o' => true
  says := fun o' h => ∃ K : W.Frag, K.In h ∧ chk K = true
  of := fun o' s e => ⟨_, fragAt_in _ _, e⟩
  keeps := fun _ h h' ⟨K, x, e⟩ k => ⟨K, x.keeps k, e⟩
theorem cHook_says {as : List Addr} {chk : W.Frag → Bool} {w : World} {h : Heap} (Y : (cHook as chk).says w h) : ∃ K : W.Frag, K.In h ∧ chk K = true := Y
end BP

namespace BP
noncomputable def d_is_whole : List String × List St := (["thing", "least", "most"],
  [.ret (.bop false [(.isi (.var "thing") .int), (.not_ (.isi (.var "thing") .bool)), (.cmp2 .le .le (.var "least") (.var "thing") (.var "most"))])])
noncomputable def d_is_rising : List String × List St := (["thing", "many"],
  [.if_ (.not_ (.isi (.var "thing") .list))
     [.ret (.bool_ false)]
     [],
   .assign "before" (.neg (.int_ 1)),
   .for_ 1 ["room"] (.var "thing")
     [.if_ (.not_ (.call "is_whole" [(.var "room"), (.bin .add (.var "before") (.int_ 1)), (.bin .sub (.var "many") (.int_ 1))]))
        [.ret (.bool_ false)]
        [],
      .assign "before" (.var "room")],
   .ret (.bool_ true)])
noncomputable def d_is_deed : List String × List St := (["thing", "many"],
  [.if_ (.bop true [(.not_ (.isi (.var "thing") .list)), (.cmp .ne (.bcall .len [(.var "thing")]) (.var "many"))])
     [.ret (.bool_ false)]
     [],
   .ret (.bcall .all [(.comp (.bop false [(.call "is_rising" [(.var "rooms"), (.var "many")]), (.cmp .ne (.var "rooms") (.list []))]) 1 ["rooms"] (.var "thing") [])])])
noncomputable def d_House_init : List String × List St := (["self", "looks", "deeds", "wished"],
  [.if_ (.bop true [(.not_ (.isi (.var "looks") .list)), (.not_ (.cmp2 .le .le (.int_ 1) (.bcall .len [(.var "looks")]) (.glob "MOST_ROOMS")))])
     [.raise "BadHouse" "no rooms"]
     [],
   .if_ (.not_ (.bcall .all [(.comp (.call "is_whole" [(.var "look"), (.int_ 0), (.glob "MOST_LOOK")]) 1 ["look"] (.var "looks") [])]))
     [.raise "BadHouse" "no look"]
     [],
   .if_ (.bop true [(.not_ (.isi (.var "deeds") .list)), (.not_ (.cmp2 .le .le (.int_ 1) (.bcall .len [(.var "deeds")]) (.glob "MOST_DEEDS")))])
     [.raise "BadHouse" "no deeds"]
     [],
   .if_ (.not_ (.bcall .all [(.comp (.call "is_deed" [(.var "deed"), (.bcall .len [(.var "looks")])]) 1 ["deed"] (.var "deeds") [])]))
     [.raise "BadHouse" "no deed"]
     [],
   .if_ (.not_ (.call "is_rising" [(.var "wished"), (.bcall .len [(.var "looks")])]))
     [.raise "BadHouse" "no wished rooms"]
     [],
   .assignAttr (.var "self") "looks" (.bcall .list [(.var "looks")]),
   .assignAttr (.var "self") "deeds" (.comp (.call "own_deed" [(.var "deed")]) 1 ["deed"] (.var "deeds") []),
   .assignAttr (.var "self") "wished" (.bcall .list [(.var "wished")])])
noncomputable def d_own_deed : List String × List St := (["deed"],
  [.ret (.comp (.bcall .list [(.var "rooms")]) 1 ["rooms"] (.var "deed") [])])
noncomputable def d_need_guess : List String × List St := (["house", "guess"],
  [.if_ (.bop true [(.not_ (.call "is_rising" [(.var "guess"), (.bcall .len [(.attr (.var "house") "looks")])])), (.cmp .eq (.var "guess") (.list []))])
     [.raise "BadGuess" "no guess"]
     [],
   .ret (.bool_ true)])
noncomputable def d_are_ways : List String × List St := (["thing", "least", "many"],
  [.if_ (.not_ (.isi (.var "thing") .list))
     [.ret (.bool_ false)]
     [],
   .assign "before" (.neg (.int_ 1)),
   .for_ 1 ["way"] (.var "thing")
     [.if_ (.bop true [(.not_ (.isi (.var "way") .tuple)), (.cmp .ne (.bcall .len [(.var "way")]) (.int_ 2))])
        [.ret (.bool_ false)]
        [],
      .if_ (.bop true [(.not_ (.call "is_whole" [(.sub (.var "way") (.int_ 0)), (.bin .add (.var "before") (.int_ 1)), (.glob "MOST_LOOK")])), (.not_ (.call "is_whole" [(.sub (.var "way") (.int_ 1)), (.var "least"), (.bin .sub (.var "many") (.int_ 1))]))])
        [.ret (.bool_ false)]
        [],
      .assign "before" (.sub (.var "way") (.int_ 0))],
   .ret (.bool_ true)])
noncomputable def d_is_row : List String × List St := (["thing", "place", "many", "deeds"],
  [.if_ (.bop true [(.not_ (.isi (.var "thing") .tuple)), (.cmp .ne (.bcall .len [(.var "thing")]) (.int_ 2)), (.not_ (.isi (.sub (.var "thing") (.int_ 1)) .list))])
     [.ret (.bool_ false)]
     [],
   .if_ (.cmp .is_ (.sub (.var "thing") (.int_ 0)) .none_)
     [.ret (.cmp .eq (.sub (.var "thing") (.int_ 1)) (.list []))]
     [],
   .ret (.bop false [(.call "is_whole" [(.sub (.var "thing") (.int_ 0)), (.int_ 0), (.bin .sub (.var "deeds") (.int_ 1))]), (.call "are_ways" [(.sub (.var "thing") (.int_ 1)), (.bin .add (.var "place") (.int_ 1)), (.var "many")])])])
noncomputable def d_is_plan : List String × List St := (["thing", "deeds"],
  [.if_ (.bop true [(.not_ (.isi (.var "thing") .tuple)), (.cmp .ne (.bcall .len [(.var "thing")]) (.int_ 2)), (.not_ (.isi (.sub (.var "thing") (.int_ 1)) .list))])
     [.ret (.bool_ false)]
     [],
   .assign "many" (.bcall .len [(.sub (.var "thing") (.int_ 1))]),
   .if_ (.bop true [(.cmp .gt (.var "many") (.glob "MOST_ROWS")), (.not_ (.call "are_ways" [(.sub (.var "thing") (.int_ 0)), (.int_ 0), (.var "many")]))])
     [.ret (.bool_ false)]
     [],
   .ret (.bcall .all [(.comp (.call "is_row" [(.var "row"), (.var "place"), (.var "many"), (.var "deeds")]) 2 ["place", "row"] (.sub (.var "thing") (.int_ 1)) [])])])
noncomputable def d_need_plan : List String × List St := (["house", "plan"],
  [.if_ (.not_ (.call "is_plan" [(.var "plan"), (.bcall .len [(.attr (.var "house") "deeds")])]))
     [.raise "BadPlan" "no plan"]
     [],
   .ret (.bool_ true)])
noncomputable def d_way_of : List String × List St := (["ways", "look"],
  [.for_ 1 ["way"] (.var "ways")
     [.if_ (.cmp .eq (.sub (.var "way") (.int_ 0)) (.var "look"))
        [.ret (.sub (.var "way") (.int_ 1))]
        []],
   .ret .none_])
noncomputable def d_come : List String × List St := (["reached", "place", "room", "steps"],
  [.if_ (.bop true [(.cmp .notIn (.var "room") (.sub (.var "reached") (.var "place"))), (.cmp .lt (.sub (.sub (.var "reached") (.var "place")) (.var "room")) (.var "steps"))])
     [.assignSub (.sub (.var "reached") (.var "place")) (.var "room") (.var "steps")]
     []])
noncomputable def d_spread : List String × List St := (["house", "plan", "reached", "place"],
  [.assignT ["deed", "ways"] (.sub (.sub (.var "plan") (.int_ 1)) (.var "place")),
   .for_ 1 ["room"] (.sub (.var "reached") (.var "place"))
     [.if_ (.bop false [(.cmp .is_ (.var "deed") .none_), (.cmp .notIn (.var "room") (.attr (.var "house") "wished"))])
        [.ret (.bool_ false)]
        [],
      .if_ (.cmp .isNot (.var "deed") .none_)
        [.for_ 1 ["other"] (.sub (.sub (.attr (.var "house") "deeds") (.var "deed")) (.var "room"))
           [.assign "later" (.call "way_of" [(.var "ways"), (.sub (.attr (.var "house") "looks") (.var "other"))]),
            .if_ (.cmp .is_ (.var "later") .none_)
              [.ret (.bool_ false)]
              [],
            .expr (.call "come" [(.var "reached"), (.var "later"), (.var "other"), (.bin .add (.sub (.sub (.var "reached") (.var "place")) (.var "room")) (.int_ 1))])]]
        []],
   .ret (.bool_ true)])
noncomputable def d_leads : List String × List St := (["house", "guess", "plan"],
  [.expr (.call "need_guess" [(.var "house"), (.var "guess")]),
   .expr (.call "need_plan" [(.var "house"), (.var "plan")]),
   .assign "reached" (.comp .dict0 1 ["row"] (.sub (.var "plan") (.int_ 1)) []),
   .for_ 1 ["room"] (.var "guess")
     [.assign "place" (.call "way_of" [(.sub (.var "plan") (.int_ 0)), (.sub (.attr (.var "house") "looks") (.var "room"))]),
      .if_ (.cmp .is_ (.var "place") .none_)
        [.ret .none_]
        [],
      .expr (.call "come" [(.var "reached"), (.var "place"), (.var "room"), (.int_ 0)])],
   .assign "most" (.int_ 0),
   .for_ 1 ["place"] (.bcall .range [(.bcall .len [(.sub (.var "plan") (.int_ 1))])])
     [.if_ (.not_ (.call "spread" [(.var "house"), (.var "plan"), (.var "reached"), (.var "place")]))
        [.ret .none_]
        [],
      .for_ 1 ["room"] (.sub (.var "reached") (.var "place"))
        [.assign "most" (.bcall .max [(.var "most"), (.sub (.sub (.var "reached") (.var "place")) (.var "room"))])]],
   .ret (.var "most")])
noncomputable def d_law_cell : List String × List St := (["_law_script", "_law_k"],
  [.ret (.sub (.bin .add (.slice (.var "_law_script") (.var "_law_k") (.bin .add (.var "_law_k") (.int_ 1))) (.list [(.int_ 0)])) (.int_ 0))])
noncomputable def d_law_int : List String × List St := (["_law_found"],
  [.ret (.bop false [(.cmp .isNot (.var "_law_found") (.bool_ true)), (.cmp .isNot (.var "_law_found") (.bool_ false)), (.isi (.var "_law_found") .int)])])
noncomputable def d_law_to : List String × List St := (["_law_cell_here", "_law_room", "_law_many"],
  [.assign "_law_mixed" (.bin .mod (.bin .add (.bin .mul (.bin .fdiv (.var "_law_cell_here") (.int_ 6)) (.int_ 48271)) (.bin .mul (.bin .mul (.var "_law_room") (.bin .add (.int_ 7) (.bin .mod (.var "_law_cell_here") (.int_ 101)))) (.int_ 31))) (.int_ 65537)),
   .if_ (.cmp .eq (.bin .mod (.var "_law_cell_here") (.int_ 6)) (.int_ 0))
     [.ret (.list [(.bin .mod (.bin .add (.bin .add (.var "_law_room") (.int_ 1)) (.bin .fdiv (.var "_law_cell_here") (.int_ 6))) (.var "_law_many"))])]
     [],
   .if_ (.cmp .eq (.bin .mod (.var "_law_cell_here") (.int_ 6)) (.int_ 1))
     [.ret (.list [(.bcall .max [(.int_ 0), (.bin .sub (.bin .sub (.var "_law_room") (.int_ 1)) (.bin .mod (.bin .fdiv (.var "_law_cell_here") (.int_ 6)) (.int_ 2)))])])]
     [],
   .if_ (.cmp .lt (.bin .mod (.var "_law_cell_here") (.int_ 6)) (.int_ 4))
     [.ret (.list [(.bin .mod (.var "_law_mixed") (.var "_law_many"))])]
     [],
   .if_ (.cmp .eq (.bin .mod (.var "_law_cell_here") (.int_ 6)) (.int_ 4))
     [.ret (.comp (.var "_law_k") 1 ["_law_k"] (.bcall .range [(.var "_law_many")]) [(.bop true [(.cmp .eq (.var "_law_k") (.var "_law_room")), (.cmp .eq (.var "_law_k") (.bin .mod (.var "_law_mixed") (.var "_law_many")))])])]
     [],
   .ret (.comp (.var "_law_k") 1 ["_law_k"] (.bcall .range [(.var "_law_many")]) [(.bop true [(.cmp .eq (.var "_law_k") (.var "_law_room")), (.cmp .eq (.bin .mod (.bin .fdiv (.var "_law_mixed") (.bin .add (.var "_law_k") (.int_ 1))) (.int_ 3)) (.int_ 0))])])])
noncomputable def d_law_looks : List String × List St := (["_law_script", "_law_many"],
  [.assign "_law_kinds" (.sub (.list [(.int_ 1), (.int_ 2), (.int_ 3), (.int_ 2), (.int_ 3), (.int_ 4), (.int_ 5), (.int_ 9)]) (.bin .mod (.bin .fdiv (.call "_law_cell" [(.var "_law_script"), (.int_ 0)]) (.int_ 120)) (.int_ 8))),
   .assign "_law_base" (.call "_law_cell" [(.var "_law_script"), (.int_ 1)]),
   .assign "_law_step" (.sub (.list [(.int_ 3), (.int_ 1), (.int_ 7), (.int_ 9)]) (.bin .mod (.bin .fdiv (.var "_law_base") (.int_ 10)) (.int_ 4))),
   .assign "_law_seed" (.bin .mul (.call "_law_cell" [(.var "_law_script"), (.int_ 2)]) (.int_ 48271)),
   .assign "_law_picks" (.comp (.bin .mod (.bin .fdiv (.bin .add (.var "_law_seed") (.bin .mul (.bin .mul (.var "_law_room") (.var "_law_room")) (.int_ 7919))) (.sub (.list [(.int_ 1), (.int_ 3), (.int_ 9), (.int_ 27), (.int_ 81), (.int_ 243), (.int_ 729), (.int_ 2187)]) (.var "_law_room"))) (.var "_law_kinds")) 1 ["_law_room"] (.bcall .range [(.var "_law_many")]) []),
   .if_ (.cmp .eq (.var "_law_kinds") (.int_ 9))
     [.assign "_law_picks" (.comp (.var "_law_room") 1 ["_law_room"] (.bcall .range [(.var "_law_many")]) [])]
     [],
   .ret (.comp (.bin .mod (.bin .add (.var "_law_base") (.bin .mul (.var "_law_step") (.var "_law_pick"))) (.int_ 10)) 1 ["_law_pick"] (.var "_law_picks") [])])
noncomputable def d_law_house : List String × List St := (["_law_script"],
  [.assign "_law_head" (.call "_law_cell" [(.var "_law_script"), (.int_ 0)]),
   .assign "_law_many" (.bin .add (.int_ 1) (.bin .mod (.var "_law_head") (.int_ 5))),
   .if_ (.cmp .eq (.bin .mod (.bin .fdiv (.var "_law_head") (.int_ 5)) (.int_ 8)) (.int_ 1))
     [.assign "_law_many" (.bin .add (.int_ 6) (.bin .mod (.bin .fdiv (.var "_law_head") (.int_ 40)) (.int_ 3)))]
     [],
   .assign "_law_count" (.bin .add (.int_ 1) (.bin .mod (.call "_law_cell" [(.var "_law_script"), (.int_ 3)]) (.int_ 3))),
   .if_ (.cmp .eq (.bin .mod (.bin .fdiv (.call "_law_cell" [(.var "_law_script"), (.int_ 3)]) (.int_ 3)) (.int_ 8)) (.int_ 1))
     [.assign "_law_count" (.bin .add (.int_ 4) (.bin .mod (.bin .fdiv (.call "_law_cell" [(.var "_law_script"), (.int_ 3)]) (.int_ 24)) (.int_ 2)))]
     [],
   .assign "_law_deeds" (.list []),
   .for_ 1 ["_law_k"] (.bcall .range [(.var "_law_count")])
     [.assign "_law_cell_here" (.call "_law_cell" [(.var "_law_script"), (.bin .add (.int_ 4) (.var "_law_k"))]),
      .expr (.meth (.var "_law_deeds") .append [(.comp (.call "_law_to" [(.var "_law_cell_here"), (.var "_law_room"), (.var "_law_many")]) 1 ["_law_room"] (.bcall .range [(.var "_law_many")]) [])])],
   .assign "_law_bits" (.call "_law_cell" [(.var "_law_script"), (.int_ 9)]),
   .assign "_law_wished_here" (.comp (.var "_law_room") 1 ["_law_room"] (.bcall .range [(.var "_law_many")]) [(.cmp .eq (.bin .mod (.bin .fdiv (.var "_law_bits") (.sub (.list [(.int_ 1), (.int_ 2), (.int_ 4), (.int_ 8), (.int_ 16), (.int_ 32), (.int_ 64), (.int_ 128)]) (.var "_law_room"))) (.int_ 2)) (.int_ 1))]),
   .if_ (.cmp .eq (.bin .mod (.bin .fdiv (.var "_law_bits") (.int_ 256)) (.int_ 2)) (.int_ 1))
     [.assign "_law_wished_here" (.list [(.bin .mod (.bin .fdiv (.var "_law_bits") (.int_ 512)) (.var "_law_many"))])]
     [],
   .ret (.tup [(.call "_law_looks" [(.var "_law_script"), (.var "_law_many")]), (.var "_law_deeds"), (.var "_law_wished_here")])])
noncomputable def d_law_guess : List String × List St := (["_law_script", "_law_many"],
  [.assign "_law_bits" (.call "_law_cell" [(.var "_law_script"), (.int_ 10)]),
   .assign "_law_found" (.comp (.var "_law_room") 1 ["_law_room"] (.bcall .range [(.var "_law_many")]) [(.cmp .eq (.bin .mod (.bin .fdiv (.var "_law_bits") (.sub (.list [(.int_ 1), (.int_ 2), (.int_ 4), (.int_ 8), (.int_ 16), (.int_ 32), (.int_ 64), (.int_ 128)]) (.var "_law_room"))) (.int_ 2)) (.int_ 1))]),
   .if_ (.cmp .eq (.var "_law_found") (.list []))
     [.ret (.list [(.bin .mod (.bin .fdiv (.var "_law_bits") (.int_ 256)) (.var "_law_many"))])]
     [],
   .ret (.var "_law_found")])
noncomputable def d_law_led : List String × List St := (["_law_deed", "_law_guess_here"],
  [.assign "_law_found" (.list []),
   .for_ 1 ["_law_room"] (.bcall .range [(.bcall .len [(.var "_law_deed")])])
     [.if_ (.cmp .ne (.comp (.var "_law_other") 1 ["_law_other"] (.var "_law_guess_here") [(.cmp .isIn (.var "_law_room") (.sub (.var "_law_deed") (.var "_law_other")))]) (.list []))
        [.expr (.meth (.var "_law_found") .append [(.var "_law_room")])]
        []],
   .ret (.var "_law_found")])
noncomputable def d_law_ways : List String × List St := (["_law_cell_here", "_law_seen", "_law_at", "_law_wide"],
  [.assign "_law_found" (.list []),
   .for_ 1 ["_law_look"] (.bcall .range [(.int_ 10)])
     [.if_ (.bop false [(.cmp .isIn (.var "_law_look") (.var "_law_seen")), (.cmp .gt (.var "_law_wide") (.int_ 0)), (.cmp .ne (.bin .mod (.bin .fdiv (.var "_law_cell_here") (.int_ 8)) (.int_ 23)) (.var "_law_look"))])
        [.expr (.meth (.var "_law_found") .append [(.tup [(.var "_law_look"), (.bin .add (.var "_law_at") (.bin .mod (.bin .mod (.bin .add (.bin .mul (.var "_law_cell_here") (.int_ 48271)) (.bin .mul (.var "_law_look") (.int_ 7919))) (.int_ 10007)) (.var "_law_wide")))])])]
        [.if_ (.bop false [(.cmp .gt (.var "_law_wide") (.int_ 0)), (.cmp .notIn (.var "_law_look") (.var "_law_seen")), (.cmp .eq (.bin .mod (.bin .add (.var "_law_cell_here") (.var "_law_look")) (.int_ 17)) (.int_ 3))])
           [.expr (.meth (.var "_law_found") .append [(.tup [(.var "_law_look"), (.bin .add (.var "_law_at") (.bin .mod (.bin .fdiv (.bin .add (.var "_law_cell_here") (.var "_law_look")) (.int_ 17)) (.var "_law_wide")))])])]
           []]],
   .ret (.var "_law_found")])
noncomputable def d_law_rows : List String × List St := (["_law_script", "_law_seen", "_law_deeds"],
  [.assign "_law_many" (.bin .mod (.call "_law_cell" [(.var "_law_script"), (.int_ 11)]) (.int_ 10)),
   .if_ (.cmp .eq (.bin .mod (.bin .fdiv (.call "_law_cell" [(.var "_law_script"), (.int_ 11)]) (.int_ 10)) (.int_ 8)) (.int_ 1))
     [.assign "_law_many" (.bin .add (.var "_law_many") (.bin .mod (.bin .fdiv (.call "_law_cell" [(.var "_law_script"), (.int_ 11)]) (.int_ 80)) (.int_ 60)))]
     [],
   .assign "_law_rows_here" (.list []),
   .for_ 1 ["_law_at"] (.bcall .range [(.var "_law_many")])
     [.assign "_law_cell_here" (.bin .add (.call "_law_cell" [(.var "_law_script"), (.bin .add (.int_ 14) (.bin .mod (.var "_law_at") (.int_ 20)))]) (.bin .mul (.int_ 31) (.bin .fdiv (.var "_law_at") (.int_ 20)))),
      .if_ (.bop true [(.cmp .eq (.var "_law_at") (.bin .sub (.var "_law_many") (.int_ 1))), (.cmp .eq (.bin .mod (.var "_law_cell_here") (.int_ 8)) (.int_ 1))])
        [.expr (.meth (.var "_law_rows_here") .append [(.tup [.none_, (.list [])])])]
        [.expr (.meth (.var "_law_rows_here") .append [(.tup [(.bin .mod (.bin .fdiv (.var "_law_cell_here") (.int_ 184)) (.var "_law_deeds")), (.call "_law_ways" [(.var "_law_cell_here"), (.var "_law_seen"), (.bin .add (.var "_law_at") (.int_ 1)), (.bcall .min [(.int_ 3), (.bin .sub (.bin .sub (.var "_law_many") (.var "_law_at")) (.int_ 1))])])])])]],
   .ret (.tup [(.call "_law_ways" [(.call "_law_cell" [(.var "_law_script"), (.int_ 12)]), (.var "_law_seen"), (.int_ 0), (.var "_law_many")]), (.var "_law_rows_here")])])
noncomputable def d_law_way_for : List String × List St := (["_law_ways_here", "_law_look"],
  [.ret (.sub (.bin .add (.comp (.var "_law_place") 3 ["_law_seen", "_law_place"] (.var "_law_ways_here") [(.cmp .eq (.var "_law_seen") (.var "_law_look"))]) (.list [.none_])) (.int_ 0))])
noncomputable def d_law_walked : List String × List St := (["_law_looks_here", "_law_deeds", "_law_guess_here", "_law_plan"],
  [.assign "_law_may" (.comp (.list []) 1 ["_law_row"] (.sub (.var "_law_plan") (.int_ 1)) []),
   .for_ 1 ["_law_at"] (.bcall .range [(.neg (.int_ 1)), (.bcall .len [(.sub (.var "_law_plan") (.int_ 1))])])
     [.assign "_law_ways_here" (.sub (.var "_law_plan") (.int_ 0)),
      .assign "_law_rooms" (.var "_law_guess_here"),
      .if_ (.cmp .ge (.var "_law_at") (.int_ 0))
        [.assignT ["_law_deed", "_law_ways_here"] (.sub (.sub (.var "_law_plan") (.int_ 1)) (.var "_law_at")),
         .assign "_law_rooms" (.ite (.cmp .is_ (.var "_law_deed") .none_) (.list []) (.call "_law_led" [(.sub (.var "_law_deeds") (.var "_law_deed")), (.sub (.var "_law_may") (.var "_law_at"))]))]
        [],
      .for_ 1 ["_law_room"] (.var "_law_rooms")
        [.assign "_law_place" (.call "_law_way_for" [(.var "_law_ways_here"), (.sub (.var "_law_looks_here") (.var "_law_room"))]),
         .if_ (.cmp .is_ (.var "_law_place") .none_)
           [.ret .none_]
           [],
         .if_ (.cmp .notIn (.var "_law_room") (.sub (.var "_law_may") (.var "_law_place")))
           [.expr (.meth (.sub (.var "_law_may") (.var "_law_place")) .append [(.var "_law_room")])]
           []]],
   .ret (.var "_law_may")])
noncomputable def d_law_most : List String × List St := (["_law_looks_here", "_law_ways_here", "_law_rooms", "_law_done"],
  [.ret (.bcall .max [(.comp (.sub (.var "_law_done") (.tup [(.call "_law_way_for" [(.var "_law_ways_here"), (.sub (.var "_law_looks_here") (.var "_law_room"))]), (.var "_law_room")])) 1 ["_law_room"] (.var "_law_rooms") [])])])
noncomputable def d_law_steps : List String × List St := (["_law_house_here", "_law_guess_here", "_law_plan", "_law_wished_here"],
  [.assignT ["_law_looks_here", "_law_deeds"] (.slice (.var "_law_house_here") .none_ (.int_ 2)),
   .assign "_law_may" (.call "_law_walked" [(.var "_law_looks_here"), (.var "_law_deeds"), (.var "_law_guess_here"), (.var "_law_plan")]),
   .if_ (.cmp .is_ (.var "_law_may") .none_)
     [.ret .none_]
     [],
   .assign "_law_done" .dict0,
   .for_ 4 ["_law_at"] (.bcall .range [(.bcall .len [(.sub (.var "_law_plan") (.int_ 1))])])
     [.assignT ["_law_deed", "_law_ways_here"] (.sub (.sub (.var "_law_plan") (.int_ 1)) (.var "_law_at")),
      .for_ 1 ["_law_room"] (.sub (.var "_law_may") (.var "_law_at"))
        [.assignSub (.var "_law_done") (.tup [(.var "_law_at"), (.var "_law_room")]) (.int_ 0),
         .if_ (.bop false [(.cmp .is_ (.var "_law_deed") .none_), (.cmp .notIn (.var "_law_room") (.var "_law_wished_here"))])
           [.ret .none_]
           [],
         .if_ (.cmp .isNot (.var "_law_deed") .none_)
           [.assignSub (.var "_law_done") (.tup [(.var "_law_at"), (.var "_law_room")]) (.bin .add (.int_ 1) (.call "_law_most" [(.var "_law_looks_here"), (.var "_law_ways_here"), (.sub (.sub (.var "_law_deeds") (.var "_law_deed")) (.var "_law_room")), (.var "_law_done")]))]
           []]],
   .ret (.call "_law_most" [(.var "_law_looks_here"), (.sub (.var "_law_plan") (.int_ 0)), (.var "_law_guess_here"), (.var "_law_done")])])
noncomputable def d_law_crossed : List String × List St := (["_law_cell_here", "_law_base"],
  [.assignT ["_law_p", "_law_q", "_law_r", "_law_s"] (.comp (.bin .mod (.bin .add (.var "_law_k") (.bin .fdiv (.var "_law_cell_here") (.int_ 16))) (.int_ 4)) 1 ["_law_k"] (.bcall .range [(.int_ 4)]) []),
   .assign "_law_looks_here" (.comp (.bin .mod (.bin .add (.var "_law_base") (.bin .mul (.int_ 3) (.var "_law_room"))) (.int_ 10)) 1 ["_law_room"] (.bcall .range [(.int_ 4)]) []),
   .assign "_law_many" (.bin .add (.int_ 1) (.bin .mod (.var "_law_cell_here") (.int_ 4))),
   .assign "_law_end" (.bin .add (.bin .add (.var "_law_many") (.int_ 2)) (.bin .mod (.bin .fdiv (.var "_law_cell_here") (.int_ 4)) (.int_ 4))),
   .assign "_law_go" (.comp (.list [(.var "_law_room")]) 1 ["_law_room"] (.bcall .range [(.int_ 4)]) []),
   .assignSub (.var "_law_go") (.var "_law_p") (.list [(.var "_law_r")]),
   .assignSub (.var "_law_go") (.var "_law_q") (.list [(.var "_law_s")]),
   .assign "_law_rows_here" (.comp (.tup [(.int_ 0), (.list [(.tup [(.sub (.var "_law_looks_here") (.var "_law_q")), (.bin .add (.var "_law_k") (.int_ 1))])])]) 1 ["_law_k"] (.bcall .range [(.var "_law_many")]) []),
   .expr (.meth (.var "_law_rows_here") .append [(.tup [(.int_ 1), (.bcall .sorted [(.list [(.tup [(.sub (.var "_law_looks_here") (.var "_law_r")), (.bin .add (.var "_law_many") (.int_ 1))]), (.tup [(.sub (.var "_law_looks_here") (.var "_law_s")), (.var "_law_end")])])])])]),
   .assign "_law_rows_here" (.bin .add (.var "_law_rows_here") (.comp (.tup [(.int_ 0), (.list [(.tup [(.sub (.var "_law_looks_here") (.var "_law_r")), (.bin .add (.var "_law_k") (.int_ 1))])])]) 1 ["_law_k"] (.bcall .range [(.bin .add (.var "_law_many") (.int_ 1)), (.var "_law_end")]) [])),
   .expr (.meth (.var "_law_rows_here") .append [(.tup [.none_, (.list [])])]),
   .assign "_law_house_here" (.tup [(.var "_law_looks_here"), (.list [(.comp (.list [(.var "_law_room")]) 1 ["_law_room"] (.bcall .range [(.int_ 4)]) []), (.var "_law_go")]), (.bcall .sorted [(.list [(.var "_law_r"), (.var "_law_s")])])]),
   .ret (.tup [(.var "_law_house_here"), (.bcall .sorted [(.list [(.var "_law_p"), (.var "_law_q")])]), (.tup [(.bcall .sorted [(.list [(.tup [(.sub (.var "_law_looks_here") (.var "_law_p")), (.var "_law_many")]), (.tup [(.sub (.var "_law_looks_here") (.var "_law_q")), (.int_ 0)])])]), (.var "_law_rows_here")])])])
noncomputable def d_law_turned_to : List String × List St := (["_law_handed", "_law_moved", "_law_guess_here", "_law_plan"],
  [.expr (.meth (.var "_law_handed") .clear []),
   .expr (.meth (.var "_law_handed") .extend [(.var "_law_guess_here")]),
   .for_ 1 ["_law_k"] (.bcall .range [(.int_ 2)])
     [.expr (.meth (.sub (.var "_law_moved") (.var "_law_k")) .clear []),
      .expr (.meth (.sub (.var "_law_moved") (.var "_law_k")) .extend [(.sub (.var "_law_plan") (.var "_law_k"))])]])
noncomputable def d_law_wished : List String × List St := (["_law_house_here", "_law_guess_here", "_law_plan", "_law_cell_here"],
  [.assign "_law_may" (.call "_law_walked" [(.sub (.var "_law_house_here") (.int_ 0)), (.sub (.var "_law_house_here") (.int_ 1)), (.var "_law_guess_here"), (.var "_law_plan")]),
   .if_ (.bop true [(.cmp .eq (.bin .mod (.var "_law_cell_here") (.int_ 4)) (.int_ 0)), (.cmp .is_ (.var "_law_may") .none_)])
     [.ret (.sub (.var "_law_house_here") (.int_ 2))]
     [],
   .assign "_law_ends" (.list []),
   .for_ 2 ["_law_at", "_law_row"] (.sub (.var "_law_plan") (.int_ 1))
     [.if_ (.cmp .is_ (.sub (.var "_law_row") (.int_ 0)) .none_)
        [.assign "_law_ends" (.bin .add (.var "_law_ends") (.sub (.var "_law_may") (.var "_law_at")))]
        []],
   .assign "_law_found" (.comp (.var "_law_room") 1 ["_law_room"] (.bcall .range [(.bcall .len [(.sub (.var "_law_house_here") (.int_ 0))])]) [(.cmp .isIn (.var "_law_room") (.var "_law_ends"))]),
   .if_ (.bop false [(.cmp .eq (.bin .mod (.var "_law_cell_here") (.int_ 4)) (.int_ 1)), (.cmp .ne (.var "_law_found") (.list []))])
     [.ret (.comp (.var "_law_room") 1 ["_law_room"] (.var "_law_found") [(.cmp .ne (.var "_law_room") (.sub (.var "_law_found") (.bin .mod (.bin .fdiv (.var "_law_cell_here") (.int_ 4)) (.bcall .len [(.var "_law_found")]))))])]
     [],
   .ret (.var "_law_found")])
noncomputable def d_law_copy : List String × List St := (["_law_deed"],
  [.ret (.comp (.bcall .list [(.var "_law_rooms")]) 1 ["_law_rooms"] (.var "_law_deed") [])])
noncomputable def d_law_word : List String × List St := (["_law_e"],
  [.assign "_law_word_here" (.bin .add (.bin .mul (.str_ "bare") (.bcall .int [(.not_ (.isi (.var "_law_e") .valueError))])) (.bin .mul (.str_ "house") (.bcall .int [(.isi (.var "_law_e") (.own "BadHouse"))]))),
   .assign "_law_word_here" (.bin .add (.bin .add (.var "_law_word_here") (.bin .mul (.str_ "guess") (.bcall .int [(.isi (.var "_law_e") (.own "BadGuess"))]))) (.bin .mul (.str_ "deed") (.bcall .int [(.isi (.var "_law_e") (.own "BadDeed"))]))),
   .assign "_law_word_here" (.bin .add (.bin .add (.var "_law_word_here") (.bin .mul (.str_ "plan") (.bcall .int [(.isi (.var "_law_e") (.own "BadPlan"))]))) (.bin .mul (.str_ "steps") (.bcall .int [(.isi (.var "_law_e") (.own "BadSteps"))]))),
   .ret (.bin .add (.bin .add (.var "_law_word_here") (.bin .mul (.str_ "way") (.bcall .int [(.isi (.var "_law_e") (.own "NoWay"))]))) (.bin .mul (.str_ "text") (.bcall .int [(.isi (.var "_law_e") (.own "BadText"))])))])
noncomputable def d_law_refused : List String × List St := (["_law_made", "_law_guess_here", "_law_plan"],
  [.try_ [.expr (.call "leads" [(.var "_law_made"), (.var "_law_guess_here"), (.var "_law_plan")])] "HouseError" "_law_e"
     [.ret (.call "_law_word" [(.var "_law_e")])],
   .ret (.str_ "")])
noncomputable def d_law : List String × List St := (["_law_script"],
  [.assign "_law_house_here" (.call "_law_house" [(.var "_law_script")]),
   .assign "_law_guess_here" (.call "_law_guess" [(.var "_law_script"), (.bcall .len [(.sub (.var "_law_house_here") (.int_ 0))])]),
   .assign "_law_plan" (.call "_law_rows" [(.var "_law_script"), (.sub (.var "_law_house_here") (.int_ 0)), (.bcall .len [(.sub (.var "_law_house_here") (.int_ 1))])]),
   .if_ (.cmp .eq (.bin .mod (.bin .fdiv (.call "_law_cell" [(.var "_law_script"), (.int_ 13)]) (.int_ 48)) (.int_ 4)) (.int_ 1))
     [.assignT ["_law_house_here", "_law_guess_here", "_law_plan"] (.call "_law_crossed" [(.call "_law_cell" [(.var "_law_script"), (.int_ 14)]), (.call "_law_cell" [(.var "_law_script"), (.int_ 1)])])]
     [],
   .assign "_law_wished_here" (.call "_law_wished" [(.var "_law_house_here"), (.var "_law_guess_here"), (.var "_law_plan"), (.call "_law_cell" [(.var "_law_script"), (.int_ 13)])]),
   .assign "_law_made" (.call "House" [(.bcall .list [(.sub (.var "_law_house_here") (.int_ 0))]), (.comp (.call "_law_copy" [(.var "_law_deed")]) 1 ["_law_deed"] (.sub (.var "_law_house_here") (.int_ 1)) []), (.bcall .list [(.var "_law_wished_here")])]),
   .assign "_law_kept" (.tup [(.bcall .list [(.sub (.var "_law_plan") (.int_ 0))]), (.comp (.tup [(.sub (.var "_law_row") (.int_ 0)), (.bcall .list [(.sub (.var "_law_row") (.int_ 1))])]) 1 ["_law_row"] (.sub (.var "_law_plan") (.int_ 1)) [])]),
   .assign "_law_handed" (.bcall .list [(.var "_law_guess_here")]),
   .expr (.call "leads" [(.var "_law_made"), (.var "_law_handed"), (.var "_law_plan")]),
   .if_ (.bop true [(.cmp .ne (.var "_law_handed") (.var "_law_guess_here")), (.cmp .ne (.var "_law_plan") (.var "_law_kept"))])
     [.ret (.bool_ false)]
     [],
   .assign "_law_moved" (.tup [(.list []), (.list [])]),
   .assign "_law_shorter" (.tup [(.bcall .list [(.sub (.var "_law_plan") (.int_ 0))]), (.bin .add (.slice (.list [(.tup [.none_, (.list [])])]) .none_ (.bcall .len [(.sub (.var "_law_plan") (.int_ 1))])) (.slice (.sub (.var "_law_plan") (.int_ 1)) (.int_ 1) .none_))]),
   .assign "_law_turned" (.tup [(.bcall .list [(.sub (.var "_law_plan") (.int_ 0))]), (.bin .add (.slice (.sub (.var "_law_plan") (.int_ 1)) .none_ (.neg (.int_ 1))) (.slice (.list [(.tup [(.int_ 0), (.list [])])]) .none_ (.bcall .len [(.sub (.var "_law_plan") (.int_ 1))])))]),
   .for_ 3 ["_law_one", "_law_way"] (.tup [(.tup [(.var "_law_guess_here"), (.var "_law_plan")]), (.tup [(.list [(.bin .sub (.bcall .len [(.sub (.var "_law_house_here") (.int_ 0))]) (.int_ 1))]), (.var "_law_plan")]), (.tup [(.var "_law_guess_here"), (.var "_law_shorter")]), (.tup [(.var "_law_guess_here"), (.var "_law_turned")]), (.tup [(.var "_law_guess_here"), (.var "_law_plan")])])
     [.expr (.call "_law_turned_to" [(.var "_law_handed"), (.var "_law_moved"), (.var "_law_one"), (.var "_law_way")]),
      .assign "_law_found" (.call "leads" [(.var "_law_made"), (.var "_law_handed"), (.var "_law_moved")]),
      .assign "_law_due" (.call "_law_steps" [(.var "_law_house_here"), (.var "_law_one"), (.var "_law_way"), (.var "_law_wished_here")]),
      .if_ (.bop true [(.bop false [(.cmp .is_ (.var "_law_due") .none_), (.cmp .isNot (.var "_law_found") .none_)]), (.bop false [(.cmp .isNot (.var "_law_due") .none_), (.bop true [(.not_ (.call "_law_int" [(.var "_law_found")])), (.cmp .ne (.var "_law_found") (.var "_law_due"))])])])
        [.ret (.bool_ false)]
        []],
   .assign "_law_wrong" (.sub (.list [(.tup [(.sub (.var "_law_plan") (.int_ 0)), (.bin .add (.sub (.var "_law_plan") (.int_ 1)) (.list [(.tup [(.int_ 99), (.list [])])]))]), (.tup [(.sub (.var "_law_plan") (.int_ 0))]), .none_]) (.bin .mod (.bin .fdiv (.call "_law_cell" [(.var "_law_script"), (.int_ 13)]) (.int_ 16)) (.int_ 3))),
   .if_ (.cmp .ne (.call "_law_refused" [(.var "_law_made"), (.bcall .list [(.var "_law_guess_here")]), (.var "_law_wrong")]) (.str_ "plan"))
     [.ret (.bool_ false)]
     [],
   .ret (.bop false [(.cmp .eq (.call "_law_refused" [(.var "_law_made"), (.list []), (.var "_law_wrong")]) (.str_ "guess")), (.cmp .eq (.call "_law_refused" [(.var "_law_made"), (.list [(.bcall .len [(.sub (.var "_law_house_here") (.int_ 0))])]), (.var "_law_plan")]) (.str_ "guess"))])])
end BP

set_option Elab.async false
namespace BP
open PySem PySem.W PyProof.Rows
noncomputable def fns05 : List (String × (List String × List St)) := [("is_whole", d_is_whole), ("is_rising", d_is_rising), ("is_deed", d_is_deed), ("own_deed", d_own_deed), ("need_guess", d_need_guess), ("are_ways", d_are_ways), ("is_row", d_is_row), ("is_plan", d_is_plan), ("need_plan", d_need_plan), ("way_of", d_way_of), ("come", d_come), ("spread", d_spread), ("leads", d_leads), ("_law_cell", d_law_cell), ("_law_int", d_law_int), ("_law_to", d_law_to), ("_law_looks", d_law_looks), ("_law_house", d_law_house), ("_law_guess", d_law_guess), ("_law_led", d_law_led), ("_law_ways", d_law_ways), ("_law_rows", d_law_rows), ("_law_way_for", d_law_way_for), ("_law_walked", d_law_walked), ("_law_most", d_law_most), ("_law_steps", d_law_steps), ("_law_crossed", d_law_crossed), ("_law_turned_to", d_law_turned_to), ("_law_wished", d_law_wished), ("_law_copy", d_law_copy), ("_law_word", d_law_word), ("_law_refused", d_law_refused)]
noncomputable def ads05 : List Nat := [1, 2, 3, 15, 22, 23, 24, 25, 28, 35, 36, 37, 40, 47, 48, 49, 52, 59, 60, 61, 64, 71, 72, 73, 76, 83, 84, 85, 88, 95, 96, 97, 100, 107, 108, 109, 112, 114, 115, 117, 118, 119, 121, 122, 124, 125, 126, 129, 130, 138, 141, 142, 143, 144, 145, 146, 147, 150, 153, 154, 155, 157, 158, 160, 161, 162, 164, 165, 167, 168, 169, 171, 172, 174, 175, 176, 179, 180, 181, 183, 184, 186, 187, 188, 190, 191, 193, 194, 195, 197, 198, 200, 201, 202, 204, 205, 207, 208, 209, 212, 213, 214, 216, 217, 219, 220, 221, 223, 224, 226, 227, 228, 231, 232, 233, 236, 237, 238, 241, 242, 243, 246, 247, 253, 256, 257, 258, 260, 261, 263, 264, 265, 267, 268, 270, 271, 272, 275, 276, 277, 280, 281, 282, 285, 286, 287, 289, 290, 292, 293, 294, 297, 298, 299, 301, 302, 304, 305, 306, 309, 310, 311, 314, 315, 316, 318, 319, 321, 322, 323, 325, 326, 328, 329, 330, 333, 334]
noncomputable def chk05 (K : PySem.W.Frag) : Bool := bNames.all (freeB K) && (okB K fns05 && (clsOkB K "House" d_House_init && (fnB K "law" d_law && (intB K "MOST_ROOMS" 8 && (intB K "MOST_DEEDS" 5 && (intB K "MOST_LOOK" 9 && (intB K "MOST_ROWS" 300 && (excsB K excNames && (K.lookup PySem.sysModules).isSome))))))))
theorem map_both {α β γ : Type} {o : Option α} {f : α → β} {g : α → γ} {b : β} {c : γ} (h1 : o.map f = some b) (h2 : o.map g = some c) : o.map (fun s => (f s, g s)) = some (b, c) := by
  cases o with
  | none => exact nomatch h1
  | some a => exact congrArg some (Prod.ext (Option.some.inj h1) (Option.some.inj h2))
noncomputable def q05 : Program := { Challenge.pw_uf020010_05 with main := { Challenge.pw_uf020010_05.main with body := [1, 2, 3, 4, 5, 6, 7, 8, 10, 11, 12, 13, 14, 15, 16, 17, 19, 21, 22, 23, 24, 25, 26, 27, 28, 29, 31, 32, 33, 34, 35, 36, 37, 38, 39, 40, 41, 42, 43, 44, 45, 46, 47, 48, 49, 50, 51].filterMap fun i => Challenge.pw_uf020010_05.main.body[i]? } }
noncomputable abbrev X05 : Shared → Bool := fun s => xlAt q05 [] s && recOk (RowW.records Challenge.rw_uf020010_05.row.toRowW) s
theorem seen05 (w : World) : (openEnds treeTable Challenge.rw_uf020010_05.row.prog w 6068).map (openSeen q05 [] (importedModules Challenge.rw_uf020010_05.row.prog.main.body) X05 true) = some (openGood q05 []) := by kernel_rfl
theorem ran05 (w : World) : (openEnds treeTable Challenge.rw_uf020010_05.row.prog w 6068).map (fun s => chk05 (fragAt s.heap ads05)) = some true := by kernel_rfl
theorem def05 : (defOf q05 Challenge.rw_uf020010_05.row.name).isSome = true := by kernel_rfl
noncomputable def d05 : DefRec × List (Str × PySem.Expr) := (defOf q05 Challenge.rw_uf020010_05.row.name).get def05
theorem the05 : Challenge.rw_uf020010_05.row.prog.theDef Challenge.rw_uf020010_05.row.name = some (d05.1.params, d05.1.body, d05.1.scope) := by kernel_rfl
theorem kw05 : kwWritten? d05.1.params.kwonlyargs d05.1.params.kw_defaults = some d05.2 := by kernel_rfl
set_option maxRecDepth 100000 in
set_option maxHeartbeats 8000000 in
theorem head05 (H : WalkO q05 [] (XL q05 []) (cHook ads05 chk05).says Challenge.rw_uf020010_05.row.toRowW d05.1 d05.2 fun f vs => call f vs) : PySem.Challenge.rw_uf020010_05.Holds := by
  w_on
  o_law
  refine holds_open (q := q05) (loose := []) (Xt := X05) (XP := XL q05 []) (Yf := Hook.obs (cHook ads05 chk05)) (Ya := Hook.val (cHook ads05 chk05)) (YP := Hook.says (cHook ads05 chk05)) (N := 6068) (fun w => map_both (seen05 w) (ran05 w)) (Hook.of _) (Hook.keeps _) (fun s e => xl_of s (Bool.and_eq_true_iff.mp e).1) XL.keeps (Option.some_get def05).symm the05 kw05 (fun s e => recFacts_of (Bool.and_eq_true_iff.mp e).2) (by rfl) (by assumption) (by decide +kernel) ⟨rfl, rfl, rfl, rfl, rfl, by decide +kernel⟩ ?hw H
  case hw => w_witness2
end BP

namespace BP
open PySem
theorem ofString_inj {a b : String} (h : Str.ofString a = Str.ofString b) : a = b := by
  rw [Str.ofString_eq_toList, Str.ofString_eq_toList] at h
  have h1 : a.toList.map Char.toNat = b.toList.map Char.toNat := by
    have := congrArg (fun s : Str => s.cps.toList) h
    simpa using this
  have h2 : a.toList = b.toList := by
    refine (List.map_inj_right (f := Char.toNat) fun x y e => ?_).mp h1
    exact Char.ext (UInt32.toNat_inj.mp e)
  exact String.toList_inj.mp h2
noncomputable def VsR (vs : List Value) (xs : List Val) : Prop := vs.map vval = xs.map some
set_option genInjectivity false in
structure Gd where
  prog : Program
  w : World
  base : Heap
  mg : Str → Option Value
  mb : Str → Option Value
  os : OsState
  gens : Array GenState
  exc : String → Option Addr
  cls : String → Option Addr
  g : base.Ns mainGlobals mg
  b : base.Ns builtinsNs mb
  bi : ∀ x : Str, x ≠ "__name__" → mb x = bootBuiltins x
  nolimit : base.NoLimit
  free : ∀ x ∈ bNames, mg (Str.ofString x) = none
  K : W.Frag
  kin : K.In base
  excOk : ∀ c C, exc c = some C → mg (Str.ofString c) = some (.ref C) ∧ ∃ bm, XCls base C bm veMro "ValueError.__new__" ∧ ∀ d D, exc d = some D → (Value.ref C :: bm).contains (.ref D) = excSub c d
  clsOk : ∀ c C, cls c = some C → W.plainGet K C "" = true ∧ W.hasDictIn K C = true ∧ W.plainOver K C = true ∧ W.findIn K (.ref C) "__setattr__" = some (some (.builtin "object.__setattr__")) ∧ ∀ a ∈ attrNames, W.findIn K (.ref C) (Str.ofString a) = some none
  mods : ∃ o, base.get? sysModules = some o
  fns : List String
  callee : ∀ f ∈ fns, ∃ fv, mg (Str.ofString f) = some fv ∧ ∀ (M : Model) (A : Around) (s : Shared) (Q : Keeper → Shared → Prop) (E : Value → Shared → Prop), base.StaysIn s.heap →
    (∀ k, k = .frame ∨ k = .machine → Q k s) → wpAny M A (keeperOf fv) Q E s
inductive AttR : List DictEntry → List (String × Val) → Prop
  | nil : AttR [] []
  | cons {e es a V fs} : (∃ t, e.key = .str (Str.ofString a) t) → vval e.val = some V → AttR es fs → AttR (e :: es) ((a, V) :: fs)
structure TDict (G : Gd) (ep : Nat) (es : List (List Int × Nat × Val)) (o : Obj) : Prop where
  ex : o.ExactDict
  ents : ∃ (ds : Array DictEntry) (xs : List (List Int × Addr × Value)), o.data = .dict ds ep ∧ ds.toList = xs.map (entryOfKey (tupleKind (intKind G.prog G.w))) ∧ xs.map (fun x => (x.1, x.2.1, vval x.2.2)) = es.map fun e => (e.1, e.2.1, some e.2.2)
  nodup : (es.map (·.1)).Nodup
  len : es.length ≤ lim + 1
structure IDict (G : Gd) (ep : Nat) (es : List (Int × Val)) (o : Obj) : Prop where
  ex : o.ExactDict
  ents : ∃ (ds : Array DictEntry) (kvs : List (Int × Value)), o.data = .dict ds ep ∧ KeysOf (intKind G.prog G.w) ds ∧ Pairs (intKind G.prog G.w) ds.toList kvs ∧ kvs.map (fun p => (p.1, vval p.2)) = es.map fun e => (e.1, some e.2)
  nodup : (es.map (·.1)).Nodup
  len : es.length ≤ lim + 1
noncomputable def ObR (G : Gd) : Ob → Obj → Prop
  | .list xs, o => ∃ vs n, o = ⟨.type "list", none, .seq vs n, #[]⟩ ∧ VsR vs.toList xs ∧ xs.length ≤ 2 * lim
  | .tup xs, o => ∃ vs n, o = ⟨.type "tuple", none, .seq vs n, #[]⟩ ∧ VsR vs.toList xs ∧ xs.length ≤ 2 * lim
  | .range lo hi, o => (-lim ≤ lo ∧ lo ≤ lim ∧ -lim ≤ hi ∧ hi ≤ lim) ∧ ∃ t u v, o = ⟨.type "range", none, .fields #[.int lo t, .int hi u, .int 1 v], #[]⟩
  | .ro xs, o => ∃ vs n, o.cls = .type "list" ∧ o.data = .seq vs n ∧ VsR vs.toList xs ∧ xs.length ≤ lim
  | .exc c, o => ∃ C vs, G.exc c = some C ∧ o.cls = .ref C ∧ o.data = .fields vs
  | .inst c dx, o => ∃ C, G.cls c = some C ∧ o = ⟨.ref C, some dx, .plain, #[]⟩
  | .attrs fs, o => ∃ es n, o = W.dictOf es n ∧ AttR es fs ∧ fs.length ≤ 100
  | .idict ep es, o => IDict G ep es o
  | .tdict ep es, o => TDict G ep es o
set_option genInjectivity false in
structure Cx where
  G : Gd
  d : Nat
  hd : Bool
  err : String → Sto → Prop
  A : Around
  fr : List Env
  env : Env
  own : Addr → Prop
  σ₀ : Sto
  h₀ : Heap
noncomputable def Cx.gv (c : Cx) : Glo := ⟨fun x => (c.G.mg (Str.ofString x)).bind vval, fun f => c.G.fns.contains f, fun x => (c.G.exc x).isSome, c.hd, c.err⟩
structure EnvR (G : Gd) (env : Env) (ρ : Loc) (σ : Sto) (h : Heap) : Prop where
  kind : env.scope.kind = .function
  glob : env.globals = mainGlobals
  blt : env.builtins = builtinsNs
  loc : ∃ m, h.Ns env.locals m ∧ ∀ (x : String) (V : Val), x ≠ ".0" → env.kindOf (Str.ofString x) = some .local → ρ x = some V → ∃ v, m (Str.ofString x) = some v ∧ vval v = some V
  locN : σ env.locals = none
  locB : G.base.get? env.locals = none
  cel : ∀ x : Str, env.kindOf x = some .cell → ∃ c v, env.cells.lookup x = some c ∧ h.IsCell c v ∧ σ c = none ∧ G.base.get? c = none ∧
    ∀ (y : String) (V : Val), Str.ofString y = x → ρ y = some V → ∃ v', v = some v' ∧ vval v' = some V
  inj : ∀ x y c, env.cells.lookup x = some c → env.cells.lookup y = some c → x = y
noncomputable def Fb (c : Cx) (b : Addr) : Prop := ∃ e ∈ c.fr, e.frame = some b
noncomputable def Same (P : Prop) (o o' : Obj) : Prop := o' = o ∨ (P ∧ ∃ sl, o' = { o with slots := sl })
theorem Same.refl {P : Prop} (o : Obj) : Same P o o := .inl rfl
theorem Same.data {P : Prop} {o o' : Obj} (h : Same P o o') : o'.data = o.data := by rcases h with rfl | ⟨_, sl, rfl⟩ <;> rfl
theorem Same.trans {P : Prop} {o o' o'' : Obj} (h : Same P o o') (h' : Same P o' o'') : Same P o o'' := by
  rcases h with rfl | ⟨hc, sl, rfl⟩
  · exact h'
  · rcases h' with rfl | ⟨_, sl', rfl⟩
    · exact .inr ⟨hc, sl, rfl⟩
    · exact .inr ⟨hc, sl', rfl⟩
theorem Same.exact {P : Prop} {o o' : Obj} (h : Same P o o') (hc : ¬ P) : o' = o := by rcases h with rfl | ⟨q, _⟩; rfl; exact absurd q hc
theorem Same.mono {P P' : Prop} {o o' : Obj} (h : Same P o o') (hp : P → P') : Same P' o o' := by rcases h with h | ⟨q, h⟩; exact .inl h; exact .inr ⟨hp q, h⟩
structure At (c : Cx) (ρ : Loc) (σ : Sto) (s : Shared) : Prop where
  stays : c.G.base.StaysIn s.heap
  os : s.os = c.G.os
  gens : s.gens = c.G.gens
  sto : ∀ a ob, σ a = some ob → (c.G.base.get? a = none ∨ ob.isRo = true) ∧ ∃ o, s.heap.get? a = some o ∧ ObR c.G ob o
  env : EnvR c.G c.env ρ σ s.heap
  frs : s.heap.FunFrames c.G.base c.fr
  frN : ∀ e ∈ c.fr, ∀ L, e.frame = some L → σ L = none
  keep : ∀ b o, c.h₀.get? b = some o → c.σ₀ b = none → ¬ c.own b → ∃ o', s.heap.get? b = some o' ∧ Same (Fb c b) o o'
  alive : ∀ b o, c.h₀.get? b = some o → ∃ o', s.heap.get? b = some o'
  fresh : ∀ b ob, σ b = some ob → c.σ₀ b ≠ none ∨ c.h₀.get? b = none
structure CxOk (c : Cx) : Prop where
  baseIn : c.G.base.StaysIn c.h₀
  old : ∀ b, c.h₀.get? b = none → b ≠ c.env.locals ∧ (∀ x, c.env.cells.lookup x ≠ some b) ∧ ∀ e ∈ c.fr, e.frame ≠ some b
  frames : c.A.frames = some c.fr
  room : c.A.depth + 2 * c.d ≤ 900
  units : c.A.units + 20 * c.d ≤ 9000
  handled : c.hd = false → c.A.handled = none
  top : ∃ fe outer L, c.fr = fe :: outer ∧ fe.frame = some L ∧ c.env.frame = some L
theorem ns_slots {h h' : Heap} {a : Addr} {m : Str → Option Value} (x : h.Ns a m) (hk : ∀ o, h.get? a = some o → ∃ o', h'.get? a = some o' ∧ o'.data = o.data) : h'.Ns a m := by
  obtain ⟨o, es, ep, ho, hd, hs, hf⟩ := x
  obtain ⟨o', e, q⟩ := hk o ho
  exact ⟨_, es, ep, e, q.trans hd, hs, hf⟩
theorem cell_slots {h h' : Heap} {a : Addr} {v : Option Value} (x : h.IsCell a v) (hk : ∀ o, h.get? a = some o → ∃ o', h'.get? a = some o' ∧ o'.data = o.data) : h'.IsCell a v := by
  obtain ⟨o, ho, hd⟩ := x
  obtain ⟨o', e, q⟩ := hk o ho
  exact ⟨_, e, q.trans hd⟩
section
variable {c : Cx} {ρ : Loc} {σ : Sto} {s : Shared}
theorem Sto.set_same (σ : Sto) (a : Nat) (o : Ob) : σ.set a o a = some o := by simp [Sto.set]
theorem Sto.set_other (σ : Sto) {a b : Nat} (o : Ob) (h : b ≠ a) : σ.set a o b = σ b := by simp [Sto.set, h]
theorem EnvR.mono {G : Gd} {env : Env} {h h' : Heap} {σ' : Sto} (x : EnvR G env ρ σ h)
    (hk : ∀ b o, h.get? b = some o → σ b = none → ∃ o', h'.get? b = some o' ∧ o'.data = o.data)
    (hσ : ∀ b o, h.get? b = some o → σ b = none → σ' b = none) : EnvR G env ρ σ' h' := by
  obtain ⟨m, hm, hl⟩ := x.loc
  have hlN := x.locN
  obtain ⟨oL, _, _, hoL, _⟩ := id hm
  refine ⟨x.kind, x.glob, x.blt, ⟨m, ns_slots hm (fun o ho => hk _ _ ho hlN), hl⟩, hσ _ _ hoL hlN, x.locB, fun y hy => ?_, x.inj⟩
  obtain ⟨cc, v, h1, h2, h3, h4, h5⟩ := x.cel y hy
  obtain ⟨oc, hoc, _⟩ := id h2
  exact ⟨cc, v, h1, cell_slots h2 (fun o ho => hk _ _ ho h3), hσ _ _ hoc h3, h4, h5⟩
theorem At.grow (x : At c ρ σ s) {s' : Shared} (hk : ∀ b o, s.heap.get? b = some o → s'.heap.get? b = some o)
    (ho : s'.os = s.os := by rfl) (hg : s'.gens = s.gens := by rfl) : At c ρ σ s' where
  stays := fun b o e => hk _ _ (x.stays b o e)
  os := ho.trans x.os
  gens := hg.trans x.gens
  sto := fun a ob e => let ⟨h1, o, h2, h3⟩ := x.sto a ob e; ⟨h1, o, hk _ _ h2, h3⟩
  env := x.env.mono (fun b o e o' => ⟨o, hk _ _ e, rfl⟩) fun o' o' o' e => e
  frs := x.frs.of_keeps fun b o e o' => ⟨o, hk _ _ e, rfl⟩
  frN := x.frN
  keep := fun b o e h1 h2 => let ⟨o', h3, h4⟩ := x.keep b o e h1 h2; ⟨o', hk _ _ h3, h4⟩
  alive := fun b o e => let ⟨o', h⟩ := x.alive b o e; ⟨o', hk _ _ h⟩
  fresh := x.fresh
theorem At.none_of_fresh (x : At c ρ σ s) {a : Addr} (h : s.heap.get? a = none) : σ a = none := by
  cases e : σ a with
  | none => rfl
  | some ob => obtain ⟨_, o, h2, _⟩ := x.sto a ob e; rw [h] at h2; cases h2
theorem At.size_none (x : At c ρ σ s) : s.heap.get? s.heap.objs.size = none := by
  cases e : s.heap.get? s.heap.objs.size with
  | none => rfl
  | some o => exact absurd (Heap.lt_size e) (Nat.lt_irrefl _)
theorem At.alloc (x : At c ρ σ s) {s' : Shared} {a : Addr} {ob : Ob} {o : Obj} (hn : s.heap.get? a = none)
    (hk : ∀ b o, s.heap.get? b = some o → s'.heap.get? b = some o) (ha : s'.heap.get? a = some o) (hr : ObR c.G ob o)
    (ho : s'.os = s.os := by rfl) (hg : s'.gens = s.gens := by rfl) : At c ρ (σ.set a ob) s' := by
  have hsa := x.none_of_fresh hn
  have hba : c.G.base.get? a = none := by
    cases e : c.G.base.get? a with
    | none => rfl
    | some o' => have := x.stays a o' e; rw [hn] at this; cases this
  have hha : c.h₀.get? a = none := by
    cases e : c.h₀.get? a with
    | none => rfl
    | some o' => obtain ⟨o'', h⟩ := x.alive a o' e; rw [hn] at h; cases h
  have ne : ∀ b o, s.heap.get? b = some o → b ≠ a := fun b o e q => by rw [q, hn] at e; cases e
  refine ⟨fun b o e => hk _ _ (x.stays b o e), ho.trans x.os, hg.trans x.gens, fun b ob' e => ?_, ?_, ?_, fun e he L hL => ?_, fun b o e h1 h2 => ?_, fun b o e => ?_, fun b ob' e => ?_⟩
  · by_cases hb : b = a
    · subst hb; rw [Sto.set_same] at e; cases e; exact ⟨.inl hba, o, ha, hr⟩
    · rw [Sto.set_other _ _ hb] at e
      obtain ⟨h1, o, h2, h3⟩ := x.sto b ob' e; exact ⟨h1, o, hk _ _ h2, h3⟩
  · exact x.env.mono (fun b o e o' => ⟨o, hk _ _ e, rfl⟩) fun b o e h => by rw [Sto.set_other _ _ (ne b o e)]; exact h
  · exact x.frs.of_keeps fun b o e o' => ⟨o, hk _ _ e, rfl⟩
  · obtain ⟨o', ho', _⟩ := (x.frs.mem (List.mem_filterMap.mpr ⟨e, he, hL⟩)).2
    rw [Sto.set_other _ _ (ne L o' ho')]; exact x.frN e he L hL
  · obtain ⟨o', h3, h4⟩ := x.keep b o e h1 h2; exact ⟨o', hk _ _ h3, h4⟩
  · obtain ⟨o', h⟩ := x.alive b o e; exact ⟨o', hk _ _ h⟩
  · by_cases hb : b = a
    · exact Or.inr (by rw [hb]; exact hha)
    · rw [Sto.set_other _ _ hb] at e; exact x.fresh b ob' e
theorem At.update (x : At c ρ σ s) {s' : Shared} {a : Addr} {ob ob' : Ob} {o : Obj} (hσ : σ a = some ob)
    (hk : ∀ b o, b ≠ a → s.heap.get? b = some o → s'.heap.get? b = some o) (ha : s'.heap.get? a = some o) (hr : ObR c.G ob' o)
    (ho : s'.os = s.os := by rfl) (hg : s'.gens = s.gens := by rfl) (hnr : ob.isRo = false := by rfl) : At c ρ (σ.set a ob') s' := by
  obtain ⟨hba', oa, hoa, _⟩ := x.sto a ob hσ
  have hba : c.G.base.get? a = none := by
    rcases hba' with h | h
    · exact h
    · rw [hnr] at h; cases h
  have ne : ∀ b, σ b = none → b ≠ a := fun b e q => by rw [q, hσ] at e; cases e
  refine ⟨fun b o e => hk _ _ (fun q => by rw [q, hba] at e; cases e) (x.stays b o e), ho.trans x.os, hg.trans x.gens, fun b ob'' e => ?_, ?_, ?_, fun e he L hL => ?_, fun b o e h1 h2 => ?_, fun b o e => ?_, fun b ob'' e => ?_⟩
  · by_cases hb : b = a
    · subst hb; rw [Sto.set_same] at e; cases e; exact ⟨.inl hba, o, ha, hr⟩
    · rw [Sto.set_other _ _ hb] at e
      obtain ⟨h1, o, h2, h3⟩ := x.sto b ob'' e; exact ⟨h1, o, hk _ _ hb h2, h3⟩
  · exact x.env.mono (fun b o e hn => ⟨o, hk _ _ (ne b hn) e, rfl⟩) fun b o e h => by rw [Sto.set_other _ _ (ne b h)]; exact h
  · have key : ∀ l : List Env, (∀ e ∈ l, ∀ L, e.frame = some L → σ L = none) → s.heap.FunFrames c.G.base l → s'.heap.FunFrames c.G.base l := by
      intro l
      induction l with
      | nil => intro _ _; trivial
      | cons e r ih =>
        rintro hN ⟨h1, ⟨L, oL, h2, h3, h4, h5⟩, h6⟩
        exact ⟨h1, ⟨L, oL, h2, h3, hk _ _ (ne L (hN e List.mem_cons_self L h2)) h4, h5⟩, ih (fun e' he' => hN e' (List.mem_cons_of_mem _ he')) h6⟩
    exact key _ x.frN x.frs
  · have hL' := x.frN e he L hL
    rw [Sto.set_other _ _ (ne L hL')]; exact hL'
  · obtain ⟨o', h3, h4⟩ := x.keep b o e h1 h2
    have hb : b ≠ a := fun q => by
      rcases x.fresh a ob hσ with h | h
      · exact h (q ▸ h1)
      · rw [← q, e] at h; cases h
    exact ⟨o', hk _ _ hb h3, h4⟩
  · obtain ⟨o', h⟩ := x.alive b o e
    by_cases hb : b = a
    · exact ⟨_, by rw [hb]; exact ha⟩
    · exact ⟨o', hk _ _ hb h⟩
  · by_cases hb : b = a
    · subst hb; exact x.fresh b ob hσ
    · rw [Sto.set_other _ _ hb] at e; exact x.fresh b ob'' e
noncomputable def Cx.re (c : Cx) (σ : Sto) (h : Heap) : Cx := { c with own := fun o' => False, σ₀ := σ, h₀ := h }
theorem At.back (x : At c ρ σ s) {c' : Cx} {ρ' : Loc} {σ' : Sto} {s' : Shared} (y : At c' ρ' σ' s') (hG : c'.G = c.G) (hfr : c'.fr = c.fr) (hh : c'.h₀ = s.heap) (hσ₀ : c'.σ₀ = σ) (ho : ∀ b, ¬ c'.own b) : At c ρ σ' s' := by
  have kp : ∀ b o, s.heap.get? b = some o → σ b = none → ∃ o', s'.heap.get? b = some o' ∧ Same (Fb c b) o o' := fun b o e h => by
    obtain ⟨o', q1, q2⟩ := y.keep b o (hh ▸ e) (hσ₀ ▸ h) (ho b)
    exact ⟨o', q1, q2.mono fun ⟨e', h1, h2⟩ => ⟨e', hfr ▸ h1, h2⟩⟩
  have fr : ∀ b o, s.heap.get? b = some o → σ b = none → σ' b = none := fun b o e h => by
    cases q : σ' b with
    | none => rfl
    | some ob =>
      rcases y.fresh b ob q with h1 | h1
      · rw [hσ₀] at h1; exact absurd h h1
      · rw [hh, e] at h1; cases h1
  refine ⟨hG ▸ y.stays, hG ▸ y.os, hG ▸ y.gens, hG ▸ y.sto, x.env.mono (fun b o e h => let ⟨o', q1, q2⟩ := kp b o e h; ⟨o', q1, q2.data⟩) fr, hG ▸ hfr ▸ y.frs, hfr ▸ y.frN, fun b o e h1 h2 => ?_, fun b o e => ?_, fun b ob e => ?_⟩
  · obtain ⟨o', h3, h4⟩ := x.keep b o e h1 h2
    have hσ : σ b = none := by
      cases q : σ b with
      | none => rfl
      | some ob => rcases x.fresh b ob q with h | h
                   · exact absurd h1 h
                   · rw [e] at h; cases h
    obtain ⟨o'', h5, h6⟩ := kp b o' h3 hσ
    exact ⟨o'', h5, h4.trans h6⟩
  · obtain ⟨o', h⟩ := x.alive b o e; exact y.alive b o' (hh ▸ h)
  · rcases y.fresh b ob e with h | h
    · rw [hσ₀] at h
      cases q : σ b with
      | none => exact absurd q h
      | some ob' => exact x.fresh b ob' q
    · rw [hh] at h
      cases q : c.h₀.get? b with
      | none => exact Or.inr rfl
      | some o => obtain ⟨o', h'⟩ := x.alive b o q
                  rw [h] at h'; cases h'
theorem At.publish (x : At c ρ σ s) (hc : CxOk c) {b : Addr} {ob : Ob} {o : Obj} (hb : c.h₀.get? b = none) (ho : s.heap.get? b = some o) (hr : ObR c.G ob o) : At c ρ (σ.set b ob) s := by
  obtain ⟨n1, n2, n3⟩ := hc.old b hb
  have nb : c.G.base.get? b = none := by
    cases e : c.G.base.get? b with
    | none => rfl
    | some o' => have := hc.baseIn b o' e; rw [hb] at this; cases this
  refine ⟨x.stays, x.os, x.gens, fun a ob' e => ?_, ?_, x.frs, fun e he L hL => ?_, x.keep, x.alive, fun a ob' e => ?_⟩
  · by_cases q : a = b
    · subst q; rw [Sto.set_same] at e; cases e; exact ⟨.inl nb, o, ho, hr⟩
    · rw [Sto.set_other _ _ q] at e; exact x.sto a ob' e
  · refine ⟨x.env.kind, x.env.glob, x.env.blt, x.env.loc, ?_, x.env.locB, fun y hy => ?_, x.env.inj⟩
    · rw [Sto.set_other _ _ (Ne.symm n1)]; exact x.env.locN
    · obtain ⟨cc, v, h1, h2, h3, h4, h5⟩ := x.env.cel y hy
      exact ⟨cc, v, h1, h2, by rw [Sto.set_other _ _ (fun q : cc = b => n2 y (by rw [← q]; exact h1))]; exact h3, h4, h5⟩
  · rw [Sto.set_other _ _ (fun q : L = b => n3 e he (by rw [← q]; exact hL))]; exact x.frN e he L hL
  · by_cases q : a = b
    · exact .inr (by rw [q]; exact hb)
    · rw [Sto.set_other _ _ q] at e; exact x.fresh a ob' e
theorem At.slots (x : At c ρ σ s) (hc : CxOk c) {X : Addr → Prop} {s' : Shared} (hX : ∀ b, X b → c.h₀.get? b = none ∧ σ b = none)
    (hk1 : ∀ b o, s.heap.get? b = some o → ¬ X b → ¬ Fb c b → s'.heap.get? b = some o) (hk2 : ∀ b o, Fb c b → s.heap.get? b = some o → ∃ sl, s'.heap.get? b = some { o with slots := sl })
    (ho : s'.os = s.os := by rfl) (hg : s'.gens = s.gens := by rfl) : At c ρ σ s' := by
  have fbN : ∀ b, Fb c b → σ b = none := fun b ⟨e, h1, h2⟩ => x.frN e h1 b h2
  have fbB : ∀ b, Fb c b → c.G.base.get? b = none := fun b ⟨e, h1, h2⟩ => (x.frs.mem (List.mem_filterMap.mpr ⟨e, h1, h2⟩)).1
  have fbX : ∀ b, Fb c b → ¬ X b := fun b ⟨e, h1, h2⟩ q => (hc.old b (hX b q).1).2.2 e h1 h2
  have any : ∀ b o, s.heap.get? b = some o → ¬ X b → ∃ o', s'.heap.get? b = some o' ∧ Same (Fb c b) o o' := fun b o e h => by
    by_cases q : Fb c b
    · obtain ⟨sl, h'⟩ := hk2 b o q e; exact ⟨_, h', .inr ⟨q, sl, rfl⟩⟩
    · exact ⟨o, hk1 b o e h q, .inl rfl⟩
  have nX : ∀ b o, c.h₀.get? b = some o → ¬ X b := fun b o e q => by rw [(hX b q).1] at e; cases e
  refine ⟨fun b o e => ?_, ho.trans x.os, hg.trans x.gens, fun a ob e => ?_, ?_, ?_, x.frN, fun b o e h1 h2 => ?_, fun b o e => ?_, x.fresh⟩
  · refine hk1 b o (x.stays b o e) (nX b o (hc.baseIn b o e)) fun q => ?_
    rw [fbB b q] at e; cases e
  · obtain ⟨h1, o, h2, h3⟩ := x.sto a ob e
    refine ⟨h1, o, hk1 a o h2 (fun q => ?_) (fun q => ?_), h3⟩
    · rw [(hX a q).2] at e; cases e
    · rw [fbN a q] at e; cases e
  · obtain ⟨m, hm, hl⟩ := x.env.loc
    refine ⟨x.env.kind, x.env.glob, x.env.blt, ⟨m, ns_slots hm (fun o e => ?_), hl⟩, x.env.locN, x.env.locB, fun y hy => ?_, x.env.inj⟩
    · obtain ⟨o', q1, q2⟩ := any _ o e fun q => (hc.old _ (hX _ q).1).1 rfl
      exact ⟨o', q1, q2.data⟩
    · obtain ⟨cc, v, h1, h2, h3, h4, h5⟩ := x.env.cel y hy
      refine ⟨cc, v, h1, cell_slots h2 (fun o e => ?_), h3, h4, h5⟩
      obtain ⟨o', q1, q2⟩ := any _ o e fun q => (hc.old _ (hX _ q).1).2.1 y h1
      exact ⟨o', q1, q2.data⟩
  · have key : ∀ l : List Env, (∀ e ∈ l, ∀ L, e.frame = some L → Fb c L) → s.heap.FunFrames c.G.base l → s'.heap.FunFrames c.G.base l := by
      intro l
      induction l with
      | nil => intro _ _; trivial
      | cons e r ih =>
        rintro hN ⟨h1, ⟨L, oL, h2, h3, h4, h5⟩, h6⟩
        obtain ⟨sl, q⟩ := hk2 L oL (hN e List.mem_cons_self L h2) h4
        exact ⟨h1, ⟨L, _, h2, h3, q, h5⟩, ih (fun e' he' => hN e' (List.mem_cons_of_mem _ he')) h6⟩
    exact key _ (fun e he L hL => ⟨e, he, hL⟩) x.frs
  · obtain ⟨o', h3, h4⟩ := x.keep b o e h1 h2
    obtain ⟨o'', h5, h6⟩ := any b o' h3 (nX b o e)
    exact ⟨o'', h5, h4.trans h6⟩
  · obtain ⟨o', h⟩ := x.alive b o e
    obtain ⟨o'', h5, _⟩ := any b o' h (nX b o e)
    exact ⟨o'', h5⟩
theorem At.privX (x : At c ρ σ s) (hc : CxOk c) {X : Addr → Prop} {s' : Shared} (hX : ∀ b, X b → c.h₀.get? b = none ∧ σ b = none) (hk : ∀ b o, ¬ X b → s.heap.get? b = some o → s'.heap.get? b = some o)
    (ho : s'.os = s.os := by rfl) (hg : s'.gens = s.gens := by rfl) : At c ρ σ s' :=
  x.slots hc hX (fun b o e h o' => hk b o h e) (fun b o ⟨e, h1, h2⟩ h => ⟨o.slots, hk b o (fun q => (hc.old b (hX b q).1).2.2 e h1 h2) h⟩) ho hg
theorem At.priv (x : At c ρ σ s) (hc : CxOk c) {s' : Shared} {b : Addr} (hb : c.h₀.get? b = none) (hσ : σ b = none)
    (hk : ∀ b' o, b' ≠ b → s.heap.get? b' = some o → s'.heap.get? b' = some o) (ho : s'.os = s.os := by rfl) (hg : s'.gens = s.gens := by rfl) : At c ρ σ s' :=
  x.privX hc (X := (· = b)) (fun o' q => q ▸ ⟨hb, hσ⟩) (fun b' o q e => hk b' o q e) ho hg
end
end BP

namespace BP
open PySem
noncomputable def ExcAt (c : Cx) (e : Value) (cl : String) (σ : Sto) (h : Heap) : Prop :=
  ∃ ea C oe vs a0, e = .ref ea ∧ c.G.exc cl = some C ∧ h.get? ea = some oe ∧ oe.cls = .ref C ∧ oe.data = .fields vs ∧ vs[0]? = some a0 ∧ σ ea = none ∧ c.h₀.get? ea = none ∧
    (vs[1]? = some .none ∨ ∃ T oT ts fl, vs[1]? = some (.ref T) ∧ T ≠ ea ∧ h.get? T = some oT ∧ oT.data = .fields ts ∧ ts[3]? = some fl ∧ (fl = .none ∨ ∃ L, c.env.frame = some L ∧ fl = rawInt L) ∧ σ T = none ∧ c.h₀.get? T = none)
inductive ErW (c : Cx) (er : String → Sto → Prop) (e : Value) (s : Shared) : Prop
  | mk (cl : String) (ρ : Loc) (σ : Sto) (at_ : At c ρ σ s) (x : ExcAt c e cl σ s.heap) (h : er cl σ) : ErW c er e s
abbrev Er (c : Cx) : Value → Shared → Prop := ErW c c.err
noncomputable def Good (c : Cx) (ρ : Loc) (Q : KV) : Value → Shared → Prop := fun v s' => ∃ V σ', vval v = some V ∧ At c ρ σ' s' ∧ Q V σ'
noncomputable def GoodL (c : Cx) (ρ : Loc) (Q : List Val → Sto → Prop) : List Value → Shared → Prop := fun vs s' => ∃ Vs σ', VsR vs Vs ∧ At c ρ σ' s' ∧ Q Vs σ'
noncomputable def GoodB (c : Cx) (ρ : Loc) (K : Bool → Sto → Prop) : Bool → Shared → Prop := fun b s' => ∃ σ', At c ρ σ' s' ∧ K b σ'
noncomputable def WF (G : Gd) (d : Nat) : CallW := fun hd f vs σ Q er =>
  ∀ (c : Cx) (ρ : Loc) (s : Shared) (vals : List Value) (fv : Value), c.G = G → c.d = d → c.hd = hd → CxOk c → At c ρ σ s → VsR vals vs → G.mg (Str.ofString f) = some fv →
    wpAny (model G.prog G.w) c.A (PySem.call fv vals) (Good c ρ Q) (ErW c er) s
noncomputable def EvG (c : Cx) (ρ : Loc) (s : Shared) (Q : KV) (e : PySem.Expr) : Prop := wpAny (model c.G.prog c.G.w) c.A (eval e c.env) (Good c ρ Q) (Er c) s
noncomputable def TrG (c : Cx) (ρ : Loc) (s : Shared) (K : Bool → Sto → Prop) (e : PySem.Expr) : Prop := wpAny (model c.G.prog c.G.w) c.A (isTrue e c.env (eval e c.env)) (GoodB c ρ K) (Er c) s
noncomputable def SndE (ex : Ex) : Prop := ∀ (c : Cx) (ρ : Loc) (σ : Sto) (s : Shared) (Q : KV) (e : PySem.Expr), CxOk c → At c ρ σ s → mE c.env.scope.names ex e = true →
  wpE (WF c.G c.d) c.gv ex ρ σ Q → EvG c ρ s Q e
noncomputable def SndT (ex : Ex) : Prop := ∀ (c : Cx) (ρ : Loc) (σ : Sto) (s : Shared) (K : Bool → Sto → Prop) (e : PySem.Expr), CxOk c → At c ρ σ s → mE c.env.scope.names ex e = true →
  wpE (WF c.G c.d) c.gv ex ρ σ (fun v σ' => truthyW σ' v fun b => K b σ') → TrG c ρ s K e
noncomputable def SndEs (es : List Ex) : Prop := ∀ (c : Cx) (ρ : Loc) (σ : Sto) (s : Shared) (Q : List Val → Sto → Prop) (es' : List PySem.Expr) (pos : Pos), CxOk c → At c ρ σ s → mEs c.env.scope.names es es' = true →
  wpEs (WF c.G c.d) c.gv es ρ σ Q → wpAny (model c.G.prog c.G.w) c.A (spliced (backTo pos (starEach es' c.env))) (GoodL c ρ Q) (Er c) s
section
variable {c : Cx} {ρ : Loc} {σ : Sto} {s : Shared} {Q : KV} {E : Value → Shared → Prop} {M : Model} {A : Around}
theorem gb {m : Sem Value} {R : Value → Shared → Prop} (h : wpAny M A m (Good c ρ Q) (Er c) s) (k : ∀ v V σ' s', vval v = some V → At c ρ σ' s' → Q V σ' → R v s') : wpAny M A m R (Er c) s :=
  wpAny_mono h (fun v s' h => let ⟨V, σ', h1, h2, h3⟩ := h; k v V σ' s' h1 h2 h3) fun o' o' h => h
theorem gl {m : Sem (List Value)} {Q : List Val → Sto → Prop} {R : List Value → Shared → Prop} (h : wpAny M A m (GoodL c ρ Q) (Er c) s) (k : ∀ vs Vs σ' s', VsR vs Vs → At c ρ σ' s' → Q Vs σ' → R vs s') : wpAny M A m R (Er c) s :=
  wpAny_mono h (fun v s' h => let ⟨V, σ', h1, h2, h3⟩ := h; k v V σ' s' h1 h2 h3) fun o' o' h => h
theorem gt {m : Sem Bool} {K : Bool → Sto → Prop} {R : Bool → Shared → Prop} (h : wpAny M A m (GoodB c ρ K) (Er c) s) (k : ∀ b σ' s', At c ρ σ' s' → K b σ' → R b s') : wpAny M A m R (Er c) s :=
  wpAny_mono h (fun v s' h => let ⟨σ', h1, h2⟩ := h; k v σ' s' h1 h2) fun o' o' h => h
theorem At.tok (x : At c ρ σ s) (n : Nat) : At c ρ σ { s with toks := n } := x.grow (fun o' o' e => e)
theorem good_int (x : At c ρ σ s) {i : Int} {t n : Nat} (h : Q (.int i) σ) : Good c ρ Q (.int i t) { s with toks := n } := ⟨_, σ, rfl, x.tok n, h⟩
theorem good_val (x : At c ρ σ s) {v : Value} {V : Val} (hv : vval v = some V) (h : Q V σ) : Good c ρ Q v s := ⟨V, σ, hv, x, h⟩
theorem no {α : Type} {v : α} {P : Prop} (h : (none : Option α) = some v) : P := nomatch h
noncomputable def valIs (v : Value) : Val → Prop
  | .int i => ∃ t, v = .int i t
  | .bool b => v = .bool b
  | .none => v = .none
  | .ref a => v = .ref a
  | .str cs => ∃ x t, v = .str x t ∧ x.cps.toList = cs ∧ x.cps.size ≤ sLim
theorem vval_is {v : Value} {V : Val} (h : vval v = some V) : valIs v V := by
  cases v with
  | none => exact Option.some.inj h ▸ rfl
  | bool b => exact Option.some.inj h ▸ rfl
  | int i t => exact Option.some.inj h ▸ ⟨t, rfl⟩
  | ref a => exact Option.some.inj h ▸ rfl
  | str x t =>
    rw [vval] at h
    split at h
    · rename_i q; exact Option.some.inj h ▸ ⟨x, t, rfl, rfl, q⟩
    · exact no h
  | _ => exact no h
theorem vval_str {v : Value} {cs : List Nat} (h : vval v = some (.str cs)) : ∃ x t, v = .str x t ∧ x.cps.toList = cs ∧ x.cps.size ≤ sLim := vval_is h
theorem vval_mk {x : Str} {t : Tok} (h : x.cps.size ≤ sLim) : vval (.str x t) = some (.str x.cps.toList) := by rw [vval, if_pos h]
theorem vval_int {v : Value} {i : Int} (h : vval v = some (.int i)) : ∃ t, v = .int i t := vval_is h
theorem vval_bool {v : Value} {b : Bool} (h : vval v = some (.bool b)) : v = .bool b := vval_is h
theorem vval_none {v : Value} (h : vval v = some .none) : v = .none := vval_is h
theorem vval_ref {v : Value} {a : Nat} (h : vval v = some (.ref a)) : v = .ref a := vval_is h
end
theorem snd_none : SndE .none_ := fun c ρ σ s Q e hc ha hm hw => mE_con hm fun n p => wpAny_pure (good_val ha rfl hw)
theorem snd_bool (b : Bool) : SndE (.bool_ b) := fun c ρ σ s Q e hc ha hm hw => mE_con hm fun n p => wpAny_pure (good_val ha rfl hw)
theorem snd_int (i : Int) : SndE (.int_ i) := fun c ρ σ s Q e hc ha hm hw => mE_con hm fun n p => wpAny_Constant_int (good_int ha hw)
theorem snd_str (x : String) : SndE (.str_ x) := fun c ρ σ s Q e hc ha hm hw => mE_con hm fun n p => by
  show wpAny _ _ (mkText _) _ _ _
  refine fun o' o' o' => ⟨_, σ, vval_mk ?_, ha.tok _, hw.2⟩
  have : (Str.ofString x).cps.size = x.length := by rw [Str.ofString_eq_toList]; simp [← String.length_toList]
  rw [this]; exact Nat.le_trans hw.1 (by decide)
theorem snd_var (x : String) : SndE (.var x) := by
  intro c ρ σ s Q e hc ha hm hw
  have hm := and2 hm
  refine isN_of hm.2 fun pos => ?_
  have hv := hm.1
  simp only [Bool.and_eq_true, beq_iff_eq, isVar, bne_iff_ne, ne_eq, Bool.or_eq_true] at hv
  obtain ⟨⟨h0, hd⟩, hk⟩ := hv
  refine Classical.byContradiction fun hG => ?_
  obtain ⟨V, hx, hw⟩ := hw
  rcases hk with hk | hk
  · obtain ⟨m, hn, hl⟩ := ha.env.loc
    obtain ⟨v, h1, h2⟩ := hl x V h0 hk hx
    exact hG (wpAny_Name (wpAny_loadName_local ha.env.kind hk hn h1 (good_val ha h2 hw)) (by simpa using hd))
  · obtain ⟨cc, v, h1, h2, _, _, h5⟩ := ha.env.cel _ hk
    obtain ⟨v', rfl, h6⟩ := h5 x V rfl hx
    exact hG (wpAny_Name (wpAny_loadName_cell ha.env.kind hk h1 h2 (good_val ha h6 hw)) (by simpa using hd))
theorem ns_at (x : At c ρ σ s) {a : Addr} {m : Str → Option Value} (h : c.G.base.Ns a m) : s.heap.Ns a m := h.keeps x.stays
theorem load_glob {c : Cx} {ρ : Loc} {σ : Sto} {s : Shared} (ha : At c ρ σ s) {x : Str} {pos : Pos} {v : Value} {Q E} (hk : isGlob c.env.scope.names x = true) (hv : c.G.mg x = some v) (h : Q v s) :
    wpAny (model c.G.prog c.G.w) c.A (eval (.Name x pos) c.env) Q E s := by
  simp only [isGlob, Bool.and_eq_true, bne_iff_ne, ne_eq, beq_iff_eq] at hk
  refine Calls.Name_function_global ha.env.kind hk.2 (Calls.loadGlobal_global (mg := c.G.mg) ?_ hv h) (by simpa using hk.1)
  rw [ha.env.glob]; exact ns_at ha c.G.g
theorem load_blt {c : Cx} {ρ : Loc} {σ : Sto} {s : Shared} (ha : At c ρ σ s) {x : Str} {pos : Pos} {v : Value} {Q E} (hk : isGlob c.env.scope.names x = true) (hn : c.G.mg x = none) (hx : x ≠ "__name__") (hv : bootBuiltins x = some v) (h : Q v s) :
    wpAny (model c.G.prog c.G.w) c.A (eval (.Name x pos) c.env) Q E s := by
  simp only [isGlob, Bool.and_eq_true, bne_iff_ne, ne_eq, beq_iff_eq] at hk
  refine Calls.Name_function_global ha.env.kind hk.2 (Calls.loadGlobal_builtin (mg := c.G.mg) (mb := c.G.mb) ?_ hn ?_ ((c.G.bi x hx).trans hv) h) (by simpa using hk.1)
  · rw [ha.env.glob]; exact ns_at ha c.G.g
  · rw [ha.env.blt]; exact ns_at ha c.G.b
theorem snd_glob (x : String) : SndE (.glob x) := by
  intro c ρ σ s Q e hc ha hm hw
  have hm := and2 hm
  refine isN_of hm.2 fun pos => ?_
  refine Classical.byContradiction fun hG => ?_
  obtain ⟨V, hx, hw⟩ := hw
  obtain ⟨v, hx, hv⟩ := Option.bind_eq_some_iff.mp hx
  exact hG (load_glob ha hm.1 hx (good_val ha hv hw))
theorem snd_bin {op : OpB} {l r : Ex} (hl : SndE l) (hr : SndE r)
    (hop : ∀ (c : Cx) (ρ : Loc) (σ : Sto) (s : Shared) (a b : Value) (V W : Val) (Q : KV) (E : Value → Shared → Prop), CxOk c → At c ρ σ s → vval a = some V → vval b = some W → binW op V W σ Q →
      wpAny (model c.G.prog c.G.w) c.A (binaryOp op.py a b) (Good c ρ Q) E s) : SndE (.bin op l r) := fun c ρ σ s Q e hc ha hm hw =>
  mE_bin hm fun l' r' pos hm1 hm2 => wpAny_BinOp (gb (hl c ρ σ s _ _ hc ha hm1 hw) fun a V σ₁ s₁ hV ha₁ hw₁ =>
    gb (hr c ρ σ₁ s₁ _ _ hc ha₁ hm2 hw₁) fun b W σ₂ s₂ hW ha₂ hw₂ => hop c ρ σ₂ s₂ a b V W Q _ hc ha₂ hV hW hw₂)
theorem sndEs_nil : SndEs [] := by
  intro c ρ σ s Q es' pos hc ha hm hw
  cases es' <;> try exact Bool.noConfusion hm
  exact wpAny_pure ⟨[], σ, rfl, ha, hw⟩
theorem starEach_plain {nm : Nms} {ex : Ex} {e : PySem.Expr} (h : mE nm ex e = true) (r : List PySem.Expr) (env : Env) : starEach (e :: r) env = (false, eval e env) :: starEach r env := by
  have h0 : (vw e).1 ≠ 0 := mE_kind h
  clear h
  cases e <;> first | rfl | exact absurd rfl h0
theorem VsR.cons {v : Value} {vs : List Value} {x : Val} {xs : List Val} : VsR (v :: vs) (x :: xs) ↔ vval v = some x ∧ VsR vs xs := by simp [VsR]
theorem sndEs_cons {e : Ex} {es : List Ex} (h1 : SndE e) (h2 : SndEs es) : SndEs (e :: es) := by
  intro c ρ σ s Q es' pos hc ha hm hw
  cases es' with
  | nil => exact Bool.noConfusion hm
  | cons e' r =>
    replace hm := and2 hm
    rw [starEach_plain hm.1]
    show wpAny _ _ (spliced ((false, eval e' c.env) :: backTo pos (starEach r c.env))) _ _ _
    simp only [spliced]
    refine wpAny_bind (gb (h1 c ρ σ s _ _ hc ha hm.1 hw) fun v V σ₁ s₁ hV ha₁ hw₁ => ?_)
    refine wpAny_bind (wpAny_pure (wpAny_bind (wpAny_holding (gl (h2 c ρ σ₁ s₁ _ _ pos hc ha₁ hm.2 hw₁) fun vs Vs σ₂ s₂ hVs ha₂ hw₂ => ?_))))
    exact wpAny_pure ⟨V :: Vs, σ₂, VsR.cons.mpr ⟨hV, hVs⟩, ha₂, hw₂⟩
theorem starEach_len (nm : Nms) : ∀ (es : List Ex) (es' : List PySem.Expr) (env : Env), mEs nm es es' = true → (starEach es' env).any (·.1) = false ∧ es'.length = es.length
  | [], es', _, h => by
    cases es' with
    | nil => exact ⟨rfl, rfl⟩
    | cons _ _ => exact Bool.noConfusion h
  | e :: es, es', env, h => by
    cases es' with
    | nil => exact Bool.noConfusion h
    | cons e' es' =>
      replace h := and2 h
      rw [starEach_plain h.1]
      have := starEach_len nm es es' env h.2
      exact ⟨this.1, congrArg (· + 1) this.2⟩
theorem backTo_any (pos : Pos) (l : List (Bool × Sem Value)) : (backTo pos l).any (·.1) = l.any (·.1) := by
  simp only [backTo, List.any_map]; rfl
theorem evalArgs_any {M : Model} {A : Around} {E : Value → Shared → Prop} {s : Shared} {f : Value} {args : List (Bool × Sem Value)} {Q : Args → Shared → Prop} (hp : args.any (·.1) = false)
    (h : wpAny M A (spliced args) (fun vs s' => Q ⟨vs, []⟩ s') E s) : wpAny M A (evalArgs f true args []) Q E s := by
  cases args with
  | nil =>
    unfold evalArgs
    show wpAny M A (spliced [] >>= _) Q E s
    refine wpAny_bind (wpAny_mono h (fun vs s' h' => wpAny_holding ?_) fun o' o' x => x)
    exact wpAny_bind (wpAny_pure (wpAny_bind (wpAny_pure (wpAny_pure h'))))
  | cons a r =>
    obtain ⟨st, x⟩ := a
    cases st with
    | false => exact Calls.evalArgs_plain h
    | true => exact Bool.noConfusion hp
theorem callWith_any {M : Model} {A : Around} {E : Value → Shared → Prop} {s : Shared} {G : Gd} {pos : Pos} {fv : Value} {args : List (Bool × Sem Value)} {Q : Value → Shared → Prop}
    (hcal : ∀ (M : Model) (A : Around) (s : Shared) (Q : Keeper → Shared → Prop) (E : Value → Shared → Prop), G.base.StaysIn s.heap → (∀ k, k = .frame ∨ k = .machine → Q k s) → wpAny M A (keeperOf fv) Q E s) (hp : args.any (·.1) = false) (h : wpAny M A (spliced args) (fun vs s₁ => G.base.StaysIn s₁.heap ∧ wpAny M A (PySem.call fv vs) Q E s₁) E s) :
    wpAny M A (callWith pos fv [] args []) Q E s := by
  unfold callWith
  refine wpAny_bind (wpAny_holding (evalArgs_any hp (wpAny_mono h (fun vs s₁ h₁ => wpAny_bind (wpAny_standAt ?_)) fun o' o' x => x)))
  have tail : ∀ {t : Sem Value}, wpAny M A t Q E s₁ → wpAny M A (t >>= fun r => holding [r] point >>= fun o' => pure r) Q E s₁ := fun ht =>
    wpAny_bind (wpAny_mono ht (fun r s₂ hr => wpAny_bind (wpAny_holding (wpAny_point (wpAny_pure hr)))) fun o' o' x => x)
  rw [hp]
  refine wpAny_bind (hcal M A s₁ _ _ h₁.1 fun k hk => ?_)
  rcases hk with rfl | rfl
  · show wpAny M A (if args.length + 2 * ([] : List (Option Str × Sem Value)).length > 30 then _ else _) Q E s₁
    by_cases q : args.length + 2 * ([] : List (Option Str × Sem Value)).length > 30
    · rw [if_pos q]; exact tail h₁.2
    · rw [if_neg q]; exact tail (Calls.wpAny_keep h₁.2)
  · exact tail h₁.2
theorem snd_call {f : String} {as : List Ex} (h1 : SndEs as) : SndE (.call f as) := by
  intro c ρ σ s Q e hc ha hm hw
  refine isC_of hm fun as' pos q hm => ?_
  have hm := and2 hm
  refine Classical.byContradiction fun hG => ?_
  obtain ⟨fv, hv, hcal⟩ := c.G.callee f (by simpa [Cx.gv] using hw.1)
  refine hG ?_
  clear hG
  show wpAny _ _ (do callWith pos (← eval (.Name (Str.ofString f) _) c.env) [] (backTo pos (starEach as' c.env)) []) _ _ _
  refine wpAny_bind (load_glob ha hm.1 hv ?_)
  exact callWith_any hcal (by rw [backTo_any]; exact (starEach_len _ _ _ c.env hm.2).1) (gl (h1 c ρ σ s _ _ pos hc ha hm.2 hw.2) fun vals vs σ₁ s₁ hvs ha₁ h4 =>
    ⟨ha₁.stays, h4 c ρ s₁ vals fv rfl rfl rfl hc ha₁ hvs hv⟩)
end BP

namespace BP
open PySem PyProof.Rows
mutual
noncomputable def toPy : Dat → PyData
  | .none => .none
  | .bool b => .bool b
  | .int i => .int i
  | .list ds => .list (toPys ds)
  | .tup ds => .tuple (toPys ds)
noncomputable def toPys : List Dat → List PyData
  | [] => []
  | d :: ds => toPy d :: toPys ds
end
mutual
theorem eqv_toPy : ∀ d e : Dat, PyData.eqv (toPy d) (toPy e) = pyEq d e
  | .none, e => by cases e <;> rfl
  | .bool _, e => by cases e <;> rfl
  | .int _, e => by cases e <;> rfl
  | .list ds, .list es => by simp only [toPy, PyData.eqv, pyEq]; exact eqvAll_toPys ds es
  | .tup ds, .tup es => by simp only [toPy, PyData.eqv, pyEq]; exact eqvAll_toPys ds es
  | .list _, .none => rfl
  | .list _, .bool _ => rfl
  | .list _, .int _ => rfl
  | .list _, .tup _ => rfl
  | .tup _, .none => rfl
  | .tup _, .bool _ => rfl
  | .tup _, .int _ => rfl
  | .tup _, .list _ => rfl
theorem eqvAll_toPys : ∀ ds es : List Dat, PyData.eqvAll (toPys ds) (toPys es) = pyEqL ds es
  | [], [] => rfl
  | [], _ :: _ => rfl
  | _ :: _, [] => rfl
  | d :: ds, e :: es => by simp only [toPys, PyData.eqvAll, pyEqL, eqv_toPy d e, eqvAll_toPys ds es]
end
theorem toPys_any (ds : List Dat) (d : Dat) : ((toPys ds).any fun y => PyData.eqv y (toPy d)) = ds.any fun y => pyEq y d := by
  induction ds with
  | nil => rfl
  | cons e es ih => simp only [toPys, List.any_cons, ih, eqv_toPy]
theorem depthAll_le {n : Nat} : ∀ ds : List Dat, (∀ d ∈ ds, (toPy d).depth ≤ n) → PyData.depthAll (toPys ds) ≤ n
  | [], _ => Nat.zero_le _
  | d :: ds, h => by
    have h1 := h d (.head _)
    have h2 := depthAll_le ds fun e he => h e (.tail _ he)
    simp only [toPys, PyData.depthAll]; lia
theorem depth_le : ∀ (n : Nat) (d : Dat), dOk n d = true → (toPy d).depth ≤ n + 1
  | _, .none, _ => by simp [toPy, PyData.depth]
  | _, .bool _, _ => by simp [toPy, PyData.depth]
  | _, .int _, _ => by simp [toPy, PyData.depth]
  | 0, .list _, h => by simp [dOk] at h
  | 0, .tup _, h => by simp [dOk] at h
  | n + 1, .list ds, h => by
    have := depthAll_le (n := n + 1) ds fun e he => depth_le n e (List.all_eq_true.mp (by simpa [dOk] using h) e he)
    simp only [toPy, PyData.depth]; lia
  | n + 1, .tup ds, h => by
    have := depthAll_le (n := n + 1) ds fun e he => depth_le n e (List.all_eq_true.mp (by simpa [dOk] using h) e he)
    simp only [toPy, PyData.depth]; lia
section
variable {c : Cx} {ρ : Loc} {σ : Sto} {s : Shared} {Q : KV} {E : Value → Shared → Prop}
theorem VsR.len {vs : List Value} {xs : List Val} (h : VsR vs xs) : vs.length = xs.length := by have := congrArg List.length h; simpa using this
theorem VsR.nil_right {vs : List Value} (h : VsR vs []) : vs = [] := by cases vs <;> simp [VsR] at h; rfl
theorem VsR.append {vs ws : List Value} {xs ys : List Val} (h : VsR vs xs) (h' : VsR ws ys) : VsR (vs ++ ws) (xs ++ ys) := by simp only [VsR, List.map_append] at *; rw [h, h']
theorem VsR.get {vs : List Value} {xs : List Val} (h : VsR vs xs) (i : Nat) : (vs[i]?).bind vval = xs[i]? ∧ (vs[i]? = none ↔ xs[i]? = none) := by
  have := congrArg (fun l : List (Option Val) => l[i]?) h
  simp only [List.getElem?_map] at this
  cases h1 : vs[i]? <;> cases h2 : xs[i]? <;> simp_all
theorem At.list (x : At c ρ σ s) {a : Nat} {xs : List Val} (h : σ a = some (.list xs)) {P : Prop} (k : ∀ (vs : Array Value) n, s.heap.get? a = some ⟨.type "list", none, .seq vs n, #[]⟩ → VsR vs.toList xs → vs.size = xs.length → xs.length ≤ 2000000 → P) : P := by
  obtain ⟨_, o, h1, vs, n, rfl, h2, h3⟩ := x.sto a _ h
  exact k vs n h1 h2 (by rw [← Array.length_toList]; exact h2.len) h3
theorem At.tup (x : At c ρ σ s) {a : Nat} {xs : List Val} (h : σ a = some (.tup xs)) {P : Prop} (k : ∀ (vs : Array Value) n, s.heap.get? a = some ⟨.type "tuple", none, .seq vs n, #[]⟩ → VsR vs.toList xs → vs.size = xs.length → xs.length ≤ 2000000 → P) : P := by
  obtain ⟨_, o, h1, vs, n, rfl, h2, h3⟩ := x.sto a _ h
  exact k vs n h1 h2 (by rw [← Array.length_toList]; exact h2.len) h3
mutual
theorem reads_of (x : At c ρ σ s) : ∀ (n : Nat) (d : Dat) (V : Val) (v : Value), dOk n d = true → Has σ d V → vval v = some V → ∃ as, Reads s.heap v (toPy d) as ∧ (toPy d).canLay0 = true
  | _, .none, V, v, _, h, hv => by simp only [Has] at h; subst h; rw [vval_none hv]; exact ⟨_, .none, by simp [toPy, PyData.canLay0]⟩
  | _, .bool b, V, v, _, h, hv => by simp only [Has] at h; subst h; rw [vval_bool hv]; exact ⟨_, .bool b, by simp [toPy, PyData.canLay0]⟩
  | _, .int i, V, v, _, h, hv => by simp only [Has] at h; subst h; obtain ⟨t, rfl⟩ := vval_int hv; exact ⟨_, .int i t, by simp [toPy, PyData.canLay0]⟩
  | n, .list ds, V, v, hd, h, hv => by
    cases n with
    | zero => exact Bool.noConfusion hd
    | succ n =>
      simp only [Has] at h; obtain ⟨a, xs, rfl, h1, h2⟩ := h
      rw [vval_ref hv]
      refine x.list h1 fun vs k h3 h4 o' o' => ?_
      obtain ⟨as, h5, h6⟩ := readsAll_of x n ds xs vs.toList hd h2 h4
      exact ⟨_, reads_list_at h3 rfl rfl h5, by simpa [toPy, PyData.canLay0] using h6⟩
  | n, .tup ds, V, v, hd, h, hv => by
    cases n with
    | zero => exact Bool.noConfusion hd
    | succ n =>
      simp only [Has] at h; obtain ⟨a, xs, rfl, h1, h2⟩ := h
      rw [vval_ref hv]
      refine x.tup h1 fun vs k h3 h4 o' o' => ?_
      obtain ⟨as, h5, h6⟩ := readsAll_of x n ds xs vs.toList hd h2 h4
      exact ⟨_, reads_tuple_at h3 rfl rfl h5, by simpa [toPy, PyData.canLay0] using h6⟩
theorem readsAll_of (x : At c ρ σ s) : ∀ (n : Nat) (ds : List Dat) (xs : List Val) (vs : List Value), ds.all (dOk n) = true → HasL σ ds xs → VsR vs xs → ∃ as, ReadsAll s.heap vs (toPys ds) as ∧ PyData.canLayAll0 (toPys ds) = true
  | _, [], xs, vs, _, h, hv => by simp only [HasL] at h; subst h; rw [hv.nil_right]; exact ⟨_, .nil, rfl⟩
  | n, d :: ds, xs, vs, hd, h, hv => by
    simp only [HasL] at h
    obtain ⟨y, ys, rfl, h1, h2⟩ := h
    cases vs with
    | nil => exact absurd hv.len (by simp)
    | cons v vs =>
      obtain ⟨hv1, hv2⟩ := VsR.cons.mp hv
      obtain ⟨as, h3, h4⟩ := reads_of x n d y v (and2 hd).1 h1 hv1
      obtain ⟨bs, h5, h6⟩ := readsAll_of x n ds ys vs (and2 hd).2 h2 hv2
      exact ⟨_, .cons h3 h5, by simp [toPys, PyData.canLayAll0, h4, h6]⟩
end
theorem shaped_of {d : Dat} (h : dOk 9 d = true) (hl : (toPy d).canLay0 = true) : SeqAt.shaped (toPy d) = true := by
  have := depth_le 9 d h
  unfold SeqAt.shaped; rw [hl, Bool.true_and]; exact decide_eq_true (by lia)
theorem truthy_snd (hc : CxOk c) (ha : At c ρ σ s) {v : Value} {V : Val} (hv : vval v = some V) {K : Bool → Prop} {R : Bool → Shared → Prop} (hR : ∀ b n, K b → R b { s with toks := n })
    (h : truthyW σ V K) : wpAny (model c.G.prog c.G.w) c.A (truthy v) R E s := by
  cases V with
  | none => rw [vval_none hv]; exact wpAny_pure (hR false s.toks h)
  | bool b => rw [vval_bool hv]; exact wpAny_truthy_bool (hR b s.toks h)
  | int i =>
    obtain ⟨t, rfl⟩ := vval_int hv
    refine P.truthy_int (hR _ s.toks ?_)
    rw [show (i != 0) = decide (i ≠ 0) by by_cases q : i = 0 <;> simp [q]]; exact h
  | str _ => exact h.elim
  | ref a =>
    rw [vval_ref hv]
    replace h : truthyO (σ a) K := h
    revert h
    cases hσ : σ a with
    | none => exact fun h => h.elim
    | some ob =>
    cases ob with
    | list xs =>
      intro h
      refine ha.list hσ fun vs n h1 h2 hl h3 => ?_
      refine wpAny_truthy_list ⟨_, h1, rfl, n, rfl⟩ (by lia) (hR _ _ ?_)
      rw [show (!vs.isEmpty) = !xs.isEmpty by cases xs <;> simp_all [Array.isEmpty]]; exact h
    | tup xs =>
      intro h
      refine ha.tup hσ fun vs n h1 h2 hl h3 => ?_
      refine truthy_tuple ⟨_, h1, rfl, n, rfl⟩ (by lia) (hR _ _ ?_)
      rw [show (!vs.isEmpty) = !xs.isEmpty by cases xs <;> simp_all [Array.isEmpty]]; exact h
    | _ => exact fun h => h.elim
end
end BP

namespace BP
open PySem PyProof.Rows
section
variable {c : Cx} {ρ : Loc} {σ : Sto} {s : Shared} {E : Value → Shared → Prop}
abbrev tK (c : Cx) : HeapKind c.G.prog c.G.w (List Int) := tupleKind (intKind c.G.prog c.G.w)
abbrev Ents := List (List Int × Addr × Value)
noncomputable def EntsR (xs : Ents) (es : List (List Int × Nat × Val)) : Prop := xs.map (fun x => (x.1, x.2.1, vval x.2.2)) = es.map fun e => (e.1, e.2.1, some e.2.2)
theorem items_ints {prog : Program} {w : World} : ∀ {vs : List Value} {ks : List Int}, VsR vs (ks.map .int) → ItemsAre (intKind prog w) ks vs
  | [], [], _ => .nil
  | v :: vs, k :: ks, h => by
    have h := VsR.cons.mp h
    obtain ⟨t, rfl⟩ := vval_int h.1
    exact .cons (beq_self_eq_true k) (items_ints h.2)
  | [], _ :: _, h => nomatch h
  | _ :: _, [], h => nomatch h
theorem At.key (x : At c ρ σ s) {a : Nat} {k : List Int} (h : σ a = some (.tup (k.map .int))) : (tK c).is s.heap k a :=
  x.tup h fun vs n h1 h2 o' o' => ⟨_, vs, n, h1, rfl, rfl, items_ints h2⟩
theorem At.notMods (x : At c ρ σ s) {a : Nat} {ob : Ob} (h : σ a = some ob) (hr : ob.isRo = false) : (a == sysModules) = false := by
  refine Classical.byContradiction fun hG => ?_
  obtain ⟨o, ho⟩ := c.G.mods
  have q : a = sysModules := by simpa using hG
  rcases (x.sto a ob h).1 with h1 | h1
  · rw [q, ho] at h1; cases h1
  · rw [hr] at h1; cases h1
theorem EntsR.mem {xs : Ents} : ∀ {es : List (List Int × Nat × Val)}, EntsR xs es → ∀ x ∈ xs, ∃ e ∈ es, e.1 = x.1 ∧ e.2.1 = x.2.1 := by
  intro es h x hx
  have := List.mem_map_of_mem (f := fun x : List Int × Addr × Value => (x.1, x.2.1, vval x.2.2)) hx
  rw [h] at this
  obtain ⟨e, he, q⟩ := List.mem_map.mp this
  exact ⟨e, he, congrArg (·.1) q, congrArg (·.2.1) q⟩
theorem EntsR.keys {xs : Ents} {es : List (List Int × Nat × Val)} (h : EntsR xs es) : xs.map (·.1) = es.map (·.1) := by
  have := congrArg (List.map (fun p : List Int × Nat × Option Val => p.1)) h
  rw [List.map_map, List.map_map] at this
  exact this
theorem At.tdictR (x : At c ρ σ s) {a ep : Nat} {es : List (List Int × Nat × Val)} (h : σ a = some (.tdict ep es)) {P : Prop}
    (k : ∀ o ds xs, s.heap.get? a = some o → o.ExactDict → o.data = .dict ds ep → ds.toList = xs.map (entryOfKey (tK c)) → EntsR xs es → (es.map (·.1)).Nodup → es.length ≤ 1000001 → P) : P := by
  obtain ⟨_, o, h1, ex, ⟨ds, xs, h2, h3, h4⟩, hn, hl⟩ := x.sto a _ h
  exact k o ds xs h1 ex h2 h3 h4 hn hl
theorem At.tdict (x : At c ρ σ s) {a ep : Nat} {es : List (List Int × Nat × Val)} (h : σ a = some (.tdict ep es)) (hk : keysIn σ es) {P : Prop}
    (k : ∀ xs, s.heap.DictOfH (tK c) a xs → EntsR xs es → (a == sysModules) = false → es.length ≤ 1000001 → P) : P :=
  x.tdictR h fun o ds xs h1 ex h2 h3 h4 hn hl => by
    refine k xs ⟨o, ds, ep, h1, ex, h2, h3, fun y hy => ?_, by rw [h4.keys]; exact hn⟩ h4 (x.notMods h rfl) hl
    obtain ⟨e, he, q1, q2⟩ := h4.mem y hy
    rw [← q1, ← q2]
    exact x.key (hk e he)
theorem EntsR.cons {x : List Int × Addr × Value} {xs : Ents} {e : List Int × Nat × Val} {es : List (List Int × Nat × Val)} (h : EntsR (x :: xs) (e :: es)) : (x.1 = e.1 ∧ x.2.1 = e.2.1 ∧ vval x.2.2 = some e.2.2) ∧ EntsR xs es := by
  have h := List.cons.inj h
  exact ⟨⟨congrArg (·.1) h.1, congrArg (·.2.1) h.1, congrArg (·.2.2) h.1⟩, h.2⟩
theorem atKey_rel {k : List Int} : ∀ {xs : Ents} {es : List (List Int × Nat × Val)}, EntsR xs es → (atKey xs k).map (fun p => vval p.2) = (tget es k).map some
  | [], [], _ => rfl
  | x :: xs, e :: es, h => by
    obtain ⟨⟨q1, q2, q3⟩, h⟩ := h.cons
    unfold atKey tget
    rw [List.find?_cons, List.find?_cons, q1]
    cases decide (e.1 = k) with
    | true => exact congrArg some q3
    | false => exact atKey_rel h
  | [], _ :: _, h => nomatch h
  | _ :: _, [], h => nomatch h
theorem put_rel {k : List Int} {v : Value} {V : Val} (hv : vval v = some V) : ∀ {xs : Ents} {es : List (List Int × Nat × Val)}, EntsR xs es → EntsR (xs.map (putAt k v)) (es.map fun e => if e.1 = k then (e.1, e.2.1, V) else e)
  | [], [], _ => rfl
  | x :: xs, e :: es, h => by
    obtain ⟨⟨q1, q2, q3⟩, h⟩ := h.cons
    have ih := put_rel hv h (k := k)
    unfold EntsR at *
    rw [List.map_cons, List.map_cons, List.map_cons, List.map_cons, ih]
    congr 1
    unfold putAt
    rw [q1]
    by_cases q : e.1 = k
    · rw [if_pos q, if_pos q, q2, hv]
    · rw [if_neg q, if_neg q, q1, q2, q3]
  | [], _ :: _, h => nomatch h
  | _ :: _, [], h => nomatch h
theorem stored_rel {k : List Int} {a : Nat} {v : Value} {V : Val} {xs : Ents} {es : List (List Int × Nat × Val)} (h : EntsR xs es) (hv : vval v = some V) : EntsR (storedH xs k a v) (tput es k a V) := by
  have hr := atKey_rel (k := k) h
  unfold tput
  cases q : tget es k with
  | none =>
    rw [q] at hr
    rw [storedH_new (Option.map_eq_none_iff.mp hr)]
    unfold EntsR at *
    rw [List.map_append, List.map_append, h]
    show _ ++ [(k, a, vval v)] = _
    rw [hv]; rfl
  | some y =>
    rw [q] at hr
    cases e : atKey xs k with
    | none => rw [e] at hr; cases hr
    | some p => rw [storedH_old e]; exact put_rel hv h
theorem tput_len {es : List (List Int × Nat × Val)} {k : List Int} {a : Nat} {V : Val} : (tput es k a V).length ≤ es.length + 1 := by
  unfold tput
  split
  · rw [List.length_map]; exact Nat.le_succ _
  · rw [List.length_append]; exact Nat.le_refl _
abbrev iK (c : Cx) : KeyKind c.G.prog c.G.w Int := intKind c.G.prog c.G.w
noncomputable def KvR (xs : List (Int × Value)) (es : List (Int × Val)) : Prop := xs.map (fun p => (p.1, vval p.2)) = es.map fun e => (e.1, some e.2)
theorem KvR.cons {x : Int × Value} {xs : List (Int × Value)} {e : Int × Val} {es : List (Int × Val)} (h : KvR (x :: xs) (e :: es)) : (x.1 = e.1 ∧ vval x.2 = some e.2) ∧ KvR xs es := by
  have h := List.cons.inj h
  exact ⟨⟨congrArg (·.1) h.1, congrArg (·.2) h.1⟩, h.2⟩
theorem KvR.keys {xs : List (Int × Value)} {es : List (Int × Val)} (h : KvR xs es) : xs.map (·.1) = es.map (·.1) := by
  have := congrArg (List.map (fun p : Int × Option Val => p.1)) h
  rw [List.map_map, List.map_map] at this
  exact this
theorem At.idict (x : At c ρ σ s) {a ep : Nat} {es : List (Int × Val)} (h : σ a = some (.idict ep es)) {P : Prop}
    (k : ∀ kvs, s.heap.DictAt (iK c) a kvs ep → KvR kvs es → (a == sysModules) = false → es.length ≤ 1000001 → P) : P := by
  obtain ⟨_, o, h1, ex, ⟨ds, kvs, h2, h3, h4, h5⟩, hn, hl⟩ := x.sto a _ h
  exact k kvs ⟨o, ds, h1, ex, h2, h3, h4, by rw [KvR.keys h5]; exact hn⟩ h5 (x.notMods h rfl) hl
theorem valueAt_rel {k : Int} : ∀ {xs : List (Int × Value)} {es : List (Int × Val)}, KvR xs es → (valueAt xs k).map vval = (dget es k).map some
  | [], [], _ => rfl
  | x :: xs, e :: es, h => by
    obtain ⟨⟨q1, q2⟩, h⟩ := h.cons
    unfold valueAt dget
    rw [List.find?_cons, List.find?_cons, q1]
    cases decide (e.1 = k) with
    | true => exact congrArg some q2
    | false => exact valueAt_rel h
  | [], _ :: _, h => nomatch h
  | _ :: _, [], h => nomatch h
theorem valueAt_some {k : Int} {xs : List (Int × Value)} {es : List (Int × Val)} (h : KvR xs es) : (valueAt xs k).isSome = (dget es k).isSome := by
  have := congrArg Option.isSome (valueAt_rel (k := k) h)
  rwa [Option.isSome_map, Option.isSome_map] at this
theorem iput_rel {k : Int} {v : Value} {V : Val} (hv : vval v = some V) : ∀ {xs : List (Int × Value)} {es : List (Int × Val)}, KvR xs es → KvR (xs.map fun kv => if kv.1 = k then (kv.1, v) else kv) (es.map fun e => if e.1 = k then (e.1, V) else e)
  | [], [], _ => rfl
  | x :: xs, e :: es, h => by
    obtain ⟨⟨q1, q2⟩, h⟩ := h.cons
    have ih := iput_rel hv h (k := k)
    unfold KvR at *
    rw [List.map_cons, List.map_cons, List.map_cons, List.map_cons, ih]
    congr 1
    rw [q1]
    by_cases q : e.1 = k
    · rw [if_pos q, if_pos q, hv]
    · rw [if_neg q, if_neg q, q1, q2]
  | [], _ :: _, h => nomatch h
  | _ :: _, [], h => nomatch h
theorem any_find {α : Type} {p : α → Bool} : ∀ l : List α, l.any p = (l.find? p).isSome
  | [] => rfl
  | a :: l => by rw [List.any_cons, List.find?_cons]; cases p a <;> simp [any_find l]
theorem istored_rel {k : Int} {v : Value} {V : Val} {xs : List (Int × Value)} {es : List (Int × Val)} (h : KvR xs es) (hv : vval v = some V) : KvR (stored xs k v) (dput es k V) := by
  have hr := valueAt_some (k := k) h
  have ha : (xs.any fun kv => kv.1 = k) = (dget es k).isSome := by rw [any_find, ← hr, valueAt, Option.isSome_map]
  unfold dput stored
  rw [ha]
  cases q : dget es k with
  | none =>
    rw [if_neg (by exact Bool.false_ne_true)]
    unfold KvR at *
    rw [List.map_append, List.map_append, h]
    show _ ++ [(k, vval v)] = _
    rw [hv]; rfl
  | some y => rw [if_pos (by rfl)]; exact iput_rel hv h
theorem dput_len {es : List (Int × Val)} {k : Int} {V : Val} : (dput es k V).length ≤ es.length + 1 := by
  unfold dput
  split
  · rw [List.length_map]; exact Nat.le_succ _
  · rw [List.length_append]; exact Nat.le_refl _
end
end BP

namespace BP
open PySem PyProof.Rows
section
variable {c : Cx} {ρ : Loc} {σ : Sto} {s : Shared} {E : Value → Shared → Prop}
theorem units_lt (hc : CxOk c) : c.A.units + 64 < cLine := by have := hc.units; simp only [cLine]; lia
theorem plainIs_bool (v : Value) (b : Bool) (h : (vval v).isSome = true) : plainIs v (.bool b) = true := by cases v <;> simp_all [plainIs, vval]
theorem plainIs_none (v : Value) (h : (vval v).isSome = true) : plainIs v .none = true := by cases v <;> simp_all [plainIs, vval]
theorem beq_vval {v w : Value} {V W : Val} (hv : vval v = some V) (hw : vval w = some W) (h : W = .none ∨ ∃ b, W = .bool b) : (v == w) = decide (V = W) := by
  rcases h with rfl | ⟨b, rfl⟩
  · rw [vval_none hw]
    by_cases q : V = .none
    · subst q; rw [vval_none hv]; rfl
    · rw [decide_eq_false q, beq_eq_false_iff_ne]; rintro rfl; simp [vval] at hv; exact q hv.symm
  · rw [vval_bool hw]
    by_cases q : V = .bool b
    · subst q; rw [vval_bool hv]; simp
    · rw [decide_eq_false q, beq_eq_false_iff_ne]; rintro rfl; simp [vval] at hv; exact q hv.symm
theorem isW_cases {V W : Val} {K : Bool → Prop} (h : isW V W K) : (W = .none ∨ ∃ b, W = .bool b) ∧ K (decide (V = W)) := by
  cases W with
  | none => exact ⟨.inl rfl, by simpa [isW] using h⟩
  | bool b => exact ⟨.inr ⟨b, rfl⟩, by simpa [isW] using h⟩
  | int _ => cases V <;> exact h.elim
  | str _ => cases V <;> exact h.elim
  | ref _ => cases V <;> exact h.elim
theorem plainIs_of {v w : Value} {V W : Val} (hv : vval v = some V) (hw : vval w = some W) (h : W = .none ∨ ∃ b, W = .bool b) : plainIs v w = true := by
  rcases h with rfl | ⟨b, rfl⟩
  · rw [vval_none hw]; exact plainIs_none v (by simp [hv])
  · rw [vval_bool hw]; exact plainIs_bool v b (by simp [hv])
theorem beqL {x y : List Nat} : (x == y) = decide (x = y) := by rw [Bool.eq_iff_iff]; simp
theorem in_snd (hc : CxOk c) (ha : At c ρ σ s) {v w : Value} {V W : Val} (hv : vval v = some V) (hw : vval w = some W) (neg : Bool) {K : Bool → Prop} {R : Value → Shared → Prop}
    (hR : ∀ b n, K b → R (.bool (if neg then !b else b)) { s with toks := n }) (h : inW V W σ K) : wpAny (model c.G.prog c.G.w) c.A (compareOp (if neg then .NotIn else .In) v w) R E s := by
  cases W with
  | ref a =>
    rw [vval_ref hw]
    simp only [inW] at h
    split at h
    · rename_i xs hσ
      refine Classical.byContradiction fun hG => ?_
      obtain ⟨d, ds, h1, h2, h3, h4, h5⟩ := h
      obtain ⟨as, r1, l1⟩ := reads_of ha 9 d V v h3 h1 hv
      refine hG ?_
      clear hG
      obtain ⟨bs, r2, l2⟩ := reads_of ha 10 (.list ds) (.ref a) (.ref a) h4 (by simp only [Has]; exact ⟨a, xs, rfl, hσ, h2⟩) rfl
      rw [toPy] at r2 l2
      simp only [PyData.canLay0] at l2
      have hdep := depth_le 9 d h3
      have hu := units_lt hc
      have hm : c.A.units + 1 + min (PyData.depthAll (toPys ds)) (toPy d).depth < cLine := by
        have := Nat.min_le_right (PyData.depthAll (toPys ds)) (toPy d).depth; lia
      cases neg with
      | false => exact SeqAt.in_list_reads r2 r1 l2 l1 hm (by rw [toPys_any]; exact hR _ s.toks h5)
      | true => exact SeqAt.notIn_list_reads r2 r1 l2 l1 hm (by rw [toPys_any]; exact hR _ s.toks h5)
    · rename_i es hσ
      obtain ⟨k, rfl, h'⟩ := onI_inv h
      clear h
      obtain ⟨t, rfl⟩ := vval_int hv
      refine ha.idict hσ fun kvs h1 h2 h3 o' => ?_
      rw [← valueAt_some h2] at h'
      cases neg with
      | false => exact wpAny_in_of (knd := iK c) (k := k) (beq_self_eq_true k) h3 h1.dictOf.mapOf (hR _ _ h')
      | true => exact wpAny_notIn_of (knd := iK c) (k := k) (beq_self_eq_true k) h3 h1.dictOf.mapOf (hR _ _ h')
    · exact h.elim
  | str _ => exact h.elim
  | none => exact h.elim
  | bool _ => exact h.elim
  | int _ => exact h.elim
theorem cmp_data (hc : CxOk c) (ha : At c ρ σ s) {v w : Value} {V W : Val} (hv : vval v = some V) (hw : vval w = some W) {K : Bool → Prop} (h : ∃ d e, Has σ d V ∧ Has σ e W ∧ dOk 9 d = true ∧ dOk 9 e = true ∧ K (pyEq d e)) {P : Prop}
    (k : ∀ d e as bs, Reads s.heap v d as → Reads s.heap w e bs → SeqAt.shaped d = true → SeqAt.shaped e = true → K (PyData.eqv d e) → P) : P := by
  obtain ⟨d, e, h1, h2, h3, h4, h5⟩ := h
  obtain ⟨as, r1, l1⟩ := reads_of ha 9 d V v h3 h1 hv
  obtain ⟨bs, r2, l2⟩ := reads_of ha 9 e W w h4 h2 hw
  exact k _ _ as bs r1 r2 (shaped_of h3 l1) (shaped_of h4 l2) (by rw [eqv_toPy]; exact h5)
theorem cmp_snd (hc : CxOk c) (ha : At c ρ σ s) (op : OpC) {v w : Value} {V W : Val} (hv : vval v = some V) (hw : vval w = some W) {K : Bool → Prop} {R : Value → Shared → Prop}
    (hR : ∀ b n, K b → R (.bool b) { s with toks := n }) (h : cmpW op V W σ K) : wpAny (model c.G.prog c.G.w) c.A (compareOp op.py v w) R E s := by
  cases op with
  | eq =>
    rcases h with ⟨x, y, rfl, rfl, h⟩ | h
    · obtain ⟨x, t, rfl, rfl, _⟩ := vval_str hv
      obtain ⟨y, u, rfl, rfl, _⟩ := vval_str hw
      exact P.eq_str (hR _ s.toks (by rw [beqL]; exact h))
    · exact cmp_data hc ha hv hw (K := K) h fun d e as bs r1 r2 s1 s2 h5 => eq_dataH r1 r2 s1 s2 (units_lt hc) (hR _ s.toks h5)
  | ne =>
    rcases h with (⟨x, y, rfl, rfl, h⟩ | h) | ⟨a, b, xs, ys, rfl, rfl, h1, h2, h3, h⟩
    · obtain ⟨x, t, rfl, rfl, _⟩ := vval_str hv
      obtain ⟨y, u, rfl, rfl, _⟩ := vval_str hw
      exact P.ne_str (hR _ s.toks (by rw [bne, beqL]; exact h))
    · exact cmp_data hc ha hv hw (K := fun b => K (!b)) h fun d e as bs r1 r2 s1 s2 h5 => ne_dataH r1 r2 s1 s2 (units_lt hc) (hR _ s.toks h5)
    · rw [vval_ref hv, vval_ref hw]
      exact ha.list h1 fun vs n g1 g2 g3 o' => ha.list h2 fun ws m k1 k2 k3 o' => SeqAt.RcNeAt.lists_lengths ⟨_, g1, rfl, n, rfl⟩ ⟨_, k1, rfl, m, rfl⟩ (by rw [g3, k3]; simpa using h3) (Nat.lt_of_le_of_lt (Nat.le_add_right _ 64) (units_lt hc)) _ _ _ _ (hR true s.toks h)
  | lt =>
    obtain ⟨i, j, rfl, rfl, h⟩ := int2_inv h
    obtain ⟨_, rfl⟩ := vval_int hv; obtain ⟨_, rfl⟩ := vval_int hw; exact P.lt_int (hR _ s.toks h)
  | le =>
    obtain ⟨i, j, rfl, rfl, h⟩ := int2_inv h
    obtain ⟨_, rfl⟩ := vval_int hv; obtain ⟨_, rfl⟩ := vval_int hw; exact P.le_int (hR _ s.toks h)
  | ge =>
    obtain ⟨i, j, rfl, rfl, h⟩ := int2_inv h
    obtain ⟨_, rfl⟩ := vval_int hv; obtain ⟨_, rfl⟩ := vval_int hw; exact P.ge_int (hR _ s.toks h)
  | gt =>
    obtain ⟨i, j, rfl, rfl, h⟩ := int2_inv h
    obtain ⟨_, rfl⟩ := vval_int hv; obtain ⟨_, rfl⟩ := vval_int hw; exact P.gt_int (hR _ s.toks h)
  | is_ =>
    obtain ⟨h1, h2⟩ := isW_cases (K := K) h
    exact wpAny_is_plain (plainIs_of hv hw h1) (by rw [beq_vval hv hw h1]; exact hR _ s.toks h2)
  | isIn => exact in_snd hc ha hv hw false hR h
  | notIn => exact in_snd hc ha hv hw true (fun b n hk => hR (!b) n hk) h
  | isNot =>
    obtain ⟨h1, h2⟩ := isW_cases (K := fun b => K (!b)) h
    exact wpAny_isNot_plain (plainIs_of hv hw h1) (by rw [beq_vval hv hw h1]; exact hR _ s.toks h2)
end
theorem unary_not {M : Model} {A : Around} {E : Value → Shared → Prop} {s : Shared} {v : Value} {Q : Value → Shared → Prop} (h : wpAny M A (truthy v) (fun b s' => Q (.bool (!b)) s') E s) : wpAny M A (unaryOp .Not v) Q E s := by
  unfold unaryOp
  refine wpAny_holding ?_
  show wpAny M A (do let b ← truthy v; pure (Value.bool !b)) Q E s
  exact wpAny_bind (wpAny_mono h (fun b s' hb => wpAny_pure hb) fun o' o' x => x)
theorem snd_not {e : Ex} (h : SndE e) : SndE (.not_ e) := fun c ρ σ s Q x hc ha hm hw => mE_un (g := mE c.env.scope.names e) hm fun x pos hm => by
  show wpAny _ _ (do let v ← eval x c.env; standAt pos; holding [v] (unaryOp .Not v)) _ _ _
  exact wpAny_bind (gb (h c ρ σ s _ _ hc ha hm hw) fun v V σ₁ s₁ hV ha₁ hw₁ => wpAny_bind (wpAny_standAt (wpAny_holding (unary_not (truthy_snd hc ha₁ hV (fun b n hb => ⟨_, σ₁, rfl, ha₁.tok n, hb⟩) hw₁)))))
theorem snd_neg {e : Ex} (h : SndE e) : SndE (.neg e) := fun c ρ σ s Q x hc ha hm hw => mE_un (g := mE c.env.scope.names e) hm fun x pos hm => by
  show wpAny _ _ (do let v ← eval x c.env; standAt pos; holding [v] (unaryOp .USub v)) _ _ _
  refine wpAny_bind (gb (h c ρ σ s _ _ hc ha hm hw) fun v V σ₁ s₁ hV ha₁ hw₁ => ?_)
  obtain ⟨i, rfl, hw₁⟩ := onI_inv hw₁
  obtain ⟨t, rfl⟩ := vval_int hV
  exact wpAny_bind (wpAny_standAt (wpAny_holding (P.neg_int (good_int ha₁ hw₁))))
noncomputable def SndB (h : Bool) (es : List Ex) : Prop := ∀ (c : Cx) (ρ : Loc) (σ : Sto) (s : Shared) (Q : KV) (es' : List PySem.Expr) (pos : Pos), CxOk c → At c ρ σ s → mEs c.env.scope.names es es' = true →
  wpB (WF c.G c.d) c.gv h es ρ σ Q → wpAny (model c.G.prog c.G.w) c.A (boolOp pos (bopPy h) (evalEach es' c.env)) (Good c ρ Q) (Er c) s
theorem mEs_cons {nm : Nms} {e : Ex} {es : List Ex} {l : List PySem.Expr} {M : List PySem.Expr → Prop} (h : mEs nm (e :: es) l = true) (k : ∀ e' es', mE nm e e' = true → mEs nm es es' = true → M (e' :: es')) : M l := by
  cases l with
  | nil => exact Bool.noConfusion h
  | cons e' es' => exact k e' es' (and2 h).1 (and2 h).2
theorem mEs_nil {nm : Nms} {l : List PySem.Expr} {M : List PySem.Expr → Prop} (h : mEs nm [] l = true) (k : M []) : M l := by
  cases l with
  | nil => exact k
  | cons _ _ => exact Bool.noConfusion h
noncomputable def BoG (c : Cx) (ρ : Loc) (s : Shared) (Q : KV) (h : Bool) (pos : Pos) (es' : List PySem.Expr) : Prop := wpAny (model c.G.prog c.G.w) c.A (boolOp pos (bopPy h) (evalEach es' c.env)) (Good c ρ Q) (Er c) s
theorem sndB_of (h : Bool) : ∀ es : List Ex, (∀ e ∈ es, SndE e) → SndB h es
  | [], _ => fun c ρ σ s Q es' pos hc ha hm hw => hw.elim
  | [e], he => fun c ρ σ s Q es' pos hc ha hm hw => mEs_cons (M := BoG c ρ s Q h pos) hm fun x r hm1 hm2 => mEs_nil (M := fun r => BoG c ρ s Q h pos (x :: r)) hm2 (he e (.head _) c ρ σ s Q _ hc ha hm1 hw)
  | e :: e' :: es, he => fun c ρ σ s Q es' pos hc ha hm hw => mEs_cons (M := BoG c ρ s Q h pos) hm fun x r hm1 hm2 => mEs_cons (M := fun r => BoG c ρ s Q h pos (x :: r)) hm2 fun y r hm3 hm4 => by
    show wpAny _ _ (do let v ← eval x c.env; standAt pos; let t ← holding [v] (truthy v); match bopPy h, t with | .And, false | .Or, true => pure v | _, _ => boolOp pos (bopPy h) (evalEach (y :: r) c.env)) _ _ _
    refine wpAny_bind (gb (he e (.head _) c ρ σ s _ _ hc ha hm1 hw) fun v V σ₁ s₁ hV ha₁ hw₁ => ?_)
    refine wpAny_bind (wpAny_standAt (wpAny_bind (wpAny_holding (truthy_snd hc ha₁ hV (fun b n hb => ?_) hw₁))))
    have hb : if b = h then Q V σ₁ else wpB (WF c.G c.d) c.gv h (e' :: es) ρ σ₁ Q := hb
    have go := fun w => sndB_of h (e' :: es) (fun z hz => he z (.tail _ hz)) c ρ σ₁ { s₁ with toks := n } Q (y :: r) pos hc (ha₁.tok n) (by show (_ && _) = true; rw [hm3, hm4]; rfl) w
    cases h <;> cases b
    · exact wpAny_pure ⟨V, σ₁, hV, ha₁.tok n, hb⟩
    · exact go hb
    · exact go hb
    · exact wpAny_pure ⟨V, σ₁, hV, ha₁.tok n, hb⟩
theorem snd_bop {h : Bool} {es : List Ex} (he : ∀ e ∈ es, SndE e) : SndE (.bop h es) := fun c ρ σ s Q x hc ha hm hw => mE_boo (g := mEs c.env.scope.names es) hm fun es' pos hm => sndB_of h es he c ρ σ s Q es' pos hc ha hm hw
end BP

namespace BP
open PySem PyProof.Rows
theorem wpAny_release {M : Model} {A : Around} {E : Value → Shared → Prop} {s : Shared} {vs keep : List Value} {Q : Unit → Shared → Prop} (h : Q () s) : wpAny M A (release vs keep) Q E s :=
  fun Γ p o' => by rw [Sem.wp_release]; exact h
theorem wpAny_operate {α : Type} {M : Model} {A : Around} {E : Value → Shared → Prop} {s : Shared} {vs : List Value} {m : Sem Value} {Q : Value → Shared → Prop} (h : wpAny M A m Q E s) : wpAny M A (operate vs m) Q E s :=
  fun Γ p hΓ => by rw [Sem.wp_operate]; exact h Γ p hΓ
theorem mE_notSet {nm : Nms} {ex : Ex} {e : PySem.Expr} (h : mE nm ex e = true) : (∀ op, behindInMarks op e = false) ∧ (∀ env x, foldedSetIterable e env x = pure x) := by
  have h0 : (vw e).1 ≠ 0 := mE_kind h
  clear h
  cases e <;> first | exact ⟨fun o' => rfl, fun o' o' => rfl⟩ | exact absurd rfl h0
theorem marked_one {nm : Nms} {r : Ex} {r' : PySem.Expr} (h : mE nm r r' = true) (op : CmpOp) (env : Env) : markedEach [op] [r'] (evalEach [r'] env) = [eval r' env] := by
  show [markedBehindIn op r' (eval r' env)] = [eval r' env]
  rw [markedBehindIn_of_false ((mE_notSet h).1 op)]
section
variable {c : Cx} {ρ : Loc} {σ : Sto} {s : Shared} {Q : KV} {E : Value → Shared → Prop}
theorem right_snd {r : Ex} (hr : SndE r) (hc : CxOk c) (ha : At c ρ σ s) {r' : PySem.Expr} (hm : mE c.env.scope.names r r' = true) {v : Value} {V : Val} (hV : vval v = some V) (op : OpC) {K : Val → Bool → Sto → Prop}
    (hw : wpE (WF c.G c.d) c.gv r ρ σ fun w σ₂ => cmpW op V w σ₂ fun b => K w b σ₂) {α : Type} {R : α → Shared → Prop} {k : Value → Sem α} (hk : ∀ w W s₁ σ₁ , vval w = some W → At c ρ σ₁ s₁ → (∀ {X : Value → Shared → Prop}, (∀ b n, K W b σ₁ → X (.bool b) { s₁ with toks := n }) → wpAny (model c.G.prog c.G.w) c.A (compareOp op.py v w) X (Er c) s₁) → wpAny (model c.G.prog c.G.w) c.A (k w) R (Er c) s₁) :
    wpAny (model c.G.prog c.G.w) c.A (holding [v] (eval r' c.env) >>= k) R (Er c) s :=
  wpAny_bind (wpAny_holding (gb (hr c ρ σ s _ _ hc ha hm hw) fun w W σ₁ s₁ hW ha₁ hw₁ => hk w W s₁ σ₁ hW ha₁ fun {X} hX => cmp_snd hc ha₁ op hV hW hX hw₁))
end
theorem snd_cmp {op : OpC} {l r : Ex} (hl : SndE l) (hr : SndE r) : SndE (.cmp op l r) := fun c ρ σ s Q x hc ha hm hw => mE_cmp hm fun l' r' pos hm1 hm2 => by
  show wpAny _ _ (do compareChain pos (← eval l' c.env) [op.py] (markedEach [op.py] [r'] (evalEach [r'] c.env))) _ _ _
  rw [marked_one hm2]
  refine wpAny_bind (gb (hl c ρ σ s _ _ hc ha hm1 hw) fun v V σ₁ s₁ hV ha₁ hw₁ => ?_)
  show wpAny _ _ (do let rv ← holding [v] (eval r' c.env); standAt pos; operate [v, rv] (compareOp op.py v rv)) _ _ _
  exact right_snd hr hc ha₁ hm2 hV op (K := fun o' b σ' => Q (.bool b) σ') hw₁ fun w W s₂ σ₂ hW ha₂ hk => wpAny_bind (wpAny_standAt (wpAny_operate (α := Unit) (hk fun b n hb => ⟨_, σ₂, rfl, ha₂.tok n, hb⟩)))
theorem sndT_cmp {op : OpC} {l r : Ex} (hl : SndE l) (hr : SndE r) : SndT (.cmp op l r) := fun c ρ σ s Q x hc ha hm hw => mE_cmp hm fun l' r' pos hm1 hm2 => by
  show wpAny _ _ (do testChain pos (← eval l' c.env) [op.py] (markedEach [op.py] [r'] (evalEach [r'] c.env))) _ _ _
  rw [marked_one hm2]
  refine wpAny_bind (gb (hl c ρ σ s _ _ hc ha hm1 hw) fun v V σ₁ s₁ hV ha₁ hw₁ => ?_)
  show wpAny _ _ (do let rv ← holding [v] (eval r' c.env); standAt pos; let b ← operate [v, rv] (compareOp op.py v rv); holding [b] (truthy b)) _ _ _
  exact right_snd hr hc ha₁ hm2 hV op (K := fun o' b σ' => Q b σ') hw₁ fun w W s₂ σ₂ hW ha₂ hk => wpAny_bind (wpAny_standAt (wpAny_bind (wpAny_operate (α := Unit) (hk fun b n hb => wpAny_holding (wpAny_truthy_bool ⟨σ₂, ha₂.tok n, hb⟩)))))
theorem snd_cmp2 {op op' : OpC} {l m r : Ex} (hl : SndE l) (hm : SndE m) (hr : SndE r) : SndE (.cmp2 op op' l m r) := fun c ρ σ s Q x hc ha hm hw => mE_cmp2 hm fun l' m' r' pos hm1 hm2 hm3 => by
  show wpAny _ _ (do compareChain pos (← eval l' c.env) [op.py, op'.py] (eval m' c.env :: markedEach [op'.py] [r'] (evalEach [r'] c.env))) _ _ _
  rw [marked_one hm3]
  refine wpAny_bind (gb (hl c ρ σ s _ _ hc ha hm1 hw) fun v V σ₁ s₁ hV ha₁ hw₁ => ?_)
  show wpAny _ _ (do
            let rv ← holding [v] (eval m' c.env)
            standAt pos
            let b ← holding [v, rv] (compareOp op.py v rv)
            release [v, rv] [b]
            if ← holding [b, rv] (truthy b) then (do let rw ← holding [rv] (eval r' c.env); standAt pos; operate [rv, rw] (compareOp op'.py rv rw)) else pure b) _ _ _
  refine right_snd (by assumption) hc ha₁ hm2 hV op (K := fun w b σ₂ => if b = true then wpE (WF c.G c.d) c.gv r ρ σ₂ fun u σ₃ => cmpW op' w u σ₃ fun b => Q (.bool b) σ₃ else Q (.bool b) σ₂) hw₁ fun w W s₂ σ₂ hW ha₂ hk => wpAny_bind (wpAny_standAt (wpAny_bind (wpAny_holding (hk fun b n hb => ?_))))
  refine wpAny_bind (wpAny_release (wpAny_bind (wpAny_holding (wpAny_truthy_bool ?_))))
  cases b with
  | false => exact wpAny_pure ⟨_, σ₂, rfl, ha₂.tok n, hb⟩
  | true => exact right_snd hr hc (ha₂.tok n) hm3 hW op' (K := fun o' b σ' => Q (.bool b) σ') hb fun w W s₃ σ₃ hW ha₃ hk => wpAny_bind (wpAny_standAt (wpAny_operate (α := Unit) (hk fun b n hb => ⟨_, σ₃, rfl, ha₃.tok n, hb⟩)))
theorem sndT_cmp2 {op op' : OpC} {l m r : Ex} (hl : SndE l) (hm : SndE m) (hr : SndE r) : SndT (.cmp2 op op' l m r) := fun c ρ σ s Q x hc ha hm hw => mE_cmp2 hm fun l' m' r' pos hm1 hm2 hm3 => by
  show wpAny _ _ (do testChain pos (← eval l' c.env) [op.py, op'.py] (eval m' c.env :: markedEach [op'.py] [r'] (evalEach [r'] c.env))) _ _ _
  rw [marked_one hm3]
  refine wpAny_bind (gb (hl c ρ σ s _ _ hc ha hm1 hw) fun v V σ₁ s₁ hV ha₁ hw₁ => ?_)
  show wpAny _ _ (do
            let rv ← holding [v] (eval m' c.env)
            standAt pos
            let b ← holding [v, rv] (compareOp op.py v rv)
            release [v, rv] [b]
            if ← holding [b, rv] (truthy b) then (do let rw ← holding [rv] (eval r' c.env); standAt pos; let b ← operate [rv, rw] (compareOp op'.py rv rw); holding [b] (truthy b)) else pure false) _ _ _
  refine right_snd (by assumption) hc ha₁ hm2 hV op (K := fun w b σ₂ => if b = true then wpE (WF c.G c.d) c.gv r ρ σ₂ fun u σ₃ => cmpW op' w u σ₃ fun b => Q b σ₃ else Q b σ₂) hw₁ fun w W s₂ σ₂ hW ha₂ hk => wpAny_bind (wpAny_standAt (wpAny_bind (wpAny_holding (hk fun b n hb => ?_))))
  refine wpAny_bind (wpAny_release (wpAny_bind (wpAny_holding (wpAny_truthy_bool ?_))))
  cases b with
  | false => exact wpAny_pure ⟨σ₂, ha₂.tok n, hb⟩
  | true => exact right_snd hr hc (ha₂.tok n) hm3 hW op' (K := fun o' b σ' => Q b σ') hb fun w W s₃ σ₃ hW ha₃ hk => wpAny_bind (wpAny_standAt (wpAny_bind (wpAny_operate (α := Unit) (hk fun b n hb => wpAny_holding (wpAny_truthy_bool ⟨σ₃, ha₃.tok n, hb⟩)))))
section
variable {c : Cx} {ρ : Loc} {σ : Sto} {s : Shared} {Q : KV} {E : Value → Shared → Prop}
theorem At.push (x : At c ρ σ s) {ob : Ob} {o : Obj} (hr : ObR c.G ob o) (hf : o.isFreed = false) (hQ : newW σ ob Q) : Good c ρ Q (.ref s.heap.objs.size) { s with heap := s.heap.push o } :=
  ⟨_, _, rfl, x.alloc (a := s.heap.objs.size) x.size_none (fun o' o' e => Heap.get?_push_of_some _ e) (Heap.get?_push_size _ hf) hr, hQ _ (x.none_of_fresh x.size_none)⟩
theorem VsR.arr {vs : List Value} {xs : List Val} (h : VsR vs xs) : VsR vs.toArray.toList xs := by simpa using h
theorem newList_snd (x : At c ρ σ s) {vs : List Value} {xs : List Val} (h : VsR vs xs) (hl : xs.length ≤ lim) (hQ : newW σ (.list xs) Q) : wpAny (model c.G.prog c.G.w) c.A (newList vs) (Good c ρ Q) E s :=
  have hl : xs.length ≤ 1000000 := hl
  wpAny_newObj_type (x.push (ob := .list xs) ⟨_, _, rfl, h.arr, Nat.le_trans hl (by decide)⟩ rfl hQ) (by show vs.toArray.size ≤ sizeLine; rw [List.size_toArray, h.len]; exact Nat.le_trans hl (by decide))
theorem newTuple_snd (x : At c ρ σ s) {vs : List Value} {xs : List Val} (h : VsR vs xs) (hl : xs.length ≤ lim) (hQ : newW σ (.tup xs) Q) : wpAny (model c.G.prog c.G.w) c.A (newTuple vs) (Good c ρ Q) E s :=
  have hl : xs.length ≤ 1000000 := hl
  wpAny_newObj_type (x.push (ob := .tup xs) ⟨_, _, rfl, h.arr, Nat.le_trans hl (by decide)⟩ rfl hQ) (by show vs.toArray.size ≤ sizeLine; rw [List.size_toArray, h.len]; exact Nat.le_trans hl (by decide))
end
theorem snd_list {es : List Ex} (h : SndEs es) : SndE (.list es) := fun c ρ σ s Q x hc ha hm hw => on_of (k := 11) hm rfl fun v hm =>
  List_ (gl (h c ρ σ s _ _ v.p hc ha hm hw) fun vs Vs σ₁ s₁ hV ha₁ hw₁ => newList_snd ha₁ hV hw₁.1 hw₁.2)
theorem snd_tup {es : List Ex} (h : SndEs es) : SndE (.tup es) := fun c ρ σ s Q x hc ha hm hw => on_of (k := 12) hm rfl fun v hm =>
  Tuple_ (gl (h c ρ σ s _ _ v.p hc ha hm hw) fun vs Vs σ₁ s₁ hV ha₁ hw₁ => newTuple_snd ha₁ hV hw₁.1 hw₁.2)
end BP

namespace BP
open PySem PyProof.Rows
theorem truthyW_again {σ : Sto} {v : Val} {h : Bool} {X : Prop} {K : Bool → Prop} : (truthyW σ v fun b => if b = h then truthyW σ v K else X) = (truthyW σ v fun b => if b = h then K h else X) := by
  have key : ∀ b : Bool, (if b = h then K b else X) = (if b = h then K h else X) := fun b => by by_cases q : b = h <;> simp [q]
  cases v with
  | none => exact key _
  | bool b => exact key _
  | int i => exact key _
  | str _ => rfl
  | ref a =>
    show (truthyO (σ a) fun b => if b = h then truthyO (σ a) K else X) = truthyO (σ a) fun b => if b = h then K h else X
    generalize σ a = o
    cases o with
    | none => rfl
    | some o => cases o <;> first | rfl | exact key _
theorem sndT_value {ex : Ex} (h : SndE ex) (hne : ∀ (nm : Nms) (e : PySem.Expr) (env : Env) (whole : Sem Value), mE nm ex e = true → isTrue e env whole = (do let v ← whole; standAt e.pos; holding [v] (truthy v))) : SndT ex := fun c ρ σ s K e hc ha hm hw =>
  wpAny_isTrue_value (gb (h c ρ σ s _ _ hc ha hm hw) fun v V σ₁ s₁ hV ha₁ hw₁ => truthy_snd hc ha₁ hV (fun b n hb => ⟨σ₁, ha₁.tok n, hb⟩) hw₁) (hne _ e _ _ hm)
theorem sndT_not {e : Ex} (h : SndT e) : SndT (.not_ e) := fun c ρ σ s K x hc ha hm hw => mE_un (g := mE c.env.scope.names e) hm fun x pos hm =>
  wpAny_isTrue_Not (wpAny_mono (h c ρ σ s (fun b σ' => K (!b) σ') _ hc ha hm hw) (fun b s₁ hb => hb) fun o' o' h => h)
noncomputable def AlG (c : Cx) (ρ : Loc) (s : Shared) (K : Bool → Sto → Prop) (h : Bool) (es' : List PySem.Expr) : Prop := wpAny (model c.G.prog c.G.w) c.A (allTrue (bopPy h) es' c.env) (GoodB c ρ K) (Er c) s
theorem allTrue_of (h : Bool) : ∀ es : List Ex, (∀ e ∈ es, SndT e) → ∀ (c : Cx) (ρ : Loc) (σ : Sto) (s : Shared) (K : Bool → Sto → Prop) (es' : List PySem.Expr), CxOk c → At c ρ σ s → mEs c.env.scope.names es es' = true →
    wpB (WF c.G c.d) c.gv h es ρ σ (fun v σ' => truthyW σ' v fun b => K b σ') → AlG c ρ s K h es'
  | [], _ => fun c ρ σ s K es' hc ha hm hw => hw.elim
  | [e], he => fun c ρ σ s K es' hc ha hm hw => mEs_cons (M := AlG c ρ s K h) hm fun x r hm1 hm2 => mEs_nil (M := fun r => AlG c ρ s K h (x :: r)) hm2 (by
    show wpAny _ _ (do match bopPy h, ← isTrue x c.env (eval x c.env) with | .And, false => pure false | .Or, true => pure true | _, _ => allTrue (bopPy h) [] c.env) _ _ _
    refine wpAny_bind (wpAny_mono (he e (.head _) c ρ σ s K _ hc ha hm1 hw) ?_ fun o' o' h => h)
    intro b s₁ hb
    cases h <;> cases b <;> exact wpAny_pure hb)
  | e :: e' :: es, he => fun c ρ σ s K es' hc ha hm hw => mEs_cons (M := AlG c ρ s K h) hm fun x r hm1 hm2 => mEs_cons (M := fun r => AlG c ρ s K h (x :: r)) hm2 fun y r hm3 hm4 => by
    show wpAny _ _ (do match bopPy h, ← isTrue x c.env (eval x c.env) with | .And, false => pure false | .Or, true => pure true | _, _ => allTrue (bopPy h) (y :: r) c.env) _ _ _
    refine wpAny_bind (gt (he e (.head _) c ρ σ s (fun b σ' => if b = h then K h σ' else wpB (WF c.G c.d) c.gv h (e' :: es) ρ σ' (fun v σ' => truthyW σ' v fun b => K b σ')) _ hc ha hm1 (Eq.mp (congrArg (wpE (WF c.G c.d) c.gv e ρ σ) (funext fun v => funext fun σ' => truthyW_again)) hw)) fun b σ₁ s₁ ha₁ hb => ?_)
    have go := fun w => allTrue_of h (e' :: es) (fun z hz => he z (.tail _ hz)) c ρ σ₁ s₁ K (y :: r) hc ha₁ (by show (_ && _) = true; rw [hm3, hm4]; rfl) w
    cases h <;> cases b
    · exact wpAny_pure ⟨σ₁, ha₁, hb⟩
    · exact go hb
    · exact go hb
    · exact wpAny_pure ⟨σ₁, ha₁, hb⟩
theorem sndT_bop {h : Bool} {es : List Ex} (he : ∀ e ∈ es, SndT e) : SndT (.bop h es) := fun c ρ σ s K x hc ha hm hw => mE_boo (g := mEs c.env.scope.names es) hm fun es' pos hm =>
  wpAny_isTrue_BoolOp (allTrue_of h es he c ρ σ s K es' hc ha hm hw)
theorem snd_ite {a t e : Ex} (ha' : SndT a) (ht : SndE t) (he : SndE e) : SndE (.ite a t e) := fun c ρ σ s Q x hc ha hm hw => mE_ite hm fun a' t' e' pos hm1 hm2 hm3 => by
  show wpAny _ _ (do if ← isTrue a' c.env (eval a' c.env) then eval t' c.env else eval e' c.env) _ _ _
  refine wpAny_bind (gt (ha' c ρ σ s (fun b σ₁ => if b = true then wpE (WF c.G c.d) c.gv t ρ σ₁ Q else wpE (WF c.G c.d) c.gv e ρ σ₁ Q) _ hc ha hm1 hw) fun b σ₁ s₁ ha₁ hb => ?_)
  cases b with
  | true => exact ht c ρ σ₁ s₁ Q _ hc ha₁ hm2 hb
  | false => exact he c ρ σ₁ s₁ Q _ hc ha₁ hm3 hb
theorem sndT_ite {a t e : Ex} (ha' : SndT a) (ht : SndT t) (he : SndT e) : SndT (.ite a t e) := fun c ρ σ s Q x hc ha hm hw => mE_ite hm fun a' t' e' pos hm1 hm2 hm3 => by
  show wpAny _ _ (do if ← isTrue a' c.env (eval a' c.env) then isTrue t' c.env (eval t' c.env) else isTrue e' c.env (eval e' c.env)) _ _ _
  refine wpAny_bind (gt (ha' c ρ σ s (fun b σ₁ => if b = true then wpE (WF c.G c.d) c.gv t ρ σ₁ _ else wpE (WF c.G c.d) c.gv e ρ σ₁ _) _ hc ha hm1 hw) fun b σ₁ s₁ ha₁ hb => ?_)
  cases b with
  | true => exact ht c ρ σ₁ s₁ Q _ hc ha₁ hm2 hb
  | false => exact he c ρ σ₁ s₁ Q _ hc ha₁ hm3 hb
end BP

namespace BP
open PySem PyProof.Rows
section
variable {prog : Program} {w : World} {A : Around} {E : Value → Shared → Prop} {s : Shared}
theorem tsl_adjust (b n : Nat) (hb : b ≤ n) : Builtin.Slice.sliceAdjust none (some (b : Int)) 1 (n : Int) = (0, (b : Int)) := by
  unfold Builtin.Slice.sliceAdjust
  have h1 : ¬ ((1 : Int) < 0) := by lia
  have h2 : ¬ ((b : Int) < 0) := by lia
  simp only [h1, h2, if_false]
  congr 1
  lia
theorem tsl_applied {sl : Addr} {b n : Nat} {u : Tok} {Q : Int × Int × Nat → Shared → Prop} (hs : s.heap.IsSliceOf sl .none (.int b u) .none) (hb : b ≤ n) (h : Q (0, 1, b) s) :
    wpAny (model prog w) A (Builtin.Slice.sliceApplied (.ref sl) (pure (n : Int))) Q E s := by
  obtain ⟨os, hos, hcs, hds⟩ := id hs
  unfold Builtin.Slice.sliceApplied Builtin.Slice.sliceFields
  refine wpAny_bind (wpAny_bind (wpAny_field hos hds (x := .none) rfl (wpAny_bind (wpAny_field hos hds (x := .int b u) rfl (wpAny_bind (wpAny_field hos hds (x := .none) rfl (wpAny_pure ?_)))))))
  refine wpAny_bind (slicePart_none ?_)
  show wpAny _ _ (if ((1 : Int) == 0) = true then _ else _) _ _ s
  rw [if_neg (by decide)]
  refine wpAny_bind (slicePart_none (wpAny_bind (slicePart_int (wpAny_bind (wpAny_pure ?_)))))
  show wpAny _ _ (match Builtin.Slice.sliceAdjust none (some (b : Int)) 1 (n : Int) with | (lo, hi) => pure (lo, (1 : Int), Builtin.Slice.slicePlaces lo hi 1)) _ _ s
  rw [tsl_adjust b n hb]
  show wpAny _ _ (pure ((0 : Int), (1 : Int), Builtin.Slice.slicePlaces ((0 : Nat) : Int) (b : Int) 1)) _ _ s
  rw [places_from 0 b (Nat.zero_le _)]
  exact wpAny_pure h
theorem tsl_pick (xs : Array Value) (b : Nat) : ((List.range b).filterMap fun (k : Nat) => xs[((0 : Int) + (k : Int) * 1).toNat]?).toArray = (xs.toList.take b).toArray := by
  have e : (fun (k : Nat) => xs[((0 : Int) + (k : Int) * 1).toNat]?) = fun k => xs[0 + k]? := by
    funext k
    have : ((0 : Int) + (k : Int) * 1).toNat = 0 + k := by lia
    rw [this]
  rw [e]
  have := pick_run xs 0 b
  rw [List.filterMap_map] at this
  have e2 : ((fun x => xs[x]?) ∘ fun x => 0 + x) = fun k => xs[0 + k]? := rfl
  rw [e2] at this
  rw [this]; rfl
theorem tsl_getItem {t sl : Addr} {items : Array Value} {b : Nat} {u : Tok} {Q : Value → Shared → Prop} (ht : IsTup s.heap t items) (hs : s.heap.IsSliceOf sl .none (.int b u) .none) (hb : b < items.size)
    (h : Q (.ref s.heap.objs.size) { s with heap := s.heap.push { cls := .type "tuple", data := .seq (items.toList.take b).toArray } })
    (hsz : items.size ≤ sizeLine) : wpAny (model prog w) A (getItem (.ref t) (.ref sl)) Q E s := by
  have htake : sizeOk (.seq (items.toList.take b).toArray) := by
    show (items.toList.take b).toArray.size ≤ sizeLine
    rw [List.size_toArray, List.length_take, Array.length_toList]
    lia
  obtain ⟨os, hos, hcs, hds⟩ := id hs
  have hTs : s.TypeIs (.ref sl) "slice" := ⟨os, hos, hcs⟩
  unfold getItem
  try with_reducible refine wpAny_holding ?_
  first | refine wpAny_bind (wpAny_pure ?_) | skip
  refine wpAny_bind (wpAny_sequenceKey ht.typeIs (by decide) ?_)
  refine wpAny_bind (wpAny_callSpecial?_slot (name := Str.ofString "__getitem__") ht.typeIs slot_tuple_getitem
    (wpAny_call_entry slot_tuple_getitem ht.typeIs entry_tuple_getitem ?_ (args_tuple_getitem _ _)))
  show wpAny _ _ (Builtin.Tuple.tupleItemsOf (.ref t) >>= _) _ _ s
  refine wpAny_bind (tupleItemsOf_ ht ?_)
  refine wpAny_bind (wpAny_typeOf hTs ?_)
  rw [if_pos (by decide)]
  refine wpAny_bind (tsl_applied hs (Nat.le_of_lt hb) ?_)
  have hno : ¬ (((0 : Int) == 0 && (1 : Int) == 1 && b == items.size) = true) := by
    have : (b == items.size) = false := by rw [beq_eq_false_iff_ne]; lia
    rw [this]; simp
  show wpAny _ _ (if ((0 : Int) == 0 && (1 : Int) == 1 && b == items.size) = true then _ else _) _ _ s
  rw [if_neg hno, tsl_pick items b]
  first
    | exact wpAny_bind (m := Builtin.Tuple.tupleExact _) (wpAny_newObj_type (wpAny_pure ⟨_, rfl, wpAny_pure h⟩) htake)
    | exact wpAny_bind (m := Builtin.Tuple.tupleExact _) (wpAny_newObj_type (wpAny_bind (wpAny_pure (wpAny_pure ⟨_, rfl, wpAny_pure h⟩))) htake)
    | exact wpAny_bind (wpAny_bind (m := Builtin.Tuple.tupleExact _) (wpAny_newObj_type (wpAny_pure (wpAny_pure ⟨_, rfl, wpAny_pure h⟩)) htake))
    | exact wpAny_bind (wpAny_bind (m := Builtin.Tuple.tupleExact _) (wpAny_newObj_type (wpAny_pure ⟨_, rfl, wpAny_pure h⟩) htake))
end
end BP

namespace BP
open PySem PyProof.Rows
section
variable {c : Cx} {ρ : Loc} {σ : Sto} {s : Shared} {Q : KV} {E : Value → Shared → Prop}
theorem VsR.at {vs : Array Value} {xs : List Val} (h : VsR vs.toList xs) {i : Nat} {x : Val} (hx : xs[i]? = some x) : ∃ v, vs[i]? = some v ∧ vval v = some x := by
  have := h.get i
  rw [Array.getElem?_toList, hx] at this
  cases q : vs[i]? with
  | none => rw [q] at this; exact no this.1
  | some v => rw [q] at this; exact ⟨v, rfl, this.1⟩
theorem getPos_pos {α : Type} {xs : List α} {k : Int} {P : α → Prop} {G : Prop} (h : onS1 (getPos xs k) P) (K : ∀ (j : Nat) x, k = (j : Int) → xs[j]? = some x → j < xs.length → P x → G) (K' : ∀ x, k < 0 → -(xs.length : Int) ≤ k → xs[(k + xs.length).toNat]? = some x → P x → G) : G := by
  obtain ⟨x, h1, h2⟩ := onS1_inv h
  unfold getPos at h1
  split at h1
  · rename_i q
    obtain ⟨j, rfl⟩ := Int.eq_ofNat_of_zero_le q
    exact K j x rfl h1 (List.getElem?_eq_some_iff.mp h1).1 h2
  · rename_i q
    split at h1
    · rename_i q'; exact K' x (Int.not_le.mp q) (by lia) h1 h2
    · exact no h1
theorem idx_nat {m n : Nat} (h : m < n) : seqIndex? (m : Int) n = some m := by
  have h0 : (0 : Int) ≤ m := Int.natCast_nonneg m
  unfold seqIndex?
  rw [if_neg (Int.not_lt.mpr h0)]
  exact if_pos (by rw [decide_eq_true h0, decide_eq_true (Int.ofNat_lt.mpr h)]; rfl)
theorem sub_not (slice : PySem.Expr) (o i : Value) : subscripted slice false o i = operate [o, i] (getItem o i) ∨ subscripted slice false o i = operate [i, o] (getItem o i) := by
  cases slice with
  | Slice a b c p => cases c with
    | none => exact .inr rfl
    | some _ => exact .inl rfl
  | _ => exact .inl rfl
theorem tail_snd {prog : Program} {w : World} {A : Around} {value slice : PySem.Expr} {o i : Value} {T id : String} {Q : Value → Shared → Prop} (hT : s.TypeIs o T) (hl : typeLookup (.type T) "__getitem__" = pure (some (.builtin id)))
    (h : wpAny (model prog w) A (getItem o i) Q E s) : wpAny (model prog w) A (subscriptTail value slice o i) Q E s := by
  unfold subscriptTail getitemInPython
  refine wpAny_bind (wpAny_bind (wpAny_specialOf hT hl (wpAny_pure ?_)))
  refine wpAny_bind ?_
  have key : wpAny (model prog w) A (getItem o i) (fun r s' => wpAny (model prog w) A (do letTemporaryGo value o r; pure r) Q E s') E s :=
    wpAny_mono h (fun r s' hr => wpAny_bind (wpAny_letTemporaryGo (wpAny_pure hr))) fun o' o' x => x
  exact (sub_not slice o i).elim (fun e => (congrArg (fun t => wpAny (model prog w) A t _ E s) e).mpr (wpAny_operate (α := Unit) key)) fun e => (congrArg (fun t => wpAny (model prog w) A t _ E s) e).mpr (wpAny_operate (α := Unit) key)
theorem subW_snd (hc : CxOk c) (ha : At c ρ σ s) {v i : Value} {V I : Val} (hv : vval v = some V) (hi : vval i = some I) (h : subW V I σ Q) (value slice : PySem.Expr) :
    wpAny (model c.G.prog c.G.w) c.A (subscriptTail value slice v i) (Good c ρ Q) E s := by
  cases V with
  | ref a =>
    rw [vval_ref hv]
    replace h : subO (σ a) I σ Q := h
    revert h
    cases hσ : σ a with
    | none => exact fun h => h.elim
    | some ob =>
    cases ob with
    | list xs =>
      intro h
      obtain ⟨k, rfl, h'⟩ := onI_inv h
      obtain ⟨t, rfl⟩ := vval_int hi
      clear h
      refine ha.list hσ fun vs n h1 h2 hl h3 => ?_
      have hL : s.heap.IsList a vs := ⟨_, h1, rfl, n, rfl⟩
      refine tail_snd (T := "list") (hL.typeIs) list_getitem_lookup (getPos_pos h' (fun j x hj h6 h5 hq => ?_) fun x q0 q1 h6 hq => ?_)
      · subst hj
        obtain ⟨v', h7, h8⟩ := h2.at h6
        exact wpAny_getItem_list hL (Int.natCast_nonneg j) (by lia) h7 (good_val ha h8 hq)
      · obtain ⟨v', h7, h8⟩ := h2.at h6
        exact wpAny_getItem_list_neg hL q0 (by lia) (by lia) (by rw [hl]; exact h7) (good_val ha h8 hq)
    | tup xs =>
      intro h
      obtain ⟨k, rfl, hk0, h'⟩ := onI_inv h
      obtain ⟨t, rfl⟩ := vval_int hi
      clear h
      refine getPos_pos h' (fun j x hj h6 h5 hq => ?_) fun x q0 => absurd hk0 (Int.not_le.mpr q0)
      subst hj
      refine ha.tup hσ fun vs n h1 h2 hl h3 => ?_
      have hL : IsTup s.heap a vs := ⟨_, h1, rfl, n, rfl⟩
      obtain ⟨v', h7, h8⟩ := h2.at h6
      exact tail_snd (T := "tuple") (hL.typeIs) slot_tuple_getitem.lookup (getItem_tuple hL (by lia) (by lia) (idx_nat (by rw [hl]; exact h5)) h7 (good_val ha h8 hq))
    | idict ep es =>
      intro h
      obtain ⟨k, rfl, h'⟩ := onI_inv h
      obtain ⟨t, rfl⟩ := vval_int hi
      clear h
      obtain ⟨x, hx, h⟩ := onS1_inv h'
      refine ha.idict hσ fun kvs h1 h2 h3 o' => ?_
      have hr := valueAt_rel (k := k) h2
      rw [hx] at hr
      obtain ⟨p, hp, hpv⟩ := Option.map_eq_some_iff.mp hr
      exact tail_snd (T := "dict") h1.dictOf.typeIs slot_dict_getitem.lookup (wpAny_getItem_of (knd := iK c) (k := k) (beq_self_eq_true k) h1.dictOf.mapOf hp (good_val (ha.tok _) hpv h))
    | tdict ep es =>
      intro h
      refine Classical.byContradiction fun hG => ?_
      obtain ⟨hk, t, k, rfl, ht, h⟩ := h
      obtain ⟨x, hx, h⟩ := onS1_inv h
      refine hG ?_
      clear hG
      rw [vval_ref hi]
      refine ha.tdict hσ hk fun xs h1 h2 h3 o' => ?_
      have hr := atKey_rel (k := k) h2
      rw [hx] at hr
      obtain ⟨p, hp, hpv⟩ := Option.map_eq_some_iff.mp hr
      exact tail_snd (T := "dict") h1.typeIs slot_dict_getitem.lookup (wpAny_getItem_heap (tupleKind_room_in1 (by have := units_lt hc; lia)) (ha.key ht) h1 hp (good_val (ha.tok _) hpv h))
    | _ => exact fun h => h.elim
  | str _ => exact h.elim
  | none => exact h.elim
  | bool _ => exact h.elim
  | int _ => exact h.elim
end
theorem snd_sub {o i : Ex} (h1 : SndE o) (h2 : SndE i) : SndE (.sub o i) := fun c ρ σ s Q x hc ha hm hw => on_of (k := 9) hm rfl fun v hm =>
  Subscript_ (gb (h1 c ρ σ s _ _ hc ha (and2 hm).1 hw) fun v V σ₁ s₁ hV ha₁ hw₁ => gb (h2 c ρ σ₁ s₁ _ _ hc ha₁ (and2 hm).2 hw₁) fun k I σ₂ s₂ hI ha₂ hw₂ => subW_snd hc ha₂ hV hI hw₂ _ _)
section
variable {c : Cx} {ρ : Loc} {σ : Sto} {s : Shared} {Q : KV} {E : Value → Shared → Prop}
theorem part_of {v : Value} {V : Val} (hv : vval v = some V) {n d : Nat} {k : Nat} (h : bnd n d V = some k) : ∃ o, IsPart v o ∧ k = o.elim d (clipAt n) := by
  cases V with
  | none => rw [vval_none hv]; exact ⟨none, .none, (Option.some.inj h).symm⟩
  | int i =>
    obtain ⟨t, rfl⟩ := vval_int hv
    exact ⟨some i, .int i t, (Option.some.inj h).symm⟩
  | bool _ => exact no h
  | str _ => exact no h
  | ref _ => exact no h
theorem VsR.drop {vs : List Value} {xs : List Val} (h : VsR vs xs) (n : Nat) : VsR (vs.drop n) (xs.drop n) := by simp only [VsR, List.map_drop] at *; rw [h]
theorem VsR.take {vs : List Value} {xs : List Val} (h : VsR vs xs) (n : Nat) : VsR (vs.take n) (xs.take n) := by simp only [VsR, List.map_take] at *; rw [h]
theorem listOr_snd (ha : At c ρ σ s) {a : Nat} {xs : List Val} (h : listOr σ a = some xs) {P : Prop} (k : ∀ vs : Array Value, s.heap.IsList a vs → VsR vs.toList xs → vs.size = xs.length → xs.length ≤ 2000000 → P) : P := by
  unfold listOr at h
  split at h
  · rename_i q
    cases h
    exact ha.list q fun vs n h1 h2 h3 h4 => k vs ⟨_, h1, rfl, n, rfl⟩ h2 h3 h4
  · rename_i q
    cases h
    obtain ⟨_, o, h1, vs, n, h2, h3, h4, h5⟩ := ha.sto _ _ q
    exact k vs ⟨o, h1, h2, n, h3⟩ h4 (by rw [← Array.length_toList]; exact h4.len) (Nat.le_trans h5 (by decide))
  · exact no h
theorem pick_snd (ha : At c ρ σ s) {a : Nat} {vs : Array Value} {l u t : Value} {lo hi st : Option Int} (h1 : s.heap.IsList a vs) (hsz : vs.size ≤ 2000000) (p1 : IsPart l lo) (p2 : IsPart u hi) (p3 : IsPart t st) (h0 : st ≠ some 0) {ys : List Val}
    (hy : VsR (slicePick vs lo hi st).toList ys) (hQ : newW σ (.list ys) Q) (value slice : PySem.Expr) :
    wpAny (model c.G.prog c.G.w) c.A (subscriptTail value slice (.ref a) (.ref s.heap.objs.size)) (Good c ρ Q) E { s with heap := s.heap.push { cls := .type "slice", data := .fields #[l, u, t] } } := by
  have hs : ({ s with heap := s.heap.push { cls := .type "slice", data := .fields #[l, u, t] } } : Shared).heap.IsList a vs := h1.at fun o e => Heap.get?_push_of_some _ e
  refine tail_snd (T := "list") hs.typeIs list_getitem_lookup (wpAny_getItem_list_slice hs (Heap.IsSliceOf.new ..) p1 p2 p3 h0 ?_ (Nat.le_trans hsz (by decide)))
  have ha' : At c ρ σ { s with heap := s.heap.push { cls := .type "slice", data := .fields #[l, u, t] } } := ha.grow fun o' o' e => Heap.get?_push_of_some _ e
  refine ha'.push (ob := .list ys) ⟨_, _, rfl, hy, ?_⟩ rfl hQ
  rw [← hy.len, Array.length_toList]
  exact Nat.le_trans (slicePick_size_le vs lo hi st) hsz
theorem sliceW_snd (hc : CxOk c) (ha : At c ρ σ s) {v l u : Value} {V L U : Val} (hv : vval v = some V) (hl : vval l = some L) (hu : vval u = some U) (h : sliceW V L U σ Q) (value slice : PySem.Expr) :
    wpAny (model c.G.prog c.G.w) c.A (subscriptTail value slice v (.ref s.heap.objs.size)) (Good c ρ Q) E { s with heap := s.heap.push { cls := .type "slice", data := .fields #[l, u, .none] } } := by
  cases V with
  | ref a =>
    rw [vval_ref hv]
    simp only [sliceW] at h
    split at h
    · rename_i xs hσ
      obtain ⟨rfl, h⟩ := h
      obtain ⟨k, rfl, h0, h3, h'⟩ := onI_inv h
      clear h
      obtain ⟨m, rfl⟩ := Int.eq_ofNat_of_zero_le h0
      obtain ⟨t, rfl⟩ := vval_int hu
      rw [vval_none hl]
      refine ha.tup hσ fun vs n h1 h2 hlen h4 => ?_
      have ha' : At c ρ σ { s with heap := s.heap.push { cls := .type "slice", data := .fields #[.none, .int (m : Nat) t, .none] } } := ha.grow fun o' o' e => Heap.get?_push_of_some _ e
      have hs : IsTup (s.heap.push { cls := .type "slice", data := .fields #[.none, .int (m : Nat) t, .none] }) a vs := ⟨_, Heap.get?_push_of_some _ h1, rfl, n, rfl⟩
      refine tail_snd (T := "tuple") hs.typeIs slot_tuple_getitem.lookup (tsl_getItem hs (Heap.IsSliceOf.new ..) (by lia) ?_ (by simp only [sizeLine]; lia))
      refine ha'.push (ob := .tup (xs.take m)) ⟨_, _, rfl, (h2.take m).arr, ?_⟩ rfl h'
      rw [List.length_take]; exact Nat.le_trans (Nat.min_le_right _ _) h4
    split at h
    · rename_i xs hσ
      refine listOr_snd ha hσ fun vs h1 h2 hlen h3 => ?_
      obtain ⟨i, hi, h⟩ := onS1_inv h
      obtain ⟨j, hj, h⟩ := onS1_inv h
      obtain ⟨lo, p1, e1⟩ := part_of hl hi
      obtain ⟨up, p2, e2⟩ := part_of hu hj
      refine pick_snd ha h1 (by lia) p1 p2 .none (fun q => nomatch q) ?_ h value slice
      rw [slicePick_plain, hlen, ← e1, ← e2]
      have := (h2.drop i).take (j - i)
      simpa [cut] using this
    · exact h.elim
  | str _ => exact h.elim
  | none => exact h.elim
  | bool _ => exact h.elim
  | int _ => exact h.elim
end
theorem snd_part {e : Ex} (h : SndE e) {c : Cx} {ρ : Loc} {σ : Sto} {s : Shared} {Q : KV} {e' : Option PySem.Expr} (hc : CxOk c) (ha : At c ρ σ s) (hm : mO e (mE c.env.scope.names e) e' = true)
    (hw : wpE (WF c.G c.d) c.gv e ρ σ Q) : wpAny (model c.G.prog c.G.w) c.A (evalPart e' c.env) (Good c ρ Q) (Er c) s := by
  cases e' with
  | none =>
    have : e = .none_ := by
      have hm : isNone_ e = true := hm
      cases e <;> first | rfl | exact Bool.noConfusion hm
    subst this
    exact wpAny_pure (good_val ha rfl hw)
  | some e' => exact h c ρ σ s Q e' hc ha hm hw
theorem snd_slice {o lo hi : Ex} (h1 : SndE o) (h2 : SndE lo) (h3 : SndE hi) : SndE (.slice o lo hi) := fun c ρ σ s Q x hc ha hm hw => mE_slice hm fun o' l' u' p' pos m1 m2 m3 =>
  Subscript_ (gb (h1 c ρ σ s _ _ hc ha m1 hw) fun v V σ₁ s₁ hV ha₁ hw₁ => wpAny_Slice (gb (snd_part h2 hc ha₁ m2 hw₁) fun l L σ₂ s₂ hL ha₂ hw₂ =>
    gb (snd_part h3 hc ha₂ m3 hw₂) fun u U σ₃ s₃ hU ha₃ hw₃ => wpAny_pure (sliceW_snd hc ha₃ hV hL hU hw₃ _ _)))
end BP

namespace BP
open PySem PyProof.Rows
theorem fdiv_pos {a b : Int} (h : 0 < b) : a.fdiv b = a / b := by rw [Int.fdiv_eq_ediv_of_nonneg _ (Int.le_of_lt h)]
theorem fmod_pos {a b : Int} (h : 0 < b) : a.fmod b = a % b := by rw [Int.fmod_eq_emod_of_nonneg _ (Int.le_of_lt h)]
theorem log_small {n : Nat} (h : n ≤ 1000000) : n.log2 < 20 := by
  by_cases q : n = 0
  · rw [q]; decide
  · exact (Nat.log2_lt q).mpr (Nat.lt_of_le_of_lt h (by decide))
theorem intBits_small {i : Int} (h : -lim ≤ i ∧ i ≤ lim) : Builtin.Int.intBits i ≤ 64 := by
  have h2 := log_small (n := i.natAbs) (by simp only [lim] at h; lia)
  unfold Builtin.Int.intBits
  split <;> lia
theorem noPylong {a b : Int} (h0 : 0 < b) (h : b ≤ lim) : Builtin.divisionGoesByPylong a b = false := by
  have h2 := log_small (n := b.natAbs) (by simp only [lim] at h; lia)
  unfold Builtin.divisionGoesByPylong
  have h3 : ¬ ((b == 0) = true) := fun q => by rw [eq_of_beq q] at h0; exact absurd h0 (by decide)
  simp only [h3, Bool.false_eq_true, if_false]
  rw [show decide (b.natAbs.log2 / 30 + 1 > 300) = false from decide_eq_false (by lia)]; rfl
theorem rep_fold {α : Type} (a : Array α) : ∀ (k : Nat) (acc : Array α), (List.foldl (fun x y => x ++ y) acc (List.replicate k a)).toList = acc.toList ++ rep a.toList k
  | 0, acc => (List.append_nil _).symm
  | k + 1, acc => by rw [List.replicate_succ, List.foldl_cons, rep_fold a k, Array.toList_append, List.append_assoc]; rfl
theorem rep_len {α : Type} (xs : List α) : ∀ k : Nat, (rep xs k).length = k * xs.length
  | 0 => (Nat.zero_mul _).symm
  | k + 1 => by rw [rep, List.length_append, rep_len xs k, Nat.succ_mul, Nat.add_comm]
theorem rep_nil {α : Type} : ∀ k : Nat, rep ([] : List α) k = []
  | 0 => rfl
  | k + 1 => rep_nil k
theorem bin_snd (op : OpB) : ∀ (c : Cx) (ρ : Loc) (σ : Sto) (s : Shared) (a b : Value) (V W : Val) (Q : KV) (E : Value → Shared → Prop), CxOk c → At c ρ σ s → vval a = some V → vval b = some W → binW op V W σ Q →
      wpAny (model c.G.prog c.G.w) c.A (binaryOp op.py a b) (Good c ρ Q) E s := by
  intro c ρ σ s a b V W Q E hc ha hV hW h
  have two_ints : ∀ {K : Int → Int → Prop} {P : Prop}, int2 V W K → (∀ i j t u, a = .int i t → b = .int j u → K i j → P) → P := fun h k => by
    obtain ⟨i, j, rfl, rfl, h⟩ := int2_inv h
    obtain ⟨t, rfl⟩ := vval_int hV; obtain ⟨u, rfl⟩ := vval_int hW
    exact k i j t u rfl rfl h
  cases op with
  | add =>
    cases V with
    | none => exact h.elim
    | bool _ => exact h.elim
    | int i => cases W with
      | int j => obtain ⟨t, rfl⟩ := vval_int hV; obtain ⟨u, rfl⟩ := vval_int hW; exact P.add_int (good_int ha h)
      | none => exact h.elim
      | bool _ => exact h.elim
      | str _ => exact h.elim
      | ref _ => exact h.elim
    | str cs => cases W with
      | int j => exact h.elim
      | none => exact h.elim
      | bool _ => exact h.elim
      | ref _ => exact h.elim
      | str ds =>
        obtain ⟨x, t, rfl, rfl, hx⟩ := vval_str hV
        obtain ⟨y, u, rfl, rfl, hy⟩ := vval_str hW
        obtain ⟨h0, h⟩ := h
        rw [Array.length_toList, Array.length_toList] at h0
        refine P.add_str ?_
        split
        · rename_i q
          have q : x.cps = #[] := Array.eq_empty_of_size_eq_zero (by simpa [Str.length] using q)
          refine good_val ha (vval_mk hy) ?_
          rw [q] at h; exact h
        · split
          · rename_i q
            have q : y.cps = #[] := Array.eq_empty_of_size_eq_zero (by simpa [Str.length] using q)
            refine good_val ha (vval_mk hx) ?_
            rw [q] at h
            rw [show (#[] : Array Nat).toList = [] from rfl, List.append_nil] at h; exact h
          · have hz : (x ++ y).cps.size = x.cps.size + y.cps.size := by rw [Str.cps_append, Array.size_append]
            refine ⟨?_, ⟨_, σ, vval_mk (by rw [hz]; exact h0), ha.tok _, ?_⟩⟩
            · show (x ++ y).cps.size ≤ sizeLine
              rw [hz]; exact Nat.le_trans h0 (by decide)
            · rw [Str.cps_append, Array.toList_append]; exact h
    | ref x => cases W with
      | int j => exact h.elim
      | none => exact h.elim
      | bool _ => exact h.elim
      | str _ => exact h.elim
      | ref y =>
        rw [vval_ref hV, vval_ref hW]
        obtain ⟨xs, hx, h⟩ := onL_inv h
        obtain ⟨ys, hy, h0, h⟩ := onL_inv h
        refine ha.list hx fun vs n a1 a2 l1 o' => ha.list hy fun ws m b1 b2 l2 o' => ?_
        have h0 : xs.length + ys.length ≤ 1000000 := h0
        refine concat_meets ⟨_, a1, rfl⟩ ⟨_, b1, rfl⟩ noFill_list_add seq_list_add PySem.F.slot_list_add PySem.F.entry_list_add (PySem.F.args_list_add_2 _ _) (list_addW _ _ vs ws n m none none #[] #[] (by simp only [sizeLine]; lia)) ⟨a1, b1, ?_⟩
        refine ha.push (ob := .list (xs ++ ys)) ⟨_, _, rfl, ?_, ?_⟩ rfl h
        · rw [Array.toList_append]; exact a2.append b2
        · rw [List.length_append]; exact Nat.le_trans h0 (by decide)
  | sub => exact two_ints h fun i j t u e1 e2 h => by rw [e1, e2]; exact P.sub_int (good_int ha h)
  | mul =>
    cases V with
    | none => exact h.elim
    | bool _ => exact h.elim
    | int i => cases W with
      | int j => obtain ⟨t, rfl⟩ := vval_int hV; obtain ⟨u, rfl⟩ := vval_int hW; exact P.mul_int (good_int ha h.2) (h.1.elim (fun q => IntMulOk.of_left (intBits_small q)) fun q => IntMulOk.of_right (intBits_small q))
      | none => exact h.elim
      | bool _ => exact h.elim
      | str _ => exact h.elim
      | ref _ => exact h.elim
    | str cs =>
      obtain ⟨n, rfl, h0, h1, h2, h⟩ := onI_inv h
      obtain ⟨x, t, rfl, rfl, hx⟩ := vval_str hV
      obtain ⟨u, rfl⟩ := vval_int hW
      rw [Array.length_toList] at h2
      have hm : x.cps.size * n.toNat ≤ 1000 * 1000 := Nat.mul_le_mul h2 (by lia)
      refine P.mul_str (by rw [decide_eq_false (by lia), decide_eq_false (by lia)]; rfl) (fun q o' => ?_) (fun o' o' => ?_) ?_
      · have e : ((x.cps.size : Nat) : Int) * n = ((x.cps.size * n.toNat : Nat) : Int) := by rw [Int.natCast_mul, Int.toNat_of_nonneg h0]
        show ¬ ((x.cps.size : Nat) : Int) > (9223372036854775807 : Int) / n
        refine Int.not_lt.mpr ((Int.le_ediv_iff_mul_le (by lia)).mpr ?_)
        rw [e]; lia
      · show decide (x.cps.size * n.toNat > _) = false
        exact decide_eq_false (by simp only [sizeLine]; lia)
      · split
        · rename_i q
          have : n = 0 := by lia
          subst this
          exact ⟨by decide, ⟨_, σ, rfl, ha.tok _, h⟩⟩
        · split
          · rename_i q
            refine good_val ha (vval_mk hx) ?_
            rw [Bool.or_eq_true, beq_iff_eq, beq_iff_eq] at q
            rcases q with q | q
            · subst q
              have e : rep x.cps.toList (1 : Int).toNat = x.cps.toList := List.append_nil _
              rw [e] at h; exact h
            · have q : x.cps = #[] := Array.eq_empty_of_size_eq_zero q
              rw [q] at h ⊢
              rw [show (#[] : Array Nat).toList = [] from rfl, rep_nil] at h; exact h
          · have e : ((List.replicate n.toNat x.cps).foldl (· ++ ·) #[]).toList = rep x.cps.toList n.toNat := by rw [rep_fold]; rfl
            have hz : ((List.replicate n.toNat x.cps).foldl (· ++ ·) #[]).size = n.toNat * x.cps.size := by rw [← Array.length_toList, e, rep_len, Array.length_toList]
            have hm' : n.toNat * x.cps.size ≤ 1000000 := by rw [Nat.mul_comm]; exact hm
            refine ⟨?_, ⟨_, σ, vval_mk (x := ⟨(List.replicate n.toNat x.cps).foldl (· ++ ·) #[]⟩) (by show Array.size _ ≤ _; rw [hz]; exact Nat.le_trans hm' (by decide)), ha.tok _, by rw [e]; exact h⟩⟩
            show Array.size _ ≤ _
            rw [hz]; exact Nat.le_trans hm' (by decide)
    | ref _ => exact h.elim
  | fdiv =>
    exact two_ints h fun i j t u e1 e2 h => by
      rw [e1, e2]
      refine AutoIntOps.floordiv_1 (by simp; lia) (by rw [noPylong h.1 h.2.1]; simp) ?_
      rw [fdiv_pos h.1]; exact good_int ha h.2.2
  | mod =>
    exact two_ints h fun i j t u e1 e2 h => by
      rw [e1, e2]
      refine AutoIntOps.mod_1 (by simp; lia) ?_
      rw [fmod_pos h.1]; exact good_int ha h.2.2
end BP

set_option maxRecDepth 100000
namespace BP
open PySem
section
variable {prog : Program} {w : World} {A : Around} {E : Value → Shared → Prop} {s : Shared}
noncomputable def rvObj (lo hi : Int) : Obj := { cls := .type "range_iterator", dict := none, data := .fields #[rawInt (lo + ((hi - lo).toNat : Int) - 1), rawInt ((hi - lo).toNat : Int), rawInt (-1)], slots := #[] }
theorem rv_range {r : Addr} {lo hi : Int} {t u v : Tok} {Q : Value → Shared → Prop} (hr : IsRange s.heap r lo hi 1 t u v) (hr' : -1000000 ≤ lo ∧ lo ≤ 1000000 ∧ -1000000 ≤ hi ∧ hi ≤ 1000000)
    (h : Q (.ref s.heap.objs.size) { s with heap := s.heap.push (rvObj lo hi) }) : wpAny (model prog w) A (call (.builtin "range.__reversed__") [.ref r]) Q E s := by
  have hT : s.TypeIs (.ref r) "range" := ⟨_, hr, rfl⟩
  refine wpAny_call_entry F.slot_range_reversed hT F.entry_range_reversed ?_ (F.args_range_reversed_1 _)
  unfold Builtin.«range.__reversed__»
  refine wpAny_bind (wpAny_of_eq (a := Value.ref r) rfl ?_)
  unfold Builtin.Range.rangeFields
  refine wpAny_bind (wpAny_bind (wpAny_field hr rfl (x := .int lo t) rfl (wpAny_bind (wpAny_of_eq (a := some lo) rfl ?_))))
  refine wpAny_bind (wpAny_field hr rfl (x := .int hi u) rfl (wpAny_bind (wpAny_of_eq (a := some hi) rfl ?_)))
  refine wpAny_bind (wpAny_field hr rfl (x := .int 1 v) rfl (wpAny_bind (wpAny_of_eq (a := some 1) rfl ?_)))
  refine wpAny_pure ?_
  have hn : Builtin.Range.rangeSize lo hi 1 = ((hi - lo).toNat : Int) := by unfold Builtin.Range.rangeSize; by_cases q : lo < hi <;> simp [q] <;> lia
  have fits : ∀ x : Int, -4000000 ≤ x → x ≤ 4000000 → Builtin.Range.rangeFitsLong x = true := fun x g1 g2 => by unfold Builtin.Range.rangeFitsLong; simp; lia
  dsimp only
  rw [hn, fits lo (by lia) (by lia), fits hi (by lia) (by lia), fits 1 (by decide) (by decide), fits (-1) (by decide) (by decide), fits (lo - 1) (by lia) (by lia), fits ((hi - lo).toNat : Int) (by lia) (by lia)]
  have e : lo + (((hi - lo).toNat : Int) - 1) * 1 = lo + ((hi - lo).toNat : Int) - 1 := by lia
  rw [e]
  exact wpAny_bind (wpAny_newObj_type (wpAny_pure ⟨_, rfl, h⟩))
theorem mro_rv : mroOf (.type "reversed") = pure [.type "reversed", .type "object"] := by rw [mroOf_type]; kernel_rfl
theorem lookup_rv : typeLookup (.type "reversed") "__new__" = pure (some (.builtin "reversed.__new__")) := by rw [typeLookup_type, builtinLookup_eq_fast]; kernel_rfl
theorem made_rv : Bind.madeBy (.type "reversed") = pure (some "reversed.__new__") := madeBy_type mro_rv lookup_rv (by decide +kernel)
theorem entry_rv : entryFor table "reversed.__new__" = some Builtin.«reversed.__new__» := entryFor_of_tree (by kernel_rfl)
theorem plain_rv : plainId "reversed.__new__" = true := by decide +kernel
theorem subs_rv : isSubtype (.type "reversed") (.type "reversed") = pure true := by rw [isSubtype_type]; kernel_rfl
theorem code_rv {r : Addr} {lo hi : Int} {t u v : Tok} {Q : Value → Shared → Prop} (hr : IsRange s.heap r lo hi 1 t u v) (hr' : -1000000 ≤ lo ∧ lo ≤ 1000000 ∧ -1000000 ≤ hi ∧ hi ≤ 1000000)
    (h : Q (.ref s.heap.objs.size) { s with heap := s.heap.push (rvObj lo hi) }) : codeAny (model prog w) A (.call (.builtin "reversed.__new__") ⟨[.type "reversed", .ref r], []⟩) (wants Q E) s := by
  have hT : s.TypeIs (.ref r) "range" := ⟨_, hr, rfl⟩
  refine codeAny_of_tree ?_
  show wpAny _ A.in1 (do checkBuiltinCall "reversed.__new__" ⟨[.type "reversed", .ref r], []⟩; again (.builtin "reversed.__new__" ⟨[.type "reversed", .ref r], []⟩)) _ _ s
  refine wpAny_bind (wpAny_of_eq (a := ()) (by kernel_rfl) (wpAny_pure ⟨plainId_quiet plain_rv _, codeAny_builtin entry_rv ?_⟩))
  rw [Around.under_plainId plain_rv _]
  unfold Builtin.«reversed.__new__»
  refine wpAny_bind (wpAny_of_eq (a := (Value.type "reversed", [Value.ref r])) (by unfold Builtin.SmallTypes.newClass; simp only [isType, subs_rv, pure_bind, Bool.not_true, Bool.false_eq_true, if_false]) ?_)
  dsimp only
  refine wpAny_bind (wpAny_of_eq (a := ()) (by first | rfl | kernel_rfl) (wpAny_bind (wpAny_of_eq (a := ()) (by first | rfl | kernel_rfl) ?_)))
  refine wpAny_bind (wpAny_specialOf hT F.slot_range_reversed.lookup ?_)
  dsimp only
  refine wpAny_bind (wpAny_of_eq (F.slot_range_reversed.bind _) ?_)
  dsimp only
  rw [if_neg (show ¬ ((Value.builtin "range.__reversed__" == Value.none) = true) from Bool.false_ne_true)]
  refine wpAny_bind (wpAny_rule ?_)
  refine wpAny_bind (m := runValue (.call (.builtin "range.__reversed__") ⟨[.ref r], []⟩)) (show wpAny _ _ (call (.builtin "range.__reversed__") [.ref r]) _ _ _ from rv_range hr hr' ?_)
  exact wpAny_pure h
theorem call_rv {r : Addr} {lo hi : Int} {t u v : Tok} {Q : Value → Shared → Prop} (hr : IsRange s.heap r lo hi 1 t u v) (hr' : -1000000 ≤ lo ∧ lo ≤ 1000000 ∧ -1000000 ≤ hi ∧ hi ≤ 1000000)
    (h : Q (.ref s.heap.objs.size) { s with heap := s.heap.push (rvObj lo hi) }) : wpAny (model prog w) A (call (.type "reversed") [.ref r]) Q E s := by
  have h3 : ((Manifest.find? "reversed").bind (·.mro.findSome? fun t => (Manifest.find? t).bind fun b => if b.noNew then some true else if b.attrs.any (·.1 == "__new__") then some false else none)).getD false = false := by decide +kernel
  have hct : checkTypeCall "reversed" ⟨[.ref r], []⟩ = pure () := by kernel_rfl
  have hsub : isSubtype (.type "range_iterator") (.type "reversed") = pure false := by rw [isSubtype_type]; kernel_rfl
  have hno : (Value.type "reversed" == Value.type "type") = false := by decide +kernel
  have hmro := mro_rv
  have hmade := made_rv
  refine wpAny_call (codeAny_of_tree ?_)
  show wpAny _ _ (callAny (.type "reversed") _) _ _ _
  refine wpAny_pure ⟨Code.quiet_builtin _ (by decide +kernel), codeAny_builtin F.entry_type_call ?_⟩
  rw [Around.under_plain (weight_type_call_type "reversed" [.ref r] []) rfl]
  repeat (any_goals (first | assumption | wp_step))
  refine codeAny_mono (code_rv (E := E) (Q := fun obj s₁ => obj = .ref s.heap.objs.size ∧ s₁ = { s with heap := s.heap.push (rvObj lo hi) }) hr hr' ⟨rfl, rfl⟩) fun x s₁ hx => ?_
  cases x with
  | error e => exact hx
  | ok fl =>
    cases fl with
    | ret obj =>
      obtain ⟨rfl, rfl⟩ := hx
      have hT : ({ s with heap := s.heap.push (rvObj lo hi) } : Shared).TypeIs (.ref s.heap.objs.size) "range_iterator" := ⟨_, Heap.get?_push_size _ rfl, rfl⟩
      repeat (any_goals (first | assumption | wp_step))
    | _ => exact hx.elim
end
end BP

namespace BP
open PySem PyProof.Rows
inductive Kd where
  | list (a : Nat) | tup (a : Nat) | range (lo hi : Int) | rev (lo hi : Int) | dict (a ep n : Nat)
noncomputable def KdOf (σ : Sto) (V : Val) (items : List Val) : Kd → Prop
  | .list a => V = .ref a ∧ σ a = some (.list items)
  | .tup a => V = .ref a ∧ σ a = some (.tup items)
  | .range lo hi => ∃ a, V = .ref a ∧ σ a = some (.range lo hi) ∧ items = (irange lo hi).map .int
  | .rev lo hi => ∃ a, V = .ref a ∧ σ a = some (.range lo hi) ∧ items = (irange lo hi).reverse.map .int
  | .dict a ep n => V = .ref a ∧ ∃ es, σ a = some (.idict ep es) ∧ items = (es.map fun e => .int e.1) ∧ es.length = n
noncomputable def ItAt : Kd → Addr → Nat → Heap → Prop
  | .list a, it, i, h => h.IsListIter it a i
  | .tup a, it, i, h => h.IsTupleIter it a i
  | .range lo hi, it, i, h => IsRangeIter h it (lo + i) ((hi - lo).toNat - (i : Int)) 1
  | .rev lo hi, it, i, h => IsRangeIter h it (lo + ((hi - lo).toNat : Int) - 1 - i) ((hi - lo).toNat - (i : Int)) (-1)
  | .dict a ep n, it, i, h => h.IsKeyIter it a i n ep
theorem itAt_obj {kd : Kd} {it : Addr} {i : Nat} {h : Heap} (x : ItAt kd it i h) : ∃ o, h.get? it = some o ∧ (∃ n vs, o.cls = .type n ∧ o.data = .fields vs ∧ (["enumerate", "zip", "dict_itemiterator", "dict_reverseitemiterator", "odict_iterator", "itertools.zip_longest", "itertools.pairwise"].contains n) = false) ∧ ∀ h' : Heap, h'.get? it = some o → ItAt kd it i h' := by
  cases kd with
  | list a => obtain ⟨o, h1, h2, h3⟩ := x; exact ⟨o, h1, ⟨_, _, h2, h3, by decide⟩, fun h' e => ⟨o, e, h2, h3⟩⟩
  | tup a => obtain ⟨o, h1, h2, h3⟩ := x; exact ⟨o, h1, ⟨_, _, h2, h3, by decide⟩, fun h' e => ⟨o, e, h2, h3⟩⟩
  | range lo hi => exact ⟨_, x, ⟨_, _, rfl, rfl, by decide⟩, fun h' e => e⟩
  | rev lo hi => exact ⟨_, x, ⟨_, _, rfl, rfl, by decide⟩, fun h' e => e⟩
  | dict a ep n => obtain ⟨o, h1, h2, h3⟩ := x; exact ⟨o, h1, ⟨_, _, h2, h3, by decide⟩, fun h' e => ⟨o, e, h2, h3⟩⟩
theorem rangeSize_one (lo hi : Int) : Builtin.Range.rangeSize lo hi 1 = ((hi - lo).toNat : Int) := by
  unfold Builtin.Range.rangeSize
  by_cases h : lo < hi <;> simp [h] <;> omega
theorem kdOf_stay {σ σ' : Sto} {V : Val} {items : List Val} {kd : Kd} (h : KdOf σ V items kd) (hs : ∀ a, V = .ref a → σ' a = σ a) : KdOf σ' V items kd := by
  cases kd with
  | list a => obtain ⟨rfl, h⟩ := h; exact ⟨rfl, (hs a rfl).trans h⟩
  | tup a => obtain ⟨rfl, h⟩ := h; exact ⟨rfl, (hs a rfl).trans h⟩
  | range lo hi => obtain ⟨a, rfl, h, h'⟩ := h; exact ⟨a, rfl, (hs a rfl).trans h, h'⟩
  | rev lo hi => obtain ⟨a, rfl, h, h'⟩ := h; exact ⟨a, rfl, (hs a rfl).trans h, h'⟩
  | dict a ep n => obtain ⟨rfl, es, h, h'⟩ := h; exact ⟨rfl, es, (hs a rfl).trans h, h'⟩
section
variable {c : Cx} {ρ : Loc} {σ : Sto} {s : Shared} {E : Value → Shared → Prop}
theorem range_small {lo hi : Int} (h : -lim ≤ lo ∧ lo ≤ lim ∧ -lim ≤ hi ∧ hi ≤ lim) : Builtin.Range.small lo hi 1 = true := by
  simp only [lim] at h
  unfold Builtin.Range.small
  rw [rangeSize_one]
  simp [Builtin.Range.rangeFitsLong]
  omega
theorem iter_snd (ha : At c ρ σ s) {v : Value} {V : Val} (hv : vval v = some V) {items : List Val} (ht : itemsOf σ V = some items) {R : Value → Shared → Prop}
    (hR : ∀ (o : Obj) kd, KdOf σ V items kd → ItAt kd s.heap.objs.size 0 (s.heap.push o) → R (.ref s.heap.objs.size) { s with heap := s.heap.push o }) :
    wpAny (model c.G.prog c.G.w) c.A (pyIter v) R E s := by
  cases V with
  | ref a =>
    rw [vval_ref hv]
    replace ht : itemsO (σ a) = some items := ht
    revert ht
    cases hσ : σ a with
    | none => exact fun ht => no ht
    | some ob =>
    cases ob with
    | list xs =>
      intro ht
      cases ht
      exact ha.list hσ fun vs n h1 h2 o' h3 => wpAny_pyIter_list ⟨_, h1, rfl, n, rfl⟩ (hR _ (.list a) ⟨rfl, hσ⟩ ⟨_, Heap.get?_push_size _ rfl, rfl, rfl⟩)
    | tup xs =>
      intro ht
      cases ht
      exact ha.tup hσ fun vs n h1 h2 o' h3 => wpAny_pyIter_tuple ⟨_, h1, rfl, n, rfl⟩ (hR _ (.tup a) ⟨rfl, hσ⟩ ⟨_, Heap.get?_push_size _ rfl, rfl, rfl⟩)
    | range lo hi =>
      intro ht
      cases ht
      refine Classical.byContradiction fun hG => ?_
      obtain ⟨_, o, h1, h2, t, u, w, rfl⟩ := ha.sto a _ hσ
      refine hG ?_
      clear hG
      refine wpAny_pyIter_range h1 (range_small h2) (hR _ (.range lo hi) ⟨a, rfl, hσ, rfl⟩ ?_)
      show IsRangeIter _ _ _ _ _
      rw [rangeSize_one]
      have := Heap.get?_push_size s.heap (o := { cls := .type "range_iterator", dict := none, data := .fields #[rawInt lo, rawInt ((hi - lo).toNat : Int), rawInt 1], slots := #[] }) rfl
      simpa using this
    | idict ep es =>
      intro ht
      cases ht
      refine ha.idict hσ fun kvs h1 h2 h3 o' => wpAny_pyIter_dict (knd := iK c) h3 h1 (hR _ (.dict a ep kvs.length) ⟨rfl, es, hσ, rfl, ?_⟩ ⟨_, Heap.get?_push_size _ rfl, rfl, rfl⟩)
      have := congrArg List.length h2
      rw [List.length_map, List.length_map] at this; exact this.symm
    | _ => exact fun ht => no ht
  | str _ => exact no ht
  | none => exact no ht
  | bool _ => exact no ht
  | int _ => exact no ht
theorem iter_self {kd : Kd} {it : Addr} {i : Nat} (hi : ItAt kd it i s.heap) {R : Value → Shared → Prop} (hR : R (.ref it) s) : wpAny (model c.G.prog c.G.w) c.A (pyIter (.ref it)) R E s := by
  cases kd with
  | list a => exact wpAny_pyIter_listiter hi hR
  | tup a => exact wpAny_pyIter_tupleiter hi hR
  | range lo hi' => exact wpAny_pyIter_rangeiter hi hR
  | rev lo hi' => exact wpAny_pyIter_rangeiter hi hR
  | dict a ep n => exact wpAny_pyIter_keyiter hi hR
theorem irange_len (lo hi : Int) : (irange lo hi).length = (hi - lo).toNat := by simp [irange]
theorem next_snd (hA : c.A.handled = none) (ha : At c ρ σ s) {V : Val} {items : List Val} {kd : Kd} (hk : KdOf σ V items kd) {it : Addr} {i : Nat} (hi : ItAt kd it i s.heap) {R : Option Value → Shared → Prop}
    (hS : ∀ x X h' n, items[i]? = some X → vval x = some X → ItAt kd it (i + 1) h' → Heap.SameBut it s.heap h' → R (some x) { s with heap := h', toks := n })
    (hN : ∀ h', items[i]? = none → Heap.ExtBut it s.heap h' → R none { s with heap := h' }) : wpAny (model c.G.prog c.G.w) c.A (pyNext (.ref it)) R E s := by
  have seq : ∀ {vs : Array Value}, VsR vs.toList items → (∀ x, vs[i]? = some x → (∀ h' n, ItAt kd it (i + 1) h' → Heap.SameBut it s.heap h' → R (some x) { s with heap := h', toks := n }) → wpAny (model c.G.prog c.G.w) c.A (pyNext (.ref it)) R E s) →
      (vs[i]? = none → (∀ h', Heap.ExtBut it s.heap h' → R none { s with heap := h' }) → wpAny (model c.G.prog c.G.w) c.A (pyNext (.ref it)) R E s) → wpAny (model c.G.prog c.G.w) c.A (pyNext (.ref it)) R E s := fun {vs} h2 k1 k2 => by
    cases hx : items[i]? with
    | some X =>
      obtain ⟨x, h4, h5⟩ := h2.at hx
      exact k1 x h4 fun h' n a1 a2 => hS x X h' n hx h5 a1 a2
    | none =>
      have : vs[i]? = none := by have := (h2.get i).2; rw [Array.getElem?_toList] at this; exact this.mpr hx
      exact k2 this fun h' a1 => hN h' hx a1
  cases kd with
  | list a =>
    obtain ⟨rfl, hσ⟩ := hk
    exact ha.list hσ fun vs n h1 h2 o' h3 => seq h2 (fun x h4 k => wpAny_pyNext_list_item hi ⟨_, h1, rfl, n, rfl⟩ h4 fun h' a1 a2 => k h' s.toks a1 a2) fun h4 k => wpAny_pyNext_list_end hA hi ⟨_, h1, rfl, n, rfl⟩ h4 k
  | tup a =>
    obtain ⟨rfl, hσ⟩ := hk
    exact ha.tup hσ fun vs n h1 h2 o' h3 => seq h2 (fun x h4 k => wpAny_pyNext_tuple_item hi ⟨_, h1, rfl, n, rfl⟩ h4 fun h' a1 a2 => k h' s.toks a1 a2) fun h4 k => wpAny_pyNext_tuple_end hA hi ⟨_, h1, rfl, n, rfl⟩ h4 k
  | range lo hi' =>
    obtain ⟨a, rfl, hσ, rfl⟩ := hk
    by_cases q : i < (hi' - lo).toNat
    · refine wpAny_pyNext_range_item hi (by lia) fun h' a1 a2 => hS _ (.int (lo + i)) h' _ ?_ rfl ?_ a2
      · simp [irange, q]
      · show IsRangeIter _ _ _ _ _
        have e1 : lo + ((i + 1 : Nat) : Int) = lo + (i : Int) + 1 := by lia
        have e2 : (((hi' - lo).toNat : Int) - ((i + 1 : Nat) : Int)) = ((hi' - lo).toNat : Int) - (i : Int) - 1 := by lia
        rw [e1, e2]; exact a1
    · exact wpAny_pyNext_range_end hA hi (by lia) fun h' a1 => hN h' (by simp [irange]; lia) a1
  | rev lo hi' =>
    obtain ⟨a, rfl, hσ, rfl⟩ := hk
    by_cases q : i < (hi' - lo).toNat
    · refine wpAny_pyNext_range_item hi (by lia) fun h' a1 a2 => hS _ (.int (lo + ((hi' - lo).toNat : Int) - 1 - i)) h' _ ?_ rfl ?_ a2
      · rw [List.getElem?_map, List.getElem?_reverse (by rw [irange_len]; exact q), irange_len]
        unfold irange
        rw [List.getElem?_map, List.getElem?_range (by lia)]
        show some (Val.int (lo + (((hi' - lo).toNat - 1 - i : Nat) : Int))) = _
        congr 2; lia
      · show IsRangeIter _ _ _ _ _
        have e1 : lo + ((hi' - lo).toNat : Int) - 1 - ((i + 1 : Nat) : Int) = lo + ((hi' - lo).toNat : Int) - 1 - (i : Int) + -1 := by lia
        have e2 : (((hi' - lo).toNat : Int) - ((i + 1 : Nat) : Int)) = ((hi' - lo).toNat : Int) - (i : Int) - 1 := by lia
        rw [e1, e2]; exact a1
    · exact wpAny_pyNext_range_end hA hi (by lia) fun h' a1 => hN h' (by rw [List.getElem?_eq_none (by rw [List.length_map, List.length_reverse, irange_len]; lia)]) a1
  | dict a ep n =>
    obtain ⟨rfl, es, hσ, rfl, rfl⟩ := hk
    refine ha.idict hσ fun kvs h1 h2 h3 o' => ?_
    have hl : kvs.length = es.length := by have := congrArg List.length h2; rwa [List.length_map, List.length_map] at this
    have hi : s.heap.IsKeyIter it a i kvs.length ep := by rw [hl]; exact hi
    have hke : (kvs.map (·.1))[i]? = (es.map (·.1))[i]? := by rw [h2.keys]
    rw [List.getElem?_map, List.getElem?_map] at hke
    cases hx : kvs[i]? with
    | some p =>
      rw [hx] at hke
      obtain ⟨e, he, hpe⟩ := Option.map_eq_some_iff.mp hke.symm
      refine wpAny_pyNext_dict_item (knd := iK c) (k := p.1) (v := p.2) hi h1 hx fun key h' g1 g2 g3 => ?_
      obtain ⟨t, rfl⟩ := Value.isInt_shape g1
      exact hS _ (.int e.1) h' s.toks (by rw [List.getElem?_map, he]; rfl) (by rw [hpe]; rfl) (by rw [hl] at g2; exact g2) g3
    | none =>
      rw [hx] at hke
      refine wpAny_pyNext_dict_end (knd := iK c) hA hi h1 hx fun h' g1 => hN h' ?_ g1
      rw [List.getElem?_map, Option.map_eq_none_iff.mp hke.symm]; rfl
end
end BP

namespace BP
open PySem PyProof.Rows
noncomputable def Bnd (M : Model) (A : Around) (env : Env) (E : Value → Shared → Prop) (R : Shared → Prop) : List String → List Val → Shared → Prop
  | [], _, s => R s
  | x :: xs, Vs, s => ∃ V r, Vs = V :: r ∧ ∀ v, vval v = some V → wpAny M A (storeName env (Str.ofString x) v) (fun o' s' => Bnd M A env E R xs r s') E s
theorem Bnd.run {M : Model} {A : Around} {E : Value → Shared → Prop} {env : Env} {R : Shared → Prop} : ∀ (xs : List String) (ps : List Pos) (vals : List Value) (vs : List Val) (s : Shared), ps.length = xs.length → VsR vals vs → Bnd M A env E R xs vs s →
    vs.length = xs.length → wpAny M A (assignInOrder ((xs.zip ps).map fun x v => assign (.Name (Str.ofString x.1) x.2) env v) vals) (fun o' s' => R s') E s
  | [], ps, vals, vs, s, hp, hv, h, hl => by
    rw [List.eq_nil_of_length_eq_zero hl] at hv
    rw [hv.nil_right]
    exact wpAny_pure h
  | x :: xs, [], vals, vs, s, hp, hv, h, hl => nomatch hp
  | x :: xs, p :: ps, vals, vs, s, hp, hv, h, hl => by
    obtain ⟨V, r, rfl, h⟩ := h
    cases vals with
    | nil => exact absurd hv.len (by simp)
    | cons v vals =>
      have hv := VsR.cons.mp hv
      show wpAny _ _ (assignInOrder ((fun v => assign (.Name (Str.ofString x) p) env v) :: (xs.zip ps).map fun x v => assign (.Name (Str.ofString x.1) x.2) env v) (v :: vals)) _ _ _
      simp only [assignInOrder]
      exact wpAny_bind (wpAny_holding (wpAny_assign_Name (wpAny_mono (h v hv.1) (fun o' s' h' => Bnd.run xs ps vals r s' (Nat.succ.inj hp) hv.2 h' (Nat.succ.inj hl)) fun o' o' e => e)))
theorem assignEach_tup : ∀ (xs : List String) (ts : List PySem.Expr), mTup xs ts = true → ∀ env, (assignEach ts env).findIdx? (·.1) = none ∧ (assignEach ts env).length = xs.length ∧ ∃ ps : List Pos, ps.length = xs.length ∧ (assignEach ts env).map (·.2) = (xs.zip ps).map fun x v => assign (.Name (Str.ofString x.1) x.2) env v
  | [], ts, h, env => by
    cases ts with
    | nil => exact ⟨rfl, rfl, [], rfl, rfl⟩
    | cons _ _ => exact Bool.noConfusion h
  | x :: xs, ts, h, env => by
    cases ts with
    | nil => exact Bool.noConfusion h
    | cons t ts =>
      refine isN_of (M := fun t => (assignEach (t :: ts) env).findIdx? (·.1) = none ∧ (assignEach (t :: ts) env).length = (x :: xs).length ∧ ∃ ps : List Pos, ps.length = (x :: xs).length ∧ (assignEach (t :: ts) env).map (·.2) = ((x :: xs).zip ps).map fun x v => assign (.Name (Str.ofString x.1) x.2) env v) (and2 h).1 fun p => ?_
      obtain ⟨h1, h2, ps, h3, h4⟩ := assignEach_tup xs ts (and2 h).2 env
      refine ⟨?_, congrArg (· + 1) h2, p :: ps, congrArg (· + 1) h3, congrArg (List.cons (assign (.Name (Str.ofString x) p) env)) h4⟩
      show List.findIdx? _ ((false, assign (.Name (Str.ofString x) p) env) :: assignEach ts env) = none
      rw [List.findIdx?_cons, h1]; rfl
theorem pairsV_get {σ : Sto} : ∀ {items : List Val} {turns : List (List Val)}, pairsV σ items = some turns → ∀ i : Nat, (items[i]? = none ∧ turns[i]? = none) ∨ ∃ X Y, items[i]? = some X ∧ turns[i]? = some Y ∧ pairV σ X = some Y
  | [], turns, h, i => by cases h; exact .inl ⟨rfl, rfl⟩
  | x :: xs, turns, h, i => by
    obtain ⟨p, h1, h⟩ := Option.bind_eq_some_iff.mp h
    obtain ⟨ps, h2, rfl⟩ := Option.map_eq_some_iff.mp h
    cases i with
    | zero => exact .inr ⟨x, p, rfl, rfl, h1⟩
    | succ i => exact pairsV_get h2 i
theorem pairV_inv {σ : Sto} {X : Val} {Y : List Val} (h : pairV σ X = some Y) : ∃ t, X = .ref t ∧ σ t = some (.tup Y) ∧ Y.length = 2 := by
  cases X with
  | ref t =>
    simp only [pairV] at h
    split at h
    · rename_i xs hσ
      split at h
      · rename_i q; cases h; exact ⟨t, rfl, hσ, q⟩
      · exact no h
    · exact no h
  | none => exact no h
  | bool _ => exact no h
  | int _ => exact no h
  | str _ => exact no h
theorem listV_inv {σ : Sto} {V : Val} {xs : List Val} (h : listV σ V = some xs) : ∃ a, V = .ref a ∧ σ a = some (.list xs) := by
  cases V with
  | ref a =>
    simp only [listV] at h
    split at h
    · rename_i hσ; cases h; exact ⟨a, rfl, hσ⟩
    · exact no h
  | none => exact no h
  | bool _ => exact no h
  | int _ => exact no h
  | str _ => exact no h
theorem enumV_get : ∀ (xs : List Val) (k i : Nat), (enumV k xs)[i]? = xs[i]?.map fun x => [.int ((k + i : Nat) : Int), x]
  | [], k, i => by simp [enumV]
  | x :: xs, k, 0 => by simp [enumV]
  | x :: xs, k, i + 1 => by simp only [enumV, List.getElem?_cons_succ]; rw [enumV_get xs (k + 1) i, Nat.add_right_comm]; rfl
structure Lp (c : Cx) (xs : List String) (tg : PySem.Expr) (turns : List (List Val)) (st : Sto → Prop) (I : Addr) (Pv : Addr → Prop) (It : Nat → Heap → Prop) : Prop where
  own : Pv I
  keep : ∀ i h h', It i h → (∀ b o, Pv b → h.get? b = some o → h'.get? b = some o) → It i h'
  live : ∀ i h, It i h → ∀ b, Pv b → ∃ o, h.get? b = some o
  self : ∀ i (s : Shared) (R E : Value → Shared → Prop), It i s.heap → R (.ref I) s → wpAny (model c.G.prog c.G.w) c.A (pyIter (.ref I)) R E s
  turn : ∀ ρ σ (s : Shared) i env (R RN : Shared → Prop) (Rr : Option Value → Shared → Prop) (E : Value → Shared → Prop), At c ρ σ s → st σ → It i s.heap → (∀ b, Pv b → σ b = none) →
    (∀ v s₁, wpAny (model c.G.prog c.G.w) c.A (letOwnedTupleGo tg (.ref I) v) (fun o' s₂ => wpAny (model c.G.prog c.G.w) c.A (assign tg env v) (fun o' s₃ => R s₃) E s₂) E s₁ → Rr (some v) s₁) → (∀ s₁, RN s₁ → Rr none s₁) →
    (∀ X h' n, turns[i]? = some X → X.length = xs.length → It (i + 1) h' → (∀ b o, ¬ Pv b → s.heap.get? b = some o → h'.get? b = some o) → Bnd (model c.G.prog c.G.w) c.A env E R xs X { s with heap := h', toks := n }) →
    (∀ h', turns[i]? = none → (∀ b o, ¬ Pv b → s.heap.get? b = some o → h'.get? b = some o) → RN { s with heap := h' }) → wpAny (model c.G.prog c.G.w) c.A (pyNext (.ref I)) Rr E s
section
variable {c : Cx} {ρ : Loc} {σ : Sto} {s : Shared} {E : Value → Shared → Prop}
theorem tup_of {xs : List String} {k : Nat} {tg : PySem.Expr} {M : PySem.Expr → Prop} (h : mTgt k xs tg = true) (hk : (k == 1 || k == 4) = false) (K : ∀ ts n p, mTup xs ts = true → xs.length = 2 → M (.Tuple ts n p)) : M tg := by
  unfold mTgt at h
  rw [hk] at h
  exact on_of (k := 12) (and2 h).2 rfl fun v hm => K _ _ _ hm (of_decide_eq_true (and2 h).1)
theorem assign_pair {A : Around} (hA : A.handled = none) {prog : Program} {w : World} {xs : List String} {ts : List PySem.Expr} {n : Nat} {p : Pos} (hm : mTup xs ts = true) (hl : xs.length = 2) {env : Env} {t : Addr} {vs : Array Value} {Y : List Val} (ht : s.heap.IsTuple t vs)
    (hv : VsR vs.toList Y) (hY : Y.length = 2) {R : Shared → Prop} (hS : ∀ h', (∀ b o, s.heap.get? b = some o → h'.get? b = some o) → Bnd (model prog w) A env E R xs Y { s with heap := h' }) :
    wpAny (model prog w) A (assign (.Tuple ts n p) env (.ref t)) (fun o' s' => R s') E s := by
  obtain ⟨g1, g2, ps, g3, g4⟩ := assignEach_tup xs ts hm env
  refine wpAny_assign_Tuple hA ht (by rw [g2, hl, ← Array.length_toList, hv.len, hY]) g1 fun h₃ hx₃ => ?_
  rw [g4]
  exact Bnd.run xs ps _ Y _ g3 hv (hS h₃ fun b o e => hx₃ b o (Nat.ne_of_lt (Heap.lt_size e)) e) (by rw [hl, hY])
theorem letGo_snd {kd : Kd} {I : Addr} {i : Nat} {ts : List PySem.Expr} {k : Nat} {p : Pos} {t : Addr} (hi : ItAt kd I i s.heap) {R : Unit → Shared → Prop} (hR : R () s) : wpAny (model c.G.prog c.G.w) c.A (letOwnedTupleGo (.Tuple ts k p) (.ref I) (.ref t)) R E s := by
  obtain ⟨o, ho, ⟨n, vs, hc, hd, hn⟩, _⟩ := itAt_obj hi
  unfold letOwnedTupleGo
  refine wpAny_bind (wpAny_load ho ?_)
  rw [hc, hd]
  show wpAny _ _ (if (["enumerate", "zip", "dict_itemiterator", "dict_reverseitemiterator", "odict_iterator", "itertools.zip_longest", "itertools.pairwise"].contains n && vs[0]? == some (rawInt t)) = true then _ else _) _ _ s
  rw [hn, Bool.false_and, if_neg Bool.false_ne_true]
  exact wpAny_pure hR
noncomputable def turnsK (σ : Sto) (k : Nat) (items : List Val) : Option (List (List Val)) := bif k == 1 || k == 4 then some (items.map fun x => [x]) else pairsV σ items
theorem seq_lp (hA : c.A.handled = none) {k : Nat} {xs : List String} {tg : PySem.Expr} (htg : mTgt k xs tg = true) {V : Val} {items : List Val} {turns : List (List Val)} {kd : Kd} {st : Sto → Prop} (hst : ∀ σ', st σ' → KdOf σ' V items kd ∧ turnsK σ' k items = some turns) (I : Addr) :
    Lp c xs tg turns st I (fun b => b = I) (ItAt kd I) where
  own := rfl
  keep := fun i h h' x hk => let ⟨o, h1, _, h3⟩ := itAt_obj x; h3 h' (hk _ _ rfl h1)
  live := fun i h x b hb => let ⟨o, h1, _⟩ := itAt_obj x; ⟨o, hb ▸ h1⟩
  self := fun i s R E x h => iter_self x h
  turn := fun ρ σ s i env R RN Rr E ha hs hi hI hsome hnone hS hN => by
    obtain ⟨hk, ht⟩ := hst σ hs
    unfold turnsK at ht
    cases q : k == 1 || k == 4 with
    | true =>
      rw [q] at ht
      cases ht
      unfold mTgt at htg
      rw [q] at htg
      revert hS hN hsome
      refine one_of (M := fun xs => (∀ v s₁, wpAny (model c.G.prog c.G.w) c.A (letOwnedTupleGo tg (.ref I) v) (fun o' s₂ => wpAny (model c.G.prog c.G.w) c.A (assign tg env v) (fun o' s₃ => R s₃) E s₂) E s₁ → Rr (some v) s₁) → (∀ X h' n, (items.map fun x => [x])[i]? = some X → X.length = xs.length → ItAt kd I (i + 1) h' → (∀ b o, ¬ b = I → s.heap.get? b = some o → h'.get? b = some o) → Bnd (model c.G.prog c.G.w) c.A env E R xs X { s with heap := h', toks := n }) →
        (∀ h', (items.map fun x => [x])[i]? = none → (∀ b o, ¬ b = I → s.heap.get? b = some o → h'.get? b = some o) → RN { s with heap := h' }) → wpAny (model c.G.prog c.G.w) c.A (pyNext (.ref I)) Rr E s) htg fun x htg => ?_
      refine isN_of (M := fun tg => (∀ v s₁, wpAny (model c.G.prog c.G.w) c.A (letOwnedTupleGo tg (.ref I) v) (fun o' s₂ => wpAny (model c.G.prog c.G.w) c.A (assign tg env v) (fun o' s₃ => R s₃) E s₂) E s₁ → Rr (some v) s₁) → _ → _ → wpAny (model c.G.prog c.G.w) c.A (pyNext (.ref I)) Rr E s) htg fun px hsome hS hN => ?_
      refine next_snd hA ha hk hi (fun x' X h' n hX hx hit hsb => ?_) (fun h' hX hsb => hnone _ (hN h' (by rw [List.getElem?_map, hX]; rfl) hsb))
      refine hsome _ _ ?_
      show wpAny _ _ (pure ()) _ _ _
      refine wpAny_pure (wpAny_assign_Name ?_)
      obtain ⟨V, r, hV, h⟩ := hS [X] h' n (by rw [List.getElem?_map, hX]; rfl) rfl hit hsb.extBut
      cases hV
      exact h x' hx
    | false =>
      rw [q] at ht
      have h2 : pairsV σ items = some turns := ht
      revert hsome
      refine tup_of (M := fun tg => (∀ v s₁, wpAny (model c.G.prog c.G.w) c.A (letOwnedTupleGo tg (.ref I) v) (fun o' s₂ => wpAny (model c.G.prog c.G.w) c.A (assign tg env v) (fun o' s₃ => R s₃) E s₂) E s₁ → Rr (some v) s₁) → wpAny (model c.G.prog c.G.w) c.A (pyNext (.ref I)) Rr E s) htg q fun ts m p hmt hl hsome => ?_
      refine next_snd hA ha hk hi (fun x' X h' n hX hx hit hsb => ?_) (fun h' hX hsb => hnone _ (hN h' ?_ hsb))
      · refine Classical.byContradiction fun hG => ?_
        rcases pairsV_get h2 i with ⟨q, _⟩ | ⟨X', Y, q, hY, hp⟩
        · rw [hX] at q; cases q
        · rw [hX] at q
          cases q
          obtain ⟨t, rfl, hσt, hY2⟩ := pairV_inv hp
          refine hG (ha.tup hσt fun vs m f1 f2 hl2 f3 => ?_)
          have tI : t ≠ I := fun q => by rw [q, hI I rfl] at hσt; cases hσt
          rw [vval_ref hx]
          refine hsome _ _ (letGo_snd hit ?_)
          exact assign_pair hA hmt hl (s := { s with heap := h', toks := n }) ⟨_, hsb.extBut t _ tI f1, rfl, m, rfl⟩ f2 hY2 fun h₃ kp => hS _ h₃ _ hY (by rw [hl, hY2]) (let ⟨o, h1, _, h3⟩ := itAt_obj hit; h3 h₃ (kp _ _ h1)) fun b o hb e => kp _ _ (hsb.extBut b o hb e)
      · rcases pairsV_get h2 i with ⟨_, q⟩ | ⟨X', Y, q, _⟩
        · exact q
        · rw [hX] at q; cases q
theorem enum_lp (hA : c.A.handled = none) {xs : List String} {tg : PySem.Expr} (htg : mTgt 2 xs tg = true) {a : Nat} {turns : List (List Val)} {st : Sto → Prop} (hst : ∀ σ', st σ' → turnsOf σ' (.ref a) 2 = some turns) (I J : Addr) (hne : I ≠ J) :
    Lp c xs tg turns st I (fun b => b = I ∨ b = J) (fun i h => (∃ old, IsEnum h I J i old) ∧ h.IsListIter J a i) where
  own := .inl rfl
  keep := fun i h h' ⟨⟨old, he⟩, o, h1, h2, h3⟩ hk => ⟨⟨old, hk I _ (.inl rfl) he⟩, o, hk J o (.inr rfl) h1, h2, h3⟩
  live := fun i h ⟨⟨old, he⟩, o, h1, h2, h3⟩ b hb => by
    rcases hb with rfl | rfl
    · exact ⟨_, he⟩
    · exact ⟨o, h1⟩
  self := fun i s R E ⟨⟨old, he⟩, _⟩ h => wpAny_pyIter_enum he h
  turn := fun ρ σ s i env R RN Rr E ha hs hi hI hsome hnone hS hN => by
    obtain ⟨ys, h1, h2⟩ := Option.map_eq_some_iff.mp (show (listV σ (.ref a)).map (enumV 0) = some turns from hst σ hs)
    obtain ⟨a', h3, hσ⟩ := listV_inv h1
    cases h3
    revert hsome
    refine tup_of (M := fun tg => (∀ v s₁, wpAny (model c.G.prog c.G.w) c.A (letOwnedTupleGo tg (.ref I) v) (fun o' s₂ => wpAny (model c.G.prog c.G.w) c.A (assign tg env v) (fun o' s₃ => R s₃) E s₂) E s₁ → Rr (some v) s₁) → wpAny (model c.G.prog c.G.w) c.A (pyNext (.ref I)) Rr E s) htg rfl fun ts m p hmt hl hsome => ?_
    obtain ⟨⟨old, he⟩, hit⟩ := hi
    refine ha.list hσ fun vs n h1 hv o' o' => ?_
    cases hx : ys[i]? with
    | some X =>
      obtain ⟨v, h4, h5⟩ := hv.at hx
      refine wpAny_pyNext_enum_item he hit ⟨_, h1, rfl, n, rfl⟩ h4 hne fun h₁ heo hit₁ ht₁ hz₁ hk₁ => hsome _ _ (wpAny_letOwnedTupleGo_enum heo fun h₂ he₂ hs₂ => ?_)
      replace hs₂ : Heap.SameBut I h₁ h₂ := hs₂
      have hIH : I < s.heap.objs.size := Heap.lt_size he
      refine assign_pair hA hmt hl (s := { s with heap := h₂, toks := s.toks + 1 }) (Y := [.int i, X]) ⟨_, (hs₂.2 _ (Nat.ne_of_gt hIH)).trans ht₁, rfl, _, rfl⟩ (by show [vval (.int i s.toks), vval v] = [some (.int i), some X]; rw [h5]; rfl) rfl fun h₃ kp => ?_
      refine hS _ h₃ _ (by rw [← h2, enumV_get, hx]; simp) (by rw [hl]; rfl) ⟨⟨v, kp _ _ he₂⟩, (hit₁.extBut hs₂.extBut (Ne.symm hne)).at fun o x => kp J o x⟩ fun b o hb e => ?_
      exact kp _ _ (hs₂.extBut b o (fun q => hb (.inl q)) (hk₁ b o (fun q => hb (.inl q)) (fun q => hb (.inr q)) e))
    | none =>
      have : vs[i]? = none := by have := (hv.get i).2; rw [Array.getElem?_toList] at this; exact this.mpr hx
      exact wpAny_pyNext_enum_end hA he hit ⟨_, h1, rfl, n, rfl⟩ this fun h' a1 => hnone _ (hN h' (by rw [← h2, enumV_get, hx]; rfl) (fun b o hb e => a1 b o (fun q => hb (.inr q)) e))
theorem mIt_notSet {nm : Nms} {k : Nat} {it : Ex} {e : PySem.Expr} (h : mIt nm k (mE nm it) e = true) : ∀ env x, foldedSetIterable e env x = pure x := by
  have key : ∀ n : String, isC (Str.ofString n) (fun as => isGlob nm (Str.ofString n) && one (mE nm it) as) e = true → ∀ env x, foldedSetIterable e env x = pure x := fun n h =>
    isC_of (M := fun e => ∀ env x, foldedSetIterable e env x = pure x) h fun as p q o' o' o' => rfl
  unfold mIt at h
  cases q : k == 2 with
  | true => rw [q] at h; exact key _ h
  | false =>
    rw [q] at h
    cases q' : k == 4 with
    | true => rw [q'] at h; exact key _ h
    | false => rw [q'] at h; exact (mE_notSet h).2
theorem call1_snd {it : Ex} (h1 : SndE it) (hc : CxOk c) (ha : At c ρ σ s) {n : String} (hn : n ∈ bNames) (hne : Str.ofString n ≠ "__name__") (hb : bootBuiltins (Str.ofString n) = some (.type n)) {e : PySem.Expr}
    (hm : isC (Str.ofString n) (fun as => isGlob c.env.scope.names (Str.ofString n) && one (mE c.env.scope.names it) as) e = true) {X : KV} (hw : wpE (WF c.G c.d) c.gv it ρ σ X) {R : Value → Shared → Prop}
    (hR : ∀ v V σ₁ s₁, vval v = some V → At c ρ σ₁ s₁ → X V σ₁ → wpAny (model c.G.prog c.G.w) c.A (PySem.call (.type n) [v]) R (Er c) s₁) : wpAny (model c.G.prog c.G.w) c.A (eval e c.env) R (Er c) s := by
  refine isC_of (M := fun e => wpAny (model c.G.prog c.G.w) c.A (eval e c.env) R (Er c) s) hm fun as q p hm => ?_
  refine one_of (M := fun as => wpAny (model c.G.prog c.G.w) c.A (eval (.Call (.Name (Str.ofString n) p) as [] q) c.env) R (Er c) s) (and2 hm).2 fun e' m0 => ?_
  have hma : mEs c.env.scope.names [it] [e'] = true := by show (_ && _) = true; rw [m0]; rfl
  show wpAny _ _ (do callWith q (← eval (.Name (Str.ofString n) p) c.env) [] (backTo q (starEach [e'] c.env)) []) _ _ _
  refine wpAny_bind (load_blt ha (and2 hm).1 (c.G.free n hn) hne hb ?_)
  have hp : (backTo q (starEach [e'] c.env)).any (·.1) = false := by rw [backTo_any]; exact (starEach_len _ _ _ c.env hma).1
  refine PySem.callWith_type hp (evalArgs_any hp (gl (sndEs_cons h1 sndEs_nil c ρ σ s (fun vs σ₁ => ∃ V, vs = [V] ∧ X V σ₁) _ q hc ha hma ?_) fun vals vs σ₁ s₁ hvs a1 h => ?_))
  · refine cast (congrArg (fun Z => wpE (WF c.G c.d) c.gv it ρ σ Z) ?_) hw
    funext v σ₁
    exact propext ⟨fun h => ⟨v, rfl, h⟩, fun ⟨V, hV, h⟩ => by cases hV; exact h⟩
  · obtain ⟨V, rfl, h⟩ := h
    cases vals with
    | nil => exact absurd hvs.len (by simp)
    | cons v r =>
      have hvs := VsR.cons.mp hvs
      rw [hvs.2.nil_right]
      exact hR v V σ₁ s₁ hvs.1 a1 h
theorem revV_inv {σ : Sto} {V : Val} {xs : List Val} (h : revV σ V = some xs) : ∃ a lo hi, V = .ref a ∧ σ a = some (.range lo hi) ∧ xs = (irange lo hi).reverse.map .int := by
  cases V with
  | ref a =>
    simp only [revV] at h
    split at h
    · rename_i lo hi hσ; cases h; exact ⟨a, lo, hi, rfl, hσ, rfl⟩
    · exact no h
  | none => exact no h
  | bool _ => exact no h
  | int _ => exact no h
  | str _ => exact no h
theorem turns4 {σ : Sto} {V : Val} {turns : List (List Val)} (h : turnsOf σ V 4 = some turns) : ∃ items, revV σ V = some items ∧ turnsK σ 4 items = some turns :=
  let ⟨items, h1, h2⟩ := Option.map_eq_some_iff.mp (show (revV σ V).map (List.map fun x => [x]) = some turns from h); ⟨items, h1, congrArg some h2⟩
theorem turns13 {σ : Sto} {V : Val} {k : Nat} {turns : List (List Val)} (h2 : (k == 2) = false) (h4 : (k == 4) = false) (h : turnsOf σ V k = some turns) : ∃ items, itemsOf σ V = some items ∧ turnsK σ k items = some turns := by
  unfold turnsOf at h
  unfold turnsK
  rw [h4]
  by_cases q : k = 1
  · rw [if_pos q] at h
    obtain ⟨items, g1, g2⟩ := Option.map_eq_some_iff.mp h
    exact ⟨items, g1, by rw [q]; exact congrArg some g2⟩
  · rw [if_neg q, if_neg (by simpa using h4), if_neg (by simpa using h2)] at h
    obtain ⟨items, g1, g2⟩ := Option.bind_eq_some_iff.mp h
    exact ⟨items, g1, by rw [show (k == 1) = false by simpa using q]; exact g2⟩
theorem itemsOf_stay {σ σ' : Sto} {V : Val} (hs : ∀ a, V = .ref a → σ' a = σ a) : itemsOf σ' V = itemsOf σ V := by
  cases V with
  | ref a => exact congrArg itemsO (hs a rfl)
  | _ => rfl
theorem start_snd {it : Ex} {k : Nat} {e tg : PySem.Expr} {xs : List String} (htg : mTgt k xs tg = true) (h1 : SndE it) (hc : CxOk c) (hh : c.hd = false) (ha : At c ρ σ s) (hm : mIt c.env.scope.names k (mE c.env.scope.names it) e = true) {W : Val → Sto → List (List Val) → Prop}
    (hw : wpE (WF c.G c.d) c.gv it ρ σ fun v σ₁ => onS1 (turnsOf σ₁ v k) fun turns => W v σ₁ turns) {R : Value → Shared → Prop}
    (hR : ∀ V σ₁ turns s₁ h' I Pv It, At c ρ σ₁ s₁ → W V σ₁ turns → Lp c xs tg turns (stay σ₁ V k turns) I Pv It → It 0 h' → (∀ b o, s₁.heap.get? b = some o → h'.get? b = some o) → (∀ b, Pv b → s₁.heap.objs.size ≤ b) → R (.ref I) { s₁ with heap := h' }) :
    wpAny (model c.G.prog c.G.w) c.A (eval e c.env) (fun x s₁ => wpAny (model c.G.prog c.G.w) c.A (pyIter x) R E s₁) (Er c) s := by
  have hA := hc.handled hh
  unfold mIt at hm
  cases q : k == 2 with
  | false =>
    rw [q] at hm
    cases q4 : k == 4 with
    | false =>
      rw [q4] at hm
      refine gb (h1 c ρ σ s _ _ hc ha hm hw) fun v V σ₁ s₁ hV a1 hw => ?_
      obtain ⟨turns, ht, hw⟩ := onS1_inv hw
      obtain ⟨items, hi, hk⟩ := turns13 q q4 ht
      refine iter_snd a1 hV hi fun o kd hkd hit => hR V σ₁ turns s₁ _ _ _ _ a1 hw (seq_lp (V := V) (items := items) hA htg (fun σ' hs => ?_) _) hit (fun b o' e => Heap.get?_push_of_some _ e) fun b hb => by rw [hb]; exact Nat.le_refl _
      refine ⟨kdOf_stay hkd hs.1, ?_⟩
      obtain ⟨items', hi', hk'⟩ := turns13 q q4 hs.2
      rw [itemsOf_stay hs.1, hi] at hi'
      cases hi'
      exact hk'
    | true =>
      rw [q4] at hm
      have q4 : k = 4 := eq_of_beq q4
      subst q4
      refine call1_snd (n := "reversed") h1 hc ha (by decide) (by decide) PyProof.Rows.Boot.«reversed» hm hw fun v V σ₁ s₁ hV a1 hw => ?_
      obtain ⟨turns, ht, hw⟩ := onS1_inv hw
      obtain ⟨items, hi, hk⟩ := turns4 ht
      obtain ⟨a, lo, hi', rfl, hσ, rfl⟩ := revV_inv hi
      rw [vval_ref hV]
      obtain ⟨_, o, g1, g2, t, u, w, rfl⟩ := a1.sto a _ hσ
      have hit : ItAt (.rev lo hi') s₁.heap.objs.size 0 (s₁.heap.push (rvObj lo hi')) := by
        show IsRangeIter _ _ _ _ _
        have := Heap.get?_push_size s₁.heap (o := rvObj lo hi') rfl
        simpa [rvObj] using this
      refine call_rv g1 g2 (iter_self (s := { s₁ with heap := s₁.heap.push (rvObj lo hi') }) hit (hR (.ref a) σ₁ turns s₁ _ _ _ _ a1 hw (seq_lp (V := .ref a) (items := (irange lo hi').reverse.map .int) hA htg (fun σ' hs => ?_) _) hit (fun b o' e => Heap.get?_push_of_some _ e) fun b hb => by rw [hb]; exact Nat.le_refl _))
      exact ⟨⟨a, rfl, (hs.1 a rfl).trans hσ, rfl⟩, hk⟩
  | true =>
    rw [q] at hm
    have q : k = 2 := eq_of_beq q
    subst q
    refine call1_snd (n := "enumerate") h1 hc ha (by decide) (by decide) PyProof.Rows.Boot.«enumerate» hm hw fun v V σ₁ s₁ hV a1 hw => ?_
    obtain ⟨turns, ht, hw⟩ := onS1_inv hw
    obtain ⟨ys, h1, h2⟩ := Option.map_eq_some_iff.mp (show (listV σ₁ V).map (enumV 0) = some turns from ht)
    obtain ⟨a, rfl, hσ⟩ := listV_inv h1
    rw [vval_ref hV]
    refine a1.list hσ fun ws n k1 k2 o' o' => call_enumerate_list ⟨_, k1, rfl, n, rfl⟩ fun h' he hit hz hk => wpAny_pyIter_enum he (hR (.ref a) σ₁ turns s₁ h' _ _ _ a1 hw (enum_lp hA htg (fun σ' hs => hs.2) _ s₁.heap.objs.size (Nat.succ_ne_self _)) ⟨⟨_, he⟩, hit⟩ hk ?_)
    rintro b (rfl | rfl)
    · exact Nat.le_succ _
    · exact Nat.le_refl _
end
end BP

namespace BP
open PySem PyProof.Rows
theorem noteFrame_frame (e : Value) {env env' : Env} (h : env.frame = env'.frame) : noteFrame e env = noteFrame e env' := by
  unfold PySem.noteFrame PySem.frameOf
  rw [h]
section
variable {c : Cx} {ρ : Loc} {σ : Sto} {s : Shared} {E : Value → Shared → Prop} {e : Value} {cl : String}
theorem frames_hidden {b h : Heap} {as : List Addr} {l : List Env} (x : h.FunFrames b l) (hin : ∀ env ∈ l, ∀ a, env.frame = some a → a ∈ as) : h.FunFrames (W.hideAll h as) l := by
  induction l with
  | nil => trivial
  | cons env r ih =>
    obtain ⟨x1, ⟨L, o, x2, _, x4, x5⟩, x6⟩ := x
    exact ⟨x1, ⟨L, o, x2, W.hideAll_none _ (hin env List.mem_cons_self L x2), x4, x5⟩, ih x6 fun e he => hin e (List.mem_cons_of_mem _ he)⟩
structure ExcT (c : Cx) (e : Value) (cl : String) (σ : Sto) (h : Heap) (fl : Value) (ea C : Addr) (oe : Obj) (vs : Array Value) (a0 : Value) (T : Addr) (oT : Obj) (ts : Array Value) : Prop where
  e1 : e = .ref ea
  e2 : c.G.exc cl = some C
  e3 : h.get? ea = some oe
  e4 : oe.cls = .ref C
  e5 : oe.data = .fields vs
  e6 : vs[0]? = some a0
  e7 : σ ea = none
  e8 : c.h₀.get? ea = none
  t1 : vs[1]? = some (.ref T)
  t2 : T ≠ ea
  t3 : h.get? T = some oT
  t4 : oT.data = .fields ts
  t5 : ts[3]? = some fl
  t7 : σ T = none
  t8 : c.h₀.get? T = none
noncomputable def ExcF (c : Cx) (e : Value) (cl : String) (σ : Sto) (h : Heap) (fl : Value) : Prop := ∃ ea C oe vs a0 T oT ts, ExcT c e cl σ h fl ea C oe vs a0 T oT ts
theorem ExcF.at_ {h : Heap} {fl : Value} (x : ExcF c e cl σ h fl) (hf : fl = .none ∨ ∃ L, c.env.frame = some L ∧ fl = rawInt L) : ExcAt c e cl σ h :=
  let ⟨ea, C, oe, vs, a0, T, oT, ts, x⟩ := x
  ⟨ea, C, oe, vs, a0, x.e1, x.e2, x.e3, x.e4, x.e5, x.e6, x.e7, x.e8, .inr ⟨T, oT, ts, fl, x.t1, x.t2, x.t3, x.t4, x.t5, hf, x.t7, x.t8⟩⟩
theorem hidden (ha : At c ρ σ s) {xs : List Addr} (hx : ∀ b ∈ xs, c.h₀.get? b = none ∧ σ b = none) (hc : CxOk c) :
    let B := W.hideAll s.heap (c.fr.filterMap (·.frame) ++ xs)
    B.StaysIn s.heap ∧ s.heap.FunFrames B c.fr ∧ (∀ b ∈ xs, B.get? b = none) ∧ ∀ {s' : Shared}, B.StaysIn s'.heap → (∀ b o, s.heap.get? b = some o → (∀ vs, o.data ≠ .fields vs) → ∃ sl, s'.heap.get? b = some { o with slots := sl }) →
      s'.os = s.os → s'.gens = s.gens → At c ρ σ s' := by
  intro B
  refine ⟨fun b o q => W.of_hideAll _ q, frames_hidden ha.frs fun env he a hf => List.mem_append_left _ (List.mem_filterMap.mpr ⟨env, he, hf⟩), fun b hb => W.hideAll_none _ (List.mem_append_right _ hb), ?_⟩
  intro s' hB hup ho hg
  refine ha.slots hc (X := fun b => b ∈ xs) hx (fun b o e hnx hnf => hB b o (W.hideAll_get _ e fun hm => ?_)) (fun b o hf e => ?_) ho hg
  · rcases List.mem_append.mp hm with h | h
    · obtain ⟨env, he, hf⟩ := List.mem_filterMap.mp h
      exact hnf ⟨env, he, hf⟩
    · exact hnx h
  · obtain ⟨env, he, hf⟩ := hf
    obtain ⟨o', ho', hd⟩ := (ha.frs.mem (List.mem_filterMap.mpr ⟨env, he, hf⟩)).2
    rw [e] at ho'; cases ho'
    exact hup b o e hd
theorem hidden_new (ha : At c ρ σ s) {xs : List Addr} (hx : ∀ b ∈ xs, c.h₀.get? b = none ∧ σ b = none) {B h' : Heap} (n2 : h'.FunFrames B c.fr) {T : Addr} {oT : Obj} {ts : Array Value} (t6 : (W.hideAll s.heap (c.fr.filterMap (·.frame) ++ xs)).get? T = none) (t8 : h'.get? T = some oT) (t9 : oT.data = .fields ts) :
    c.h₀.get? T = none ∧ σ T = none := by
  cases q : s.heap.get? T with
  | none =>
    refine ⟨?_, ha.none_of_fresh q⟩
    cases r : c.h₀.get? T with
    | none => rfl
    | some o => obtain ⟨o', ho'⟩ := ha.alive T o r; rw [q] at ho'; cases ho'
  | some o =>
    by_cases hm : T ∈ c.fr.filterMap (·.frame) ++ xs
    · rcases List.mem_append.mp hm with h | h
      · obtain ⟨_, oF, hoF, hdF⟩ := n2.mem h
        rw [t8] at hoF; cases hoF
        exact absurd t9 (hdF ts)
      · exact hx T h
    · rw [W.hideAll_get _ q hm] at t6; cases t6
theorem note_snd (hc : CxOk c) (ha : At c ρ σ s) (x : ExcAt c e cl σ s.heap) {R : Unit → Shared → Prop}
    (hR : ∀ s' L, At c ρ σ s' → c.env.frame = some L → ExcF c e cl σ s'.heap (rawInt L) → R () s') : wpAny (model c.G.prog c.G.w) c.A (noteFrame e c.env) R E s := by
  refine Classical.byContradiction fun hG => ?_
  obtain ⟨fe, outer, L, hfr, hf, hf'⟩ := hc.top
  obtain ⟨ea, C, oe, vs, a0, rfl, h2, h3, h4, h5, h6, h7, h8, h9⟩ := x
  refine hG ?_
  clear hG
  rw [noteFrame_frame _ (hf'.trans hf.symm)]
  have frames : c.A.frames = some (fe :: outer) := by rw [hc.frames, hfr]
  have key : ∀ B, s.heap.FunFrames B c.fr → s.heap.FunFrames B (fe :: outer) := fun B h => by rw [hfr] at h; exact h
  have fin : ∀ (xs : List Addr), (∀ b ∈ xs, c.h₀.get? b = none ∧ σ b = none) → ea ∈ xs → ∀ h', Heap.NotedW (W.hideAll s.heap (c.fr.filterMap (·.frame) ++ xs)) (fe :: outer) ea (.ref C) a0 (rawInt L) s.heap h' → R () { s with heap := h' } := by
    intro xs hx hea h' hN
    obtain ⟨n1, n2, ⟨oe', vs', T, oT, ts, t1, ⟨t2, t3⟩, t4, t5, t6, t7, t8, t9, t10⟩, n4⟩ := hN
    obtain ⟨_, _, _, hat⟩ := hidden ha hx hc
    have hT := hidden_new ha hx (by rw [hfr]; exact n2) t6 t8 t9
    exact hR _ L (hat n1 n4 rfl rfl) hf' ⟨ea, C, oe', vs', a0, T, oT, ts, rfl, h2, t1, t2, t4, t3, h7, h8, t5, t7, t8, t9, t10, hT.2, hT.1⟩
  rcases h9 with h9 | ⟨T, oT, ts, fl, k1, k2, k3, k4, k5, k6, k7, k8⟩
  · have hx : ∀ b ∈ [ea], c.h₀.get? b = none ∧ σ b = none := fun b hb => by simp at hb; subst hb; exact ⟨h8, h7⟩
    obtain ⟨b1, b2, b3, _⟩ := hidden ha hx hc
    unfold noteFrame
    simp only [hf]
    refine wpAny_bind (wpAny_field h3 h5 h9 ?_)
    rw [if_neg (by decide)]
    refine wpAny_entryW frames (key _ b2) hf h3 b1 (b3 ea (by simp)) h5 (Array.getElem?_eq_some_iff.mp h9).1 h6 fun h' hN => ?_
    rw [h4] at hN
    exact fin [ea] hx (by simp) h' hN
  · have hx : ∀ b ∈ [ea, T], c.h₀.get? b = none ∧ σ b = none := fun b hb => by
      simp at hb; rcases hb with rfl | rfl
      · exact ⟨h8, h7⟩
      · exact ⟨k8, k7⟩
    rcases k6 with rfl | ⟨L', hL, rfl⟩
    · obtain ⟨b1, b2, b3, _⟩ := hidden ha hx hc
      refine wpAny_noteFrame_onW frames (key _ b2) hf (cls := .ref C) (a0 := a0) ⟨oe, vs, T, oT, ts, h3, ⟨h4, h6⟩, h5, k1, b3 T (by simp), k2, k3, k4, k5⟩ b1 (b3 ea (by simp)) fun h' hN => ?_
      exact fin [ea, T] hx (by simp) h' hN
    · rw [hf'] at hL
      cases hL
      refine wpAny_noteFrame_againW (base := W.hideAll s.heap (c.fr.filterMap (·.frame) ++ [ea, T])) (cls := .ref C) (a0 := a0) hf ⟨oe, vs, T, oT, ts, h3, ⟨h4, h6⟩, h5, k1, (hidden ha hx hc).2.2.1 T (by simp), k2, k3, k4, k5⟩ ?_
      exact hR s L ha hf' ⟨ea, C, oe, vs, a0, T, oT, ts, rfl, h2, h3, h4, h5, h6, h7, h8, k1, k2, k3, k4, k5, k7, k8⟩
theorem land_snd (hc : CxOk c) (ha : At c ρ σ s) {fl : Value} (x : ExcF c e cl σ s.heap fl) {R : Unit → Shared → Prop}
    (hR : ∀ s', At c ρ σ s' → ExcF c e cl σ s'.heap .none → R () s') : wpAny (model c.G.prog c.G.w) c.A (setFlight e none) R E s := by
  refine Classical.byContradiction fun hG => ?_
  obtain ⟨ea, C, oe, vs, a0, T, oT, ts, rfl, h2, h3, h4, h5, h6, h7, h8, k1, k2, k3, k4, k5, k7, k8⟩ := x
  refine hG ?_
  clear hG
  have hx : ∀ b ∈ [ea, T], c.h₀.get? b = none ∧ σ b = none := fun b hb => by
    simp at hb; rcases hb with rfl | rfl
    · exact ⟨h8, h7⟩
    · exact ⟨k8, k7⟩
  refine Classical.byContradiction fun hG => ?_
  obtain ⟨b1, b2, b3, hat⟩ := hidden ha hx hc
  refine hG ?_
  clear hG
  refine wpAny_setFlight_noneW (cls := .ref C) (a0 := a0) (fl := fl) b1 b2 ⟨oe, vs, T, oT, ts, h3, ⟨h4, h6⟩, h5, k1, b3 T (by simp), k2, k3, k4, k5⟩ fun h' n1 n2 n3 n4 => ?_
  obtain ⟨oe', vs', T', oT', ts', t1, ⟨t2, t3⟩, t4, t5, t6, t7, t8, t9, t10⟩ := n3
  have hT := hidden_new ha hx n2 t6 t8 t9
  exact hR _ (hat n1 (fun b o e hd => ⟨o.slots, n4 b o e hd⟩) rfl rfl) ⟨ea, C, oe', vs', a0, T', oT', ts', rfl, h2, t1, t2, t4, t3, h7, h8, t5, t7, t8, t9, t10, hT.2, hT.1⟩
theorem flight_snd (hc : CxOk c) (ha : At c ρ σ s) {fl : Value} (x : ExcF c e cl σ s.heap fl) {fr : Option Addr} (hfr : fr = c.env.frame) {R : Unit → Shared → Prop}
    (hR : ∀ s', At c ρ σ s' → ExcAt c e cl σ s'.heap → R () s') : wpAny (model c.G.prog c.G.w) c.A (setFlight e fr) R E s := by
  obtain ⟨ea, C, oe, vs, a0, T, oT, ts, rfl, h2, h3, h4, h5, h6, h7, h8, k1, k2, k3, k4, k5, k7, k8⟩ := x
  obtain ⟨fe, outer, L, _, _, hf⟩ := hc.top
  have hlt : 3 < ts.size := (Array.getElem?_eq_some_iff.mp k5).1
  rw [hfr, hf]
  unfold setFlight
  refine wpAny_bind (wpAny_field h3 h5 k1 ?_)
  rw [if_pos (by rfl)]
  refine wpAny_setField k3 k4 hlt ?_
  have kp : ∀ b' o, b' ≠ T → s.heap.get? b' = some o → (s.heap.update T (Obj.mapFields fun vs => vs.setIfInBounds 3 (rawInt L))).get? b' = some o := fun b' o hb q => (Heap.get?_update_other _ _ (Ne.symm hb)).trans q
  refine hR _ (ha.priv hc k8 k7 kp) ⟨ea, C, oe, vs, a0, rfl, h2, kp ea oe (Ne.symm k2) h3, h4, h5, h6, h7, h8, .inr ⟨T, _, _, rawInt L, k1, k2, Heap.get?_update_self _ k3 (Obj.isFreed_of_fields (Obj.data_mapFields k4 _)), Obj.data_mapFields k4 _, ?_, .inr ⟨_, hf, rfl⟩, k7, k8⟩⟩
  simp [hlt]
theorem leave_snd (hc : CxOk c) (ha : At c ρ σ s) (x : ExcAt c e cl σ s.heap) {R : Unit → Shared → Prop}
    (hR : ∀ s', At c ρ σ s' → ExcF c e cl σ s'.heap .none → R () s') : wpAny (model c.G.prog c.G.w) c.A (leaving c.env e) R E s := by
  unfold leaving
  exact wpAny_bind (note_snd hc ha x fun s' L a' o' x' => land_snd hc a' x' hR)
theorem pass_snd {α : Type} (hc : CxOk c) (ha : At c ρ σ s) {fl : Value} (x : ExcF c e cl σ s.heap fl) {env : Env} (hfr : env.frame = c.env.frame) {what : String} {Q : α → Shared → Prop}
    (hE : ∀ s', At c ρ σ s' → ExcAt c e cl σ s'.heap → E e s') : wpAny (model c.G.prog c.G.w) c.A (PySem.passOn what e env : Sem α) Q E s := by
  obtain ⟨ea, C, oe, vs, a0, T, oT, ts, x⟩ := id x
  cases x.e1
  unfold PySem.passOn
  refine wpAny_bind (wpAny_field x.e3 x.e5 x.t1 ?_)
  rw [if_neg (show ¬ ((Value.ref T == Value.none) = true) from Bool.false_ne_true)]
  first
    | exact wpAny_bind (wpAny_pure (wpAny_bind (flight_snd hc ha ⟨ea, C, oe, vs, a0, T, oT, ts, x⟩ hfr fun s' a' x' => wpAny_throw (hE s' a' x'))))
    | exact wpAny_bind (flight_snd hc ha ⟨ea, C, oe, vs, a0, T, oT, ts, x⟩ hfr fun s' a' x' => wpAny_throw (hE s' a' x'))
theorem back_snd (hc : CxOk c) (ha : At c ρ σ s) {fl : Value} (x : ExcF c e cl σ s.heap fl) {R : Value → Shared → Prop}
    (hR : ∀ s', At c ρ σ s' → ExcAt c e cl σ s'.heap → R e s') : cameBackBy (model c.G.prog c.G.w) c.A c.env R e s := by
  obtain ⟨ea, C, oe, vs, a0, T, oT, ts, x⟩ := id x
  cases x.e1
  unfold cameBackBy
  refine wpAny_bind (wpAny_field x.e3 x.e5 x.t1 ?_)
  rw [if_neg (show ¬ ((Value.ref T == Value.none) = true) from Bool.false_ne_true)]
  exact flight_snd hc ha ⟨ea, C, oe, vs, a0, T, oT, ts, x⟩ rfl hR
theorem loop_err (hc : CxOk c) {er : String → Sto → Prop} (h : ErW c er e s) : notedBy (model c.G.prog c.G.w) c.A c.env (fun e s' => cameBackBy (model c.G.prog c.G.w) c.A c.env (ErW c er) e s') e s := by
  obtain ⟨cl, ρ', σ', ha, hx, hE⟩ := h
  exact note_snd hc ha hx fun s1 L a1 o' x1 => back_snd hc a1 x1 fun s2 a2 x2 => ⟨cl, ρ', σ', a2, x2, hE⟩
end
end BP

namespace BP
open PySem PyProof.Rows
section
variable {prog : Program} {w : World} {A : Around} {E : Value → Shared → Prop} {s : Shared}
theorem draw_l {it l : Addr} {items : Array Value} (hne : l ≠ it) : ∀ (n i : Nat) (s : Shared) (Q : List Value → Shared → Prop), s.heap.IsListIter it l i → s.heap.IsList l items → i + n ≤ items.size →
    (∀ h', h'.IsListIter it l (i + n) → Heap.SameBut it s.heap h' → Q ((items.toList.drop i).take n) { s with heap := h' }) → wpAny (model prog w) A (draw (.ref it) n) Q E s
  | 0, i, s, Q, hit, hl, hn, hQ => wpAny_pure (hQ s.heap hit (Heap.SameBut.refl _ _))
  | n + 1, i, s, Q, hit, hl, hn, hQ => by
    have hlt : i < items.size := by lia
    show wpAny _ _ (pyNext (.ref it) >>= _) Q E s
    refine wpAny_bind (wpAny_pyNext_list_item hit hl (Array.getElem?_eq_getElem hlt) fun h₁ a1 a2 => wpAny_bind (wpAny_holding (draw_l hne n (i + 1) _ _ a1 (hl.extBut a2.extBut hne) (by lia) fun h₂ b1 b2 => wpAny_pure ?_)))
    have := hQ h₂ (by rw [show i + (n + 1) = i + 1 + n by lia]; exact b1) (a2.trans b2)
    rw [List.drop_eq_getElem_cons (by rw [Array.length_toList]; exact hlt), List.take_succ_cons, Array.getElem_toList] at this
    exact this
theorem assign_l {env : Env} {elts : List PySem.Expr} {k : Nat} {pos : Pos} {l : Addr} {items : Array Value} {Q : Unit → Shared → Prop} (hh : A.handled = none) (hl : s.heap.IsList l items)
    (hn : (assignEach elts env).length = items.size) (hstar : (assignEach elts env).findIdx? (·.1) = none)
    (h : ∀ h', Heap.ExtBut s.heap.objs.size s.heap h' → wpAny (model prog w) A (assignInOrder ((assignEach elts env).map (·.2)) items.toList) Q E { s with heap := h' }) :
    wpAny (model prog w) A (assign (.Tuple elts k pos) env (.ref l)) Q E s := by
  have hlt : l ≠ s.heap.objs.size := by obtain ⟨o, ho, _⟩ := hl; exact Nat.ne_of_lt (Heap.lt_size ho)
  rw [arm_assign_Tuple]
  refine wpAny_bind (wpAny_standAt ?_)
  unfold unpack
  rw [hn, hstar]
  refine wpAny_bind (wpAny_holding ?_)
  unfold unpackItems
  refine wpAny_bind ?_
  unfold notIterableAtAll
  refine wpAny_bind (wpAny_specialOf hl.typeIs F.slot_list_iter.lookup (wpAny_pure ?_))
  simp only [Bool.false_eq_true, if_false]
  refine wpAny_bind (wpAny_holding (wpAny_pyIter_list hl ?_))
  refine wpAny_bind (wpAny_holding (draw_l hlt items.size 0 _ _ ⟨_, Heap.get?_push_size _ rfl, rfl, rfl⟩ (hl.push _) (by lia) fun h₁ a1 a2 => ?_))
  rw [List.drop_zero, List.take_of_length_le (by rw [Array.length_toList]; exact Nat.le_refl _), if_neg (by simp)]
  refine wpAny_bind (wpAny_holding (wpAny_pyNext_list_end hh a1 ((hl.push _).extBut a2.extBut hlt) (by simp) fun h₂ b1 => ?_))
  simp only [Option.isSome_none, Bool.false_eq_true, if_false]
  exact wpAny_pure (h h₂ fun b o hb e => b1 b o hb (a2.extBut b o hb (Heap.get?_push_of_some _ e)))
end
end BP

namespace BP
open PySem PyProof.Rows
noncomputable def closL (cells : List (Str × Addr)) : List (Str × NameKind) → List (Str × Addr) → List (Str × Addr)
  | [], acc => acc
  | (n, k) :: r, acc => if k == .free then closL cells r ((n, (cells.lookup n).getD 0) :: acc) else closL cells r acc
theorem closureFor_is (sc : Scope) (env : Env) (h : ∀ x ∈ sc.names, x.2 = .free → (env.cells.lookup x.1).isSome = true) : closureFor sc env = pure (closL env.cells sc.names []) := by
  unfold closureFor
  have key : ∀ (l : List (Str × NameKind)) (acc : List (Str × Addr)), (∀ x ∈ l, x.2 = .free → (env.cells.lookup x.1).isSome = true) →
      (forIn l acc fun x r => match x with
        | (name, kind) => if (kind == NameKind.free) = true then (do let a ← cellOf env name; pure (ForInStep.yield ((name, a) :: r))) else pure (ForInStep.yield r) : Sem _) = pure (closL env.cells l acc) := by
    intro l
    induction l with
    | nil => intro acc _; rfl
    | cons x r ih =>
      intro acc hl
      obtain ⟨n, k⟩ := x
      rw [List.forIn_cons]
      by_cases hk : k = .free
      · subst hk
        have := hl (n, .free) List.mem_cons_self rfl
        obtain ⟨a, hcell⟩ := Option.isSome_iff_exists.mp this
        have hcell' : env.cells.lookup n = some a := hcell
        simp only [beq_self_eq_true, if_true, cellOf, hcell', closL, Option.getD_some, pure_bind]
        exact ih _ fun y hy => hl y (List.mem_cons_of_mem _ hy)
      · have hb : (k == NameKind.free) = false := by simpa using hk
        simp only [hb, Bool.false_eq_true, if_false, closL, pure_bind]
        exact ih _ fun y hy => hl y (List.mem_cons_of_mem _ hy)
  exact (congrArg (· >>= fun r => pure r) (key sc.names [] h)).trans (by simp)
theorem closL_lookup (cells : List (Str × Addr)) (x : Str) (a : Addr) : ∀ (l : List (Str × NameKind)) (acc : List (Str × Addr)), (closL cells l acc).lookup x = some a →
    acc.lookup x = some a ∨ ((x, NameKind.free) ∈ l ∧ (cells.lookup x).getD 0 = a)
  | [], acc, h => .inl h
  | (n, k) :: r, acc, h => by
    unfold closL at h
    split at h
    · rename_i hk
      rcases closL_lookup cells x a r _ h with h1 | ⟨h1, h2⟩
      · rw [List.lookup_cons] at h1
        split at h1
        · rename_i hx
          have hx' : x = n := by simpa using hx
          subst hx'
          have hk' : k = .free := by simpa using hk
          subst hk'
          exact .inr ⟨List.mem_cons_self, by simpa using h1⟩
        · exact .inl h1
      · exact .inr ⟨List.mem_cons_of_mem _ h1, h2⟩
    · rcases closL_lookup cells x a r _ h with h1 | ⟨h1, h2⟩
      · exact .inl h1
      · exact .inr ⟨List.mem_cons_of_mem _ h1, h2⟩
theorem closL_some (cells : List (Str × Addr)) (x : Str) : ∀ (l : List (Str × NameKind)) (acc : List (Str × Addr)), ((x, NameKind.free) ∈ l ∨ (acc.lookup x).isSome = true) → ((closL cells l acc).lookup x).isSome = true
  | [], acc, h => by
    rcases h with h | h
    · cases h
    · exact h
  | (n, k) :: r, acc, h => by
    unfold closL
    split
    · rename_i hk
      refine closL_some cells x r _ ?_
      rcases h with h | h
      · rcases List.mem_cons.mp h with e | h
        · cases e; exact .inr (by simp)
        · exact .inl h
      · refine .inr ?_
        rw [List.lookup_cons]
        split <;> simp_all
    · rename_i hk
      refine closL_some cells x r _ ?_
      rcases h with h | h
      · rcases List.mem_cons.mp h with e | h
        · cases e; simp at hk
        · exact .inl h
      · exact .inr h
theorem lookup_relab (nm : Nms) (x : Str) : (relab nm).lookup x = (nm.lookup x).map fun k => if k == .free then .cell else k := by
  induction nm with
  | nil => rfl
  | cons p r ih =>
    obtain ⟨n, k⟩ := p
    show List.lookup x ((n, if k == .free then .cell else k) :: relab r) = _
    rw [List.lookup_cons, List.lookup_cons]
    split <;> simp_all
theorem relabel_is {sc : Scope} {env : Env} (hk : env.scope.kind = .function) (h : ∀ x ∈ sc.names, x.2 = .free → env.kindOf x.1 = some .cell) : (relabel sc env).names = relab sc.names := by
  unfold relabel relab
  refine List.map_congr_left fun x hx => ?_
  obtain ⟨n, k⟩ := x
  by_cases q : k = .free
  · subst q
    have := h (n, .free) hx rfl
    have this' : env.kindOf n = some .cell := this
    simp [hk, this']
  · have hb : (k == NameKind.free) = false := by simpa using q
    simp [hb]
structure CompOk (nm : Nms) (sc : Scope) (xs : List String) : Prop where
  kind : sc.kind = .function
  noCell : ∀ y ∈ sc.names, y.2 ≠ .cell
  own : ∀ y ∈ sc.names, sc.names.lookup y.1 = some y.2
  var : ∀ x ∈ xs, sc.names.lookup (Str.ofString x) = some .local
  free : ∀ y ∈ sc.names, y.2 = .free → nm.lookup y.1 = some .cell
  only : ∀ y ∈ sc.names, y.2 = .local → y.1 = (".0" : Str) ∨ ∃ x ∈ xs, y.1 = Str.ofString x
theorem compOk_of {nm : Nms} {sc : Scope} {xs : List String} (h : compOk nm sc xs = true) : CompOk nm sc xs := by
  simp only [compOk, Bool.and_eq_true, beq_iff_eq, List.all_eq_true, Bool.or_eq_true, bne_iff_ne, ne_eq] at h
  refine Classical.byContradiction fun hG => ?_
  obtain ⟨⟨⟨⟨⟨h1, h2⟩, h3⟩, h4⟩, h5⟩, h6⟩ := h
  refine hG ?_
  clear hG
  refine ⟨h1, fun y hy q => ?_, h3, h4, fun y hy q => ?_, fun y hy q => ?_⟩
  · rcases h2 y hy with (h | h) | h <;> rw [q] at h <;> cases h
  · rcases h5 y hy with h | h
    · exact absurd q h
    · exact h
  · rcases h6 y hy with (h | h) | h
    · exact absurd q h
    · exact .inl h
    · obtain ⟨x, hx, h⟩ := List.any_eq_true.mp h; exact .inr ⟨x, hx, (beq_iff_eq.mp h).symm⟩
section
variable {c : Cx} {ρ : Loc} {σ : Sto} {s : Shared}
theorem comp_env (he : EnvR c.G c.env ρ σ s.heap) {sc : Scope} {xs : List String} (ok : CompOk c.env.scope.names sc xs) {C : Addr} {m : Str → Option Value} (hC : s.heap.Ns C m) (hσC : σ C = none) (hbC : c.G.base.get? C = none)
    {ρ' : Loc} (hρ : ∀ y, y ∉ xs → ρ' y = ρ y) (hm : ∀ y ∈ xs, ∀ V, ρ' y = some V → ∃ v, m (Str.ofString y) = some v ∧ vval v = some V) :
    EnvR c.G (compEnvC sc (closL c.env.cells sc.names []) C c.env) ρ' σ s.heap := by
  have hnames : (relabel sc c.env).names = relab sc.names := relabel_is he.kind fun y hy hf => ok.free y hy hf
  have hkind : ∀ y, (compEnvC sc (closL c.env.cells sc.names []) C c.env).kindOf y = (sc.names.lookup y).map fun k => if k == .free then .cell else k := fun y => by
    show (relabel sc c.env).names.lookup y = _
    rw [hnames, lookup_relab]
  refine ⟨ok.kind, he.glob, he.blt, ⟨m, hC, fun y V h0 hy hV => ?_⟩, hσC, hbC, fun y hy => ?_, fun y z a hy hz => ?_⟩
  · by_cases q : y ∈ xs
    · exact hm y q V hV
    · rw [hkind] at hy
      exfalso
      cases hl : sc.names.lookup (Str.ofString y) with
      | none => rw [hl] at hy; cases hy
      | some k =>
        rw [hl] at hy
        have hk : k = .local := by
          by_cases hk : k = .free
          · subst hk; simp at hy
          · have hb : (k == NameKind.free) = false := by simpa using hk
            simp only [Option.map_some, hb, Bool.false_eq_true, if_false, Option.some.injEq] at hy
            exact hy
        subst hk
        rcases ok.only _ (mem_of_lookup hl) rfl with h | h
        · exact h0 (ofString_inj h)
        · obtain ⟨x, hx, h⟩ := h; exact q (ofString_inj h ▸ hx)
  · rw [hkind] at hy
    have hf : sc.names.lookup y = some .free := by
      cases q : sc.names.lookup y with
      | none => rw [q] at hy; cases hy
      | some k =>
        rw [q] at hy
        by_cases hk : k = .free
        · rw [hk]
        · have hb : (k == NameKind.free) = false := by simpa using hk
          simp only [Option.map_some, hb, Bool.false_eq_true, if_false, Option.some.injEq] at hy
          exact absurd (mem_of_lookup q) (fun h => ok.noCell _ h hy)
    have hmem := mem_of_lookup hf
    refine Classical.byContradiction fun hG => ?_
    obtain ⟨cc, v', h1, h2, h3, h4, h5⟩ := he.cel y (ok.free _ hmem rfl)
    refine hG ?_
    clear hG
    have hs := closL_some c.env.cells y sc.names [] (.inl hmem)
    obtain ⟨a, ha⟩ := Option.isSome_iff_exists.mp hs
    rcases closL_lookup _ _ _ _ _ ha with h | ⟨_, h⟩
    · cases h
    · rw [h1] at h
      have h : cc = a := h
      subst h
      refine ⟨cc, v', ha, h2, h3, h4, fun z V hz hV => ?_⟩
      by_cases q : z ∈ xs
      · exfalso; have := ok.var z q; rw [hz, hf] at this; cases this
      · rw [hρ z q] at hV
        exact h5 z V hz hV
  · have g : ∀ y a, (closL c.env.cells sc.names []).lookup y = some a → c.env.cells.lookup y = some a := fun y a h => by
      rcases closL_lookup _ _ _ _ _ h with h | ⟨h1, h⟩
      · cases h
      · refine Classical.byContradiction fun hG => ?_
        obtain ⟨cc, v', h2, _⟩ := he.cel y (ok.free _ h1 rfl)
        refine hG ?_
        clear hG
        rw [h2] at h ⊢
        exact congrArg some h
    exact he.inj y z a (g y a hy) (g z a hz)
end
end BP

namespace BP
open PySem PyProof.Rows
theorem bindT_other : ∀ (xs : List String) (Vs : List Val) (ρ : Loc) (y : String), y ∉ xs → bindT xs Vs ρ y = ρ y
  | [], _, ρ, y, _ => by cases ‹List Val› <;> rfl
  | x :: xs, [], ρ, y, _ => rfl
  | x :: xs, V :: Vs, ρ, y, h => by
    show bindT xs Vs (upd ρ x V) y = _
    rw [bindT_other xs Vs _ y fun q => h (.tail _ q)]
    exact if_neg fun q : y = x => h (by rw [q]; exact .head _)
theorem bnd_comp {prog : Program} {w : World} {A : Around} {E : Value → Shared → Prop} {env : Env} {R : Shared → Prop} (hp : (env.scope.kind == .class || (env.scope.kind == .module && env.locals != env.globals)) = false) :
    ∀ (xs : List String) (Vs : List Val) (ρ : Loc) (D : String → Prop) (m : Str → Option Value) (s : Shared), (∀ x ∈ xs, env.kindOf (Str.ofString x) = some .local) → Vs.length = xs.length → s.heap.Ns env.locals m →
    (∀ y, D y → ∀ V, ρ y = some V → ∃ v, m (Str.ofString y) = some v ∧ vval v = some V) →
    (∀ h' m' n', h'.Ns env.locals m' → Heap.SameBut env.locals s.heap h' → (∀ y, (D y ∨ y ∈ xs) → ∀ V, bindT xs Vs ρ y = some V → ∃ v, m' (Str.ofString y) = some v ∧ vval v = some V) → R { s with heap := h', toks := n' }) →
    Bnd (model prog w) A env E R xs Vs s
  | [], Vs, ρ, D, m, s, hk, hl, hn, hD, hR => by
    rw [List.eq_nil_of_length_eq_zero hl] at hR
    exact hR s.heap m s.toks hn (Heap.SameBut.refl _ _) fun y hy V hV => hD y (hy.elim id fun q => nomatch q) V hV
  | x :: xs, [], ρ, D, m, s, hk, hl, hn, hD, hR => nomatch hl
  | x :: xs, V :: Vs, ρ, D, m, s, hk, hl, hn, hD, hR => by
    refine ⟨V, Vs, rfl, fun v hv => wpAny_storeName_local (hk x (.head _)) hn (fun h₂ hn₂ hs₂ => ?_) hp⟩
    refine bnd_comp hp xs Vs (upd ρ x V) (fun y => D y ∨ y = x) _ _ (fun y hy => hk y (.tail _ hy)) (Nat.succ.inj hl) hn₂ ?_ ?_
    · intro y hy W hW
      by_cases q : y = x
      · subst q
        simp only [upd, if_true, Option.some.injEq] at hW
        subst hW
        exact ⟨v, by simp, hv⟩
      · simp only [upd, q, if_false] at hW
        obtain ⟨w, h1, h2⟩ := hD y (hy.elim id fun h => absurd h q) W hW
        exact ⟨w, by simp only [show ¬ Str.ofString y = Str.ofString x from fun h => q (ofString_inj h), if_false]; exact h1, h2⟩
    · intro h' m' n' hn' hs' hB
      refine hR h' m' n' hn' (Heap.SameBut.trans hs₂ hs') fun y hy W hW => hB y ?_ W hW
      rcases hy with h | h
      · exact .inl (.inl h)
      · rcases List.mem_cons.mp h with h | h
        · exact .inl (.inr h)
        · exact .inr h
theorem codeAny_compLoop_two {prog : Program} {w : World} {A : Around} {R : Result → Shared → Prop} {s : Shared} {elt target iter : PySem.Expr} {ifs : List PySem.Expr} {scope : Scope} {pos : Pos} {it acc : Value} {env : Env} (I : Nat → Shared → Prop)
    (turn : ∀ n s, I n s → wpAny (model prog w) A (pyNext it) (fun r s₁ => match r with
      | none => R (.ok .next) s₁
      | some v => wpAny (model prog w) A (letOwnedTupleGo target it v) (fun o' s₁' => wpAny (model prog w) A (assign target env v) (fun o' s₂ =>
          wpAny (model prog w) A (forIn ifs true fun c r => if r = true then do let ok ← isTrue c env (eval c env); pure (ForInStep.yield ok) else pure (ForInStep.yield r)) (fun ok s₃ =>
            if ok = true then wpAny (model prog w) A (eval elt env) (fun x s₄ =>
              wpAny (model prog w) A (call (.builtin "list.append") [acc, x]) (fun o' s₅ => ∃ m, m < n ∧ I m s₅) (notedBy (model prog w) A env fun e s' => R (.error e) s') s₄) (notedBy (model prog w) A env fun e s' => R (.error e) s') s₃
            else ∃ m, m < n ∧ I m s₃) (notedBy (model prog w) A env fun e s' => R (.error e) s') s₂) (notedBy (model prog w) A env fun e s' => R (.error e) s') s₁') (notedBy (model prog w) A env fun e s' => R (.error e) s') s₁) (notedBy (model prog w) A env fun e s' => R (.error e) s') s)
    (n : Nat) (h : I n s) :
    codeAny (model prog w) A (.compLoop (.ListComp elt [⟨target, iter, ifs, 0⟩] scope pos) 0 it acc env) R s := by
  refine codeAny_loop rfl I (fun n s hI => ?_) n h
  show wpAny _ A ((compTurn (.ListComp elt [⟨target, iter, ifs, 0⟩] scope pos) 0 it acc env).onRaise (fun x => do noteFrame x env; theTreesLotGoes x)) _ _ s
  refine wpAny_noted ?_
  rw [compTurn_list]
  refine wpAny_bind (wpAny_standAt (wpAny_bind (wpAny_mono (turn n s hI) (fun r s₁ h₁ => ?_) fun o' o' h' => h')))
  cases r with
  | none => exact wpAny_pure h₁
  | some v =>
    refine wpAny_bind (wpAny_mono h₁ (fun o' s₁' h₁' => ?_) fun o' o' h' => h')
    refine wpAny_bind (wpAny_mono h₁' (fun o' s₂ h₂ => wpAny_bind (wpAny_mono h₂ (fun ok s₃ h₃ => ?_) fun o' o' h' => h')) fun o' o' h' => h')
    cases ok with
    | false => exact wpAny_pure ⟨rfl, h₃⟩
    | true =>
      exact wpAny_bind (wpAny_bind (wpAny_mono h₃ (fun x s₄ h₄ => wpAny_bind (wpAny_mono h₄ (fun o' s₅ h₅ => wpAny_pure (wpAny_pure ⟨rfl, h₅⟩)) fun o' o' h' => h')) fun o' o' h' => h'))
theorem tests_snd : ∀ (ifs : List Ex), (∀ e ∈ ifs, SndT e) → ∀ (c : Cx) (ρ : Loc) (σ : Sto) (s : Shared) (K : Bool → Sto → Prop) (ifs' : List PySem.Expr), CxOk c → At c ρ σ s →
    mEs c.env.scope.names ifs ifs' = true → wpIfs (WF c.G c.d) c.gv ifs ρ σ K →
    wpAny (model c.G.prog c.G.w) c.A (forIn ifs' true fun x r => if r = true then do let ok ← isTrue x c.env (eval x c.env); pure (ForInStep.yield ok) else pure (ForInStep.yield r)) (GoodB c ρ K) (Er c) s
  | [], _ => fun c ρ σ s K ifs' hc ha hm hw => mEs_nil (M := fun l => wpAny (model c.G.prog c.G.w) c.A (forIn l true fun x r => if r = true then do let ok ← isTrue x c.env (eval x c.env); pure (ForInStep.yield ok) else pure (ForInStep.yield r)) (GoodB c ρ K) (Er c) s) hm (wpAny_pure ⟨σ, ha, hw⟩)
  | e :: es, he => fun c ρ σ s K ifs' hc ha hm hw => mEs_cons (M := fun l => wpAny (model c.G.prog c.G.w) c.A (forIn l true fun x r => if r = true then do let ok ← isTrue x c.env (eval x c.env); pure (ForInStep.yield ok) else pure (ForInStep.yield r)) (GoodB c ρ K) (Er c) s) hm fun x r hm1 hm2 => by
    rw [List.forIn_cons]
    simp only [if_true]
    refine wpAny_bind (wpAny_bind (gt (he e (.head _) c ρ σ s (fun b σ₁ => if b = true then wpIfs (WF c.G c.d) c.gv es ρ σ₁ K else K false σ₁) _ hc ha hm1 hw) fun b σ₁ s₁ ha₁ hb => wpAny_pure ?_))
    cases b with
    | true => exact tests_snd es (fun z hz => he z (.tail _ hz)) c ρ σ₁ s₁ K r hc ha₁ hm2 hb
    | false =>
      have key : ∀ l : List PySem.Expr, (forIn l false fun x r => if r = true then do let ok ← isTrue x c.env (eval x c.env); pure (ForInStep.yield ok) else pure (ForInStep.yield r) : Sem Bool) = pure false := by
        intro l
        induction l with
        | nil => rfl
        | cons y l ih => rw [List.forIn_cons]; simp only [Bool.false_eq_true, if_false, pure_bind]; exact ih
      dsimp only
      rw [key]
      exact wpAny_pure ⟨σ₁, ha₁, hb⟩
theorem cxOk_comp {c : Cx} {ρ : Loc} {σ : Sto} {s : Shared} (hc : CxOk c) (ha : At c ρ σ s) {sc : Scope} {C : Addr} {o : Obj} (hC : s.heap.get? C = some o) (hcl : ∀ x ∈ sc.names, x.2 = .free → (c.env.cells.lookup x.1).isSome = true) :
    CxOk { c with env := compEnvC sc (closL c.env.cells sc.names []) C c.env, own := fun o' => False, σ₀ := σ, h₀ := s.heap } := by
  have base : ∀ b, s.heap.get? b = none → c.h₀.get? b = none := fun b hb => by
    cases e : c.h₀.get? b with
    | none => rfl
    | some o => obtain ⟨o', h⟩ := ha.alive b o e; rw [hb] at h; cases h
  refine ⟨ha.stays, fun b hb => ?_, hc.frames, hc.room, hc.units, hc.handled, hc.top⟩
  obtain ⟨n1, n2, n3⟩ := hc.old b (base b hb)
  refine ⟨fun q => ?_, fun x q => ?_, n3⟩
  · have q : b = C := q
    have hb : s.heap.get? b = none := hb
    rw [q, hC] at hb; cases hb
  · have q : (closL c.env.cells sc.names []).lookup x = some b := q
    rcases closL_lookup _ _ _ _ _ q with h | ⟨h1, h⟩
    · cases h
    · obtain ⟨a, ha⟩ := Option.isSome_iff_exists.mp (hcl _ h1 rfl)
      have ha' : c.env.cells.lookup x = some a := ha
      rw [ha'] at h
      exact n2 x (by rw [ha']; exact congrArg some h)
structure CS (c : Cx) (Pv : Addr → Prop) (D C : Addr) : Prop where
  hI : ∀ b, Pv b → c.h₀.get? b = none
  hD : c.h₀.get? D = none
  hC : c.h₀.get? C = none
  ID : ¬ Pv D
  IC : ¬ Pv C
  DC : D ≠ C
theorem ExcF.down {c c' : Cx} {e : Value} {cl : String} {σ : Sto} {h : Heap} {fl : Value} (x : ExcF c' e cl σ h fl) (hG : c'.G = c.G) (h0 : ∀ b, c'.h₀.get? b = none → c.h₀.get? b = none) : ExcF c e cl σ h fl :=
  let ⟨ea, C, oe, vs, a0, T, oT, ts, x⟩ := x
  ⟨ea, C, oe, vs, a0, T, oT, ts, x.e1, hG ▸ x.e2, x.e3, x.e4, x.e5, x.e6, x.e7, h0 _ x.e8, x.t1, x.t2, x.t3, x.t4, x.t5, x.t7, h0 _ x.t8⟩
noncomputable def wpC (c : Cx) (ifs : List Ex) (elt : Ex) (st : Sto → Prop) (xs : List String) (turns : List (List Val)) (acc : List Val) (ρ : Loc) (σ : Sto) (K : List Val → Sto → Prop) : Prop :=
  wpComp (fun ρ' σ' K => wpIfs (WF c.G c.d) c.gv ifs ρ' σ' K) (fun ρ' σ' K => wpE (WF c.G c.d) c.gv elt ρ' σ' K) st xs turns acc ρ σ K
theorem wpC_st {c : Cx} {ifs : List Ex} {elt : Ex} {st : Sto → Prop} {xs : List String} {turns : List (List Val)} {acc : List Val} {ρ : Loc} {σ : Sto} {K : List Val → Sto → Prop} (h : wpC c ifs elt st xs turns acc ρ σ K) : st σ := by
  cases turns with
  | nil => exact h.1
  | cons t ts => exact h.1
inductive CI (c : Cx) (ρ : Loc) (turns : List (List Val)) (Pv : Addr → Prop) (It : Nat → Heap → Prop) (D C : Addr) (W : List (List Val) → List Val → Sto → Prop) (n : Nat) (s : Shared) : Prop
  | mk (i : Nat) (acc : List Val) (σ : Sto) (vs : Array Value) (m : Str → Option Value) (at_ : At c ρ σ s) (it : It i s.heap) (pl : s.heap.PlainList D vs) (ac : VsR vs.toList acc) (dict : s.heap.Ns C m) (len : i ≤ turns.length) (alen : acc.length ≤ i)
    (fI : ∀ b, Pv b → σ b = none) (fD : σ D = none) (fC : σ C = none) (hn : n = turns.length - i) (hw : W (turns.drop i) acc σ)
theorem At.leaves {c c' : Cx} {σ' : Sto} {ρ' : Loc} {s' : Shared} (y : At c' ρ' σ' s') (hc : CxOk c) (hfr : c'.fr = c.fr) {b : Addr} {o : Obj} (hown : ¬ c'.own b) (e : c'.h₀.get? b = some o) (hb : c'.σ₀ b = none) (hf : c.h₀.get? b = none) : s'.heap.get? b = some o ∧ σ' b = none := by
  obtain ⟨o', e', q⟩ := y.keep b o e hb hown
  refine ⟨by rw [e', q.exact fun ⟨e1, q1, q2⟩ => (hc.old b hf).2.2 e1 (hfr ▸ q1) q2], ?_⟩
  cases q : σ' b with
  | none => rfl
  | some ob => rcases y.fresh b ob q with h | h
               · exact absurd hb h
               · rw [e] at h; cases h
theorem comp_loop {c : Cx} {ρ : Loc} {elt : Ex} {xs : List String} {ifs : List Ex} (h2 : SndE elt) (h3 : ∀ e ∈ ifs, SndT e) (hc : CxOk c)
    {elt' it' tg : PySem.Expr} {ifs' : List PySem.Expr} {sc : Scope} {pos : Pos} (ok : CompOk c.env.scope.names sc xs) (m1 : mE (relab sc.names) elt elt' = true) (m2 : mEs (relab sc.names) ifs ifs' = true)
    {turns : List (List Val)} {I D C : Addr} {Pv : Addr → Prop} {It : Nat → Heap → Prop} {st : Sto → Prop} (lp : Lp c xs tg turns st I Pv It) (cs : CS c Pv D C)
    (hlen : turns.length ≤ lim) (hcl : ∀ x ∈ sc.names, x.2 = .free → (c.env.cells.lookup x.1).isSome = true)
    {K : List Val → Sto → Prop} {R : Result → Shared → Prop} (hR : ∀ acc σ (vs : Array Value) m s, At c ρ σ s → s.heap.PlainList D vs → VsR vs.toList acc → acc.length ≤ turns.length → s.heap.Ns C m → σ D = none → σ C = none → K acc σ → R (.ok .next) s)
    (hE : ∀ e cl σ fl m s, At c ρ σ s → ExcF c e cl σ s.heap fl → c.err cl σ → s.heap.Ns C m → σ C = none → R (.error e) s)
    (n : Nat) (s : Shared) (ci : CI c ρ turns Pv It D C (fun l acc σ => wpC c ifs elt st xs l acc ρ σ K) n s) :
    codeAny (model c.G.prog c.G.w) c.A (.compLoop (.ListComp elt' [⟨tg, it', ifs', 0⟩] sc pos) 0 (.ref I) (.ref D) (compEnvC sc (closL c.env.cells sc.names []) C c.env)) R s := by
  refine codeAny_compLoop_two (I := CI c ρ turns Pv It D C (fun l acc σ => wpC c ifs elt st xs l acc ρ σ K)) ?_ n ci
  clear ci
  rintro n s ⟨i, acc, σ, vs, m, hat, hit, hpl, hac, hm, hile, hal, fI, fD, fC, rfl, hw⟩
  have ne : ∀ {b : Addr}, ¬ Pv b → ∀ x, Pv x → x ≠ b := fun h x hx q => h (q ▸ hx)
  refine lp.turn ρ σ s i _ _ _ _ _ hat (wpC_st hw) hit fI (fun v s₁ h => h) (fun s₁ h => h) ?_ ?_
  · intro X h' n' hX hXl hit hsb
    obtain ⟨hil, hX⟩ := List.getElem?_eq_some_iff.mp hX
    rw [List.drop_eq_getElem_cons hil, hX] at hw
    have a1 : At c ρ σ { s with heap := h', toks := n' } := hat.privX hc (X := Pv) (fun b hb => ⟨cs.hI b hb, fI b hb⟩) hsb
    have hnC : h'.Ns C m := ns_slots hm fun o e => ⟨o, hsb C o cs.IC e, rfl⟩
    have hbC : c.G.base.get? C = none := by
      cases e : c.G.base.get? C with
      | none => rfl
      | some o => have := hc.baseIn C o e; rw [cs.hC] at this; cases this
    have hnames : (compEnvC sc (closL c.env.cells sc.names []) C c.env).scope.names = relab sc.names := relabel_is hat.env.kind fun y hy hf => ok.free y hy hf
    refine bnd_comp (env := compEnvC sc (closL c.env.cells sc.names []) C c.env) (by
      show ((relabel sc c.env).kind == .class || ((relabel sc c.env).kind == .module && _)) = false
      rw [show (relabel sc c.env).kind = .function from ok.kind]; rfl) xs X ρ (fun o' => False) m _ (fun x hx => by
        show (relabel sc c.env).names.lookup _ = _
        rw [show (relabel sc c.env).names = relab sc.names from hnames, lookup_relab, ok.var x hx]; rfl) hXl hnC (fun o' h => h.elim) fun h₂ m₂ n₂ hn₂ hs₂ hB => ?_
    have hs₂ : Heap.SameBut C h' h₂ := hs₂
    have hn₂ : h₂.Ns C m₂ := hn₂
    have a2 : At c ρ σ { s with heap := h₂, toks := n₂ } := a1.priv hc cs.hC fC (fun b o hb e => hs₂.extBut b o hb e)
    have hit₂ : It (i + 1) h₂ := lp.keep _ _ _ hit fun b o hb e => hs₂.extBut b o (ne cs.IC b hb) e
    obtain ⟨k', hk⟩ := hpl
    have hD₂ := hs₂.extBut D _ cs.DC (hsb D _ cs.ID hk)
    obtain ⟨oC₂, hoC₂⟩ : ∃ o, h₂.get? C = some o := let ⟨o, _, _, h, _⟩ := hn₂; ⟨o, h⟩
    clear hn₂ hs₂ hnC hsb hk hit hm a1
    let c' : Cx := { c with env := compEnvC sc (closL c.env.cells sc.names []) C c.env, own := fun o' => False, σ₀ := σ, h₀ := h₂ }
    have hc' : CxOk c' := cxOk_comp (s := { s with heap := h₂, toks := n₂ }) hc a2 hoC₂ hcl
    have b2 : At c' (bindT xs X ρ) σ { s with heap := h₂, toks := n₂ } :=
      ⟨a2.stays, a2.os, a2.gens, a2.sto, comp_env a2.env ok ‹_› fC hbC (fun y hy => bindT_other xs X ρ y hy) (fun y hy V hV => hB y (.inr hy) V hV), a2.frs, a2.frN, fun b o e o' o' => ⟨o, e, .refl o⟩, fun b o e => ⟨o, e⟩, fun b ob e => .inl (by rw [show c'.σ₀ = σ from rfl, e]; simp)⟩
    have nsC : ∀ {ρ' σ' s'}, At c' ρ' σ' s' → s'.heap.Ns C m₂ ∧ σ' C = none := fun y =>
      have yC := y.leaves hc rfl (fun h => h) hoC₂ fC cs.hC
      ⟨ns_slots ‹h₂.Ns C m₂› fun o e => by rw [hoC₂] at e; cases e; exact ⟨_, yC.1, rfl⟩, yC.2⟩
    have go : ∀ {ρ' σ' s'} {acc' : List Val} {vs' : Array Value} {h₅ : Heap}, At c' ρ' σ' s' → VsR vs'.toList acc' → acc'.length ≤ i + 1 → h₅.PlainList D vs' → Heap.ExtBut D s'.heap h₅ → wpC c ifs elt st xs (turns.drop (i + 1)) acc' ρ σ' K → ∃ m, m < turns.length - i ∧ CI c ρ turns Pv It D C (fun l acc σ => wpC c ifs elt st xs l acc ρ σ K) m { s' with heap := h₅ } := by
      intro ρ' σ' s' acc' vs' h₅ y hv hl hp he hw
      have yI : ∀ b, Pv b → ∀ o, h₂.get? b = some o → s'.heap.get? b = some o ∧ σ' b = none := fun b hb o e => y.leaves hc rfl (fun h => h) e (fI b hb) (cs.hI b hb)
      have yC := nsC y
      have yD := y.leaves hc rfl (fun h => h) hD₂ fD cs.hD
      have a3 : At c ρ σ' { s' with heap := h₅ } := (a2.back y rfl rfl rfl rfl (fun o' h => h)).priv hc cs.hD yD.2 fun b o hb e => he b o hb e
      exact ⟨turns.length - (i + 1), by lia, i + 1, acc', σ', vs', _, a3, lp.keep _ _ _ hit₂ fun b o hb e => he b o (ne cs.ID b hb) (yI b hb o e).1, hp, hv, ns_slots yC.1 fun o e => ⟨o, he C _ (Ne.symm cs.DC) e, rfl⟩, hil, hl,
        fun b hb => let ⟨o, e⟩ := lp.live _ _ hit₂ b hb; (yI b hb o e).2, yD.2, yC.2, rfl, hw⟩
    have err : ∀ e s', Er c' e s' → notedBy (model c.G.prog c.G.w) c.A (compEnvC sc (closL c.env.cells sc.names []) C c.env) (fun e s' => R (.error e) s') e s' := by
      rintro e s' ⟨cl, ρ', σ', a3, x, h⟩
      refine note_snd hc' a3 x fun s₄ L a4 hL x4 => ?_
      have yC := nsC a4
      exact hE e cl σ' _ _ s₄ (a2.back a4 rfl rfl rfl rfl fun o' h => h) (x4.down rfl fun b hb => by
        cases q : c.h₀.get? b with
        | none => rfl
        | some o => obtain ⟨o', h⟩ := a2.alive b o q; rw [show h₂.get? b = none from hb] at h; cases h) h yC.1 yC.2
    refine wpAny_mono (tests_snd ifs h3 c' (bindT xs X ρ) σ _ _ ifs' hc' b2 (by rw [show c'.env.scope.names = relab sc.names from hnames]; exact m2) hw.2) (fun b s₃ ⟨σ₃, b3, hb⟩ => ?_) err
    cases b with
    | false => exact go b3 hac (Nat.le_succ_of_le hal) ⟨_, (b3.leaves hc rfl (fun h => h) hD₂ fD cs.hD).1⟩ (fun o' o' o' e => e) hb
    | true =>
      refine wpAny_mono (h2 c' (bindT xs X ρ) σ₃ s₃ _ _ hc' b3 (by rw [show c'.env.scope.names = relab sc.names from hnames]; exact m1) hb) (fun y s₄ ⟨Y, σ₄, hY, b4, hb⟩ => ?_) err
      refine wpAny_list_append_plain ⟨_, (b4.leaves hc rfl (fun h => h) hD₂ fD cs.hD).1⟩ (fun h₅ hp₅ hs₅ => ?_) (by have := hac.len; rw [Array.length_toList] at this; simp only [lim] at hlen; simp only [sizeLine]; lia)
      exact go b4 (by rw [Array.toList_push]; exact hac.append (VsR.cons.mpr ⟨hY, rfl⟩)) (by rw [List.length_append]; exact Nat.succ_le_succ hal) hp₅ (fun b o hb e => hs₅.extBut b o hb e) hb
  · intro h' hX hsb
    have e : i = turns.length := Nat.le_antisymm hile (List.getElem?_eq_none_iff.mp hX)
    subst e
    rw [List.drop_length] at hw
    obtain ⟨k', hk⟩ := hpl
    exact hR acc σ vs m _ (hat.privX hc (X := Pv) (fun b hb => ⟨cs.hI b hb, fI b hb⟩) hsb) ⟨_, hsb D _ cs.ID hk⟩ hac hal (ns_slots hm fun o e => ⟨o, hsb C o cs.IC e, rfl⟩) fD fC hw.2
end BP

namespace BP
open PySem PyProof.Rows
theorem At.none_ge {c : Cx} {ρ : Loc} {σ : Sto} {s : Shared} (x : At c ρ σ s) {b : Addr} (hb : s.heap.objs.size ≤ b) : c.h₀.get? b = none ∧ σ b = none := by
  have hn : s.heap.get? b = none := by
    cases e : s.heap.get? b with
    | none => rfl
    | some o' => exact absurd (Heap.lt_size e) (Nat.not_lt.mpr hb)
  refine ⟨?_, x.none_of_fresh hn⟩
  cases e : c.h₀.get? b with
  | none => rfl
  | some o' => obtain ⟨o'', q⟩ := x.alive b o' e; rw [hn] at q; cases q
noncomputable def cPost (M : Model) (A : Around) (E : Value → Shared → Prop) (use : Option (Value → Sem Unit)) (Q : Value → Shared → Prop) (acc : Value) (cenv : Env) (r : Result) (s' : Shared) : Prop :=
  match r, use with
  | .ok _, none => ∃ m, s'.heap.Ns cenv.locals m ∧ ∀ h', Heap.SameBut cenv.locals s'.heap h' → Q acc { s' with heap := h' }
  | .ok _, some u => wpAny M A (u acc) (fun o' s'' => ∃ m, s''.heap.Ns cenv.locals m ∧ ∀ h', Heap.SameBut cenv.locals s''.heap h' → Q .none { s'' with heap := h' }) E s'
  | .error x, _ => ∃ m, s'.heap.Ns cenv.locals m ∧ ∀ h', Heap.SameBut cenv.locals s'.heap h' → wpAny M A (PySem.passOn "comprehension.variables-let-go" x cenv : Sem Value) Q E { s' with heap := h' }
theorem comp_free {M : Model} {A : Around} {E : Value → Shared → Prop} {s : Shared} {env : Env} {e : PySem.Expr} {scope : Scope} {pos : Pos} {newAcc first : Sem Value} {g : Comprehension} {gs : List Comprehension} {cl : List (Str × Addr)} {use : Option (Value → Sem Unit)} {Q : Value → Shared → Prop}
    (hcl : clausesOf e = g :: gs) (hs : ∀ x, foldedSetIterable g.iter env x = pure x) (hclos : closureFor scope env = pure cl)
    (hkind : scope.kind = .function) (hnames : ∀ x ∈ scope.names, x.2 = .local → scope.names.lookup x.1 = some .local)
    (h : wpAny M A first (fun x s₁ => wpAny M A (pyIter x) (fun it s₂ => wpAny M A newAcc (fun acc s₃ =>
      wpAny M A (newFunctionEnv scope env.globals cl [] env.qual none .none (some env)) (fun cenv s₄ =>
        codeAny M A (.compStart e 0 it acc { cenv with scope := relabel scope env }) (cPost M A E use Q acc { cenv with scope := relabel scope env }) s₄) E s₃) E s₂) E s₁) E s) :
    wpAny M A (comprehension e scope env pos newAcc false first use) Q E s := by
  unfold comprehension
  rw [hclos, hcl]
  refine wpAny_bind (wpAny_mono h (fun x s₁ h₁ => wpAny_bind (wpAny_standAt (wpAny_bind (wpAny_of_eq (hs x) (wpAny_bind (wpAny_holding (wpAny_mono h₁ (fun it s₂ h₂ =>
    wpAny_standIf (wpAny_bind (wpAny_mono h₂ (fun acc s₃ h₃ => wpAny_bind (wpAny_pure (wpAny_bind (wpAny_mono h₃ (fun cenv s₄ h₄ => ?_) fun o' o' h' => h')))) fun o' o' h' => h')))
      fun o' o' h' => h'))))))) fun o' o' h' => h')
  dsimp only
  have hv : ∀ x ∈ (scope.names.filter fun x => (x.2 == .local || x.2 == .cell) && x.1 != (".0" : Str)).reverse, x.2 = .local →
      Env.kindOf { cenv with scope := relabel scope env } x.1 = some .local := fun x hx hl => lookup_relabel_local (hnames x (List.mem_filter.mp (List.mem_reverse.mp hx)).1 hl)
  refine wpAny_holding (wpAny_bind (wpAny_attempt (wpAny_holding (wpAny_run (codeAny_mono h₄ fun r s' hr => ?_)))))
  cases r with
  | ok f => cases use with
    | none =>
      obtain ⟨m, hn, hr⟩ := hr
      exact wpAny_bind (wpAny_holding (wpAny_comp_letGo (cenv := { cenv with scope := relabel scope env }) hkind _ s' m hv hn fun h' m' o' hs' => wpAny_pure (hr h' hs')))
    | some u =>
      refine wpAny_bind (wpAny_rule (wpAny_bind (wpAny_holding (wpAny_mono hr (fun o' s'' hr' => ?_) fun o' o' h' => h'))))
      obtain ⟨m, hn, hr'⟩ := hr'
      exact wpAny_bind (wpAny_comp_letGo (cenv := { cenv with scope := relabel scope env }) hkind _ s'' m (fun x hx => hv x ((List.mem_append.mp hx).elim List.mem_of_mem_drop List.mem_of_mem_take)) hn fun h' m' o' hs' => wpAny_pure (hr' h' hs'))
  | error x =>
    obtain ⟨m, hn, hr⟩ := hr
    exact wpAny_bind (wpAny_holding (wpAny_comp_letGo (cenv := { cenv with scope := relabel scope env }) hkind _ s' m hv hn fun h' m' o' hs' => hr h' hs'))
theorem comp_core {c : Cx} {ρ : Loc} {σ : Sto} {s : Shared} {elt it : Ex} {k : Nat} {xs : List String} {ifs : List Ex} (h1 : SndE it) (h2 : SndE elt) (h3 : ∀ e ∈ ifs, SndT e) (hc : CxOk c) (hh : c.hd = false) (ha : At c ρ σ s)
    {elt' it' tg : PySem.Expr} {ifs' : List PySem.Expr} {sc : Scope} {pos pos' : Pos} (htg : mTgt k xs tg = true) (ok : CompOk c.env.scope.names sc xs) (m0 : mIt c.env.scope.names k (mE c.env.scope.names it) it' = true) (m1 : mE (relab sc.names) elt elt' = true) (m2 : mEs (relab sc.names) ifs ifs' = true)
    {K : List Val → Sto → Prop} {use : Option (Value → Sem Unit)} {Qv : Value → Shared → Prop}
    (hw : wpE (WF c.G c.d) c.gv it ρ σ fun v σ₁ => onS1 (turnsOf σ₁ v k) fun turns => turns.length ≤ lim ∧ wpC c ifs elt (stay σ₁ v k turns) xs turns [] ρ σ₁ K)
    (hfin : ∀ ys σ' s' D C m, At c ρ (σ'.set D (.list ys)) s' → σ' D = none → K ys σ' → s'.heap.Ns C m → c.h₀.get? C = none → σ' C = none → C ≠ D → cPost (model c.G.prog c.G.w) c.A (Er c) use Qv (.ref D) (compEnvC sc (closL c.env.cells sc.names []) C c.env) (.ok .next) s') :
    wpAny (model c.G.prog c.G.w) c.A (comprehension (.ListComp elt' [⟨tg, it', ifs', 0⟩] sc pos) sc c.env pos' (newList []) false (eval it' c.env) use) Qv (Er c) s := by
  have hcl : ∀ y ∈ sc.names, y.2 = .free → (c.env.cells.lookup y.1).isSome = true := fun y hy hf => by
    obtain ⟨cc, v, q, _⟩ := ha.env.cel y.1 (ok.free y hy hf)
    rw [q]; rfl
  refine comp_free rfl (fun y => mIt_notSet m0 _ y) (closureFor_is sc c.env hcl) ok.kind (fun y hy hl => by rw [ok.own y hy, hl]) ?_
  refine start_snd (W := fun v σ₁ turns => turns.length ≤ lim ∧ wpC c ifs elt (stay σ₁ v k turns) xs turns [] ρ σ₁ K) htg h1 hc hh ha m0 hw ?_
  rintro V σ₁ turns s₁ H1 I Pv It a1 ⟨hlen, hw⟩ lp hit kp1 hPv
  refine wpAny_newObj_type (wpAny_newFunctionEnv ok.noCell (by intro y hy; simp at hy) (fun h₁ hns₁ hsb₁ => ?_) ok.kind)
  dsimp only at hns₁ hsb₁ ⊢
  generalize hH2 : H1.push { cls := .type "list", dict := none, data := .seq ([] : List Value).toArray } = H2 at hns₁ hsb₁ ⊢
  have z1 : s₁.heap.objs.size ≤ H1.objs.size := by
    obtain ⟨o, ho⟩ := lp.live _ _ hit I lp.own
    exact Nat.le_of_lt (Nat.lt_of_le_of_lt (hPv I lp.own) (Heap.lt_size ho))
  have z2 : H2.objs.size = H1.objs.size + 1 := by rw [← hH2, Heap.size_push]
  have g2 : ∀ b o', H1.get? b = some o' → H2.get? b = some o' := fun b o' e => hH2 ▸ Heap.get?_push_of_some _ e
  have g3 : ∀ b o', H2.get? b = some o' → h₁.get? b = some o' := fun b o' e => hsb₁.extBut b o' (Nat.ne_of_lt (Heap.lt_size e)) (Heap.get?_push_of_some _ e)
  have dD : h₁.PlainList H1.objs.size #[] := ⟨_, g3 _ _ (hH2 ▸ Heap.get?_push_size _ rfl)⟩
  have a2 : At c ρ σ₁ { s₁ with heap := h₁, toks := s₁.toks + ([] : List (Str × Value)).length } := a1.grow fun b o' e => g3 _ _ (g2 _ _ (kp1 _ _ e))
  have hit₁ : It 0 h₁ := lp.keep _ _ _ hit fun b o' o' e => g3 _ _ (g2 _ _ e)
  have n0 : ∀ b, Pv b → c.h₀.get? b = none ∧ σ₁ b = none := fun b hb => a1.none_ge (hPv b hb)
  have n1 := a1.none_ge (b := H1.objs.size) z1
  have n2 := a1.none_ge (b := H2.objs.size) (by lia)
  have lv : ∀ b, H1.objs.size ≤ b → ¬ Pv b := fun b hb q => by
    obtain ⟨o, ho⟩ := lp.live _ _ hit b q
    exact absurd (Heap.lt_size ho) (Nat.not_lt.mpr hb)
  have cs : CS c Pv H1.objs.size H2.objs.size := ⟨fun b hb => (n0 b hb).1, n1.1, n2.1, lv _ (Nat.le_refl _), lv _ (by lia), (by lia : (H1.objs.size : Nat) ≠ H2.objs.size)⟩
  have loop := comp_loop (K := K) (R := cPost (model c.G.prog c.G.w) c.A (Er c) use Qv (.ref H1.objs.size) (compEnvC sc (closL c.env.cells sc.names []) H2.objs.size c.env)) (it' := it') (pos := pos) h2 h3 hc ok m1 m2 lp cs hlen hcl
    (fun acc σ' vs m s' b1 ⟨k, hvs⟩ hac hal hm fD fC hk => hfin acc σ' _ H1.objs.size H2.objs.size m
      (b1.publish hc (b := H1.objs.size) (ob := .list acc) n1.1 hvs ⟨vs, k, rfl, hac, Nat.le_trans hal (Nat.le_trans hlen (by decide))⟩) fD hk hm n2.1 fC (Ne.symm cs.DC))
    (fun e cl σ' fl m s' b1 x he hm fC => ⟨m, hm, fun h' hs => by
      obtain ⟨ea, C, oe, vs, a0, T, oT, ts, x⟩ := x
      obtain ⟨oN, es, ep, hoN, hdN, _⟩ := hm
      have nN : ∀ {b o ws}, s'.heap.get? b = some o → o.data = .fields ws → b ≠ H2.objs.size := fun h1 h2 q => by
        rw [q] at h1
        have hoN : s'.heap.get? H2.objs.size = some oN := hoN
        rw [h1] at hoN; cases hoN; rw [h2] at hdN; cases hdN
      refine pass_snd hc (s := { s' with heap := h' }) (b1.priv hc n2.1 fC fun b o hb e => hs.extBut b o hb e) (cl := cl) (fl := fl) ⟨ea, C, oe, vs, a0, T, oT, ts, x.e1, x.e2, hs.extBut _ _ (nN x.e3 x.e5) x.e3, x.e4, x.e5, x.e6, x.e7, x.e8, x.t1, x.t2, hs.extBut _ _ (nN x.t3 x.t4) x.t3, x.t4, x.t5, x.t7, x.t8⟩ rfl fun s₂ a2 x2 => ?_
      exact ⟨cl, ρ, σ', a2, x2, he⟩⟩)
    turns.length _ ⟨0, [], σ₁, #[], _, a2, hit₁, dD, rfl, hns₁, Nat.zero_le _, Nat.le_refl _, fun b hb => (n0 b hb).2, n1.2, n2.2, rfl, by rw [List.drop_zero]; exact hw⟩
  exact codeAny_compStart_list loop (lp.self _ _ _ _ hit₁ loop)
theorem snd_comp {elt it : Ex} {k : Nat} {xs : List String} {ifs : List Ex} (h1 : SndE it) (h2 : SndE elt) (h3 : ∀ e ∈ ifs, SndT e) : SndE (.comp elt k xs it ifs) := fun c ρ σ s Q e hc ha hm hw => mE_comp hm fun tg elt' it' ifs' sc pos htg hok m0 m1 m2 => by
  show wpAny _ _ (comprehension (.ListComp elt' [⟨tg, it', ifs', 0⟩] sc pos) sc c.env _ (newList []) false (eval it' c.env) none) _ _ _
  refine comp_core (K := fun ys σ' => newW σ' (.list ys) Q) h1 h2 h3 hc hw.1 ha htg (compOk_of hok) m0 m1 m2 hw.2 ?_
  intro ys σ' s' D C m at' hD hk hC hC₀ hCσ hCD
  exact ⟨m, hC, fun h' hs => ⟨_, _, rfl, at'.priv hc hC₀ (by rw [Sto.set_other _ _ hCD]; exact hCσ) (fun b o hb e => hs.extBut b o hb e), hk D hD⟩⟩
end BP

namespace BP
open PySem PyProof.Rows
variable {c : Cx} {ρ : Loc} {σ : Sto} {s : Shared} {Q : KV} {E : Value → Shared → Prop}
theorem VsR.of_ints : ∀ {vs : List Value} {ns : List Int}, IntsAre vs ns → VsR vs (ns.map .int)
  | _, _, .nil => rfl
  | _, _, .cons n t r => VsR.cons.mpr ⟨rfl, VsR.of_ints r⟩
theorem sorted_fin (ha : At c ρ σ s) {vs : List Value} {out : Array Value} {ys : List Val} (hv : VsR out.toList ys) (hl : ys.length ≤ 2) (h : newW σ (.list ys) Q) : Good c ρ Q (.ref (s.heap.objs.size + 1)) { s with heap := sortedAll s.heap vs out } := by
  have hn : s.heap.get? (s.heap.objs.size + 1) = none := by
    cases q : s.heap.get? (s.heap.objs.size + 1) with
    | none => rfl
    | some o => exact absurd (Heap.lt_size q) (Nat.not_lt_of_le (Nat.le_succ _))
  obtain ⟨e, he⟩ := sortedAll_at s.heap vs out
  exact ⟨_, _, rfl, ha.alloc (a := s.heap.objs.size + 1) (ob := .list ys) hn (fun o' o' q => sortedAll_old q) he ⟨_, _, rfl, hv, by simp only [lim]; lia⟩, h _ (ha.none_of_fresh hn)⟩
theorem two_ints {l : List Int} {i j : Int} (hp : l.Perm [i, j]) (hs : l.Pairwise (· ≤ ·)) : l = if j < i then [j, i] else [i, j] := by
  have h2 : ([i, j] : List Int) = [i, j] ∧ (if j < i then [j, i] else [i, j] : List Int).Perm [i, j] ∧ (if j < i then [j, i] else [i, j] : List Int).Pairwise (· ≤ ·) := by
    by_cases q : j < i
    · rw [if_pos q]; exact ⟨rfl, .swap i j [], List.pairwise_pair.mpr (Int.le_of_lt q)⟩
    · rw [if_neg q]; exact ⟨rfl, .refl _, List.pairwise_pair.mpr (Int.not_lt.mp q)⟩
  exact (hp.trans h2.2.1.symm).eq_of_pairwise (fun a b o' o' => Int.le_antisymm) hs h2.2.2
theorem VsR.pair {vs : List Value} {x y : Val} (h : VsR vs [x, y]) : ∃ v w, vs = [v, w] ∧ vval v = some x ∧ vval w = some y := by
  cases vs with
  | nil => exact nomatch h
  | cons v vs => cases vs with
    | nil => exact nomatch (VsR.cons.mp h).2
    | cons w vs =>
      have h1 := VsR.cons.mp h
      have h2 := VsR.cons.mp h1.2
      exact ⟨v, w, by rw [h2.2.nil_right], h1.1, h2.1⟩
theorem sort2_snd (hA : c.A.handled = none) (ha : At c ρ σ s) {a : Nat} {xs : List Val} (hσ : σ a = some (.list xs)) (h : sort2W xs σ Q) :
    wpAny (model c.G.prog c.G.w) c.A (PySem.call (.builtin "sorted") [.ref a]) (Good c ρ Q) E s := by
  refine ha.list hσ fun vs n h1 h2 hl h3 => ?_
  rcases h with ⟨i, j, rfl, h⟩ | ⟨t, u, i, m, j, k, rfl, ht, hu, hn, h⟩
  · obtain ⟨v, w, e, hv, hw⟩ := h2.pair
    obtain ⟨t1, rfl⟩ := vval_int hv
    obtain ⟨t2, rfl⟩ := vval_int hw
    have e : vs = [Value.int i t1, Value.int j t2].toArray := by rw [← e]
    subst e
    refine sorted_ints (vs := [.int i t1, .int j t2]) (ns := [i, j]) ⟨_, h1, rfl, n, rfl⟩ (intsAre_map _ fun f hf => ?_) (by show 2 < 64; decide) fun out ns' g1 g2 g3 => ?_
    · rcases List.mem_cons.mp hf with q | q
      · exact ⟨i, t1, q⟩
      · exact ⟨j, t2, List.mem_singleton.mp q⟩
    · rw [two_ints g2 g3] at g1
      refine sorted_fin ha (ys := if j < i then [.int j, .int i] else [.int i, .int j]) ?_ (by split <;> exact Nat.le_refl 2) h
      have := VsR.of_ints g1
      by_cases q : j < i
      · rw [if_pos q] at this ⊢; exact this
      · rw [if_neg q] at this ⊢; exact this
  · obtain ⟨v, w, e, hv, hw⟩ := h2.pair
    cases vval_ref hv
    cases vval_ref hw
    have e : vs = #[Value.ref t, Value.ref u] := by rw [← Array.toArray_toList (xs := vs), e]
    subst e
    have pr : ∀ {t i m}, σ t = some (.tup [.int i, .int m]) → PairAt s.heap (.ref t) i m := fun {t i m} ht => ha.tup ht fun vs n g1 g2 o' o' => by
      obtain ⟨v, w, e, hv, hw⟩ := g2.pair
      obtain ⟨t1, rfl⟩ := vval_int hv
      obtain ⟨t2, rfl⟩ := vval_int hw
      exact ⟨t, n, t1, t2, rfl, by rw [g1, ← Array.toArray_toList (xs := vs), e]⟩
    refine sorted2 ⟨_, h1, rfl, n, rfl⟩ (pr ht) (pr hu) hn ?_
    refine sorted_fin ha (ys := if j < i then [.ref u, .ref t] else [.ref t, .ref u]) ?_ (by split <;> exact Nat.le_refl 2) h
    by_cases q : j < i
    · rw [if_pos q, if_pos q]; rfl
    · rw [if_neg q, if_neg q]; rfl
end BP

namespace BP
open PySem PyProof.Rows
section
variable {c : Cx} {ρ : Loc} {σ : Sto} {s : Shared} {Q : KV} {E : Value → Shared → Prop}
theorem At.new (x : At c ρ σ s) {h' : Heap} {tk : Nat} {o : Obj} {ob : Ob} (hk : ∀ b o', s.heap.get? b = some o' → h'.get? b = some o') (ho : h'.get? s.heap.objs.size = some o) (hr : ObR c.G ob o) (hQ : newW σ ob Q) :
    Good c ρ Q (.ref s.heap.objs.size) { s with heap := h', toks := tk } :=
  ⟨_, _, rfl, x.alloc (a := s.heap.objs.size) x.size_none hk ho hr, hQ _ (x.none_of_fresh x.size_none)⟩
theorem VsR.bools : ∀ {vs : List Value} {bs : List Bool}, VsR vs (bs.map .bool) → vs = bs.map .bool
  | [], [], _ => rfl
  | v :: vs, b :: bs, h => by
    have h := VsR.cons.mp h
    rw [vval_bool h.1, VsR.bools h.2]; rfl
  | [], _ :: _, h => nomatch h
  | _ :: _, [], h => nomatch h
theorem range_getD (bs : List Bool) : (List.range bs.length).map (fun i => (bs[i]?).getD true) = bs :=
  List.ext_getElem (by rw [List.length_map, List.length_range]) fun i h1 h2 => by rw [List.getElem_map, List.getElem_range, List.getElem?_eq_getElem h2]; rfl
noncomputable def BI.val : BI → Value
  | .len => .builtin "len" | .all => .builtin "all" | .list => .type "list" | .range => .type "range" | .min => .builtin "min" | .max => .builtin "max" | .int => .type "int" | .sorted => .builtin "sorted"
theorem one_val {vals : List Value} {x : Val} (h : VsR vals [x]) {P : Prop} (k : ∀ v, vals = [v] → vval v = some x → P) : P := by
  cases vals with
  | nil => exact nomatch h
  | cons v r => have h := VsR.cons.mp h; exact k v (by rw [h.2.nil_right]) h.1
theorem one_ref {vals : List Value} {a : Nat} (h : VsR vals [.ref a]) : vals = [.ref a] := one_val h fun v e hv => by rw [e, vval_ref hv]
theorem bone {f : BI} {vs : List Val} (h : bcallW f vs σ Q) (hf : f = .int) : ∃ V, vs = [V] := by
  rcases hf with rfl <;>
  · cases vs with
    | nil => exact h.elim
    | cons v r => cases r with
      | nil => exact ⟨v, rfl⟩
      | cons _ _ => exact h.elim
theorem int_snd (ha : At c ρ σ s) {vals : List Value} {vs : List Val} (hv : VsR vals vs) (h : bcallW .int vs σ Q) : wpAny (model c.G.prog c.G.w) c.A (PySem.call (BI.int.val) vals) (Good c ρ Q) E s := by
  obtain ⟨V, rfl⟩ := bone h rfl
  refine one_val hv fun v e hv => ?_
  rw [e]
  cases V with
  | none => exact h.elim
  | int _ => exact h.elim
  | ref _ => exact h.elim
  | bool b => rw [vval_bool hv]; exact call_int_bool (good_int ha h)
  | str _ => exact h.elim
theorem VsR.items : ∀ {vs : List Value} {ns : List Int}, VsR vs (ns.map .int) → ∃ xs : List (Int × Tok), vs = xs.map (fun p => .int p.1 p.2) ∧ xs.map (·.1) = ns
  | [], [], _ => ⟨[], rfl, rfl⟩
  | v :: vs, n :: ns, h => by
    have h := VsR.cons.mp h
    obtain ⟨t, rfl⟩ := vval_int h.1
    obtain ⟨xs, h1, h2⟩ := VsR.items h.2
    exact ⟨(n, t) :: xs, by rw [h1]; rfl, by rw [← h2]; rfl⟩
  | [], _ :: _, h => nomatch h
  | _ :: _, [], h => nomatch h
theorem best_at {bt : Nat → Nat → Bool} {le : Nat → Nat → Prop} (hr : ∀ i, le i i) (ht : ∀ i j k, le i j → le j k → le i k) (h1 : ∀ i j, bt i j = true → le j i) (h0 : ∀ i j, bt i j = false → le i j) : ∀ k, argBest bt k ≤ k ∧ ∀ i, i ≤ k → le i (argBest bt k)
  | 0 => ⟨Nat.le_refl _, fun i hi => by rw [Nat.le_zero.mp hi]; exact hr _⟩
  | k + 1 => by
    obtain ⟨h2, h3⟩ := best_at hr ht h1 h0 k
    rw [argBest]
    cases q : bt (k + 1) (argBest bt k) with
    | true =>
      rw [if_pos rfl]
      refine ⟨Nat.le_refl _, fun i hi => ?_⟩
      rcases Nat.lt_or_eq_of_le hi with e | e
      · exact ht _ _ _ (h3 i (Nat.le_of_lt_succ e)) (h1 _ _ q)
      · rw [e]; exact hr _
    | false =>
      rw [if_neg Bool.false_ne_true]
      refine ⟨Nat.le_succ_of_le h2, fun i hi => ?_⟩
      rcases Nat.lt_or_eq_of_le hi with e | e
      · exact h3 i (Nat.le_of_lt_succ e)
      · rw [e]; exact h0 _ _ q
theorem best_snd (ha : At c ρ σ s) {a : Nat} {ns : List Int} (hσ : σ a = some (.list (ns.map .int))) (hne : ns ≠ []) {le : Int → Int → Prop} {bt : Int → Int → Bool} (hr : ∀ i, le i i) (ht : ∀ i j k, le i j → le j k → le i k) (h1 : ∀ i j, bt i j = true → le j i) (h0 : ∀ i j, bt i j = false → le i j)
    (h : ∀ m ∈ ns, (∀ x ∈ ns, le x m) → Q (.int m) σ) {P : Prop}
    (k : ∀ xs : Array (Int × Tok), s.heap.IsList a (intItems xs) → 0 < xs.size → (∀ v h' tk, (intItems xs)[argBest (fun i j => bt (numAt xs i) (numAt xs j)) (xs.size - 1)]? = some v → (∀ b o, s.heap.get? b = some o → h'.get? b = some o) → Good c ρ Q v { s with heap := h', toks := tk }) → P) : P :=
  ha.list hσ fun vs n q1 q2 hsz q3 => by
    obtain ⟨xs, e1, e2⟩ := q2.items
    have hv : vs = intItems xs.toArray := by
      apply Array.toList_inj.mp
      rw [e1, intItems, Array.toList_map]
    have hl : xs.length = ns.length := by rw [← e2, List.length_map]
    have hp : 0 < ns.length := List.length_pos_iff.mpr hne
    rw [hv] at q1
    refine k xs.toArray ⟨_, q1, rfl, n, rfl⟩ (by rw [List.size_toArray]; lia) fun v h' tk hv' hk => ?_
    obtain ⟨b1, b2⟩ := best_at (bt := fun i j => bt (numAt xs.toArray i) (numAt xs.toArray j)) (le := fun i j => le (numAt xs.toArray i) (numAt xs.toArray j)) (fun o' => hr _) (fun o' o' o' => ht _ _ _) (fun o' o' => h1 _ _) (fun o' o' => h0 _ _) (xs.toArray.size - 1)
    have at_ : ∀ i, (hi : i < ns.length) → numAt xs.toArray i = ns[i] := fun i hi => by
      unfold numAt
      rw [List.getElem?_toArray, ← List.getElem?_map, e2, List.getElem?_eq_getElem hi]; rfl
    obtain ⟨t, rfl⟩ := intItems_at hv'
    rw [List.size_toArray, hl] at b1 b2
    rw [List.size_toArray, hl] at *
    have hb : argBest (fun i j => bt (numAt xs.toArray i) (numAt xs.toArray j)) (ns.length - 1) < ns.length := by lia
    refine good_val (ha.grow (s' := { s with heap := h', toks := tk }) hk) rfl (h _ (by rw [at_ _ hb]; exact List.getElem_mem hb) fun x hx => ?_)
    obtain ⟨i, hi, rfl⟩ := List.getElem_of_mem hx
    rw [← at_ i hi]
    exact b2 i (by lia)
theorem bcall_snd (hc : CxOk c) (hh : c.hd = false) (ha : At c ρ σ s) (f : BI) {vals : List Value} {vs : List Val} (hv : VsR vals vs) (h : bcallW f vs σ Q) :
    wpAny (model c.G.prog c.G.w) c.A (PySem.call f.val vals) (Good c ρ Q) E s := by
  have hA := hc.handled hh
  cases f with
  | len =>
    replace h := ref1_inv h
    obtain ⟨a, rfl, h⟩ := h
    rw [one_ref hv]
    split at h
    · rename_i xs hσ
      exact ha.list hσ fun vs n h1 h2 hl h3 => len_list ⟨_, h1, rfl, n, rfl⟩ (by lia) (by rw [hl]; exact good_int ha h)
    · rename_i xs hσ
      exact ha.tup hσ fun vs n h1 h2 hl h3 => PyProof.Rows.len_tuple ⟨_, h1, rfl, n, rfl⟩ (by lia) (by rw [hl]; exact good_int ha h)
    · exact h.elim
  | all =>
    replace h := ref1_inv h
    obtain ⟨a, rfl, h⟩ := h
    obtain ⟨xs, hσ, bs, rfl, h⟩ := onL_inv h
    rw [one_ref hv]
    refine ha.list hσ fun vs n h1 h2 hsz h3 => ?_
    rw [List.length_map] at hsz
    have hL : s.heap.IsList a vs := ⟨_, h1, rfl, n, rfl⟩
    have hbs := h2.bools
    refine call_all_walk (wpAny_pyIter_list hL ⟨s.heap.objs.size, [s.heap.objs.size, _], [s.heap.objs.size], vs.size, _, _, fun i => (bs[i]?).getD true, rfl, Walks.list (A := c.A.in1) hA _ _ (Nat.ne_of_lt (Heap.lt_size h1)) vs,
      ⟨⟨_, Heap.get?_push_size _ rfl, rfl, rfl⟩, hL.push _⟩, fun i v s' Q' E' hP hQ => ?_, fun h' tk hk => ?_⟩)
    · have hi : vs.toList[i]? = some v := by rw [Array.getElem?_toList]; exact hP
      rw [hbs, List.getElem?_map] at hi
      obtain ⟨b, q, rfl⟩ := Option.map_eq_some_iff.mp hi
      simp only [q, Option.getD_some] at hQ
      exact wpAny_truthy_bool hQ
    · rw [hsz]
      rw [← range_getD bs, List.all_map] at h
      exact good_val (ha.grow fun b o e => hk b o (fun hm => by rw [List.mem_singleton.mp hm] at e; exact Nat.lt_irrefl _ (Heap.lt_size e)) (Heap.get?_push_of_some _ e)) rfl h
  | list =>
    replace h := ref1_inv h
    obtain ⟨a, rfl, h⟩ := h
    obtain ⟨xs, hσ, h⟩ := onL_inv h
    rw [one_ref hv]
    exact ha.list hσ fun vs n h1 h2 hl h3 => call_list_seq _ (.inl rfl) h1 rfl rfl (fun h' c' hk ho => ha.new hk ho (ob := .list xs) ⟨_, _, rfl, h2, h3⟩ h) (by simp only [sizeLine]; lia)
  | range =>
    cases vs with
    | nil => exact h.elim
    | cons V r' => cases r' with
      | nil =>
        replace h := onI_inv h
        obtain ⟨n, rfl, h⟩ := h
        refine one_val hv fun v e hv => ?_
        rw [e]
        obtain ⟨t, rfl⟩ := vval_int hv
        exact call_range_1 (⟨_, _, rfl, (ha.tok _).alloc (s := { s with toks := s.toks + 1 + 1 }) (a := s.heap.objs.size) (ob := .range 0 n) ha.size_none (fun o' o' e => Heap.get?_push_of_some _ e) (Heap.get?_push_size _ rfl) ⟨⟨by decide, by decide, h.1, h.2.1⟩, _, _, _, rfl⟩, h.2.2 _ (ha.none_of_fresh ha.size_none)⟩)
      | cons W r' =>
       cases r' with
       | cons _ _ => exact h.elim
       | nil =>
        replace h := int2_inv h
        obtain ⟨a, b, rfl, rfl, h⟩ := h
        cases vals with
        | nil => exact nomatch hv
        | cons v r =>
          have hv := VsR.cons.mp hv
          obtain ⟨t, rfl⟩ := vval_int hv.1
          refine one_val hv.2 fun v' e hv' => ?_
          rw [e]
          obtain ⟨t', rfl⟩ := vval_int hv'
          exact call_range_2 (⟨_, _, rfl, (ha.tok _).alloc (s := { s with toks := s.toks + 1 }) (a := s.heap.objs.size) (ob := .range a b) ha.size_none (fun o' o' e => Heap.get?_push_of_some _ e) (Heap.get?_push_size _ rfl) ⟨⟨h.1, h.2.1, h.2.2.1, h.2.2.2.1⟩, _, _, _, rfl⟩, h.2.2.2.2 _ (ha.none_of_fresh ha.size_none)⟩)
  | min =>
    cases vs with
    | nil => exact h.elim
    | cons V r' => cases r' with
      | nil => exact h.elim
      | cons W r' =>
       cases r' with
       | cons _ _ => exact h.elim
       | nil =>
        replace h := int2_inv h
        obtain ⟨a, b, rfl, rfl, h⟩ := h
        cases vals with
        | nil => exact nomatch hv
        | cons v r =>
          have hv := VsR.cons.mp hv
          obtain ⟨t, rfl⟩ := vval_int hv.1
          refine one_val hv.2 fun v' e hv' => ?_
          rw [e]
          obtain ⟨t', rfl⟩ := vval_int hv'
          refine min_two_ints hA fun h' tk hk => ?_
          have a' : At c ρ σ { s with heap := h', toks := tk } := ha.grow hk
          split
          · rename_i q; exact good_val a' rfl (by rw [show min a b = b by lia] at h; exact h)
          · rename_i q; exact good_val a' rfl (by rw [show min a b = a by lia] at h; exact h)
  | max =>
    cases vs with
    | nil => exact h.elim
    | cons V r' => cases r' with
      | nil =>
        cases V with
        | ref a =>
          replace h := onL_inv h
          obtain ⟨xs, hσ, ns, rfl, hne, h⟩ := h
          rw [one_ref hv]
          exact best_snd ha hσ hne (le := (· ≤ ·)) (bt := fun i j => decide (i > j)) (fun i => Int.le_refl i) (fun i j k => Int.le_trans) (fun i j q => Int.le_of_lt (of_decide_eq_true q)) (fun i j q => Int.not_lt.mp (of_decide_eq_false q)) h fun xs hL hp k => max_intList hA hL hp k
        | none => exact h.elim
        | bool _ => exact h.elim
        | int _ => exact h.elim
        | str _ => exact h.elim
      | cons W r' =>
       cases r' with
       | cons _ _ => exact h.elim
       | nil =>
        replace h := int2_inv h
        obtain ⟨a, b, rfl, rfl, h⟩ := h
        cases vals with
        | nil => exact nomatch hv
        | cons v r =>
          have hv := VsR.cons.mp hv
          obtain ⟨t, rfl⟩ := vval_int hv.1
          cases r with
          | nil => exact nomatch hv.2
          | cons v' r =>
            have hv2 := VsR.cons.mp hv.2
            obtain ⟨t', rfl⟩ := vval_int hv2.1
            rw [hv2.2.nil_right]
            refine max_two_ints hA fun h' tk hk => ?_
            have a' : At c ρ σ { s with heap := h', toks := tk } := ha.grow hk
            split
            · rename_i q; exact good_val a' rfl (by rw [show max a b = b by lia] at h; exact h)
            · rename_i q; exact good_val a' rfl (by rw [show max a b = a by lia] at h; exact h)
  | sorted =>
    replace h := ref1_inv h
    obtain ⟨a, rfl, h⟩ := h
    obtain ⟨xs, hσ, h⟩ := onL_inv h
    rw [one_ref hv]
    exact sort2_snd hA ha hσ h
  | int => exact int_snd ha hv h
theorem boot_BI (f : BI) : bootBuiltins (Str.ofString f.py) = some f.val := by
  cases f
  · exact PyProof.Rows.Boot.«len»
  · exact PyProof.Rows.Boot.«all»
  · exact PyProof.Rows.Boot.«list»
  · exact PyProof.Rows.Boot.«range»
  · exact PyProof.Rows.Boot.«min»
  · exact PyProof.Rows.Boot.«max»
  · exact PyProof.Rows.Boot.«int»
  · exact PyProof.Rows.Boot.«sorted»
theorem callWith_BI {M : Model} {A : Around} {pos : Pos} (f : BI) {args : List (Bool × Sem Value)} {Q : Value → Shared → Prop} (hp : args.any (·.1) = false)
    (h : wpAny M A (spliced args) (fun vs s₁ => wpAny M A (PySem.call f.val vs) Q E s₁) E s) : wpAny M A (callWith pos f.val [] args []) Q E s := by
  cases f <;> first
    | exact Calls.callWith_builtin hp (evalArgs_any hp h)
    | exact PySem.callWith_type hp (evalArgs_any hp h)
theorem free_of (c : Cx) (f : BI) : c.G.mg (Str.ofString f.py) = none := c.G.free _ (by cases f <;> decide)
end
theorem snd_bcall {f : BI} {as : List Ex} (h1 : SndEs as) : SndE (.bcall f as) := fun c ρ σ s Q e hc ha hm hw => isC_of hm fun as' pos q hm => by
  have hm := and2 hm
  show wpAny _ _ (do callWith pos (← eval (.Name (Str.ofString f.py) _) c.env) [] (backTo pos (starEach as' c.env)) []) _ _ _
  refine wpAny_bind (load_blt ha hm.1 (free_of c f) (by cases f <;> decide) (boot_BI f) ?_)
  refine callWith_BI f (by rw [backTo_any]; exact (starEach_len _ _ _ c.env hm.2).1) (gl (h1 c ρ σ s _ _ pos hc ha hm.2 hw) fun vals vs σ₁ s₁ hvs ha₁ h4 => ?_)
  rcases h4.1 with hh | rfl
  · exact bcall_snd hc hh ha₁ f hvs h4.2
  · exact int_snd ha₁ hvs h4.2
end BP

namespace BP
open PySem PyProof.Rows
noncomputable def Ty.plain : Ty → Bool | .own _ => false | .valueError => false | _ => true
section
variable {c : Cx} {ρ : Loc} {σ : Sto} {s : Shared} {Q : KV} {E : Value → Shared → Prop}
theorem isi_snd (ha : At c ρ σ s) {v : Value} {V : Val} (hv : vval v = some V) {t : Ty} (hp : t.plain = true) {K : Bool → Prop} {R : Value → Shared → Prop} (hR : ∀ b n, K b → R (.bool b) { s with toks := n }) (h : isiW V t σ K) :
    wpAny (model c.G.prog c.G.w) c.A (PySem.call (.builtin "isinstance") [v, .type t.py]) R E s := by
  cases V with
  | none =>
    rw [vval_none hv]
    cases t with
    | list => exact IsiPair.NoneType_list (hR false _ h)
    | int => exact IsiPair.NoneType_int (hR false _ h)
    | bool => exact IsiPair.NoneType_bool (hR false _ h)
    | tuple => exact IsiPair.NoneType_tuple (hR false _ h)
    | own _ => cases hp
    | valueError => cases hp
  | bool b =>
    rw [vval_bool hv]
    cases t with
    | list => exact IsiPair.bool_list (hR false _ h)
    | int => exact IsiPair.bool_int (hR true s.toks h)
    | bool => exact IsiPair.bool_bool (hR true s.toks h)
    | tuple => exact IsiPair.bool_tuple (hR false _ h)
    | own _ => cases hp
    | valueError => cases hp
  | int i =>
    obtain ⟨u, rfl⟩ := vval_int hv
    cases t with
    | list => exact IsiPair.int_list (hR false _ h)
    | int => exact IsiPair.int_int (hR true s.toks h)
    | bool => exact IsiPair.int_bool (hR false _ h)
    | tuple => exact IsiPair.int_tuple (hR false _ h)
    | own _ => cases hp
    | valueError => cases hp
  | str _ => exact h.elim
  | ref a =>
    rw [vval_ref hv]
    unfold isiW at h
    dsimp only at h
    split at h
    · rename_i xs hσ
      refine ha.list hσ fun vs n h1 h2 o' h3 => ?_
      cases t with
      | list => exact IsiPair.list_list h1 rfl (hR true s.toks h)
      | int => exact IsiPair.list_int h1 rfl (hR false _ h)
      | bool => exact IsiPair.list_bool h1 rfl (hR false _ h)
      | tuple => exact IsiPair.list_tuple h1 rfl (hR false _ h)
        | own _ => cases hp
      | valueError => cases hp
    · rename_i xs hσ
      refine ha.tup hσ fun vs n h1 h2 o' h3 => ?_
      cases t with
      | list => exact IsiPair.tuple_list h1 rfl (hR false _ h)
      | int => exact IsiPair.tuple_int h1 rfl (hR false _ h)
      | bool => exact IsiPair.tuple_bool h1 rfl (hR false _ h)
      | tuple => exact IsiPair.tuple_tuple h1 rfl (hR true s.toks h)
        | own _ => cases hp
      | valueError => cases hp
    · exact h.elim
theorem ve_base : XBase "ValueError" veMro where
  toExcAttrBase := PySem.F.attrBase_ValueError
  hasObj := by decide +kernel
  lkClass := by rw [typeLookup_type, builtinLookup_eq_fast]; kernel_rfl
theorem isx_inv {v : Val} {f : String → Bool} {K : Bool → Prop} (h : isxW v σ f K) : ∃ a cl, v = .ref a ∧ σ a = some (.exc cl) ∧ K (f cl) := by
  unfold isxW at h
  split at h
  · split at h
    · rename_i a _ cl hσ; exact ⟨a, cl, rfl, hσ, h⟩
    · exact h.elim
  · exact h.elim
theorem isx_own_snd (ha : At c ρ σ s) {v : Value} {V : Val} (hv : vval v = some V) {d : String} {D : Addr} (hD : c.G.exc d = some D) {K : Bool → Prop} {R : Value → Shared → Prop} (hR : ∀ b n, K b → R (.bool b) { s with toks := n }) (h : isxW V σ (fun c => excSub c d) K) :
    wpAny (model c.G.prog c.G.w) c.A (PySem.call (.builtin "isinstance") [v, .ref D]) R E s := by
  obtain ⟨a, cl, rfl, hσ, h⟩ := isx_inv h
  rw [vval_ref hv]
  obtain ⟨_, o, ho, C, vs, hC, hcls, hdat⟩ := ha.sto a _ hσ
  obtain ⟨_, bm, X, hsub⟩ := c.G.excOk cl C hC
  obtain ⟨_, bmD, XD, _⟩ := c.G.excOk d D hD
  have X' := X.keeps ha.stays
  have XD' := XD.keeps ha.stays
  have hs := hsub d D hD
  obtain ⟨hh, g, dr, t, os⟩ := s
  refine PyProof.Rows.call_isinstance_of ?_
  cases q : excSub cl d with
  | true => rw [q] at hs h; exact nested_x_own_yes X' XD' ho hcls hs (hR true t h)
  | false => rw [q] at hs h; exact nested_x_own_no ve_base X' XD' ho hcls hs (hR false (t + 1) h)
theorem isx_ve_snd (ha : At c ρ σ s) {v : Value} {V : Val} (hv : vval v = some V) {K : Bool → Prop} {R : Value → Shared → Prop} (hR : ∀ b n, K b → R (.bool b) { s with toks := n }) (h : isxW V σ (fun o' => true) K) :
    wpAny (model c.G.prog c.G.w) c.A (PySem.call (.builtin "isinstance") [v, .type "ValueError"]) R E s := by
  obtain ⟨a, cl, rfl, hσ, h⟩ := isx_inv h
  rw [vval_ref hv]
  obtain ⟨_, o, ho, C, vs, hC, hcls, hdat⟩ := ha.sto a _ hσ
  obtain ⟨_, bm, X, hsub⟩ := c.G.excOk cl C hC
  have X' := X.keeps ha.stays
  have hs : (Value.ref C :: bm).contains (.type "ValueError") = true := by
    obtain ⟨N, nm, q, bs, hdct, sn, sub, ab, col, dd, k0, k1, k2, k3, k5, mN, hC, hN, hmN, T⟩ := X
    rw [List.contains_cons, T.tail.hasType (b := true) (by decide +kernel)]; rfl
  obtain ⟨hh, g, dr, t, os⟩ := s
  exact PyProof.Rows.call_isinstance_of (nested_x_type_yes X' ho hcls (by kernel_rfl) hs (hR true t h))
theorem boot_Ty (t : Ty) (h : t.plain = true) : bootBuiltins (Str.ofString t.py) = some (.type t.py) ∧ t.py ∈ bNames ∧ Str.ofString t.py ≠ "__name__" := by
  cases t
  · exact ⟨PyProof.Rows.Boot.«list», by decide, by decide⟩
  · exact ⟨PyProof.Rows.Boot.«int», by decide, by decide⟩
  · exact ⟨PyProof.Rows.Boot.«bool», by decide, by decide⟩
  · exact ⟨PyProof.Rows.Boot.«tuple», by decide, by decide⟩
  · cases h
  · cases h
end
theorem snd_isi {x : Ex} {t : Ty} (h1 : SndE x) : SndE (.isi x t) := fun c ρ σ s Q e hc ha hm hw => mE_isi hm fun e' p q r g1 g2 hm => by
  show wpAny _ _ (do callWith p (← eval (.Name (Str.ofString "isinstance") q) c.env) [] (backTo p (starEach [e', .Name (Str.ofString t.py) r] c.env)) []) _ _ _
  refine wpAny_bind (load_blt ha g1 (c.G.free "isinstance" (by decide)) (by decide) PyProof.Rows.Boot.«isinstance» ?_)
  rw [starEach_plain hm]
  refine Calls.callWith_builtin rfl (Calls.evalArgs_plain ?_)
  show wpAny _ _ (spliced ((false, eval e' c.env) :: [(false, eval (.Name (Str.ofString t.py) r) c.env)])) _ _ _
  refine Calls.spliced_cons (gb (h1 c ρ σ s _ _ hc ha hm hw) fun v V σ₁ s₁ hV ha₁ hw₁ => ?_)
  have plain : t.plain = true → isiW V t σ₁ (fun b => Q (.bool b) σ₁) → wpAny (model c.G.prog c.G.w) c.A (spliced [(false, eval (.Name (Str.ofString t.py) r) c.env)]) (fun vs s₂ => wpAny (model c.G.prog c.G.w) c.A (PySem.call (.builtin "isinstance") (v :: vs)) (Good c ρ Q) (Er c) s₂) (Er c) s₁ := fun hp hw₁ =>
    let ⟨b1, b2, b3⟩ := boot_Ty t hp
    Calls.spliced_cons (load_blt ha₁ g2 (c.G.free t.py b2) b3 b1 (Calls.spliced_nil (isi_snd ha₁ hV hp (fun b n hb => ⟨_, σ₁, rfl, ha₁.tok n, hb⟩) hw₁)))
  cases t with
  | valueError => exact Calls.spliced_cons (load_blt ha₁ g2 (c.G.free "ValueError" (by decide)) (by decide) PyProof.Rows.Boot.«ValueError» (Calls.spliced_nil (isx_ve_snd ha₁ hV (fun b n hb => ⟨_, σ₁, rfl, ha₁.tok n, hb⟩) hw₁)))
  | own d =>
    obtain ⟨hx, hw₁⟩ := hw₁
    obtain ⟨D, hD⟩ := Option.isSome_iff_exists.mp (show (c.G.exc d).isSome = true from hx)
    exact Calls.spliced_cons (load_glob ha₁ g2 (c.G.excOk d D hD).1 (Calls.spliced_nil (isx_own_snd ha₁ hV hD (fun b n hb => ⟨_, σ₁, rfl, ha₁.tok n, hb⟩) hw₁)))
  | list => exact plain rfl hw₁
  | int => exact plain rfl hw₁
  | bool => exact plain rfl hw₁
  | tuple => exact plain rfl hw₁
noncomputable def ME.id : ME → String
  | .append => "list.append" | .clear => "list.clear" | .extend => "list.extend"
section
variable {c : Cx} {ρ : Loc} {σ : Sto} {s : Shared} {Q : KV} {E : Value → Shared → Prop}
theorem upd_list (ha : At c ρ σ s) {a : Nat} {xs ys : List Val} {vs : Array Value} {n tk : Nat} {f : Array Value → Array Value} (hσ : σ a = some (.list xs)) (h1 : s.heap.get? a = some ⟨.type "list", none, .seq vs n, #[]⟩)
    (h2 : VsR (f vs).toList ys) (h3 : ys.length ≤ 2 * lim) : At c ρ (σ.set a (.list ys)) { s with heap := s.heap.update a (Obj.mapSeq f), toks := tk } := by
  refine ha.update hσ (fun b o hb e => (Heap.get?_update_other _ _ (Ne.symm hb)).trans e) (Heap.get?_update_self _ h1 rfl) ⟨_, _, rfl, h2, h3⟩
theorem meth_snd (hc : CxOk c) (ha : At c ρ σ s) (m : ME) {v : Value} {V : Val} (hv : vval v = some V) {vals : List Value} {vs : List Val} (hvs : VsR vals vs) (h : methW m V vs σ Q) :
    wpAny (model c.G.prog c.G.w) c.A (PySem.call (.builtin m.id) (v :: vals)) (Good c ρ Q) E s := by
  cases V with
  | none => exact h.elim
  | bool _ => exact h.elim
  | int _ => exact h.elim
  | str _ => exact h.elim
  | ref a =>
    replace h := onL_inv h
    obtain ⟨xs, hσ, h⟩ := h
    rw [vval_ref hv]
    refine ha.list hσ fun ws n h1 h2 hl h3 => ?_
    cases m with
    | append =>
      cases vs with
      | nil => exact h.elim
      | cons x r' =>
       cases r' with
       | cons _ _ => exact h.elim
       | nil =>
        refine one_val hvs fun y e hy => ?_
        rw [e]
        have h4 : xs.length < 1000000 := h.1
        refine wpAny_list_append_plain ⟨n, h1⟩ (fun h' hp hs => ?_) (by simp only [sizeLine]; lia)
        obtain ⟨k, hk⟩ := hp
        refine ⟨_, _, rfl, ha.update hσ (fun b o hb e => hs.extBut b o hb e) hk (ob' := .list (xs ++ [_])) ⟨_, _, rfl, ?_, ?_⟩, h.2⟩
        · rw [Array.toList_push]; exact h2.append (VsR.cons.mpr ⟨hy, rfl⟩)
        · simp only [List.length_append, List.length_cons, List.length_nil, lim]; lia
    | clear =>
      obtain ⟨rfl, h⟩ := h
      rw [hvs.nil_right]
      exact call_meets F.slot_list_clear ⟨_, h1, rfl⟩ F.entry_list_clear (F.args_list_clear_1 _) (AutoSeq1.list_clear_list_0 a ws n (by simp only [sizeLine]; lia)) ⟨h1, ⟨_, _, rfl, upd_list (tk := s.toks) (f := fun o' => #[]) (ys := []) ha hσ h1 rfl (Nat.zero_le _), h⟩⟩
    | extend =>
      replace h := ref1_inv h
      obtain ⟨b, rfl, h⟩ := h
      replace h := onL_inv h
      obtain ⟨ys, hσ', h4, h⟩ := h
      rw [one_ref hvs]
      refine ha.list hσ' fun us m g1 g2 hl' g3 => ?_
      have h4 : xs.length + ys.length ≤ 1000000 := h4
      refine call_meets F.slot_list_extend ⟨_, h1, rfl⟩ F.entry_list_extend (F.args_list_extend_2 _ _) (AutoSeq1.list_extend_list_list_0 _ ws n _ us m ?_ (by simp only [sizeLine]; lia) (by simp only [sizeLine]; lia)) ⟨h1, g1, ?_⟩
      · rw [show Builtin.List.listTooLong (ws.size + us.size) = false from decide_eq_false (by simp only [sizeLine]; lia)]; simp
      · refine ⟨_, _, rfl, upd_list (f := fun x => x ++ us) (ys := xs ++ ys) ha hσ h1 ?_ ?_, h⟩
        · rw [Array.toList_append]; exact h2.append g2
        · simp only [List.length_append, lim]; lia
theorem attrBase_plain {o : PySem.Expr} (h : plainBase o = true) (n : Str) (env : Env) (whole : Sem Value) : attributeBase o n env whole = whole := by
  cases o <;> first | rfl | exact Bool.noConfusion h
theorem getMethod_snd (ha : At c ρ σ s) {m : ME} {v : Value} {V : Val} (hv : vval v = some V) (h : methOn V σ) {pl : Sem Bool} {R : Value × List Value → Shared → Prop} (hR : R (.builtin m.id, [v]) s) : wpAny (model c.G.prog c.G.w) c.A (getMethod v (Str.ofString m.py) pl) R E s := by
  obtain ⟨a, xs, rfl, hσ⟩ := h
  rw [vval_ref hv] at hR ⊢
  refine ha.list hσ fun vs n h1 o' o' o' => ?_
  have hd' : ∀ b, Value.ref a = .ref b → ∃ ob, s.heap.get? b = some ob ∧ ob.dict = none := fun b e => by cases e; exact ⟨_, h1, rfl⟩
  cases m
  · exact getMethod_builtin (T := "list") ⟨_, h1, rfl⟩ F.plainAttrs_list F.slot_list_append F.type_list_append hd' hR
  · exact getMethod_builtin (T := "list") ⟨_, h1, rfl⟩ F.plainAttrs_list F.slot_list_clear F.type_list_clear hd' hR
  · exact getMethod_builtin (T := "list") ⟨_, h1, rfl⟩ F.plainAttrs_list F.slot_list_extend F.type_list_extend hd' hR
end
theorem snd_meth {o : Ex} {m : ME} {as : List Ex} (h1 : SndE o) (h2 : SndEs as) : SndE (.meth o m as) := fun c ρ σ s Q e hc ha hm hw => mE_meth hm fun o' as' pos ap hm1 hm2 hp hline hlen => by
  have hstar := starEach_len _ _ _ c.env hm2
  have hany : (backTo pos (starEach as' c.env)).any (·.1) = false := by rw [backTo_any]; exact hstar.1
  unfold EvG
  rw [arm_eval_Call, attrBase_plain hp]
  refine wpAny_bind (gb (h1 c ρ σ s _ _ hc ha hm1 hw) fun v V σ₁ s₁ hV ha₁ hw₁ => ?_)
  obtain ⟨hon, hw₁⟩ := hw₁
  refine wpAny_bind (wpAny_standAt ?_)
  have hform : methodCallForm (as'.length + ([] : List Keyword).length) (backTo pos (starEach as' c.env)) (backToKw pos (keywordEach [] c.env)) = true := by
    simp only [methodCallForm, Bool.and_eq_true, decide_eq_true_eq]
    refine ⟨⟨?_, rfl⟩, ?_⟩
    · rw [List.all_eq_not_any_not]; simpa using hany
    · have : (backToKw pos (keywordEach [] c.env)).isEmpty = true := rfl
      rw [this]; simp only [if_true, List.length_nil]; lia
  unfold methodCall
  rw [hform]
  refine wpAny_bind (wpAny_holding ?_)
  unfold calleeOf
  simp only [if_true]
  refine getMethod_snd ha₁ hV hon ?_
  have hpos : methodCallPos true o' c.env ap pos = pure pos := by
    unfold methodCallPos
    simp [hline]
  rw [hpos]
  refine wpAny_bind (wpAny_pure ?_)
  exact Calls.callWith_builtin hany (evalArgs_any hany (gl (h2 c ρ σ₁ s₁ _ _ pos hc ha₁ hm2 hw₁) fun vals ws σ₂ s₂ hvs ha₂ h4 => meth_snd hc ha₂ m hV hvs h4))
end BP

namespace BP
open PySem PyProof.Rows
section
variable {c : Cx} {ρ : Loc} {σ : Sto} {s : Shared} {Q : KV} {E : Value → Shared → Prop}
theorem isStr_iff (a b : String) (t : Nat) : (Value.str (Str.ofString a) t).isStr (Str.ofString b) = decide (a = b) := by
  by_cases h : a = b
  · subst h; simp [Value.isStr]
  · have : Str.ofString a ≠ Str.ofString b := fun q => h (ofString_inj q)
    simp [Value.isStr, h, this]
theorem AttR.get {es : List DictEntry} {fs : List (String × Val)} (h : AttR es fs) {a : String} {V : Val} (hl : fs.lookup a = some V) : ∃ v, W.getL (Str.ofString a) es = some (some v) ∧ vval v = some V := by
  have : ∃ e, es.find? (·.key.isStr (Str.ofString a)) = some e ∧ vval e.val = some V := by
    induction h with
    | nil => simp at hl
    | @cons e es b W fs hk hv _ ih =>
      obtain ⟨t, hk⟩ := hk
      rw [List.lookup_cons] at hl
      by_cases q : a = b
      · subst q
        simp at hl
        exact ⟨e, by rw [List.find?_cons, hk, isStr_iff]; simp, by rw [hv, hl]⟩
      · have hb : (a == b) = false := by simpa using q
        rw [hb] at hl
        obtain ⟨e', h1, h2⟩ := ih hl
        refine ⟨e', ?_, h2⟩
        rw [List.find?_cons, hk, isStr_iff, show decide (b = a) = false from by simpa using fun h => q h.symm]
        exact h1
  obtain ⟨e, h1, h2⟩ := this
  exact ⟨e.val, by simp [W.getL, h1], h2⟩
theorem instAt_of (ha : At c ρ σ s) {a dx : Nat} {cl : String} {fs : List (String × Val)} (h1 : σ a = some (.inst cl dx)) (h2 : σ dx = some (.attrs fs)) :
    ∃ C es n, c.G.cls cl = some C ∧ W.InstAt s.heap a ⟨.ref C, some dx, .plain, #[]⟩ C (some (W.dictOf es n)) ∧ AttR es fs ∧ fs.length ≤ 100 := by
  refine Classical.byContradiction fun hG => ?_
  obtain ⟨_, o, ho, C, hC, rfl⟩ := ha.sto a _ h1
  obtain ⟨_, o', ho', es, n, rfl, hr, hl⟩ := ha.sto dx _ h2
  refine hG ?_
  clear hG
  exact ⟨C, es, n, hC, ⟨ho, rfl, rfl, ho'⟩, hr, hl⟩
theorem vval_handed {v : Value} {V : Val} (h : vval v = some V) : W.handedIn v = true := by cases v <;> first | rfl | (simp [vval] at h)
theorem kin_at (ha : At c ρ σ s) : c.G.K.In s.heap := c.G.kin.keeps ha.stays
theorem attr_snd (ha : At c ρ σ s) {v : Value} {V : Val} (hv : vval v = some V) {a : String} {expr : Bool} (h : attrW V a σ Q) :
    wpAny (model c.G.prog c.G.w) c.A (getAttr v (Str.ofString a) expr) (Good c ρ Q) E s := by
  unfold attrW at h
  obtain ⟨hin, h⟩ := h
  split at h
  · rw [vval_ref hv]
    split at h
    · rename_i cl dx h1
      split at h
      · rename_i fs h2
        split at h
        · rename_i y hy
          refine Classical.byContradiction fun hG => ?_
          obtain ⟨C, es, n, hC, hI, hr, _⟩ := instAt_of ha h1 h2
          obtain ⟨k1, k2, k3, k4, k5⟩ := c.G.clsOk _ _ hC
          obtain ⟨v, g1, g2⟩ := hr.get hy
          refine hG ?_
          clear hG
          simp only [W.plainGet, Bool.and_eq_true, beq_iff_eq] at k1
          exact W.get_value (kin_at ha) hI k1.1 (W.findObj_own k2 (k5 a hin) rfl g1) (vval_handed g2) ⟨_, σ, g2, ha.tok _, h⟩
        · exact h.elim
      · exact h.elim
    · exact h.elim
  · exact h.elim
end
theorem snd_attr {o : Ex} {a : String} (h1 : SndE o) : SndE (.attr o a) := fun c ρ σ s Q e hc ha hm hw => mE_attr hm fun o' pos hm1 hpb => by
  unfold EvG
  rw [arm_eval_Attribute, attrBase_plain hpb]
  exact wpAny_bind (gb (h1 c ρ σ s _ _ hc ha hm1 hw) fun v V σ₁ s₁ hV ha₁ hw₁ => wpAny_bind (wpAny_standAt (wpAny_bind (wpAny_holding (wpAny_mono (attr_snd (E := Er c) ha₁ hV hw₁) (fun r s₂ h₂ => wpAny_bind (wpAny_letTemporaryGo (wpAny_pure h₂))) fun o' o' h => h)))))
theorem snd_dict0 : SndE .dict0 := fun c ρ σ s Q e hc ha hm hw => on_of (k := 15) hm rfl fun v hm => by
  have e1 : v.dk = [] := List.isEmpty_iff.mp (and2 hm).1
  have e2 : v.es = [] := List.isEmpty_iff.mp (and2 hm).2
  show wpAny _ _ (eval (.Dict v.dk v.es v.p) c.env) _ _ _
  rw [e1, e2]
  rw [eval_Dict_empty]
  refine wpAny_bind (wpAny_standAt (wpAny_newObj_type ?_))
  rcases hw with hw | hw
  · exact ha.push (ob := .idict 0 []) ⟨⟨rfl, rfl, rfl⟩, ⟨#[], [], rfl, fun e he => by simp at he, .nil, rfl⟩, .nil, Nat.zero_le _⟩ rfl hw
  · exact ha.push (ob := .tdict 0 []) ⟨⟨rfl, rfl, rfl⟩, ⟨#[], [], rfl, rfl, rfl⟩, .nil, Nat.zero_le _⟩ rfl hw
end BP

namespace BP
open PySem PyProof.Rows
noncomputable def plainN (n : Nat) : Bool := n != 0 && n != 1 && n != 3 && n != 5 && n != 14
noncomputable def plainT (ex : Ex) : Bool := plainN (kp ex + 1)
theorem isTrue_plain {ex : Ex} (h : plainT ex = true) (nm : Nms) (e : PySem.Expr) (env : Env) (whole : Sem Value) (hm : mE nm ex e = true) :
    isTrue e env whole = (do let v ← whole; standAt e.pos; holding [v] (truthy v)) := by
  have hk : plainN (vw e).1 = true := (congrArg plainN (mE_kd hm)).trans h
  clear hm h
  cases e <;> first
    | rfl
    | exact Bool.noConfusion hk
theorem isTrue_neg {x : Ex} (nm : Nms) (e : PySem.Expr) (env : Env) (whole : Sem Value) (hm : mE nm (.neg x) e = true) : isTrue e env whole = (do let v ← whole; standAt e.pos; holding [v] (truthy v)) :=
  mE_un (M := fun e => isTrue e env whole = (do let v ← whole; standAt e.pos; holding [v] (truthy v))) (g := fun a => mE nm x a) (o := .USub) hm fun o' o' o' => rfl
theorem sndT_of {ex : Ex} (h : SndE ex) (h1 : plainT ex = true) : SndT ex := sndT_value h (isTrue_plain h1)
theorem both {ex : Ex} (h : SndE ex) (h1 : plainT ex = true := by rfl) : SndE ex ∧ SndT ex := ⟨h, sndT_of h h1⟩
theorem sndEs_of : ∀ es : List Ex, (∀ e ∈ es, SndE e) → SndEs es
  | [], _ => sndEs_nil
  | e :: es, h => sndEs_cons (h e (.head _)) (sndEs_of es fun e' he => h e' (.tail _ he))
mutual
theorem sndE : ∀ ex : Ex, SndE ex ∧ SndT ex
  | .none_ => both snd_none
  | .bool_ b => both (snd_bool b)
  | .int_ i => both (snd_int i)
  | .str_ x => both (snd_str x)
  | .dict0 => both snd_dict0
  | .var x => both (snd_var x)
  | .glob x => both (snd_glob x)
  | .bin op l r => both (snd_bin (sndE l).1 (sndE r).1 (bin_snd op))
  | .not_ e => ⟨snd_not (sndE e).1, sndT_not (sndE e).2⟩
  | .ite c t e => ⟨snd_ite (sndE c).2 (sndE t).1 (sndE e).1, sndT_ite (sndE c).2 (sndE t).2 (sndE e).2⟩
  | .neg e => ⟨snd_neg (sndE e).1, sndT_value (snd_neg (sndE e).1) isTrue_neg⟩
  | .bop _ es => ⟨snd_bop fun e he => (sndAll es e he).1, sndT_bop fun e he => (sndAll es e he).2⟩
  | .cmp _ l r => ⟨snd_cmp (sndE l).1 (sndE r).1, sndT_cmp (sndE l).1 (sndE r).1⟩
  | .cmp2 _ _ l m r => ⟨snd_cmp2 (sndE l).1 (sndE m).1 (sndE r).1, sndT_cmp2 (sndE l).1 (sndE m).1 (sndE r).1⟩
  | .list es => both (snd_list (sndEs_of es fun e he => (sndAll es e he).1))
  | .tup es => both (snd_tup (sndEs_of es fun e he => (sndAll es e he).1))
  | .call f as => both (snd_call (f := f) (sndEs_of as fun e he => (sndAll as e he).1))
  | .bcall f as => both (snd_bcall (f := f) (sndEs_of as fun e he => (sndAll as e he).1))
  | .isi e t => both (snd_isi (t := t) (sndE e).1)
  | .meth o m as => both (snd_meth (m := m) (sndE o).1 (sndEs_of as fun e he => (sndAll as e he).1))
  | .sub o i => both (snd_sub (sndE o).1 (sndE i).1)
  | .slice o lo hi => both (snd_slice (sndE o).1 (sndE lo).1 (sndE hi).1)
  | .attr o a => both (snd_attr (a := a) (sndE o).1)
  | .comp elt k xs it ifs => both (snd_comp (k := k) (xs := xs) (sndE it).1 (sndE elt).1 fun e he => (sndAll ifs e he).2)
theorem sndAll : ∀ es : List Ex, ∀ e ∈ es, SndE e ∧ SndT e
  | [], _, h => nomatch h
  | e :: es, e', h =>
    let h1 := sndE e
    let h2 := sndAll es
    (List.mem_cons.mp h).elim (fun q => q ▸ h1) fun q => h2 e' q
end
end BP

namespace BP
open PySem PyProof.Rows
noncomputable def Owns (c : Cx) : Prop := (∀ b, c.own b ↔ (b = c.env.locals ∨ ∃ x, c.env.cells.lookup x = some b)) ∧ (∃ outer, c.fr = c.env :: outer) ∧ c.env.frame = some c.env.locals
noncomputable def GoodF (c : Cx) (Q : KS) : Flow → Shared → Prop := fun fl s' => ∃ ρ' σ', At c ρ' σ' s' ∧ match fl with
  | .next => Q .next ρ' σ'
  | .ret v => ∃ V, vval v = some V ∧ Q (.ret V) ρ' σ'
  | _ => False
theorem gf {c : Cx} {Q : KS} {M : Model} {A : Around} {E : Value → Shared → Prop} {s : Shared} {m : Sem Flow} {R : Flow → Shared → Prop} (h : wpAny M A m (GoodF c Q) E s)
    (hn : ∀ ρ' σ' s', At c ρ' σ' s' → Q .next ρ' σ' → R .next s') (hr : ∀ v V ρ' σ' s', vval v = some V → At c ρ' σ' s' → Q (.ret V) ρ' σ' → R (.ret v) s') : wpAny M A m R E s :=
  wpAny_mono h (fun fl s' h => let ⟨ρ', σ', a, h⟩ := h; match fl, h with
    | .next, h => hn ρ' σ' s' a h
    | .ret v, h => let ⟨V, hV, h⟩ := h; hr v V ρ' σ' s' hV a h) fun o' o' h => h
noncomputable def ExG (c : Cx) (s : Shared) (Q : KS) (e : PySem.Stmt) : Prop := wpAny (model c.G.prog c.G.w) c.A (exec e c.env) (GoodF c Q) (Er c) s
noncomputable def SndS (st : St) : Prop := ∀ (c : Cx) (ρ : Loc) (σ : Sto) (s : Shared) (Q : KS) (e : PySem.Stmt), CxOk c → Owns c → At c ρ σ s → mS c.env.scope.names st e = true →
  wpS (WF c.G c.d) c.gv st ρ σ Q → ExG c s Q e
noncomputable def SndSs (sts : List St) : Prop := ∀ (c : Cx) (ρ : Loc) (σ : Sto) (s : Shared) (Q : KS) (es : List PySem.Stmt), CxOk c → Owns c → At c ρ σ s → mSs c.env.scope.names sts es = true →
  wpSs (WF c.G c.d) c.gv sts ρ σ Q → wpAny (model c.G.prog c.G.w) c.A (execs es c.env) (GoodF c Q) (Er c) s
section
variable {c : Cx} {ρ : Loc} {σ : Sto} {s : Shared} {E : Value → Shared → Prop}
theorem At.ownUpd (x : At c ρ σ s) {s' : Shared} {b : Addr} (hown : c.own b) (hσ : σ b = none) (hB : c.G.base.get? b = none)
    (hk : ∀ b' o, b' ≠ b → s.heap.get? b' = some o → s'.heap.get? b' = some o) (hb : ∃ o, s'.heap.get? b = some o ∧ ∀ vs, o.data ≠ .fields vs) {ρ' : Loc} (henv : EnvR c.G c.env ρ' σ s'.heap) (ho : s'.os = s.os := by rfl) (hg : s'.gens = s.gens := by rfl) : At c ρ' σ s' := by
  refine ⟨fun b' o e => hk _ _ (fun q => by rw [q, hB] at e; cases e) (x.stays b' o e), ho.trans x.os, hg.trans x.gens, fun a ob e => ?_, henv, ?_, x.frN, fun b' o e h1 h2 => ?_, fun b' o e => ?_, x.fresh⟩
  · refine Classical.byContradiction fun hG => ?_
    obtain ⟨h1, o, h2, h3⟩ := x.sto a ob e
    refine hG ?_
    clear hG
    exact ⟨h1, o, hk _ _ (fun q => by rw [q, hσ] at e; cases e) h2, h3⟩
  · have key : ∀ l : List Env, s.heap.FunFrames c.G.base l → s'.heap.FunFrames c.G.base l := by
      intro l
      induction l with
      | nil => intro _; trivial
      | cons e r ih =>
        rintro ⟨h1, ⟨L, oL, h2, h3, h4, h5⟩, h6⟩
        refine ⟨h1, ?_, ih h6⟩
        by_cases q : L = b
        · obtain ⟨o', g1, g2⟩ := hb
          exact ⟨L, o', h2, h3, q ▸ g1, g2⟩
        · exact ⟨L, oL, h2, h3, hk _ _ q h4, h5⟩
    exact key _ x.frs
  · obtain ⟨o', h3, h4⟩ := x.keep b' o e h1 h2
    exact ⟨o', hk _ _ (fun q => h2 (q ▸ hown)) h3, h4⟩
  · obtain ⟨o', h⟩ := x.alive b' o e
    by_cases q : b' = b
    · obtain ⟨o', g1, _⟩ := hb; exact ⟨o', q ▸ g1⟩
    · exact ⟨o', hk _ _ q h⟩
theorem isVar_kind {x : String} (h : isVar c.env.scope.names x = true) : x ≠ ".0" ∧ (c.env.kindOf (Str.ofString x) = some .local ∨ c.env.kindOf (Str.ofString x) = some .cell) := by
  simp only [isVar, Bool.and_eq_true, bne_iff_ne, ne_eq, Bool.or_eq_true, beq_iff_eq] at h
  exact ⟨h.1.1, h.2⟩
theorem ns_cell {h : Heap} {a : Addr} {m : Str → Option Value} {v : Option Value} (x : h.Ns a m) (y : h.IsCell a v) : False := by
  refine Classical.byContradiction fun hG => ?_
  obtain ⟨o, es, ep, h1, h2, _⟩ := x
  obtain ⟨o', h3, h4⟩ := y
  refine hG ?_
  clear hG
  rw [h1] at h3; cases h3; rw [h2] at h4; cases h4
theorem bind_snd (ha : At c ρ σ s) (hown : Owns c) {x : String} (hx : isVar c.env.scope.names x = true) {v : Value} {V : Val} (hv : vval v = some V) {R : Unit → Shared → Prop}
    (hR : ∀ s', At c (upd ρ x V) σ s' → (∀ b o, ¬ c.own b → s.heap.get? b = some o → s'.heap.get? b = some o) → R () s') :
    wpAny (model c.G.prog c.G.w) c.A (storeName c.env (Str.ofString x) v) R E s := by
  refine Classical.byContradiction fun hG => ?_
  obtain ⟨h0, hk⟩ := isVar_kind hx
  obtain ⟨m, hn, hl⟩ := ha.env.loc
  refine hG ?_
  clear hG
  rcases hk with hk | hk
  · refine wpAny_storeName_local hk hn (fun h' hn' hs' => ?_) (by rw [ha.env.kind]; rfl)
    refine Classical.byContradiction fun hG => ?_
    obtain ⟨oL, es, ep, hoL, hdL, _⟩ := id hn'
    refine hG ?_
    clear hG
    refine hR _ (ha.ownUpd ((hown.1 _).mpr (.inl rfl)) ha.env.locN ha.env.locB (fun b' o hb e => hs'.extBut b' o hb e) ⟨oL, hoL, fun vs q => by rw [hdL] at q; cases q⟩
      ⟨ha.env.kind, ha.env.glob, ha.env.blt, ⟨_, hn', fun y W hy0 hy hW => ?_⟩, ha.env.locN, ha.env.locB, fun y hy => ?_, ha.env.inj⟩) fun b o hb e => hs'.extBut b o (fun q => hb (q ▸ (hown.1 _).mpr (.inl rfl))) e
    · by_cases q : y = x
      · subst q; simp [upd] at hW; subst hW; exact ⟨v, by simp, hv⟩
      · simp only [upd, q, if_false] at hW
        obtain ⟨w, h1, h2⟩ := hl y W hy0 hy hW
        exact ⟨w, by simp only [show ¬ Str.ofString y = Str.ofString x from fun h => q (ofString_inj h), if_false]; exact h1, h2⟩
    · refine Classical.byContradiction fun hG => ?_
      obtain ⟨cc, w, h1, h2, h3, h4, h5⟩ := ha.env.cel y hy
      refine hG ?_
      clear hG
      refine ⟨cc, w, h1, h2.sameBut hs' (fun q => ns_cell hn (q ▸ h2)), h3, h4, fun z W hz hW => ?_⟩
      have : z ≠ x := fun q => by rw [← q, hz, hy] at hk; cases hk
      simp only [upd, this, if_false] at hW
      exact h5 z W hz hW
  · refine Classical.byContradiction fun hG => ?_
    obtain ⟨cc, w, h1, h2, h3, h4, h5⟩ := ha.env.cel _ hk
    refine hG ?_
    clear hG
    refine wpAny_storeName_cell ha.env.kind hk h1 h2 fun h' hc' hs' => ?_
    have hne : c.env.locals ≠ cc := fun q => ns_cell (q ▸ hn) h2
    have hoc : c.own cc := (hown.1 _).mpr (.inr ⟨_, h1⟩)
    obtain ⟨oC, hoC, hdC⟩ := id hc'
    refine hR _ (ha.ownUpd hoc h3 h4 (fun b' o hb e => hs'.extBut b' o hb e) ⟨oC, hoC, fun vs q => by rw [hdC] at q; cases q⟩
      ⟨ha.env.kind, ha.env.glob, ha.env.blt, ⟨m, hn.sameBut hs' hne, fun y W hy0 hy hW => ?_⟩, ha.env.locN, ha.env.locB, fun y hy => ?_, ha.env.inj⟩) fun b o hb e => hs'.extBut b o (fun q => hb (q ▸ hoc)) e
    · have : y ≠ x := fun q => by rw [← q, hy] at hk; cases hk
      simp only [upd, this, if_false] at hW
      exact hl y W hy0 hy hW
    · by_cases q : y = Str.ofString x
      · subst q
        refine ⟨cc, some v, h1, hc', h3, h4, fun z W hz hW => ?_⟩
        have : z = x := ofString_inj hz
        subst this
        simp [upd] at hW; subst hW
        exact ⟨v, rfl, hv⟩
      · refine Classical.byContradiction fun hG => ?_
        obtain ⟨c2, w2, g1, g2, g3, g4, g5⟩ := ha.env.cel y hy
        refine hG ?_
        clear hG
        refine ⟨c2, w2, g1, g2.sameBut hs' (fun e => q (ha.env.inj _ _ _ g1 (e ▸ h1))), g3, g4, fun z W hz hW => ?_⟩
        have : z ≠ x := fun e => q (by rw [← hz, e])
        simp only [upd, this, if_false] at hW
        exact g5 z W hz hW
theorem mE_noComp {nm : Nms} {ex : Ex} {e : PySem.Expr} (h : mE nm ex e = true) (hc : isComp ex = false) (t : Option PySem.Expr) (l : Nat) (env : Env) : swapsWith e t l env = pure false := by
  have hk : (vw e).1 ≠ 4 := fun q => of_decide_eq_false hc (Nat.succ.inj ((mE_kd h).symm.trans q))
  have h0 : (vw e).1 ≠ 0 := mE_kind h
  clear h hc
  cases e <;> first | rfl | exact absurd rfl hk | exact absurd rfl h0
theorem swaps_pure (elt it : PySem.Expr) (gs : List Comprehension) (sc : Scope) (pos : Pos) (x : Str) (py : Pos) (l : Nat) (env : Env) : ∃ b, swapsWith (.ListComp elt gs sc pos) (some (.Name x py)) l env = pure b := ⟨_, rfl⟩
theorem snd_assign {x : String} {ex : Ex} : SndS (.assign x ex) := fun c ρ σ s Q e hc hown ha hm0 hw => mS_assign hm0 fun v py pos hx hm => by
  clear hm0
  have plain : swapsWith v (some (.Name (Str.ofString x) py)) pos.line c.env = pure false → ExG c s Q (.Assign [.Name (Str.ofString x) py] v pos) := fun hs =>
    wpAny_Assign_Name (gb ((sndE ex).1 c ρ σ s _ _ hc ha hm hw) fun v V σ₁ s₁ hV ha₁ hw₁ => bind_snd ha₁ hown hx hV fun s' h o' => ⟨_, σ₁, h, hw₁⟩) hs
  cases hcomp : isComp ex with
  | false => exact plain (mE_noComp hm hcomp _ _ _)
  | true =>
    cases ex <;> try exact Bool.noConfusion hcomp
    rename_i elt k xs it ifs
    revert plain
    refine mE_comp (M := fun v => (swapsWith v (some (.Name (Str.ofString x) py)) pos.line c.env = pure false → ExG c s Q (.Assign [.Name (Str.ofString x) py] v pos)) → ExG c s Q (.Assign [.Name (Str.ofString x) py] v pos)) hm fun tg elt' it' ifs' sc pos' htg hok m0 m1 m2 plain => ?_
    obtain ⟨b, hb⟩ := swaps_pure elt' elt' [⟨tg, it', ifs', 0⟩] sc pos' (Str.ofString x) py pos.line c.env
    cases b with
    | false => exact plain hb
    | true =>
      unfold ExG
      rw [exec_Assign_Name_used _ _ _ _ hb]
      refine wpAny_bind (wpAny_standAt (wpAny_bind ?_))
      show wpAny _ _ (do let _ ← comprehension (.ListComp elt' [⟨tg, it', ifs', 0⟩] sc pos') sc c.env _ (newList []) false (eval it' c.env) (some (assign (.Name (Str.ofString x) py) c.env))) _ _ _
      refine wpAny_bind (wpAny_mono (comp_core (Qv := fun o' s' => GoodF c Q .next s') (K := fun ys σ' => newW σ' (.list ys) fun v σ₁ => Q .next (upd ρ x v) σ₁) (sndE it).1 (sndE elt).1 (fun e he => (sndAll ifs e he).2) hc hw.1 ha htg (compOk_of hok) m0 m1 m2 hw.2 ?_) (fun o' s' hq => wpAny_pure (wpAny_pure hq)) fun o' o' e => e)
      intro ys σ' s' D C m at' hD hk hC hC₀ hCσ hCD
      refine wpAny_assign_Name (bind_snd at' hown hx (V := .ref D) rfl fun s'' h hkp => ?_)
      have hCo : ¬ c.own C := fun q => by
        obtain ⟨n1, n2, _⟩ := hc.old C hC₀
        rcases (hown.1 C).mp q with q | ⟨y, q⟩
        · exact n1 q
        · exact n2 y q
      exact ⟨m, ns_slots hC fun o e => ⟨o, hkp C o hCo e, rfl⟩, fun h₃ hs₃ => ⟨_, _, h.priv hc hC₀ (by rw [Sto.set_other _ _ hCD]; exact hCσ) (fun b o hb e => hs₃.extBut b o hb e), hk D hD⟩⟩
theorem snd_expr {ex : Ex} : SndS (.expr ex) := fun c ρ σ s Q e hc hown ha hm hw => onS_of (k := 2) (P := fun v => !isComp ex && mE c.env.scope.names ex v.e) hm rfl fun v hm =>
  wpAny_Expr_any (gb ((sndE ex).1 c ρ σ s _ _ hc ha (and2 hm).2 hw) fun v V σ₁ s₁ hV ha₁ hw₁ => ⟨ρ, σ₁, ha₁, hw₁⟩) (by unfold interactive; rw [ha.env.kind]; rfl) (mE_noComp (and2 hm).2 (by simpa using (and2 hm).1) _ _ _)
theorem snd_ret {ex : Ex} : SndS (.ret ex) := fun c ρ σ s Q e hc hown ha hm hw => mS_ret hm fun e' pos hm =>
  wpAny_Return_some (gb ((sndE ex).1 c ρ σ s _ _ hc ha hm hw) fun v V σ₁ s₁ hV ha₁ hw₁ => ⟨ρ, σ₁, ha₁, V, hV, hw₁⟩)
theorem snd_if {a : Ex} {t e : List St} (ht : SndSs t) (he : SndSs e) : SndS (.if_ a t e) := fun c ρ σ s Q e' hc hown ha hm hw => onS_of (k := 4) (P := fun v => mE c.env.scope.names a v.e && mSs c.env.scope.names t v.b && mSs c.env.scope.names e v.c) hm rfl fun v hm => by
  have hm := and3 hm
  refine wpAny_If (gt ((sndE a).2 c ρ σ s (fun b σ₁ => if b = true then wpSs (WF c.G c.d) c.gv t ρ σ₁ Q else wpSs (WF c.G c.d) c.gv e ρ σ₁ Q) _ hc ha hm.1.1 hw) fun b σ₁ s₁ ha₁ hw₁ => ?_)
  cases b with
  | true => exact ht c ρ σ₁ s₁ Q _ hc hown ha₁ hm.1.2 hw₁
  | false => exact he c ρ σ₁ s₁ Q _ hc hown ha₁ hm.2 hw₁
theorem sndSs_nil : SndSs [] := by
  intro c ρ σ s Q es hc hown ha hm hw
  cases es with
  | nil => exact wpAny_execs_nil ⟨ρ, σ, ha, hw⟩
  | cons _ _ => exact Bool.noConfusion hm
theorem sndSs_cons {st : St} {r : List St} (h1 : SndS st) (h2 : SndSs r) : SndSs (st :: r) := by
  intro c ρ σ s Q es hc hown ha hm hw
  cases es with
  | nil => exact Bool.noConfusion hm
  | cons e es =>
    have hm := and2 hm
    exact wpAny_execs_cons (gf (h1 c ρ σ s _ _ hc hown ha hm.1 hw) (fun ρ₁ σ₁ s₁ ha₁ h => h2 c ρ₁ σ₁ s₁ Q _ hc hown ha₁ hm.2 h) fun v V ρ₁ σ₁ s₁ hV ha₁ h => ⟨ρ₁, σ₁, ha₁, V, hV, h⟩)
end
end BP

namespace BP
open PySem PyProof.Rows
section
variable {c : Cx} {ρ : Loc} {σ : Sto} {s : Shared} {E : Value → Shared → Prop}
noncomputable def Cx.anchor (c : Cx) (σ : Sto) (h : Heap) : Cx := { c with σ₀ := σ, h₀ := h }
theorem CxOk.anchor {c : Cx} (x : CxOk c) {ρ : Loc} {σ : Sto} {s : Shared} (y : At c ρ σ s) : CxOk (c.anchor σ s.heap) := by
  refine ⟨y.stays, fun b hb => ?_, x.frames, x.room, x.units, x.handled, x.top⟩
  have hb : s.heap.get? b = none := hb
  refine ((x.old b ?_) : _)
  cases e : c.h₀.get? b with
  | none => rfl
  | some o => obtain ⟨o', h⟩ := y.alive b o e; rw [hb] at h; cases h
theorem At.anchor (x : At c ρ σ s) : At (c.anchor σ s.heap) ρ σ s where
  stays := x.stays
  os := x.os
  gens := x.gens
  sto := x.sto
  env := x.env
  frs := x.frs
  frN := x.frN
  keep := fun b o e o' o' => ⟨o, e, .refl o⟩
  alive := fun b o e => ⟨o, e⟩
  fresh := fun b ob e => Or.inl (by rw [show (c.anchor σ s.heap).σ₀ = σ from rfl, e]; exact Option.some_ne_none _)
theorem At.unanchor (x : At c ρ σ s) {ρ' : Loc} {σ' : Sto} {s' : Shared} (y : At (c.anchor σ s.heap) ρ' σ' s') : At c ρ' σ' s' := by
  refine ⟨y.stays, y.os, y.gens, y.sto, y.env, y.frs, y.frN, fun b o e h1 h2 => ?_, fun b o e => ?_, fun b ob e => ?_⟩
  · obtain ⟨o', h3, h4⟩ := x.keep b o e h1 h2
    have hσ : σ b = none := by
      cases q : σ b with
      | none => rfl
      | some ob => rcases x.fresh b ob q with h | h
                   · exact absurd h1 h
                   · rw [e] at h; cases h
    obtain ⟨o'', h5, h6⟩ := y.keep b o' h3 hσ h2
    exact ⟨o'', h5, h4.trans h6⟩
  · obtain ⟨o', h⟩ := x.alive b o e; exact y.alive b o' h
  · rcases y.fresh b ob e with h | h
    · cases q : σ b with
      | none => exact absurd q h
      | some ob' => exact x.fresh b ob' q
    · have h : s.heap.get? b = none := h
      cases q : c.h₀.get? b with
      | none => exact Or.inr rfl
      | some o => obtain ⟨o', h'⟩ := x.alive b o q
                  rw [h] at h'; cases h'
theorem not_own (hc : CxOk c) (hown : Owns c) {b : Addr} (hb : c.h₀.get? b = none) : ¬ c.own b := fun q => by
  obtain ⟨n1, n2, _⟩ := hc.old b hb
  rcases (hown.1 b).mp q with q | ⟨y, q⟩
  · exact n1 q
  · exact n2 y q
theorem bnd_at (hown : Owns c) {R : Shared → Prop} : ∀ (xs : List String) (Vs : List Val) (ρ : Loc) (s : Shared), xs.all (isVar c.env.scope.names) = true → Vs.length = xs.length → At c ρ σ s →
    (∀ s', At c (bindT xs Vs ρ) σ s' → (∀ b o, ¬ c.own b → s.heap.get? b = some o → s'.heap.get? b = some o) → R s') → Bnd (model c.G.prog c.G.w) c.A c.env E R xs Vs s
  | [], Vs, ρ, s, hx, hl, ha, hR => by
    rw [List.eq_nil_of_length_eq_zero hl] at hR
    exact hR s ha fun o' o' o' e => e
  | x :: xs, [], ρ, s, hx, hl, ha, hR => nomatch hl
  | x :: xs, V :: Vs, ρ, s, hx, hl, ha, hR =>
    ⟨V, Vs, rfl, fun v hv => bind_snd ha hown (and2 hx).1 hv fun s' h hk => bnd_at hown xs Vs _ s' (and2 hx).2 (Nat.succ.inj hl) h fun s'' h' hk' => hR s'' h' fun b o hb e => hk' b o hb (hk b o hb e)⟩
theorem ErW.unanchor {er : String → Sto → Prop} (x : At c ρ σ s) {e : Value} {s' : Shared} (h : ErW (c.anchor σ s.heap) er e s') : ErW c er e s' := by
  obtain ⟨cl, ρ', σ', a, y, h⟩ := h
  have up : ∀ b, s.heap.get? b = none → c.h₀.get? b = none := fun b hb => by
    cases q : c.h₀.get? b with
    | none => rfl
    | some o => obtain ⟨o', h⟩ := x.alive b o q; rw [hb] at h; cases h
  refine ⟨cl, ρ', σ', x.unanchor a, ?_, h⟩
  obtain ⟨ea, C, oe, vs, a0, h1, h2, h3, h4, h5, h6, h7, h8, h9⟩ := y
  refine ⟨ea, C, oe, vs, a0, h1, h2, h3, h4, h5, h6, h7, up _ h8, h9.imp id ?_⟩
  rintro ⟨T, oT, ts, fl, k1, k2, k3, k4, k5, k6, k7, k8⟩
  exact ⟨T, oT, ts, fl, k1, k2, k3, k4, k5, k6, k7, up _ k8⟩
inductive FI (c : Cx) (turns : List (List Val)) (Pv : Addr → Prop) (It : Nat → Heap → Prop) (W : List (List Val) → Loc → Sto → Prop) (n : Nat) (s : Shared) : Prop
  | mk (i : Nat) (ρ : Loc) (σ : Sto) (at_ : At c ρ σ s) (it : It i s.heap) (fI : ∀ b, Pv b → σ b = none) (hn : n = turns.length + 1 - i) (len : i ≤ turns.length) (hw : W (turns.drop i) ρ σ)
theorem wpFor_st {B : Loc → Sto → (Fl → Loc → Sto → Prop) → Prop} {st : Sto → Prop} {xs : List String} {turns : List (List Val)} {ρ : Loc} {σ : Sto} {Q : KS} (h : wpFor B st xs turns ρ σ Q) : st σ := by
  cases turns with
  | nil => exact h.1
  | cons t ts => exact h.1
theorem for_loop (hc : CxOk c) (hown : Owns c) {body : List St} (hb : SndSs body) {body' : List PySem.Stmt} (m2 : mSs c.env.scope.names body body' = true) {xs : List String} (hvar : xs.all (isVar c.env.scope.names) = true) {tg : PySem.Expr} {turns : List (List Val)} {st : Sto → Prop} {I : Addr} {Pv : Addr → Prop} {It : Nat → Heap → Prop} (lp : Lp c xs tg turns st I Pv It) {Q : KS}
    (ha : At c ρ σ s) {h' : Heap} (hit : It 0 h') (hk : ∀ b o, s.heap.get? b = some o → h'.get? b = some o) (hPv : ∀ b, Pv b → s.heap.objs.size ≤ b) (hw : wpFor (fun ρ' σ' K => wpSs (WF c.G c.d) c.gv body ρ' σ' K) st xs turns ρ σ Q) :
    codeAny (model c.G.prog c.G.w) c.A (.forLoop tg (.ref I) body' [] c.env) (fun r s' => match r with | .ok f => GoodF c Q f s' | .error e => cameBackBy (model c.G.prog c.G.w) c.A c.env (Er c) e s') { s with heap := h' } := by
  have n0 : ∀ b, Pv b → c.h₀.get? b = none ∧ σ b = none := fun b hb => ha.none_ge (hPv b hb)
  have hIo : ∀ b, Pv b → ¬ c.own b := fun b hb => not_own hc hown (n0 b hb).1
  refine codeAny_forLoop_any (FI c turns Pv It fun l ρ' σ' => wpFor (fun ρ' σ' K => wpSs (WF c.G c.d) c.gv body ρ' σ' K) st xs l ρ' σ' Q) ?_ (turns.length + 1) ⟨0, ρ, σ, ha.grow hk, hit, fun b hb => (n0 b hb).2, rfl, Nat.zero_le _, by rw [List.drop_zero]; exact hw⟩
  clear hw hit ha
  rintro n s ⟨i, ρ', σ', a3, hit', fI, rfl, hile, hw⟩
  refine lp.turn ρ' σ' s i c.env _ _ _ _ a3 (wpFor_st hw) hit' fI (fun v s₁ h => h) (fun s₁ h => h) ?_ ?_
  · intro X h' n' hX hXl hit₂ hsb
    obtain ⟨hil, hX⟩ := List.getElem?_eq_some_iff.mp hX
    rw [List.drop_eq_getElem_cons hil, hX] at hw
    have a4 : At c ρ' σ' { s with heap := h', toks := n' } := a3.privX hc (X := Pv) (fun b hb => ⟨(n0 b hb).1, fI b hb⟩) hsb
    refine bnd_at hown xs X ρ' _ hvar hXl a4 fun s₅ a5 hkp => ?_
    have hit₅ : It (i + 1) s₅.heap := lp.keep _ _ _ hit₂ fun b o hb e => hkp b o (hIo b hb) e
    refine wpAny_mono (gf (hb (c.anchor σ' s₅.heap) _ σ' s₅ _ _ (hc.anchor a5) hown a5.anchor m2 hw.2) (fun ρ₆ σ₆ s₆ a6 h6 => ?_) fun v V ρ₆ σ₆ s₆ hV a6 h6 => ⟨ρ₆, σ₆, a5.unanchor a6, V, hV, h6⟩) (fun o' o' h => h) fun e s' h => loop_err hc (h.unanchor a5)
    have yI : ∀ b, Pv b → ∀ o, s₅.heap.get? b = some o → s₆.heap.get? b = some o ∧ σ₆ b = none := fun b hb o e => a6.leaves hc rfl (hIo b hb) e (fI b hb) (n0 b hb).1
    exact ⟨turns.length + 1 - (i + 1), by lia, i + 1, ρ₆, σ₆, a5.unanchor a6, lp.keep _ _ _ hit₅ fun b o hb e => (yI b hb o e).1, fun b hb => let ⟨o, e⟩ := lp.live _ _ hit₅ b hb; (yI b hb o e).2, rfl, hil, h6⟩
  · intro h' hX hsb
    have e : i = turns.length := Nat.le_antisymm hile (List.getElem?_eq_none_iff.mp hX)
    subst e
    rw [List.drop_length] at hw
    exact wpAny_execs_nil ⟨ρ', σ', a3.privX hc (X := Pv) (fun b hb => ⟨(n0 b hb).1, fI b hb⟩) hsb, hw.2⟩
theorem snd_for {k : Nat} {xs : List String} {it : Ex} {body : List St} (hb : SndSs body) : SndS (.for_ k xs it body) := fun c ρ σ s Q e hc hown ha hm hw => mS_for hm fun tg it' body' pos htg hvar m1 m2 =>
  wpAny_For (start_snd (W := fun v σ₁ turns => wpFor (fun ρ' σ' K => wpSs (WF c.G c.d) c.gv body ρ' σ' K) (stay σ₁ v k turns) xs turns ρ σ₁ Q) htg (sndE it).1 hc hw.1 ha m1 hw.2 fun V σ₁ turns s₁ h' I Pv It a1 hw lp hit hk hPv =>
    for_loop hc hown hb m2 hvar lp a1 hit hk hPv hw) (fun y => mIt_notSet m1 _ y)
end
end BP

namespace BP
open PySem PyProof.Rows
theorem snd_raise {cls msg : String} : SndS (.raise cls msg) := fun c ρ σ s Q e hc hown ha hm hw => mS_raise hm fun p1 k p2 p3 pos hg => by
  obtain ⟨hh, hx, hE⟩ := hw
  obtain ⟨C, hC⟩ := Option.isSome_iff_exists.mp (show (c.G.exc cls).isSome = true from hx)
  obtain ⟨hmg, bm, X, _⟩ := c.G.excOk cls C hC
  obtain ⟨N, nm, q, bs, hdct, sn, sub, ab, col, dd, k0, k1, k2, k3, k5, mN, hCo, hN, hq, T⟩ := X
  refine wpAny_Raise_call_subT (nm := nm) (q := q) (C := C) (N := N) (bs := bs) (bm := bm) (hdct := hdct) (sn := sn) (sub := sub) (ab := ab) (col := col) (dd := dd) (k0 := k0) (k1 := k1) (k2 := k2) (k3 := k3) (k5 := k5)
    PySem.F.excBase_ValueError (mN := mN) (T.tail.hasType (by decide +kernel)) (hc.handled hh) rfl (hq _ (by decide)) (load_glob ha hg hmg ⟨rfl, Calls.evalArgs_plain ?_⟩)
  show wpAny _ _ (spliced ((false, eval (.Constant (.str (Str.ofString msg)) k p2) c.env) :: [])) _ _ _
  refine Calls.spliced_cons ?_
  show wpAny _ _ (mkText _) _ _ _
  refine wpAny_mkText (Calls.spliced_nil ⟨rfl, by simp [sizeLine], ha.stays _ _ hCo, hN.keeps ha.stays, (T.keeps ha.stays).tail, fun h' e hM => ?_⟩)
  have h0 : c.h₀.get? e = none := by
    cases r : c.h₀.get? e with
    | none => rfl
    | some o => obtain ⟨o', ho'⟩ := ha.alive e o r; rw [hM.new] at ho'; cases ho'
  obtain ⟨t, g1, _, _⟩ := hM.there
  exact ⟨cls, ρ, σ, ha.grow hM.keeps, ⟨e, C, _, _, _, rfl, hC, g1, rfl, rfl, rfl, ha.none_of_fresh hM.new, h0, .inl rfl⟩, hE⟩
section
variable {c : Cx} {ρ : Loc} {σ : Sto} {s : Shared} {E : Value → Shared → Prop} {e : Value} {cl : String}
noncomputable def Cx.mark (c : Cx) (e : Value) : Cx := { c with A := c.A.mark (some e), hd := true, err := fun o' o' => False }
theorem CxOk.mark (hc : CxOk c) (e : Value) : CxOk (c.mark e) := ⟨hc.baseIn, hc.old, hc.frames, hc.room, hc.units, fun q => Bool.noConfusion q, hc.top⟩
theorem At.mark (x : At c ρ σ s) (e : Value) : At (c.mark e) ρ σ s := ⟨x.stays, x.os, x.gens, x.sto, x.env, x.frs, x.frN, x.keep, x.alive, x.fresh⟩
theorem At.unmark {e : Value} (x : At (c.mark e) ρ σ s) : At c ρ σ s := ⟨x.stays, x.os, x.gens, x.sto, x.env, x.frs, x.frN, x.keep, x.alive, x.fresh⟩
noncomputable def Cx.catch_ (c : Cx) (er : String → Sto → Prop) : Cx := { c with err := er }
theorem CxOk.catch_ (hc : CxOk c) (er : String → Sto → Prop) : CxOk (c.catch_ er) := ⟨hc.baseIn, hc.old, hc.frames, hc.room, hc.units, hc.handled, hc.top⟩
theorem At.catch_ (x : At c ρ σ s) (er : String → Sto → Prop) : At (c.catch_ er) ρ σ s := ⟨x.stays, x.os, x.gens, x.sto, x.env, x.frs, x.frN, x.keep, x.alive, x.fresh⟩
theorem At.uncatch {er : String → Sto → Prop} (x : At (c.catch_ er) ρ σ s) : At c ρ σ s := ⟨x.stays, x.os, x.gens, x.sto, x.env, x.frs, x.frN, x.keep, x.alive, x.fresh⟩
theorem goes_snd (ha : At c ρ σ s) (hown : Owns c) {x : Str} {pos : Pos} (hk : c.env.kindOf x = some .local) {R : Unit → Shared → Prop} (hR : ∀ s', At c (fun o' => none) σ s' → R () s') :
    wpAny (model c.G.prog c.G.w) c.A (do bindName c.env x .none; unbindBehindTheSuite c.env x pos) R E s := by
  obtain ⟨m, hn, _⟩ := ha.env.loc
  refine wpAny_nameGoes hk hn (by rw [ha.env.kind]; rfl) fun h' m' hn' hs' => hR _ ?_
  obtain ⟨oL, es, ep, hoL, hdL, _⟩ := id hn'
  exact (ha.tok _).ownUpd (s' := { s with heap := h', toks := s.toks + 1 }) ((hown.1 _).mpr (.inl rfl)) ha.env.locN ha.env.locB (fun b' o hb e => hs'.extBut b' o hb e) ⟨oL, hoL, fun vs q => by rw [hdL] at q; cases q⟩
    ⟨ha.env.kind, ha.env.glob, ha.env.blt, ⟨m', hn', fun y W o' o' q => by cases q⟩, ha.env.locN, ha.env.locB, fun y hy => by
      obtain ⟨cc, v, h1, h2, h3, h4, _⟩ := ha.env.cel y hy
      exact ⟨cc, v, h1, h2.sameBut hs' (fun q => ns_cell hn (q ▸ h2)), h3, h4, fun y W o' q => by cases q⟩, ha.env.inj⟩
theorem hand_snd (hc : CxOk c) (hown : Owns c) (ha : At c ρ σ s) (x3 : ExcF c e cl σ s.heap .none) {cls x : String} {D : Addr} (hD : c.G.exc cls = some D) (hsub : excSub cl cls = true) (hg : isGlob c.env.scope.names (Str.ofString cls) = true)
    (hv : isVar c.env.scope.names x = true) (hloc : c.env.scope.names.lookup (Str.ofString x) = some .local) {h : List St} (hs : SndSs h) {h' : List PySem.Stmt} (m2 : mSs c.env.scope.names h h' = true) (hne : h'.isEmpty = false) {Q : KS} {p1 p2 : Pos} {rest : List ExceptHandler}
    (hw : ∀ a, σ a = none → wpSs (WF c.G c.d) c.gv.inHd h (upd (fun o' => none) x (.ref a)) (σ.set a (.exc cl)) (fun fl o' σ'' => Q fl (fun o' => none) σ'')) :
    wpAny (model c.G.prog c.G.w) c.A (handleBy e c.env (.ExceptHandler (some (.Name (Str.ofString cls) p1)) (some (Str.ofString x)) h' p2 :: rest)) (GoodF c Q) E s := by
  obtain ⟨ea, C, oe, vs, a0, T, oT, ts, rfl, h2, h3, h4, h5, h6, h7, h8, k1, k2, k3, k4, k5, k7, k8⟩ := id x3
  have hc' := hc.mark (.ref ea)
  have a3 := ha.mark (.ref ea)
  cases h' with
  | nil => cases hne
  | cons b₀ suite =>
    refine wpAny_handleBy_cons (codeAny_handlers_test ?_) (by intro q; cases q)
    refine load_glob (c := c.mark (.ref ea)) a3 hg (c.G.excOk cls D hD).1 ?_
    obtain ⟨_, bm, X, hsb⟩ := c.G.excOk cl C h2
    obtain ⟨_, bmD, XD, _⟩ := c.G.excOk cls D hD
    have X' := X.keeps ha.stays
    have XD' := XD.keeps ha.stays
    obtain ⟨hh', g, dr, t, os⟩ := s
    refine excMatches_x ve_base X' XD' h3 h4 ?_
    rw [hsb cls D hD, hsub]
    refine codeAny_handlers_suite_as ?_
    refine land_snd (c := c.mark (.ref ea)) hc' a3 (x3.down rfl fun o' h => h) fun s₄ a4 x4 => ?_
    obtain ⟨ea', C', oe', vs', a0', T', oT', ts', q1, q2, q3, q4, q5, _⟩ := x4
    cases q1
    have a5 := a4.publish hc' (ob := .exc cl) h8 q3 ⟨C', vs', q2, q4, q5⟩
    have a5' : At (c.mark (.ref ea)) (fun o' => none) (σ.set ea (.exc cl)) s₄ := ⟨a5.stays, a5.os, a5.gens, a5.sto, ⟨a5.env.kind, a5.env.glob, a5.env.blt, let ⟨m, hm, _⟩ := a5.env.loc; ⟨m, hm, fun o' o' o' o' q => nomatch q⟩, a5.env.locN, a5.env.locB,
      fun y hy => let ⟨cc, v, g1, g2, g3, g4, _⟩ := a5.env.cel y hy; ⟨cc, v, g1, g2, g3, g4, fun o' o' o' q => nomatch q⟩, a5.env.inj⟩, a5.frs, a5.frN, a5.keep, a5.alive, a5.fresh⟩
    refine bind_snd (c := c.mark (.ref ea)) a5' hown hv (V := .ref ea) rfl fun s₅ a6 o' => ?_
    refine wpAny_mono (hs (c.mark (.ref ea)) _ _ s₅ _ _ hc' hown a6 m2 (hw ea h7)) (fun fl s₆ H9 => ?_) fun o' o' h => let ⟨_, _, _, _, _, h⟩ := h; h.elim
    obtain ⟨ρ₆, σ₆, a7, g7⟩ := H9
    refine goes_snd a7.unmark hown hloc fun s₇ a8 => ⟨_, σ₆, a8, ?_⟩
    cases fl with
    | next => exact g7
    | ret v => exact g7
    | brk => exact g7
    | cont => exact g7
end
theorem snd_try {body h : List St} {cls x : String} (hb : SndSs body) (hhd : SndSs h) : SndS (.try_ body cls x h) := fun c ρ σ s Q e hc hown ha hm hw => mS_try hm fun b' p1 p2 h' pos hg hv hloc hne m1 m2 => by
  obtain ⟨hh, hx, hw⟩ := hw
  obtain ⟨D, hD⟩ := Option.isSome_iff_exists.mp (show (c.G.exc cls).isSome = true from hx)
  refine wpAny_Try_except (wpAny_mono (hb (c.catch_ fun cl σ' => excSub cl cls = true ∧ ∀ a, σ' a = none → wpSs (WF c.G c.d) c.gv.inHd h (upd (fun o' => none) x (.ref a)) (σ'.set a (.exc cl)) (fun fl o' σ'' => Q fl (fun o' => none) σ'')) ρ σ s Q _ (hc.catch_ _) hown (ha.catch_ _) m1 hw) (fun fl s₁ hgood => ?_) fun e s₁ H9 => ?_)
  · obtain ⟨ρ₁, σ₁, a1, h1⟩ := hgood
    cases fl with
    | next => exact wpAny_execs_nil ⟨ρ₁, σ₁, a1.uncatch, h1⟩
    | ret v => exact ⟨ρ₁, σ₁, a1.uncatch, h1⟩
    | brk => exact h1.elim
    | cont => exact h1.elim
  · obtain ⟨cl, ρ₁, σ₁, a1, x1, hsub, hk⟩ := H9
    exact note_snd hc a1.uncatch x1 fun s₂ L a2 o' x2 => land_snd hc a2 x2 fun s₃ a3 x3 => hand_snd hc hown a3 x3 hD hsub hg hv hloc hhd m2 hne hk
end BP

namespace BP
open PySem PyProof.Rows
section
variable {c : Cx} {ρ : Loc} {σ : Sto} {s : Shared} {E : Value → Shared → Prop}
theorem setSub_snd (hc : CxOk c) (ha : At c ρ σ s) {v i x : Value} {V I X : Val} (hv : vval v = some V) (hi : vval i = some I) (hx : vval x = some X) {K : Sto → Prop} (h : setSubW V I X σ K) {R : Shared → Prop}
    (hR : ∀ σ' s', At c ρ σ' s' → K σ' → R s') : wpAny (model c.G.prog c.G.w) c.A (setItem v i x) (fun o' => R) E s := by
  cases V with
  | none => exact h.elim
  | bool _ => exact h.elim
  | int _ => exact h.elim
  | str _ => exact h.elim
  | ref a =>
    rw [vval_ref hv]
    replace h : setSubO (σ a) a _ _ σ _ := h
    revert h
    cases hσ : σ a with
    | none => exact fun h => h.elim
    | some ob =>
    cases ob with
    | list xs =>
      intro h
      replace h := onI_inv h
      obtain ⟨k, rfl, h0, hk, h⟩ := h
      obtain ⟨t, rfl⟩ := vval_int hi
      refine ha.list hσ fun vs n h1 h2 hl h3 => ?_
      have hl' : s.heap.IsList a vs := ⟨_, h1, rfl, n, rfl⟩
      unfold setItem
      try with_reducible refine wpAny_holding ?_
      refine wpAny_bind (wpAny_sequenceKey hl'.typeIs (by decide) ?_)
      refine wpAny_bind (wpAny_callSpecial?_slot (name := Str.ofString "__setitem__") hl'.typeIs slot_list_setitem
        (wpAny_call_entry slot_list_setitem hl'.typeIs entry_list_setitem ?_ (args_list_setitem _ _ _)))
      show wpAny _ _ (Builtin.List.listSubscript? (.int k t) >>= _) _ _ s
      refine wpAny_bind (wpAny_listSubscript_int (fitsIndex_of h0 (by lia)) ?_)
      obtain ⟨j, rfl⟩ := Int.eq_ofNat_of_zero_le h0
      have hj : j < vs.size := by rw [hl]; exact Int.ofNat_lt.mp hk
      show wpAny _ _ ((seqItemAt a j >>= fun r => pure (r.map (j, ·))) >>= _) _ _ s
      refine wpAny_bind (wpAny_bind (wpAny_seqItemAt h1 rfl (wpAny_pure ?_)))
      rw [Array.getElem?_eq_getElem hj]
      show wpAny _ _ (setSeqItemAt a j x >>= _) _ _ s
      have fin := upd_list (tk := s.toks) (f := (·.setIfInBounds j x)) (ys := xs.set j X) ha hσ h1 (by
        rw [Array.toList_setIfInBounds]
        show List.map _ _ = List.map _ _
        rw [List.map_set, List.map_set, hx, h2]) (by rw [List.length_set]; exact h3)
      refine wpAny_bind (wpAny_setSeqItemAt h1 rfl ?_)
      exact wpAny_pure ⟨.none, rfl, wpAny_pure (hR _ _ fin h)⟩
    | idict ep es =>
      intro h
      replace h := onI_inv h
      obtain ⟨k, rfl, hn, h⟩ := h
      obtain ⟨t, rfl⟩ := vval_int hi
      refine ha.idict hσ fun kvs h1 h2 h3 o' => ?_
      have hl : kvs.length = es.length := by have := congrArg List.length h2; simpa using this
      have hn : es.length ≤ 1000000 := hn
      refine wpAny_setItem_pairs (knd := iK c) (k := k) (beq_self_eq_true k) h1.dictOf (fun h' hD' hs => ?_) (by rw [hl]; exact Nat.le_trans hn (by decide))
      obtain ⟨o', ds, ep', ho', ex, hd, he, hp, hnd⟩ := hD'
      have hr := istored_rel (k := k) h2 hx
      exact hR _ _ ((ha.tok _).update hσ (s' := { s with heap := h', toks := s.toks + 1 }) (fun b o hb e => hs.extBut b o hb e) ho' (ob' := .idict ep' (dput es k X)) ⟨ex, ⟨ds, _, hd, he, hp, hr⟩, by rw [← hr.keys]; exact hnd, Nat.le_trans dput_len (Nat.succ_le_succ hn)⟩) (h ep')
    | tdict ep es =>
      intro h
      refine Classical.byContradiction fun hG => ?_
      obtain ⟨hk, hn, t, k, rfl, ht, h⟩ := h
      rw [vval_ref hi] at hG
      refine hG (ha.tdict hσ hk fun xs h1 h2 h3 o' => ?_)
      have hl : xs.length = es.length := by have := congrArg List.length h2; simpa using this
      have hn : es.length ≤ 1000000 := hn
      refine wpAny_setItem_heap (tupleKind_room_in1 (by have := units_lt hc; lia)) (ha.key ht) h1 (fun h' hD hs => ?_) (by rw [hl]; exact Nat.le_trans hn (by decide))
      obtain ⟨o', ds, ep', ho', ex, hd, he, _, hnd⟩ := hD
      have hr := stored_rel (k := k) (a := t) h2 hx
      exact hR _ _ ((ha.tok _).update hσ (s' := { s with heap := h', toks := s.toks + (tK c).draws k }) (fun b o hb e => hs.extBut b o hb e) ho' (ob' := .tdict ep' (tput es k t X)) ⟨ex, ⟨ds, _, hd, he, hr⟩, by rw [← hr.keys]; exact hnd, Nat.le_trans tput_len (Nat.succ_le_succ hn)⟩) (h ep')
    | _ => exact fun h => h.elim
theorem swap_no (v o i : PySem.Expr) (s : Str) (p : Pos) (l : Nat) (env : Env) : swapsWith v (some (.Subscript o i p)) l env = pure false ∧ swapsWith v (some (.Attribute o s p)) l env = pure false := by
  cases v <;> exact ⟨rfl, rfl⟩
theorem snd_assignSub {o i ex : Ex} : SndS (.assignSub o i ex) := fun c ρ σ s Q e hc hown ha hm hw => mS_assignSub hm fun o' i' v py pos m1 m2 m3 =>
  wpAny_Assign_Subscript (gb ((sndE ex).1 c ρ σ s _ _ hc ha m3 hw) fun x X σ₁ s₁ hX a1 hw => gb ((sndE o).1 c ρ σ₁ s₁ _ _ hc a1 m1 hw) fun ov V σ₂ s₂ hV a2 hw => gb ((sndE i).1 c ρ σ₂ s₂ _ _ hc a2 m2 hw) fun iv I σ₃ s₃ hI a3 hw =>
    setSub_snd hc a3 hV hI hX hw fun σ' s' h hk => ⟨ρ, σ', h, hk⟩) (swap_no _ _ _ "" _ _ _).1
theorem no_swap {us : List PySem.Expr} {k n : Nat} {p : Pos} {e : PySem.Expr} {env : Env} (h : ((vw e).1 != 12) = true) : swapsWithSole [.Tuple us k p] e n env = pure false ∧ swappedStores [.Tuple us k p] e env = pure none := by
  cases e <;> first | exact ⟨rfl, rfl⟩ | exact Bool.noConfusion h
theorem snd_assignT {xs : List String} {ex : Ex} : SndS (.assignT xs ex) := fun c ρ σ s Q e hc hown ha hm hw => mS_assignT hm fun us k p e' pos m1 m2 m3 m4 => by
  obtain ⟨g1, g2, ps, g3, g4⟩ := assignEach_tup xs us m1 c.env
  obtain ⟨hh, hw⟩ := hw
  refine wpAny_Assign_stores (gb ((sndE ex).1 c ρ σ s _ _ hc ha m3 hw) fun v V σ₁ s₁ hV a1 hw => ?_) (no_swap m4).1 (no_swap (n := 0) m4).2
  obtain ⟨vs, hσ, hl, hw⟩ := onS1_inv hw
  show wpAny _ _ (assignAll v [assign (.Tuple us k p) c.env]) _ _ _
  have fin : ∀ (ws : Array Value) h', VsR ws.toList vs → Heap.ExtBut s₁.heap.objs.size s₁.heap h' → wpAny (model c.G.prog c.G.w) c.A (assignInOrder ((assignEach us c.env).map (·.2)) ws.toList) (fun o' s' => ∃ ρ' σ', At c ρ' σ' s' ∧ Q .next ρ' σ') (Er c) { s₁ with heap := h' } := fun ws h' h2 he => by
    have a2 : At c ρ σ₁ { s₁ with heap := h' } := a1.grow fun b o e => he b o (Nat.ne_of_lt (Heap.lt_size e)) e
    rw [g4]
    exact Bnd.run xs ps ws.toList vs _ g3 h2 (bnd_at hown xs vs ρ _ m2 hl a2 fun s' h o' => ⟨_, σ₁, h, hw⟩) hl
  cases V with
  | ref a =>
    rw [vval_ref hV]
    simp only [seqV] at hσ
    split at hσ
    · rename_i ys hy
      cases hσ
      exact a1.tup hy fun ws n h1 h2 h3 o' => wpAny_assign_Tuple (hc.handled hh) ⟨_, h1, rfl, n, rfl⟩ (by rw [g2, h3, hl]) g1 fun h' he => fin ws h' h2 he
    · rename_i ys hy
      cases hσ
      exact a1.list hy fun ws n h1 h2 h3 o' => assign_l (hc.handled hh) ⟨_, h1, rfl, n, rfl⟩ (by rw [g2, h3, hl]) g1 fun h' he => fin ws h' h2 he
    · exact no hσ
  | none => exact no hσ
  | bool _ => exact no hσ
  | int _ => exact no hσ
  | str _ => exact no hσ
theorem AttR.append {es : List DictEntry} {fs : List (String × Val)} (h : AttR es fs) {e : DictEntry} {a : String} {V : Val} (hk : ∃ t, e.key = .str (Str.ofString a) t) (hv : vval e.val = some V) : AttR (es ++ [e]) (fs ++ [(a, V)]) := by
  induction h with
  | nil => exact .cons hk hv .nil
  | cons h1 h2 _ ih => exact .cons h1 h2 ih
theorem AttR.len {es : List DictEntry} {fs : List (String × Val)} (h : AttR es fs) : es.length = fs.length := by induction h <;> simp [*]
theorem AttR.none {es : List DictEntry} {fs : List (String × Val)} (h : AttR es fs) {a : String} (hl : fs.lookup a = none) : es.any (·.key.isStr (Str.ofString a)) = false ∧ es.any (·.refKey) = false := by
  induction h with
  | nil => exact ⟨rfl, rfl⟩
  | @cons e es b W fs hk hv _ ih =>
    obtain ⟨t, hk⟩ := hk
    rw [List.lookup_cons] at hl
    by_cases q : a = b
    · subst q; simp at hl
    · have hb : (a == b) = false := by simpa using q
      rw [hb] at hl
      obtain ⟨h1, h2⟩ := ih hl
      refine ⟨?_, ?_⟩
      · rw [List.any_cons, hk, isStr_iff, h1, show decide (b = a) = false from by simpa using fun h => q h.symm]; rfl
      · rw [List.any_cons, h2]; simp [DictEntry.refKey, hk]
theorem putL_none {name : Str} {hsh : Int} {key v : Value} : ∀ {es : List DictEntry}, es.any (·.key.isStr name) = false → W.putL name hsh key v es = es ++ [⟨hsh, key, v⟩]
  | [], _ => rfl
  | e :: es, h => by
    rw [List.any_cons, Bool.or_eq_false_iff] at h
    simp [W.putL, h.1, putL_none h.2]
theorem setAttr_snd (ha : At c ρ σ s) {v x : Value} {V X : Val} (hv : vval v = some V) (hx : vval x = some X) {n : String} {K : Sto → Prop} (h : setAttrW V n X σ K) {R : Unit → Shared → Prop}
    (hR : ∀ σ' s', At c ρ σ' s' → K σ' → R () s') : wpAny (model c.G.prog c.G.w) c.A (setAttr v (Str.ofString n) x) R E s := by
  unfold setAttrW at h
  obtain ⟨hin, h⟩ := h
  split at h
  · rw [vval_ref hv]
    rename_i a
    split at h
    · rename_i cl dx hσ1
      split at h
      · rename_i fs hσ2
        refine Classical.byContradiction fun hG => ?_
        obtain ⟨hnone, hlen, h⟩ := h
        obtain ⟨C, es, m, hC, hI, hr, _⟩ := instAt_of ha hσ1 hσ2
        obtain ⟨k1, k2, k3, k4, k5⟩ := c.G.clsOk _ _ hC
        refine hG ?_
        clear hG
        have ht : W.takerIn c.G.K C (Str.ofString n) = some none := by unfold W.takerIn; rw [k5 n hin]; rfl
        refine W.set_plain (kin_at ha) hI k4 ?_
        have hI' : W.InstAt ({ s with toks := s.toks + 1 } : Shared).heap a ⟨.ref C, some dx, .plain, #[]⟩ C (some (W.dictOf es m)) := hI
        refine W.osa_open (kin_at (ha.tok (s.toks + 1))) hI' k3 ht fun b => ?_
        refine Classical.byContradiction fun hG => ?_
        obtain ⟨cd, hcd, hd'⟩ := W.any_some k2
        obtain ⟨n1, n2⟩ := hr.none hnone
        refine hG ?_
        clear hG
        have D : s.heap.get? dx = some (W.dictOf es m) := hI.dict
        refine wpAny_bind (wpAny_pure (wpAny_bind (wpAny_bind (wpAny_loadPart hI'.at_ (wpAny_bind ((W.looks_clsIn (kin_at (ha.tok (s.toks + 1))) hcd).here ?_))))))
        rw [hd']
        refine wpAny_pure (a := some dx) (wpAny_bind (wpAny_pure (wpAny_bind ?_)))
        unfold nsSet
        refine wpAny_bind (wpAny_bind (wpAny_askSetting (wpAny_pure (wpAny_bind (wpAny_mkText (wpAny_bind (wpAny_loadPart (o := W.dictOf es m) D ?_)))))))
        dsimp only [W.dictOf]
        have hc' : (!es.toArray.any (·.key.isStr (Str.ofString n)) && es.toArray.any (·.refKey)) = false := by
          rw [← Array.any_toList, ← Array.any_toList]; show (_ && es.any _) = false; rw [n2, Bool.and_false]
        rw [aRefKeyMayBeTheName_at, hc']
        have hput : ∀ tk, Obj.putName (Str.ofString n) (PyData.keyHash c.G.w.params (Str.ofString n)) (.str (Str.ofString n) tk) x (W.dictOf es m) = W.dictOf (es ++ [⟨PyData.keyHash c.G.w.params (Str.ofString n), .str (Str.ofString n) tk, x⟩]) (m + 1) := fun tk => by
          rw [W.putName_dict, putL_none n1]; simp [W.putN, n1]
        refine wpAny_updatePart (o := W.dictOf es m) D ?_
        have D' := Heap.get?_update_self (h := s.heap) (f := Obj.putName (Str.ofString n) (PyData.keyHash c.G.w.params (Str.ofString n)) (.str (Str.ofString n) (s.toks + 1)) x) (a := dx) D (by rw [hput]; rfl)
        rw [hput] at D'
        refine wpAny_bind (wpAny_lookBehind D' (pastItsLine_dict (by have := hr.len; simp [sizeLine]; lia)) ?_)
        refine wpAny_pure ?_
        refine hR (σ.set dx (.attrs (fs ++ [(n, X)]))) _ ?_ h
        refine ha.update hσ2 (fun b o hb e => (Heap.get?_update_other _ _ (Ne.symm hb)).trans e) D' ⟨_, _, rfl, hr.append ⟨_, rfl⟩ hx, by simp; lia⟩
      · exact h.elim
    · exact h.elim
  · exact h.elim
theorem snd_assignAttr {o : Ex} {a : String} {ex : Ex} : SndS (.assignAttr o a ex) := fun c ρ σ s Q e hc hown ha hm hw => mS_assignAttr hm fun o' v py pos m2 m3 =>
  plainObj_wpAny_Assign_Attribute (gb ((sndE ex).1 c ρ σ s _ _ hc ha m3 hw) fun x X σ₁ s₁ hX a1 hw => gb ((sndE o).1 c ρ σ₁ s₁ _ _ hc a1 m2 hw) fun ov V σ₂ s₂ hV a2 hw => setAttr_snd a2 hV hX hw fun σ' s' h hk => ⟨ρ, σ', h, hk⟩) (swap_no _ _ o' _ _ _ _).2
end
mutual
theorem sndS : ∀ st : St, SndS st
  | .assign _ _ => snd_assign
  | .assignT _ _ => snd_assignT
  | .assignSub _ _ _ => snd_assignSub
  | .assignAttr _ _ _ => snd_assignAttr
  | .expr _ => snd_expr
  | .ret _ => snd_ret
  | .if_ _ t e => snd_if (sndSs t) (sndSs e)
  | .for_ _ _ _ b => snd_for (sndSs b)
  | .try_ b _ _ h => snd_try (sndSs b) (sndSs h)
  | .raise _ _ => snd_raise
theorem sndSs : ∀ sts : List St, SndSs sts
  | [] => sndSs_nil
  | s :: r => sndSs_cons (sndS s) (sndSs r)
end
end BP

namespace BP
open PySem PyProof.Rows
noncomputable def Gd.gv (G : Gd) (hd : Bool) (er : String → Sto → Prop) : Glo := ⟨fun x => (G.mg (Str.ofString x)).bind vval, fun f => G.fns.contains f, fun x => (G.exc x).isSome, hd, er⟩
noncomputable def Kh (Q : KV) : KS := fun fl o' σ' => match fl with | .next => Q .none σ' | .ret v => Q v σ'
structure HasFd (G : Gd) (a : Addr) (df : List String × List St) : Prop where
  ex : ∃ o fd body, G.base.get? a = some o ∧ o.data = .func fd ∧ fd.body = .stmts body ∧ fd.defaults = .none ∧ fd.closure = [] ∧ fd.globals = mainGlobals ∧ fd.builtins = builtinsNs ∧
    G.base.CodeRec fd.code fd.qualname ∧ mFn df fd.params body fd.scope = true
theorem cells_some {x : Str} : ∀ (names : List (Str × NameKind)) (n : Nat) (acc : List (Str × Addr)), names.lookup x = some .cell ∨ (acc.lookup x).isSome = true → ((cellsFrom n names acc).lookup x).isSome = true
  | [], n, acc, h => by
    rcases h with h | h
    · cases h
    · exact h
  | (y, k) :: r, n, acc, h => by
    unfold cellsFrom
    split
    · refine cells_some r _ _ ?_
      by_cases q : x = y
      · subst q; right; rw [List.lookup_cons]; simp
      · rw [List.lookup_cons] at h
        have q' : (x == y) = false := by simpa using q
        rw [q'] at h
        rcases h with h | h
        · exact .inl h
        · right; rw [List.lookup_cons, q']; exact h
    · rename_i hk
      refine cells_some r _ _ ?_
      rcases h with h | h
      · rw [List.lookup_cons] at h
        split at h
        · cases h; simp at hk
        · exact .inl h
      · exact .inr h
theorem zip_lookup {names : List Str} {vals : List Value} (hn : names.Nodup) (hl : vals.length = names.length) : names.filterMap (fun n => ((names.zip vals).lookup n).map (n, ·)) = names.zip vals := by
  have key : ∀ (ns : List Str) (vs : List Value), ns.Nodup → vs.length = ns.length → ∀ (acc : List (Str × Value)), (∀ n ∈ ns, acc.lookup n = none) → ns.filterMap (fun n => ((acc ++ ns.zip vs).lookup n).map (n, ·)) = ns.zip vs := by
    intro ns
    induction ns with
    | nil => intro vs _ _ _ _; simp
    | cons n ns ih =>
      intro vs hn hl acc hacc
      cases vs with
      | nil => simp at hl
      | cons v vs =>
        have hn' := List.nodup_cons.mp hn
        rw [List.zip_cons_cons, List.filterMap_cons]
        have e : (acc ++ (n, v) :: ns.zip vs).lookup n = some v := by
          have : ∀ acc : List (Str × Value), acc.lookup n = none → (acc ++ (n, v) :: ns.zip vs).lookup n = some v := by
            intro acc
            induction acc with
            | nil => intro _; simp [List.lookup_cons]
            | cons p r ihr =>
              intro h
              rw [List.lookup_cons] at h
              rw [List.cons_append, List.lookup_cons]
              split
              · rename_i q; rw [q] at h; cases h
              · rename_i q; rw [q] at h; exact ihr h
          exact this acc (hacc n (by simp))
        rw [e]
        dsimp only [Option.map_some]
        congr 1
        have := ih vs hn'.2 (by simpa using hl) (acc ++ [(n, v)]) (fun m hm => by
          have h1 := hacc m (by simp [hm])
          have hne : m ≠ n := fun q => hn'.1 (q ▸ hm)
          have : ∀ acc : List (Str × Value), acc.lookup m = none → (acc ++ [(n, v)]).lookup m = none := by
            intro acc
            induction acc with
            | nil => intro _; simp [List.lookup_cons, show (m == n) = false from by simpa using hne]
            | cons p r ihr =>
              intro h
              rw [List.lookup_cons] at h
              rw [List.cons_append, List.lookup_cons]
              split
              · rename_i q; rw [q] at h; cases h
              · rename_i q; rw [q] at h; exact ihr h
          exact this acc h1)
        rw [List.append_assoc] at this
        exact this
  have := key names vals hn hl [] (fun o' o' => rfl)
  simpa using this
theorem zip_lookup_some {n : Str} : ∀ {names : List Str} {vals : List Value}, vals.length = names.length → n ∈ names → ((names.zip vals).lookup n).isNone = false
  | [], _, _, h => by simp at h
  | m :: names, [], hl, _ => by simp at hl
  | m :: names, v :: vals, hl, h => by
    rw [List.zip_cons_cons, List.lookup_cons]
    split
    · rfl
    · rename_i q
      rcases List.mem_cons.mp h with e | e
      · subst e; simp at q
      · exact zip_lookup_some (by simpa using hl) e
theorem for_none {M : Model} {A : Around} {E : Value → Shared → Prop} {s : Shared} {α β γ : Type} {l : List α} {b : β} {f : α → β → Sem (ForInStep β)} {k : β → Sem γ} {Q : γ → Shared → Prop} (hl : l = []) (h : wpAny M A (k b) Q E s) : wpAny M A (forIn l b f >>= k) Q E s := by
  subst hl; exact wpAny_bind (wpAny_pure h)
theorem seq_none {M : Model} {A : Around} {E : Value → Shared → Prop} {s : Shared} {v : Value} {Q : Option (Array Value) → Shared → Prop} (hv : v = .none) (h : Q none s) : wpAny M A (seqItems? v) Q E s := by
  subst hv; exact wpAny_pure h
theorem bindArgs_w {M : Model} {A : Around} {E : Value → Shared → Prop} {s : Shared} {fd : FuncData} {vals : List Value} (h1 : fd.params.posonlyargs = []) (h2 : fd.params.vararg = none) (h3 : fd.params.kwonlyargs = []) (h4 : fd.params.kwarg = none) (h5 : fd.defaults = .none)
    (hn : (fd.params.args.map (·.arg)).Nodup) (hl : vals.length = (fd.params.args.map (·.arg)).length) {Q : List (Str × Value) → Shared → Prop} (h : Q ((fd.params.args.map (·.arg)).zip vals) s) : wpAny M A (bindArgs fd ⟨vals, []⟩) Q E s := by
  have e1 : fd.params.posonlyargs.map (·.arg) ++ fd.params.args.map (·.arg) = fd.params.args.map (·.arg) := by rw [h1]; rfl
  unfold bindArgs
  refine wpAny_bind (wpAny_pure (wpAny_bind (seq_none h5 (wpAny_ite_false (decide_eq_false fun q => absurd (of_decide_eq_true (and2 q).1) (Nat.not_lt.mpr (Nat.le_of_eq (by rw [e1]; exact hl)))) (wpAny_ite_false (decide_eq_false fun q => ?_) (for_none ?_ (for_none (by rw [h3]; rfl) (wpAny_ite_false rfl ?_))))))))
  · have q : (!(List.filter (fun n => (((fd.params.posonlyargs.map (·.arg) ++ fd.params.args.map (·.arg)).zip vals).lookup n).isNone) ((fd.params.posonlyargs.map (·.arg) ++ fd.params.args.map (·.arg)).take ((fd.params.posonlyargs.map (·.arg) ++ fd.params.args.map (·.arg)).length - (List.drop (0 - (fd.params.posonlyargs.map (·.arg) ++ fd.params.args.map (·.arg)).length) ([] : List Value)).length))).isEmpty) = true := q
    rw [e1, List.filter_eq_nil_iff.mpr fun n hn' => by rw [show (((fd.params.args.map (·.arg)).zip vals).lookup n).isNone = false from zip_lookup_some hl (List.mem_of_mem_take hn')]; exact Bool.false_ne_true] at q
    cases q
  · show List.zip _ (List.drop _ []) = []
    rw [List.drop_nil, List.zip_nil_right]
  · rw [h2, h4]
    refine wpAny_pure ?_
    show Q ((fd.params.posonlyargs.map (fun x : Arg => x.arg) ++ fd.params.args.map (fun x : Arg => x.arg) ++ fd.params.kwonlyargs.map (fun x : Arg => x.arg)).filterMap fun n => (((fd.params.posonlyargs.map (fun x : Arg => x.arg) ++ fd.params.args.map (fun x : Arg => x.arg)).zip vals).lookup n).map (n, ·)) s
    rw [e1, h3, List.map_nil, List.append_nil, zip_lookup hn hl]
    exact h
theorem bindL_zip (kindOf : Str → Option NameKind) : ∀ (names : List String) (vals : List Value) (vs : List Val) (m : Str → Option Value) (ρ : Loc) (x : String) (V : Val), VsR vals vs → kindOf (Str.ofString x) = some .local →
    (ρ x = some V → ∃ v, m (Str.ofString x) = some v ∧ vval v = some V) → bindT names vs ρ x = some V → ∃ v, bindL kindOf ((names.map Str.ofString).zip vals) m (Str.ofString x) = some v ∧ vval v = some V
  | [], vals, vs, m, ρ, x, V, hv, hk, h0, h => by
    cases vs <;> exact h0 h
  | n :: names, vals, vs, m, ρ, x, V, hv, hk, h0, h => by
    cases vs with
    | nil => cases vals with
      | nil => exact h0 h
      | cons _ _ => simp [VsR] at hv
    | cons W vs =>
      cases vals with
      | nil => simp [VsR] at hv
      | cons v vals =>
        rw [VsR.cons] at hv
        refine bindL_zip kindOf names vals vs _ (upd ρ n W) x V hv.2 hk ?_ h
        intro hx
        by_cases q : x = n
        · subst q; simp [upd] at hx; subst hx
          exact ⟨v, by simp [hk], hv.1⟩
        · simp only [upd, q, if_false] at hx
          obtain ⟨v', g1, g2⟩ := h0 hx
          refine ⟨v', ?_, g2⟩
          have : Str.ofString x ≠ Str.ofString n := fun e => q (ofString_inj e)
          split <;> simp [this, g1]
theorem bindC_zip (kindOf : Str → Option NameKind) : ∀ (names : List String) (vals : List Value) (vs : List Val) (m : Str → Option Value) (ρ : Loc) (x : String) (V : Val), VsR vals vs → kindOf (Str.ofString x) = some .cell →
    (ρ x = some V → ∃ v, m (Str.ofString x) = some v ∧ vval v = some V) → bindT names vs ρ x = some V → ∃ v, bindC kindOf ((names.map Str.ofString).zip vals) m (Str.ofString x) = some v ∧ vval v = some V
  | [], vals, vs, m, ρ, x, V, hv, hk, h0, h => by
    cases vs <;> exact h0 h
  | n :: names, vals, vs, m, ρ, x, V, hv, hk, h0, h => by
    cases vs with
    | nil => cases vals with
      | nil => exact h0 h
      | cons _ _ => simp [VsR] at hv
    | cons W vs =>
      cases vals with
      | nil => simp [VsR] at hv
      | cons v vals =>
        rw [VsR.cons] at hv
        refine bindC_zip kindOf names vals vs _ (upd ρ n W) x V hv.2 hk ?_ h
        intro hx
        by_cases q : x = n
        · subst q; simp [upd] at hx; subst hx
          exact ⟨v, by simp [hk], hv.1⟩
        · simp only [upd, q, if_false] at hx
          obtain ⟨v', g1, g2⟩ := h0 hx
          refine ⟨v', ?_, g2⟩
          have : Str.ofString x ≠ Str.ofString n := fun e => q (ofString_inj e)
          split <;> simp [this, g1]
theorem lookup_apart {l : List (Str × Addr)} (h : l.Pairwise fun x y => x.2 ≠ y.2) {x y : Str} {a : Addr} (hx : l.lookup x = some a) (hy : l.lookup y = some a) : x = y := by
  induction l with
  | nil => cases hx
  | cons p r ih =>
    obtain ⟨h1, h2⟩ := List.pairwise_cons.mp h
    rw [List.lookup_cons] at hx hy
    split at hx
    · rename_i qx
      split at hy
      · rename_i qy; rw [beq_iff_eq] at qx qy; rw [qx, qy]
      · cases hx; exact absurd rfl (h1 (y, p.2) (mem_of_lookup hy))
    · split at hy
      · cases hy; exact absurd rfl (h1 (x, p.2) (mem_of_lookup hx))
      · exact ih h2 hx hy
theorem At.ret {c c' : Cx} {ρ ρ' : Loc} {σ σ' : Sto} {s s' : Shared} (x : At c ρ σ s) (y : At c' ρ' σ' s') (hG : c'.G = c.G) (hσ : c'.σ₀ = σ) {e : Env} (hfr : c'.fr = e :: c.fr) (hh : ∀ b o, s.heap.get? b = some o → c'.h₀.get? b = some o ∧ ¬ c'.own b) (hne : ∀ b o, s.heap.get? b = some o → e.frame ≠ some b) : At c ρ σ' s' := by
  have y2 : At { c' with fr := c.fr, h₀ := s.heap, own := fun o' => False } ρ' σ' s' := by
    refine ⟨y.stays, y.os, y.gens, y.sto, y.env, ?_, fun e' he => y.frN e' (by rw [hfr]; exact List.mem_cons_of_mem _ he), fun b o hb h1 o' => ?_, fun b o hb => ?_, fun b ob hb => ?_⟩
    · have := y.frs; rw [hfr] at this; exact this.2.2
    · obtain ⟨o', g1, g2⟩ := y.keep b o (hh b o hb).1 h1 (hh b o hb).2
      refine ⟨o', g1, g2.mono fun ⟨e', q1, q2⟩ => ⟨e', ?_, q2⟩⟩
      rw [hfr] at q1
      rcases List.mem_cons.mp q1 with q | q
      · rw [q] at q2; exact absurd q2 (hne b o hb)
      · exact q
    · exact y.alive b o (hh b o hb).1
    · rcases y.fresh b ob hb with h | h
      · exact .inl h
      · right
        cases q : s.heap.get? b with
        | none => rfl
        | some o => have := (hh b o q).1; rw [h] at this; cases this
  exact x.back y2 hG rfl rfl hσ fun o' h => h
structure Low (G : Gd) (fr : List Env) (σ : Sto) (s : Shared) : Prop where
  stays : G.base.StaysIn s.heap
  os : s.os = G.os
  gens : s.gens = G.gens
  sto : ∀ a ob, σ a = some ob → (G.base.get? a = none ∨ ob.isRo = true) ∧ ∃ o, s.heap.get? a = some o ∧ ObR G ob o
  frs : s.heap.FunFrames G.base fr
  frN : ∀ e ∈ fr, ∀ L, e.frame = some L → σ L = none
theorem At.low {c : Cx} {ρ : Loc} {σ : Sto} {s : Shared} (x : At c ρ σ s) : Low c.G c.fr σ s := ⟨x.stays, x.os, x.gens, x.sto, x.frs, x.frN⟩
theorem call_low {G : Gd} {a : Addr} {df : List String × List St} (H : HasFd G a df) {d : Nat} {hd : Bool} {vs : List Val} {σ : Sto} {Q : KV} {er : String → Sto → Prop} (hlen : vs.length = df.1.length)
    (hw : wpSs (WF G d) (G.gv hd er) df.2 (bindT df.1 vs fun o' => none) σ (Kh Q))
    {fr : List Env} (s : Shared) (vals : List Value) (A : Around) (hA : A.frames = some fr) (hAd : A.depth + 1 + 2 * d ≤ 900) (hAu : A.units + 3 + 20 * d ≤ 9000) (hAh : hd = false → A.handled = none) (ha : Low G fr σ s) (hvs : VsR vals vs)
    {R : Result → Shared → Prop} (hR : ∀ (c' : Cx) env ρ' v V σ' s', vval v = some V → c'.G = G → c'.σ₀ = σ → c'.fr = env :: fr → (∀ b o, s.heap.get? b = some o → c'.h₀.get? b = some o ∧ ¬ c'.own b) → (∀ b o, s.heap.get? b = some o → env.frame ≠ some b) → At c' ρ' σ' s' → Q V σ' → R (.ok (.ret v)) s')
    (hX : ∀ (c' : Cx) env ρ' e cl σ' s', c'.G = G → c'.σ₀ = σ → c'.fr = env :: fr → (∀ b o, s.heap.get? b = some o → c'.h₀.get? b = some o ∧ ¬ c'.own b) → (∀ b o, s.heap.get? b = some o → env.frame ≠ some b) → At c' ρ' σ' s' → ExcF c' e cl σ' s'.heap .none → er cl σ' → R (.error e) s') :
    codeAny (model G.prog G.w) A (.call (.ref a) ⟨vals, []⟩) R s := by
  refine Classical.byContradiction fun hG => ?_
  obtain ⟨o, fd, body, h1, h2, h3, h4, h5, h6, h7, h8, hm⟩ := H.ex
  refine hG ?_
  clear hG
  simp only [mFn, Bool.and_eq_true, List.isEmpty_iff, decide_eq_true_eq, beq_iff_eq, List.all_eq_true, Option.isNone_iff_eq_none, Bool.not_eq_true'] at hm
  refine Classical.byContradiction fun hG => ?_
  obtain ⟨⟨⟨⟨⟨⟨⟨⟨⟨⟨⟨⟨⟨⟨p1, p2⟩, p3⟩, p4⟩, p5⟩, p6⟩, p7⟩, p8⟩, p9⟩, p10⟩, p11⟩, p12⟩, p13⟩, p14⟩, p15⟩ := hm
  refine hG ?_
  clear hG
  replace p12 := dis_lookup p12
  have hvl : vals.length = vs.length := by have := congrArg List.length hvs; simpa using this
  have hnd : (fd.params.args.map (·.arg)).Nodup := by
    rw [← p7]; exact List.Pairwise.map _ (fun x y h e => h (ofString_inj e)) p14
  refine codeAny_call_function (by simp [recursionLimit]; lia) (ha.stays _ _ h1) h2 p9 p10 h3 (h8.keeps ha.stays) ?_
  refine bindArgs_w p1 p2 p3 p4 h4 hnd (by rw [hvl, hlen, ← p7]; simp) ?_
  rw [← p7]
  have hkind : ∀ n, ∀ x ∈ (df.1.map Str.ofString).zip vals, fd.scope.names.lookup x.1 = some .local ∨ (fd.scope.names.lookup x.1 = some .cell ∧ ((cellsFrom n fd.scope.names []).lookup x.1).isSome = true) := by
    intro n x hx
    have hx1 : x.1 ∈ df.1.map Str.ofString := (List.of_mem_zip hx).1
    obtain ⟨y, hy, e⟩ := List.mem_map.mp hx1
    have hv := p13 y hy
    simp only [isVar, Bool.and_eq_true, bne_iff_ne, ne_eq, Bool.or_eq_true, beq_iff_eq] at hv
    rw [← e]
    rcases hv.2 with h | h
    · exact .inl h
    · exact .inr ⟨h, cells_some _ _ _ (.inl h)⟩
  rw [h5]
  refine wpAny_newFunctionEnv_cells p8 (hkind _) fun env he s₁ X => ?_
  refine Classical.byContradiction fun hG => ?_
  obtain ⟨h₁, tk, hs₁, hk₁⟩ := X.done
  refine hG ?_
  clear hG
  have hfresh : s.heap.get? s.heap.objs.size = none := by
    cases e : s.heap.get? s.heap.objs.size with
    | none => rfl
    | some o => exact absurd (Heap.lt_size e) (Nat.lt_irrefl _)
  have none_of_fresh : ∀ b, s.heap.get? b = none → σ b = none := fun b hb => by
    cases e : σ b with
    | none => rfl
    | some ob => obtain ⟨_, o, h2, _⟩ := ha.sto b ob e; rw [hb] at h2; cases h2
  have ge_none : ∀ b, s.heap.objs.size ≤ b → s.heap.get? b = none := fun b hb => by
    cases e : s.heap.get? b with
    | none => rfl
    | some o' => exact absurd (Heap.lt_size e) (Nat.not_lt.mpr hb)
  have base_none : ∀ b, s.heap.get? b = none → G.base.get? b = none := fun b hb => by
    cases e : G.base.get? b with
    | none => rfl
    | some o' => have := ha.stays b o' e; rw [hb] at this; cases this
  refine ⟨(G.nolimit.keeps ha.stays).keeps (by rw [hs₁]; exact hk₁), codeAny_func ?_⟩
  have eL : env.locals = s.heap.objs.size := by rw [he]; rfl
  have eK : env.scope = fd.scope := by rw [he]; rfl
  have eF : env.frame = some env.locals := by rw [he]; rfl
  have eC : env.cells = cellsFrom (s.heap.objs.size + 1) fd.scope.names [] := by rw [he]; rfl
  have eG : env.globals = mainGlobals := by rw [he]; exact h6
  have eB : env.builtins = builtinsNs := by rw [he]; exact h7
  have ns := X.toInCall.ns
  refine Classical.byContradiction fun hG => ?_
  obtain ⟨oL, esL, epL, hoL, hdL, _⟩ := id ns
  refine hG ?_
  clear hG
  let c' : Cx := { G := G, d := d, hd := hd, err := er, A := A.deeper env, fr := env :: fr, env := env, own := fun b => b = env.locals ∨ ∃ x, env.cells.lookup x = some b, σ₀ := σ, h₀ := s₁.heap }
  have keep : ∀ b o, s.heap.get? b = some o → s₁.heap.get? b = some o := by rw [hs₁]; exact hk₁
  have cellHi : ∀ x b, env.cells.lookup x = some b → s.heap.get? b = none := fun x b hb => ge_none b (by have : env.locals < b := X.above x b (mem_of_lookup hb); rw [eL] at this; exact Nat.le_of_lt this)
  have hc' : CxOk c' := by
    refine ⟨fun b o e => keep b o (ha.stays b o e), fun b hb => ⟨fun q => ?_, fun x q => ?_, fun e he' q => ?_⟩, ?_, hAd, hAu, hAh, ⟨env, fr, env.locals, rfl, eF, eF⟩⟩
    · have hb : s₁.heap.get? b = none := hb
      have q : b = env.locals := q
      rw [q, hoL] at hb; cases hb
    · have hb : s₁.heap.get? b = none := hb
      obtain ⟨oc, hoc, _⟩ := X.cell x b q
      rw [hb] at hoc; cases hoc
    · have hb : s₁.heap.get? b = none := hb
      rcases List.mem_cons.mp he' with e' | e'
      · rw [e', eF] at q; cases q; rw [hoL] at hb; cases hb
      · obtain ⟨o', ho', _⟩ := (ha.frs.mem (List.mem_filterMap.mpr ⟨e, e', q⟩)).2
        rw [keep _ _ ho'] at hb; cases hb
    · show (A.deeper env).frames = some (env :: fr)
      simp only [Around.deeper, hA]; rfl
  have at' : At c' (bindT df.1 vs fun o' => none) σ s₁ := by
    refine ⟨fun b o e => keep b o (ha.stays b o e), by rw [hs₁]; exact ha.os, by rw [hs₁]; exact ha.gens, fun b ob e => ?_, ?_, ?_, ?_, fun b o e o' o' => ⟨o, e, .refl o⟩, fun b o e => ⟨o, e⟩, fun b ob e => .inl (by rw [show c'.σ₀ = σ from rfl, e]; simp)⟩
    · obtain ⟨g1, o', g2, g3⟩ := ha.sto b ob e; exact ⟨g1, o', keep _ _ g2, g3⟩
    · refine ⟨by rw [show c'.env = env from rfl, eK]; exact p8, eG, eB, ⟨_, ns, fun x V o' hx hV => ?_⟩, ?_, ?_, fun x hx => ?_, fun x y b hx hy => lookup_apart X.apart hx hy⟩
      · exact bindL_zip env.kindOf df.1 vals vs _ _ x V hvs hx (fun h => by cases h) hV
      · show σ env.locals = none
        rw [eL]; exact none_of_fresh _ hfresh
      · show G.base.get? env.locals = none
        rw [eL]; exact base_none _ hfresh
      · have hx' : fd.scope.names.lookup x = some .cell := by rw [← eK]; exact hx
        obtain ⟨b, hb⟩ := Option.isSome_iff_exists.mp (cells_some (x := x) fd.scope.names (s.heap.objs.size + 1) [] (.inl hx'))
        rw [← eC] at hb
        have hbn := cellHi x b hb
        refine ⟨b, _, hb, X.cell x b hb, none_of_fresh _ hbn, base_none _ hbn, fun y V hy hV => ?_⟩
        subst hy
        exact bindC_zip env.kindOf df.1 vals vs _ _ y V hvs hx (fun h => by cases h) hV
    · refine ⟨by rw [eK, p8]; simp, ⟨env.locals, oL, eF, by rw [eL]; exact base_none _ hfresh, hoL, fun v q => by rw [hdL] at q; cases q⟩, ?_⟩
      exact ha.frs.of_keeps fun b o e o' => ⟨o, keep _ _ e, rfl⟩
    · intro e he' L hL
      rcases List.mem_cons.mp he' with e' | e'
      · rw [e', eF] at hL; cases hL; rw [eL]; exact none_of_fresh _ hfresh
      · exact ha.frN e e' L hL
  have hm' : mSs c'.env.scope.names df.2 body = true := by rw [show c'.env = env from rfl, eK]; exact p15
  have hown' : Owns c' := ⟨fun b => Iff.rfl, ⟨fr, rfl⟩, eF⟩
  have old : ∀ b o, s.heap.get? b = some o → c'.h₀.get? b = some o ∧ ¬ c'.own b := fun b o e => ⟨keep b o e, fun q => by
    rcases q with q | ⟨x, q⟩
    · rw [q, eL, hfresh] at e; cases e
    · rw [cellHi x b q] at e; cases e⟩
  have hne : ∀ b o, s.heap.get? b = some o → env.frame ≠ some b := fun b o e q => by
    rw [eF, eL] at q; cases q; rw [hfresh] at e; cases e
  exact wpAny_mono (gf (sndSs df.2 c' _ σ s₁ _ body hc' hown' at' hm' hw) (fun ρ₂ σ₂ s₂ a2 h2 => hR c' env ρ₂ _ _ _ _ rfl rfl rfl rfl old hne a2 h2) fun v V ρ₂ σ₂ s₂ hV a2 h2 => hR c' env ρ₂ _ _ _ _ hV rfl rfl rfl old hne a2 h2) (fun o' o' h => h)
    fun e s₂ h => let ⟨cl, ρ₂, σ₂, a2, x2, h2⟩ := h; leave_snd (c := c') hc' a2 x2 fun s₃ a3 x3 => hX c' env ρ₂ e cl σ₂ s₃ rfl rfl rfl old hne a3 x3 h2
theorem call_fd {G : Gd} {a : Addr} {df : List String × List St} (H : HasFd G a df) {d : Nat} {hd : Bool} {vs : List Val} {σ : Sto} {Q : KV} {er : String → Sto → Prop} (hlen : vs.length = df.1.length)
    (hw : wpSs (WF G d) (G.gv hd er) df.2 (bindT df.1 vs fun o' => none) σ (Kh Q))
    (c : Cx) (ρ : Loc) (s : Shared) (vals : List Value) (hG : c.G = G) (hhd : c.hd = hd) (A : Around) (hA : A.frames = c.A.frames) (hAd : A.depth + 1 + 2 * d ≤ 900) (hAu : A.units + 3 + 20 * d ≤ 9000) (hAh : A.handled = c.A.handled) (hc : CxOk c) (ha : At c ρ σ s) (hvs : VsR vals vs)
    {R : Result → Shared → Prop} (hR : ∀ v V σ' s', vval v = some V → At c ρ σ' s' → Q V σ' → R (.ok (.ret v)) s') (hX : ∀ e cl σ' s', At c ρ σ' s' → ExcAt c e cl σ' s'.heap → er cl σ' → R (.error e) s') :
    codeAny (model G.prog G.w) A (.call (.ref a) ⟨vals, []⟩) R s := by
  subst hG
  exact call_low H hlen hw s vals A (hA.trans hc.frames) hAd hAu (fun h => hAh.trans (hc.handled (hhd.trans h))) ha.low hvs (fun c' env ρ' v V σ' s' hv h1 h2 h3 h4 hne h5 h6 => hR v V σ' s' hv (ha.ret h5 h1 h2 h3 h4 hne) h6)
    fun c' env ρ' e cl σ' s' h1 h2 h3 h4 hne h5 x h6 => hX e cl σ' s' (ha.ret h5 h1 h2 h3 h4 hne) ((x.down h1 fun b hb => by
      cases q : c.h₀.get? b with
      | none => rfl
      | some o => obtain ⟨o', ho'⟩ := ha.alive b o q; rw [(h4 b o' ho').1] at hb; cases hb).at_ (.inl rfl)) h6
theorem fn_ok {G : Gd} {f : String} {a : Addr} {df : List String × List St} (hf : G.mg (Str.ofString f) = some (.ref a)) (H : HasFd G a df) {d : Nat} {hd : Bool} {vs : List Val} {σ : Sto} {Q : KV} {er : String → Sto → Prop} (hlen : vs.length = df.1.length)
    (hw : wpSs (WF G d) (G.gv hd er) df.2 (bindT df.1 vs fun o' => none) σ (Kh Q)) : WF G (d + 1) hd f vs σ Q er := by
  intro c ρ s vals fv hG hd' hhd hc ha hvs hfv
  rw [hf] at hfv
  cases hfv
  have h1 := hc.room
  have h2 := hc.units
  rw [hd'] at h1 h2
  exact wpAny_call (call_fd H hlen hw c ρ s vals hG hhd c.A rfl (by lia) (by lia) rfl hc ha hvs (fun v V σ' s' hv ha' hq => ⟨V, σ', hv, ha', hq⟩) fun e cl σ' s' ha' x hq => ⟨cl, ρ, σ', ha', x, hq⟩)
theorem cls_ok {G : Gd} {f : String} {C fI : Addr} {df : List String × List St} (hf : G.mg (Str.ofString f) = some (.ref C)) (hcl : G.cls f = some C) (hmk : W.makesIn G.K C = true) (hi : W.findIn G.K (.ref C) "__init__" = some (some (.ref fI)))
    (hfn : W.typeIn G.K (.ref fI) = some (.type "function")) (H : HasFd G fI df) {d : Nat} {hd : Bool} {vs : List Val} {σ : Sto} {Q : KV} {er : String → Sto → Prop} (hlen : vs.length + 1 = df.1.length)
    (hw : ∀ dx x : Nat, σ dx = none → σ x = none → dx ≠ x → wpSs (WF G d) (G.gv hd er) df.2 (bindT df.1 (.ref x :: vs) fun o' => none) ((σ.set dx (.attrs [])).set x (.inst f dx)) (Kh fun v σ' => v = .none ∧ Q (.ref x) σ')) : WF G (d + 1) hd f vs σ Q er := by
  intro c ρ s vals fv hG hd' hdd hc ha hvs hfv
  rw [hf] at hfv
  cases hfv
  have h1 := hc.room
  have h2 := hc.units
  rw [hd'] at h1 h2
  subst hG
  refine wpAny_call ?_
  obtain ⟨hh, g, dr, t, os⟩ := s
  have X : c.G.K.In hh := kin_at ha
  refine W.make_core (W.makes_of X hmk) (W.looks_findIn X hi) (fun self => W.bind_fn X self hfn) (.inl rfl) ?_
  have n1 : hh.get? hh.objs.size = none := ha.size_none
  have n2 : (hh.push W.emptyDict).get? (hh.push W.emptyDict).objs.size = none := by
    cases e : (hh.push W.emptyDict).get? (hh.push W.emptyDict).objs.size with
    | none => rfl
    | some o => exact absurd (Heap.lt_size e) (Nat.lt_irrefl _)
  rw [Heap.size_push] at n2
  have a1 : At c ρ (σ.set hh.objs.size (.attrs [])) ⟨hh.push W.emptyDict, g, dr, t, os⟩ :=
    ha.alloc (s' := ⟨hh.push W.emptyDict, g, dr, t, os⟩) n1 (fun b o e => Heap.get?_push_of_some _ e) (Heap.get?_push_size _ rfl) ⟨[], 0, rfl, .nil, by simp⟩
  have a2 : At c ρ ((σ.set hh.objs.size (.attrs [])).set (hh.objs.size + 1) (.inst f hh.objs.size)) ⟨(hh.push W.emptyDict).push (W.instObj C hh.objs.size), g, dr, t, os⟩ :=
    a1.alloc (s' := ⟨(hh.push W.emptyDict).push (W.instObj C hh.objs.size), g, dr, t, os⟩) n2 (fun b o e => Heap.get?_push_of_some _ e) (by have := Heap.get?_push_size (hh.push W.emptyDict) (o := W.instObj C hh.objs.size) rfl; rw [Heap.size_push] at this; exact this) ⟨C, hcl, rfl⟩
  have n3 : σ (hh.objs.size + 1) = none := by
    have := a1.none_of_fresh n2
    rwa [Sto.set_other _ _ (by exact Nat.succ_ne_self _)] at this
  have hw' := hw hh.objs.size (hh.objs.size + 1) (ha.none_of_fresh n1) n3 (Nat.ne_of_lt (Nat.lt_succ_self _))
  refine call_fd (vs := .ref (hh.objs.size + 1) :: vs) H hlen hw' c ρ _ (.ref (hh.objs.size + 1) :: vals) rfl hdd (c.A.under (.builtin "type.__call__" ⟨.ref C :: vals, []⟩)) (by unfold Around.under; dsimp only; cases c.A.frames <;> rfl) ?_ ?_ rfl hc a2 (VsR.cons.mpr ⟨rfl, hvs⟩) ?_ fun e cl σ' s' ha' x hq => ⟨cl, ρ, σ', ha', x, hq⟩
  · rw [depth_under_make]; lia
  · rw [PyProof.Rows.units_under_make]; lia
  · intro v V σ' s' hv ha' hq
    rw [hq.1] at hv
    exact ⟨vval_none hv, ⟨_, σ', rfl, ha', hq.2⟩⟩
end BP

namespace BP
open PySem PyProof.Rows
theorem clsOf_inv {d : Data} {c : ClassData} (h : clsOf d = some c) : d = .cls c := by
  cases d <;> first | exact congrArg Data.cls (Option.some.inj h) | exact nomatch h
theorem funOf_inv {d : Data} {c : FuncData} (h : funOf d = some c) : d = .func c := by
  cases d <;> first | exact congrArg Data.func (Option.some.inj h) | exact nomatch h
theorem refOf_inv {d : Value} {c : Addr} (h : refOf d = some c) : d = .ref c := by
  cases d <;> first | exact congrArg Value.ref (Option.some.inj h) | exact nomatch h
theorem bodyOf_inv {d : FuncBody} {c : List PySem.Stmt} (h : bodyOf d = some c) : d = .stmts c := by
  cases d <;> first | exact congrArg FuncBody.stmts (Option.some.inj h) | exact nomatch h
theorem any_of {α : Type} {o : Option α} {f : α → Bool} (h : o.any f = true) : ∃ a, o = some a ∧ f a = true := by
  cases o with
  | none => exact nomatch h
  | some a => exact ⟨a, rfl, h⟩
theorem bind_ref {o : Option (Option Value)} {a : Addr} (h : (o.bind fun o => o.bind refOf) = some a) : o = some (some (.ref a)) := by
  cases o with
  | none => exact nomatch h
  | some p => cases p with
    | none => exact nomatch h
    | some v => rw [refOf_inv h]
theorem refB_mg {K : W.Frag} {h : Heap} {mg : Str → Option Value} {x : String} {a : Addr} (X : K.In h) (g : h.Ns mainGlobals mg) (e : refB K x = some a) : mg (Str.ofString x) = some (.ref a) := W.mg_of X g (bind_ref e)
theorem fdB_has {G : Gd} {a : Addr} {df : List String × List St} (e : fdB G.K a df = true) : HasFd G a df := by
  obtain ⟨o, q, e⟩ := any_of e
  obtain ⟨fd, hd, e⟩ := any_of e
  obtain ⟨body, hb, e⟩ := any_of e
  obtain ⟨⟨⟨⟨⟨e1, e2⟩, e3⟩, e4⟩, e5⟩, e6⟩ := and6 e
  exact ⟨⟨o, fd, body, G.kin _ _ q, funOf_inv hd, bodyOf_inv hb, beq_iff_eq.mp e2, List.isEmpty_iff.mp e3, beq_iff_eq.mp e4, beq_iff_eq.mp e5, W.codeRec_of G.kin e6, e1⟩⟩
theorem fnB_ok {G : Gd} {f : String} {df : List String × List St} (e : fnB G.K f df = true) {d : Nat} {hd : Bool} {vs : List Val} {σ : Sto} {Q : KV} {er : String → Sto → Prop} (hlen : vs.length = df.1.length)
    (hw : wpSs (WF G d) (G.gv hd er) df.2 (bindT df.1 vs fun o' => none) σ (Kh Q)) : WF G (d + 1) hd f vs σ Q er :=
  let ⟨a, q, e⟩ := any_of e
  fn_ok (refB_mg G.kin G.g q) (fdB_has e) hlen hw
theorem makeB_ok {G : Gd} {f : String} {C : Addr} {df : List String × List St} (hr : refB G.K f = some C) (hc : G.cls f = some C) (e : makeB G.K C df = true) {d : Nat} {hd : Bool} {vs : List Val} {σ : Sto} {Q : KV} {er : String → Sto → Prop} (hlen : vs.length + 1 = df.1.length)
    (hw : ∀ dx x : Nat, σ dx = none → σ x = none → dx ≠ x → wpSs (WF G d) (G.gv hd er) df.2 (bindT df.1 (.ref x :: vs) fun o' => none) ((σ.set dx (.attrs [])).set x (.inst f dx)) (Kh fun v σ' => v = .none ∧ Q (.ref x) σ')) : WF G (d + 1) hd f vs σ Q er :=
  let ⟨fI, q, e2⟩ := any_of (and2 e).2
  cls_ok (refB_mg G.kin G.g hr) hc (and2 e).1 (bind_ref q) (beq_iff_eq.mp (and2 e2).1) (fdB_has (and2 e2).2) hlen hw
theorem dictOf_inv {d : Data} {p : Array DictEntry × Nat} (h : dictOf d = some p) : d = .dict p.1 p.2 := by
  cases d <;> first | exact congrArg (fun p : Array DictEntry × Nat => Data.dict p.1 p.2) (Option.some.inj h) | exact nomatch h
theorem strV_inv {v : Value} (h : strV v = true) : ∃ n t, v = .str n t := by
  cases v <;> first | exact ⟨_, _, rfl⟩ | exact nomatch h
theorem nsB_of {K : W.Frag} {h : Heap} {N : Addr} (X : K.In h) (e : nsB K N = true) : ∃ m, h.Ns N m ∧ ∀ n ∈ xNames, m n = none := by
  obtain ⟨o, ho, e⟩ := any_of e
  obtain ⟨p, hd, e⟩ := any_of e
  refine ⟨nsFind p.1, ⟨o, p.1, p.2, X _ _ ho, dictOf_inv hd, fun a ha => strV_inv (List.all_eq_true.mp (and2 e).1 a (Array.mem_toList_iff.mpr ha)), fun o' => rfl⟩, fun n hn => ?_⟩
  unfold nsFind findBy
  rw [← Array.find?_toList, Option.isNone_iff_eq_none.mp (List.all_eq_true.mp (and2 e).2 n hn)]; rfl
theorem tailB_of {K : W.Frag} {h : Heap} (X : K.In h) {l : List Value} (e : tailB K l = true) : TailX h veMro l := by
  induction l with
  | nil => exact Bool.noConfusion e
  | cons v r ih =>
    rcases Bool.or_eq_true_iff.mp e with q | q
    · rw [beq_iff_eq.mp q]; exact .base
    · obtain ⟨A, hA, q⟩ := any_of q
      obtain ⟨o, ho, q⟩ := any_of q
      obtain ⟨cd, hd, q⟩ := any_of q
      obtain ⟨q1, q2⟩ := and2 q
      obtain ⟨m, hm, hq⟩ := nsB_of X q1
      obtain ⟨oc, od, dt, sl⟩ := o
      rw [refOf_inv hA]
      cases clsOf_inv hd
      exact .own (X _ _ ho) hm hq (ih q2)
theorem exc_eq {o : Obj} {cd : ClassData} {C : Addr} {bm : List Value} {sl : Array (Option Value)} (h0 : o.slots = sl) (h1 : cd.mro = .ref C :: bm) (h2 : o.cls = .type "type") (h3 : cd.hasDel = false) (h4 : o.data = .cls cd) : o = ⟨.type "type", o.dict, .cls ⟨cd.name, cd.bases, .ref C :: bm, cd.ns, cd.qualname, cd.hasDict, cd.slotNames, cd.subclasses, cd.abstract, cd.collection, false⟩, sl⟩ := by
  rw [← h0, ← h1, ← h2, ← h3]
  show o = ⟨o.cls, o.dict, .cls cd, o.slots⟩
  rw [← h4]
theorem excB_of {K : W.Frag} {h : Heap} {C : Addr} {bm : List Value} (X : K.In h) (q : excB K C bm = true) : XCls h C bm veMro "ValueError.__new__" := by
  obtain ⟨o, ho, q⟩ := any_of q
  obtain ⟨cd, hcd, q⟩ := any_of q
  have q := and6 q
  have ⟨m, hm, hq⟩ := nsB_of X q.2
  exact ⟨cd.ns, cd.name, cd.qualname, cd.bases, cd.hasDict, cd.slotNames, cd.subclasses, cd.abstract, cd.collection, o.dict, _, _, _, _, _, m, (X _ _ ho).trans (congrArg some (exc_eq (beq_iff_eq.mp q.1.1.1.1.1) (beq_iff_eq.mp q.1.1.1.1.2) (beq_iff_eq.mp q.1.1.1.2) (beq_iff_eq.mp q.1.1.2) (clsOf_inv hcd))), hm, hq, tailB_of X q.1.2⟩
noncomputable def mkGd (prog : Program) (w : World) (s : Shared) (mg mb : Str → Option Value) (K : W.Frag) (KX : K.In s.heap) (g : s.heap.Ns mainGlobals mg) (b : s.heap.Ns builtinsNs mb) (bi : ∀ x : Str, x ≠ "__name__" → mb x = bootBuiltins x) (nl : s.heap.NoLimit)
    (hfree : bNames.all (freeB K) = true) (fns : List String) (hcal : fns.all (calB K) = true) (xs : List String) (hxs : excsB K xs = true) (cls : String → Option Addr) (hcls : ∀ c C, cls c = some C → clsB K C = true) (hmods : (K.lookup sysModules).isSome = true) : Gd where
  prog := prog
  w := w
  base := s.heap
  mg := mg
  mb := mb
  os := s.os
  gens := s.gens
  g := g
  b := b
  bi := bi
  nolimit := nl
  free := fun x hx => W.mg_none_of KX g (beq_iff_eq.mp (List.all_eq_true.mp hfree x hx))
  K := K
  kin := KX
  exc := fun c => if xs.contains c then refB K c else none
  excOk := fun c C h => by
    have hc : xs.contains c = true ∧ refB K c = some C := by
      by_cases q : xs.contains c = true
      · rw [if_pos q] at h; exact ⟨q, h⟩
      · rw [if_neg q] at h; cases h
    have hx := List.all_eq_true.mp hxs c (by simpa using hc.1)
    rw [hc.2] at hx
    obtain ⟨h1, h2⟩ := and2 hx
    refine ⟨refB_mg KX g hc.2, mroB K C, excB_of KX h1, fun d D hd => ?_⟩
    have hd' : xs.contains d = true ∧ refB K d = some D := by
      by_cases q : xs.contains d = true
      · rw [if_pos q] at hd; exact ⟨q, hd⟩
      · rw [if_neg q] at hd; cases hd
    have h3 := List.all_eq_true.mp h2 d (by simpa using hd'.1)
    rw [hd'.2] at h3
    exact beq_iff_eq.mp h3
  cls := cls
  clsOk := fun c C h => by
    have := hcls c C h
    simp only [clsB, Bool.and_eq_true, beq_iff_eq, List.all_eq_true] at this
    exact ⟨this.1.1.1.1, this.1.1.1.2, this.1.1.2, this.1.2, this.2⟩
  mods := by
    obtain ⟨o, ho⟩ := Option.isSome_iff_exists.mp hmods
    exact ⟨o, KX _ _ ho⟩
  fns := fns
  callee := fun f hf => by
    have := List.all_eq_true.mp hcal f hf
    obtain ⟨a, q, this⟩ := any_of this
    refine ⟨_, refB_mg KX g q, fun M A s' Q E hs hQ => ?_⟩
    obtain ⟨k, hk, L⟩ := W.looks_keep (M := M) this (KX.keeps hs)
    exact L.here (hQ k hk)
theorem top_call {G : Gd} {s : Shared} (hb : G.base = s.heap) (ho : s.os = G.os) (hg : s.gens = G.gens) {a : Addr} {df : List String × List St} (H : fdB G.K a df = true) {d : Nat} (hd : 2 * d ≤ 500) {vs : List Val} (hlen : vs.length = df.1.length) {σ : Sto} (hσ : ∀ a ob, σ a = some ob → ob.isRo = true ∧ ∃ o, s.heap.get? a = some o ∧ ObR G ob o)
    (hw : wpSs (WF G d) (G.gv false fun o' o' => False) df.2 (bindT df.1 vs fun o' => none) σ (Kh fun v o' => v = .bool true)) {vals : List Value} (hv : VsR vals vs)
    {R : Result → Shared → Prop} (hR : ∀ s', (∀ b o, s.heap.get? b = some o → s'.heap.get? b = some o) → s'.os = s.os → s'.gens = s.gens → R (.ok (.ret (.bool true))) s') :
    codeAny (model G.prog G.w) callerA (.call (.ref a) ⟨vals, []⟩) R s := by
  refine call_low (Q := fun v o' => v = .bool true) (fdB_has H) hlen hw s vals callerA rfl ?_ ?_ (fun o' => rfl) ⟨?_, ho, hg, (fun a ob h => ⟨.inr (hσ a ob h).1, (hσ a ob h).2⟩), trivial, (fun e he => by simp at he)⟩ hv ?_ (fun o' o' o' o' o' o' o' o' o' o' o' o' o' o' h => h.elim)
  · show 1 + claimMargin + 1 + 2 * d ≤ 900
    simp only [claimMargin]; lia
  · show 4 + 3 + 20 * d ≤ 9000
    lia
  · rw [hb]; exact fun o' o' e => e
  · intro c' env ρ' v V σ' s' hv h1 h2 h3 h4 hne h5 h6
    subst h6
    rw [vval_bool hv]
    refine hR s' (fun b o e => ?_) (h5.os.trans (by rw [h1]; exact ho.symm)) (h5.gens.trans (by rw [h1]; exact hg.symm))
    have := h5.stays
    rw [h1, hb] at this
    exact this b o e
end BP

namespace BP
open PySem
noncomputable def Ext (σ σ' : Sto) : Prop := ∀ a ob, σ a = some ob → σ' a = some ob
theorem Ext.refl (σ : Sto) : Ext σ σ := fun o' o' h => h
theorem Ext.trans {σ σ' σ'' : Sto} (h : Ext σ σ') (h' : Ext σ' σ'') : Ext σ σ'' := fun a ob e => h' a ob (h a ob e)
theorem Ext.set {σ : Sto} {a : Nat} (h : σ a = none) (ob : Ob) : Ext σ (σ.set a ob) := fun b ob' e => by
  unfold Sto.set
  split
  · rename_i q; rw [q, h] at e; cases e
  · exact e
theorem set_at (σ : Sto) (a : Nat) (ob : Ob) : σ.set a ob a = some ob := by simp [Sto.set]
theorem set_ne (σ : Sto) {a b : Nat} (ob : Ob) (h : b ≠ a) : σ.set a ob b = σ b := by simp [Sto.set, h]
mutual
theorem Has.ext {σ σ' : Sto} (h : Ext σ σ') : ∀ {d : Dat} {v : Val}, Has σ d v → Has σ' d v
  | .none, v, x => x
  | .bool _, v, x => x
  | .int _, v, x => x
  | .list ds, v, x => by
    simp only [Has] at *
    obtain ⟨a, xs, h1, h2, h3⟩ := x
    exact ⟨a, xs, h1, h a _ h2, HasL.ext h h3⟩
  | .tup ds, v, x => by
    simp only [Has] at *
    obtain ⟨a, xs, h1, h2, h3⟩ := x
    exact ⟨a, xs, h1, h a _ h2, HasL.ext h h3⟩
theorem HasL.ext {σ σ' : Sto} (h : Ext σ σ') : ∀ {ds : List Dat} {xs : List Val}, HasL σ ds xs → HasL σ' ds xs
  | [], xs, x => x
  | d :: ds, xs, x => by
    simp only [HasL] at *
    obtain ⟨y, ys, h1, h2, h3⟩ := x
    exact ⟨y, ys, h1, Has.ext h h2, HasL.ext h h3⟩
end
theorem HasL.cons {σ : Sto} {d : Dat} {ds : List Dat} {x : Val} {xs : List Val} : HasL σ (d :: ds) (x :: xs) ↔ Has σ d x ∧ HasL σ ds xs := by
  simp only [HasL]
  constructor
  · rintro ⟨y, ys, e, h1, h2⟩; cases e; exact ⟨h1, h2⟩
  · rintro ⟨h1, h2⟩; exact ⟨x, xs, rfl, h1, h2⟩
theorem HasL.nil {σ : Sto} : HasL σ [] [] := by simp [HasL]
theorem hasL_ints {σ : Sto} : ∀ {ns : List Int}, HasL σ (ns.map .int) (ns.map .int)
  | [] => HasL.nil
  | n :: ns => by rw [List.map_cons, List.map_cons, HasL.cons]; exact ⟨rfl, hasL_ints⟩
theorem hasL_ints_eq {σ : Sto} : ∀ {ns : List Int} {xs : List Val}, HasL σ (ns.map .int) xs → xs = ns.map .int
  | [], xs, h => by simpa [HasL] using h
  | n :: ns, xs, h => by
    simp only [List.map_cons, HasL] at h
    obtain ⟨y, ys, rfl, h1, h2⟩ := h
    simp only [Has] at h1
    rw [h1, hasL_ints_eq h2, List.map_cons]
theorem hasL_get {σ : Sto} : ∀ {ds : List Dat} {xs : List Val}, HasL σ ds xs → ∀ {i : Nat} {d : Dat}, ds[i]? = some d → ∃ x, xs[i]? = some x ∧ Has σ d x
  | [], xs, h, i, d, e => by simp at e
  | d' :: ds, xs, h, i, d, e => by
    simp only [HasL] at h
    obtain ⟨y, zs, rfl, h1, h2⟩ := h
    cases i with
    | zero => simp at e; subst e; exact ⟨y, by simp, h1⟩
    | succ i => simp at e; obtain ⟨x, g1, g2⟩ := hasL_get h2 e; exact ⟨x, by simpa using g1, g2⟩
mutual
noncomputable def HasF (ok : Nat → Prop) (σ : Sto) : Dat → Val → Prop
  | .none, v => v = .none
  | .bool b, v => v = .bool b
  | .int i, v => v = .int i
  | .list ds, v => ∃ a xs, v = .ref a ∧ ok a ∧ σ a = some (.list xs) ∧ HasFL ok σ ds xs
  | .tup ds, v => ∃ a xs, v = .ref a ∧ ok a ∧ σ a = some (.tup xs) ∧ HasFL ok σ ds xs
noncomputable def HasFL (ok : Nat → Prop) (σ : Sto) : List Dat → List Val → Prop
  | [], xs => xs = []
  | d :: ds, xs => ∃ y ys, xs = y :: ys ∧ HasF ok σ d y ∧ HasFL ok σ ds ys
end
mutual
theorem HasF.has {ok : Nat → Prop} {σ : Sto} : ∀ {d : Dat} {v : Val}, HasF ok σ d v → Has σ d v
  | .none, v, x => x
  | .bool _, v, x => x
  | .int _, v, x => x
  | .list ds, v, x => by
    simp only [Has, HasF] at *
    obtain ⟨a, xs, h1, _, h2, h3⟩ := x
    exact ⟨a, xs, h1, h2, HasFL.has h3⟩
  | .tup ds, v, x => by
    simp only [Has, HasF] at *
    obtain ⟨a, xs, h1, _, h2, h3⟩ := x
    exact ⟨a, xs, h1, h2, HasFL.has h3⟩
theorem HasFL.has {ok : Nat → Prop} {σ : Sto} : ∀ {ds : List Dat} {xs : List Val}, HasFL ok σ ds xs → HasL σ ds xs
  | [], xs, x => by simpa [HasL, HasFL] using x
  | d :: ds, xs, x => by
    simp only [HasL, HasFL] at *
    obtain ⟨y, ys, h1, h2, h3⟩ := x
    exact ⟨y, ys, h1, HasF.has h2, HasFL.has h3⟩
end
mutual
theorem Has.hasF {σ : Sto} : ∀ {d : Dat} {v : Val}, Has σ d v → HasF (fun o' => True) σ d v
  | .none, v, x => x
  | .bool _, v, x => x
  | .int _, v, x => x
  | .list ds, v, x => by
    simp only [Has, HasF] at *
    obtain ⟨a, xs, h1, h2, h3⟩ := x
    exact ⟨a, xs, h1, trivial, h2, HasL.hasF h3⟩
  | .tup ds, v, x => by
    simp only [Has, HasF] at *
    obtain ⟨a, xs, h1, h2, h3⟩ := x
    exact ⟨a, xs, h1, trivial, h2, HasL.hasF h3⟩
theorem HasL.hasF {σ : Sto} : ∀ {ds : List Dat} {xs : List Val}, HasL σ ds xs → HasFL (fun o' => True) σ ds xs
  | [], xs, x => by simpa [HasL, HasFL] using x
  | d :: ds, xs, x => by
    simp only [HasL, HasFL] at *
    obtain ⟨y, ys, h1, h2, h3⟩ := x
    exact ⟨y, ys, h1, Has.hasF h2, HasL.hasF h3⟩
end
mutual
theorem HasF.move {ok ok' : Nat → Prop} {σ σ' : Sto} (h : ∀ a ob, ok a → σ a = some ob → σ' a = some ob) (h' : ∀ a, ok a → ok' a) : ∀ {d : Dat} {v : Val}, HasF ok σ d v → HasF ok' σ' d v
  | .none, v, x => x
  | .bool _, v, x => x
  | .int _, v, x => x
  | .list ds, v, x => by
    simp only [HasF] at *
    obtain ⟨a, xs, h1, h0, h2, h3⟩ := x
    exact ⟨a, xs, h1, h' a h0, h a _ h0 h2, HasFL.move h h' h3⟩
  | .tup ds, v, x => by
    simp only [HasF] at *
    obtain ⟨a, xs, h1, h0, h2, h3⟩ := x
    exact ⟨a, xs, h1, h' a h0, h a _ h0 h2, HasFL.move h h' h3⟩
theorem HasFL.move {ok ok' : Nat → Prop} {σ σ' : Sto} (h : ∀ a ob, ok a → σ a = some ob → σ' a = some ob) (h' : ∀ a, ok a → ok' a) : ∀ {ds : List Dat} {xs : List Val}, HasFL ok σ ds xs → HasFL ok' σ' ds xs
  | [], xs, x => by simpa [HasFL] using x
  | d :: ds, xs, x => by
    simp only [HasFL] at *
    obtain ⟨y, ys, h1, h2, h3⟩ := x
    exact ⟨y, ys, h1, HasF.move h h' h2, HasFL.move h h' h3⟩
end
theorem HasF.ext {ok : Nat → Prop} {σ σ' : Sto} (h : Ext σ σ') {d : Dat} {v : Val} (x : HasF ok σ d v) : HasF ok σ' d v := x.move (fun a ob o' e => h a ob e) fun o' q => q
theorem HasFL.ext {ok : Nat → Prop} {σ σ' : Sto} (h : Ext σ σ') {ds : List Dat} {xs : List Val} (x : HasFL ok σ ds xs) : HasFL ok σ' ds xs := x.move (fun a ob o' e => h a ob e) fun o' q => q
theorem HasFL.cons {ok : Nat → Prop} {σ : Sto} {d : Dat} {ds : List Dat} {x : Val} {xs : List Val} : HasFL ok σ (d :: ds) (x :: xs) ↔ HasF ok σ d x ∧ HasFL ok σ ds xs := by
  simp only [HasFL]
  constructor
  · rintro ⟨y, ys, e, h1, h2⟩; cases e; exact ⟨h1, h2⟩
  · rintro ⟨h1, h2⟩; exact ⟨x, xs, rfl, h1, h2⟩
theorem HasFL.nil {ok : Nat → Prop} {σ : Sto} : HasFL ok σ [] [] := by simp [HasFL]
theorem hasFL_ints {ok : Nat → Prop} {σ : Sto} : ∀ {ns : List Int}, HasFL ok σ (ns.map .int) (ns.map .int)
  | [] => HasFL.nil
  | n :: ns => by rw [List.map_cons, List.map_cons, HasFL.cons]; exact ⟨rfl, hasFL_ints⟩
abbrev new (σ : Sto) : Nat → Prop := fun a => σ a = none
theorem Ext.new {σ σ' : Sto} (e : Ext σ σ') {a : Nat} (h : σ' a = none) : σ a = none := by
  cases q : σ a with
  | none => rfl
  | some ob => rw [e a ob q] at h; cases h
theorem newF_list {ok : Nat → Prop} {σ : Sto} {a : Nat} {ds : List Dat} {xs : List Val} (hn : σ a = none) (ha : ok a) (h : HasFL ok σ ds xs) : HasF ok (σ.set a (.list xs)) (.list ds) (.ref a) := by
  simp only [HasF]
  exact ⟨a, xs, rfl, ha, set_at _ _ _, h.ext (.set hn _)⟩
theorem newF_tup {ok : Nat → Prop} {σ : Sto} {a : Nat} {ds : List Dat} {xs : List Val} (hn : σ a = none) (ha : ok a) (h : HasFL ok σ ds xs) : HasF ok (σ.set a (.tup xs)) (.tup ds) (.ref a) := by
  simp only [HasF]
  exact ⟨a, xs, rfl, ha, set_at _ _ _, h.ext (.set hn _)⟩
noncomputable def ilist (ns : List Int) : Dat := .list (ns.map .int)
theorem ilist_has {σ : Sto} {ns : List Int} {v : Val} : Has σ (ilist ns) v ↔ ∃ a, v = .ref a ∧ σ a = some (.list (ns.map .int)) := by
  simp only [ilist, Has]
  constructor
  · rintro ⟨a, xs, h1, h2, h3⟩; exact ⟨a, h1, by rw [h2, hasL_ints_eq h3]⟩
  · rintro ⟨a, h1, h2⟩; exact ⟨a, _, h1, h2, hasL_ints⟩
@[simp] theorem upd_same (ρ : Loc) (x : String) (v : Val) : upd ρ x v x = some v := by simp [upd]
@[simp] theorem upd_ne (ρ : Loc) {x y : String} (v : Val) (h : y ≠ x) : upd ρ x v y = ρ y := by simp [upd, h]
theorem turns_list {σ : Sto} {a : Nat} {xs : List Val} (h : σ a = some (.list xs)) : turnsOf σ (.ref a) 1 = some (xs.map fun v => [v]) := by
  show (itemsO (σ a)).map _ = _
  rw [h]; rfl
theorem stay_list {σ σ' : Sto} {a : Nat} {xs : List Val} (h : σ a = some (.list xs)) (h' : σ' a = some (.list xs)) : stay σ (.ref a) 1 (xs.map fun v => [v]) σ' := ⟨fun b e => by cases e; rw [h, h'], turns_list h'⟩
theorem bcall_len {σ : Sto} {a : Nat} {xs : List Val} (h : σ a = some (.list xs)) (Q : KV) : bcallW .len [.ref a] σ Q = Q (.int xs.length) σ := by simp [bcallW, h]
theorem bcall_all {σ : Sto} {a : Nat} {bs : List Bool} (h : σ a = some (.list (bs.map .bool))) {Q : KV} (hQ : Q (.bool (bs.all id)) σ) : bcallW .all [.ref a] σ Q := by simp only [bcallW, ref1, h, onL]; exact ⟨bs, rfl, hQ⟩
theorem bcall_list {σ : Sto} {a : Nat} {xs : List Val} (h : σ a = some (.list xs)) (Q : KV) : bcallW .list [.ref a] σ Q = newW σ (.list xs) Q := by simp [bcallW, h]
theorem pyEq_int (i j : Int) : pyEq (.int i) (.int j) = decide (i = j) := by simp only [pyEq]; by_cases q : i = j <;> simp [q]
theorem subW_list {σ : Sto} {a : Nat} {xs : List Val} (h : σ a = some (.list xs)) {k : Int} {x : Val} (hx : getPos xs k = some x) {Q : KV} (hQ : Q x σ) : subW (.ref a) (.int k) σ Q := by
  show subO (σ a) _ _ _
  rw [h]
  show onS1 (getPos xs k) _
  rw [hx]; exact hQ
theorem subW_tup {σ : Sto} {a : Nat} {xs : List Val} (h : σ a = some (.tup xs)) {k : Int} {x : Val} (h0 : 0 ≤ k) (hx : getPos xs k = some x) {Q : KV} (hQ : Q x σ) : subW (.ref a) (.int k) σ Q := by
  show subO (σ a) _ _ _
  rw [h]
  refine ⟨h0, ?_⟩
  rw [hx]; exact hQ
theorem getIdx_nat {α : Type} {xs : List α} {k : Nat} : getPos xs (k : Int) = xs[k]? := by rw [getPos, if_pos (Int.natCast_nonneg k)]; rfl
theorem has_new_list {σ : Sto} {a : Nat} {ds : List Dat} {xs : List Val} (hn : σ a = none) (h : HasL σ ds xs) : Has (σ.set a (.list xs)) (.list ds) (.ref a) := by
  simp only [Has]
  exact ⟨a, xs, rfl, set_at _ _ _, h.ext (.set hn _)⟩
theorem has_new_tup {σ : Sto} {a : Nat} {ds : List Dat} {xs : List Val} (hn : σ a = none) (h : HasL σ ds xs) : Has (σ.set a (.tup xs)) (.tup ds) (.ref a) := by
  simp only [Has]
  exact ⟨a, xs, rfl, set_at _ _ _, h.ext (.set hn _)⟩
end BP

namespace BP
open PySem
noncomputable def lit (s : String) : List Nat := s.toList.map Char.toNat
theorem lit_is (s : String) : (Str.ofString s).cps.toList = lit s := by rw [Str.ofString_eq_toList]; simp [lit]
abbrev Glo.at (g : Glo) (hd : Bool) (er : String → Sto → Prop) : Glo := { g with hd := hd, err := er }
section
variable (F : CallW) (gv : Glo)
noncomputable def kBool (Q : KV) (σ : Sto) : Bool → Prop := fun b => Q (.bool b) σ
noncomputable def kNot (Q : KV) : KV := fun v σ => truthyW σ v fun b => Q (.bool (!b)) σ
noncomputable def kIte (t f : Ex) (ρ : Loc) (Q : KV) : KV := fun v σ => truthyW σ v fun b => if b = true then wpE F gv t ρ σ Q else wpE F gv f ρ σ Q
noncomputable def kBin2 (op : OpB) (a : Val) (Q : KV) : KV := fun b σ => binW op a b σ Q
noncomputable def kBin1 (op : OpB) (r : Ex) (ρ : Loc) (Q : KV) : KV := fun a σ => wpE F gv r ρ σ (kBin2 op a Q)
noncomputable def kCmp2 (op : OpC) (v : Val) (Q : KV) : KV := fun w σ => cmpW op v w σ (kBool Q σ)
noncomputable def kCmp1 (op : OpC) (r : Ex) (ρ : Loc) (Q : KV) : KV := fun v σ => wpE F gv r ρ σ (kCmp2 op v Q)
noncomputable def kC2 (op op' : OpC) (v : Val) (r : Ex) (ρ : Loc) (Q : KV) : KV := fun w σ => cmpW op v w σ fun b => if b = true then wpE F gv r ρ σ (kCmp2 op' w Q) else Q (.bool b) σ
noncomputable def kC1 (op op' : OpC) (m r : Ex) (ρ : Loc) (Q : KV) : KV := fun v σ => wpE F gv m ρ σ (kC2 F gv op op' v r ρ Q)
noncomputable def kB (h : Bool) (es : List Ex) (ρ : Loc) (Q : KV) : KV := fun v σ => truthyW σ v fun b => if b = h then Q v σ else wpB F gv h es ρ σ Q
noncomputable def kList (Q : KV) : List Val → Sto → Prop := fun vs σ => vs.length ≤ lim ∧ newW σ (.list vs) Q
noncomputable def kTup (Q : KV) : List Val → Sto → Prop := fun vs σ => vs.length ≤ lim ∧ newW σ (.tup vs) Q
noncomputable def kCall (hd : Bool) (er : String → Sto → Prop) (f : String) (Q : KV) : List Val → Sto → Prop := fun vs σ => F hd f vs σ Q er
noncomputable def kBc (f : BI) (Q : KV) : List Val → Sto → Prop := fun vs σ => bcallW f vs σ Q
noncomputable def kIsi (t : Ty) (Q : KV) : KV := fun v σ => isiAny gv v t σ (kBool Q σ)
noncomputable def kMeth2 (m : ME) (v : Val) (Q : KV) : List Val → Sto → Prop := fun vs σ => methW m v vs σ Q
noncomputable def kMeth (m : ME) (as : List Ex) (ρ : Loc) (Q : KV) : KV := fun v σ => methOn v σ ∧ wpEs F gv as ρ σ (kMeth2 m v Q)
noncomputable def kSub2 (v : Val) (Q : KV) : KV := fun k σ => subW v k σ Q
noncomputable def kSub1 (i : Ex) (ρ : Loc) (Q : KV) : KV := fun v σ => wpE F gv i ρ σ (kSub2 v Q)
noncomputable def kSl3 (v l : Val) (Q : KV) : KV := fun u σ => sliceW v l u σ Q
noncomputable def kSl2 (v : Val) (hi : Ex) (ρ : Loc) (Q : KV) : KV := fun l σ => wpE F gv hi ρ σ (kSl3 v l Q)
noncomputable def kSl1 (lo hi : Ex) (ρ : Loc) (Q : KV) : KV := fun v σ => wpE F gv lo ρ σ (kSl2 F gv v hi ρ Q)
noncomputable def kAttr (a : String) (Q : KV) : KV := fun v σ => attrW v a σ Q
noncomputable def kComp (elt : Ex) (k : Nat) (xs : List String) (ifs : List Ex) (ρ : Loc) (Q : KV) : KV := fun v σ₁ => onS1 (turnsOf σ₁ v k) fun turns => turns.length ≤ lim ∧
      wpComp (fun ρ' σ' K => wpIfs F gv ifs ρ' σ' K) (fun ρ' σ' K => wpE F gv elt ρ' σ' K) (stay σ₁ v k turns) xs turns [] ρ σ₁ fun ys σ' => newW σ' (.list ys) Q
noncomputable def kPush (v : Val) (K : List Val → Sto → Prop) : List Val → Sto → Prop := fun vs σ => K (v :: vs) σ
noncomputable def kCons (es : List Ex) (ρ : Loc) (K : List Val → Sto → Prop) : KV := fun v σ => wpEs F gv es ρ σ (kPush v K)
noncomputable def kIfs (es : List Ex) (ρ : Loc) (K : Bool → Sto → Prop) : KV := fun v σ => truthyW σ v fun b => if b = true then wpIfs F gv es ρ σ K else K false σ
end
section
variable {F : CallW} {gv : Glo} {ρ : Loc} {σ : Sto} {Q : KV}
theorem r_var {x : String} {v : Val} (e : ρ x = some v) (h : Q v σ) : wpE F gv (.var x) ρ σ Q := ⟨v, e, h⟩
theorem r_glob {x : String} {v : Val} (e : gv.gv x = some v) (h : Q v σ) : wpE F gv (.glob x) ρ σ Q := ⟨v, e, h⟩
theorem r_bin {op : OpB} {l r : Ex} (h : wpE F gv l ρ σ (kBin1 F gv op r ρ Q)) : wpE F gv (.bin op l r) ρ σ Q := h
theorem r_not {e : Ex} (h : wpE F gv e ρ σ (kNot Q)) : wpE F gv (.not_ e) ρ σ Q := h
theorem r_ite {c t f : Ex} (h : wpE F gv c ρ σ (kIte F gv t f ρ Q)) : wpE F gv (.ite c t f) ρ σ Q := h
theorem r_bop {b : Bool} {e e' : Ex} {es : List Ex} (h : wpE F gv e ρ σ (kB F gv b (e' :: es) ρ Q)) : wpE F gv (.bop b (e :: e' :: es)) ρ σ Q := h
theorem r_cmp {l r : Ex} {op : OpC} (h : wpE F gv l ρ σ (kCmp1 F gv op r ρ Q)) : wpE F gv (.cmp op l r) ρ σ Q := h
theorem r_cmp2 {l m r : Ex} {op op' : OpC} (h : wpE F gv l ρ σ (kC1 F gv op op' m r ρ Q)) : wpE F gv (.cmp2 op op' l m r) ρ σ Q := h
theorem r_list0 (h : newW σ (.list []) Q) : wpE F gv (.list []) ρ σ Q := ⟨Nat.zero_le _, h⟩
theorem r_list {es : List Ex} (h : wpEs F gv es ρ σ (kList Q)) : wpE F gv (.list es) ρ σ Q := h
theorem r_tup {es : List Ex} (h : wpEs F gv es ρ σ (kTup Q)) : wpE F gv (.tup es) ρ σ Q := h
theorem r_calln {g : Glo} {hd : Bool} {er : String → Sto → Prop} {f : String} {as : List Ex} (hc : g.cf f = true) (h : wpEs F (g.at hd er) as ρ σ (kCall F hd er f Q)) : wpE F (g.at hd er) (.call f as) ρ σ Q := ⟨hc, h⟩
theorem r_str {s : String} (hl : Nat.ble s.length 1000 = true) (h : Q (.str (lit s)) σ) : wpE F gv (.str_ s) ρ σ Q := ⟨Nat.le_of_ble_eq_true hl, by rw [lit_is]; exact h⟩
theorem es_weak : ∀ {es : List Ex} {ρ : Loc} {σ : Sto} {K : List Val → Sto → Prop} {P : Prop}, P → wpEs F gv es ρ σ K → wpEs F gv es ρ σ fun vs σ₁ => P ∧ K vs σ₁ := fun {es ρ σ K P} hp h => by
  have : (fun vs σ₁ => P ∧ K vs σ₁) = K := by funext vs σ₁; exact propext ⟨And.right, fun h => ⟨hp, h⟩⟩
  rw [this]; exact h
theorem r_bcall {f : BI} {as : List Ex} (hh : gv.hd = false) (h : wpEs F gv as ρ σ (kBc f Q)) : wpE F gv (.bcall f as) ρ σ Q := es_weak (.inl hh) h
theorem r_bint {as : List Ex} (h : wpEs F gv as ρ σ (kBc .int Q)) : wpE F gv (.bcall .int as) ρ σ Q := es_weak (.inr rfl) h
theorem r_isi {e : Ex} {t : Ty} (h : wpE F gv e ρ σ (kIsi gv t Q)) : wpE F gv (.isi e t) ρ σ Q := h
theorem r_meth {o : Ex} {m : ME} {as : List Ex} (h : wpE F gv o ρ σ (kMeth F gv m as ρ Q)) : wpE F gv (.meth o m as) ρ σ Q := h
theorem r_sub {o i : Ex} (h : wpE F gv o ρ σ (kSub1 F gv i ρ Q)) : wpE F gv (.sub o i) ρ σ Q := h
theorem r_slice {o lo hi : Ex} (h : wpE F gv o ρ σ (kSl1 F gv lo hi ρ Q)) : wpE F gv (.slice o lo hi) ρ σ Q := h
theorem r_comp {elt it : Ex} {k : Nat} {xs : List String} {ifs : List Ex} (hh : gv.hd = false) (h : wpE F gv it ρ σ (kComp F gv elt k xs ifs ρ Q)) : wpE F gv (.comp elt k xs it ifs) ρ σ Q := ⟨hh, h⟩
theorem r_attr {o : Ex} {a : String} (h : wpE F gv o ρ σ (kAttr a Q)) : wpE F gv (.attr o a) ρ σ Q := h
theorem r_cons {e : Ex} {es : List Ex} {K : List Val → Sto → Prop} (h : wpE F gv e ρ σ (kCons F gv es ρ K)) : wpEs F gv (e :: es) ρ σ K := h
theorem r_b1 {b : Bool} {e : Ex} (h : wpE F gv e ρ σ Q) : wpB F gv b [e] ρ σ Q := h
theorem r_b2 {b : Bool} {e e' : Ex} {es : List Ex} (h : wpE F gv e ρ σ (kB F gv b (e' :: es) ρ Q)) : wpB F gv b (e :: e' :: es) ρ σ Q := h
theorem r_if0 {K : Bool → Sto → Prop} (h : K true σ) : wpIfs F gv [] ρ σ K := h
theorem r_if1 {e : Ex} {es : List Ex} {K : Bool → Sto → Prop} (h : wpE F gv e ρ σ (kIfs F gv es ρ K)) : wpIfs F gv (e :: es) ρ σ K := h
theorem v_b {b : Bool} (h : Q (.bool b) σ) : kBool Q σ b := h
theorem v_nott (h : Q (.bool false) σ) : kNot Q (.bool true) σ := h
theorem v_notf (h : Q (.bool true) σ) : kNot Q (.bool false) σ := h
theorem v_not {b : Bool} (h : Q (.bool (!b)) σ) : kNot Q (.bool b) σ := h
theorem v_itet {t f : Ex} (h : wpE F gv t ρ σ Q) : kIte F gv t f ρ Q (.bool true) σ := h
theorem v_itef {t f : Ex} (h : wpE F gv f ρ σ Q) : kIte F gv t f ρ Q (.bool false) σ := h
theorem v_bin {op : OpB} {r : Ex} {a : Val} (h : wpE F gv r ρ σ (kBin2 op a Q)) : kBin1 F gv op r ρ Q a σ := h
theorem v_add {i j : Int} (h : Q (.int (i + j)) σ) : kBin2 .add (.int i) Q (.int j) σ := h
theorem v_sub {i j : Int} (h : Q (.int (i - j)) σ) : kBin2 .sub (.int i) Q (.int j) σ := h
theorem v_cmp {op : OpC} {r : Ex} {v : Val} (h : wpE F gv r ρ σ (kCmp2 op v Q)) : kCmp1 F gv op r ρ Q v σ := h
theorem v_c1 {op op' : OpC} {m r : Ex} {v : Val} (h : wpE F gv m ρ σ (kC2 F gv op op' v r ρ Q)) : kC1 F gv op op' m r ρ Q v σ := h
theorem v_btt {es : List Ex} (h : Q (.bool true) σ) : kB F gv true es ρ Q (.bool true) σ := h
theorem v_btf {es : List Ex} (h : wpB F gv true es ρ σ Q) : kB F gv true es ρ Q (.bool false) σ := h
theorem v_bft {es : List Ex} (h : wpB F gv false es ρ σ Q) : kB F gv false es ρ Q (.bool true) σ := h
theorem v_bff {es : List Ex} (h : Q (.bool false) σ) : kB F gv false es ρ Q (.bool false) σ := h
theorem v_btn {es : List Ex} {b : Bool} (hb : b = false) (h : wpB F gv true es ρ σ Q) : kB F gv true es ρ Q (.bool b) σ := by subst hb; exact h
theorem v_btp {es : List Ex} {b : Bool} (hb : b = true) (h : Q (.bool true) σ) : kB F gv true es ρ Q (.bool b) σ := by subst hb; exact h
theorem v_bfp {es : List Ex} {b : Bool} (hb : b = true) (h : wpB F gv false es ρ σ Q) : kB F gv false es ρ Q (.bool b) σ := by subst hb; exact h
theorem v_bfn {es : List Ex} {b : Bool} (hb : b = false) (h : Q (.bool false) σ) : kB F gv false es ρ Q (.bool b) σ := by subst hb; exact h
theorem v_c2le {op' : OpC} {r : Ex} {i j : Int} (h : if decide (i ≤ j) = true then wpE F gv r ρ σ (kCmp2 op' (.int j) Q) else Q (.bool (decide (i ≤ j))) σ) : kC2 F gv .le op' (.int i) r ρ Q (.int j) σ := h
theorem v_cons {es : List Ex} {v : Val} {K : List Val → Sto → Prop} (h : wpEs F gv es ρ σ (kPush v K)) : kCons F gv es ρ K v σ := h
theorem v_push {v : Val} {vs : List Val} {K : List Val → Sto → Prop} (h : K (v :: vs) σ) : kPush v K vs σ := h
theorem v_ifst {es : List Ex} {K : Bool → Sto → Prop} (h : wpIfs F gv es ρ σ K) : kIfs F gv es ρ K (.bool true) σ := h
theorem v_ifsf {es : List Ex} {K : Bool → Sto → Prop} (h : K false σ) : kIfs F gv es ρ K (.bool false) σ := h
theorem v_mon {m : ME} {as : List Ex} {a : Nat} {xs : List Val} (e : σ a = some (.list xs)) (h : wpEs F gv as ρ σ (kMeth2 m (.ref a) Q)) : kMeth F gv m as ρ Q (.ref a) σ := ⟨⟨a, xs, rfl, e⟩, h⟩
theorem v_sub1 {i : Ex} {v : Val} (h : wpE F gv i ρ σ (kSub2 v Q)) : kSub1 F gv i ρ Q v σ := h
theorem v_sl1 {lo hi : Ex} {v : Val} (h : wpE F gv lo ρ σ (kSl2 F gv v hi ρ Q)) : kSl1 F gv lo hi ρ Q v σ := h
theorem v_sl2 {hi : Ex} {v l : Val} (h : wpE F gv hi ρ σ (kSl3 v l Q)) : kSl2 F gv v hi ρ Q l σ := h
theorem v_max {i j : Int} (h : Q (.int (max i j)) σ) : kBc .max Q [.int i, .int j] σ := h
theorem v_min {i j : Int} (h : Q (.int (min i j)) σ) : kBc .min Q [.int i, .int j] σ := h
theorem v_boo {b : Bool} (h : Q (.int (if b then 1 else 0)) σ) : kBc .int Q [.bool b] σ := h
theorem w_ii {i : Int} (h : Q (.bool true) σ) : kIsi gv .int Q (.int i) σ := h
theorem w_ib {i : Int} (h : Q (.bool false) σ) : kIsi gv .bool Q (.int i) σ := h
theorem w_nt (h : Q (.bool false) σ) : kIsi gv .tuple Q .none σ := h
theorem v_eqs {x y : List Nat} (h : Q (.bool (decide (x = y))) σ) : kCmp2 .eq (.str x) Q (.str y) σ := .inl ⟨x, y, rfl, rfl, h⟩
theorem v_nes {x y : List Nat} (h : Q (.bool (!decide (x = y))) σ) : kCmp2 .ne (.str x) Q (.str y) σ := .inl (.inl ⟨x, y, rfl, rfl, h⟩)
theorem v_lt {i j : Int} (h : Q (.bool (decide (i < j))) σ) : kCmp2 .lt (.int i) Q (.int j) σ := h
theorem v_le {i j : Int} (h : Q (.bool (decide (i ≤ j))) σ) : kCmp2 .le (.int i) Q (.int j) σ := h
theorem v_gt {i j : Int} (h : Q (.bool (decide (i > j))) σ) : kCmp2 .gt (.int i) Q (.int j) σ := h
theorem v_is0 (h : Q (.bool true) σ) : kCmp2 .is_ .none Q .none σ := h
theorem v_isi {i : Int} (h : Q (.bool false) σ) : kCmp2 .is_ (.int i) Q .none σ := h
theorem v_isr {a : Nat} (h : Q (.bool false) σ) : kCmp2 .is_ (.ref a) Q .none σ := h
theorem v_ni0 (h : Q (.bool false) σ) : kCmp2 .isNot .none Q .none σ := h
theorem v_nii {i : Int} (h : Q (.bool true) σ) : kCmp2 .isNot (.int i) Q .none σ := h
theorem v_nib {i : Int} {b : Bool} (h : Q (.bool true) σ) : kCmp2 .isNot (.int i) Q (.bool b) σ := h
theorem o_mul {i j : Int} (hi : (-lim ≤ i ∧ i ≤ lim) ∨ (-lim ≤ j ∧ j ≤ lim)) (h : Q (.int (i * j)) σ) : binW .mul (.int i) (.int j) σ Q := ⟨hi, h⟩
noncomputable def inLim (i : Int) : Bool := decide (-lim ≤ i) && decide (i ≤ lim)
noncomputable def posLim (i : Int) : Bool := decide (0 < i) && decide (i ≤ lim)
theorem inLim_of {i : Int} (h : inLim i = true) : -lim ≤ i ∧ i ≤ lim := let h := (Bool.and_eq_true _ _).mp h; ⟨of_decide_eq_true h.1, of_decide_eq_true h.2⟩
theorem posLim_of {i : Int} (h : posLim i = true) : 0 < i ∧ i ≤ lim := let h := (Bool.and_eq_true _ _).mp h; ⟨of_decide_eq_true h.1, of_decide_eq_true h.2⟩
theorem o_mulr {i j : Int} (hi : inLim j = true) (h : Q (.int (i * j)) σ) : binW .mul (.int i) (.int j) σ Q := ⟨.inr (inLim_of hi), h⟩
theorem o_mull {i j : Int} (hi : inLim i = true) (h : Q (.int (i * j)) σ) : binW .mul (.int i) (.int j) σ Q := ⟨.inl (inLim_of hi), h⟩
theorem o_fdiv {i j : Int} (hj : posLim j = true) (h : Q (.int (i / j)) σ) : binW .fdiv (.int i) (.int j) σ Q := ⟨(posLim_of hj).1, (posLim_of hj).2, h⟩
theorem o_mod {i j : Int} (hj : posLim j = true) (h : Q (.int (i % j)) σ) : binW .mod (.int i) (.int j) σ Q := ⟨(posLim_of hj).1, (posLim_of hj).2, h⟩
theorem o_fdivn {i j : Int} (h0 : 0 < j) (h1 : j ≤ 1000000) (h : Q (.int (i / j)) σ) : binW .fdiv (.int i) (.int j) σ Q := ⟨h0, h1, h⟩
theorem o_modn {i j : Int} (h0 : 0 < j) (h1 : j ≤ 1000000) (h : Q (.int (i % j)) σ) : binW .mod (.int i) (.int j) σ Q := ⟨h0, h1, h⟩
theorem v_mod {i j : Int} (hj : posLim j = true) (h : Q (.int (i % j)) σ) : kBin2 .mod (.int i) Q (.int j) σ := o_mod hj h
theorem v_fdiv {i j : Int} (hj : posLim j = true) (h : Q (.int (i / j)) σ) : kBin2 .fdiv (.int i) Q (.int j) σ := o_fdiv hj h
theorem v_mulr {i j : Int} (hi : inLim j = true) (h : Q (.int (i * j)) σ) : kBin2 .mul (.int i) Q (.int j) σ := o_mulr hi h
theorem v_mull {i j : Int} (hi : inLim i = true) (h : Q (.int (i * j)) σ) : kBin2 .mul (.int i) Q (.int j) σ := o_mull hi h
variable {K : Bool → Prop}
theorem c_eq {i j : Int} (h : K (decide (i = j))) : cmpW .eq (.int i) (.int j) σ K := .inr ⟨.int i, .int j, rfl, rfl, rfl, rfl, by rw [pyEq_int]; exact h⟩
theorem c_ne {i j : Int} (h : K (decide (i ≠ j))) : cmpW .ne (.int i) (.int j) σ K := .inl (.inr ⟨.int i, .int j, rfl, rfl, rfl, rfl, by rw [pyEq_int]; rw [decide_not] at h; exact h⟩)
theorem v_eq {i j : Int} (h : Q (.bool (decide (i = j))) σ) : kCmp2 .eq (.int i) Q (.int j) σ := c_eq (K := kBool Q σ) h
theorem v_ne {i j : Int} (h : Q (.bool (decide (i ≠ j))) σ) : kCmp2 .ne (.int i) Q (.int j) σ := c_ne (K := kBool Q σ) h
theorem b_lent {a : Nat} {xs : List Val} (e : σ a = some (.tup xs)) (h : Q (.int xs.length) σ) : bcallW .len [.ref a] σ Q := by simp only [bcallW, ref1_ref, e]; exact h
theorem o_cats {x y : List Nat} (hl : x.length + y.length ≤ 10000000) (h : Q (.str (x ++ y)) σ) : binW .add (.str x) (.str y) σ Q := ⟨hl, h⟩
theorem o_reps {x : List Nat} {n : Int} (h0 : 0 ≤ n) (h1 : n ≤ 1000) (hl : x.length ≤ 1000) (h : Q (.str (rep x n.toNat)) σ) : binW .mul (.str x) (.int n) σ Q := ⟨h0, h1, hl, h⟩
theorem x_sll {a : Nat} {xs ys : List Val} {lo hi : Val} {i j : Nat} (ea : σ a = some (.list xs)) (e1 : bnd xs.length 0 lo = some i) (e2 : bnd xs.length xs.length hi = some j) (e : cut xs i j = ys) (h : newW σ (.list ys) Q) : sliceW (.ref a) lo hi σ Q := by simp only [sliceW, listOr, ea, slicedW, e1, e2, onS1, e]; exact h
theorem x_slr {a : Nat} {xs : List Val} {lo hi : Val} {i j : Nat} (ea : σ a = some (.ro xs)) (e1 : bnd xs.length 0 lo = some i) (e2 : bnd xs.length xs.length hi = some j) (h : newW σ (.list (cut xs i j)) Q) : sliceW (.ref a) lo hi σ Q := by simp only [sliceW, listOr, ea, slicedW, e1, e2, onS1]; exact h
theorem b_len {a : Nat} {xs : List Val} (e : σ a = some (.list xs)) (h : Q (.int xs.length) σ) : bcallW .len [.ref a] σ Q := by rw [bcall_len e]; exact h
theorem o_cat {x y : Nat} {xs ys : List Val} (hx : σ x = some (.list xs)) (hy : σ y = some (.list ys)) (hl : xs.length + ys.length ≤ 1000000) (h : newW σ (.list (xs ++ ys)) Q) : binW .add (.ref x) (.ref y) σ Q := by
  simp only [binW, hx, hy, onL]; exact ⟨hl, h⟩
theorem b_list {a : Nat} {xs : List Val} (e : σ a = some (.list xs)) (h : newW σ (.list xs) Q) : bcallW .list [.ref a] σ Q := by rw [bcall_list e]; exact h
theorem y_tt {a : Nat} {xs : List Val} (e : σ a = some (.tup xs)) (h : K true) : isiAny gv (.ref a) .tuple σ K := by simp only [isiAny, isiW, e]; exact h
theorem y_ll {a : Nat} {xs : List Val} (e : σ a = some (.list xs)) (h : K true) : isiAny gv (.ref a) .list σ K := by simp only [isiAny, isiW, e]; exact h
theorem w_tt {a : Nat} {xs : List Val} (e : σ a = some (.tup xs)) (h : Q (.bool true) σ) : kIsi gv .tuple Q (.ref a) σ := y_tt (K := kBool Q σ) e h
theorem w_ll {a : Nat} {xs : List Val} (e : σ a = some (.list xs)) (h : Q (.bool true) σ) : kIsi gv .list Q (.ref a) σ := y_ll (K := kBool Q σ) e h
theorem v_len {a : Nat} {xs : List Val} (e : σ a = some (.list xs)) (h : Q (.int xs.length) σ) : kBc .len Q [.ref a] σ := b_len e h
theorem v_lent {a : Nat} {xs : List Val} (e : σ a = some (.tup xs)) (h : Q (.int xs.length) σ) : kBc .len Q [.ref a] σ := b_lent e h
theorem v_lst {a : Nat} {xs : List Val} (e : σ a = some (.list xs)) (h : newW σ (.list xs) Q) : kBc .list Q [.ref a] σ := b_list e h
theorem m_on {a : Nat} {xs : List Val} {P : Prop} (e : σ a = some (.list xs)) (h : P) : methOn (.ref a) σ ∧ P := ⟨⟨a, xs, rfl, e⟩, h⟩
theorem m_app {a : Nat} {xs : List Val} {x : Val} (e : σ a = some (.list xs)) (hl : xs.length < 1000000) (h : Q .none (σ.set a (.list (xs ++ [x])))) : methW .append (.ref a) [x] σ Q := by simp only [methW, e, onL]; exact ⟨hl, h⟩
theorem a_set {a dx : Nat} {n c : String} {y : Val} {fs fs' : List (String × Val)} {K : Sto → Prop} (hn : attrNames.elem n = true) (hx : σ a = some (.inst c dx)) (hd : σ dx = some (.attrs fs)) (hl : fs.lookup n = none) (hf : Nat.blt fs.length 100 = true) (e : fs ++ [(n, y)] = fs') (h : K (σ.set dx (.attrs fs'))) : setAttrW (.ref a) n y σ K := by
  subst e
  simp only [setAttrW, hx, hd]
  exact ⟨List.elem_iff.mp hn, hl, Nat.le_of_ble_eq_true hf, h⟩
theorem n_ob {o : Ob} (h : ∀ a, σ a = none → Q (.ref a) (σ.set a o)) : newW σ o Q := h
theorem n_lit {vs : List Val} (hl : Nat.ble vs.length 1000000 = true) {o : Ob} (h : ∀ a, σ a = none → Q (.ref a) (σ.set a o)) : vs.length ≤ lim ∧ newW σ o Q := ⟨Nat.le_of_ble_eq_true hl, h⟩
variable {A B : Prop}
theorem i_t (h : A) : if true = true then A else B := h
theorem i_f (h : B) : if false = true then A else B := h
theorem i_pos {b : Bool} (hb : b = true) (h : A) : if b = true then A else B := by rw [if_pos hb]; exact h
theorem i_neg {b : Bool} (hb : b = false) (h : B) : if b = true then A else B := by subst hb; exact h
theorem i_dec {p : Prop} [Decidable p] (h1 : p → A) (h2 : ¬ p → B) : if decide p = true then A else B := by
  by_cases q : p
  · rw [if_pos (decide_eq_true q)]; exact h1 q
  · rw [if_neg (by simp [q])]; exact h2 q
end
section
variable {F : CallW} {gv : Glo} {ρ : Loc} {σ : Sto} {Q : KS}
noncomputable def Kq (Q : KV) : KS := fun fl o' σ' => match fl with | .next => Q .none σ' | .ret v => Q v σ'
noncomputable def nxt (F : CallW) (gv : Glo) (r : List St) (Q : KS) : KS := fun fl ρ' σ' => match fl with
  | .next => wpSs F gv r ρ' σ' Q
  | .ret v => Q (.ret v) ρ' σ'
theorem s_cons {s : St} {r : List St} (h : wpS F gv s ρ σ (nxt F gv r Q)) : wpSs F gv (s :: r) ρ σ Q := h
theorem s_nil (h : Q .next ρ σ) : wpSs F gv [] ρ σ Q := h
theorem s_nxt {r : List St} (h : wpSs F gv r ρ σ Q) : nxt F gv r Q .next ρ σ := h
theorem s_nil2 {r : List St} (h : wpSs F gv r ρ σ Q) : wpSs F gv [] ρ σ (nxt F gv r Q) := h
theorem s_out {r : List St} {v : Val} (h : Q (.ret v) ρ σ) : nxt F gv r Q (.ret v) ρ σ := h
theorem k_ret {Q : KV} {v : Val} (h : Q v σ) : Kq Q (.ret v) ρ σ := h
theorem k_nxt {Q : KV} (h : Q .none σ) : Kq Q .next ρ σ := h
noncomputable def FnOk (F : Nat → CallW) (g : Glo) (name : String) (df : List String × List St) : Prop :=
  g.cf name = true ∧ ∀ d hd er vs σ Q, vs.length = df.1.length → wpSs (F d) (g.at hd er) df.2 (bindT df.1 vs (fun o' => none)) σ (Kq Q) → F (d + 1) hd name vs σ Q er
theorem FnOk.go {F : Nat → CallW} {g : Glo} {name : String} {ps : List String} {body : List St} (h : FnOk F g name (ps, body)) {d : Nat} {hd : Bool} {er : String → Sto → Prop} {vs : List Val} {σ : Sto} {Q : KV} (hl : vs.length = ps.length)
    (k : wpSs (F d) (g.at hd er) body (bindT ps vs (fun o' => none)) σ (Kq Q)) : F (d + 1) hd name vs σ Q er := h.2 d hd er vs σ Q hl k
theorem FnOk.cf {F : Nat → CallW} {g : Glo} {name : String} {df : List String × List St} (h : FnOk F g name df) : g.cf name = true := h.1
noncomputable def ClsOk (F : Nat → CallW) (g : Glo) (name : String) (df : List String × List St) : Prop :=
  g.cf name = true ∧ ∀ d hd er vs σ Q, vs.length + 1 = df.1.length → (∀ dx x : Nat, σ dx = none → σ x = none → dx ≠ x → wpSs (F d) (g.at hd er) df.2 (bindT df.1 (.ref x :: vs) (fun o' => none)) ((σ.set dx (.attrs [])).set x (.inst name dx)) (Kq fun v σ' => v = .none ∧ Q (.ref x) σ')) → F (d + 1) hd name vs σ Q er
theorem ClsOk.go {F : Nat → CallW} {g : Glo} {name : String} {ps : List String} {body : List St} (h : ClsOk F g name (ps, body)) {d : Nat} {hd : Bool} {er : String → Sto → Prop} {vs : List Val} {σ : Sto} {Q : KV} (hl : vs.length + 1 = ps.length)
    (k : ∀ dx x : Nat, σ dx = none → σ x = none → dx ≠ x → wpSs (F d) (g.at hd er) body (bindT ps (.ref x :: vs) (fun o' => none)) ((σ.set dx (.attrs [])).set x (.inst name dx)) (Kq fun v σ' => v = .none ∧ Q (.ref x) σ')) : F (d + 1) hd name vs σ Q er := h.2 d hd er vs σ Q hl k
theorem ClsOk.cf {F : Nat → CallW} {g : Glo} {name : String} {df : List String × List St} (h : ClsOk F g name df) : g.cf name = true := h.1
noncomputable def kAsg (Q : KS) (x : String) (ρ : Loc) : KV := fun v σ => Q .next (upd ρ x v) σ
noncomputable def kUnp (Q : KS) (xs : List String) (ρ : Loc) : KV := fun v σ => onS1 (seqV σ v) fun vs => vs.length = xs.length ∧ Q .next (bindT xs vs ρ) σ
noncomputable def kNx (Q : KS) (ρ : Loc) : Sto → Prop := fun σ => Q .next ρ σ
noncomputable def kAt2 (Q : KS) (a : String) (x : Val) (ρ : Loc) : KV := fun v σ => setAttrW v a x σ (kNx Q ρ)
noncomputable def kAt1 (F : CallW) (gv : Glo) (Q : KS) (o : Ex) (a : String) (ρ : Loc) : KV := fun x σ => wpE F gv o ρ σ (kAt2 Q a x ρ)
noncomputable def kAs3 (Q : KS) (x v : Val) (ρ : Loc) : KV := fun k σ => setSubW v k x σ (kNx Q ρ)
noncomputable def kAs2 (F : CallW) (gv : Glo) (Q : KS) (i : Ex) (x : Val) (ρ : Loc) : KV := fun v σ => wpE F gv i ρ σ (kAs3 Q x v ρ)
noncomputable def kAs1 (F : CallW) (gv : Glo) (Q : KS) (o i : Ex) (ρ : Loc) : KV := fun x σ => wpE F gv o ρ σ (kAs2 F gv Q i x ρ)
noncomputable def kExpr (Q : KS) (ρ : Loc) : KV := fun o' σ => Q .next ρ σ
noncomputable def kRet (Q : KS) (ρ : Loc) : KV := fun v σ => Q (.ret v) ρ σ
noncomputable def kIf (F : CallW) (gv : Glo) (Q : KS) (t e : List St) (ρ : Loc) : KV := fun v σ => truthyW σ v fun b => if b = true then wpSs F gv t ρ σ Q else wpSs F gv e ρ σ Q
noncomputable def kFor (F : CallW) (gv : Glo) (Q : KS) (k : Nat) (xs : List String) (body : List St) (ρ : Loc) : KV := fun v σ₁ => onS1 (turnsOf σ₁ v k) fun turns => wpFor (fun ρ' σ' K => wpSs F gv body ρ' σ' K) (stay σ₁ v k turns) xs turns ρ σ₁ Q
theorem s_assign {x : String} {e : Ex} (h : wpE F gv e ρ σ (kAsg Q x ρ)) : wpS F gv (.assign x e) ρ σ Q := h
theorem s_unpack {xs : List String} {e : Ex} (hh : gv.hd = false) (h : wpE F gv e ρ σ (kUnp Q xs ρ)) : wpS F gv (.assignT xs e) ρ σ Q := ⟨hh, h⟩
theorem s_asub {o i e : Ex} (h : wpE F gv e ρ σ (kAs1 F gv Q o i ρ)) : wpS F gv (.assignSub o i e) ρ σ Q := h
theorem s_expr {e : Ex} (h : wpE F gv e ρ σ (kExpr Q ρ)) : wpS F gv (.expr e) ρ σ Q := h
theorem s_ret {e : Ex} (h : wpE F gv e ρ σ (kRet Q ρ)) : wpS F gv (.ret e) ρ σ Q := h
theorem s_if {c : Ex} {t e : List St} (h : wpE F gv c ρ σ (kIf F gv Q t e ρ)) : wpS F gv (.if_ c t e) ρ σ Q := h
theorem s_for {k : Nat} {xs : List String} {it : Ex} {body : List St} (hh : gv.hd = false) (h : wpE F gv it ρ σ (kFor F gv Q k xs body ρ)) : wpS F gv (.for_ k xs it body) ρ σ Q := ⟨hh, h⟩
theorem t_assign {r : List St} {x : String} {e : Ex} (h : wpE F gv e ρ σ (kAsg (nxt F gv r Q) x ρ)) : wpSs F gv (.assign x e :: r) ρ σ Q := h
theorem t_attr {r : List St} {o e : Ex} {a : String} (h : wpE F gv e ρ σ (kAt1 F gv (nxt F gv r Q) o a ρ)) : wpSs F gv (.assignAttr o a e :: r) ρ σ Q := h
theorem t_asub {r : List St} {o i e : Ex} (h : wpE F gv e ρ σ (kAs1 F gv (nxt F gv r Q) o i ρ)) : wpSs F gv (.assignSub o i e :: r) ρ σ Q := h
theorem t_expr {r : List St} {e : Ex} (h : wpE F gv e ρ σ (kExpr (nxt F gv r Q) ρ)) : wpSs F gv (.expr e :: r) ρ σ Q := h
theorem t_ret {r : List St} {e : Ex} (h : wpE F gv e ρ σ (kRet Q ρ)) : wpSs F gv (.ret e :: r) ρ σ Q := h
theorem t_if {r : List St} {c : Ex} {t e : List St} (h : wpE F gv c ρ σ (kIf F gv (nxt F gv r Q) t e ρ)) : wpSs F gv (.if_ c t e :: r) ρ σ Q := h
theorem v_asgn {r : List St} {x : String} {v : Val} (h : wpSs F gv r (upd ρ x v) σ Q) : kAsg (nxt F gv r Q) x ρ v σ := h
theorem v_nxn {r : List St} (h : wpSs F gv r ρ σ Q) : kNx (nxt F gv r Q) ρ σ := h
theorem v_exprn {r : List St} {v : Val} (h : wpSs F gv r ρ σ Q) : kExpr (nxt F gv r Q) ρ v σ := h
theorem v_retk {Q : KV} {v : Val} (h : Q v σ) : kRet (Kq Q) ρ v σ := h
theorem v_iffn {r t : List St} (h : wpSs F gv r ρ σ Q) : kIf F gv (nxt F gv r Q) t [] ρ (.bool false) σ := h
theorem v_ifnn {r t : List St} {b : Bool} (hb : b = false) (h : wpSs F gv r ρ σ Q) : kIf F gv (nxt F gv r Q) t [] ρ (.bool b) σ := by subst hb; exact h
theorem v_asg {x : String} {v : Val} (h : Q .next (upd ρ x v) σ) : kAsg Q x ρ v σ := h
theorem v_at1 {o : Ex} {a : String} {x : Val} (h : wpE F gv o ρ σ (kAt2 Q a x ρ)) : kAt1 F gv Q o a ρ x σ := h
theorem v_as2 {i : Ex} {x v : Val} (h : wpE F gv i ρ σ (kAs3 Q x v ρ)) : kAs2 F gv Q i x ρ v σ := h
theorem v_as1 {o i : Ex} {x : Val} (h : wpE F gv o ρ σ (kAs2 F gv Q i x ρ)) : kAs1 F gv Q o i ρ x σ := h
theorem v_ret {v : Val} (h : Q (.ret v) ρ σ) : kRet Q ρ v σ := h
theorem v_ift {t e : List St} (h : wpSs F gv t ρ σ Q) : kIf F gv Q t e ρ (.bool true) σ := h
theorem v_iff {t e : List St} (h : wpSs F gv e ρ σ Q) : kIf F gv Q t e ρ (.bool false) σ := h
theorem v_ifp {t e : List St} {b : Bool} (hb : b = true) (h : wpSs F gv t ρ σ Q) : kIf F gv Q t e ρ (.bool b) σ := by subst hb; exact h
theorem s_rai {g : Glo} {er : String → Sto → Prop} {cls msg : String} (hx : g.ex cls = true) (h : er cls σ) : wpS F (g.at false er) (.raise cls msg) ρ σ Q := ⟨rfl, hx, h⟩
theorem w_on {α : Type} {o : Option α} {x : α} {K : α → Prop} (e : o = some x) (h : K x) : onS1 o K := by rw [e]; exact h
end
theorem l_here {ρ : Loc} {x : String} {v : Val} : upd ρ x v x = some v := upd_same _ _ _
theorem l_there {ρ : Loc} {x y : String} {v : Val} {o : Option Val} (hn : (y == x) = false) (h : ρ y = o) : upd ρ x v y = o := by rw [upd_ne ρ v (by simpa using hn)]; exact h
theorem l_bind {ρ : Loc} {x y : String} {xs : List String} {v : Val} {vs : List Val} {o : Option Val} (h : bindT xs vs (upd ρ x v) y = o) : bindT (x :: xs) (v :: vs) ρ y = o := h
theorem l_bind0 {ρ : Loc} {y : String} {vs : List Val} {o : Option Val} (h : ρ y = o) : bindT [] vs ρ y = o := h
noncomputable def sop (op : OpB) (i j : Int) : Option Val := match op with
  | .add => some (.int (i + j))
  | .sub => some (.int (i - j))
  | .mul => bif inLim j then some (.int (i * j)) else none
  | .fdiv => bif posLim j then some (.int (i / j)) else none
  | .mod => bif posLim j then some (.int (i % j)) else none
noncomputable def scm (op : OpC) (i j : Int) : Option Val := match op with
  | .eq => some (.bool (decide (i = j)))
  | .ne => some (.bool (decide (i ≠ j)))
  | .lt => some (.bool (decide (i < j)))
  | .le => some (.bool (decide (i ≤ j)))
  | .gt => some (.bool (decide (i > j)))
  | .ge => some (.bool (decide (i ≥ j)))
  | _ => none
noncomputable def s1 (a : Option Val) (f : Int → Option Val) : Option Val := match a with
  | some v => (match v with | .int i => f i | _ => none)
  | none => none
noncomputable def sev (ρ : Loc) : Ex → Option Val
  | .none_ => some .none
  | .bool_ b => some (.bool b)
  | .int_ i => some (.int i)
  | .neg e => s1 (sev ρ e) fun i => some (.int (-i))
  | .var x => ρ x
  | .bin op l r => s1 (sev ρ l) fun i => s1 (sev ρ r) fun j => sop op i j
  | .cmp op l r => s1 (sev ρ l) fun i => s1 (sev ρ r) fun j => scm op i j
  | _ => none
noncomputable def sevs (ρ : Loc) : List Ex → Option (List Val)
  | [] => some []
  | e :: es => (sev ρ e).bind fun v => (sevs ρ es).bind fun vs => some (v :: vs)
theorem sames {α : Type} {Q : α → Prop} {v w : α} (h : some w = some v) (hq : Q v) : Q w := Option.some.inj h ▸ hq
theorem nos {α : Type} {v : α} {P : Prop} (h : (none : Option α) = some v) : P := nomatch h
theorem s1_inv {a : Option Val} {f : Int → Option Val} {v : Val} (h : s1 a f = some v) : ∃ i, a = some (.int i) ∧ f i = some v := by
  cases a with
  | none => exact nos h
  | some a => cases a with
    | int i => exact ⟨i, rfl, h⟩
    | none => exact nos h
    | bool _ => exact nos h
    | ref _ => exact nos h
    | str _ => exact nos h
theorem bif_inv {b : Bool} {v w : Val} (h : (bif b then some v else none) = some w) : b = true ∧ v = w := by
  cases b
  · exact nos h
  · exact ⟨rfl, Option.some.inj h⟩
section
variable {F : CallW} {gv : Glo} {ρ : Loc} {σ : Sto} {Q : KV}
theorem sop_ok {op : OpB} {i j : Int} {v : Val} (h : sop op i j = some v) (hq : Q v σ) : binW op (.int i) (.int j) σ Q := by
  cases op with
  | add => exact sames (Q := (Q · σ)) h hq
  | sub => exact sames (Q := (Q · σ)) h hq
  | mul => exact o_mulr (bif_inv h).1 ((bif_inv h).2 ▸ hq)
  | fdiv => exact o_fdiv (bif_inv h).1 ((bif_inv h).2 ▸ hq)
  | mod => exact o_mod (bif_inv h).1 ((bif_inv h).2 ▸ hq)
theorem scm_ok {op : OpC} {i j : Int} {v : Val} (h : scm op i j = some v) (hq : Q v σ) : cmpW op (.int i) (.int j) σ fun b => Q (.bool b) σ := by
  cases op with
  | eq => exact c_eq (sames (Q := (Q · σ)) h hq)
  | ne => exact c_ne (sames (Q := (Q · σ)) h hq)
  | lt => exact sames (Q := (Q · σ)) h hq
  | le => exact sames (Q := (Q · σ)) h hq
  | gt => exact sames (Q := (Q · σ)) h hq
  | ge => exact sames (Q := (Q · σ)) h hq
  | is_ => exact nos h
  | isNot => exact nos h
  | isIn => exact nos h
  | notIn => exact nos h
noncomputable def Sev (F : CallW) (gv : Glo) (ρ : Loc) (σ : Sto) (e : Ex) : Prop := ∀ v Q, sev ρ e = some v → Q v σ → wpE F gv e ρ σ Q
theorem r_s {e : Ex} {v : Val} {Q : KV} (h : sev ρ e = some v) (hq : Q v σ) : wpE F gv e ρ σ Q :=
  Ex.rec (motive_1 := Sev F gv ρ σ) (motive_2 := fun o' => True)
    (fun v Q h hq => sames (Q := (Q · σ)) h hq) (fun o' v Q h hq => sames (Q := (Q · σ)) h hq) (fun o' v Q h hq => sames (Q := (Q · σ)) h hq) (fun o' o' o' h o' => nos h) (fun o' o' h o' => nos h) (fun x v Q h hq => ⟨v, h, hq⟩) (fun o' o' o' h o' => nos h)
    (fun op l r hl hr v Q h hq => by
      obtain ⟨i, h1, h⟩ := s1_inv h
      obtain ⟨j, h2, h⟩ := s1_inv h
      exact hl _ _ h1 (hr _ _ h2 (sop_ok h hq)))
    (fun o' o' o' o' h o' => nos h) (fun o' o' o' o' o' o' o' o' h o' => nos h)
    (fun e he v Q h hq => by
      obtain ⟨i, h1, h⟩ := s1_inv h
      exact he _ (fun v σ₁ => onI v fun i => Q (.int (-i)) σ₁) h1 (sames (Q := (Q · σ)) h hq))
    (fun o' o' o' o' o' h o' => nos h)
    (fun op l r hl hr v Q h hq => by
      obtain ⟨i, h1, h⟩ := s1_inv h
      obtain ⟨j, h2, h⟩ := s1_inv h
      exact r_cmp (hl _ _ h1 (hr _ _ h2 (scm_ok h hq))))
    (fun o' o' o' o' o' o' o' o' o' o' h o' => nos h) (fun o' o' o' o' h o' => nos h) (fun o' o' o' o' h o' => nos h) (fun o' o' o' o' o' h o' => nos h) (fun o' o' o' o' o' h o' => nos h) (fun o' o' o' o' o' h o' => nos h)
    (fun o' o' o' o' o' o' o' h o' => nos h) (fun o' o' o' o' o' o' h o' => nos h) (fun o' o' o' o' o' o' o' o' h o' => nos h) (fun o' o' o' o' o' h o' => nos h) (fun o' o' o' o' o' o' o' o' o' o' h o' => nos h)
    trivial (fun o' o' o' o' => trivial) e v Q h hq
theorem r_ss : ∀ {es : List Ex} {vs : List Val} {K : List Val → Sto → Prop}, sevs ρ es = some vs → K vs σ → wpEs F gv es ρ σ K
  | [], vs, K, h, hq => sames (Q := (K · σ)) h hq
  | e :: es, vs, K, h, hq => by
    obtain ⟨v, h1, h⟩ := Option.bind_eq_some_iff.mp h
    obtain ⟨ws, h2, h⟩ := Option.bind_eq_some_iff.mp h
    exact r_cons (r_s h1 (r_ss (K := fun vs σ₂ => K (v :: vs) σ₂) h2 (sames (Q := (K · σ)) h hq)))
end
section
variable {F : CallW} {gv : Glo} {ρ : Loc} {σ : Sto} {Q : KV}
theorem r_idict (h : newW σ (.idict 0 []) Q) : wpE F gv .dict0 ρ σ Q := .inl h
theorem r_tdict (h : newW σ (.tdict 0 []) Q) : wpE F gv .dict0 ρ σ Q := .inr h
theorem x_idict {a ep : Nat} {es : List (Int × Val)} {k : Int} {x : Val} (e : σ a = some (.idict ep es)) (hx : dget es k = some x) (h : Q x σ) : subW (.ref a) (.int k) σ Q := by
  show subO (σ a) _ _ _
  rw [e]
  show onS1 (dget es k) _
  rw [hx]; exact h
theorem x_tdict {a ep t : Nat} {es : List (List Int × Nat × Val)} {k : List Int} {x : Val} (e : σ a = some (.tdict ep es)) (hk : keysIn σ es) (ht : σ t = some (.tup (k.map .int))) (hx : tget es k = some x) (h : Q x σ) : subW (.ref a) (.ref t) σ Q := by
  show subO (σ a) _ _ _
  rw [e]
  exact ⟨hk, t, k, rfl, ht, w_on hx h⟩
theorem c_nind {a ep : Nat} {es : List (Int × Val)} {k : Int} {K : Bool → Prop} (e : σ a = some (.idict ep es)) (h : K (!(dget es k).isSome)) : cmpW .notIn (.int k) (.ref a) σ K := by simp only [cmpW, inW, e, onI]; exact h
theorem in_ints {s : Nat} {ns : List Int} {i : Int} {K : Bool → Prop} (hs : σ s = some (.list (ns.map .int))) (h : K (decide (i ∈ ns))) : inW (.int i) (.ref s) σ K := by
  simp only [inW, hs]
  refine ⟨.int i, ns.map .int, rfl, hasL_ints, rfl, by rw [List.all_map, List.all_eq_true]; exact fun o' o' => rfl, ?_⟩
  have : ((ns.map Dat.int).any fun y => pyEq y (.int i)) = decide (i ∈ ns) := by
    clear hs h
    induction ns with
    | nil => rfl
    | cons n ns ih =>
      rw [List.map_cons, List.any_cons, ih, pyEq_int]
      rw [← Bool.decide_or]
      exact decide_eq_decide.mpr ⟨fun q => q.elim (fun q => q ▸ .head _) (.tail _), fun q => (List.mem_cons.mp q).imp Eq.symm id⟩
  rw [this]; exact h
theorem c_in {s : Nat} {ns : List Int} {i : Int} {K : Bool → Prop} (hs : σ s = some (.list (ns.map .int))) (h : K (decide (i ∈ ns))) : cmpW .isIn (.int i) (.ref s) σ K := in_ints hs h
theorem c_nin {s : Nat} {ns : List Int} {i : Int} {K : Bool → Prop} (hs : σ s = some (.list (ns.map .int))) (h : K (!decide (i ∈ ns))) : cmpW .notIn (.int i) (.ref s) σ K := in_ints (K := fun b => K (!b)) hs h
theorem p_list {a : Nat} {xs : List Val} {k : Int} {x : Val} {K : Sto → Prop} (e : σ a = some (.list xs)) (h0 : 0 ≤ k) (h1 : k < xs.length) (h : K (σ.set a (.list (xs.set k.toNat x)))) : setSubW (.ref a) (.int k) x σ K := by
  show setSubO (σ a) _ _ _ _ _
  rw [e]; exact ⟨h0, h1, h⟩
theorem p_idict {a ep : Nat} {es : List (Int × Val)} {k : Int} {x : Val} {K : Sto → Prop} (e : σ a = some (.idict ep es)) (hl : es.length ≤ 1000000) (h : ∀ ep, K (σ.set a (.idict ep (dput es k x)))) : setSubW (.ref a) (.int k) x σ K := by
  show setSubO (σ a) _ _ _ _ _
  rw [e]; exact ⟨hl, h⟩
theorem p_tdict {a ep t : Nat} {es : List (List Int × Nat × Val)} {k : List Int} {x : Val} {K : Sto → Prop} (e : σ a = some (.tdict ep es)) (hk : keysIn σ es) (hl : es.length ≤ 1000000) (ht : σ t = some (.tup (k.map .int))) (h : ∀ ep, K (σ.set a (.tdict ep (tput es k t x)))) : setSubW (.ref a) (.ref t) x σ K := by
  show setSubO (σ a) _ _ _ _ _
  rw [e]; exact ⟨hk, hl, t, k, rfl, ht, h⟩
theorem m_clr {a : Nat} {xs : List Val} (e : σ a = some (.list xs)) (h : Q .none (σ.set a (.list []))) : methW .clear (.ref a) [] σ Q := by simp only [methW, e, onL]; exact ⟨trivial, h⟩
theorem m_ext {a b : Nat} {xs ys : List Val} (e : σ a = some (.list xs)) (e' : σ b = some (.list ys)) (hl : xs.length + ys.length ≤ 1000000) (h : Q .none (σ.set a (.list (xs ++ ys)))) : methW .extend (.ref a) [.ref b] σ Q := by simp only [methW, e, onL, ref1, e']; exact ⟨hl, h⟩
theorem b_maxl {a : Nat} {ns : List Int} (e : σ a = some (.list (ns.map .int))) (hn : ns ≠ []) (h : ∀ m ∈ ns, (∀ x ∈ ns, x ≤ m) → Q (.int m) σ) : bcallW .max [.ref a] σ Q := by simp only [bcallW, ref1, e, onL]; exact ⟨ns, rfl, hn, h⟩
theorem u_seq {a : Nat} {xs : List Val} {ns : List String} {P : List Val → Prop} (e : σ a = some (.tup xs)) (hl : xs.length = ns.length) (h : P xs) : onS1 (seqV σ (.ref a)) fun vs => vs.length = ns.length ∧ P vs := by simp only [seqV, e, onS1]; exact ⟨hl, h⟩
theorem u_list {a : Nat} {xs : List Val} {ns : List String} {P : List Val → Prop} (e : σ a = some (.list xs)) (hl : xs.length = ns.length) (h : P xs) : onS1 (seqV σ (.ref a)) fun vs => vs.length = ns.length ∧ P vs := by simp only [seqV, e, onS1]; exact ⟨hl, h⟩
theorem turns_idict {a ep : Nat} {es : List (Int × Val)} (h : σ a = some (.idict ep es)) : turnsOf σ (.ref a) 1 = some ((es.map fun e => Val.int e.1).map fun v => [v]) := by
  show (itemsO (σ a)).map _ = _
  rw [h]; rfl
end
theorem g_put {κ β : Type} [DecidableEq κ] (key : β → κ) (val : β → Val) (u : β → β) (y : β) (k j : κ) (x : Val) (es : List β) (hu : ∀ e, key (u e) = key e) (hx : ∀ e, val (u e) = if key e = k then x else val e) (hy : key y = k) (hv : val y = x) {o : Option Val} (ho : (es.find? fun e => decide (key e = k)).map val = o) {l : List β} (hl : (o ≠ none → l = es.map u) ∧ (o = none → l = es ++ [y])) :
    (l.find? fun e => decide (key e = j)).map val = if j = k then some x else (es.find? fun e => decide (key e = j)).map val := by
  cases o with
  | some z =>
    rw [hl.1 nofun, List.find?_map, show ((fun e => decide (key e = j)) ∘ u) = fun e => decide (key e = j) from funext fun e => by show decide (key (u e) = j) = _; rw [hu]]
    by_cases q : j = k
    · rw [if_pos q]
      subst q
      cases hf : es.find? (fun e => decide (key e = j)) with
      | none => rw [hf] at ho; cases ho
      | some e =>
        have := List.find?_some hf
        have := of_decide_eq_true this
        show some (val (u e)) = _
        rw [hx, if_pos this]
    · rw [if_neg q]
      cases hf : es.find? (fun e => decide (key e = j)) with
      | none => rfl
      | some e =>
        have := List.find?_some hf
        have := of_decide_eq_true this
        show some (val (u e)) = some (val e)
        rw [hx, if_neg (fun q' => q (this.symm.trans q'))]
  | none =>
    rw [hl.2 rfl, List.find?_append]
    by_cases q : j = k
    · rw [if_pos q, q, Option.map_eq_none_iff.mp ho, Option.none_or, List.find?_cons_of_pos (by simpa using hy), Option.map_some, hv]
    · rw [if_neg q, List.find?_cons_of_neg (by simpa using fun e => q (e.symm.trans hy)), List.find?_nil, Option.or_none]
theorem dget_dput {es : List (Int × Val)} {k j : Int} {x : Val} : dget (dput es k x) j = if j = k then some x else dget es j := by
  refine g_put (·.1) (·.2) (fun e => if e.1 = k then (e.1, x) else e) (k, x) k j x es (fun e => ?_) (fun e => ?_) rfl rfl (o := dget es k) rfl ?_
  · by_cases q : e.1 = k
    · rw [if_pos q]
    · rw [if_neg q]
  · by_cases q : e.1 = k
    · rw [if_pos q, if_pos q]
    · rw [if_neg q, if_neg q]
  · unfold dput
    cases dget es k with
    | none => exact ⟨fun h => absurd rfl h, fun o' => rfl⟩
    | some z => exact ⟨fun o' => rfl, nofun⟩
theorem tget_tput {es : List (List Int × Nat × Val)} {k j : List Int} {a : Nat} {x : Val} : tget (tput es k a x) j = if j = k then some x else tget es j := by
  refine g_put (·.1) (·.2.2) (fun e => if e.1 = k then (e.1, e.2.1, x) else e) (k, a, x) k j x es (fun e => ?_) (fun e => ?_) rfl rfl (o := tget es k) rfl ?_
  · by_cases q : e.1 = k
    · rw [if_pos q]
    · rw [if_neg q]
  · by_cases q : e.1 = k
    · rw [if_pos q, if_pos q]
    · rw [if_neg q, if_neg q]
  · unfold tput
    cases tget es k with
    | none => exact ⟨fun h => absurd rfl h, fun o' => rfl⟩
    | some z => exact ⟨fun o' => rfl, nofun⟩
theorem int_inj {a b : Int} (h : Val.int a = .int b) : a = b := by cases h; rfl
end BP

namespace BP
open PySem
abbrev Way := Int × Int
abbrev Row := Option Int × List Way
abbrev Nd := Int × Int
noncomputable def wayOf : List Way → Int → Option Int
  | [], _ => none
  | w :: r, l => if w.1 = l then some w.2 else wayOf r l
noncomputable def goodW (least many : Int) : Int → List Way → Bool
  | _, [] => true
  | b, w :: r => (decide (b + 1 ≤ w.1) && decide (w.1 ≤ 9)) && (decide (least ≤ w.2) && decide (w.2 ≤ many - 1)) && goodW least many w.1 r
noncomputable def goodR (nd many place : Int) (r : Row) : Bool := match r.1 with
  | none => r.2.isEmpty
  | some d => (decide (0 ≤ d) && decide (d ≤ nd - 1)) && goodW (place + 1) many (-1) r.2
noncomputable def goodRs (nd many : Int) : Int → List Row → Bool
  | _, [] => true
  | k, r :: rs => goodR nd many k r && goodRs nd many (k + 1) rs
noncomputable def goodP (nd : Int) (S : List Way) (R : List Row) : Bool := decide (R.length ≤ 300) && goodW 0 R.length (-1) S && goodRs nd R.length 0 R
theorem wayOf_good {least many : Int} : ∀ {ws : List Way} {b l : Int} {k : Int}, goodW least many b ws = true → wayOf ws l = some k → least ≤ k ∧ k < many
  | [], b, l, k, _, h => by cases h
  | w :: ws, b, l, k, hg, h => by
    simp only [goodW, Bool.and_eq_true, decide_eq_true_eq] at hg
    unfold wayOf at h
    by_cases q : w.1 = l
    · rw [if_pos q] at h; cases h; exact ⟨hg.1.2.1, Int.lt_of_le_sub_one hg.1.2.2⟩
    · rw [if_neg q] at h; exact wayOf_good hg.2 h
theorem goodRs_at {nd many : Int} : ∀ {R : List Row} {k : Int} {i : Nat} {r : Row}, goodRs nd many k R = true → R[i]? = some r → goodR nd many (k + i) r = true
  | [], k, i, r, _, h => by cases h
  | r' :: R, k, 0, r, hg, h => by
    cases h
    rw [goodRs, Bool.and_eq_true] at hg
    rw [Int.natCast_zero, Int.add_zero]; exact hg.1
  | r' :: R, k, i + 1, r, hg, h => by
    rw [goodRs, Bool.and_eq_true] at hg
    have := goodRs_at (i := i) hg.2 h
    rw [show k + ((i + 1 : Nat) : Int) = k + 1 + (i : Int) by lia]; exact this
theorem goodW_of {least many : Int} : ∀ {ws : List Way} {b : Int}, ws.Pairwise (fun v w => v.1 < w.1) → (∀ w ∈ ws, b < w.1 ∧ w.1 ≤ 9 ∧ least ≤ w.2 ∧ w.2 < many) → goodW least many b ws = true
  | [], b, _, _ => rfl
  | w :: ws, b, hp, h => by
    obtain ⟨h1, h2⟩ := List.pairwise_cons.mp hp
    have := h w (.head _)
    simp only [goodW, Bool.and_eq_true, decide_eq_true_eq]
    exact ⟨⟨⟨this.1, this.2.1⟩, this.2.2.1, Int.le_sub_one_of_lt this.2.2.2⟩, goodW_of h2 fun v hv => ⟨h1 v hv, (h v (.tail _ hv)).2⟩⟩
set_option genSizeOf false in
set_option genInjectivity false in
structure Gr where
  L : List Int
  D : List (List (List Int))
  G : List Int
  S : List Way
  R : List Row
  W : List Int
namespace Gr
variable (g : Gr)
noncomputable def look (r : Int) : Int := g.L.getD r.toNat 0
noncomputable def led (d r : Int) : List Int := (g.D.getD d.toNat []).getD r.toNat []
noncomputable def Start (y : Nd) : Prop := y.2 ∈ g.G ∧ wayOf g.S (g.look y.2) = some y.1
noncomputable def Succ (x y : Nd) : Prop := ∃ d ws, g.R[x.1.toNat]? = some (some d, ws) ∧ y.2 ∈ g.led d x.2 ∧ wayOf ws (g.look y.2) = some y.1
noncomputable def Pth : Nat → Nd → Nd → Prop
  | 0, x, y => x = y
  | n + 1, x, z => ∃ y, Pth n x y ∧ g.Succ y z
noncomputable def Rch (n : Nat) (x : Nd) : Prop := ∃ s, g.Start s ∧ g.Pth n s x
noncomputable def OkW (x : Nd) : Prop := ∀ d ws, g.R[x.1.toNat]? = some (some d, ws) → ∀ o ∈ g.led d x.2, wayOf ws (g.look o) ≠ none
noncomputable def OkE (x : Nd) : Prop := ∀ ws, g.R[x.1.toNat]? = some (none, ws) → x.2 ∈ g.W
noncomputable def GoodS : Prop := ∀ r ∈ g.G, wayOf g.S (g.look r) ≠ none
noncomputable def GoodW : Prop := g.GoodS ∧ ∀ n x, g.Rch n x → g.OkW x
noncomputable def Good : Prop := g.GoodW ∧ ∀ n x, g.Rch n x → g.OkE x
noncomputable def Top (m : Nat) : Prop := (∃ x, g.Rch m x) ∧ ∀ n x, g.Rch n x → n ≤ m
noncomputable def Ans (v : Val) : Prop := (¬ g.Good ∧ v = .none) ∨ (g.Good ∧ ∃ m : Nat, v = .int m ∧ g.Top m)
noncomputable def Lng (t : Nat) (x : Nd) : Prop := (∃ y, g.Pth t x y) ∧ ∀ n y, g.Pth n x y → n ≤ t
variable {g}
theorem ans_same {v w : Val} (h : g.Ans v) (h' : g.Ans w) : v = w := by
  rcases h with ⟨h1, h2⟩ | ⟨h1, m, h2, h3⟩
  · rcases h' with ⟨_, h5⟩ | ⟨h4, _⟩
    · rw [h2, h5]
    · exact absurd h4 h1
  · rcases h' with ⟨h4, _⟩ | ⟨_, m', h5, h6⟩
    · exact absurd h1 h4
    · obtain ⟨⟨x, hx⟩, hm⟩ := h3
      obtain ⟨⟨y, hy⟩, hm'⟩ := h6
      have a := hm _ _ hy
      have b := hm' _ _ hx
      rw [h2, h5, show m = m' by lia]
theorem pth_cons : ∀ {n : Nat} {x y z : Nd}, g.Succ x y → g.Pth n y z → g.Pth (n + 1) x z
  | 0, x, y, z, h, h' => by cases h'; exact ⟨x, rfl, h⟩
  | n + 1, x, y, z, h, ⟨u, h1, h2⟩ => ⟨u, pth_cons h h1, h2⟩
theorem pth_head : ∀ {n : Nat} {x z : Nd}, g.Pth (n + 1) x z → ∃ y, g.Succ x y ∧ g.Pth n y z
  | 0, x, z, ⟨y, h1, h2⟩ => by cases h1; exact ⟨z, h2, rfl⟩
  | n + 1, x, z, ⟨u, h1, h2⟩ => by
    obtain ⟨y, h3, h4⟩ := pth_head h1
    exact ⟨y, h3, u, h4, h2⟩
theorem rch_step {n : Nat} {x y : Nd} (h : g.Rch n x) (hs : g.Succ x y) : g.Rch (n + 1) y := by
  obtain ⟨s, h1, h2⟩ := h
  exact ⟨s, h1, x, h2, hs⟩
theorem rch_ind {P : Nat → Nd → Prop} (h0 : ∀ s, g.Start s → P 0 s) (h1 : ∀ n x y, P n x → g.Succ x y → P (n + 1) y) : ∀ {n : Nat} {x : Nd}, g.Rch n x → P n x
  | 0, x, ⟨s, h, e⟩ => by cases e; exact h0 _ h
  | n + 1, x, ⟨s, h, y, h2, h3⟩ => h1 n y x (rch_ind h0 h1 ⟨s, h, h2⟩) h3
theorem lng_zero {x : Nd} (h : ∀ y, ¬ g.Succ x y) : g.Lng 0 x := ⟨⟨x, rfl⟩, fun n y hp => by
  cases n with
  | zero => exact Nat.le_refl _
  | succ n => obtain ⟨u, hu, _⟩ := pth_head hp; exact absurd hu (h u)⟩
theorem lng_succ {x y : Nd} {m : Nat} (hy : g.Succ x y) (hm : g.Lng m y) (h : ∀ u, g.Succ x u → ∃ t, g.Lng t u ∧ t ≤ m) : g.Lng (m + 1) x := by
  obtain ⟨⟨z, hz⟩, _⟩ := hm
  refine ⟨⟨z, pth_cons hy hz⟩, fun n w hp => ?_⟩
  cases n with
  | zero => exact Nat.zero_le _
  | succ n =>
    obtain ⟨u, hu, hp⟩ := pth_head hp
    obtain ⟨t, ht, htm⟩ := h u hu
    have := ht.2 n w hp
    lia
theorem top_lng {y : Nd} {m : Nat} (hy : g.Start y) (hm : g.Lng m y) (h : ∀ u, g.Start u → ∃ t, g.Lng t u ∧ t ≤ m) : g.Top m := by
  obtain ⟨⟨z, hz⟩, _⟩ := hm
  refine ⟨⟨z, y, hy, hz⟩, fun n w hw => ?_⟩
  obtain ⟨u, hu, hp⟩ := hw
  obtain ⟨t, ht, htm⟩ := h u hu
  exact Nat.le_trans (ht.2 n w hp) htm
structure WF (g : Gr) (many : Int) : Prop where
  m1 : 1 ≤ many
  m8 : many ≤ 8
  looks : (g.L.length : Int) = many
  gs : ∀ r ∈ g.G, 0 ≤ r ∧ r < many
  g0 : g.G ≠ []
  plan : goodP g.D.length g.S g.R = true
  deeds : ∀ d ∈ g.D, (d.length : Int) = many ∧ ∀ ns ∈ d, (ns ≠ [] ∧ ns.length ≤ 8) ∧ ∀ r ∈ ns, 0 ≤ r ∧ r < many
variable {many : Int}
theorem WF.rows (h : g.WF many) : g.R.length ≤ 300 := by
  have := h.plan
  simp only [goodP, Bool.and_eq_true, decide_eq_true_eq] at this
  exact this.1.1
theorem WF.start (h : g.WF many) {y : Nd} (hs : g.Start y) : 0 ≤ y.1 ∧ y.1 < g.R.length ∧ 0 ≤ y.2 ∧ y.2 < many := by
  have := h.plan
  simp only [goodP, Bool.and_eq_true] at this
  have a := wayOf_good this.1.2 hs.2
  have b := h.gs _ hs.1
  exact ⟨a.1, a.2, b⟩
theorem WF.row (h : g.WF many) {k : Nat} {r : Row} (hr : g.R[k]? = some r) : goodR g.D.length g.R.length k r = true := by
  have := h.plan
  simp only [goodP, Bool.and_eq_true] at this
  have := goodRs_at this.2 hr
  rw [Int.zero_add] at this
  exact this
theorem WF.deed (h : g.WF many) {k : Nat} {d : Int} {ws : List Way} (hr : g.R[k]? = some (some d, ws)) : 0 ≤ d ∧ d < g.D.length ∧ goodW (k + 1) g.R.length (-1) ws = true := by
  have := h.row hr
  simp only [goodR, Bool.and_eq_true, decide_eq_true_eq] at this
  exact ⟨this.1.1, by lia, this.2⟩
theorem WF.deedAt (h : g.WF many) {k : Nat} {d : Int} {ws : List Way} (hr : g.R[k]? = some (some d, ws)) : g.D.getD d.toNat [] ∈ g.D := by
  have hd := h.deed hr
  have hl : d.toNat < g.D.length := (Int.toNat_lt hd.1).mpr hd.2.1
  rw [List.getD_eq_getElem?_getD, List.getElem?_eq_getElem hl]
  exact List.getElem_mem hl
theorem WF.led (h : g.WF many) {k : Nat} {d : Int} {ws : List Way} (hr : g.R[k]? = some (some d, ws)) {r : Int} (r0 : 0 ≤ r) (r1 : r < many) : (g.led d r ≠ [] ∧ (g.led d r).length ≤ 8) ∧ ∀ o ∈ g.led d r, 0 ≤ o ∧ o < many := by
  have a := h.deeds _ (h.deedAt hr)
  have hl' : r.toNat < (g.D.getD d.toNat []).length := (Int.toNat_lt r0).mpr (a.1.symm ▸ r1)
  have e : g.led d r = (g.D.getD d.toNat [])[r.toNat] := by unfold Gr.led; rw [List.getD_eq_getElem?_getD, List.getElem?_eq_getElem hl']; rfl
  rw [e]
  exact a.2 _ (List.getElem_mem hl')
theorem WF.succ (h : g.WF many) {x y : Nd} (x0 : 0 ≤ x.1) (x1 : 0 ≤ x.2) (x2 : x.2 < many) (hs : g.Succ x y) : x.1 < y.1 ∧ y.1 < g.R.length ∧ 0 ≤ y.2 ∧ y.2 < many := by
  obtain ⟨d, ws, h1, h2, h3⟩ := hs
  have a := wayOf_good (h.deed h1).2.2 h3
  have b := (h.led h1 x1 x2).2 _ h2
  exact ⟨Int.lt_of_lt_of_le (Int.lt_add_one_of_le (Int.self_le_toNat _)) a.1, a.2, b⟩
theorem WF.rch (h : g.WF many) {n : Nat} {x : Nd} (hx : g.Rch n x) : 0 ≤ x.1 ∧ x.1 < g.R.length ∧ 0 ≤ x.2 ∧ x.2 < many :=
  rch_ind (P := fun o' x => 0 ≤ x.1 ∧ x.1 < g.R.length ∧ 0 ≤ x.2 ∧ x.2 < many) (fun s hs => h.start hs) (fun n x y a hs => by have := h.succ a.1 a.2.2.1 a.2.2.2 hs; exact ⟨Int.le_trans a.1 (Int.le_of_lt this.1), this.2⟩) hx
end Gr
theorem few {n : Nat} : ∀ {l : List Int}, l.Nodup → (∀ i ∈ l, 0 ≤ i ∧ i < n) → l.length ≤ n := by
  induction n with
  | zero =>
    intro l _ h
    cases l with
    | nil => exact Nat.le_refl _
    | cons i l => have := h i (.head _); lia
  | succ n ih =>
    intro l hn h
    have := ih (l := l.erase (n : Int)) (hn.erase _) fun i hi => by
      have a := (hn.mem_erase_iff).mp hi
      have b := h i a.2
      exact ⟨b.1, Int.lt_iff_le_and_ne.mpr ⟨Int.le_of_lt_add_one b.2, a.1⟩⟩
    have hl := List.length_erase (a := (n : Int)) (l := l)
    by_cases q : (n : Int) ∈ l
    · rw [if_pos q] at hl; rw [hl] at this; exact Nat.sub_le_iff_le_add.mp this
    · rw [if_neg q] at hl; rw [hl] at this; exact Nat.le_succ_of_le this
end BP

namespace BP
open PySem
inductive All2 {α β : Type} (R : α → β → Prop) : List α → List β → Prop
  | nil : All2 R [] []
  | cons {a : α} {b : β} {as : List α} {bs : List β} : R a b → All2 R as bs → All2 R (a :: as) (b :: bs)
section
variable {α β γ : Type} {R : α → β → Prop}
theorem All2.imp {S : α → β → Prop} {as : List α} {bs : List β} (h : All2 R as bs) : (∀ a ∈ as, ∀ b, R a b → S a b) → All2 S as bs := by
  induction h with
  | nil => exact fun o' => .nil
  | cons h1 _ ih => exact fun k => .cons (k _ (.head _) _ h1) (ih fun x hx => k x (.tail _ hx))
theorem All2.len {as : List α} {bs : List β} (h : All2 R as bs) : bs.length = as.length := by
  induction h with
  | nil => rfl
  | cons _ _ ih => exact congrArg (· + 1) ih
theorem All2.eq {f : α → β} {as : List α} {bs : List β} (h : All2 (fun a b => b = f a) as bs) : bs = as.map f := by
  induction h with
  | nil => rfl
  | cons h1 _ ih => exact h1 ▸ ih ▸ rfl
theorem All2.of {f : α → β} {as : List α} (h : ∀ a ∈ as, R a (f a)) : All2 R as (as.map f) := by
  induction as with
  | nil => exact .nil
  | cons a as ih => exact .cons (h a (.head _)) (ih fun x hx => h x (.tail _ hx))
theorem All2.unmap {g : γ → α} {as : List γ} {bs : List β} (h : All2 (fun c b => R (g c) b) as bs) : All2 R (as.map g) bs := by
  induction h with
  | nil => exact .nil
  | cons h1 _ ih => exact .cons h1 ih
theorem All2.mapR {S : α → γ → Prop} {g : β → γ} (k : ∀ a b, R a b → S a (g b)) {as : List α} {bs : List β} (h : All2 R as bs) : All2 S as (bs.map g) := by
  induction h with
  | nil => exact .nil
  | cons h1 _ ih => exact .cons (k _ _ h1) ih
end
theorem hasL_all {σ : Sto} {α : Type} {f : α → Dat} {as : List α} : ∀ {xs : List Val}, HasL σ (as.map f) xs → All2 (fun a v => Has σ (f a) v) as xs := by
  induction as with
  | nil => exact fun {xs} h => (show xs = [] from h) ▸ .nil
  | cons a as ih => exact fun {xs} ⟨y, ys, h1, h2, h3⟩ => h1 ▸ .cons h2 (ih h3)
theorem all_hasL {σ : Sto} {α : Type} {f : α → Dat} {as : List α} {xs : List Val} (h : All2 (fun a v => Has σ (f a) v) as xs) : HasL σ (as.map f) xs := by
  induction h with
  | nil => exact HasL.nil
  | cons h1 _ ih => exact ⟨_, _, rfl, h1, ih⟩
noncomputable def one1 {α : Type} (R : α → Val → Prop) (a : α) (t : List Val) : Prop := ∃ v, t = [v] ∧ R a v
theorem All2.turns {α : Type} {R : α → Val → Prop} {as : List α} {xs : List Val} (h : All2 R as xs) : All2 (one1 R) as (xs.map fun v => [v]) := h.mapR fun a b h => ⟨b, rfl, h⟩
theorem for_rel {α : Type} {B : Loc → Sto → (Fl → Loc → Sto → Prop) → Prop} {it : Sto → Prop} {xs : List String} {Q : Fl → Loc → Sto → Prop} (R : α → List Val → Prop) (I : List α → Loc → Sto → Prop) (hit : ∀ as ρ σ, I as ρ σ → it σ) (hnil : ∀ ρ σ, I [] ρ σ → Q .next ρ σ)
    (hcons : ∀ a as t ρ σ (K : Fl → Loc → Sto → Prop), R a t → I (a :: as) ρ σ → (∀ ρ' σ', I as ρ' σ' → K .next ρ' σ') → (∀ w ρ' σ', Q (.ret w) ρ' σ' → K (.ret w) ρ' σ') → B (bindT xs t ρ) σ K)
    (as : List α) (turns : List (List Val)) (ρ : Loc) (σ : Sto) (h : All2 R as turns) (hI : I as ρ σ) : wpFor B it xs turns ρ σ Q := by
  induction h generalizing ρ σ with
  | nil => exact ⟨hit _ _ _ hI, hnil _ _ hI⟩
  | cons h2 _ ih => exact ⟨hit _ _ _ hI, hcons _ _ _ ρ σ _ h2 hI (fun ρ' σ' h' => ih ρ' σ' h') fun w ρ' σ' h' => h'⟩
theorem comp_rel {α : Type} {F : CallW} {gv : Glo} {B : Loc → Sto → KV → Prop} {it : Sto → Prop} {xs : List String} {ρ : Loc} {K : List Val → Sto → Prop} {σ₀ : Sto} (R : α → List Val → Prop) (S : Sto → α → Val → Prop) (hS : ∀ {σ σ' a v}, Ext σ σ' → S σ a v → S σ' a v)
    (hit : ∀ σ', Ext σ₀ σ' → it σ') (as : List α) (turns : List (List Val)) (acc : List Val) (σ : Sto) (e : Ext σ₀ σ) (h : All2 R as turns) (hB : ∀ a ∈ as, ∀ t σ', R a t → Ext σ₀ σ' → ∀ K' : KV, (∀ y σ'', Ext σ' σ'' → S σ'' a y → K' y σ'') → B (bindT xs t ρ) σ' K')
    (hK : ∀ ys σ', Ext σ σ' → All2 (S σ') as ys → K (acc ++ ys) σ') : wpComp (fun ρ' σ' K => wpIfs F gv [] ρ' σ' K) B it xs turns acc ρ σ K := by
  induction h generalizing acc σ with
  | nil => exact ⟨hit σ e, (List.append_nil acc) ▸ hK [] σ (.refl σ) .nil⟩
  | cons h2 _ ih => exact ⟨hit σ e, hB _ (.head _) _ σ h2 e _ fun y σ₁ e1 hy => ih (acc ++ [y]) σ₁ (e.trans e1) (fun b hb => hB b (.tail _ hb)) fun ys σ' e' hys => (List.append_assoc acc [y] ys) ▸ hK ([y] ++ ys) σ' (e1.trans e') (.cons (hS e' hy) hys)⟩
theorem comp_list {α : Type} {F : CallW} {gv : Glo} {B : Loc → Sto → KV → Prop} {x : String} {ρ : Loc} {σ : Sto} {a : Nat} {vs : List Val} (R : α → Val → Prop) (S : Sto → α → Val → Prop) (hS : ∀ {σ σ' a v}, Ext σ σ' → S σ a v → S σ' a v) {as : List α} (ha : σ a = some (.list vs)) (hl : vs.length ≤ 1000000) (hR : All2 R as vs) {Q : KV}
    (hB : ∀ b ∈ as, ∀ v σ', R b v → Ext σ σ' → ∀ K' : KV, (∀ y σ'', Ext σ' σ'' → S σ'' b y → K' y σ'') → B (upd ρ x v) σ' K')
    (hQ : ∀ c ys σ', Ext σ σ' → σ' c = none → All2 (S σ') as ys → Q (.ref c) (σ'.set c (.list ys))) :
    onS1 (turnsOf σ (.ref a) 1) fun turns => turns.length ≤ lim ∧ wpComp (fun ρ' σ' K => wpIfs F gv [] ρ' σ' K) B (stay σ (.ref a) 1 turns) [x] turns [] ρ σ fun ys σ' => newW σ' (.list ys) Q :=
  w_on (turns_list ha) ⟨(List.length_map (as := vs) fun v => [v]) ▸ hl, comp_rel (σ₀ := σ) (one1 R) S hS (fun σ' e => stay_list ha (e _ _ ha)) as _ [] σ (.refl σ) hR.turns (fun b hb t σ' ⟨v, q, hv⟩ e K' hK' => q ▸ hB b hb v σ' hv e K' hK') fun ys σ' e hys c hc => hQ c ys σ' e hc hys⟩
noncomputable def dWay (w : Way) : Dat := .tup [.int w.1, .int w.2]
noncomputable def dWays (ws : List Way) : Dat := .list (ws.map dWay)
noncomputable def dDeed (d : Option Int) : Dat := match d with | none => .none | some d => .int d
noncomputable def dRow (r : Row) : Dat := .tup [dDeed r.1, dWays r.2]
noncomputable def dPlan (S : List Way) (R : List Row) : Dat := .tup [dWays S, .list (R.map dRow)]
inductive Tup2 (σ : Sto) (d e : Dat) : Val → Prop
  | mk (a : Nat) (x y : Val) (h : σ a = some (.tup [x, y])) (hx : Has σ d x) (hy : Has σ e y) : Tup2 σ d e (.ref a)
theorem has_tup2 {σ : Sto} {d e : Dat} {v : Val} : Has σ (.tup [d, e]) v → Tup2 σ d e v := fun h => by
  simp only [Has, HasL] at h
  obtain ⟨a, xs, rfl, h2, x, r, rfl, h3, y, q, rfl, h4, rfl⟩ := h
  exact ⟨a, x, y, h2, h3, h4⟩
theorem mk_tup2 {σ : Sto} {d e : Dat} {a : Nat} {x y : Val} (h : σ a = some (.tup [x, y])) (hx : Has σ d x) (hy : Has σ e y) : Has σ (.tup [d, e]) (.ref a) := ⟨a, _, rfl, h, HasL.cons.mpr ⟨hx, HasL.cons.mpr ⟨hy, HasL.nil⟩⟩⟩
inductive WayAt (σ : Sto) (w : Way) : Val → Prop
  | mk (a : Nat) (h : σ a = some (.tup [.int w.1, .int w.2])) : WayAt σ w (.ref a)
theorem has_way {σ : Sto} {w : Way} {v : Val} (h : Has σ (dWay w) v) : WayAt σ w v := by
  obtain ⟨a, x, y, h2, h3, h4⟩ := has_tup2 h
  cases h3
  cases h4
  exact ⟨a, h2⟩
inductive ListAt (σ : Sto) {α : Type} (f : α → Dat) (as : List α) : Val → Prop
  | mk (a : Nat) (xs : List Val) (h : σ a = some (.list xs)) (hx : All2 (fun x v => Has σ (f x) v) as xs) : ListAt σ f as (.ref a)
theorem has_list {σ : Sto} {α : Type} {f : α → Dat} {as : List α} {v : Val} (h : Has σ (.list (as.map f)) v) : ListAt σ f as v := by
  simp only [Has] at h
  obtain ⟨a, xs, rfl, h2, h3⟩ := h
  exact ⟨a, xs, h2, hasL_all h3⟩
theorem list_has {σ : Sto} {α : Type} {f : α → Dat} {as : List α} {a : Nat} {xs : List Val} (h : σ a = some (.list xs)) (h' : All2 (fun x v => Has σ (f x) v) as xs) : Has σ (.list (as.map f)) (.ref a) := ⟨a, xs, rfl, h, all_hasL h'⟩
inductive IntsAt (σ : Sto) (ns : List Int) : Val → Prop
  | mk (a : Nat) (h : σ a = some (.list (ns.map .int))) : IntsAt σ ns (.ref a)
theorem ints_at {σ : Sto} {ns : List Int} {v : Val} (h : Has σ (ilist ns) v) : IntsAt σ ns v := by
  obtain ⟨a, rfl, ha⟩ := ilist_has.mp h
  exact ⟨a, ha⟩
theorem mk_ints {σ : Sto} {ns : List Int} {a : Nat} (h : σ a = some (.list (ns.map .int))) : Has σ (ilist ns) (.ref a) := ilist_has.mpr ⟨a, rfl, h⟩
theorem sub0 {σ : Sto} {a : Nat} {x y : Val} {Q : KV} (h : σ a = some (.tup [x, y])) (hQ : Q x σ) : subW (.ref a) (.int 0) σ Q := subW_tup h (by decide) rfl hQ
theorem sub1 {σ : Sto} {a : Nat} {x y : Val} {Q : KV} (h : σ a = some (.tup [x, y])) (hQ : Q y σ) : subW (.ref a) (.int 1) σ Q := subW_tup h (by decide) rfl hQ
variable {F : Nat → CallW} {g : Glo}
theorem whole_spec (h : FnOk F g "is_whole" d_is_whole) {d : Nat} {i lo hi : Int} {σ : Sto} {Q : KV} {er : String → Sto → Prop} (hQ : Q (.bool (decide (lo ≤ i) && decide (i ≤ hi))) σ) : F (d + 1) false "is_whole" [.int i, .int lo, .int hi] σ Q er := by
  refine FnOk.go h rfl ?_
  refine s_cons ?_; refine s_ret ?_; refine r_bop ?_; refine r_isi ?_; refine r_s rfl ?_; refine w_ii ?_; refine v_bft ?_; refine r_b2 ?_; refine r_not ?_; refine r_isi ?_; refine r_s rfl ?_; refine w_ib ?_; refine v_notf ?_; refine v_bft ?_; refine r_b1 ?_; refine r_cmp2 ?_; refine r_s rfl ?_; refine v_c1 ?_; refine r_s rfl ?_; refine v_c2le ?_
  by_cases q : lo ≤ i
  · rw [decide_eq_true q] at hQ ⊢
    refine i_t ?_; refine r_s rfl ?_; refine v_le ?_; refine v_ret ?_; refine s_out ?_; refine k_ret ?_
    exact hQ
  · rw [decide_eq_false q] at hQ ⊢
    refine i_f ?_; refine v_ret ?_; refine s_out ?_; refine k_ret ?_
    exact hQ
inductive WaysL (σ : Sto) (ws : List Way) (least many : Int) (l : List Way) (ρ' : Loc) (σ' : Sto) : Prop
  | mk (b : Int) (h0 : σ' = σ) (h1 : ρ' "least" = some (.int least)) (h2 : ρ' "many" = some (.int many)) (h3 : ρ' "before" = some (.int b)) (h4 : goodW least many b l = goodW least many (-1) ws) : WaysL σ ws least many l ρ' σ'
theorem ways_spec (hw : FnOk F g "is_whole" d_is_whole) (g3 : g.gv "MOST_LOOK" = some (.int 9)) (h : FnOk F g "are_ways" d_are_ways) {d : Nat} {ws : List Way} {v : Val} {least many : Int} {σ : Sto} {Q : KV} {er : String → Sto → Prop} (hv : Has σ (dWays ws) v) (hQ : Q (.bool (goodW least many (-1) ws)) σ) :
    F (d + 1 + 1) false "are_ways" [v, .int least, .int many] σ Q er := by
  obtain ⟨a, xs, ha, hx⟩ := has_list hv
  refine FnOk.go h rfl ?_
  refine s_cons ?_; refine s_if ?_; refine r_not ?_; refine r_isi ?_; refine r_s rfl ?_; refine w_ll (by assumption) ?_; refine v_nott ?_; refine v_iffn ?_; refine t_assign ?_; refine r_s rfl ?_; refine v_asgn ?_; refine s_cons ?_; refine s_for rfl ?_; refine r_s rfl ?_
  refine w_on (turns_list ha) ?_
  refine for_rel (one1 fun x v => Has σ (dWay x) v) (WaysL σ ws least many) ?_ ?_ ?_ ws _ _ σ hx.turns ⟨-1, rfl, by (repeat (first | with_reducible exact l_here | assumption | refine l_there rfl ?_ | with_reducible refine l_bind ?_ | with_reducible refine l_bind0 ?_)), by (repeat (first | with_reducible exact l_here | assumption | refine l_there rfl ?_ | with_reducible refine l_bind ?_ | with_reducible refine l_bind0 ?_)), by (repeat (first | with_reducible exact l_here | assumption | refine l_there rfl ?_ | with_reducible refine l_bind ?_ | with_reducible refine l_bind0 ?_)), rfl⟩
  · intro l ρ' σ' I; cases I with | mk b h0 => rw [h0]; exact stay_list ha ha
  · intro ρ' σ' I
    refine Classical.byContradiction fun hG => ?_
    obtain ⟨b, rfl, h1, h2, h3, h4⟩ := I
    refine hG ?_
    clear hG
    refine s_nxt ?_; refine s_cons ?_; refine s_ret ?_; refine r_s rfl ?_; refine v_ret ?_; refine s_out ?_; refine k_ret ?_
    rw [← h4] at hQ
    exact hQ
  · intro w l t ρ' σ' K T I hn hr
    refine Classical.byContradiction fun hG => ?_
    obtain ⟨v, rfl, hv⟩ := T
    obtain ⟨b, rfl, h1, h2, h3, h4⟩ := I
    obtain ⟨c, hc⟩ := has_way hv
    refine hG ?_
    clear hG
    have out : goodW least many b (w :: l) = false → K (.ret (.bool false)) (bindT ["way"] [.ref c] ρ') σ' := fun q => hr _ _ _ (by rw [← h4, q] at hQ; exact hQ)
    refine s_cons ?_; refine s_if ?_; refine r_bop ?_; refine r_not ?_; refine r_isi ?_; refine r_s rfl ?_; refine w_tt (by assumption) ?_; refine v_nott ?_; refine v_btf ?_; refine r_b1 ?_; refine r_cmp ?_; refine r_bcall rfl ?_; refine r_ss rfl ?_; refine v_lent (by assumption) ?_; refine v_cmp ?_; refine r_s rfl ?_; refine v_ne ?_; refine v_ifnn rfl ?_; refine t_if ?_; refine r_bop ?_; refine r_not ?_; refine r_calln (FnOk.cf (by assumption)) ?_; refine r_cons ?_; refine r_sub ?_; refine r_s rfl ?_; refine v_sub1 ?_; refine r_s rfl ?_
    refine sub0 hc ?_
    refine v_cons ?_; refine r_cons ?_; refine r_bin ?_; refine r_var (by assumption) ?_; refine v_bin ?_; refine r_s rfl ?_; refine v_add ?_; refine v_cons ?_; refine r_cons ?_; refine r_glob (by assumption) ?_; refine v_cons ?_; refine r_ss rfl ?_; refine v_push ?_; refine v_push ?_; refine v_push ?_
    refine whole_spec hw ?_
    simp only [goodW] at out h4
    cases q1 : (decide (b + 1 ≤ w.1) && decide (w.1 ≤ 9)) with
    | false =>
      rw [q1] at out
      refine v_notf ?_; refine v_btt ?_; refine v_ift ?_; refine t_ret ?_; refine r_s rfl ?_; refine v_ret ?_; refine s_out ?_
      exact out rfl
    | true =>
      rw [q1] at out h4
      refine v_nott ?_; refine v_btf ?_; refine r_b1 ?_; refine r_not ?_; refine r_calln (FnOk.cf (by assumption)) ?_; refine r_cons ?_; refine r_sub ?_; refine r_s rfl ?_; refine v_sub1 ?_; refine r_s rfl ?_
      refine sub1 hc ?_
      refine v_cons ?_; refine r_cons ?_; refine r_var (by assumption) ?_; refine v_cons ?_; refine r_cons ?_; refine r_bin ?_; refine r_var (by assumption) ?_; refine v_bin ?_; refine r_s rfl ?_; refine v_sub ?_; refine v_cons ?_; refine r_ss rfl ?_; refine v_push ?_; refine v_push ?_; refine v_push ?_
      refine whole_spec hw ?_
      cases q2 : (decide (least ≤ w.2) && decide (w.2 ≤ many - 1)) with
      | false =>
        rw [q2] at out
        refine v_notf ?_; refine v_ift ?_; refine t_ret ?_; refine r_s rfl ?_; refine v_ret ?_; refine s_out ?_
        exact out rfl
      | true =>
        rw [q2] at h4
        refine v_nott ?_; refine v_iffn ?_; refine t_assign ?_; refine r_sub ?_; refine r_s rfl ?_; refine v_sub1 ?_; refine r_s rfl ?_
        refine sub0 hc ?_
        refine v_asgn ?_; refine s_nil ?_
        exact hn _ _ ⟨w.1, rfl, by (repeat (first | with_reducible exact l_here | assumption | refine l_there rfl ?_ | with_reducible refine l_bind ?_ | with_reducible refine l_bind0 ?_)), by (repeat (first | with_reducible exact l_here | assumption | refine l_there rfl ?_ | with_reducible refine l_bind ?_ | with_reducible refine l_bind0 ?_)), by (repeat (first | with_reducible exact l_here | assumption | refine l_there rfl ?_ | with_reducible refine l_bind ?_ | with_reducible refine l_bind0 ?_)), h4⟩
end BP

namespace BP
open PySem
variable {F : Nat → CallW} {g : Glo}
noncomputable def deedV (d : Option Int) : Val := match d with | none => .none | some d => .int d
theorem has_deed {σ : Sto} {d : Option Int} {v : Val} (h : Has σ (dDeed d) v) : v = deedV d := by
  cases d <;> exact h
inductive RowAt (σ : Sto) (r : Row) : Val → Prop
  | mk (a : Nat) (y : Val) (h : σ a = some (.tup [deedV r.1, y])) (hy : Has σ (dWays r.2) y) : RowAt σ r (.ref a)
theorem has_row {σ : Sto} {r : Row} {v : Val} (h : Has σ (dRow r) v) : RowAt σ r v := by
  obtain ⟨a, x, y, h2, h3, h4⟩ := has_tup2 h
  exact ⟨a, y, has_deed h3 ▸ h2, h4⟩
theorem eq_nil {σ : Sto} {ws : List Way} {v : Val} {b : Nat} {K : Bool → Prop} (hv : Has σ (dWays ws) v) (hb : σ b = some (.list [])) (h : K ws.isEmpty) : cmpW .eq v (.ref b) σ K := by
  refine .inr ⟨dWays ws, .list [], hv, list_has (f := id) (as := []) hb .nil, ?_, rfl, ?_⟩
  · show (ws.map dWay).all (dOk 8) = true
    rw [List.all_map, List.all_eq_true]
    exact fun o' o' => rfl
  · cases ws <;> exact h
theorem row_spec (hw : FnOk F g "is_whole" d_is_whole) (g3 : g.gv "MOST_LOOK" = some (.int 9)) (ha : FnOk F g "are_ways" d_are_ways) (h : FnOk F g "is_row" d_is_row) {d : Nat} {r : Row} {v : Val} {place many nd : Int} {σ : Sto} {Q : KV} {er : String → Sto → Prop} (hv : Has σ (dRow r) v)
    (hQ : ∀ σ', Ext σ σ' → Q (.bool (goodR nd many place r)) σ') : F (d + 1 + 1 + 1) false "is_row" [v, .int place, .int many, .int nd] σ Q er := by
  refine Classical.byContradiction fun hG => ?_
  obtain ⟨r1, r2⟩ := r
  obtain ⟨a, y, h1, h3⟩ := has_row hv
  obtain ⟨b, xs, hb, hx⟩ := has_list h3
  refine hG ?_
  clear hG
  refine FnOk.go h rfl ?_
  refine s_cons ?_; refine s_if ?_; refine r_bop ?_; refine r_not ?_; refine r_isi ?_; refine r_s rfl ?_; refine w_tt (by assumption) ?_; refine v_nott ?_; refine v_btf ?_; refine r_b2 ?_; refine r_cmp ?_; refine r_bcall rfl ?_; refine r_ss rfl ?_; refine v_lent (by assumption) ?_; refine v_cmp ?_; refine r_s rfl ?_; refine v_ne ?_; refine v_btn rfl ?_; refine r_b1 ?_; refine r_not ?_; refine r_isi ?_; refine r_sub ?_; refine r_s rfl ?_; refine v_sub1 ?_; refine r_s rfl ?_
  refine sub1 h1 ?_
  refine w_ll (by assumption) ?_; refine v_nott ?_; refine v_iffn ?_; refine t_if ?_; refine r_cmp ?_; refine r_sub ?_; refine r_s rfl ?_; refine v_sub1 ?_; refine r_s rfl ?_
  cases r1 with
  | none =>
    replace h1 : σ a = some (.tup [.none, .ref b]) := h1
    refine sub0 h1 ?_
    refine v_cmp ?_; refine r_s rfl ?_; refine v_is0 ?_; refine v_ift ?_; refine t_ret ?_; refine r_cmp ?_; refine r_sub ?_; refine r_s rfl ?_; refine v_sub1 ?_; refine r_s rfl ?_
    refine sub1 h1 ?_
    refine v_cmp ?_; refine r_list0 ?_
    refine n_ob fun c hc => ?_
    refine eq_nil (h3.ext (.set hc _)) (set_at _ _ _) ?_
    refine v_b ?_; refine v_ret ?_; refine s_out ?_; refine k_ret ?_
    exact hQ _ (.set hc _)
  | some e =>
    replace h1 : σ a = some (.tup [.int e, .ref b]) := h1
    refine sub0 h1 ?_
    refine v_cmp ?_; refine r_s rfl ?_; refine v_isi ?_; refine v_iffn ?_; refine t_ret ?_; refine r_bop ?_; refine r_calln (FnOk.cf (by assumption)) ?_; refine r_cons ?_; refine r_sub ?_; refine r_s rfl ?_; refine v_sub1 ?_; refine r_s rfl ?_
    refine sub0 h1 ?_
    refine v_cons ?_; refine r_ss rfl ?_; refine v_push ?_
    refine whole_spec hw ?_
    have key := hQ σ (.refl σ)
    simp only [goodR] at key
    cases q : (decide (0 ≤ e) && decide (e ≤ nd - 1)) with
    | false =>
      rw [q] at key
      refine v_bff ?_; refine v_retk ?_
      exact key
    | true =>
      rw [q] at key
      refine v_bft ?_; refine r_b1 ?_; refine r_calln (FnOk.cf (by assumption)) ?_; refine r_cons ?_; refine r_sub ?_; refine r_s rfl ?_; refine v_sub1 ?_; refine r_s rfl ?_
      refine sub1 h1 ?_
      refine v_cons ?_; refine r_ss rfl ?_; refine v_push ?_
      exact ways_spec hw g3 ha h3 key
noncomputable def numb {α : Type} : Nat → List α → List (Nat × α)
  | _, [] => []
  | k, a :: as => (k, a) :: numb (k + 1) as
theorem All2.numb {α : Type} {R : α → Val → Prop} {as : List α} {xs : List Val} (k : Nat) (h : All2 R as xs) : All2 (fun (p : Nat × α) t => ∃ v, t = [.int p.1, v] ∧ R p.2 v) (numb k as) (enumV k xs) := by
  induction h generalizing k with
  | nil => exact .nil
  | cons h2 _ ih => exact .cons ⟨_, rfl, h2⟩ (ih (k + 1))
theorem numb_len {α : Type} {as : List α} (k : Nat) : (BP.numb k as).length = as.length := by
  induction as generalizing k with
  | nil => rfl
  | cons _ _ ih => exact congrArg (· + 1) (ih (k + 1))
theorem turns_enum {σ : Sto} {a : Nat} {xs : List Val} (h : σ a = some (.list xs)) : turnsOf σ (.ref a) 2 = some (enumV 0 xs) := by simp [turnsOf, listV, h]
theorem stay_enum {σ σ' : Sto} {a : Nat} {xs : List Val} (h : σ a = some (.list xs)) (h' : σ' a = some (.list xs)) : stay σ (.ref a) 2 (enumV 0 xs) σ' := ⟨fun b e => by cases e; rw [h, h'], turns_enum h'⟩
theorem goodRs_all {nd many : Int} (rs : List Row) (k : Nat) : ((numb k rs).map fun p => goodR nd many p.1 p.2).all id = goodRs nd many k rs := by
  induction rs generalizing k with
  | nil => rfl
  | cons r rs ih => exact congrArg (goodR nd many k r && ·) (ih (k + 1))
theorem plan_spec (hw : FnOk F g "is_whole" d_is_whole) (g3 : g.gv "MOST_LOOK" = some (.int 9)) (g4 : g.gv "MOST_ROWS" = some (.int 300)) (ha : FnOk F g "are_ways" d_are_ways) (hr : FnOk F g "is_row" d_is_row) (h : FnOk F g "is_plan" d_is_plan) {d : Nat} {S : List Way} {R : List Row} {nd : Int} {v : Val} {σ : Sto} {Q : KV} {er : String → Sto → Prop} (hv : Has σ (dPlan S R) v)
    (hQ : ∀ σ', Ext σ σ' → Q (.bool (goodP nd S R)) σ') : F (d + 1 + 1 + 1 + 1) false "is_plan" [v, .int nd] σ Q er := by
  refine Classical.byContradiction fun hG => ?_
  obtain ⟨a, x, y, h1, h2, h3⟩ := has_tup2 hv
  obtain ⟨b, xs, hb, hx⟩ := has_list h3
  refine hG ?_
  clear hG
  refine FnOk.go h rfl ?_
  refine s_cons ?_; refine s_if ?_; refine r_bop ?_; refine r_not ?_; refine r_isi ?_; refine r_s rfl ?_; refine w_tt (by assumption) ?_; refine v_nott ?_; refine v_btf ?_; refine r_b2 ?_; refine r_cmp ?_; refine r_bcall rfl ?_; refine r_ss rfl ?_; refine v_lent (by assumption) ?_; refine v_cmp ?_; refine r_s rfl ?_; refine v_ne ?_; refine v_btn rfl ?_; refine r_b1 ?_; refine r_not ?_; refine r_isi ?_; refine r_sub ?_; refine r_s rfl ?_; refine v_sub1 ?_; refine r_s rfl ?_
  refine sub1 h1 ?_
  refine w_ll (by assumption) ?_; refine v_nott ?_; refine v_iffn ?_; refine t_assign ?_; refine r_bcall rfl ?_; refine r_cons ?_; refine r_sub ?_; refine r_s rfl ?_; refine v_sub1 ?_; refine r_s rfl ?_
  refine sub1 h1 ?_
  refine v_cons ?_; refine r_ss rfl ?_; refine v_push ?_; refine v_len (by assumption) ?_; refine v_asgn ?_; refine t_if ?_; refine r_bop ?_; refine r_cmp ?_; refine r_s rfl ?_; refine v_cmp ?_; refine r_glob (by assumption) ?_; refine v_gt ?_
  rw [hx.len]
  simp only [goodP] at hQ
  by_cases q1 : R.length ≤ 300
  · rw [decide_eq_true q1] at hQ
    refine i_neg (decide_eq_false (Int.not_lt.mpr (Int.ofNat_le.mpr q1))) ?_
    refine r_b1 ?_; refine r_not ?_; refine r_calln (FnOk.cf (by assumption)) ?_; refine r_cons ?_; refine r_sub ?_; refine r_s rfl ?_; refine v_sub1 ?_; refine r_s rfl ?_
    refine sub0 h1 ?_
    refine v_cons ?_; refine r_ss rfl ?_; refine v_push ?_
    refine ways_spec hw g3 ha h2 ?_
    cases q2 : goodW 0 (R.length : Int) (-1) S with
    | false =>
      rw [q2] at hQ
      refine v_notf ?_; refine v_ift ?_; refine t_ret ?_; refine r_s rfl ?_; refine v_ret ?_; refine s_out ?_; refine k_ret ?_
      exact hQ _ (.refl σ)
    | true =>
      rw [q2] at hQ
      refine v_nott ?_; refine v_iffn ?_; refine t_ret ?_; refine r_bcall rfl ?_; refine r_cons ?_; refine r_comp rfl ?_; refine r_sub ?_; refine r_s rfl ?_; refine v_sub1 ?_; refine r_s rfl ?_
      refine sub1 h1 ?_
      refine w_on (turns_enum hb) ⟨?_, ?_⟩
      · rw [(hx.numb 0).len, numb_len]; exact Nat.le_trans q1 (by decide)
      refine comp_rel (σ₀ := σ) (fun (q : Nat × Row) t => ∃ v, t = [.int q.1, v] ∧ Has σ (dRow q.2) v) (fun o' q v => v = .bool (goodR nd R.length q.1 q.2)) (fun o' h => h) (fun σ' e => stay_enum hb (e _ _ hb)) _ _ [] σ (.refl σ) (hx.numb 0) ?_ ?_
      · rintro q hq t σ' ⟨v, rfl, hv⟩ e K' hK'
        refine r_calln (FnOk.cf (by assumption)) ?_; refine r_ss rfl ?_
        exact row_spec hw g3 ha hr (hv.ext e) fun σ'' e' => hK' _ _ e' rfl
      · intro ys σ' e hys c hc
        rw [hys.eq]
        have e0 : _ = goodRs nd (R.length : Int) 0 R := goodRs_all R 0
        rw [← e0] at hQ
        refine v_cons ?_; refine r_ss rfl ?_; refine v_push ?_
        refine bcall_all (bs := (numb 0 R).map fun q : Nat × Row => goodR nd (R.length : Int) (q.1 : Int) q.2) (by rw [set_at, List.map_map]; rfl) ?_
        refine v_retk ?_
        exact hQ _ (e.trans (.set hc _))
  · rw [decide_eq_false q1] at hQ
    refine i_pos (decide_eq_true (Int.ofNat_lt.mpr (Nat.lt_of_not_le q1))) ?_
    refine i_pos (decide_eq_true (Int.ofNat_lt.mpr (Nat.lt_of_not_le q1))) ?_
    refine s_cons ?_; refine s_ret ?_; refine r_s rfl ?_; refine v_ret ?_; refine s_out ?_; refine s_out ?_; refine k_ret ?_
    exact hQ _ (.refl σ)
end BP

namespace BP
open PySem
variable {F : Nat → CallW} {g : Glo}
theorem cut_map {α β : Type} (f : α → β) (xs : List α) (i j : Nat) : cut (xs.map f) i j = (cut xs i j).map f := by unfold cut; rw [List.map_take, List.map_drop]
theorem cut_len {α : Type} (xs : List α) (i j : Nat) : (cut xs i j).length ≤ xs.length := by unfold cut; rw [List.length_take, List.length_drop]; exact Nat.le_trans (Nat.min_le_right _ _) (Nat.sub_le _ _)
theorem cell_any (h : FnOk F g "_law_cell" d_law_cell) {d l : Nat} {ns : List Int} {k : Int} {σ : Sto} {Q : KV} {er : String → Sto → Prop} (hσ : σ l = some (.ro (ns.map .int))) (hl : ns.length ≤ 63) (hQ : ∀ i σ', Ext σ σ' → Q (.int i) σ') : F (d + 1) false "_law_cell" [.ref l, .int k] σ Q er := by
  refine FnOk.go h rfl ?_
  refine s_cons ?_; refine s_ret ?_; refine r_sub ?_; refine r_bin ?_; refine r_slice ?_; refine r_s rfl ?_; refine v_sl1 ?_; refine r_s rfl ?_; refine v_sl2 ?_; refine r_s rfl ?_
  refine x_slr hσ rfl rfl ?_
  rw [cut_map]
  generalize hc : cut ns _ _ = cs
  have hcl : cs.length ≤ 63 := by rw [← hc]; exact Nat.le_trans (cut_len _ _ _) hl
  refine n_ob fun a1 h1 => ?_
  refine v_bin ?_; refine r_list ?_; refine r_ss rfl ?_
  refine n_lit rfl fun a2 h2 => ?_
  refine o_cat (Ext.set h2 _ _ _ (set_at _ _ _)) (set_at _ _ _) (by rw [List.length_map]; show _ + 1 ≤ _; lia) fun a3 h3 => ?_
  refine v_sub1 ?_; refine r_s rfl ?_
  have e := ((Ext.set h1 (.list (cs.map .int))).trans (.set h2 (.list [.int 0]))).trans (.set h3 (.list (cs.map .int ++ [.int 0])))
  cases cs with
  | nil => exact subW_list (set_at _ _ _) (x := .int 0) rfl (hQ _ _ e)
  | cons i r => exact subW_list (set_at _ _ _) (x := .int i) rfl (hQ _ _ e)
theorem int_spec (h : FnOk F g "_law_int" d_law_int) {d : Nat} {i : Int} {σ : Sto} {Q : KV} {er : String → Sto → Prop} (hQ : Q (.bool true) σ) : F (d + 1) false "_law_int" [.int i] σ Q er := by
  refine FnOk.go h rfl ?_
  refine s_cons ?_; refine s_ret ?_; refine r_bop ?_; refine r_cmp ?_; refine r_s rfl ?_; refine v_cmp ?_; refine r_s rfl ?_; refine v_nib ?_; refine v_bft ?_; refine r_b2 ?_; refine r_cmp ?_; refine r_s rfl ?_; refine v_cmp ?_; refine r_s rfl ?_; refine v_nib ?_; refine v_bft ?_; refine r_b1 ?_; refine r_isi ?_; refine r_s rfl ?_; refine w_ii ?_; refine v_ret ?_; refine s_out ?_; refine k_ret ?_
  exact hQ
theorem mem_irange {lo hi i : Int} : i ∈ irange lo hi ↔ lo ≤ i ∧ i < hi := by
  simp only [irange, List.mem_map, List.mem_range]
  constructor
  · rintro ⟨k, h1, rfl⟩; lia
  · rintro ⟨h1, h2⟩; exact ⟨(i - lo).toNat, (Int.toNat_lt_toNat (Int.sub_pos_of_lt (Int.lt_of_le_of_lt h1 h2))).mpr (Int.sub_lt_sub_right h2 lo), by rw [Int.toNat_of_nonneg (Int.sub_nonneg_of_le h1), Int.add_comm, Int.sub_add_cancel]⟩
theorem iran_len (lo n : Int) : (irange lo n).length = (n - lo).toNat := by simp [irange]
theorem turns_range {σ : Sto} {a : Nat} {lo hi : Int} (h : σ a = some (.range lo hi)) : turnsOf σ (.ref a) 1 = some (((irange lo hi).map Val.int).map fun v => [v]) := by
  show (itemsO (σ a)).map _ = _
  rw [h]; rfl
theorem stay_range {σ σ' : Sto} {a : Nat} {lo hi : Int} (h : σ a = some (.range lo hi)) (h' : σ' a = some (.range lo hi)) : stay σ (.ref a) 1 (((irange lo hi).map Val.int).map fun v => [v]) σ' := ⟨fun b e => by cases e; rw [h, h'], turns_range h'⟩
theorem b_range {σ : Sto} {n : Int} {Q : KV} (h0 : 0 ≤ n) (h1 : n ≤ 1000000) (h : ∀ a, σ a = none → Q (.ref a) (σ.set a (.range 0 n))) : bcallW .range [.int n] σ Q := ⟨Int.le_trans (by decide) h0, h1, h⟩
theorem b_range2 {σ : Sto} {m n : Int} {Q : KV} (h0 : -1 ≤ m) (h1 : m ≤ n) (h2 : n ≤ 1000000) (h : ∀ a, σ a = none → Q (.ref a) (σ.set a (.range m n))) : bcallW .range [.int m, .int n] σ Q := ⟨Int.le_trans (by decide) h0, Int.le_trans h1 h2, Int.le_trans (Int.le_trans (by decide) h0) h1, h2, h⟩
theorem ran_turns {lo hi : Int} : All2 (one1 fun (i : Int) v => lo ≤ i ∧ i < hi ∧ v = .int i) (irange lo hi) (((irange lo hi).map Val.int).map fun v => [v]) := All2.turns (All2.of fun i hi => ⟨(mem_irange.mp hi).1, (mem_irange.mp hi).2, rfl⟩)
theorem comp_ran {F : CallW} {gv : Glo} {B : Loc → Sto → KV → Prop} {x : String} {ρ : Loc} {σ : Sto} {a : Nat} {lo hi : Int} (S : Sto → Int → Val → Prop) (hS : ∀ {σ σ' a v}, Ext σ σ' → S σ a v → S σ' a v) (ha : σ a = some (.range lo hi)) (hl : (hi - lo).toNat ≤ 1000000) {Q : KV}
    (hB : ∀ i, lo ≤ i → i < hi → ∀ σ', Ext σ σ' → ∀ K' : KV, (∀ y σ'', Ext σ' σ'' → S σ'' i y → K' y σ'') → B (upd ρ x (.int i)) σ' K')
    (hQ : ∀ c ys σ', Ext σ σ' → σ' c = none → All2 (S σ') (irange lo hi) ys → Q (.ref c) (σ'.set c (.list ys))) :
    onS1 (turnsOf σ (.ref a) 1) fun turns => turns.length ≤ lim ∧ wpComp (fun ρ' σ' K => wpIfs F gv [] ρ' σ' K) B (stay σ (.ref a) 1 turns) [x] turns [] ρ σ fun ys σ' => newW σ' (.list ys) Q := by
  refine w_on (turns_range ha) ⟨by rw [List.length_map, List.length_map, iran_len]; exact hl, ?_⟩
  refine comp_rel (σ₀ := σ) _ S hS (fun σ' e => stay_range ha (e _ _ ha)) _ _ [] σ (.refl σ) ran_turns ?_ ?_
  · rintro i hi t σ' ⟨v, rfl, h1, h2, rfl⟩ e K' hK'
    exact hB i h1 h2 σ' e K' hK'
  · intro ys σ' e hys c hc
    exact hQ c ys σ' e hc hys
theorem comp_sub {C : Loc → Sto → (Bool → Sto → Prop) → Prop} {B : Loc → Sto → KV → Prop} {it : Sto → Prop} {x : String} {ρ : Loc} {σ₀ : Sto} {K : List Val → Sto → Prop} (must : Int → Prop) (hit : ∀ σ', Ext σ₀ σ' → it σ') (hB : ∀ i σ' (K' : KV), K' (.int i) σ' → B (upd ρ x (.int i)) σ' K') :
    ∀ (ns : List Int) (acc : List Val) (σ : Sto), Ext σ₀ σ → (∀ i ∈ ns, ∀ σ', Ext σ₀ σ' → ∀ K' : Bool → Sto → Prop, (∀ b σ'', Ext σ' σ'' → (must i → b = true) → K' b σ'') → C (upd ρ x (.int i)) σ' K') →
      (∀ (ms : List Int) σ', Ext σ σ' → ms.Sublist ns → (∀ i ∈ ns, must i → i ∈ ms) → K (acc ++ ms.map .int) σ') → wpComp C B it [x] ((ns.map Val.int).map fun v => [v]) acc ρ σ K
  | [], acc, σ, e, hC, hK => by
    have := hK [] σ (.refl σ) (.refl _) (fun o' h => nomatch h)
    rw [List.map_nil, List.append_nil] at this
    exact ⟨hit σ e, this⟩
  | n :: ns, acc, σ, e, hC, hK => by
    refine ⟨hit σ e, hC n (.head _) σ e _ fun b σ1 e1 hb => ?_⟩
    cases b with
    | true =>
      refine hB n σ1 _ ?_
      refine comp_sub must hit hB ns _ σ1 (e.trans e1) (fun i hi => hC i (.tail _ hi)) fun ms σ' e' h1 h2 => ?_
      rw [List.append_assoc]
      exact hK (n :: ms) σ' (e1.trans e') (h1.cons_cons n) fun i hi q => (List.mem_cons.mp hi).elim (fun q => q ▸ .head _) fun hi => .tail _ (h2 i hi q)
    | false =>
      refine comp_sub must hit hB ns _ σ1 (e.trans e1) (fun i hi => hC i (.tail _ hi)) fun ms σ' e' h1 h2 => ?_
      exact hK ms σ' (e1.trans e') (h1.cons n) fun i hi q => (List.mem_cons.mp hi).elim (fun q' => by rw [q'] at q; cases hb q) fun hi => h2 i hi q
theorem ran_sub {C : Loc → Sto → (Bool → Sto → Prop) → Prop} {B : Loc → Sto → KV → Prop} {x : String} {ρ : Loc} {σ : Sto} {Q : KV} {n : Int} (must : Int → Prop) (h0 : 0 ≤ n) (h1 : n ≤ 1000)
    (hB : ∀ i σ' (K' : KV), K' (.int i) σ' → B (upd ρ x (.int i)) σ' K')
    (hC : ∀ i, 0 ≤ i → i < n → ∀ σ', Ext σ σ' → ∀ K' : Bool → Sto → Prop, (∀ b σ'', Ext σ' σ'' → (must i → b = true) → K' b σ'') → C (upd ρ x (.int i)) σ' K')
    (hQ : ∀ (ms : List Int) c σ', Ext σ σ' → σ' c = none → ms.Sublist (irange 0 n) → (∀ i, 0 ≤ i → i < n → must i → i ∈ ms) → Q (.ref c) (σ'.set c (.list (ms.map .int)))) :
    bcallW .range [.int n] σ (fun v σ₁ => onS1 (turnsOf σ₁ v 1) fun turns => turns.length ≤ lim ∧ wpComp C B (stay σ₁ v 1 turns) [x] turns [] ρ σ₁ (fun ys σ' => newW σ' (.list ys) Q)) := by
  refine b_range h0 (by lia) fun a ha => ?_
  have hr := set_at σ a (.range 0 n)
  have e0 := Ext.set ha (.range 0 n)
  refine w_on (turns_range hr) ⟨by rw [List.length_map, List.length_map, iran_len]; exact Nat.le_trans (by lia) (show 1000 ≤ lim by decide), ?_⟩
  refine comp_sub (σ₀ := σ.set a (.range 0 n)) must (fun σ' e => stay_range hr (e _ _ hr)) hB _ [] _ (.refl _) (fun i hi σ' e => hC i (mem_irange.mp hi).1 (mem_irange.mp hi).2 σ' (e0.trans e)) fun ms σ' e h3 h4 c hc => ?_
  exact hQ ms c σ' (e0.trans e) hc h3 fun i q0 q1 => h4 i (mem_irange.mpr ⟨q0, q1⟩)
noncomputable def risingI : List Int → Int → Int → Bool
  | [], _, _ => true
  | i :: xs, b, m => (decide (b + 1 ≤ i) && decide (i ≤ m - 1)) && risingI xs i m
noncomputable def Rooms (many : Int) (ns : List Int) : Prop := ns.Pairwise (· < ·) ∧ ∀ i ∈ ns, 0 ≤ i ∧ i < many
theorem rising_of {m : Int} : ∀ {l : List Int} {b : Int}, l.Pairwise (· < ·) → (∀ i ∈ l, b < i ∧ i < m) → risingI l b m = true
  | [], _, _, _ => rfl
  | i :: l, b, h1, h2 => by
    obtain ⟨h3, h4⟩ := List.pairwise_cons.mp h1
    have := h2 i (.head _)
    simp only [risingI, Bool.and_eq_true, decide_eq_true_eq]
    exact ⟨⟨by lia, by lia⟩, rising_of h4 fun j hj => ⟨h3 j hj, (h2 j (.tail _ hj)).2⟩⟩
theorem Rooms.rising {many : Int} {ns : List Int} (h : Rooms many ns) : risingI ns (-1) many = true := rising_of h.1 fun i hi => ⟨Int.lt_of_lt_of_le (by decide) (h.2 i hi).1, (h.2 i hi).2⟩
theorem irange_lt (lo hi : Int) : (irange lo hi).Pairwise (· < ·) := by
  unfold irange
  rw [List.pairwise_map]
  exact List.Pairwise.imp (fun h => by lia) List.pairwise_lt_range
theorem Rooms.sub {many : Int} {ns ms : List Int} (h : Rooms many ns) (hs : ms.Sublist ns) : Rooms many ms := ⟨h.1.sublist hs, fun i hi => h.2 i (hs.subset hi)⟩
theorem Rooms.ran {many : Int} {ms : List Int} (hs : ms.Sublist (irange 0 many)) : Rooms many ms := Rooms.sub ⟨irange_lt 0 many, fun i hi => mem_irange.mp hi⟩ hs
theorem Rooms.one {many i : Int} (h0 : 0 ≤ i) (h1 : i < many) : Rooms many [i] := ⟨List.pairwise_singleton _ _, fun j hj => by rw [List.mem_singleton.mp hj]; exact ⟨h0, h1⟩⟩
theorem Rooms.len {many : Int} {ns : List Int} (h : Rooms many ns) (h8 : many ≤ 8) : ns.length ≤ 8 := few (h.1.imp fun q => by lia) fun i hi => by have := h.2 i hi; lia
theorem law_to_spec (h : FnOk F g "_law_to" d_law_to) {d : Nat} {c room many : Int} {σ : Sto} {Q : KV} {er : String → Sto → Prop} (h0 : 0 ≤ room) (h1 : room < many) (h2 : many ≤ 8)
    (hQ : ∀ ns c σ', Ext σ σ' → σ' c = none → Rooms many ns → ns ≠ [] → Q (.ref c) (σ'.set c (.list (ns.map .int)))) : F (d + 1) false "_law_to" [.int c, .int room, .int many] σ Q er := by
  have one : ∀ (i : Int), 0 ≤ i → i < many → [Val.int i].length ≤ lim ∧ newW σ (.list [.int i]) Q := fun i h3 h4 => n_lit rfl fun a ha => hQ [i] a σ (.refl σ) ha (.one h3 h4) (List.cons_ne_nil _ _)
  have hm : ∀ x : Int, 0 ≤ x % many ∧ x % many < many := fun x => ⟨Int.emod_nonneg _ (by lia), Int.emod_lt_of_pos _ (by lia)⟩
  have mp : 0 < many := by lia
  have ml : many ≤ 1000000 := by lia
  have fin : ∀ (ms : List Int) c σ', Ext σ σ' → σ' c = none → ms.Sublist (irange 0 many) → (∀ i, 0 ≤ i → i < many → i = room → i ∈ ms) → Q (.ref c) (σ'.set c (.list (ms.map .int))) := fun ms c σ' e hc hs hr => hQ ms c σ' e hc (.ran hs) fun q => by
    have := hr room h0 h1 rfl
    rw [q] at this; cases this
  refine FnOk.go h rfl ?_
  refine s_cons ?_; refine s_assign ?_; refine r_bin ?_; refine r_bin ?_; refine r_s rfl ?_; refine v_bin ?_; refine r_bin ?_; refine r_bin ?_; refine r_s rfl ?_; refine v_bin ?_; refine r_s rfl ?_
  refine o_mul (.inl ⟨Int.le_trans (by decide) h0, by show room ≤ 1000000; lia⟩) ?_
  refine v_bin ?_; refine r_s rfl ?_; refine v_mulr rfl ?_; refine v_add ?_; refine v_bin ?_; refine r_s rfl ?_; refine v_mod rfl ?_; refine v_asgn ?_; refine t_if ?_; refine r_s rfl ?_
  refine i_dec (fun c0 => ?_) fun c0 => ?_
  · refine s_cons ?_; refine s_ret ?_; refine r_list ?_; refine r_cons ?_; refine r_bin ?_; refine r_s rfl ?_; refine v_bin ?_; refine r_s rfl ?_
    refine o_modn mp ml ?_
    refine v_cons ?_; refine r_ss rfl ?_; refine v_push ?_
    exact one _ (hm _).1 (hm _).2
  refine s_nil2 ?_; refine t_if ?_; refine r_s rfl ?_
  refine i_dec (fun c1 => ?_) fun c1 => ?_
  · refine s_cons ?_; refine s_ret ?_; refine r_list ?_; refine r_cons ?_; refine r_bcall rfl ?_; refine r_ss rfl ?_; refine v_max ?_; refine v_cons ?_; refine r_ss rfl ?_; refine v_push ?_
    exact one _ (Int.le_max_left _ _) (Int.max_lt.mpr ⟨mp, Int.lt_of_le_of_lt (Int.le_trans (Int.sub_le_self _ (Int.emod_nonneg _ (by decide))) (Int.sub_le_self _ (by decide))) h1⟩)
  refine s_nil2 ?_; refine t_if ?_; refine r_s rfl ?_
  refine i_dec (fun c4 => ?_) fun c4 => ?_
  · refine s_cons ?_; refine s_ret ?_; refine r_list ?_; refine r_cons ?_; refine r_bin ?_; refine r_s rfl ?_; refine v_bin ?_; refine r_s rfl ?_
    refine o_modn mp ml ?_
    refine v_cons ?_; refine r_ss rfl ?_; refine v_push ?_
    exact one _ (hm _).1 (hm _).2
  refine s_nil2 ?_; refine t_if ?_; refine r_s rfl ?_
  refine i_dec (fun c5 => ?_) fun c5 => ?_
  · refine s_cons ?_; refine s_ret ?_; refine r_comp rfl ?_; refine r_bcall rfl ?_; refine r_ss rfl ?_
    refine ran_sub (· = room) (by lia) (by lia) (fun i σ' K' hK => ?_) (fun i o' o' σ' e K' hK => ?_) fin
    · refine r_s rfl ?_
      exact hK
    · refine r_if1 ?_; refine r_bop ?_; refine r_s rfl ?_
      refine i_dec (fun q => ?_) fun q => ?_
      · rw [decide_eq_true q]
        refine v_ifst ?_; refine r_if0 ?_
        exact hK _ _ (.refl _) fun o' => rfl
      · refine r_b1 ?_; refine r_cmp ?_; refine r_s rfl ?_; refine v_cmp ?_; refine r_bin ?_; refine r_s rfl ?_; refine v_bin ?_; refine r_s rfl ?_
        refine o_modn mp ml ?_
        refine v_eq ?_
        refine i_dec (fun q' => ?_) fun q' => ?_
        · refine r_if0 ?_
          exact hK _ _ (.refl _) fun o' => rfl
        · skip
          exact hK _ _ (.refl _) fun x => absurd x q
  · refine s_nil2 ?_; refine t_ret ?_; refine r_comp rfl ?_; refine r_bcall rfl ?_; refine r_ss rfl ?_
    refine ran_sub (· = room) (by lia) (by lia) (fun i σ' K' hK => ?_) (fun i o' o' σ' e K' hK => ?_) fin
    · refine r_s rfl ?_
      exact hK
    · refine r_if1 ?_; refine r_bop ?_; refine r_s rfl ?_
      refine i_dec (fun q => ?_) fun q => ?_
      · rw [decide_eq_true q]
        refine v_ifst ?_; refine r_if0 ?_
        exact hK _ _ (.refl _) fun o' => rfl
      · refine r_b1 ?_; refine r_cmp ?_; refine r_bin ?_; refine r_bin ?_; refine r_s rfl ?_; refine v_bin ?_; refine r_s rfl ?_
        refine o_fdivn (by lia) (by lia) ?_
        refine v_bin ?_; refine r_s rfl ?_; refine v_mod rfl ?_; refine v_cmp ?_; refine r_s rfl ?_; refine v_eq ?_
        refine i_dec (fun q' => ?_) fun q' => ?_
        · refine r_if0 ?_
          exact hK _ _ (.refl _) fun o' => rfl
        · skip
          exact hK _ _ (.refl _) fun x => absurd x q
end BP

namespace BP
open PySem
variable {F : Nat → CallW} {g : Glo}
theorem subW_ints {σ : Sto} {a : Nat} {ns : List Int} {k : Int} {Q : KV} (hσ : σ a = some (.list (ns.map .int))) (h0 : 0 ≤ k) (h1 : k < ns.length) (hQ : ∀ i, i ∈ ns → ns[k.toNat]? = some i → Q (.int i) σ) : subW (.ref a) (.int k) σ Q := by
  obtain ⟨j, rfl⟩ := Int.eq_ofNat_of_zero_le h0
  have hj : j < ns.length := by lia
  refine subW_list hσ (x := .int ns[j]) (by rw [getIdx_nat, List.getElem?_map, List.getElem?_eq_getElem hj]; rfl) (hQ _ (List.getElem_mem hj) (List.getElem?_eq_getElem hj))
theorem all_ex {α β : Type} {R : β → Val → Prop} {P : β → Prop} {as : List α} {ys : List Val} (h : All2 (fun o' v => ∃ j, P j ∧ R j v) as ys) {G : Prop} : (∀ js : List β, All2 R js ys → js.length = as.length → (∀ j ∈ js, P j) → G) → G := by
  induction h with
  | nil => exact fun k => k [] .nil rfl fun o' h => nomatch h
  | cons h2 _ ih => exact fun k => h2.elim fun j hj => ih fun js k1 k2 k3 => k (j :: js) (.cons hj.2 k1) (congrArg (· + 1) k2) fun i hi => (List.mem_cons.mp hi).elim (fun q => q ▸ hj.1) (k3 i)
theorem all_ints {α : Type} {P : Int → Prop} {as : List α} {ys : List Val} (h : All2 (fun o' v => ∃ j, P j ∧ v = .int j) as ys) {G : Prop} (k : ∀ js : List Int, ys = js.map .int → js.length = as.length → (∀ j ∈ js, P j) → G) : G :=
  all_ex h fun js k1 k2 k3 => k js k1.eq k2 k3
noncomputable def LooksOk (many : Int) (ls : List Int) : Prop := (ls.length : Int) = many ∧ ∀ l ∈ ls, 0 ≤ l ∧ l ≤ 9
theorem law_looks_spec (hc : FnOk F g "_law_cell" d_law_cell) (h : FnOk F g "_law_looks" d_law_looks) {d : Nat} {l : Nat} {ns : List Int} {many : Int} {σ : Sto} {Q : KV} {er : String → Sto → Prop} (hσ : σ l = some (.ro (ns.map .int))) (hl : ns.length ≤ 63) (h1 : 1 ≤ many) (h2 : many ≤ 8)
    (hQ : ∀ ls v σ', Ext σ σ' → LooksOk many ls → Has σ' (ilist ls) v → Q v σ') : F (d + 2) false "_law_looks" [.ref l, .int many] σ Q er := by
  refine FnOk.go h rfl ?_
  have rest : ∀ (ps : List Int) (a : Nat) (base step : Int) ρ' σ', Ext σ σ' → σ' a = some (.list (ps.map .int)) → (ps.length : Int) = many → 1 ≤ step → step ≤ 9 → ρ' "_law_picks" = some (.ref a) → ρ' "_law_base" = some (.int base) → ρ' "_law_step" = some (.int step) → nxt (F (d + 1)) (g.at false er) (d_law_looks.2.drop 6) (Kq Q) .next ρ' σ' := by
    intro ps a base step ρ' σ1 e1 ha hp s1 s2 r1 r2 r3
    show nxt (F (d + 1)) (g.at false er) [St.ret _] (Kq Q) .next ρ' σ1
    refine s_nxt ?_; refine s_cons ?_; refine s_ret ?_; refine r_comp rfl ?_; refine r_var (by assumption) ?_
    refine comp_list (fun (i : Int) v => v = .int i) (fun o' o' v => ∃ j, (0 ≤ j ∧ j ≤ 9) ∧ v = .int j) (fun o' h => h) ha (by rw [List.length_map]; lia) (All2.of fun o' o' => rfl) ?_ ?_
    · intro i _ v σ' hv e K' hK
      subst hv
      refine r_bin ?_; refine r_bin ?_; refine r_var (by assumption) ?_; refine v_bin ?_; refine r_bin ?_; refine r_var (by assumption) ?_; refine v_bin ?_; refine r_s rfl ?_
      refine o_mul (.inl ⟨Int.le_trans (by decide) s1, Int.le_trans s2 (by decide)⟩) ?_
      refine v_add ?_; refine v_bin ?_; refine r_s rfl ?_; refine v_mod rfl ?_
      exact hK _ _ (.refl _) ⟨_, ⟨Int.emod_nonneg _ (by decide), by lia⟩, rfl⟩
    · intro c ys σ' e hc' hys
      refine all_ints hys fun js k1 k2 k3 => ?_
      subst k1
      refine v_ret ?_; refine s_out ?_; refine k_ret ?_
      exact hQ js _ _ (e1.trans (e.trans (.set hc' _))) ⟨by lia, k3⟩ (mk_ints (set_at _ _ _))
  refine s_cons ?_; refine s_assign ?_; refine r_sub ?_; refine r_list ?_; refine r_ss rfl ?_
  refine n_lit (o := .list (([1, 2, 3, 2, 3, 4, 5, 9] : List Int).map .int)) rfl fun a1 ha1 => ?_
  refine v_sub1 ?_; refine r_bin ?_; refine r_bin ?_; refine r_calln (FnOk.cf (by assumption)) ?_; refine r_ss rfl ?_
  refine cell_any hc (Ext.set ha1 _ _ _ hσ) hl fun c1 σ1 e1 => ?_
  refine v_bin ?_; refine r_s rfl ?_; refine v_fdiv rfl ?_; refine v_bin ?_; refine r_s rfl ?_; refine v_mod rfl ?_
  refine subW_ints (e1 _ _ (set_at _ _ _)) (by lia) (by show _ < 8; lia) fun kinds hk o' => ?_
  have hk : 1 ≤ kinds ∧ kinds ≤ 9 := (by decide : ∀ k ∈ ([1, 2, 3, 2, 3, 4, 5, 9] : List Int), 1 ≤ k ∧ k ≤ 9) _ hk
  have E1 := (Ext.set ha1 _).trans e1
  refine v_asgn ?_; refine t_assign ?_; refine r_calln (FnOk.cf (by assumption)) ?_; refine r_ss rfl ?_
  refine cell_any hc (E1 _ _ hσ) hl fun base σ2 e2 => ?_
  refine v_asgn ?_; refine t_assign ?_; refine r_sub ?_; refine r_list ?_; refine r_ss rfl ?_
  refine n_lit (o := .list (([3, 1, 7, 9] : List Int).map .int)) rfl fun a3 ha3 => ?_
  refine v_sub1 ?_; refine r_s rfl ?_
  refine subW_ints (set_at _ _ _) (by lia) (by show _ < 4; lia) fun step hs o' => ?_
  have hs : 1 ≤ step ∧ step ≤ 9 := (by decide : ∀ k ∈ ([3, 1, 7, 9] : List Int), 1 ≤ k ∧ k ≤ 9) _ hs
  have E3 := (E1.trans e2).trans (Ext.set ha3 (.list (([3, 1, 7, 9] : List Int).map .int)))
  generalize σ2.set a3 (.list (([3, 1, 7, 9] : List Int).map .int)) = σ3 at E3
  clear e1 E1 e2 ha3 ha1
  refine v_asgn ?_; refine t_assign ?_; refine r_bin ?_; refine r_calln (FnOk.cf (by assumption)) ?_; refine r_ss rfl ?_
  refine cell_any hc (E3 _ _ hσ) hl fun seed σ4 e4 => ?_
  have E4 := E3.trans e4
  clear E3 e4
  refine v_bin ?_; refine r_s rfl ?_; refine v_mulr rfl ?_; refine v_asgn ?_; refine t_assign ?_; refine r_comp rfl ?_; refine r_bcall rfl ?_; refine r_ss rfl ?_
  refine b_range (by lia) (by lia) fun r hr => ?_
  refine comp_ran (fun o' o' v => ∃ j, True ∧ v = .int j) (fun o' h => h) (set_at _ _ _) (by lia) ?_ ?_
  · intro i hi0 hi1 σ' e K' hK
    refine r_bin ?_; refine r_bin ?_; refine r_bin ?_; refine r_s rfl ?_; refine v_bin ?_; refine r_bin ?_; refine r_bin ?_; refine r_s rfl ?_; refine v_bin ?_; refine r_s rfl ?_
    refine o_mul (.inl ⟨Int.le_trans (by decide) hi0, by show i ≤ 1000000; lia⟩) ?_
    refine v_bin ?_; refine r_s rfl ?_; refine v_mulr rfl ?_; refine v_add ?_; refine v_bin ?_; refine r_sub ?_; refine r_list ?_; refine r_ss rfl ?_
    refine n_lit (o := .list (([1, 3, 9, 27, 81, 243, 729, 2187] : List Int).map .int)) rfl fun a5 ha5 => ?_
    refine v_sub1 ?_; refine r_s rfl ?_
    refine subW_ints (set_at _ _ _) hi0 (by show _ < 8; lia) fun den hd hd' => ?_
    have hden := (by decide : ∀ k ∈ ([1, 3, 9, 27, 81, 243, 729, 2187] : List Int), 0 < k ∧ k ≤ 1000000) _ hd
    refine o_fdivn hden.1 hden.2 ?_
    refine v_bin ?_; refine r_s rfl ?_
    refine o_modn (by lia) (by lia) ?_
    exact hK _ _ (.set ha5 _) ⟨_, trivial, rfl⟩
  intro c ys σ5 e5 hc5 hys
  refine all_ints hys fun js k1 k2 o' => ?_
  subst k1
  rw [iran_len] at k2
  have E5 := E4.trans ((Ext.set hr _).trans (e5.trans (.set hc5 (.list (js.map .int)))))
  have hc5 := set_at σ5 c (.list (js.map .int))
  generalize σ5.set c (.list (js.map .int)) = σ6 at E5 hc5
  clear E4 e5 hys hr
  refine v_asgn ?_; refine t_if ?_; refine r_s rfl ?_
  refine i_dec (fun q => ?_) fun q => ?_
  · refine s_cons ?_; refine s_assign ?_; refine r_comp rfl ?_; refine r_bcall rfl ?_; refine r_ss rfl ?_
    refine b_range (by lia) (by lia) fun r hr => ?_
    refine comp_ran (fun o' o' v => ∃ j, True ∧ v = .int j) (fun o' h => h) (set_at _ _ _) (by lia) ?_ ?_
    · intro i hi0 hi1 σ' e K' hK
      refine r_s rfl ?_
      exact hK _ _ (.refl _) ⟨_, trivial, rfl⟩
    intro c ys σ7 e7 hc7 hys
    refine all_ints hys fun js k1 k2 o' => ?_
    subst k1
    rw [iran_len] at k2
    refine v_asg ?_
    exact rest js c base step _ _ (E5.trans ((Ext.set hr _).trans (e7.trans (.set hc7 _)))) (set_at _ _ _) (by lia) hs.1 hs.2 (by (repeat (first | with_reducible exact l_here | assumption | refine l_there rfl ?_ | with_reducible refine l_bind ?_ | with_reducible refine l_bind0 ?_))) (by (repeat (first | with_reducible exact l_here | assumption | refine l_there rfl ?_ | with_reducible refine l_bind ?_ | with_reducible refine l_bind0 ?_))) (by (repeat (first | with_reducible exact l_here | assumption | refine l_there rfl ?_ | with_reducible refine l_bind ?_ | with_reducible refine l_bind0 ?_)))
  · refine s_nil ?_
    exact rest js c base step _ _ E5 hc5 (by lia) hs.1 hs.2 (by (repeat (first | with_reducible exact l_here | assumption | refine l_there rfl ?_ | with_reducible refine l_bind ?_ | with_reducible refine l_bind0 ?_))) (by (repeat (first | with_reducible exact l_here | assumption | refine l_there rfl ?_ | with_reducible refine l_bind ?_ | with_reducible refine l_bind0 ?_))) (by (repeat (first | with_reducible exact l_here | assumption | refine l_there rfl ?_ | with_reducible refine l_bind ?_ | with_reducible refine l_bind0 ?_)))
noncomputable def DeedOk (many : Int) (rows : List (List Int)) : Prop := (rows.length : Int) = many ∧ ∀ ns ∈ rows, Rooms many ns ∧ ns ≠ []
noncomputable def deedD (rows : List (List Int)) : Dat := .list (rows.map ilist)
structure HouseOk (many : Int) (looks : List Int) (deeds : List (List (List Int))) (wished : List Int) : Prop where
  many1 : 1 ≤ many
  many8 : many ≤ 8
  looks : LooksOk many looks
  count : 1 ≤ deeds.length ∧ deeds.length ≤ 5
  deeds : ∀ rows ∈ deeds, DeedOk many rows
  wished : Rooms many wished
noncomputable def houseD (looks : List Int) (deeds : List (List (List Int))) (wished : List Int) : Dat := .tup [ilist looks, .list (deeds.map deedD), ilist wished]
theorem all_hasFL {ok : Nat → Prop} {σ : Sto} {α : Type} {f : α → Dat} {as : List α} {xs : List Val} (h : All2 (fun a v => HasF ok σ (f a) v) as xs) : HasFL ok σ (as.map f) xs := by
  induction h with
  | nil => exact HasFL.nil
  | cons h1 _ ih => exact ⟨_, _, rfl, h1, ih⟩
theorem listF_has {ok : Nat → Prop} {σ : Sto} {α : Type} {f : α → Dat} {as : List α} {a : Nat} {xs : List Val} (h : σ a = some (.list xs)) (h0 : ok a) (h' : All2 (fun x v => HasF ok σ (f x) v) as xs) : HasF ok σ (.list (as.map f)) (.ref a) := by
  simp only [HasF]
  exact ⟨a, xs, rfl, h0, h, all_hasFL h'⟩
theorem hasF_keep {c : Nat} {σ : Sto} {ob : Ob} {d : Dat} {v : Val} (h : HasF (· ≠ c) σ d v) : HasF (· ≠ c) (σ.set c ob) d v := h.move (fun a ob' h e => by rw [set_ne _ _ h]; exact e) fun o' h => h
theorem hasF_new {c : Nat} {σ σ' : Sto} {ob : Ob} (hc : σ c = some ob) {d : Dat} {v : Val} (h : HasF (new σ) σ' d v) : HasF (· ≠ c) σ' d v := h.move (fun o' o' o' e => e) fun a h q => by rw [q] at h; rw [show σ c = none from h] at hc; cases hc
theorem Ext.upd {σ σ' : Sto} {c : Nat} (e : Ext σ σ') (hc : σ c = none) (ob : Ob) : Ext σ (σ'.set c ob) := fun a ob' h => by
  rw [set_ne _ _ (fun q => by rw [q, hc] at h; cases h)]; exact e _ _ h
theorem All2.snoc {α β : Type} {R : α → β → Prop} {a : α} {b : β} (h : R a b) {as : List α} {bs : List β} (h' : All2 R as bs) : All2 R (as ++ [a]) (bs ++ [b]) := by
  induction h' with
  | nil => exact .cons h .nil
  | cons h1 _ ih => exact .cons h1 ih
theorem bits_comp {F : CallW} {g : Glo} {er : String → Sto → Prop} {ρ : Loc} {σ : Sto} {Q : KV} {many bits : Int} (h0 : 0 ≤ many) (h1 : many ≤ 8) (r1 : ρ "_law_many" = some (.int many)) (r2 : ρ "_law_bits" = some (.int bits))
    (hQ : ∀ (ms : List Int) c σ', Ext σ σ' → σ' c = none → Rooms many ms → Q (.ref c) (σ'.set c (.list (ms.map .int)))) :
    wpE F (g.at false er) (.comp (.var "_law_room") 1 ["_law_room"] (.bcall .range [(.var "_law_many")]) [(.cmp .eq (.bin .mod (.bin .fdiv (.var "_law_bits") (.sub (.list [(.int_ 1), (.int_ 2), (.int_ 4), (.int_ 8), (.int_ 16), (.int_ 32), (.int_ 64), (.int_ 128)]) (.var "_law_room"))) (.int_ 2)) (.int_ 1))]) ρ σ Q := by
  refine r_comp rfl ?_; refine r_bcall rfl ?_; refine r_cons ?_; refine r_var (by assumption) ?_; refine v_cons ?_; refine r_ss rfl ?_; refine v_push ?_
  refine ran_sub (fun o' => False) h0 (by lia) (fun i σ' K' hK => ?_) (fun i i0 i1 σ' e K' hK => ?_) fun ms c σ' e hc hs o' => hQ ms c σ' e hc (.ran hs)
  · refine r_s rfl ?_
    exact hK
  · refine r_if1 ?_; refine r_cmp ?_; refine r_bin ?_; refine r_bin ?_; refine r_var (by assumption) ?_; refine v_bin ?_; refine r_sub ?_; refine r_list ?_; refine r_ss rfl ?_
    refine n_lit (o := .list (([1, 2, 4, 8, 16, 32, 64, 128] : List Int).map .int)) rfl fun b hb => ?_
    refine v_sub1 ?_; refine r_s rfl ?_
    refine subW_ints (set_at _ _ _) i0 (by show _ < 8; lia) fun p hp o' => ?_
    have hp := (by decide : ∀ k ∈ ([1, 2, 4, 8, 16, 32, 64, 128] : List Int), 0 < k ∧ k ≤ 1000000) _ hp
    refine o_fdivn hp.1 hp.2 ?_
    refine v_bin ?_; refine r_s rfl ?_; refine v_mod rfl ?_; refine v_cmp ?_; refine r_s rfl ?_; refine v_eq ?_
    have := fun b => hK b _ (.set hb (.list (([1, 2, 4, 8, 16, 32, 64, 128] : List Int).map .int))) False.elim
    refine i_dec (fun q => ?_) fun q => ?_
    · refine r_if0 ?_
      exact this _
    · exact this _
end BP

namespace BP
open PySem
variable {F : Nat → CallW} {g : Glo}
structure DeedsI (σ1 : Sto) (c r l : Nat) (many count : Int) (ks : List Int) (ρ' : Loc) (σ' : Sto) : Prop where
  q5 : Ext σ1 σ'
  q8 : σ' r = some (.range 0 count)
  q9 : ρ' "_law_script" = some (.ref l)
  q10 : ρ' "_law_many" = some (.int many)
  q11 : ρ' "_law_deeds" = some (.ref c)
  q : ∃ deeds xs, σ' c = some (.list xs) ∧ All2 (fun D v => HasF (· ≠ c) σ' (deedD D) v) deeds xs ∧ ((deeds.length + ks.length : Nat) : Int) = count ∧ ∀ D ∈ deeds, DeedOk many D
theorem law_house_spec (hc : FnOk F g "_law_cell" d_law_cell) (hto : FnOk F g "_law_to" d_law_to) (hlk : FnOk F g "_law_looks" d_law_looks) (h : FnOk F g "_law_house" d_law_house) {d : Nat} {l : Nat} {ns : List Int} {σ : Sto} {Q : KV} {er : String → Sto → Prop} (hσ : σ l = some (.ro (ns.map .int))) (hl : ns.length ≤ 63)
    (hQ : ∀ many looks deeds wished v σ', Ext σ σ' → HouseOk many looks deeds wished → Has σ' (houseD looks deeds wished) v → Q v σ') : F (d + 3) false "_law_house" [.ref l] σ Q er := by
  refine FnOk.go h rfl ?_
  have last : ∀ (many : Int) (deeds : List (List (List Int))) (w : List Int) (vw vd : Val) (σ3 : Sto) (ρ' : Loc), 1 ≤ many → many ≤ 8 → 1 ≤ deeds.length → deeds.length ≤ 5 → (∀ D ∈ deeds, DeedOk many D) → Has σ3 (.list (deeds.map deedD)) vd → Ext σ σ3 → Rooms many w → Has σ3 (ilist w) vw → ρ' "_law_script" = some (.ref l) → ρ' "_law_many" = some (.int many) → ρ' "_law_deeds" = some vd → ρ' "_law_wished_here" = some vw →
      nxt (F (d + 2)) (g.at false er) (d_law_house.2.drop 10) (Kq Q) .next ρ' σ3 := by
    intro many deeds w vw vd σ3 ρ' m1 m8 c1 c5 hD hvd e3 hw hvw q1 q2 q3 q4
    show nxt (F (d + 2)) (g.at false er) [St.ret _] (Kq Q) .next ρ' σ3
    refine s_nxt ?_; refine s_cons ?_; refine s_ret ?_; refine r_tup ?_; refine r_cons ?_; refine r_calln (FnOk.cf (by assumption)) ?_; refine r_cons ?_; refine r_var (by assumption) ?_; refine v_cons ?_; refine r_cons ?_; refine r_var (by assumption) ?_; refine v_cons ?_; refine r_ss rfl ?_; refine v_push ?_; refine v_push ?_
    refine law_looks_spec hc hlk (e3 _ _ hσ) hl m1 m8 fun ls vl σ4 e4 hls hvl => ?_
    refine v_cons ?_; refine r_cons ?_; refine r_var (by assumption) ?_; refine v_cons ?_; refine r_cons ?_; refine r_var (by assumption) ?_; refine v_cons ?_; refine r_ss rfl ?_; refine v_push ?_; refine v_push ?_; refine v_push ?_
    refine n_lit rfl fun a ha => ?_
    refine v_ret ?_; refine s_out ?_; refine k_ret ?_
    refine hQ many ls deeds w _ _ ((e3.trans e4).trans (.set ha _)) ⟨m1, m8, hls, ⟨c1, c5⟩, hD, hw⟩ ?_
    exact has_new_tup ha (HasL.cons.mpr ⟨hvl, HasL.cons.mpr ⟨hvd.ext e4, HasL.cons.mpr ⟨hvw.ext e4, HasL.nil⟩⟩⟩)
  have loop : ∀ (many count : Int) (σ1 : Sto) (ρ : Loc), 1 ≤ many → many ≤ 8 → 1 ≤ count → count ≤ 5 → Ext σ σ1 → ρ "_law_script" = some (.ref l) → ρ "_law_many" = some (.int many) → ρ "_law_count" = some (.int count) →
      nxt (F (d + 2)) (g.at false er) (d_law_house.2.drop 5) (Kq Q) .next ρ σ1 := by
    intro many count σ1 ρ m1 m8 c1 c5 e1 r1 r2 r3
    show nxt (F (d + 2)) (g.at false er) [St.assign "_law_deeds" _, St.for_ 1 ["_law_k"] _ _, St.assign "_law_bits" _, St.assign "_law_wished_here" _, St.if_ _ _ _, St.ret _] (Kq Q) .next ρ σ1
    refine s_nxt ?_; refine s_cons ?_; refine s_assign ?_; refine r_list0 ?_
    refine n_ob fun c hc1 => ?_
    refine v_asgn ?_; refine s_cons ?_; refine s_for rfl ?_; refine r_bcall rfl ?_; refine r_cons ?_; refine r_var (by assumption) ?_; refine v_cons ?_; refine r_ss rfl ?_; refine v_push ?_
    refine b_range (by lia) (by lia) fun r hr => ?_
    have hr0 := set_at (σ1.set c (.list [])) r (.range 0 count)
    have hcr : c ≠ r := fun q => by rw [← q, set_at] at hr; cases hr
    refine w_on (turns_range hr0) ?_
    refine for_rel _ (DeedsI σ1 c r l many count) ?_ ?_ ?_ (irange 0 count) _ _ _ ran_turns ⟨(Ext.set hc1 _).trans (.set hr _), hr0, by (repeat (first | with_reducible exact l_here | assumption | refine l_there rfl ?_ | with_reducible refine l_bind ?_ | with_reducible refine l_bind0 ?_)), by (repeat (first | with_reducible exact l_here | assumption | refine l_there rfl ?_ | with_reducible refine l_bind ?_ | with_reducible refine l_bind0 ?_)), by (repeat (first | with_reducible exact l_here | assumption | refine l_there rfl ?_ | with_reducible refine l_bind ?_ | with_reducible refine l_bind0 ?_)), [], [], by rw [set_ne _ _ hcr, set_at], .nil, by rw [iran_len, List.length_nil]; lia, fun o' h => nomatch h⟩
    · intro ks ρ' σ' I; exact stay_range hr0 I.q8
    · intro ρ' σ' I
      refine Classical.byContradiction fun hG => ?_
      obtain ⟨deeds, xs, i1, i2, i3, i4⟩ := I.q
      refine hG ?_
      clear hG
      rw [List.length_nil, Nat.add_zero] at i3
      have q9 := I.q9
      have q10 := I.q10
      have q11 := I.q11
      have hvd : Has σ' (.list (deeds.map deedD)) (.ref c) := list_has i1 (i2.imp fun o' o' o' h => h.has)
      refine s_nxt ?_; refine s_cons ?_; refine s_assign ?_; refine r_calln (FnOk.cf (by assumption)) ?_; refine r_cons ?_; refine r_var (by assumption) ?_; refine v_cons ?_; refine r_ss rfl ?_; refine v_push ?_
      refine cell_any hc ((e1.trans I.q5) _ _ hσ) hl fun bits σ2 e2 => ?_
      refine s_nxt (s_cons (s_assign ?_))
      refine bits_comp (bits := bits) (by lia) m8 (by (repeat (first | with_reducible exact l_here | assumption | refine l_there rfl ?_ | with_reducible refine l_bind ?_ | with_reducible refine l_bind0 ?_))) (by (repeat (first | with_reducible exact l_here | assumption | refine l_there rfl ?_ | with_reducible refine l_bind ?_ | with_reducible refine l_bind0 ?_))) fun ms a σ3 e3 ha hms => ?_
      have E3 := e2.trans (e3.trans (.set ha (.list (ms.map .int))))
      have ha3 : Has (σ3.set a (.list (ms.map .int))) (ilist ms) (.ref a) := mk_ints (set_at _ _ _)
      generalize σ3.set a (.list (ms.map .int)) = σ4 at E3 ha3 ⊢
      refine v_asgn ?_; refine t_if ?_; refine r_s rfl ?_
      refine i_dec (fun q => ?_) fun q => ?_
      · refine s_cons ?_; refine s_assign ?_; refine r_list ?_; refine r_cons ?_; refine r_bin ?_; refine r_s rfl ?_; refine v_bin ?_; refine r_var (by assumption) ?_
        refine o_modn (by lia) (by lia) ?_
        refine v_cons ?_; refine r_ss rfl ?_; refine v_push ?_
        refine n_lit rfl fun b hb => ?_
        refine v_asg ?_
        exact last many deeds [bits / 512 % many] (.ref b) (.ref c) _ _ m1 m8 (by lia) (by lia) i4 (hvd.ext (E3.trans (.set hb _))) ((e1.trans I.q5).trans (E3.trans (.set hb _))) (.one (Int.emod_nonneg _ (by lia)) (Int.emod_lt_of_pos _ (by lia))) (mk_ints (set_at _ _ _)) (by (repeat (first | with_reducible exact l_here | assumption | refine l_there rfl ?_ | with_reducible refine l_bind ?_ | with_reducible refine l_bind0 ?_))) (by (repeat (first | with_reducible exact l_here | assumption | refine l_there rfl ?_ | with_reducible refine l_bind ?_ | with_reducible refine l_bind0 ?_))) (by (repeat (first | with_reducible exact l_here | assumption | refine l_there rfl ?_ | with_reducible refine l_bind ?_ | with_reducible refine l_bind0 ?_))) (by (repeat (first | with_reducible exact l_here | assumption | refine l_there rfl ?_ | with_reducible refine l_bind ?_ | with_reducible refine l_bind0 ?_)))
      · refine s_nil ?_
        exact last many deeds ms (.ref a) (.ref c) _ _ m1 m8 (by lia) (by lia) i4 (hvd.ext E3) ((e1.trans I.q5).trans E3) hms ha3 (by (repeat (first | with_reducible exact l_here | assumption | refine l_there rfl ?_ | with_reducible refine l_bind ?_ | with_reducible refine l_bind0 ?_))) (by (repeat (first | with_reducible exact l_here | assumption | refine l_there rfl ?_ | with_reducible refine l_bind ?_ | with_reducible refine l_bind0 ?_))) (by (repeat (first | with_reducible exact l_here | assumption | refine l_there rfl ?_ | with_reducible refine l_bind ?_ | with_reducible refine l_bind0 ?_))) (by (repeat (first | with_reducible exact l_here | assumption | refine l_there rfl ?_ | with_reducible refine l_bind ?_ | with_reducible refine l_bind0 ?_)))
    · intro k ks t ρ' σ' K H09 I hn hret
      refine Classical.byContradiction fun hG => ?_
      obtain ⟨v, rfl, k0, k1, rfl⟩ := H09
      obtain ⟨deeds, xs, i1, i2, i3, i4⟩ := I.q
      refine hG ?_
      clear hG
      rw [List.length_cons] at i3
      have q9 := I.q9
      have q10 := I.q10
      have q11 := I.q11
      refine s_cons ?_; refine s_assign ?_; refine r_calln (FnOk.cf (by assumption)) ?_; refine r_cons ?_; refine r_var (by assumption) ?_; refine v_cons ?_; refine r_ss rfl ?_; refine v_push ?_
      refine cell_any hc ((e1.trans I.q5) _ _ hσ) hl fun c0 σ2 e2 => ?_
      have i1' := e2 _ _ i1
      refine v_asgn ?_; refine t_expr ?_; refine r_meth ?_; refine r_var (by assumption) ?_; refine v_mon (by assumption) ?_; refine r_cons ?_; refine r_comp rfl ?_; refine r_bcall rfl ?_; refine r_cons ?_; refine r_var (by assumption) ?_; refine v_cons ?_; refine r_ss rfl ?_; refine v_push ?_
      refine b_range (by lia) (by lia) fun r2 hr2 => ?_
      refine comp_ran (fun σ' o' v => ∃ ns, (Rooms many ns ∧ ns ≠ []) ∧ HasF (new σ2) σ' (ilist ns) v) (fun e ⟨ns, h1, h2⟩ => ⟨ns, h1, h2.ext e⟩) (set_at _ _ _) (by lia) ?_ ?_
      · intro i j0 j1 σ3 e3 K' hK
        refine r_calln (FnOk.cf (by assumption)) ?_; refine r_cons ?_; refine r_s rfl ?_; refine v_cons ?_; refine r_cons ?_; refine r_s rfl ?_; refine v_cons ?_; refine r_cons ?_; refine r_var (by assumption) ?_; refine v_cons ?_; refine r_ss rfl ?_; refine v_push ?_; refine v_push ?_; refine v_push ?_
        refine law_to_spec hto j0 j1 m8 fun ns b σ4 e4 hb hns hn0 => ?_
        exact hK _ _ (e4.trans (.set hb _)) ⟨ns, ⟨hns, hn0⟩, newF_list hb (((Ext.set hr2 _).trans (e3.trans e4)).new hb) hasFL_ints⟩
      intro b ys σ3 e3 hb hys
      refine all_ex hys fun D y1 y2 y3 => ?_
      rw [iran_len] at y2
      have hbσ := ((Ext.set hr2 _).trans e3).new hb
      have e4 := ((Ext.set hr2 _).trans e3).trans (.set hb (.list ys))
      have hF : HasF (· ≠ c) (σ3.set b (.list ys)) (deedD D) (.ref b) := hasF_new i1' (newF_list hb hbσ (all_hasFL y1))
      generalize σ3.set b (.list ys) = σ4 at e4 hF ⊢
      have hxl := i2.len
      refine v_cons ?_; refine r_ss rfl ?_; refine v_push ?_
      refine m_app (e4 _ _ i1') (by lia) ?_
      refine v_exprn ?_; refine s_nil ?_
      refine hn _ _ ⟨(I.q5.trans (e2.trans e4)).upd hc1 _, by rw [set_ne _ _ (Ne.symm hcr)]; exact (e2.trans e4) _ _ I.q8, by (repeat (first | with_reducible exact l_here | assumption | refine l_there rfl ?_ | with_reducible refine l_bind ?_ | with_reducible refine l_bind0 ?_)), by (repeat (first | with_reducible exact l_here | assumption | refine l_there rfl ?_ | with_reducible refine l_bind ?_ | with_reducible refine l_bind0 ?_)), by (repeat (first | with_reducible exact l_here | assumption | refine l_there rfl ?_ | with_reducible refine l_bind ?_ | with_reducible refine l_bind0 ?_)), deeds ++ [D], xs ++ [.ref b], set_at _ _ _, ?_, by rw [List.length_append, List.length_singleton]; lia, fun D' hD' => ?_⟩
      · refine All2.snoc ?_ (i2.imp fun o' o' o' h => hasF_keep (h.ext (e2.trans e4)))
        exact hasF_keep hF
      rcases List.mem_append.mp hD' with h | h
      · exact i4 D' h
      · rw [List.mem_singleton.mp h]; exact ⟨by lia, y3⟩
  have cnt : ∀ (many : Int) (ρ : Loc) σ1, Ext σ σ1 → 1 ≤ many → many ≤ 8 → ρ "_law_script" = some (.ref l) → ρ "_law_many" = some (.int many) → nxt (F (d + 2)) (g.at false er) (d_law_house.2.drop 3) (Kq Q) .next ρ σ1 := by
    intro many ρ σ1 e1 h1 h2 r1 r2
    show nxt (F (d + 2)) (g.at false er) (St.assign "_law_count" _ :: St.if_ _ _ _ :: d_law_house.2.drop 5) (Kq Q) .next ρ σ1
    refine s_nxt ?_; refine s_cons ?_; refine s_assign ?_; refine r_bin ?_; refine r_s rfl ?_; refine v_bin ?_; refine r_bin ?_; refine r_calln (FnOk.cf (by assumption)) ?_; refine r_cons ?_; refine r_var (by assumption) ?_; refine v_cons ?_; refine r_ss rfl ?_; refine v_push ?_
    refine cell_any hc (e1 _ _ hσ) hl fun c1 σ2 e2 => ?_
    refine v_bin ?_; refine r_s rfl ?_; refine v_mod rfl ?_; refine v_add ?_; refine v_asgn ?_; refine t_if ?_; refine r_cmp ?_; refine r_bin ?_; refine r_bin ?_; refine r_calln (FnOk.cf (by assumption)) ?_; refine r_cons ?_; refine r_var (by assumption) ?_; refine v_cons ?_; refine r_ss rfl ?_; refine v_push ?_
    refine cell_any hc ((e1.trans e2) _ _ hσ) hl fun c2 σ3 e3 => ?_
    refine v_bin ?_; refine r_s rfl ?_; refine v_fdiv rfl ?_; refine v_bin ?_; refine r_s rfl ?_; refine v_mod rfl ?_; refine v_cmp ?_; refine r_s rfl ?_; refine v_eq ?_
    refine i_dec (fun q => ?_) fun q => ?_
    · refine s_cons ?_; refine s_assign ?_; refine r_bin ?_; refine r_s rfl ?_; refine v_bin ?_; refine r_bin ?_; refine r_bin ?_; refine r_calln (FnOk.cf (by assumption)) ?_; refine r_cons ?_; refine r_var (by assumption) ?_; refine v_cons ?_; refine r_ss rfl ?_; refine v_push ?_
      refine cell_any hc (((e1.trans e2).trans e3) _ _ hσ) hl fun c3 σ4 e4 => ?_
      refine v_bin ?_; refine r_s rfl ?_; refine v_fdiv rfl ?_; refine v_bin ?_; refine r_s rfl ?_; refine v_mod rfl ?_; refine v_add ?_; refine v_asg ?_
      exact loop many (4 + c3 / 24 % 2) σ4 _ h1 h2 (by lia) (by lia) (((e1.trans e2).trans e3).trans e4) (by (repeat (first | with_reducible exact l_here | assumption | refine l_there rfl ?_ | with_reducible refine l_bind ?_ | with_reducible refine l_bind0 ?_))) (by (repeat (first | with_reducible exact l_here | assumption | refine l_there rfl ?_ | with_reducible refine l_bind ?_ | with_reducible refine l_bind0 ?_))) (by (repeat (first | with_reducible exact l_here | assumption | refine l_there rfl ?_ | with_reducible refine l_bind ?_ | with_reducible refine l_bind0 ?_)))
    · refine s_nil ?_
      exact loop many (1 + c1 % 3) σ3 _ h1 h2 (by lia) (by lia) ((e1.trans e2).trans e3) (by (repeat (first | with_reducible exact l_here | assumption | refine l_there rfl ?_ | with_reducible refine l_bind ?_ | with_reducible refine l_bind0 ?_))) (by (repeat (first | with_reducible exact l_here | assumption | refine l_there rfl ?_ | with_reducible refine l_bind ?_ | with_reducible refine l_bind0 ?_))) (by (repeat (first | with_reducible exact l_here | assumption | refine l_there rfl ?_ | with_reducible refine l_bind ?_ | with_reducible refine l_bind0 ?_)))
  refine s_cons ?_; refine s_assign ?_; refine r_calln (FnOk.cf (by assumption)) ?_; refine r_ss rfl ?_
  refine cell_any hc hσ hl fun c0 σ1 e1 => ?_
  refine v_asgn ?_; refine t_assign ?_; refine r_s rfl ?_; refine v_asgn ?_; refine t_if ?_; refine r_s rfl ?_
  refine i_dec (fun q => ?_) fun q => ?_
  · refine s_cons ?_
    refine s_assign ?_; refine r_s rfl ?_; refine v_asg ?_
    exact cnt (6 + c0 / 40 % 3) _ _ e1 (by lia) (by lia) (by (repeat (first | with_reducible exact l_here | assumption | refine l_there rfl ?_ | with_reducible refine l_bind ?_ | with_reducible refine l_bind0 ?_))) (by (repeat (first | with_reducible exact l_here | assumption | refine l_there rfl ?_ | with_reducible refine l_bind ?_ | with_reducible refine l_bind0 ?_)))
  · refine s_nil ?_
    exact cnt (1 + c0 % 5) _ _ e1 (by lia) (by lia) (by (repeat (first | with_reducible exact l_here | assumption | refine l_there rfl ?_ | with_reducible refine l_bind ?_ | with_reducible refine l_bind0 ?_))) (by (repeat (first | with_reducible exact l_here | assumption | refine l_there rfl ?_ | with_reducible refine l_bind ?_ | with_reducible refine l_bind0 ?_)))
theorem c_eqnil {σ : Sto} {ns : List Int} {a b : Nat} {K : Bool → Prop} (ha : σ a = some (.list (ns.map .int))) (hb : σ b = some (.list [])) (h : K ns.isEmpty) : cmpW .eq (.ref a) (.ref b) σ K := by
  refine .inr ⟨ilist ns, ilist [], mk_ints ha, mk_ints hb, ?_, rfl, ?_⟩
  · show (ns.map Dat.int).all (dOk 8) = true
    rw [List.all_map, List.all_eq_true]
    exact fun o' o' => rfl
  · cases ns <;> exact h
theorem guess_spec (hc : FnOk F g "_law_cell" d_law_cell) (h : FnOk F g "_law_guess" d_law_guess) {d : Nat} {l : Nat} {ns : List Int} {many : Int} {σ : Sto} {Q : KV} {er : String → Sto → Prop} (hσ : σ l = some (.ro (ns.map .int))) (hl : ns.length ≤ 63) (h1 : 1 ≤ many) (h2 : many ≤ 8)
    (hQ : ∀ (ms : List Int) c σ', Ext σ σ' → Rooms many ms → ms ≠ [] → σ' c = some (.list (ms.map .int)) → Q (.ref c) σ') : F (d + 2) false "_law_guess" [.ref l, .int many] σ Q er := by
  refine FnOk.go h rfl ?_
  refine s_cons ?_; refine s_assign ?_; refine r_calln (FnOk.cf (by assumption)) ?_; refine r_ss rfl ?_
  refine cell_any hc hσ hl fun bits σ1 e1 => ?_
  refine s_nxt (s_cons (s_assign ?_))
  refine bits_comp (bits := bits) (by lia) h2 (by (repeat (first | with_reducible exact l_here | assumption | refine l_there rfl ?_ | with_reducible refine l_bind ?_ | with_reducible refine l_bind0 ?_))) (by (repeat (first | with_reducible exact l_here | assumption | refine l_there rfl ?_ | with_reducible refine l_bind ?_ | with_reducible refine l_bind0 ?_))) fun ms a σ3 e3 ha hms => ?_
  have E3 := e1.trans (e3.trans (.set ha (.list (ms.map .int))))
  have ha3 := set_at σ3 a (.list (ms.map .int))
  generalize σ3.set a (.list (ms.map .int)) = σ4 at E3 ha3 ⊢
  refine v_asgn ?_; refine t_if ?_; refine r_cmp ?_; refine r_s rfl ?_; refine v_cmp ?_; refine r_list0 ?_
  refine n_ob fun b hb => ?_
  have ha4 := Ext.set hb (.list []) _ _ ha3
  refine c_eqnil ha4 (set_at _ _ _) ?_
  refine v_b ?_
  cases ms with
  | nil =>
    refine v_ifp rfl ?_; refine t_ret ?_; refine r_list ?_; refine r_cons ?_; refine r_bin ?_; refine r_s rfl ?_; refine v_bin ?_; refine r_s rfl ?_
    refine o_modn (by lia) (by lia) ?_
    refine v_cons ?_; refine r_ss rfl ?_; refine v_push ?_
    refine n_lit rfl fun c hc => ?_
    refine v_ret ?_; refine s_out ?_; refine k_ret ?_
    exact hQ [bits / 256 % many] c _ ((E3.trans (.set hb _)).trans (.set hc _)) (.one (Int.emod_nonneg _ (by lia)) (Int.emod_lt_of_pos _ (by lia))) (List.cons_ne_nil _ _) (set_at _ _ _)
  | cons i ms =>
    refine v_ifnn rfl ?_; refine t_ret ?_; refine r_s rfl ?_; refine v_retk ?_
    exact hQ (i :: ms) a _ (E3.trans (.set hb _)) hms (List.cons_ne_nil _ _) ha4
end BP

namespace BP
open PySem
variable {F : Nat → CallW} {g : Glo}
structure RisI (σ : Sto) (ns : List Int) (many : Int) (ks : List Int) (ρ' : Loc) (σ' : Sto) : Prop where
  q : σ' = σ
  h3 : ρ' "many" = some (.int many)
  h2 : ∃ b, ρ' "before" = some (.int b) ∧ risingI ks b many = risingI ns (-1) many
theorem rising_spec (hw : FnOk F g "is_whole" d_is_whole) (h : FnOk F g "is_rising" d_is_rising) {d : Nat} {ns : List Int} {v : Val} {many : Int} {σ : Sto} {Q : KV} {er : String → Sto → Prop} (hv : Has σ (ilist ns) v)
   (hQ : Q (.bool (risingI ns (-1) many)) σ) : F (d + 2) false "is_rising" [v, .int many] σ Q er := by
  obtain ⟨a, ha⟩ := ints_at hv
  refine FnOk.go h rfl ?_
  refine s_cons ?_; refine s_if ?_; refine r_not ?_; refine r_isi ?_; refine r_s rfl ?_; refine w_ll (by assumption) ?_; refine v_nott ?_; refine v_iffn ?_; refine t_assign ?_; refine r_s rfl ?_; refine v_asgn ?_; refine s_cons ?_; refine s_for rfl ?_; refine r_s rfl ?_
  refine w_on (turns_list ha) ?_
  refine for_rel (one1 fun (i : Int) v => v = .int i) (RisI σ ns many) ?_ ?_ ?_ ns _ _ σ (All2.turns (All2.of fun o' o' => rfl)) ⟨rfl, by (repeat (first | with_reducible exact l_here | assumption | refine l_there rfl ?_ | with_reducible refine l_bind ?_ | with_reducible refine l_bind0 ?_)), -1, by (repeat (first | with_reducible exact l_here | assumption | refine l_there rfl ?_ | with_reducible refine l_bind ?_ | with_reducible refine l_bind0 ?_)), rfl⟩
  · intro l ρ' σ' I; rw [I.q]; exact stay_list ha ha
  · rintro ρ' σ' ⟨rfl, h1, b, h2, h3⟩
    rw [← h3] at hQ
    refine s_nxt ?_; refine s_cons ?_; refine s_ret ?_; refine r_s rfl ?_; refine v_ret ?_; refine s_out ?_; refine k_ret ?_
    exact hQ
  · rintro i l t ρ' σ' K ⟨v, rfl, rfl⟩ ⟨rfl, h1, b, h2, h3⟩ hn hr
    refine s_cons ?_; refine s_if ?_; refine r_not ?_; refine r_calln (FnOk.cf (by assumption)) ?_; refine r_cons ?_; refine r_s rfl ?_; refine v_cons ?_; refine r_cons ?_; refine r_bin ?_; refine r_var (by assumption) ?_; refine v_bin ?_; refine r_s rfl ?_; refine v_add ?_; refine v_cons ?_; refine r_cons ?_; refine r_bin ?_; refine r_var (by assumption) ?_; refine v_bin ?_; refine r_s rfl ?_; refine v_sub ?_; refine v_cons ?_; refine r_ss rfl ?_; refine v_push ?_; refine v_push ?_; refine v_push ?_
    refine whole_spec hw ?_
    rw [risingI] at h3
    cases q : (decide (b + 1 ≤ i) && decide (i ≤ many - 1)) with
    | false =>
      rw [q] at h3
      refine v_notf ?_; refine v_ift ?_; refine t_ret ?_; refine r_s rfl ?_; refine v_ret ?_; refine s_out ?_
      refine hr _ _ _ ?_
      rw [← h3] at hQ
      exact hQ
    | true =>
      rw [q] at h3
      refine v_nott ?_; refine v_iffn ?_; refine t_assign ?_; refine r_s rfl ?_; refine v_asgn ?_; refine s_nil ?_
      exact hn _ _ ⟨rfl, by (repeat (first | with_reducible exact l_here | assumption | refine l_there rfl ?_ | with_reducible refine l_bind ?_ | with_reducible refine l_bind0 ?_)), i, by (repeat (first | with_reducible exact l_here | assumption | refine l_there rfl ?_ | with_reducible refine l_bind ?_ | with_reducible refine l_bind0 ?_)), h3⟩
theorem rising_yes (hw : FnOk F g "is_whole" d_is_whole) (h : FnOk F g "is_rising" d_is_rising) {d : Nat} {ns : List Int} {v : Val} {many : Int} {σ : Sto} {Q : KV} {er : String → Sto → Prop} (hv : Has σ (ilist ns) v) (hr : Rooms many ns) (hQ : Q (.bool true) σ) : F (d + 2) false "is_rising" [v, .int many] σ Q er :=
  rising_spec hw h hv (by rw [hr.rising]; exact hQ)
theorem ne_nil {σ : Sto} {ns : List Int} {v : Val} {Q : Bool → Sto → Prop} (hv : Has σ (ilist ns) v) (hn : ns ≠ []) (hQ : ∀ σ', Ext σ σ' → Q true σ') : newW σ (.list []) fun w σ₁ => cmpW .ne v w σ₁ fun b => Q b σ₁ := fun a ha => by
  obtain ⟨b, hb⟩ := ints_at hv
  refine .inr ⟨b, a, _, _, rfl, rfl, Ext.set ha _ _ _ hb, set_at _ _ _, ?_, hQ _ (.set ha _)⟩
  cases ns with
  | nil => exact absurd rfl hn
  | cons i ns => exact Nat.succ_ne_zero _
theorem all_true {n : Nat} : (List.replicate n true).all id = true := List.all_eq_true.mpr fun b hb => List.eq_of_mem_replicate hb
theorem all_yes {α : Type} {l : List α} {ys : List Val} {σ : Sto} {b : Nat} {Q : KV} (hys : All2 (fun o' v => v = .bool true) l ys) (hb : σ b = none) (hQ : ∀ τ, Ext σ τ → Q (.bool true) τ) : bcallW .all [.ref b] (σ.set b (.list ys)) Q :=
  bcall_all (bs := List.replicate l.length true) (by rw [set_at, hys.eq, List.map_const', List.map_replicate]) (by rw [all_true]; exact hQ _ (.set hb _))
theorem is_deed_spec (hw : FnOk F g "is_whole" d_is_whole) (hr : FnOk F g "is_rising" d_is_rising) (h : FnOk F g "is_deed" d_is_deed) {d : Nat} {rows : List (List Int)} {v : Val} {many : Int} {σ : Sto} {Q : KV} {er : String → Sto → Prop} (hv : Has σ (deedD rows) v) (ok : DeedOk many rows) (h8 : many ≤ 8)
   (hQ : ∀ σ', Ext σ σ' → Q (.bool true) σ') : F (d + 3) false "is_deed" [v, .int many] σ Q er := by
  refine Classical.byContradiction fun hG => ?_
  obtain ⟨a, xs, ha, hxs⟩ := has_list hv
  refine hG ?_
  clear hG
  have ol := ok.1
  have hl := hxs.len
  refine FnOk.go h rfl ?_
  refine s_cons ?_; refine s_if ?_; refine r_bop ?_; refine r_not ?_; refine r_isi ?_; refine r_s rfl ?_; refine w_ll (by assumption) ?_; refine v_nott ?_; refine v_btf ?_; refine r_b1 ?_; refine r_cmp ?_; refine r_bcall rfl ?_; refine r_ss rfl ?_; refine v_len (by assumption) ?_; refine v_cmp ?_; refine r_s rfl ?_; refine v_ne ?_
  rw [hl, ol, decide_eq_false (fun n => n rfl)]
  refine v_iffn ?_; refine t_ret ?_; refine r_bcall rfl ?_; refine r_cons ?_; refine r_comp rfl ?_; refine r_s rfl ?_
  refine comp_list _ (fun o' o' v => v = .bool true) (fun o' h => h) ha (by lia) hxs ?_ ?_
  · intro r hr' v σ' hv x K' hK
    refine r_bop ?_; refine r_calln (FnOk.cf (by assumption)) ?_; refine r_ss rfl ?_
    refine rising_yes hw hr (hv.ext x) (ok.2 r hr').1 ?_
    refine v_bft ?_; refine r_b1 ?_; refine r_cmp ?_; refine r_s rfl ?_; refine v_cmp ?_; refine r_list0 ?_
    exact ne_nil (hv.ext x) (ok.2 r hr').2 fun σ'' x' => hK _ σ'' x' rfl
  · intro a' ys σ' x ha' hys
    refine v_cons ?_; refine r_ss rfl ?_; refine v_push ?_
    refine all_yes hys ha' fun τ x' => ?_
    refine v_retk ?_
    exact hQ _ (x.trans x')
theorem own_spec {nm x y : String} (h : FnOk F g nm ([y], [.ret (.comp (.bcall .list [(.var x)]) 1 [x] (.var y) [])])) {d : Nat} {v : Val} {rows : List (List Int)} {σ : Sto} {Q : KV} {er : String → Sto → Prop} (hσ : Has σ (deedD rows) v) (hlim : rows.length ≤ 100)
   (hQ : ∀ w σ', Ext σ σ' → Has σ' (deedD rows) w → Q w σ') : F (d + 1) false nm [v] σ Q er := by
  refine Classical.byContradiction fun hG => ?_
  obtain ⟨a, xs, ha, hxs⟩ := has_list hσ
  refine hG ?_
  clear hG
  refine FnOk.go h rfl ?_
  refine s_cons ?_; refine s_ret ?_; refine r_comp rfl ?_; refine r_var (l_bind (l_bind0 l_here)) ?_
  refine comp_list _ (fun σ' ns v => Has σ' (ilist ns) v) (fun e h => h.ext e) ha (hxs.len ▸ Nat.le_trans hlim (by decide)) hxs ?_ ?_
  · intro ns _ v σ' hv e K' hK
    refine Classical.byContradiction fun hG => ?_
    obtain ⟨b, hb⟩ := ints_at (hv.ext e)
    refine hG ?_
    clear hG
    refine r_bcall rfl ?_; refine r_cons ?_; refine r_var l_here ?_; refine v_cons ?_; refine r_ss rfl ?_; refine v_push ?_; refine v_lst (by assumption) ?_
    exact fun a' ha' => hK _ _ (.set ha' _) (mk_ints (set_at _ _ _))
  · intro a' ys σ' e ha' hys
    refine v_ret ?_; refine s_out ?_; refine k_ret ?_
    exact hQ _ _ (e.trans (.set ha' _)) (list_has (set_at _ _ _) (hys.imp fun o' o' o' h => h.ext (.set ha' _)))
noncomputable def Ob.isD : Ob → Bool
  | .list _ => true
  | .tup _ => true
  | _ => false
noncomputable def ExtD (σ σ' : Sto) : Prop := ∀ a ob, ob.isD = true → σ a = some ob → σ' a = some ob
theorem ExtD.set {σ : Sto} {x : Nat} {o : Ob} (hx : σ x = some o) (ho : o.isD = false) (o' : Ob) : ExtD σ (σ.set x o') := fun a ob q h => by
  rw [set_ne _ _ (fun e => by rw [e, hx] at h; cases h; rw [ho] at q; cases q)]; exact h
mutual
theorem Has.extD {σ σ' : Sto} (h : ExtD σ σ') : ∀ {d : Dat} {v : Val}, Has σ d v → Has σ' d v
  | .none, _, x => x
  | .bool _, _, x => x
  | .int _, _, x => x
  | .list _, _, ⟨a, xs, h1, h2, h3⟩ => ⟨a, xs, h1, h a _ rfl h2, HasL.extD h h3⟩
  | .tup _, _, ⟨a, xs, h1, h2, h3⟩ => ⟨a, xs, h1, h a _ rfl h2, HasL.extD h h3⟩
theorem HasL.extD {σ σ' : Sto} (h : ExtD σ σ') : ∀ {ds : List Dat} {xs : List Val}, HasL σ ds xs → HasL σ' ds xs
  | [], _, x => x
  | _ :: _, _, ⟨y, ys, h1, h2, h3⟩ => ⟨y, ys, h1, Has.extD h h2, HasL.extD h h3⟩
end
inductive HouseAt (σ : Sto) (v : Val) (L : List Int) (D : List (List (List Int))) (W : List Int) : Prop
  | mk (x dx : Nat) (l de wi : Val) (hv : v = .ref x) (h4 : σ x = some (.inst "House" dx)) (h5 : σ dx = some (.attrs [("looks", l), ("deeds", de), ("wished", wi)])) (h6 : Has σ (ilist L) l) (h7 : Has σ (.list (D.map deedD)) de) (h8 : Has σ (ilist W) wi) : HouseAt σ v L D W
theorem HouseAt.ext {σ τ : Sto} {v : Val} {L : List Int} {D : List (List (List Int))} {W : List Int} (h : HouseAt σ v L D W) (k : Ext σ τ) : HouseAt τ v L D W := by
  cases h with
  | mk x dx l de wi h1 h4 h5 h6 h7 h8 => exact ⟨x, dx, l, de, wi, h1, k _ _ h4, k _ _ h5, h6.ext k, h7.ext k, h8.ext k⟩
theorem a_get {σ : Sto} {a dx : Nat} {n c : String} {y : Val} {fs : List (String × Val)} {Q : KV} (hn : attrNames.elem n = true) (hx : σ a = some (.inst c dx)) (hd : σ dx = some (.attrs fs)) (hl : fs.lookup n = some y) (h : Q y σ) : attrW (.ref a) n σ Q := by
  refine ⟨List.elem_iff.mp hn, ?_⟩
  simp only [hx, hd, hl]; exact h
section
variable {σ : Sto} {v : Val} {L : List Int} {D : List (List (List Int))} {W : List Int} {Q : KV}
theorem HouseAt.looks {τ : Sto} (h : HouseAt σ v L D W) (e : Ext σ τ) (hQ : ∀ a, σ a = some (.list (L.map .int)) → Q (.ref a) τ) : attrW v "looks" τ Q := by
  cases h with
  | mk x dx l de wi h1 h4 h5 h6 h7 h8 =>
    subst h1
    refine a_get rfl (e _ _ h4) (e _ _ h5) rfl ?_
    obtain ⟨a, ha⟩ := ints_at h6
    exact hQ a ha
theorem HouseAt.deeds {τ : Sto} (h : HouseAt σ v L D W) (e : Ext σ τ) (hQ : ∀ w, Has σ (.list (D.map deedD)) w → Q w τ) : attrW v "deeds" τ Q := by
  cases h with
  | mk x dx l de wi h1 h4 h5 h6 h7 h8 => subst h1; exact a_get rfl (e _ _ h4) (e _ _ h5) rfl (hQ _ h7)
theorem HouseAt.wished {τ : Sto} (h : HouseAt σ v L D W) (e : Ext σ τ) (hQ : ∀ a, σ a = some (.list (W.map .int)) → Q (.ref a) τ) : attrW v "wished" τ Q := by
  cases h with
  | mk x dx l de wi h1 h4 h5 h6 h7 h8 =>
    subst h1
    refine a_get rfl (e _ _ h4) (e _ _ h5) rfl ?_
    obtain ⟨a, ha⟩ := ints_at h8
    exact hQ a ha
end
structure Mk (σ τ : Sto) (x dx : Nat) (fs : List (String × Val)) : Prop where
  e : Ext σ τ
  x : τ x = some (.inst "House" dx)
  d : τ dx = some (.attrs fs)
theorem Mk.ext {σ τ τ' : Sto} {x dx : Nat} {fs : List (String × Val)} (h : Mk σ τ x dx fs) (e : Ext τ τ') : Mk σ τ' x dx fs := ⟨h.e.trans e, e _ _ h.x, e _ _ h.d⟩
theorem Mk.set {σ τ : Sto} {x dx : Nat} {fs : List (String × Val)} (h : Mk σ τ x dx fs) (hd : σ dx = none) (hn : dx ≠ x) {n : String} {y : Val} {fs' : List (String × Val)} {K : Sto → Prop} (c1 : attrNames.elem n = true) (c2 : fs.lookup n = none) (c3 : Nat.blt fs.length 100 = true) (c4 : fs ++ [(n, y)] = fs')
    (k : ∀ τ', Mk σ τ' x dx fs' → ExtD τ τ' → K τ') : setAttrW (.ref x) n y τ K :=
  a_set c1 h.x h.d c2 c3 c4 (k _ ⟨fun b ob q => by rw [set_ne _ _ (fun e' => by rw [e', hd] at q; cases q)]; exact h.e _ _ q, by rw [set_ne _ _ (Ne.symm hn)]; exact h.x, set_at _ _ _⟩ (.set h.d rfl _))
theorem house_spec (hw : FnOk F g "is_whole" d_is_whole) (hr : FnOk F g "is_rising" d_is_rising) (hde : FnOk F g "is_deed" d_is_deed) (hod : FnOk F g "own_deed" d_own_deed) (h : ClsOk F g "House" d_House_init)
    (g1 : g.gv "MOST_ROOMS" = some (.int 8)) (g2 : g.gv "MOST_DEEDS" = some (.int 5)) (g3 : g.gv "MOST_LOOK" = some (.int 9)) {d : Nat} {vl vd vw : Val} {many : Int} {L : List Int} {D : List (List (List Int))} {W : List Int} {σ : Sto} {Q : KV} {er : String → Sto → Prop}
    (hl : Has σ (ilist L) vl) (hd : Has σ (.list (D.map deedD)) vd) (hwi : Has σ (ilist W) vw) (ok : HouseOk many L D W)
    (hQ : ∀ v σ', Ext σ σ' → HouseAt σ' v L D W → Q v σ') : F (d + 5) false "House" [vl, vd, vw] σ Q er := by
  have ol := ok.looks.1
  have o1 := ok.many1
  have o4 := ok.many8
  have o8 : many ≤ 8 := by lia
  have oc := ok.count
  have od5 : (D.length : Int) ≤ 5 := by lia
  have od1 : (1 : Int) ≤ (D.length : Int) := by lia
  have ll : L.length ≤ lim := by rw [lim]; lia
  have dl : D.length ≤ lim := by rw [lim]; lia
  refine ClsOk.go h rfl fun dx x hdx hx hne => ?_
  have M0 : Mk σ ((σ.set dx (.attrs [])).set x (.inst "House" dx)) x dx [] := ⟨(Ext.set hdx _).trans (.set (by rw [set_ne _ _ (Ne.symm hne)]; exact hx) _), set_at _ _ _, by rw [set_ne _ _ hne, set_at]⟩
  generalize (σ.set dx (.attrs [])).set x (.inst "House" dx) = σ0 at M0 ⊢
  refine Classical.byContradiction fun hG => ?_
  obtain ⟨al, hal⟩ := ints_at hl
  obtain ⟨ad, xd, had, hxd⟩ := has_list hd
  obtain ⟨aw, haw⟩ := ints_at hwi
  refine hG ?_
  clear hG
  have hld := hxd.len
  have al0 := M0.e _ _ hal
  refine s_cons ?_; refine s_if ?_; refine r_bop ?_; refine r_not ?_; refine r_isi ?_; refine r_s rfl ?_; refine w_ll (by assumption) ?_; refine v_nott ?_; refine v_btf ?_; refine r_b1 ?_; refine r_not ?_; refine r_cmp2 ?_; refine r_s rfl ?_; refine v_c1 ?_; refine r_bcall rfl ?_; refine r_ss rfl ?_; refine v_len (by assumption) ?_; refine v_c2le ?_
  rw [List.length_map, ol, decide_eq_true o1]
  refine i_t ?_; refine r_glob (by assumption) ?_; refine v_le ?_; refine v_not ?_
  rw [decide_eq_true o8]
  refine v_ifnn rfl ?_; refine t_if ?_; refine r_not ?_; refine r_bcall rfl ?_; refine r_cons ?_; refine r_comp rfl ?_; refine r_s rfl ?_
  refine comp_list (fun (i : Int) v => v = .int i) (fun o' o' v => v = .bool true) (fun o' h => h) al0 (by rw [List.length_map]; exact ll) (All2.of fun o' o' => rfl) ?_ ?_
  · intro i hi v σ' hv e K' hK
    subst hv
    have := ok.looks.2 i hi
    refine r_calln (FnOk.cf (by assumption)) ?_; refine r_cons ?_; refine r_s rfl ?_; refine v_cons ?_; refine r_cons ?_; refine r_s rfl ?_; refine v_cons ?_; refine r_cons ?_; refine r_glob (by assumption) ?_; refine v_cons ?_; refine r_ss rfl ?_; refine v_push ?_; refine v_push ?_; refine v_push ?_
    refine whole_spec hw ?_
    rw [decide_eq_true this.1, decide_eq_true this.2]
    exact hK _ σ' (.refl σ') rfl
  intro b1 ys σ1 e1 hb1 hys
  refine v_cons ?_; refine r_ss rfl ?_; refine v_push ?_
  refine all_yes hys hb1 fun σ2 e2 => ?_
  have M2 := M0.ext (e1.trans e2)
  clear hys M0 al0 e2 e1
  have ad2 := M2.e _ _ had
  have al2 := M2.e _ _ hal
  refine v_nott ?_; refine v_iffn ?_; refine t_if ?_; refine r_bop ?_; refine r_not ?_; refine r_isi ?_; refine r_s rfl ?_; refine w_ll (by assumption) ?_; refine v_nott ?_; refine v_btf ?_; refine r_b1 ?_; refine r_not ?_; refine r_cmp2 ?_; refine r_s rfl ?_; refine v_c1 ?_; refine r_bcall rfl ?_; refine r_ss rfl ?_; refine v_len (by assumption) ?_; refine v_c2le ?_
  rw [hld, decide_eq_true od1]
  refine i_t ?_; refine r_glob (by assumption) ?_; refine v_le ?_; refine v_not ?_
  rw [decide_eq_true od5]
  refine v_ifnn rfl ?_; refine t_if ?_; refine r_not ?_; refine r_bcall rfl ?_; refine r_cons ?_; refine r_comp rfl ?_; refine r_s rfl ?_
  refine comp_list _ (fun o' o' v => v = .bool true) (fun o' h => h) ad2 (hld ▸ dl) hxd ?_ ?_
  · intro r hr' v σ' hv e K' hK
    have al3 := e _ _ al2
    refine r_calln (FnOk.cf (by assumption)) ?_; refine r_cons ?_; refine r_s rfl ?_; refine v_cons ?_; refine r_cons ?_; refine r_bcall rfl ?_; refine r_ss rfl ?_; refine v_len (by assumption) ?_; refine v_cons ?_; refine r_ss rfl ?_; refine v_push ?_; refine v_push ?_
    rw [List.length_map, ol]
    exact is_deed_spec hw hr hde (hv.ext (M2.e.trans e)) (ok.deeds r hr') o4 fun τ x' => hK _ τ x' rfl
  intro b2 ys2 σ3 e3 hb2 hys2
  refine v_cons ?_; refine r_ss rfl ?_; refine v_push ?_
  refine all_yes hys2 hb2 fun σ4 e4 => ?_
  have M4 := M2.ext (e3.trans e4)
  clear hys2 M2 ad2 al2 e3 e4 hb2 hb1
  refine v_nott ?_; refine v_iffn ?_; refine t_if ?_; refine r_not ?_; refine r_calln (FnOk.cf (by assumption)) ?_; refine r_cons ?_; refine r_s rfl ?_; refine v_cons ?_; refine r_cons ?_; refine r_bcall rfl ?_; refine r_ss rfl ?_
  have al4 := M4.e _ _ hal
  refine v_len (by assumption) ?_; refine v_cons ?_; refine r_ss rfl ?_; refine v_push ?_; refine v_push ?_
  rw [List.length_map, ol]
  refine rising_yes hw hr (hwi.ext M4.e) ok.wished ?_
  refine v_nott ?_; refine v_iffn ?_; refine t_attr ?_; refine r_bcall rfl ?_; refine r_ss rfl ?_; refine v_lst (by assumption) ?_
  refine n_ob fun p1 hp1 => ?_
  have M5 := M4.ext (.set hp1 (.list (L.map .int)))
  have L5 := has_new_list hp1 (hasL_ints (ns := L))
  generalize σ4.set p1 (.list (L.map .int)) = σ5 at M5 L5 ⊢
  clear al4 M4 hp1
  refine v_at1 ?_; refine r_s rfl ?_
  refine M5.set (fs' := [("looks", .ref p1)]) hdx hne rfl rfl rfl rfl fun σ6 M6 x6 => ?_
  have L6 := L5.extD x6
  clear M5 L5 x6
  have had6 := M6.e _ _ had
  refine v_nxn ?_; refine t_attr ?_; refine r_comp rfl ?_; refine r_s rfl ?_
  refine comp_list _ (fun σ' D v => Has σ' (deedD D) v) (fun e h => h.ext e) had6 (hld ▸ dl) hxd ?_ ?_
  · intro rows hrows v σ' hv e K' hK
    refine r_calln (FnOk.cf (by assumption)) ?_; refine r_ss rfl ?_
    exact own_spec hod (hv.ext (M6.e.trans e)) (by have := (ok.deeds rows hrows).1; lia) fun w σ'' e' hw' => hK w σ'' e' hw'
  intro p2 ys3 σ7 e7 hp2 hys3
  have M8 := M6.ext (e7.trans (.set hp2 (.list ys3)))
  have L8 := L6.ext (e7.trans (.set hp2 (.list ys3)))
  have D8 : Has (σ7.set p2 (.list ys3)) (.list (D.map deedD)) (.ref p2) := list_has (set_at _ _ _) (hys3.imp fun o' o' o' h => h.ext (.set hp2 _))
  generalize σ7.set p2 (.list ys3) = σ8 at M8 L8 D8 ⊢
  clear M6 L6 had6 e7 hys3 hp2
  refine v_at1 ?_; refine r_s rfl ?_
  refine M8.set (fs' := [("looks", .ref p1), ("deeds", .ref p2)]) hdx hne rfl rfl rfl rfl fun σ9 M9 x9 => ?_
  have L9 := L8.extD x9
  have D9 := D8.extD x9
  clear M8 L8 D8 x9
  have haw9 := M9.e _ _ haw
  refine v_nxn ?_; refine t_attr ?_; refine r_bcall rfl ?_; refine r_ss rfl ?_; refine v_lst (by assumption) ?_
  refine n_ob fun p3 hp3 => ?_
  have eA := Ext.set hp3 (.list (W.map .int))
  have WA := has_new_list hp3 (hasL_ints (ns := W))
  generalize σ9.set p3 (.list (W.map .int)) = σA at eA WA ⊢
  refine v_at1 ?_; refine r_s rfl ?_
  refine (M9.ext eA).set (fs' := [("looks", .ref p1), ("deeds", .ref p2), ("wished", .ref p3)]) hdx hne rfl rfl rfl rfl fun τ M xA => ?_
  refine s_nxt (s_nil ⟨rfl, ?_⟩)
  exact hQ _ _ M.e ⟨x, dx, .ref p1, .ref p2, .ref p3, rfl, M.x, M.d, (L9.ext eA).extD xA, (D9.ext eA).extD xA, WA.extD xA⟩
end BP

namespace BP
open PySem
variable {F : Nat → CallW} {g : Glo}
noncomputable def newWay (σ : Sto) (c : Nat) (σ' : Sto) (w : Way) (v : Val) : Prop := ∃ t, v = .ref t ∧ σ t = none ∧ t ≠ c ∧ σ' t = some (.tup [.int w.1, .int w.2])
theorem newWay.ext {σ σ' σ'' : Sto} {c : Nat} (e : Ext σ' σ'') {w : Way} {v : Val} : newWay σ c σ' w v → newWay σ c σ'' w v := fun ⟨t, h1, h2, h3, h4⟩ => ⟨t, h1, h2, h3, e _ _ h4⟩
theorem newWay.set {σ σ' : Sto} {c : Nat} {ob : Ob} {w : Way} {v : Val} : newWay σ c σ' w v → newWay σ c (σ'.set c ob) w v := fun ⟨t, h1, h2, h3, h4⟩ => ⟨t, h1, h2, h3, by rw [set_ne _ _ h3]; exact h4⟩
theorem newWay.has {σ σ' : Sto} {c : Nat} {w : Way} {v : Val} : newWay σ c σ' w v → HasF (new σ) σ' (dWay w) v := fun ⟨t, h1, h2, h3, h4⟩ => by
  simp only [dWay, HasF, HasFL]
  exact ⟨t, _, h1, h2, h4, _, _, rfl, rfl, _, _, rfl, rfl, rfl⟩
noncomputable def WaysOk (a b : Int) (ws : List Way) (m : Int) : Prop := ws.Pairwise (fun v w => v.1 < w.1) ∧ ∀ w ∈ ws, (0 ≤ w.1 ∧ w.1 < m) ∧ a ≤ w.2 ∧ w.2 < b
theorem WaysOk.good {a b : Int} {ws : List Way} (h : WaysOk a b ws 10) : goodW a b (-1) ws = true := goodW_of h.1 fun w hw => ⟨Int.lt_of_lt_of_le (by decide) (h.2 w hw).1.1, Int.le_of_lt_add_one (h.2 w hw).1.2, (h.2 w hw).2⟩
theorem WaysOk.len {a b : Int} {ws : List Way} (h : WaysOk a b ws 10) : ws.length ≤ 10 := by
  rw [← List.length_map (f := Prod.fst)]
  refine few (n := 10) ?_ fun i hi => ?_
  · exact List.pairwise_map.mpr (h.1.imp fun q => by lia)
  · refine Classical.byContradiction fun hG => ?_
    obtain ⟨w, hw, rfl⟩ := List.mem_map.mp hi
    refine hG ?_
    clear hG
    exact (h.2 w hw).1
theorem WaysOk.up {a b m m' : Int} {ws : List Way} (h : WaysOk a b ws m) (hm : m ≤ m') : WaysOk a b ws m' := ⟨h.1, fun w hw => ⟨⟨(h.2 w hw).1.1, Int.lt_of_lt_of_le (h.2 w hw).1.2 hm⟩, (h.2 w hw).2⟩⟩
theorem WaysOk.wide {a b b' m : Int} {ws : List Way} (h : WaysOk a b ws m) (hb : b ≤ b') : WaysOk a b' ws m := ⟨h.1, fun w hw => ⟨(h.2 w hw).1, (h.2 w hw).2.1, Int.lt_of_lt_of_le (h.2 w hw).2.2 hb⟩⟩
theorem WaysOk.snoc {a b i k : Int} {ws : List Way} (h : WaysOk a b ws i) (i0 : 0 ≤ i) (h1 : a ≤ k) (h2 : k < b) : WaysOk a b (ws ++ [(i, k)]) (i + 1) := by
  refine ⟨List.pairwise_append.mpr ⟨h.1, List.pairwise_singleton _ _, fun v hv w hw => ?_⟩, fun w hw => ?_⟩
  · rw [List.mem_singleton.mp hw]; exact (h.2 v hv).1.2
  · rcases List.mem_append.mp hw with q | q
    · exact ⟨⟨(h.2 w q).1.1, Int.lt_add_one_of_le (Int.le_of_lt (h.2 w q).1.2)⟩, (h.2 w q).2⟩
    · rw [List.mem_singleton.mp q]; exact ⟨⟨i0, by show i < i + 1; lia⟩, h1, h2⟩
structure WaysI (σ : Sto) (c r s : Nat) (c0 a0 wide : Int) (l : List Int) (ρ' : Loc) (σ' : Sto) : Prop where
  e : Ext σ σ'
  h1 : σ' r = some (.range 0 10)
  h2 : ρ' "_law_found" = some (.ref c)
  k1 : ρ' "_law_cell_here" = some (.int c0)
  k2 : ρ' "_law_seen" = some (.ref s)
  k3 : ρ' "_law_at" = some (.int a0)
  k4 : ρ' "_law_wide" = some (.int wide)
  q : ∃ ws vs m, σ' c = some (.list vs) ∧ All2 (newWay σ c σ') ws vs ∧ WaysOk a0 (a0 + wide) ws m ∧ m ≤ 10 ∧ (∀ i ∈ l, m ≤ i) ∧ l.Pairwise (· < ·)
theorem law_ways_spec (h : FnOk F g "_law_ways" d_law_ways) {d s : Nat} {ns : List Int} {c0 a0 wide : Int} {σ : Sto} {Q : KV} {er : String → Sto → Prop} (hs : σ s = some (.list (ns.map .int))) (hw : wide ≤ 300)
    (hQ : ∀ ws v σ', Ext σ σ' → HasF (new σ) σ' (dWays ws) v → WaysOk a0 (a0 + wide) ws 10 → Q v σ') : F (d + 1) false "_law_ways" [.int c0, .ref s, .int a0, .int wide] σ Q er := by
  refine FnOk.go h rfl ?_
  refine s_cons ?_; refine s_assign ?_; refine r_list0 ?_
  refine n_ob fun c hc => ?_
  refine v_asgn ?_; refine s_cons ?_; refine s_for rfl ?_; refine r_bcall rfl ?_; refine r_ss rfl ?_
  refine b_range (by decide) (by decide) fun r hr => ?_
  have e0 := (Ext.set hc (.list [])).trans (.set hr (.range 0 10))
  have hr0 : ((σ.set c (.list [])).set r (.range 0 10)) r = some (.range 0 10) := set_at _ _ _
  have hcr : c ≠ r := fun q => by rw [← q, set_at] at hr; cases hr
  refine w_on (turns_range hr0) ?_
  refine for_rel _ (WaysI σ c r s c0 a0 wide) ?_ ?_ ?_ (irange 0 10) _ _ _ ran_turns ⟨e0, hr0, by (repeat (first | with_reducible exact l_here | assumption | refine l_there rfl ?_ | with_reducible refine l_bind ?_ | with_reducible refine l_bind0 ?_)), by (repeat (first | with_reducible exact l_here | assumption | refine l_there rfl ?_ | with_reducible refine l_bind ?_ | with_reducible refine l_bind0 ?_)), by (repeat (first | with_reducible exact l_here | assumption | refine l_there rfl ?_ | with_reducible refine l_bind ?_ | with_reducible refine l_bind0 ?_)), by (repeat (first | with_reducible exact l_here | assumption | refine l_there rfl ?_ | with_reducible refine l_bind ?_ | with_reducible refine l_bind0 ?_)), by (repeat (first | with_reducible exact l_here | assumption | refine l_there rfl ?_ | with_reducible refine l_bind ?_ | with_reducible refine l_bind0 ?_)), [], [], 0, by rw [set_ne _ _ hcr, set_at], .nil, ⟨List.Pairwise.nil, fun o' h => nomatch h⟩, by decide, fun i hi => (mem_irange.mp hi).1, irange_lt 0 10⟩
  · intro l ρ' σ' I; exact stay_range hr0 I.h1
  · intro ρ' σ' H09
    refine Classical.byContradiction fun hG => ?_
    obtain ⟨e, h1, h2, -, -, -, -, ws, vs, m, h3, h4, h5, h6, -, -⟩ := H09
    refine hG ?_
    clear hG
    refine s_nxt ?_; refine s_cons ?_; refine s_ret ?_; refine r_var (by assumption) ?_; refine v_ret ?_; refine s_out ?_; refine k_ret ?_
    exact hQ ws _ _ e (listF_has h3 hc (h4.imp fun o' o' o' h => h.has)) (h5.up h6)
  · intro i l t ρ' σ' K H09 H19 hn hret
    refine Classical.byContradiction fun hG => ?_
    obtain ⟨v, rfl, i0, i1, rfl⟩ := H09
    obtain ⟨e, h1, h2, k1, k2, k3, k4, ws, vs, m, h3, h4, h5, h6, h7, h8⟩ := H19
    refine hG ?_
    clear hG
    have h5 := h5.up (h7 i (.head _))
    have h8 := List.pairwise_cons.mp h8
    have hv := h4.len
    have hvl : vs.length < 1000000 := by
      have : ws.length ≤ 10 := WaysOk.len (a := a0) (b := a0 + wide) (h5.up (by lia))
      lia
    have stop : K .next (bindT ["_law_look"] [.int i] ρ') σ' := hn _ _ ⟨e, h1, by (repeat (first | with_reducible exact l_here | assumption | refine l_there rfl ?_ | with_reducible refine l_bind ?_ | with_reducible refine l_bind0 ?_)), by (repeat (first | with_reducible exact l_here | assumption | refine l_there rfl ?_ | with_reducible refine l_bind ?_ | with_reducible refine l_bind0 ?_)), by (repeat (first | with_reducible exact l_here | assumption | refine l_there rfl ?_ | with_reducible refine l_bind ?_ | with_reducible refine l_bind0 ?_)), by (repeat (first | with_reducible exact l_here | assumption | refine l_there rfl ?_ | with_reducible refine l_bind ?_ | with_reducible refine l_bind0 ?_)), by (repeat (first | with_reducible exact l_here | assumption | refine l_there rfl ?_ | with_reducible refine l_bind ?_ | with_reducible refine l_bind0 ?_)), ws, vs, i, h3, h4, h5, by lia, fun j hj => Int.le_of_lt (h8.1 j hj), h8.2⟩
    have put : ∀ m : Int, 0 < wide → 0 ≤ m → m < wide → [Val.int i, Val.int (a0 + m)].length ≤ lim ∧ newW σ' (.tup [.int i, .int (a0 + m)]) fun v σ₁ => methW .append (.ref c) [v] σ₁ fun o' σ₂ => K .next (bindT ["_law_look"] [.int i] ρ') σ₂ := fun m w0 m0 m1 => by
      refine n_lit rfl fun b hb => ?_
      have e1 := Ext.set hb (.tup [.int i, .int (a0 + m)])
      have hbc : b ≠ c := fun q => by rw [q, h3] at hb; cases hb
      refine m_app (e1 _ _ h3) hvl ?_
      refine hn _ _ ⟨(e.trans e1).upd hc _, by rw [set_ne _ _ (Ne.symm hcr)]; exact e1 _ _ h1, by (repeat (first | with_reducible exact l_here | assumption | refine l_there rfl ?_ | with_reducible refine l_bind ?_ | with_reducible refine l_bind0 ?_)), by (repeat (first | with_reducible exact l_here | assumption | refine l_there rfl ?_ | with_reducible refine l_bind ?_ | with_reducible refine l_bind0 ?_)), by (repeat (first | with_reducible exact l_here | assumption | refine l_there rfl ?_ | with_reducible refine l_bind ?_ | with_reducible refine l_bind0 ?_)), by (repeat (first | with_reducible exact l_here | assumption | refine l_there rfl ?_ | with_reducible refine l_bind ?_ | with_reducible refine l_bind0 ?_)), by (repeat (first | with_reducible exact l_here | assumption | refine l_there rfl ?_ | with_reducible refine l_bind ?_ | with_reducible refine l_bind0 ?_)), ws ++ [(i, a0 + m)], vs ++ [.ref b], i + 1, set_at _ _ _, All2.snoc ?_ (h4.imp fun o' o' o' h => (h.ext e1).set), h5.snoc i0 (by lia) (by lia), by lia, h8.1, h8.2⟩
      exact ⟨b, rfl, e.new hb, hbc, by rw [set_ne _ _ hbc, set_at]⟩
    have hs' := e _ _ hs
    have snd : wpSs (F d) (g.at false er) [.if_ (.bop false [.cmp .gt (.var "_law_wide") (.int_ 0), .cmp .notIn (.var "_law_look") (.var "_law_seen"), .cmp .eq (.bin .mod (.bin .add (.var "_law_cell_here") (.var "_law_look")) (.int_ 17)) (.int_ 3)])
           [.expr (.meth (.var "_law_found") .append [.tup [.var "_law_look", .bin .add (.var "_law_at") (.bin .mod (.bin .fdiv (.bin .add (.var "_law_cell_here") (.var "_law_look")) (.int_ 17)) (.var "_law_wide"))]])] []] (bindT ["_law_look"] [.int i] ρ') σ' (nxt (F d) (g.at false er) [] K) := by
      refine s_cons ?_; refine s_if ?_; refine r_bop ?_; refine r_cmp ?_; refine r_var (by assumption) ?_; refine v_cmp ?_; refine r_s rfl ?_; refine v_gt ?_
      by_cases q1 : wide > 0
      · rw [decide_eq_true q1]
        refine v_bft ?_; refine r_b2 ?_; refine r_cmp ?_; refine r_s rfl ?_; refine v_cmp ?_; refine r_var (by assumption) ?_
        refine c_nin hs' ?_
        generalize decide (i ∈ ns) = b
        cases b with
        | true =>
          refine v_b ?_; refine v_bfn rfl ?_; refine v_iffn ?_; refine s_nil2 ?_; refine s_nil ?_
          exact stop
        | false =>
          refine v_b ?_; refine v_bfp rfl ?_; refine r_b1 ?_; refine r_cmp ?_; refine r_bin ?_; refine r_bin ?_; refine r_var (by assumption) ?_; refine v_bin ?_; refine r_s rfl ?_; refine v_add ?_; refine v_bin ?_; refine r_s rfl ?_; refine v_mod rfl ?_; refine v_cmp ?_; refine r_s rfl ?_; refine v_eq ?_
          cases q2 : decide ((c0 + i) % 17 = 3) with
          | false =>
            refine v_iffn ?_; refine s_nil2 ?_; refine s_nil ?_
            exact stop
          | true =>
            refine v_ift ?_; refine t_expr ?_; refine r_meth ?_; refine r_var (by assumption) ?_; refine v_mon (by assumption) ?_; refine r_cons ?_; refine r_tup ?_; refine r_cons ?_; refine r_s rfl ?_; refine v_cons ?_; refine r_cons ?_; refine r_bin ?_; refine r_var (by assumption) ?_; refine v_bin ?_; refine r_bin ?_; refine r_bin ?_; refine r_bin ?_; refine r_var (by assumption) ?_; refine v_bin ?_; refine r_s rfl ?_; refine v_add ?_; refine v_bin ?_; refine r_s rfl ?_; refine v_fdiv rfl ?_; refine v_bin ?_; refine r_var (by assumption) ?_
            refine o_modn q1 (by lia) ?_
            refine v_add ?_; refine v_cons ?_; refine r_ss rfl ?_; refine v_push ?_; refine v_push ?_
            have := put ((c0 + i) / 17 % wide) q1 (Int.emod_nonneg _ (by lia)) (Int.emod_lt_of_pos _ q1)
            exact this
      · rw [decide_eq_false q1]
        refine v_bff ?_; refine v_iffn ?_; refine s_nil2 ?_; refine s_nil ?_
        exact stop
    refine s_cons ?_; refine s_if ?_; refine r_bop ?_; refine r_cmp ?_; refine r_s rfl ?_; refine v_cmp ?_; refine r_var (by assumption) ?_
    refine c_in hs' ?_
    generalize decide (i ∈ ns) = b
    cases b with
    | false =>
      refine v_b ?_; refine v_bff ?_; refine v_iff ?_
      exact snd
    | true =>
      refine v_b ?_; refine v_bft ?_; refine r_b2 ?_; refine r_cmp ?_; refine r_var (by assumption) ?_; refine v_cmp ?_; refine r_s rfl ?_; refine v_gt ?_
      by_cases q1 : wide > 0
      · rw [decide_eq_true q1]
        refine v_bft ?_; refine r_b1 ?_; refine r_cmp ?_; refine r_bin ?_; refine r_bin ?_; refine r_var (by assumption) ?_; refine v_bin ?_; refine r_s rfl ?_; refine v_fdiv rfl ?_; refine v_bin ?_; refine r_s rfl ?_; refine v_mod rfl ?_; refine v_cmp ?_; refine r_s rfl ?_; refine v_ne ?_
        cases q2 : decide (c0 / 8 % 23 ≠ i) with
        | false =>
          refine v_iff ?_
          exact snd
        | true =>
          refine v_ift ?_; refine t_expr ?_; refine r_meth ?_; refine r_var (by assumption) ?_; refine v_mon (by assumption) ?_; refine r_cons ?_; refine r_tup ?_; refine r_cons ?_; refine r_s rfl ?_; refine v_cons ?_; refine r_cons ?_; refine r_bin ?_; refine r_var (by assumption) ?_; refine v_bin ?_; refine r_bin ?_; refine r_bin ?_; refine r_bin ?_; refine r_bin ?_; refine r_var (by assumption) ?_; refine v_bin ?_; refine r_s rfl ?_; refine v_mulr rfl ?_; refine v_bin ?_; refine r_s rfl ?_; refine v_add ?_; refine v_bin ?_; refine r_s rfl ?_; refine v_mod rfl ?_; refine v_bin ?_; refine r_var (by assumption) ?_
          refine o_modn q1 (by lia) ?_
          refine v_add ?_; refine v_cons ?_; refine r_ss rfl ?_; refine v_push ?_; refine v_push ?_
          have := put ((c0 * 48271 + i * 7919) % 10007 % wide) q1 (Int.emod_nonneg _ (by lia)) (Int.emod_lt_of_pos _ q1)
          exact this
      · rw [decide_eq_false q1]
        refine v_bff ?_; refine v_iff ?_
        exact snd
end BP

namespace BP
open PySem
variable {F : Nat → CallW} {g : Glo}
theorem row_new {σ : Sto} {b c : Nat} (hb : σ b = none) (hbc : b ≠ c) {r : Row} {y : Val} (h : HasF (· ≠ c) σ (dWays r.2) y) : HasF (· ≠ c) (σ.set b (.tup [deedV r.1, y])) (dRow r) (.ref b) :=
  newF_tup (ds := [dDeed r.1, dWays r.2]) hb hbc (HasFL.cons.mpr ⟨by cases r.1 <;> rfl, HasFL.cons.mpr ⟨h, HasFL.nil⟩⟩)
theorem goodRs_app {nd m : Int} {A B : List Row} {k : Int} (h : goodRs nd m k A = true) (h' : goodRs nd m (k + A.length) B = true) : goodRs nd m k (A ++ B) = true := by
  induction A generalizing k with
  | nil => rw [List.length_nil, Int.natCast_zero, Int.add_zero] at h'; exact h'
  | cons r A ih =>
    have h := (Bool.and_eq_true _ _).mp h
    refine (Bool.and_eq_true _ _).mpr ⟨h.1, ih h.2 ?_⟩
    rw [List.length_cons, Int.natCast_succ, ← Int.add_assoc, Int.add_right_comm] at h'
    exact h'
theorem goodRs_snoc {nd m : Int} {R : List Row} {k : Int} {r : Row} (h : goodRs nd m k R = true) (h' : goodR nd m (k + R.length) r = true) : goodRs nd m k (R ++ [r]) = true := goodRs_app h ((Bool.and_eq_true _ _).mpr ⟨h', rfl⟩)
structure RowsI (σ : Sto) (c r l s : Nat) (nd m : Int) (k : List Int) (ρ' : Loc) (σ' : Sto) : Prop where
  e : Ext σ σ'
  h1 : σ' r = some (.range 0 m)
  h2 : ρ' "_law_rows_here" = some (.ref c)
  k1 : ρ' "_law_script" = some (.ref l)
  k2 : ρ' "_law_seen" = some (.ref s)
  k3 : ρ' "_law_deeds" = some (.int nd)
  k4 : ρ' "_law_many" = some (.int m)
  q : ∃ rs vs, σ' c = some (.list vs) ∧ All2 (fun x v => HasF (· ≠ c) σ' (dRow x) v) rs vs ∧ goodRs nd m 0 rs = true ∧ k = irange rs.length m ∧ (rs.length : Int) ≤ m
theorem irange_cons {m n i : Int} {l : List Int} (h : i :: l = irange m n) : i = m ∧ l = irange (m + 1) n := by
  unfold irange at h ⊢
  have hk : (n - m).toNat ≠ 0 := fun q => by rw [q] at h; cases h
  rw [show (n - m).toNat = (n - (m + 1)).toNat + 1 by rw [← Int.sub_sub, Int.pred_toNat, Nat.sub_add_cancel (Nat.pos_of_ne_zero hk)], List.range_succ_eq_map, List.map_cons, List.map_map] at h
  obtain ⟨a, b⟩ := List.cons.inj h
  refine ⟨by rw [a]; show m + ((0 : Nat) : Int) = m; lia, b.trans (List.map_congr_left fun k o' => ?_)⟩
  show m + ((k + 1 : Nat) : Int) = m + 1 + (k : Int); lia
theorem irange_nil {m n : Int} (h : [] = irange m n) : n ≤ m := by
  have := congrArg List.length h
  rw [iran_len, List.length_nil] at this; lia
theorem law_rows_spec (hc : FnOk F g "_law_cell" d_law_cell) (hw : FnOk F g "_law_ways" d_law_ways) (h : FnOk F g "_law_rows" d_law_rows) {d l s : Nat} {ns seen : List Int} {nd : Int} {σ : Sto} {Q : KV} {er : String → Sto → Prop} (hσ : σ l = some (.ro (ns.map .int))) (hl : ns.length ≤ 63) (hs : σ s = some (.list (seen.map .int))) (n1 : 1 ≤ nd) (n5 : nd ≤ 5)
    (hQ : ∀ S R v σ', Ext σ σ' → Has σ' (dPlan S R) v → goodP nd S R = true → R.length ≤ 68 → Q v σ') : F (d + 1 + 1) false "_law_rows" [.ref l, .ref s, .int nd] σ Q er := by
  refine FnOk.go h rfl ?_
  have rest : ∀ (m : Int) ρ' σ', 0 ≤ m → m ≤ 68 → Ext σ σ' → ρ' "_law_script" = some (.ref l) → ρ' "_law_seen" = some (.ref s) → ρ' "_law_deeds" = some (.int nd) → ρ' "_law_many" = some (.int m) → nxt (F (d + 1)) (g.at false er) (d_law_rows.2.drop 2) (Kq Q) .next ρ' σ' := by
    intro m ρ' σ1 m0 m1 e1 r1 r2 r3 r4
    show nxt (F (d + 1)) (g.at false er) [St.assign "_law_rows_here" _, St.for_ 1 ["_law_at"] _ _, St.ret _] (Kq Q) .next ρ' σ1
    refine s_nxt ?_; refine s_cons ?_; refine s_assign ?_; refine r_list0 ?_
    refine n_ob fun c hc1 => ?_
    refine v_asgn ?_; refine s_cons ?_; refine s_for rfl ?_; refine r_bcall rfl ?_; refine r_cons ?_; refine r_var (by assumption) ?_; refine v_cons ?_; refine r_ss rfl ?_; refine v_push ?_
    refine b_range m0 (by lia) fun r hr => ?_
    have e2 := e1.trans ((Ext.set hc1 (.list [])).trans (.set hr (.range 0 m)))
    have hcσ := e1.new hc1
    have hr0 : ((σ1.set c (.list [])).set r (.range 0 m)) r = some (.range 0 m) := set_at _ _ _
    have hcr : c ≠ r := fun q => by rw [← q, set_at] at hr; cases hr
    refine w_on (turns_range hr0) ?_
    refine for_rel _ (RowsI σ c r l s nd m) ?_ ?_ ?_ (irange 0 m) _ _ _ ran_turns ⟨e2, hr0, by (repeat (first | with_reducible exact l_here | assumption | refine l_there rfl ?_ | with_reducible refine l_bind ?_ | with_reducible refine l_bind0 ?_)), by (repeat (first | with_reducible exact l_here | assumption | refine l_there rfl ?_ | with_reducible refine l_bind ?_ | with_reducible refine l_bind0 ?_)), by (repeat (first | with_reducible exact l_here | assumption | refine l_there rfl ?_ | with_reducible refine l_bind ?_ | with_reducible refine l_bind0 ?_)), by (repeat (first | with_reducible exact l_here | assumption | refine l_there rfl ?_ | with_reducible refine l_bind ?_ | with_reducible refine l_bind0 ?_)), by (repeat (first | with_reducible exact l_here | assumption | refine l_there rfl ?_ | with_reducible refine l_bind ?_ | with_reducible refine l_bind0 ?_)), [], [], by rw [set_ne _ _ hcr, set_at], .nil, rfl, rfl, m0⟩
    · intro k ρ' σ' I; exact stay_range hr0 I.h1
    · intro ρ' σ' H09
      refine Classical.byContradiction fun hG => ?_
      obtain ⟨e, h1, h2, k1, k2, k3, k4, rs, vs, h3, h4, h5, h6, h7⟩ := H09
      refine hG ?_
      clear hG
      have hm := irange_nil h6
      have hm : (rs.length : Int) = m := by lia
      refine s_nxt ?_; refine s_cons ?_; refine s_ret ?_; refine r_tup ?_; refine r_cons ?_; refine r_calln (FnOk.cf (by assumption)) ?_; refine r_cons ?_; refine r_calln (FnOk.cf (by assumption)) ?_; refine r_cons ?_; refine r_var (by assumption) ?_; refine v_cons ?_; refine r_ss rfl ?_; refine v_push ?_
      refine cell_any hc (e _ _ hσ) hl fun c0 σ2 e3 => ?_
      refine v_cons ?_; refine r_cons ?_; refine r_var (by assumption) ?_; refine v_cons ?_; refine r_cons ?_; refine r_s rfl ?_; refine v_cons ?_; refine r_cons ?_; refine r_var (by assumption) ?_; refine v_cons ?_; refine r_ss rfl ?_; refine v_push ?_; refine v_push ?_; refine v_push ?_; refine v_push ?_
      refine law_ways_spec hw ((e.trans e3) _ _ hs) (by lia) fun ws v σ3 e4 hv n2 => ?_
      refine v_cons ?_; refine r_cons ?_; refine r_var (by assumption) ?_; refine v_cons ?_; refine r_ss rfl ?_; refine v_push ?_; refine v_push ?_
      refine n_lit rfl fun z hz => ?_
      refine v_ret ?_; refine s_out ?_; refine k_ret ?_
      have e5 := (e3.trans e4).trans (.set hz (.tup [v, .ref c]))
      have n3 := n2.good
      rw [Int.zero_add, ← hm] at n3
      rw [← hm] at h5
      refine hQ ws rs _ _ (e.trans e5) (mk_tup2 (set_at _ _ _) (hv.has.ext (.set hz _)) (list_has (e5 _ _ h3) (h4.imp fun o' o' o' h => h.has.ext e5))) ?_ (by lia)
      rw [goodP, n3, h5, decide_eq_true (by lia)]; rfl
    · intro i k t ρ' σ' K H09 H19 hn hret
      refine Classical.byContradiction fun hG => ?_
      obtain ⟨v, rfl, i0, i1, rfl⟩ := H09
      obtain ⟨e, h1, h2, k1, k2, k3, k4, rs, vs, h3, h4, h5, h6, h7⟩ := H19
      obtain ⟨hi, hk⟩ := irange_cons h6
      refine hG ?_
      clear hG
      have hv := h4.len
      refine s_cons ?_; refine s_assign ?_; refine r_bin ?_; refine r_calln (FnOk.cf (by assumption)) ?_; refine r_cons ?_; refine r_var (by assumption) ?_; refine v_cons ?_; refine r_ss rfl ?_; refine v_push ?_
      refine cell_any hc (e _ _ hσ) hl fun c0 σ2 e3 => ?_
      refine v_bin ?_; refine r_bin ?_; refine r_s rfl ?_; refine v_bin ?_; refine r_s rfl ?_; refine v_mull rfl ?_; refine v_add ?_; refine v_asgn ?_; refine t_if ?_; refine r_bop ?_; refine r_cmp ?_; refine r_s rfl ?_; refine v_cmp ?_; refine r_bin ?_; refine r_var (by assumption) ?_; refine v_bin ?_; refine r_s rfl ?_; refine v_sub ?_; refine v_eq ?_
      generalize c0 + 31 * (i / 20) = c1
      have put : ∀ (x : Row) (y : Val) (σ3 : Sto), Ext σ2 σ3 → HasF (· ≠ c) σ3 (dWays x.2) y → goodR nd m i x = true → [deedV x.1, y].length ≤ lim ∧ newW σ3 (.tup [deedV x.1, y]) fun v σ₁ => methW .append (.ref c) [v] σ₁ fun o' σ₂ => K .next (upd (bindT ["_law_at"] [.int i] ρ') "_law_cell_here" (.int c1)) σ₂ := fun x y σ3 e4 hy hx => by
        refine n_lit rfl fun b hb => ?_
        have e5 := (e3.trans e4).trans (.set hb (.tup [deedV x.1, y]))
        have hc5 := e5 _ _ h3
        have hbc : b ≠ c := fun q => by rw [q, (e3.trans e4) _ _ h3] at hb; cases hb
        refine m_app hc5 (by lia) ?_
        refine hn _ _ ⟨(e.trans e5).upd hcσ _, by rw [set_ne _ _ (Ne.symm hcr)]; exact e5 _ _ h1, by (repeat (first | with_reducible exact l_here | assumption | refine l_there rfl ?_ | with_reducible refine l_bind ?_ | with_reducible refine l_bind0 ?_)), by (repeat (first | with_reducible exact l_here | assumption | refine l_there rfl ?_ | with_reducible refine l_bind ?_ | with_reducible refine l_bind0 ?_)), by (repeat (first | with_reducible exact l_here | assumption | refine l_there rfl ?_ | with_reducible refine l_bind ?_ | with_reducible refine l_bind0 ?_)), by (repeat (first | with_reducible exact l_here | assumption | refine l_there rfl ?_ | with_reducible refine l_bind ?_ | with_reducible refine l_bind0 ?_)), by (repeat (first | with_reducible exact l_here | assumption | refine l_there rfl ?_ | with_reducible refine l_bind ?_ | with_reducible refine l_bind0 ?_)), rs ++ [x], vs ++ [.ref b], set_at _ _ _, ?_, goodRs_snoc h5 (by rw [Int.zero_add, ← hi]; exact hx), ?_, ?_⟩
        · refine All2.snoc ?_ (h4.imp fun o' o' o' h => hasF_keep (h.ext e5))
          exact hasF_keep (row_new hb hbc hy)
        · rw [hk, List.length_append, List.length_singleton]; rfl
        · rw [List.length_append, List.length_singleton]; lia
      have none_ : wpSs (F (d + 1)) (g.at false er) [.expr (.meth (.var "_law_rows_here") .append [.tup [.none_, .list []]])] (upd (bindT ["_law_at"] [.int i] ρ') "_law_cell_here" (.int c1)) σ2 (nxt (F (d + 1)) (g.at false er) [] K) := by
        have h3' := e3 _ _ h3
        refine s_cons ?_; refine s_expr ?_; refine r_meth ?_; refine r_var (by assumption) ?_; refine v_mon (by assumption) ?_; refine r_cons ?_; refine r_tup ?_; refine r_cons ?_; refine r_s rfl ?_; refine v_cons ?_; refine r_cons ?_; refine r_list0 ?_
        refine n_ob fun b hb => ?_
        refine v_cons ?_; refine r_ss rfl ?_; refine v_push ?_; refine v_push ?_
        have hbc : b ≠ c := fun q => by rw [q, h3'] at hb; cases hb
        exact put (none, []) (.ref b) _ (.set hb _) (newF_list (ds := []) hb hbc HasFL.nil) rfl
      cases q1 : decide (i = m - 1) with
      | true =>
        refine v_btt ?_; refine v_ift ?_
        exact none_
      | false =>
        refine v_btf ?_; refine r_b1 ?_; refine r_s rfl ?_
        cases q2 : decide (c1 % 8 = 1) with
        | true =>
          refine v_ift ?_
          exact none_
        | false =>
          have h3' := e3 _ _ h3
          refine v_iff ?_; refine t_expr ?_; refine r_meth ?_; refine r_var (by assumption) ?_; refine v_mon (by assumption) ?_; refine r_cons ?_; refine r_tup ?_; refine r_cons ?_; refine r_bin ?_; refine r_s rfl ?_; refine v_bin ?_; refine r_var (by assumption) ?_
          refine o_modn (by lia) (by lia) ?_
          refine v_cons ?_; refine r_cons ?_; refine r_calln (FnOk.cf (by assumption)) ?_; refine r_cons ?_; refine r_s rfl ?_; refine v_cons ?_; refine r_cons ?_; refine r_var (by assumption) ?_; refine v_cons ?_; refine r_cons ?_; refine r_s rfl ?_; refine v_cons ?_; refine r_cons ?_; refine r_bcall rfl ?_; refine r_cons ?_; refine r_s rfl ?_; refine v_cons ?_; refine r_cons ?_; refine r_bin ?_; refine r_bin ?_; refine r_var (by assumption) ?_; refine v_bin ?_; refine r_s rfl ?_; refine v_sub ?_; refine v_bin ?_; refine r_s rfl ?_; refine v_sub ?_; refine v_cons ?_; refine r_ss rfl ?_; refine v_push ?_; refine v_push ?_; refine v_min ?_; refine v_cons ?_; refine r_ss rfl ?_; refine v_push ?_; refine v_push ?_; refine v_push ?_; refine v_push ?_
          refine law_ways_spec hw ((e.trans e3) _ _ hs) (by lia) fun ws v σ3 e4 hv n2 => ?_
          refine v_cons ?_; refine r_ss rfl ?_; refine v_push ?_; refine v_push ?_
          refine put (some (c1 / 184 % nd), ws) v σ3 e4 (hasF_new h3' hv) ?_
          show (decide (0 ≤ c1 / 184 % nd) && decide (c1 / 184 % nd ≤ nd - 1) && goodW (i + 1) m (-1) ws) = true
          rw [decide_eq_true (Int.emod_nonneg _ (by lia)), decide_eq_true (by have := Int.emod_lt_of_pos (c1 / 184) (show 0 < nd by lia); lia), (n2.wide (show _ ≤ m by lia)).good]; rfl
  refine s_cons ?_; refine s_assign ?_; refine r_bin ?_; refine r_calln (FnOk.cf (by assumption)) ?_; refine r_ss rfl ?_
  refine cell_any hc hσ hl fun c1 σ1 e1 => ?_
  refine v_bin ?_; refine r_s rfl ?_; refine v_mod rfl ?_; refine v_asgn ?_; refine t_if ?_; refine r_cmp ?_; refine r_bin ?_; refine r_bin ?_; refine r_calln (FnOk.cf (by assumption)) ?_; refine r_ss rfl ?_
  refine cell_any hc (e1 _ _ hσ) hl fun c2 σ2 e2 => ?_
  refine v_bin ?_; refine r_s rfl ?_; refine v_fdiv rfl ?_; refine v_bin ?_; refine r_s rfl ?_; refine v_mod rfl ?_; refine v_cmp ?_; refine r_s rfl ?_; refine v_eq ?_
  cases q : decide (c2 / 10 % 8 = 1) with
  | true =>
    refine v_ift ?_; refine t_assign ?_; refine r_bin ?_; refine r_s rfl ?_; refine v_bin ?_; refine r_bin ?_; refine r_bin ?_; refine r_calln (FnOk.cf (by assumption)) ?_; refine r_ss rfl ?_
    refine cell_any hc ((e1.trans e2) _ _ hσ) hl fun c3 σ3 e3 => ?_
    refine v_bin ?_; refine r_s rfl ?_; refine v_fdiv rfl ?_; refine v_bin ?_; refine r_s rfl ?_; refine v_mod rfl ?_; refine v_add ?_; refine v_asg ?_
    exact rest (c1 % 10 + c3 / 80 % 60) _ _ (by lia) (by lia) ((e1.trans e2).trans e3) (by (repeat (first | with_reducible exact l_here | assumption | refine l_there rfl ?_ | with_reducible refine l_bind ?_ | with_reducible refine l_bind0 ?_))) (by (repeat (first | with_reducible exact l_here | assumption | refine l_there rfl ?_ | with_reducible refine l_bind ?_ | with_reducible refine l_bind0 ?_))) (by (repeat (first | with_reducible exact l_here | assumption | refine l_there rfl ?_ | with_reducible refine l_bind ?_ | with_reducible refine l_bind0 ?_))) (by (repeat (first | with_reducible exact l_here | assumption | refine l_there rfl ?_ | with_reducible refine l_bind ?_ | with_reducible refine l_bind0 ?_)))
  | false =>
    refine v_iff ?_; refine s_nil ?_
    exact rest (c1 % 10) _ _ (by lia) (by lia) (e1.trans e2) (by (repeat (first | with_reducible exact l_here | assumption | refine l_there rfl ?_ | with_reducible refine l_bind ?_ | with_reducible refine l_bind0 ?_))) (by (repeat (first | with_reducible exact l_here | assumption | refine l_there rfl ?_ | with_reducible refine l_bind ?_ | with_reducible refine l_bind0 ?_))) (by (repeat (first | with_reducible exact l_here | assumption | refine l_there rfl ?_ | with_reducible refine l_bind ?_ | with_reducible refine l_bind0 ?_))) (by (repeat (first | with_reducible exact l_here | assumption | refine l_there rfl ?_ | with_reducible refine l_bind ?_ | with_reducible refine l_bind0 ?_)))
theorem need_guess_spec (hx : g.ex "BadGuess" = true) (hw : FnOk F g "is_whole" d_is_whole) (hr : FnOk F g "is_rising" d_is_rising) (h : FnOk F g "need_guess" d_need_guess) {d a : Nat} {v : Val} {G L : List Int} {D : List (List (List Int))} {W : List Int} {σ : Sto} {Q : KV} {er : String → Sto → Prop} (hv : HouseAt σ v L D W) (ha : σ a = some (.list (G.map .int)))
    (hQ : (risingI G (-1) L.length && !G.isEmpty) = true → ∀ σ', Ext σ σ' → Q (.bool true) σ') (hE : (risingI G (-1) L.length && !G.isEmpty) = false → ∀ σ', Ext σ σ' → er "BadGuess" σ') : F (d + 3) false "need_guess" [v, .ref a] σ Q er := by
  refine FnOk.go h rfl ?_
  refine s_cons ?_; refine s_if ?_; refine r_bop ?_; refine r_not ?_; refine r_calln (FnOk.cf (by assumption)) ?_; refine r_cons ?_; refine r_s rfl ?_; refine v_cons ?_; refine r_cons ?_; refine r_bcall rfl ?_; refine r_cons ?_; refine r_attr ?_; refine r_s rfl ?_
  refine hv.looks (.refl _) fun al hal => ?_
  refine v_cons ?_; refine r_ss rfl ?_; refine v_push ?_; refine v_len (by assumption) ?_; refine v_cons ?_; refine r_ss rfl ?_; refine v_push ?_; refine v_push ?_
  rw [List.length_map]
  refine rising_spec hw hr (mk_ints ha) ?_
  cases q : risingI G (-1) L.length with
  | false =>
    rw [q] at hE
    refine v_notf ?_; refine v_btt ?_; refine v_ift ?_; refine s_cons ?_
    exact s_rai hx (hE rfl _ (.refl _))
  | true =>
    rw [q] at hE hQ
    refine v_nott ?_; refine v_btf ?_; refine r_b1 ?_; refine r_cmp ?_; refine r_s rfl ?_; refine v_cmp ?_; refine r_list0 ?_
    refine n_ob fun b hb => ?_
    refine c_eqnil (Ext.set hb _ _ _ ha) (set_at _ _ _) ?_
    cases q2 : G.isEmpty with
    | true =>
      rw [q2] at hE
      refine v_b ?_; refine v_ift ?_; refine s_cons ?_
      exact s_rai hx (hE rfl _ (.set hb _))
    | false =>
      rw [q2] at hQ
      refine v_b ?_; refine v_iffn ?_; refine t_ret ?_; refine r_s rfl ?_; refine v_retk ?_
      exact hQ rfl _ (.set hb _)
noncomputable def PlanIs (F : Nat → CallW) (σ : Sto) (nd : Int) (v : Val) (b : Bool) : Prop := ∀ d Q er, (∀ σ', Ext σ σ' → Q (.bool b) σ') → F (d + 4) false "is_plan" [v, .int nd] σ Q er
theorem need_plan_spec (hx : g.ex "BadPlan" = true) (h : FnOk F g "need_plan" d_need_plan) {d : Nat} {v vp : Val} {b : Bool} {L : List Int} {D : List (List (List Int))} {W : List Int} {σ : Sto} {Q : KV} {er : String → Sto → Prop} (hp : FnOk F g "is_plan" d_is_plan) (hv : HouseAt σ v L D W) (hb : PlanIs F σ D.length vp b)
    (hQ : b = true → ∀ σ', Ext σ σ' → Q (.bool true) σ') (hE : b = false → ∀ σ', Ext σ σ' → er "BadPlan" σ') : F (d + 5) false "need_plan" [v, vp] σ Q er := by
  refine FnOk.go h rfl ?_
  refine s_cons ?_; refine s_if ?_; refine r_not ?_; refine r_calln (FnOk.cf (by assumption)) ?_; refine r_cons ?_; refine r_s rfl ?_; refine v_cons ?_; refine r_cons ?_; refine r_bcall rfl ?_; refine r_cons ?_; refine r_attr ?_; refine r_s rfl ?_
  refine hv.deeds (.refl _) fun w hw => ?_
  refine Classical.byContradiction fun hG => ?_
  obtain ⟨ad, xd, had, hxd⟩ := has_list hw
  refine hG ?_
  clear hG
  have hld := hxd.len
  refine v_cons ?_; refine r_ss rfl ?_; refine v_push ?_; refine v_len (by assumption) ?_; refine v_cons ?_; refine r_ss rfl ?_; refine v_push ?_; refine v_push ?_
  rw [hld]
  refine hb d _ _ fun σ' e => ?_
  cases b with
  | false =>
    refine v_notf ?_; refine v_ift ?_; refine s_cons ?_
    exact s_rai hx (hE rfl _ e)
  | true =>
    refine v_nott ?_; refine v_iffn ?_; refine t_ret ?_; refine r_s rfl ?_; refine v_retk ?_
    exact hQ rfl _ e
end BP

namespace BP
open PySem
variable {F : Nat → CallW} {g : Glo}
theorem pair_at {σ : Sto} {c : Nat} {x y : Val} (h : σ c = some (.tup [x, y])) : pairV σ (.ref c) = some [x, y] := by simp only [pairV, h]; rfl
inductive Pair2 (σ : Sto) {α : Type} (f g : α → Dat) (r : α) : List Val → Prop
  | mk (x y : Val) (hx : Has σ (f r) x) (hy : Has σ (g r) y) : Pair2 σ f g r [x, y]
theorem pairs_of {α : Type} {σ : Sto} {f g : α → Dat} {as : List α} {xs : List Val} (h : All2 (fun r v => Has σ (.tup [f r, g r]) v) as xs) : ∃ ts, (∀ σ', Ext σ σ' → pairsV σ' xs = some ts) ∧ All2 (Pair2 σ f g) as ts := by
  induction h with
  | nil => exact ⟨[], fun o' o' => rfl, .nil⟩
  | cons h2 _ ih =>
    obtain ⟨ts, h4, h5⟩ := ih
    obtain ⟨c, x, y, q1, q2, q3⟩ := has_tup2 h2
    exact ⟨[x, y] :: ts, fun σ' e => Option.bind_eq_some_iff.mpr ⟨[x, y], pair_at (e _ _ q1), Option.map_eq_some_iff.mpr ⟨ts, h4 σ' e, rfl⟩⟩, .cons ⟨x, y, q2, q3⟩ h5⟩
theorem turns_pairs {σ : Sto} {a : Nat} {xs : List Val} {ts : List (List Val)} (h : σ a = some (.list xs)) (h' : pairsV σ xs = some ts) : turnsOf σ (.ref a) 3 = some ts := by
  show (itemsO (σ a)).bind (pairsV σ) = _
  rw [h]; exact h'
theorem pairs_cons {σ : Sto} {v : Val} {vs p : List Val} {ts : List (List Val)} (h : pairV σ v = some p) (h' : pairsV σ vs = some ts) : pairsV σ (v :: vs) = some (p :: ts) := Option.bind_eq_some_iff.mpr ⟨p, h, Option.map_eq_some_iff.mpr ⟨ts, h', rfl⟩⟩
theorem stay_pairs {σ σ' : Sto} {a : Nat} {xs : List Val} {ts : List (List Val)} (h : σ a = some (.list xs)) (h' : ∀ σ', Ext σ σ' → pairsV σ' xs = some ts) (e : Ext σ σ') : stay σ (.ref a) 3 ts σ' := ⟨fun b q => by cases q; rw [h, e _ _ h], turns_pairs (e _ _ h) (h' _ e)⟩
theorem comp_fil {α : Type} {C : Loc → Sto → (Bool → Sto → Prop) → Prop} {B : Loc → Sto → KV → Prop} {it : Sto → Prop} {xs : List String} {ρ : Loc} {K : List Val → Sto → Prop} {σ₀ : Sto} (R : α → List Val → Prop) (p : α → Bool) (f : α → Val) (hit : ∀ σ', Ext σ₀ σ' → it σ')
    (as : List α) (turns : List (List Val)) (acc : List Val) (σ : Sto) (e : Ext σ₀ σ) (h : All2 R as turns) (hC : ∀ a ∈ as, ∀ t σ', R a t → Ext σ₀ σ' → ∀ K' : Bool → Sto → Prop, (∀ σ'', Ext σ' σ'' → K' (p a) σ'') → C (bindT xs t ρ) σ' K')
    (hB : ∀ a ∈ as, p a = true → ∀ t σ', R a t → Ext σ₀ σ' → ∀ K' : KV, (∀ σ'', Ext σ' σ'' → K' (f a) σ'') → B (bindT xs t ρ) σ' K') (hK : ∀ σ', Ext σ σ' → K (acc ++ (as.filter p).map f) σ') : wpComp C B it xs turns acc ρ σ K := by
  induction h generalizing acc σ with
  | nil =>
    have := hK σ (.refl σ)
    rw [List.filter_nil, List.map_nil, List.append_nil] at this
    exact ⟨hit σ e, this⟩
  | cons h2 _ ih =>
    refine ⟨hit σ e, hC _ (.head _) _ σ h2 e _ fun σ₁ e1 => ?_⟩
    cases q : p _ with
    | true =>
      refine hB _ (.head _) q _ σ₁ h2 (e.trans e1) _ fun σ₂ e2 => ih (acc ++ [f _]) σ₂ (e.trans (e1.trans e2)) (fun b hb => hC b (.tail _ hb)) (fun b hb => hB b (.tail _ hb)) fun σ' e' => ?_
      have := hK σ' ((e1.trans e2).trans e')
      rw [List.filter_cons_of_pos q] at this
      rw [List.append_assoc]
      exact this
    | false =>
      refine ih acc σ₁ (e.trans e1) (fun b hb => hC b (.tail _ hb)) (fun b hb => hB b (.tail _ hb)) fun σ' e' => ?_
      have := hK σ' (e1.trans e')
      rw [List.filter_cons_of_neg (by rw [q]; exact Bool.false_ne_true)] at this
      exact this
theorem way_of_spec (h : FnOk F g "way_of" d_way_of) {d : Nat} {ws : List Way} {v : Val} {l : Int} {σ : Sto} {Q : KV} {er : String → Sto → Prop} (hv : Has σ (dWays ws) v) (h0 : wayOf ws l = none → Q .none σ) (h1 : ∀ k, wayOf ws l = some k → Q (.int k) σ) : F (d + 1) false "way_of" [v, .int l] σ Q er := by
  have hQ : Q (deedV (wayOf ws l)) σ := by
    cases q : wayOf ws l with
    | none => exact h0 q
    | some k => exact h1 k q
  refine Classical.byContradiction fun hG => ?_
  obtain ⟨a, xs, ha, hx⟩ := has_list hv
  refine hG ?_
  clear hG
  refine FnOk.go h rfl ?_
  refine s_cons ?_; refine s_for rfl ?_; refine r_s rfl ?_
  refine w_on (turns_list ha) ?_
  refine for_rel (one1 fun x v => Has σ (dWay x) v) (fun r ρ' σ' => σ' = σ ∧ ρ' "look" = some (.int l) ∧ wayOf r l = wayOf ws l) ?_ ?_ ?_ ws _ _ σ hx.turns ⟨rfl, by (repeat (first | with_reducible exact l_here | assumption | refine l_there rfl ?_ | with_reducible refine l_bind ?_ | with_reducible refine l_bind0 ?_)), rfl⟩
  · rintro r ρ' σ' ⟨rfl, -⟩; exact stay_list ha ha
  · intro ρ' σ' H09
    refine Classical.byContradiction fun hG => ?_
    obtain ⟨rfl, h1, h2⟩ := H09
    refine hG ?_
    clear hG
    rw [← h2] at hQ
    refine s_nxt ?_; refine s_cons ?_; refine s_ret ?_; refine r_s rfl ?_; refine v_ret ?_; refine s_out ?_; refine k_ret ?_
    exact hQ
  · intro w r t ρ' σ' K H09 H19 hn hr
    refine Classical.byContradiction fun hG => ?_
    obtain ⟨v, rfl, hv⟩ := H09
    obtain ⟨rfl, h1, h2⟩ := H19
    obtain ⟨c, hc⟩ := has_way hv
    refine hG ?_
    clear hG
    rw [wayOf] at h2
    refine s_cons ?_; refine s_if ?_; refine r_cmp ?_; refine r_sub ?_; refine r_s rfl ?_; refine v_sub1 ?_; refine r_s rfl ?_
    refine sub0 hc ?_
    refine v_cmp ?_; refine r_var (by assumption) ?_; refine v_eq ?_
    refine i_dec (fun q => ?_) fun q => ?_
    · rw [if_pos q] at h2
      rw [← h2] at hQ
      refine s_cons ?_; refine s_ret ?_; refine r_sub ?_; refine r_s rfl ?_; refine v_sub1 ?_; refine r_s rfl ?_
      refine sub1 hc ?_
      refine v_ret ?_; refine s_out ?_; refine s_out ?_
      exact hr _ _ _ hQ
    · rw [if_neg q] at h2
      refine s_nil2 ?_; refine s_nil ?_
      exact hn _ _ ⟨rfl, by (repeat (first | with_reducible exact l_here | assumption | refine l_there rfl ?_ | with_reducible refine l_bind ?_ | with_reducible refine l_bind0 ?_)), h2⟩
theorem wayOf_fil (l : Int) (ws : List Way) : (((ws.filter fun w => decide (w.1 = l)).map fun w => Val.int w.2) ++ [.none])[0]? = some (deedV (wayOf ws l)) := by
  induction ws with
  | nil => rfl
  | cons w ws ih =>
    unfold wayOf
    by_cases q : w.1 = l
    · rw [if_pos q, List.filter_cons_of_pos (by simpa using q)]; rfl
    · rw [if_neg q, List.filter_cons_of_neg (by simpa using q)]; exact ih
theorem way_for_spec (h : FnOk F g "_law_way_for" d_law_way_for) {d : Nat} {ws : List Way} {v : Val} {l : Int} {σ : Sto} {Q : KV} {er : String → Sto → Prop} (hv : Has σ (dWays ws) v) (hw : ws.length ≤ 1000) (h0 : wayOf ws l = none → ∀ σ', Ext σ σ' → Q .none σ') (h1 : ∀ k, wayOf ws l = some k → ∀ σ', Ext σ σ' → Q (.int k) σ') : F (d + 1) false "_law_way_for" [v, .int l] σ Q er := by
  have hQ : ∀ σ', Ext σ σ' → Q (deedV (wayOf ws l)) σ' := by
    cases q : wayOf ws l with
    | none => exact h0 q
    | some k => exact h1 k q
  refine Classical.byContradiction fun hG => ?_
  obtain ⟨a, xs, ha, hx⟩ := has_list hv
  obtain ⟨ts, q1, q2⟩ := pairs_of (f := fun w : Way => .int w.1) (g := fun w : Way => .int w.2) hx
  refine hG ?_
  clear hG
  refine FnOk.go h rfl ?_
  refine s_cons ?_; refine s_ret ?_; refine r_sub ?_; refine r_bin ?_; refine r_comp rfl ?_; refine r_s rfl ?_
  refine w_on (turns_pairs ha (q1 _ (.refl _))) ⟨by rw [q2.len]; exact Nat.le_trans hw (by decide), ?_⟩
  refine comp_fil (σ₀ := σ) _ (fun w : Way => decide (w.1 = l)) (fun w => .int w.2) (fun σ' e => stay_pairs ha q1 e) ws _ [] σ (.refl _) q2 ?_ ?_ ?_
  · intro w hw t σ' T e K' hK'
    refine Classical.byContradiction fun hG => ?_
    obtain ⟨x, y, hx, hy⟩ := T
    refine hG ?_
    clear hG
    cases hx
    refine r_if1 ?_; refine r_s rfl ?_
    have := hK' _ (.refl _)
    cases q : decide (w.1 = l) with
    | true =>
      rw [q] at this
      refine v_ifst ?_; refine r_if0 ?_
      exact this
    | false =>
      rw [q] at this
      refine v_ifsf ?_
      exact this
  · intro w hw hp t σ' T e K' hK'
    refine Classical.byContradiction fun hG => ?_
    obtain ⟨x, y, hx, hy⟩ := T
    refine hG ?_
    clear hG
    cases hy
    refine r_s rfl ?_
    exact hK' _ (.refl _)
  intro σ1 e1 b hb
  refine v_bin ?_; refine r_list ?_; refine r_ss rfl ?_
  refine n_lit rfl fun c hc => ?_
  refine o_cat (Ext.set hc _ _ _ (set_at _ _ _)) (set_at _ _ _) ?_ fun z hz => ?_
  · rw [List.nil_append, List.length_map]
    have := List.length_filter_le (fun w : Way => decide (w.1 = l)) ws
    show _ + 1 ≤ _
    lia
  refine v_sub1 ?_; refine r_s rfl ?_
  refine subW_list (set_at _ _ _) ?_ ?_ (k := 0) (x := deedV (wayOf ws l))
  · rw [show (0 : Int) = ((0 : Nat) : Int) from rfl, getIdx_nat, List.nil_append]; exact wayOf_fil l ws
  · exact hQ _ (e1.trans ((Ext.set hb _).trans ((Ext.set hc _).trans (.set hz _))))
structure Cells (σ₀ σ : Sto) (a : Nat) (bs : List Nat) (R : Nat → Ob → Prop) : Prop where
  e : Ext σ₀ σ
  la : σ a = some (.list (bs.map .ref))
  nd : bs.Nodup
  fr : ∀ b ∈ bs, σ₀ b = none ∧ b ≠ a
  at_ : ∀ k b, bs[k]? = some b → ∃ ob, σ b = some ob ∧ R k ob
theorem Cells.ext {σ₀ σ σ' : Sto} {a : Nat} {bs : List Nat} {R : Nat → Ob → Prop} (h : Cells σ₀ σ a bs R) (e : Ext σ σ') : Cells σ₀ σ' a bs R :=
  ⟨h.e.trans e, e _ _ h.la, h.nd, h.fr, fun k b hb => by obtain ⟨ob, h1, h2⟩ := h.at_ k b hb; exact ⟨ob, e _ _ h1, h2⟩⟩
theorem nodup_inj {bs : List Nat} (h : bs.Nodup) {j k b : Nat} (hj : bs[j]? = some b) (hk : bs[k]? = some b) : j = k := by
  refine Classical.byContradiction fun hG => ?_
  obtain ⟨h1, e1⟩ := List.getElem?_eq_some_iff.mp hj
  obtain ⟨h2, e2⟩ := List.getElem?_eq_some_iff.mp hk
  refine hG ?_
  clear hG
  have := List.pairwise_iff_getElem.mp h
  rcases Nat.lt_trichotomy j k with q | q | q
  · exact absurd (e1.trans e2.symm) (this j k h1 h2 q)
  · exact q
  · exact absurd (e2.trans e1.symm) (this k j h2 h1 q)
theorem Cells.set {σ₀ σ : Sto} {a b k : Nat} {bs : List Nat} {R R' : Nat → Ob → Prop} {ob : Ob} (h : Cells σ₀ σ a bs R) (hk : bs[k]? = some b) (hR : ∀ j o, j ≠ k → R j o → R' j o) (ho : R' k ob) : Cells σ₀ (σ.set b ob) a bs R' := by
  have hb := h.fr b (List.mem_of_getElem? hk)
  refine ⟨h.e.upd hb.1 _, by rw [set_ne _ _ (Ne.symm hb.2)]; exact h.la, h.nd, h.fr, fun j c hc => ?_⟩
  by_cases q : j = k
  · subst q
    rw [hk] at hc; cases hc
    exact ⟨ob, set_at _ _ _, ho⟩
  · refine Classical.byContradiction fun hG => ?_
    obtain ⟨o, h1, h2⟩ := h.at_ j c hc
    refine hG ?_
    clear hG
    exact ⟨o, by rw [set_ne _ _ (fun e => q (by rw [e] at hc; exact nodup_inj h.nd hc hk))]; exact h1, hR j o q h2⟩
theorem Cells.sub {σ₀ σ : Sto} {a : Nat} {bs : List Nat} {R : Nat → Ob → Prop} {Q : KV} (h : Cells σ₀ σ a bs R) {i : Int} (i0 : 0 ≤ i) (i1 : i < bs.length) (hQ : ∀ b ob, bs[i.toNat]? = some b → σ b = some ob → R i.toNat ob → Q (.ref b) σ) : subW (.ref a) (.int i) σ Q := by
  obtain ⟨k, rfl⟩ := Int.eq_ofNat_of_zero_le i0
  have hk : k < bs.length := by lia
  have e := List.getElem?_eq_getElem hk
  refine Classical.byContradiction fun hG => ?_
  obtain ⟨ob, h1, h2⟩ := h.at_ k _ e
  refine hG ?_
  clear hG
  exact subW_list h.la (x := .ref bs[k]) (by rw [getIdx_nat, List.getElem?_map, e]; rfl) (hQ _ ob e h1 h2)
theorem fresh_comp {F : CallW} {gv : Glo} {B : Loc → Sto → KV → Prop} {it : Sto → Prop} {xs : List String} {ρ : Loc} {σ₀ : Sto} {K : List Val → Sto → Prop} {o : Ob} (hit : ∀ σ', Ext σ₀ σ' → it σ') (hB : ∀ ρ' σ' (K' : KV), newW σ' o K' → B ρ' σ' K')
    (turns : List (List Val)) (bs : List Nat) (σ : Sto) (e : Ext σ₀ σ) (h1 : bs.Nodup) (h2 : ∀ b ∈ bs, σ₀ b = none ∧ σ b = some o)
    (hK : ∀ (bs' : List Nat) σ', Ext σ₀ σ' → bs'.length = bs.length + turns.length → bs'.Nodup → (∀ b ∈ bs', σ₀ b = none ∧ σ' b = some o) → K (bs'.map .ref) σ') : wpComp (fun ρ' σ' K => wpIfs F gv [] ρ' σ' K) B it xs turns (bs.map .ref) ρ σ K := by
  induction turns generalizing bs σ with
  | nil => exact ⟨hit σ e, hK bs σ e rfl h1 h2⟩
  | cons t turns ih =>
    refine ⟨hit σ e, hB _ _ _ fun b hb => ?_⟩
    have := ih (bs ++ [b]) (σ.set b o) (e.trans (.set hb _)) ?_ ?_ fun bs' σ' e' h3 => hK bs' σ' e' (by rw [h3, List.length_append, List.length_singleton, List.length_cons, Nat.add_assoc, Nat.add_comm 1])
    · rw [List.map_append] at this; exact this
    · refine List.nodup_append.mpr ⟨h1, List.pairwise_singleton _ _, fun c hc c' hc' q => ?_⟩
      rw [List.mem_singleton.mp hc'] at q
      rw [q] at hc
      rw [(h2 b hc).2] at hb; cases hb
    · intro c hc
      rcases List.mem_append.mp hc with q | q
      · exact ⟨(h2 c q).1, Ext.set hb _ _ _ (h2 c q).2⟩
      · rw [List.mem_singleton.mp q]; exact ⟨e.new hb, set_at _ _ _⟩
theorem fresh_list {F : CallW} {gv : Glo} {B : Loc → Sto → KV → Prop} {x : String} {ρ : Loc} {σ : Sto} {a : Nat} {vs : List Val} {o : Ob} {Q : KV} (ha : σ a = some (.list vs)) (hl : vs.length ≤ 1000000) (hB : ∀ ρ' σ' (K' : KV), newW σ' o K' → B ρ' σ' K')
    (hQ : ∀ c (bs : List Nat) σ', bs.length = vs.length → Cells σ σ' c bs (fun o' ob => ob = o) → Q (.ref c) σ') :
    onS1 (turnsOf σ (.ref a) 1) fun turns => turns.length ≤ lim ∧ wpComp (fun ρ' σ' K => wpIfs F gv [] ρ' σ' K) B (stay σ (.ref a) 1 turns) [x] turns [] ρ σ fun ys σ' => newW σ' (.list ys) Q := by
  refine w_on (turns_list ha) ⟨by rw [List.length_map]; exact hl, ?_⟩
  refine fresh_comp (σ₀ := σ) (o := o) (fun σ' e => stay_list ha (e _ _ ha)) hB _ [] σ (.refl σ) List.Pairwise.nil (fun o' h => nomatch h) fun bs σ' e h1 h2 h3 c hc => ?_
  rw [List.length_map, List.length_nil, Nat.zero_add] at h1
  refine hQ c bs _ h1 ⟨e.trans (.set hc _), set_at _ _ _, h2, fun b hb => ⟨(h3 b hb).1, fun q => ?_⟩, fun k b hb => ⟨o, Ext.set hc _ _ _ (h3 b (List.mem_of_getElem? hb)).2, rfl⟩⟩
  rw [q] at hb
  rw [(h3 c hb).2] at hc; cases hc
end BP

namespace BP
open PySem
variable {F : Nat → CallW} {g : Glo}
abbrev TabF := Nat → List (Int × Val)
noncomputable def updT {α : Type} (T : Nat → α) (p : Nat) (es : α) : Nat → α := fun j => if j = p then es else T j
theorem updT_at {α : Type} (T : Nat → α) (p : Nat) (es : α) : updT T p es p = es := if_pos rfl
theorem updT_ne {α : Type} (T : Nat → α) {p j : Nat} (es : α) (h : j ≠ p) : updT T p es j = T j := if_neg h
noncomputable def RD (T : TabF) (k : Nat) (ob : Ob) : Prop := ∃ ep, ob = .idict ep (T k)
noncomputable def Came (T T' : TabF) (p : Nat) (room steps : Int) : Prop :=
  (T' = T ∧ ∃ t, dget (T p) room = some (.int t) ∧ steps ≤ t) ∨ (T' = updT T p (dput (T p) room (.int steps)) ∧ ∀ t, dget (T p) room = some (.int t) → t < steps)
theorem come_spec (h : FnOk F g "come" d_come) {d a p : Nat} {σ₀ σ : Sto} {bs : List Nat} {T : TabF} {room steps pl : Int} {Q : KV} {er : String → Sto → Prop} (C : Cells σ₀ σ a bs (RD T)) (hpl : pl = p) (hp : p < bs.length) (hl : (T p).length ≤ 1000000) (hv : ∀ x, dget (T p) room = some x → ∃ t, x = .int t)
    (hQ : ∀ T' σ', Cells σ₀ σ' a bs (RD T') → Came T T' p room steps → (∀ x, bs[p]? ≠ some x → σ' x = σ x) → Q .none σ') : F (d + 1) false "come" [.ref a, .int pl, .int room, .int steps] σ Q er := by
  subst hpl
  have p0 : (0 : Int) ≤ (p : Int) := Int.natCast_nonneg p
  have p1 : (p : Int) < (bs.length : Int) := by lia
  have key : ∀ R, (∀ b ep, bs[p]? = some b → σ b = some (.idict ep (T p)) → R (.ref b) σ) → subW (.ref a) (.int p) σ R := fun R hR => C.sub p0 p1 fun b ob h1 h2 h3 => by
    obtain ⟨ep, rfl⟩ := h3
    exact hR b ep h1 h2
  refine FnOk.go h rfl ?_
  have put : (∀ t, dget (T p) room = some (.int t) → t < steps) → wpSs (F d) (g.at false er) [.assignSub (.sub (.var "reached") (.var "place")) (.var "room") (.var "steps")] (bindT d_come.1 [.ref a, .int p, .int room, .int steps] fun o' => none) σ (nxt (F d) (g.at false er) [] (Kq Q)) := fun hlt => by
    show wpSs (F d) (g.at false er) [.assignSub (.sub (.var "reached") (.var "place")) (.var "room") (.var "steps")] (bindT ["reached", "place", "room", "steps"] [.ref a, .int p, .int room, .int steps] fun o' => none) σ (nxt (F d) (g.at false er) [] (Kq Q))
    refine s_cons ?_; refine s_asub ?_; refine r_s rfl ?_; refine v_as1 ?_; refine r_sub ?_; refine r_s rfl ?_; refine v_sub1 ?_; refine r_s rfl ?_
    refine key _ fun b ep hb hσ => ?_
    refine v_as2 ?_; refine r_s rfl ?_
    refine p_idict hσ hl fun ep' => ?_
    refine v_nxn ?_; refine s_nil2 ?_; refine s_nil ?_; refine k_nxt ?_
    refine hQ _ _ (C.set (R' := RD (updT T p (dput (T p) room (.int steps)))) hb (fun j o q ⟨e, he⟩ => ⟨e, by rw [updT_ne _ _ q]; exact he⟩) ⟨ep', by rw [updT_at]⟩) (.inr ⟨rfl, hlt⟩) fun x hx => set_ne _ _ fun q => hx (q ▸ hb)
  refine s_cons ?_; refine s_if ?_; refine r_bop ?_; refine r_cmp ?_; refine r_s rfl ?_; refine v_cmp ?_; refine r_sub ?_; refine r_s rfl ?_; refine v_sub1 ?_; refine r_s rfl ?_
  refine key _ fun b ep hb hσ => ?_
  refine c_nind hσ ?_
  cases q : dget (T p) room with
  | none =>
    refine v_b ?_; refine v_btp rfl ?_; refine v_ift ?_
    exact put fun t ht => by rw [q] at ht; cases ht
  | some x =>
    obtain ⟨t, rfl⟩ := hv x q
    refine v_b ?_; refine v_btn rfl ?_; refine r_b1 ?_; refine r_cmp ?_; refine r_sub ?_; refine r_sub ?_; refine r_s rfl ?_; refine v_sub1 ?_; refine r_s rfl ?_
    refine key _ fun b ep hb hσ => ?_
    refine v_sub1 ?_; refine r_s rfl ?_
    refine x_idict hσ q ?_
    refine v_cmp ?_; refine r_s rfl ?_; refine v_lt ?_
    refine i_dec (fun q2 => ?_) fun q2 => ?_
    · exact put fun u hu => by rw [q] at hu; cases hu; exact q2
    · refine s_nil2 ?_; refine s_nil ?_; refine k_nxt ?_
      exact hQ T σ C (.inl ⟨rfl, t, q, by lia⟩) fun o' o' => rfl
theorem dget_key {es : List (Int × Val)} {r : Int} {v : Val} (h : dget es r = some v) : r ∈ es.map Prod.fst := by
  unfold dget at h
  obtain ⟨e, h1, _⟩ := Option.map_eq_some_iff.mp h
  have := List.find?_some h1
  exact List.mem_map.mpr ⟨e, List.mem_of_find?_eq_some h1, of_decide_eq_true this⟩
theorem key_dget {es : List (Int × Val)} {r : Int} (h : r ∈ es.map Prod.fst) : ∃ v, dget es r = some v := by
  obtain ⟨e, h1, h2⟩ := List.mem_map.mp h
  cases q : dget es r with
  | some v => exact ⟨v, rfl⟩
  | none =>
    have := List.find?_eq_none.mp (Option.map_eq_none_iff.mp q) e h1
    exact absurd (decide_eq_true h2) this
theorem dput_keys {es : List (Int × Val)} {k : Int} {x : Val} : (dput es k x).map Prod.fst = if k ∈ es.map Prod.fst then es.map Prod.fst else es.map Prod.fst ++ [k] := by
  unfold dput
  cases q : dget es k with
  | some v =>
    rw [if_pos (dget_key q)]
    show (es.map _).map _ = _
    rw [List.map_map]
    refine List.map_congr_left fun e o' => ?_
    by_cases q : e.1 = k
    · show (if e.1 = k then (e.1, x) else e).1 = e.1
      rw [if_pos q]
    · show (if e.1 = k then (e.1, x) else e).1 = e.1
      rw [if_neg q]
  | none =>
    rw [if_neg fun h => by obtain ⟨v, hv⟩ := key_dget h; rw [q] at hv; cases hv]
    show (es ++ [(k, x)]).map _ = _
    rw [List.map_append]; rfl
structure Tab (G : Gr) (many : Int) (T : TabF) : Prop where
  nd : ∀ k, ((T k).map Prod.fst).Nodup
  rm : ∀ k, ∀ r ∈ (T k).map Prod.fst, 0 ≤ r ∧ r < many
  snd : ∀ k r v, dget (T k) r = some v → ∃ s : Nat, v = .int s ∧ G.Rch s (k, r)
noncomputable def LeT (T T' : TabF) : Prop := ∀ k r (s : Nat), dget (T k) r = some (.int s) → ∃ t : Nat, dget (T' k) r = some (.int t) ∧ s ≤ t
theorem LeT.trans {T T' T'' : TabF} (h : LeT T T') (h' : LeT T' T'') : LeT T T'' := fun k r s hs => by
  obtain ⟨t, h1, h2⟩ := h k r s hs
  obtain ⟨u, h3, h4⟩ := h' k r t h1
  exact ⟨u, h3, Nat.le_trans h2 h4⟩
section
variable {G : Gr} {many : Int} {T T' : TabF} {p s : Nat} {room : Int}
theorem Tab.len (h : Tab G many T) (h8 : many ≤ 8) (k : Nat) : (T k).length ≤ 8 := by
  have := few (n := 8) (h.nd k) fun r hr => by have := h.rm k r hr; lia
  rw [List.length_map] at this; exact this
theorem Tab.int (h : Tab G many T) {k : Nat} {r : Int} : ∀ x, dget (T k) r = some x → ∃ t, x = .int t := fun x hx => by
  obtain ⟨s, h1, _⟩ := h.snd k r x hx
  exact ⟨s, h1⟩
theorem Tab.came (h : Tab G many T) (c : Came T T' p room s) (hr : G.Rch s (p, room)) (r0 : 0 ≤ room) (r1 : room < many) : Tab G many T' ∧ LeT T T' ∧ (∃ t : Nat, dget (T' p) room = some (.int t) ∧ s ≤ t) ∧ ∀ j, j ≠ p → T' j = T j := by
  rcases c with ⟨rfl, t, h1, h2⟩ | ⟨rfl, h1⟩
  · obtain ⟨u, h3, h4⟩ := h.snd p room _ h1
    cases h3
    exact ⟨h, fun k r s hs => ⟨s, hs, Nat.le_refl _⟩, ⟨u, h1, by lia⟩, fun o' o' => rfl⟩
  · refine ⟨⟨fun k => ?_, fun k r hk => ?_, fun k r v hv => ?_⟩, fun k r u hu => ?_, ⟨s, by rw [updT_at, dget_dput, if_pos rfl], Nat.le_refl _⟩, fun j hj => updT_ne _ _ hj⟩
    · by_cases q : k = p
      · rw [q, updT_at, dput_keys]
        by_cases q2 : room ∈ (T p).map Prod.fst
        · rw [if_pos q2]; exact h.nd p
        · rw [if_neg q2]
          exact List.nodup_append.mpr ⟨h.nd p, List.pairwise_singleton _ _, fun a ha b hb e => q2 (by rw [List.mem_singleton.mp hb] at e; exact e ▸ ha)⟩
      · rw [updT_ne _ _ q]; exact h.nd k
    · by_cases q : k = p
      · rw [q, updT_at, dput_keys] at hk
        by_cases q2 : room ∈ (T p).map Prod.fst
        · rw [if_pos q2] at hk; exact h.rm p r hk
        · rw [if_neg q2] at hk
          rcases List.mem_append.mp hk with q3 | q3
          · exact h.rm p r q3
          · rw [List.mem_singleton.mp q3]; exact ⟨r0, r1⟩
      · rw [updT_ne _ _ q] at hk; exact h.rm k r hk
    · by_cases q : k = p
      · rw [q, updT_at, dget_dput] at hv
        by_cases q2 : r = room
        · rw [if_pos q2] at hv; cases hv; rw [q, q2]; exact ⟨s, rfl, hr⟩
        · rw [if_neg q2] at hv; rw [q]; exact h.snd p r v hv
      · rw [updT_ne _ _ q] at hv; exact h.snd k r v hv
    · by_cases q : k = p
      · rw [q, updT_at, dget_dput]
        by_cases q2 : r = room
        · rw [q, q2] at hu
          rw [if_pos q2]; exact ⟨s, rfl, by have := h1 _ hu; lia⟩
        · rw [if_neg q2, ← q]; exact ⟨u, hu, Nat.le_refl _⟩
      · rw [updT_ne _ _ q]; exact ⟨u, hu, Nat.le_refl _⟩
noncomputable def Done (G : Gr) (T : TabF) (x : Nd) (s : Nat) : Prop := G.OkW x ∧ G.OkE x ∧ ∀ y, G.Succ x y → ∃ t : Nat, dget (T y.1.toNat) y.2 = some (.int t) ∧ s + 1 ≤ t
theorem Done.le {x : Nd} (h : Done G T x s) (l : LeT T T') : Done G T' x s := ⟨h.1, h.2.1, fun y hy => by
  obtain ⟨t, h1, h2⟩ := h.2.2 y hy
  obtain ⟨u, h3, h4⟩ := l _ _ _ h1
  exact ⟨u, h3, Nat.le_trans h2 h4⟩⟩
theorem lead_top {m : Nat} (hW : G.WF many) (h : Tab G many T) (hs : ∀ r ∈ G.G, ∃ q t, wayOf G.S (G.look r) = some q ∧ dget (T q.toNat) r = some (.int t)) (hd : ∀ (k : Nat) r (s : Nat), k < G.R.length → dget (T k) r = some (.int s) → Done G T (k, r) s ∧ s ≤ m) (h0 : m = 0 ∨ ∃ x, G.Rch m x) : G.Good ∧ G.Top m := by
  have key : ∀ {n x}, G.Rch n x → ∃ t : Nat, dget (T x.1.toNat) x.2 = some (.int t) ∧ n ≤ t ∧ Done G T x t ∧ t ≤ m := fun {n x} hx => by
    have hb := hW.rch hx
    have : ∃ t : Nat, dget (T x.1.toNat) x.2 = some (.int t) ∧ n ≤ t := by
      revert hx hb
      refine fun hx o' => Gr.rch_ind (P := fun n x => ∃ t : Nat, dget (T x.1.toNat) x.2 = some (.int t) ∧ n ≤ t) (fun s hs' => ?_) (fun n x y hx hy => ?_) hx
      · obtain ⟨q, t, h1, h2⟩ := hs _ hs'.1
        rw [hs'.2] at h1; cases h1
        obtain ⟨u, h3, _⟩ := h.snd _ _ _ h2
        cases h3
        exact ⟨u, h2, Nat.zero_le _⟩
      · obtain ⟨t, h1, h2⟩ := hx
        obtain ⟨u, _, h3⟩ := h.snd _ _ _ h1
        obtain ⟨d, ws, g1, _⟩ := id hy
        have hk : x.1.toNat < G.R.length := (List.getElem?_eq_some_iff.mp g1).1
        obtain ⟨v, g2, g3⟩ := (hd _ _ _ hk h1).1.2.2 y hy
        exact ⟨v, g2, by lia⟩
    obtain ⟨t, h1, h2⟩ := this
    have := hd x.1.toNat x.2 t ((Int.toNat_lt hb.1).mpr hb.2.1) h1
    rw [show ((x.1.toNat : Int), x.2) = x by rw [Int.toNat_of_nonneg hb.1]] at this
    exact ⟨t, h1, h2, this.1, this.2⟩
  have hS : G.GoodS := fun r hr e => by
    obtain ⟨q, t, h1, _⟩ := hs r hr
    rw [h1] at e; cases e
  refine ⟨⟨⟨hS, fun n x hx => ?_⟩, fun n x hx => ?_⟩, ?_, fun n x hx => ?_⟩
  · obtain ⟨t, _, _, h3, _⟩ := key hx; exact h3.1
  · obtain ⟨t, _, _, h3, _⟩ := key hx; exact h3.2.1
  · rcases h0 with rfl | h0
    · obtain ⟨r, hr⟩ := List.exists_mem_of_ne_nil _ hW.g0
      obtain ⟨q, t, h1, _⟩ := hs r hr
      exact ⟨(q, r), (q, r), ⟨hr, h1⟩, rfl⟩
    · exact h0
  · obtain ⟨t, _, h2, _, h3⟩ := key hx; lia
end
end BP

namespace BP
open PySem
variable {F : Nat → CallW} {g : Glo}
theorem has_at {α : Type} {as : List α} {f : α → Dat} {σ : Sto} {v : Val} {k : Nat} {x : α} (h : Has σ (.list (as.map f)) v) (hk : as[k]? = some x) : ∃ a xs y, v = .ref a ∧ σ a = some (.list xs) ∧ xs[k]? = some y ∧ Has σ (f x) y := by
  simp only [Has] at h
  refine Classical.byContradiction fun hG => ?_
  obtain ⟨a, xs, h1, ha, hx⟩ := h
  refine hG ?_
  clear hG
  obtain ⟨y, h2, h3⟩ := hasL_get hx (i := k) (d := f x) (by rw [List.getElem?_map, hk]; rfl)
  exact ⟨a, xs, y, h1, ha, h2, h3⟩
theorem sub_has {α : Type} {as : List α} {f : α → Dat} {σ τ : Sto} {v : Val} {k : Int} {x : α} {Q : KV} (h : Has σ (.list (as.map f)) v) (e : Ext σ τ) (k0 : 0 ≤ k) (hk : as[k.toNat]? = some x) (hQ : ∀ y, Has σ (f x) y → Q y τ) : subW v (.int k) τ Q := by
  refine Classical.byContradiction fun hG => ?_
  obtain ⟨j, rfl⟩ := Int.eq_ofNat_of_zero_le k0
  obtain ⟨a, xs, y, rfl, ha, h2, h3⟩ := has_at h hk
  refine hG ?_
  clear hG
  exact subW_list (e _ _ ha) (x := y) (by rw [getIdx_nat]; exact h2) (hQ y h3)
theorem getD_some {α : Type} {as : List α} {k : Nat} {d : α} (h : k < as.length) : as[k]? = some (as.getD k d) := by
  rw [List.getD_eq_getElem?_getD, List.getElem?_eq_getElem h]; rfl
theorem sub_deed {σ τ : Sto} {G : Gr} {many : Int} {v : Val} {k : Nat} {d : Int} {ws : List Way} {Q : KV} (W : G.WF many) (h : Has σ (.list (G.D.map deedD)) v) (e : Ext σ τ) (hr : G.R[k]? = some (some d, ws)) (hQ : ∀ w, Has σ (deedD (G.D.getD d.toNat [])) w → Q w τ) : subW v (.int d) τ Q := by
  have hd := W.deed hr
  exact sub_has (x := G.D.getD d.toNat []) h e hd.1 (getD_some (by lia)) hQ
theorem sub_led {σ τ : Sto} {G : Gr} {many : Int} {v : Val} {k : Nat} {d r : Int} {ws : List Way} {Q : KV} (W : G.WF many) (h : Has σ (deedD (G.D.getD d.toNat [])) v) (e : Ext σ τ) (hr : G.R[k]? = some (some d, ws)) (r0 : 0 ≤ r) (r1 : r < many) (hQ : ∀ a, σ a = some (.list ((G.led d r).map .int)) → Q (.ref a) τ) : subW v (.int r) τ Q := by
  have hd2 := (W.deeds _ (W.deedAt hr)).1
  refine sub_has (x := G.led d r) h e r0 (getD_some (by lia)) fun x hx => ?_
  refine Classical.byContradiction fun hG => ?_
  obtain ⟨a, ha⟩ := ints_at hx
  refine hG ?_
  clear hG
  exact hQ a ha
theorem sub_look {σ : Sto} {G : Gr} {many r : Int} {a : Nat} {Q : KV} (W : G.WF many) (h : σ a = some (.list (G.L.map .int))) (r0 : 0 ≤ r) (r1 : r < many) (hQ : Q (.int (G.look r)) σ) : subW (.ref a) (.int r) σ Q := by
  have := W.looks
  refine subW_ints h r0 (by lia) fun i o' hi => ?_
  rw [Gr.look, List.getD_eq_getElem?_getD, hi] at hQ
  exact hQ
theorem sub_row {σ τ : Sto} {R : List Row} {v : Val} {k : Nat} {row : Row} {Q : KV} (h : Has σ (.list (R.map dRow)) v) (e : Ext σ τ) (hr : R[k]? = some row) (hQ : ∀ b y, σ b = some (.tup [deedV row.1, y]) → Has σ (dWays row.2) y → Q (.ref b) τ) : subW v (.int k) τ Q := by
  refine sub_has h e (Int.natCast_nonneg k) hr fun x hx => ?_
  refine Classical.byContradiction fun hG => ?_
  obtain ⟨b, y, h1, h3⟩ := has_row hx
  refine hG ?_
  clear hG
  exact hQ b y h1 h3
structure SprN (ρ : Loc) (vh vp : Val) (a p : Nat) (row : Row) (y : Val) : Prop where
  r1 : ρ "house" = some vh
  r2 : ρ "plan" = some vp
  r3 : ρ "reached" = some (.ref a)
  r4 : ρ "place" = some (.int p)
  r5 : ρ "deed" = some (deedV row.1)
  r6 : ρ "ways" = some y
structure SprT (G : Gr) (many : Int) (σ₀ σ1 σ : Sto) (a p b : Nat) (bs : List Nat) (T T' : TabF) : Prop where
  C : Cells σ₀ σ a bs (RD T')
  t : Tab G many T'
  le : LeT T T'
  keep : ∀ k, k ≤ p → T' k = T k
  st : σ b = σ1 b
theorem spread_spec (hwo : FnOk F g "way_of" d_way_of) (hco : FnOk F g "come" d_come) (h : FnOk F g "spread" d_spread) {G : Gr} {many : Int} (W : G.WF many) {d a p : Nat} {vh vp : Val} {σ₀ σ : Sto} {bs : List Nat} {T : TabF} {Q : KV} {er : String → Sto → Prop}
    (hv : HouseAt σ₀ vh G.L G.D G.W) (hp : Has σ₀ (dPlan G.S G.R) vp) (C : Cells σ₀ σ a bs (RD T)) (hl : bs.length = G.R.length) (hT : Tab G many T) (hpl : p < G.R.length)
    (hQ : ∀ b T' σ', Cells σ₀ σ' a bs (RD T') → Tab G many T' → LeT T T' → (∀ k, k ≤ p → T' k = T k) → (b = true → ∀ r (s : Nat), dget (T p) r = some (.int s) → Done G T' (p, r) s) → (b = false → ¬ G.Good) → Q (.bool b) σ') : F (d + 2) false "spread" [vh, vp, .ref a, .int p] σ Q er := by
  refine Classical.byContradiction fun hG => ?_
  obtain ⟨ap, x, y, h1, h2, h3⟩ := has_tup2 hp
  refine hG ?_
  clear hG
  obtain ⟨row, hrow⟩ : ∃ row, G.R[p]? = some row := ⟨_, List.getElem?_eq_getElem hpl⟩
  have p0 : (0 : Int) ≤ (p : Int) := Int.natCast_nonneg p
  have p1 : (p : Int) < (bs.length : Int) := by lia
  refine FnOk.go h rfl ?_
  refine s_cons ?_; refine s_unpack rfl ?_; refine r_sub ?_; refine r_sub ?_; refine r_s rfl ?_; refine v_sub1 ?_; refine r_s rfl ?_
  refine sub1 (C.e _ _ h1) ?_
  refine v_sub1 ?_; refine r_s rfl ?_
  refine sub_row h3 C.e hrow fun q yw hq hyw => ?_
  refine u_seq (C.e _ _ hq) rfl ?_
  refine s_nxt ?_; refine s_cons ?_; refine s_for rfl ?_; refine r_sub ?_; refine r_s rfl ?_; refine v_sub1 ?_; refine r_s rfl ?_
  refine C.sub p0 p1 fun b ob hb hob hR => ?_
  obtain ⟨ep, rfl⟩ := hR
  rw [Int.toNat_natCast] at hb hob
  refine w_on (turns_idict hob) ?_
  have stay0 : ∀ σ', σ' b = σ b → stay σ (.ref b) 1 (((T p).map fun e => Val.int e.1).map fun v => [v]) σ' := fun σ' e => ⟨fun c q => by cases q; exact e, turns_idict (e.trans hob)⟩
  rw [show ((T p).map fun e => Val.int e.1) = ((T p).map Prod.fst).map Val.int by rw [List.map_map]; rfl] at stay0 ⊢
  refine for_rel (one1 fun (i : Int) v => v = .int i) (fun ks ρ' σ' => SprN ρ' vh (.ref ap) a p row yw ∧ ∃ T', SprT G many σ₀ σ σ' a p b bs T T' ∧ (∀ r ∈ ks, r ∈ (T p).map Prod.fst) ∧ ∀ r (s : Nat), dget (T p) r = some (.int s) → r ∈ ks ∨ Done G T' (p, r) s) ?_ ?_ ?_ _ _ _ σ (All2.turns (All2.of fun o' o' => rfl))
    ⟨⟨by (repeat (first | with_reducible exact l_here | assumption | refine l_there rfl ?_ | with_reducible refine l_bind ?_ | with_reducible refine l_bind0 ?_)), by (repeat (first | with_reducible exact l_here | assumption | refine l_there rfl ?_ | with_reducible refine l_bind ?_ | with_reducible refine l_bind0 ?_)), by (repeat (first | with_reducible exact l_here | assumption | refine l_there rfl ?_ | with_reducible refine l_bind ?_ | with_reducible refine l_bind0 ?_)), by (repeat (first | with_reducible exact l_here | assumption | refine l_there rfl ?_ | with_reducible refine l_bind ?_ | with_reducible refine l_bind0 ?_)), by (repeat (first | with_reducible exact l_here | assumption | refine l_there rfl ?_ | with_reducible refine l_bind ?_ | with_reducible refine l_bind0 ?_)), by (repeat (first | with_reducible exact l_here | assumption | refine l_there rfl ?_ | with_reducible refine l_bind ?_ | with_reducible refine l_bind0 ?_))⟩, T, ⟨C, hT, fun k r s hs => ⟨s, hs, Nat.le_refl _⟩, fun o' o' => rfl, rfl⟩, fun o' h => h, fun r s hs => .inl (dget_key hs)⟩
  · rintro ks ρ' σ' ⟨_, T', I, _⟩; exact stay0 σ' I.st
  · intro ρ' σ' H09
    refine Classical.byContradiction fun hG => ?_
    obtain ⟨_, T', I, _, hd⟩ := H09
    refine hG ?_
    clear hG
    refine s_nxt ?_; refine s_cons ?_; refine s_ret ?_; refine r_s rfl ?_; refine v_ret ?_; refine s_out ?_; refine k_ret ?_
    exact hQ true T' σ' I.C I.t I.le I.keep (fun o' r s hs => (hd r s hs).resolve_left (fun h => nomatch h)) (fun h => nomatch h)
  · intro r ks t ρ' σ' K H09 H19 hn hr
    refine Classical.byContradiction fun hG => ?_
    obtain ⟨v, rfl, rfl⟩ := H09
    obtain ⟨⟨r1, r2, r3, r4, r5, r6⟩, T', I, hks, hd⟩ := H19
    obtain ⟨v, hrv⟩ := key_dget (hks r (.head _))
    obtain ⟨s, rfl, hrch⟩ := hT.snd p r v hrv
    refine hG ?_
    clear hG
    have hrm := hT.rm p r (hks r (.head _))
    have fail : ¬ (G.OkW (p, r) ∧ G.OkE (p, r)) → ∀ ρ'' σ'' T'', SprT G many σ₀ σ σ'' a p b bs T T'' → K (.ret (.bool false)) ρ'' σ'' := fun hno ρ'' σ'' T'' I => hr _ _ _ (hQ false T'' σ'' I.C I.t I.le I.keep (fun h => nomatch h) fun o' hG => hno ⟨hG.1.2 _ _ hrch, hG.2 _ _ hrch⟩)
    have go : Done G T' (p, r) s → ∀ ρ'', SprN ρ'' vh (.ref ap) a p row yw → K .next ρ'' σ' := fun hd' ρ'' N => hn _ _ ⟨N, T', I, fun x hx => hks x (.tail _ hx), fun x u hu => (hd x u hu).elim (fun h => (List.mem_cons.mp h).elim (fun e => by rw [e] at hu ⊢; rw [hrv] at hu; cases hu; exact .inr hd') .inl) .inr⟩
    obtain ⟨dd, ws⟩ := row
    cases dd with
    | none =>
      have r5 : ρ' "deed" = some .none := r5
      refine s_cons ?_; refine s_if ?_; refine r_bop ?_; refine r_cmp ?_; refine r_var (by assumption) ?_; refine v_cmp ?_; refine r_s rfl ?_; refine v_is0 ?_; refine v_bft ?_; refine r_b1 ?_; refine r_cmp ?_; refine r_s rfl ?_; refine v_cmp ?_; refine r_attr ?_; refine r_var (by assumption) ?_
      refine hv.wished I.C.e fun aw haw => ?_
      refine c_nin (I.C.e _ _ haw) ?_
      by_cases q : r ∈ G.W
      · rw [decide_eq_true q]
        refine v_b ?_; refine v_ifnn rfl ?_; refine t_if ?_; refine r_cmp ?_; refine r_var (by assumption) ?_; refine v_cmp ?_; refine r_s rfl ?_; refine v_ni0 ?_; refine v_iffn ?_; refine s_nil ?_
        have no : ∀ {d' ws'}, G.R[((p : Int), r).1.toNat]? = some (some d', ws') → False := fun h' => by
          have e := hrow.symm.trans h'
          cases e
        exact go ⟨fun d' ws' h' => (no h').elim, fun o' o' => q, fun y' hy' => by
          refine Classical.byContradiction fun hG => ?_
          obtain ⟨d', ws', h', _⟩ := hy'
          refine hG ?_
          clear hG
          exact (no h').elim⟩ _ ⟨by (repeat (first | with_reducible exact l_here | assumption | refine l_there rfl ?_ | with_reducible refine l_bind ?_ | with_reducible refine l_bind0 ?_)), by (repeat (first | with_reducible exact l_here | assumption | refine l_there rfl ?_ | with_reducible refine l_bind ?_ | with_reducible refine l_bind0 ?_)), by (repeat (first | with_reducible exact l_here | assumption | refine l_there rfl ?_ | with_reducible refine l_bind ?_ | with_reducible refine l_bind0 ?_)), by (repeat (first | with_reducible exact l_here | assumption | refine l_there rfl ?_ | with_reducible refine l_bind ?_ | with_reducible refine l_bind0 ?_)), by (repeat (first | with_reducible exact l_here | assumption | refine l_there rfl ?_ | with_reducible refine l_bind ?_ | with_reducible refine l_bind0 ?_)), by (repeat (first | with_reducible exact l_here | assumption | refine l_there rfl ?_ | with_reducible refine l_bind ?_ | with_reducible refine l_bind0 ?_))⟩
      · rw [decide_eq_false q]
        refine v_b ?_; refine v_ifp rfl ?_; refine t_ret ?_; refine r_s rfl ?_; refine v_ret ?_; refine s_out ?_
        exact fail (fun h => q (h.2 _ hrow)) _ _ T' I
    | some dd =>
      have r5 : ρ' "deed" = some (.int dd) := r5
      have hled := W.led hrow hrm.1 hrm.2
      have hdg := (W.deed hrow).2.2
      refine s_cons ?_; refine s_if ?_; refine r_bop ?_; refine r_cmp ?_; refine r_var (by assumption) ?_; refine v_cmp ?_; refine r_s rfl ?_; refine v_isi ?_; refine v_bff ?_; refine v_iffn ?_; refine t_if ?_; refine r_cmp ?_; refine r_var (by assumption) ?_; refine v_cmp ?_; refine r_s rfl ?_; refine v_nii ?_; refine v_ift ?_; refine s_cons ?_; refine s_for rfl ?_; refine r_sub ?_; refine r_sub ?_; refine r_attr ?_; refine r_var (by assumption) ?_
      refine hv.deeds I.C.e fun w hw => ?_
      refine v_sub1 ?_; refine r_var (by assumption) ?_
      refine sub_deed W hw I.C.e hrow fun w2 hw2 => ?_
      refine v_sub1 ?_; refine r_s rfl ?_
      refine sub_led W hw2 I.C.e hrow hrm.1 hrm.2 fun ao hao => ?_
      have hao1 := I.C.e _ _ hao
      refine w_on (turns_list hao1) ?_
      have same : ∀ {d' ws'}, G.R[((p : Int), r).1.toNat]? = some (some d', ws') → d' = dd ∧ ws' = ws := fun h' => by
        have e := hrow.symm.trans h'
        cases e; exact ⟨rfl, rfl⟩
      refine for_rel (one1 fun (i : Int) v => v = .int i) (fun os ρ'' σ'' => SprN ρ'' vh (.ref ap) a p (some dd, ws) yw ∧ ρ'' "room" = some (.int r) ∧ ∃ T'', SprT G many σ₀ σ σ'' a p b bs T T'' ∧ LeT T' T'' ∧ (∀ o ∈ os, o ∈ G.led dd r) ∧ ∀ o ∈ G.led dd r, o ∈ os ∨ ∃ q, wayOf ws (G.look o) = some q ∧ ∃ t : Nat, dget (T'' q.toNat) o = some (.int t) ∧ s + 1 ≤ t) ?_ ?_ ?_ _ _ _ σ' (All2.turns (All2.of fun o' o' => rfl))
        ⟨⟨by (repeat (first | with_reducible exact l_here | assumption | refine l_there rfl ?_ | with_reducible refine l_bind ?_ | with_reducible refine l_bind0 ?_)), by (repeat (first | with_reducible exact l_here | assumption | refine l_there rfl ?_ | with_reducible refine l_bind ?_ | with_reducible refine l_bind0 ?_)), by (repeat (first | with_reducible exact l_here | assumption | refine l_there rfl ?_ | with_reducible refine l_bind ?_ | with_reducible refine l_bind0 ?_)), by (repeat (first | with_reducible exact l_here | assumption | refine l_there rfl ?_ | with_reducible refine l_bind ?_ | with_reducible refine l_bind0 ?_)), by (repeat (first | with_reducible exact l_here | assumption | refine l_there rfl ?_ | with_reducible refine l_bind ?_ | with_reducible refine l_bind0 ?_)), by (repeat (first | with_reducible exact l_here | assumption | refine l_there rfl ?_ | with_reducible refine l_bind ?_ | with_reducible refine l_bind0 ?_))⟩, by (repeat (first | with_reducible exact l_here | assumption | refine l_there rfl ?_ | with_reducible refine l_bind ?_ | with_reducible refine l_bind0 ?_)), T', I, fun k r s hs => ⟨s, hs, Nat.le_refl _⟩, fun o' h => h, fun o ho => .inl ho⟩
      · rintro os ρ'' σ'' ⟨_, _, T'', I', _⟩; exact stay_list hao1 (I'.C.e _ _ hao)
      · intro ρ'' σ'' H09
        refine Classical.byContradiction fun hG => ?_
        obtain ⟨N, hroom, T'', I', le', _, hdo⟩ := H09
        refine hG ?_
        clear hG
        refine s_nxt ?_; refine s_nil2 ?_; refine s_nil ?_
        have hdo := fun o ho => (hdo o ho).resolve_left (fun h => nomatch h)
        refine hn _ _ ⟨N, T'', I', fun x hx => hks x (.tail _ hx), fun x u hu => (hd x u hu).elim (fun h => (List.mem_cons.mp h).elim (fun e => by
          rw [e] at hu ⊢; rw [hrv] at hu; cases hu
          refine .inr ⟨fun d' ws' h' o ho e => ?_, fun ws' h' => ?_, fun y' hy' => ?_⟩
          · refine Classical.byContradiction fun hG => ?_
            obtain ⟨rfl, rfl⟩ := same h'
            obtain ⟨q, h4, _⟩ := hdo o ho
            refine hG ?_
            clear hG
            rw [h4] at e; cases e
          · have e := hrow.symm.trans h'
            cases e
          · refine Classical.byContradiction fun hG => ?_
            obtain ⟨d', ws', h', h5, h6⟩ := hy'
            obtain ⟨rfl, rfl⟩ := same h'
            obtain ⟨q, h7, t, h8, h9⟩ := hdo _ h5
            refine hG ?_
            clear hG
            rw [h6] at h7; cases h7
            exact ⟨t, h8, h9⟩) .inl) fun h => .inr (h.le le')⟩
      · intro o os t ρ'' σ'' K' H09 H19 hn' hr'
        refine Classical.byContradiction fun hG => ?_
        obtain ⟨v, rfl, rfl⟩ := H09
        obtain ⟨⟨r1, r2, r3, r4, r5, r6⟩, hroom, T'', I', le', hos, hdo⟩ := H19
        refine hG ?_
        clear hG
        have ho := hos o (.head _)
        have hom := hled.2 o ho
        refine s_cons ?_; refine s_assign ?_; refine r_calln (FnOk.cf (by assumption)) ?_; refine r_cons ?_; refine r_var (by assumption) ?_; refine v_cons ?_; refine r_cons ?_; refine r_sub ?_; refine r_attr ?_; refine r_var (by assumption) ?_
        refine hv.looks I'.C.e fun al hal => ?_
        refine v_sub1 ?_; refine r_s rfl ?_
        refine sub_look W (I'.C.e _ _ hal) hom.1 hom.2 ?_
        refine way_of_spec hwo (hyw.ext I'.C.e) (fun hq => ?_) fun k hq => ?_
        · refine v_asgn ?_; refine t_if ?_; refine r_cmp ?_; refine r_s rfl ?_; refine v_cmp ?_; refine r_s rfl ?_; refine v_is0 ?_; refine v_ift ?_; refine t_ret ?_; refine r_s rfl ?_; refine v_ret ?_; refine s_out ?_
          exact hr' _ _ _ (fail (fun h => h.1 _ _ hrow o ho hq) _ _ T'' I')
        · have hk := wayOf_good hdg hq
          obtain ⟨k, rfl⟩ := Int.eq_ofNat_of_zero_le (show 0 ≤ k by lia)
          refine v_asgn ?_; refine t_if ?_; refine r_cmp ?_; refine r_s rfl ?_; refine v_cmp ?_; refine r_s rfl ?_; refine v_isi ?_; refine v_iffn ?_; refine t_expr ?_; refine r_calln (FnOk.cf (by assumption)) ?_; refine r_cons ?_; refine r_var (by assumption) ?_; refine v_cons ?_; refine r_cons ?_; refine r_s rfl ?_; refine v_cons ?_; refine r_cons ?_; refine r_s rfl ?_; refine v_cons ?_; refine r_cons ?_; refine r_bin ?_; refine r_sub ?_; refine r_sub ?_; refine r_var (by assumption) ?_; refine v_sub1 ?_; refine r_var (by assumption) ?_
          refine I'.C.sub p0 p1 fun b' ob' hb' hob' hR' => ?_
          obtain ⟨ep', rfl⟩ := hR'
          rw [Int.toNat_natCast, I'.keep p (Nat.le_refl _)] at hob'
          refine v_sub1 ?_; refine r_var (by assumption) ?_
          refine x_idict hob' hrv ?_
          refine v_bin ?_; refine r_s rfl ?_; refine v_add ?_; refine v_cons ?_; refine r_ss rfl ?_; refine v_push ?_; refine v_push ?_; refine v_push ?_; refine v_push ?_
          refine come_spec hco I'.C rfl (by lia) (Nat.le_trans (I'.t.len W.m8 k) (by decide)) I'.t.int fun T3 σ3 C3 came fr3 => ?_
          have hk2 : k < bs.length := by lia
          refine Classical.byContradiction fun hG => ?_
          obtain ⟨t3, l3, ⟨u, h4, h5⟩, o3⟩ := I'.t.came came (Gr.rch_step hrch ⟨dd, ws, hrow, ho, hq⟩) hom.1 hom.2
          refine hG ?_
          clear hG
          refine v_exprn ?_; refine s_nil ?_
          refine hn' _ _ ⟨⟨by (repeat (first | with_reducible exact l_here | assumption | refine l_there rfl ?_ | with_reducible refine l_bind ?_ | with_reducible refine l_bind0 ?_)), by (repeat (first | with_reducible exact l_here | assumption | refine l_there rfl ?_ | with_reducible refine l_bind ?_ | with_reducible refine l_bind0 ?_)), by (repeat (first | with_reducible exact l_here | assumption | refine l_there rfl ?_ | with_reducible refine l_bind ?_ | with_reducible refine l_bind0 ?_)), by (repeat (first | with_reducible exact l_here | assumption | refine l_there rfl ?_ | with_reducible refine l_bind ?_ | with_reducible refine l_bind0 ?_)), by (repeat (first | with_reducible exact l_here | assumption | refine l_there rfl ?_ | with_reducible refine l_bind ?_ | with_reducible refine l_bind0 ?_)), by (repeat (first | with_reducible exact l_here | assumption | refine l_there rfl ?_ | with_reducible refine l_bind ?_ | with_reducible refine l_bind0 ?_))⟩, by (repeat (first | with_reducible exact l_here | assumption | refine l_there rfl ?_ | with_reducible refine l_bind ?_ | with_reducible refine l_bind0 ?_)), T3, ⟨C3, t3, I'.le.trans l3, fun j hj => (o3 j (by lia)).trans (I'.keep j hj), (fr3 b fun e => ?_).trans I'.st⟩, le'.trans l3, fun x hx => hos x (.tail _ hx), fun x hx => (hdo x hx).elim (fun h => (List.mem_cons.mp h).elim (fun e => .inr ⟨k, by rw [e]; exact hq, u, by rw [e]; exact h4, h5⟩) .inl) fun ⟨q, h6, u', h7, h8⟩ => ?_⟩
          · have := nodup_inj C.nd hb e
            lia
          · refine Classical.byContradiction fun hG => ?_
            obtain ⟨u2, h9, h10⟩ := l3 _ _ _ h7
            refine hG ?_
            clear hG
            exact .inr ⟨q, h6, u2, h9, Nat.le_trans h8 h10⟩
end BP

namespace BP
open PySem
theorem imax (m s : Nat) : max (m : Int) (s : Int) = ((max m s : Nat) : Int) := by
  rcases Nat.le_total m s with q | q
  · rw [Nat.max_eq_right q, Int.max_eq_right (Int.ofNat_le.mpr q)]
  · rw [Nat.max_eq_left q, Int.max_eq_left (Int.ofNat_le.mpr q)]
variable {F : Nat → CallW} {g : Glo}
structure Env (F : Nat → CallW) (g : Glo) : Prop where
  g1 : g.gv "MOST_ROOMS" = some (.int 8)
  g2 : g.gv "MOST_DEEDS" = some (.int 5)
  g3 : g.gv "MOST_LOOK" = some (.int 9)
  g4 : g.gv "MOST_ROWS" = some (.int 300)
  x0 : g.ex "HouseError" = true
  xs : ∀ c ∈ ["BadHouse", "BadGuess", "BadDeed", "BadPlan", "BadSteps", "NoWay", "BadText"], g.ex c = true
  f0 : FnOk F g "is_whole" d_is_whole
  f1 : FnOk F g "is_rising" d_is_rising
  f2 : FnOk F g "is_deed" d_is_deed
  f3 : ClsOk F g "House" d_House_init
  f4 : FnOk F g "own_deed" d_own_deed
  f5 : FnOk F g "need_guess" d_need_guess
  f6 : FnOk F g "are_ways" d_are_ways
  f7 : FnOk F g "is_row" d_is_row
  f8 : FnOk F g "is_plan" d_is_plan
  f9 : FnOk F g "need_plan" d_need_plan
  fa : FnOk F g "way_of" d_way_of
  fb : FnOk F g "come" d_come
  fc : FnOk F g "spread" d_spread
  fd : FnOk F g "leads" d_leads
  l0 : FnOk F g "_law_cell" d_law_cell
  l1 : FnOk F g "_law_int" d_law_int
  l2 : FnOk F g "_law_to" d_law_to
  l3 : FnOk F g "_law_looks" d_law_looks
  l4 : FnOk F g "_law_house" d_law_house
  l5 : FnOk F g "_law_guess" d_law_guess
  l6 : FnOk F g "_law_led" d_law_led
  l7 : FnOk F g "_law_ways" d_law_ways
  l8 : FnOk F g "_law_rows" d_law_rows
  l9 : FnOk F g "_law_way_for" d_law_way_for
  la : FnOk F g "_law_walked" d_law_walked
  lb : FnOk F g "_law_most" d_law_most
  lc : FnOk F g "_law_steps" d_law_steps
  ld : FnOk F g "_law_crossed" d_law_crossed
  le : FnOk F g "_law_turned_to" d_law_turned_to
  lf : FnOk F g "_law_wished" d_law_wished
  lg : FnOk F g "_law_copy" d_law_copy
  lh : FnOk F g "_law_word" d_law_word
  li : FnOk F g "_law_refused" d_law_refused
theorem Env.planIs (V : Env F g) {σ : Sto} {S : List Way} {R : List Row} {nd : Int} {v : Val} (hv : Has σ (dPlan S R) v) : PlanIs F σ nd v (goodP nd S R) := fun d Q er hQ => plan_spec V.f0 V.g3 V.g4 V.f6 V.f7 V.f8 hv hQ
theorem leads_bad (V : Env F g) {d ga : Nat} {L : List Int} {D : List (List (List Int))} {W : List Int} {gs : List Int} {b : Bool} {vh vp : Val} {σ : Sto} {Q : KV} {er : String → Sto → Prop} (hv : HouseAt σ vh L D W) (hg : σ ga = some (.list (gs.map .int))) (hb : ∀ σ', Ext σ σ' → PlanIs F σ' D.length vp b)
    (hE0 : (risingI gs (-1) L.length && !gs.isEmpty) = false → ∀ σ', Ext σ σ' → er "BadGuess" σ') (hE1 : (risingI gs (-1) L.length && !gs.isEmpty) = true → b = false → ∀ σ', Ext σ σ' → er "BadPlan" σ')
    (hQ : (risingI gs (-1) L.length && !gs.isEmpty) = true → b = true → ∀ σ', Ext σ σ' → wpSs (F (d + 6)) (g.at false er) (d_leads.2.drop 2) (bindT ["house", "guess", "plan"] [vh, .ref ga, vp] fun o' => none) σ' (Kq Q)) : F (d + 7) false "leads" [vh, .ref ga, vp] σ Q er := by
  have f5 := V.f5
  have f9 := V.f9
  refine FnOk.go V.fd rfl ?_
  refine s_cons ?_; refine s_expr ?_; refine r_calln (FnOk.cf (by assumption)) ?_; refine r_ss rfl ?_
  refine need_guess_spec (V.xs _ (by decide)) V.f0 V.f1 V.f5 hv hg (fun q1 σ1 e1 => ?_) hE0
  refine v_exprn ?_; refine t_expr ?_; refine r_calln (FnOk.cf (by assumption)) ?_; refine r_ss rfl ?_
  refine need_plan_spec (V.xs _ (by decide)) V.f9 V.f8 (hv.ext e1) (hb _ e1) (fun q2 σ2 e2 => ?_) fun q2 σ2 e2 => hE1 q1 q2 _ (e1.trans e2)
  exact hQ q1 q2 _ (e1.trans e2)
theorem Cells.base {σ₀ σ : Sto} {a r : Nat} {bs : List Nat} {R : Nat → Ob → Prop} (h : Cells σ₀ σ a bs R) (hr : σ r = none) (o : Ob) : Cells (σ₀.set r o) (σ.set r o) a bs R := by
  refine ⟨fun x ob hx => ?_, Ext.set hr _ _ _ h.la, h.nd, fun b hb => ⟨?_, (h.fr b hb).2⟩, fun k b hb => ?_⟩
  · by_cases q : x = r
    · rw [q, set_at] at hx ⊢; exact hx
    · rw [set_ne _ _ q] at hx ⊢; exact h.e _ _ hx
  · refine Classical.byContradiction fun hG => ?_
    obtain ⟨k, hk⟩ := List.getElem?_of_mem hb
    obtain ⟨ob, h1, _⟩ := h.at_ k b hk
    refine hG ?_
    clear hG
    rw [set_ne _ _ (fun q => by rw [q, hr] at h1; cases h1)]; exact (h.fr b hb).1
  · refine Classical.byContradiction fun hG => ?_
    obtain ⟨ob, h1, h2⟩ := h.at_ k b hb
    refine hG ?_
    clear hG
    exact ⟨ob, Ext.set hr _ _ _ h1, h2⟩
structure LeadN (ρ : Loc) (vh vp : Val) (a : Nat) : Prop where
  r1 : ρ "house" = some vh
  r2 : ρ "plan" = some vp
  r3 : ρ "reached" = some (.ref a)
structure LeadT (G : Gr) (T : TabF) (p m : Nat) : Prop where
  s : ∀ r ∈ G.G, ∃ q t, wayOf G.S (G.look r) = some q ∧ dget (T q.toNat) r = some (.int t)
  d : ∀ (k : Nat) r (s : Nat), k < p → dget (T k) r = some (.int s) → Done G T (k, r) s ∧ s ≤ m
  m : m = 0 ∨ ∃ x, G.Rch m x
theorem leads_spec (V : Env F g) {G : Gr} {many : Int} (W : G.WF many) (hG : Rooms many G.G) {d ga : Nat} {vh vp : Val} {σ : Sto} {Q : KV} {er : String → Sto → Prop}
    (hv : HouseAt σ vh G.L G.D G.W) (hg : σ ga = some (.list (G.G.map .int))) (hp : Has σ (dPlan G.S G.R) vp)
    (hQ : ∀ v σ', Ext σ σ' → G.Ans v → Q v σ') : F (d + 7) false "leads" [vh, .ref ga, vp] σ Q er := by
  have hgood : (risingI G.G (-1) G.L.length && !G.G.isEmpty) = true := by
    rw [W.looks, hG.rising]
    cases q : G.G with
    | nil => exact absurd q W.g0
    | cons _ _ => rfl
  refine leads_bad V hv hg (fun σ' e => V.planIs (hp.ext e)) (fun q => by rw [hgood] at q; cases q) (fun o' q => by rw [W.plan] at q; cases q) fun o' o' σ0 e0 => ?_
  replace hv := hv.ext e0
  replace hg := e0 _ _ hg
  replace hp := hp.ext e0
  replace hQ := fun v σ' e => hQ v σ' (e0.trans e)
  clear e0
  refine Classical.byContradiction fun hG => ?_
  obtain ⟨ap, x, y, h1, h2, h3⟩ := has_tup2 hp
  obtain ⟨ar, xr, har, hxr⟩ := has_list h3
  refine hG ?_
  clear hG
  have hlr := hxr.len
  have hrows := W.rows
  have fa := V.fa
  have fb := V.fb
  have fc := V.fc
  show wpSs (F (d + 6)) (g.at false er) [St.assign "reached" _, St.for_ 1 ["room"] _ _, St.assign "most" _, St.for_ 1 ["place"] _ _, St.ret _] _ σ0 (Kq Q)
  refine s_cons ?_; refine s_assign ?_; refine r_comp rfl ?_; refine r_sub ?_; refine r_s rfl ?_; refine v_sub1 ?_; refine r_s rfl ?_
  refine sub1 h1 ?_
  refine fresh_list (o := .idict 0 []) har (by lia) (fun ρ' σ' K' hK => r_idict hK) fun a bs σ1 hbs C0 => ?_
  have C1 : Cells σ0 σ1 a bs (RD fun o' => []) := ⟨C0.e, C0.la, C0.nd, C0.fr, fun k b hb => by
    refine Classical.byContradiction fun hG => ?_
    obtain ⟨ob, q1, q2⟩ := C0.at_ k b hb
    refine hG ?_
    clear hG
    exact ⟨ob, q1, 0, q2⟩⟩
  clear C0
  have hbl : bs.length = G.R.length := hbs.trans hlr
  have T0 : Tab G many fun o' => [] := ⟨fun o' => List.Pairwise.nil, fun o' o' h => (nomatch h), fun o' o' o' h => (nomatch h)⟩
  have hg1 := C1.e _ _ hg
  refine v_asgn ?_; refine s_cons ?_; refine s_for rfl ?_; refine r_s rfl ?_
  refine w_on (turns_list hg1) ?_
  refine for_rel (one1 fun (i : Int) v => v = .int i) (fun ks ρ' σ' => LeadN ρ' vh (.ref ap) a ∧ ∃ T, Cells σ0 σ' a bs (RD T) ∧ Tab G many T ∧ (∀ r ∈ ks, r ∈ G.G) ∧ ∀ r ∈ G.G, r ∈ ks ∨ ∃ q t, wayOf G.S (G.look r) = some q ∧ dget (T q.toNat) r = some (.int t)) ?_ ?_ ?_ _ _ _ σ1 (All2.turns (All2.of fun o' o' => rfl))
    ⟨⟨by (repeat (first | with_reducible exact l_here | assumption | refine l_there rfl ?_ | with_reducible refine l_bind ?_ | with_reducible refine l_bind0 ?_)), by (repeat (first | with_reducible exact l_here | assumption | refine l_there rfl ?_ | with_reducible refine l_bind ?_ | with_reducible refine l_bind0 ?_)), by (repeat (first | with_reducible exact l_here | assumption | refine l_there rfl ?_ | with_reducible refine l_bind ?_ | with_reducible refine l_bind0 ?_))⟩, _, C1, T0, fun o' h => h, fun o' h => .inl h⟩
  · rintro ks ρ' σ' ⟨_, T, C, _⟩; exact stay_list hg1 (C.e _ _ hg)
  · intro ρ' σ' H09
    refine Classical.byContradiction fun hG => ?_
    obtain ⟨⟨r1, r2, r3⟩, T, C, hT, _, hs⟩ := H09
    refine hG ?_
    clear hG
    have hs := fun r hr => (hs r hr).resolve_left fun h => nomatch h
    clear C1 T0 hg1
    refine s_nxt ?_; refine s_cons ?_; refine s_assign ?_; refine r_s rfl ?_; refine v_asgn ?_; refine s_cons ?_; refine s_for rfl ?_; refine r_bcall rfl ?_; refine r_cons ?_; refine r_bcall rfl ?_; refine r_cons ?_; refine r_sub ?_; refine r_var (by assumption) ?_; refine v_sub1 ?_; refine r_s rfl ?_
    refine sub1 (C.e _ _ h1) ?_
    refine v_cons ?_; refine r_ss rfl ?_; refine v_push ?_
    refine b_len (C.e _ _ har) ?_
    rw [hlr]
    refine b_range (Int.natCast_nonneg _) (by lia) fun r hr => ?_
    have e1 : Ext σ0 (σ0.set r (.range 0 G.R.length)) := .set (C.e.new hr) _
    have C := C.base hr (.range 0 G.R.length)
    have hr0 := set_at σ' r (.range 0 G.R.length)
    have hr1 := set_at σ0 r (.range 0 G.R.length)
    replace hv := hv.ext e1
    replace hp := hp.ext e1
    replace h1 := e1 _ _ h1
    replace har := e1 _ _ har
    replace hQ := fun v σ' e => hQ v σ' (e1.trans e)
    generalize σ0.set r (.range 0 G.R.length) = σ2 at *
    generalize σ'.set r (.range 0 G.R.length) = σ3 at *
    clear e1 hg h2 h3 hxr
    refine w_on (turns_range hr0) ?_
    refine for_rel _ (fun ks ρ' σ' => LeadN ρ' vh (.ref ap) a ∧ ∃ (p : Nat) (T : TabF) (m : Nat), ks = irange p G.R.length ∧ ρ' "most" = some (.int m) ∧ Cells σ2 σ' a bs (RD T) ∧ Tab G many T ∧ LeadT G T p m) ?_ ?_ ?_ _ _ _ σ3 ran_turns
      ⟨⟨by (repeat (first | with_reducible exact l_here | assumption | refine l_there rfl ?_ | with_reducible refine l_bind ?_ | with_reducible refine l_bind0 ?_)), by (repeat (first | with_reducible exact l_here | assumption | refine l_there rfl ?_ | with_reducible refine l_bind ?_ | with_reducible refine l_bind0 ?_)), by (repeat (first | with_reducible exact l_here | assumption | refine l_there rfl ?_ | with_reducible refine l_bind ?_ | with_reducible refine l_bind0 ?_))⟩, 0, T, 0, rfl, l_here, C, hT, hs, fun k r s hk => absurd hk (Nat.not_lt_zero k), .inl rfl⟩
    · rintro ks ρ' σ' ⟨_, p, T, m, _, _, C, _⟩; exact stay_range hr0 (C.e _ _ hr1)
    · intro ρ' σ' H09
      refine Classical.byContradiction fun hG => ?_
      obtain ⟨_, p, T, m, hk, hm, C, hT, I⟩ := H09
      refine hG ?_
      clear hG
      have hk := irange_nil hk
      have := lead_top W hT I.s (fun k r s hk => I.d k r s (by lia)) I.m
      refine s_nxt ?_; refine s_cons ?_; refine s_ret ?_; refine r_var (by assumption) ?_; refine v_ret ?_; refine s_out ?_; refine k_ret ?_
      exact hQ _ _ C.e (.inr ⟨this.1, m, rfl, this.2⟩)
    · intro i ks t ρ' σ' K H09 H19 hn hret
      refine Classical.byContradiction fun hG => ?_
      obtain ⟨v, rfl, i0, i1, rfl⟩ := H09
      obtain ⟨⟨r1, r2, r3⟩, p, T, m, hk, hm, C, hT, I⟩ := H19
      obtain ⟨rfl, hks⟩ := irange_cons hk
      refine hG ?_
      clear hG
      have hpl : p < G.R.length := by lia
      refine s_cons ?_; refine s_if ?_; refine r_not ?_; refine r_calln (FnOk.cf (by assumption)) ?_; refine r_cons ?_; refine r_var (by assumption) ?_; refine v_cons ?_; refine r_cons ?_; refine r_var (by assumption) ?_; refine v_cons ?_; refine r_cons ?_; refine r_var (by assumption) ?_; refine v_cons ?_; refine r_ss rfl ?_; refine v_push ?_; refine v_push ?_; refine v_push ?_
      refine spread_spec V.fa V.fb V.fc W hv hp C hbl hT hpl fun b T' σ4 C' hT' le keep y n => ?_
      cases b with
      | false =>
        refine v_notf ?_; refine v_ift ?_; refine t_ret ?_; refine r_s rfl ?_; refine v_ret ?_; refine s_out ?_
        exact hret _ _ _ (hQ _ _ C'.e (.inl ⟨n rfl, rfl⟩))
      | true =>
        refine v_nott ?_; refine v_iffn ?_; refine s_cons ?_; refine s_for rfl ?_; refine r_sub ?_; refine r_var (by assumption) ?_; refine v_sub1 ?_; refine r_s rfl ?_
        refine C'.sub i0 (by lia) fun b ob hb hob hR => ?_
        obtain ⟨ep, rfl⟩ := hR
        rw [Int.toNat_natCast] at hob
        refine w_on (turns_idict hob) ?_
        have stay0 : stay σ4 (.ref b) 1 (((T' p).map fun e => Val.int e.1).map fun v => [v]) σ4 := ⟨fun c q => rfl, turns_idict hob⟩
        rw [show ((T' p).map fun e => Val.int e.1) = ((T' p).map Prod.fst).map Val.int by rw [List.map_map]; rfl] at stay0 ⊢
        refine for_rel (one1 fun (i : Int) v => v = .int i) (fun ks ρ' σ' => σ' = σ4 ∧ LeadN ρ' vh (.ref ap) a ∧ ρ' "place" = some (.int p) ∧ ∃ m' : Nat, ρ' "most" = some (.int m') ∧ m ≤ m' ∧ (m' = 0 ∨ ∃ x, G.Rch m' x) ∧ (∀ r ∈ ks, r ∈ (T' p).map Prod.fst) ∧ ∀ r (s : Nat), dget (T' p) r = some (.int s) → r ∈ ks ∨ s ≤ m') ?_ ?_ ?_ _ _ _ σ4 (All2.turns (All2.of fun o' o' => rfl))
          ⟨rfl, ⟨by (repeat (first | with_reducible exact l_here | assumption | refine l_there rfl ?_ | with_reducible refine l_bind ?_ | with_reducible refine l_bind0 ?_)), by (repeat (first | with_reducible exact l_here | assumption | refine l_there rfl ?_ | with_reducible refine l_bind ?_ | with_reducible refine l_bind0 ?_)), by (repeat (first | with_reducible exact l_here | assumption | refine l_there rfl ?_ | with_reducible refine l_bind ?_ | with_reducible refine l_bind0 ?_))⟩, by (repeat (first | with_reducible exact l_here | assumption | refine l_there rfl ?_ | with_reducible refine l_bind ?_ | with_reducible refine l_bind0 ?_)), m, by (repeat (first | with_reducible exact l_here | assumption | refine l_there rfl ?_ | with_reducible refine l_bind ?_ | with_reducible refine l_bind0 ?_)), Nat.le_refl _, I.m, fun o' h => h, fun r s hs => .inl (dget_key hs)⟩
        · rintro ks ρ' σ' ⟨rfl, _⟩; exact stay0
        · intro ρ' σ' H09
          refine Classical.byContradiction fun hG => ?_
          obtain ⟨rfl, N, _, m', hm', hle, h0, _, hall⟩ := H09
          refine hG ?_
          clear hG
          refine s_nxt ?_; refine s_nil ?_
          refine hn _ _ ⟨N, p + 1, T', m', hks, hm', C', hT', fun r hr => ?_, fun k r s hk hs => ?_, h0⟩
          · refine Classical.byContradiction fun hG => ?_
            obtain ⟨q, t, h4, h5⟩ := I.s r hr
            obtain ⟨u, h6, _⟩ := hT.snd _ _ _ h5
            refine hG ?_
            clear hG
            cases h6
            refine Classical.byContradiction fun hG => ?_
            obtain ⟨u2, h7, _⟩ := le _ _ _ h5
            refine hG ?_
            clear hG
            exact ⟨q, u2, h4, h7⟩
          · by_cases q : k = p
            · subst q
              refine ⟨y rfl r s (by rw [← keep k (Nat.le_refl _)]; exact hs), (hall r s hs).resolve_left fun h => (nomatch h)⟩
            · have := I.d k r s (by lia) (by rw [← keep k (by lia)]; exact hs)
              exact ⟨this.1.le le, by lia⟩
        · intro r ks' t ρ'' σ'' K' H09 H19 hn' hret'
          refine Classical.byContradiction fun hG => ?_
          obtain ⟨v, rfl, rfl⟩ := H09
          obtain ⟨rfl, ⟨r1, r2, r3⟩, r4, m', hm', hle, h0, hk', hall⟩ := H19
          obtain ⟨v, hrv⟩ := key_dget (hk' r (.head _))
          obtain ⟨s, rfl, hrch⟩ := hT'.snd p r v hrv
          refine hG ?_
          clear hG
          refine s_cons ?_; refine s_assign ?_; refine r_bcall rfl ?_; refine r_cons ?_; refine r_var (by assumption) ?_; refine v_cons ?_; refine r_cons ?_; refine r_sub ?_; refine r_sub ?_; refine r_var (by assumption) ?_; refine v_sub1 ?_; refine r_var (by assumption) ?_
          refine C'.sub i0 (by lia) fun b2 ob2 hb2 hob2 hR2 => ?_
          obtain ⟨ep2, rfl⟩ := hR2
          rw [Int.toNat_natCast] at hob2
          refine v_sub1 ?_; refine r_s rfl ?_
          refine x_idict hob2 hrv ?_
          refine v_cons ?_; refine r_ss rfl ?_; refine v_push ?_; refine v_push ?_; refine v_max ?_; refine v_asgn ?_; refine s_nil ?_
          rw [show max (m' : Int) (s : Int) = ((max m' s : Nat) : Int) from imax _ _]
          refine hn' _ _ ⟨rfl, ⟨by (repeat (first | with_reducible exact l_here | assumption | refine l_there rfl ?_ | with_reducible refine l_bind ?_ | with_reducible refine l_bind0 ?_)), by (repeat (first | with_reducible exact l_here | assumption | refine l_there rfl ?_ | with_reducible refine l_bind ?_ | with_reducible refine l_bind0 ?_)), by (repeat (first | with_reducible exact l_here | assumption | refine l_there rfl ?_ | with_reducible refine l_bind ?_ | with_reducible refine l_bind0 ?_))⟩, by (repeat (first | with_reducible exact l_here | assumption | refine l_there rfl ?_ | with_reducible refine l_bind ?_ | with_reducible refine l_bind0 ?_)), max m' s, by (repeat (first | with_reducible exact l_here | assumption | refine l_there rfl ?_ | with_reducible refine l_bind ?_ | with_reducible refine l_bind0 ?_)), Nat.le_trans hle (Nat.le_max_left _ _), ?_, fun x hx => hk' x (.tail _ hx), fun x u hu => (hall x u hu).elim (fun h => (List.mem_cons.mp h).elim (fun e => ?_) .inl) fun h => .inr (Nat.le_trans h (Nat.le_max_left _ _))⟩
          · rcases Nat.le_total m' s with q | q
            · rw [Nat.max_eq_right q]; exact .inr ⟨_, hrch⟩
            · rw [Nat.max_eq_left q]; exact h0
          · rw [e, hrv] at hu
            cases hu
            exact .inr (Nat.le_max_right _ _)
  · intro r ks t ρ' σ' K H09 H19 hn hret
    refine Classical.byContradiction fun hG => ?_
    obtain ⟨v, rfl, rfl⟩ := H09
    obtain ⟨⟨r1, r2, r3⟩, T, C, hT, hks, hs⟩ := H19
    refine hG ?_
    clear hG
    have hrG := hks r (.head _)
    have hrm := W.gs r hrG
    refine s_cons ?_; refine s_assign ?_; refine r_calln (FnOk.cf (by assumption)) ?_; refine r_cons ?_; refine r_sub ?_; refine r_var (by assumption) ?_; refine v_sub1 ?_; refine r_s rfl ?_
    refine sub0 (C.e _ _ h1) ?_
    refine v_cons ?_; refine r_cons ?_; refine r_sub ?_; refine r_attr ?_; refine r_var (by assumption) ?_
    refine hv.looks C.e fun al hal => ?_
    refine v_sub1 ?_; refine r_s rfl ?_
    refine sub_look W (C.e _ _ hal) hrm.1 hrm.2 ?_
    refine way_of_spec fa (h2.ext C.e) (fun hq => ?_) fun k hq => ?_
    · refine v_asgn ?_; refine t_if ?_; refine r_cmp ?_; refine r_s rfl ?_; refine v_cmp ?_; refine r_s rfl ?_; refine v_is0 ?_; refine v_ift ?_; refine t_ret ?_; refine r_s rfl ?_; refine v_ret ?_; refine s_out ?_
      exact hret _ _ _ (hQ _ _ C.e (.inl ⟨fun hG => hG.1.1 r hrG hq, rfl⟩))
    · have hk := W.start (y := (k, r)) ⟨hrG, hq⟩
      obtain ⟨k, rfl⟩ := Int.eq_ofNat_of_zero_le hk.1
      have hk2 : k < bs.length := by lia
      refine v_asgn ?_; refine t_if ?_; refine r_cmp ?_; refine r_s rfl ?_; refine v_cmp ?_; refine r_s rfl ?_; refine v_isi ?_; refine v_iffn ?_; refine t_expr ?_; refine r_calln (FnOk.cf (by assumption)) ?_; refine r_cons ?_; refine r_var (by assumption) ?_; refine v_cons ?_; refine r_ss rfl ?_; refine v_push ?_
      refine come_spec fb C rfl hk2 (Nat.le_trans (hT.len W.m8 k) (by decide)) hT.int fun T3 σ3 C3 came fr3 => ?_
      refine Classical.byContradiction fun hG => ?_
      obtain ⟨t3, l3, ⟨u, h4, h5⟩, o3⟩ := hT.came (s := 0) came ⟨((k : Int), r), ⟨hrG, hq⟩, rfl⟩ hrm.1 hrm.2
      refine hG ?_
      clear hG
      refine v_exprn ?_; refine s_nil ?_
      refine hn _ _ ⟨⟨by (repeat (first | with_reducible exact l_here | assumption | refine l_there rfl ?_ | with_reducible refine l_bind ?_ | with_reducible refine l_bind0 ?_)), by (repeat (first | with_reducible exact l_here | assumption | refine l_there rfl ?_ | with_reducible refine l_bind ?_ | with_reducible refine l_bind0 ?_)), by (repeat (first | with_reducible exact l_here | assumption | refine l_there rfl ?_ | with_reducible refine l_bind ?_ | with_reducible refine l_bind0 ?_))⟩, T3, C3, t3, fun x hx => hks x (.tail _ hx), fun x hx => (hs x hx).elim (fun h => (List.mem_cons.mp h).elim (fun e => .inr ⟨k, u, by rw [e]; exact hq, by rw [e]; exact h4⟩) .inl) fun ⟨q, t, h6, h7⟩ => ?_⟩
      refine Classical.byContradiction fun hG => ?_
      obtain ⟨u2, h8, _⟩ := hT.snd _ _ _ h7
      refine hG ?_
      clear hG
      cases h8
      refine Classical.byContradiction fun hG => ?_
      obtain ⟨u3, h9, _⟩ := l3 _ _ _ h7
      refine hG ?_
      clear hG
      exact .inr ⟨q, u3, h6, h9⟩
end BP

namespace BP
open PySem
variable {F : Nat → CallW} {g : Glo}
theorem c_nenil {σ : Sto} {a b : Nat} {xs : List Val} {K : Bool → Prop} (ha : σ a = some (.list xs)) (hb : σ b = some (.list [])) (h : K (!xs.isEmpty)) : cmpW .ne (.ref a) (.ref b) σ K := by
  cases xs with
  | nil => exact .inl (.inr ⟨.list [], .list [], list_has (f := id) (as := []) ha .nil, list_has (f := id) (as := []) hb .nil, rfl, rfl, h⟩)
  | cons x r => exact .inr ⟨a, b, _, _, rfl, rfl, ha, hb, Nat.succ_ne_zero _, h⟩
noncomputable def Sto.off (σ : Sto) (bs : List Nat) : Sto := fun x => if x ∈ bs then none else σ x
theorem off_ne {σ : Sto} {bs : List Nat} {x : Nat} (h : x ∉ bs) : σ.off bs x = σ x := if_neg h
theorem off_ext {σ : Sto} {bs : List Nat} : Ext (σ.off bs) σ := fun x ob h => by
  by_cases q : x ∈ bs
  · rw [Sto.off, if_pos q] at h; cases h
  · rw [off_ne q] at h; exact h
section
variable {σ₀ σ σ' : Sto} {a : Nat} {bs : List Nat} {R : Nat → Ob → Prop}
theorem Cells.off (h : Cells σ₀ σ a bs R) : Cells (σ.off bs) σ a bs R := ⟨off_ext, h.la, h.nd, fun b hb => ⟨if_pos hb, (h.fr b hb).2⟩, h.at_⟩
theorem Cells.offE (h : Cells σ₀ σ a bs R) : Ext σ₀ (σ.off bs) := fun x ob hx => by
  rw [off_ne fun q => by rw [(h.fr x q).1] at hx; cases hx]; exact h.e _ _ hx
theorem Cells.not (h : Cells σ₀ σ a bs R) {x : Nat} (hx : σ x = none) : x ∉ bs := fun q => by
  refine Classical.byContradiction fun hG => ?_
  obtain ⟨k, hk⟩ := List.getElem?_of_mem q
  obtain ⟨ob, h1, _⟩ := h.at_ k x hk
  refine hG ?_
  clear hG
  rw [hx] at h1; cases h1
end
noncomputable def ledP (rows : List (List Int)) (ns : List Int) (o : Int) : Bool := !(ns.filter fun r => decide (o ∈ rows.getD r.toNat [])).isEmpty
theorem led_spec (h : FnOk F g "_law_led" d_law_led) {d ga : Nat} {rows : List (List Int)} {ns : List Int} {vd : Val} {σ : Sto} {Q : KV} {er : String → Sto → Prop} (hd : Has σ (deedD rows) vd) (hg : σ ga = some (.list (ns.map .int))) (hr : rows.length ≤ 8) (hl : ns.length ≤ 1000) (hn : ∀ r ∈ ns, 0 ≤ r ∧ r < rows.length)
    (hQ : ∀ c σ', Ext σ σ' → σ c = none → σ' c = some (.list (((irange 0 rows.length).filter (ledP rows ns)).map .int)) → Q (.ref c) σ') : F (d + 1) false "_law_led" [vd, .ref ga] σ Q er := by
  refine Classical.byContradiction fun hG => ?_
  obtain ⟨ad, xd, had, hxd⟩ := has_list hd
  refine hG ?_
  clear hG
  have hld := hxd.len
  refine FnOk.go h rfl ?_
  refine s_cons ?_; refine s_assign ?_; refine r_list0 ?_
  refine n_ob fun c hc => ?_
  have had1 := Ext.set hc (.list []) _ _ had
  refine v_asgn ?_; refine s_cons ?_; refine s_for rfl ?_; refine r_bcall rfl ?_; refine r_cons ?_; refine r_bcall rfl ?_; refine r_ss rfl ?_; refine v_len (by assumption) ?_; refine v_cons ?_; refine r_ss rfl ?_; refine v_push ?_
  rw [hld]
  refine b_range (Int.natCast_nonneg _) (by lia) fun r hr => ?_
  have e0 := (Ext.set hc (.list [])).trans (.set hr (.range 0 rows.length))
  have hr0 := set_at (σ.set c (.list [])) r (.range 0 rows.length)
  have hcr : c ≠ r := fun q => by rw [← q, set_at] at hr; cases hr
  refine w_on (turns_range hr0) ?_
  refine for_rel _ (fun ks ρ' σ' => Ext σ σ' ∧ σ' r = some (.range 0 rows.length) ∧ ρ' "_law_found" = some (.ref c) ∧ ρ' "_law_deed" = some (.ref ad) ∧ ρ' "_law_guess_here" = some (.ref ga) ∧ ∃ pre, pre ++ ks = irange 0 rows.length ∧ σ' c = some (.list ((pre.filter (ledP rows ns)).map .int))) ?_ ?_ ?_ _ _ _ _ ran_turns
    ⟨e0, hr0, by (repeat (first | with_reducible exact l_here | assumption | refine l_there rfl ?_ | with_reducible refine l_bind ?_ | with_reducible refine l_bind0 ?_)), by (repeat (first | with_reducible exact l_here | assumption | refine l_there rfl ?_ | with_reducible refine l_bind ?_ | with_reducible refine l_bind0 ?_)), by (repeat (first | with_reducible exact l_here | assumption | refine l_there rfl ?_ | with_reducible refine l_bind ?_ | with_reducible refine l_bind0 ?_)), [], rfl, by rw [set_ne _ _ hcr, set_at]; rfl⟩
  · rintro ks ρ' σ' ⟨e, h1, _⟩; exact stay_range hr0 h1
  · intro ρ' σ' H09
    refine Classical.byContradiction fun hG => ?_
    obtain ⟨e, h1, h2, h3, h4, pre, h5, h6⟩ := H09
    refine hG ?_
    clear hG
    rw [List.append_nil] at h5
    rw [h5] at h6
    refine s_nxt ?_; refine s_cons ?_; refine s_ret ?_; refine r_var (by assumption) ?_; refine v_ret ?_; refine s_out ?_; refine k_ret ?_
    exact hQ c σ' e hc h6
  · intro i ks t ρ' σ' K H09 H19 hnx hret
    refine Classical.byContradiction fun hG => ?_
    obtain ⟨v, rfl, i0, i1, rfl⟩ := H09
    obtain ⟨e, h1, h2, h3, h4, pre, h5, h6⟩ := H19
    refine hG ?_
    clear hG
    have hg' := e _ _ hg
    have hpl : pre.length ≤ 8 := by
      have := congrArg List.length h5
      rw [List.length_append, iran_len] at this; lia
    have next : ∀ σ2 x, Ext σ σ2 → σ2 r = some (.range 0 rows.length) → σ2 c = some (.list (x.map .int)) → x = (pre ++ [i]).filter (ledP rows ns) → K .next (bindT ["_law_room"] [.int i] ρ') σ2 := fun σ2 x e2 g1 g2 g3 => hnx _ _ ⟨e2, g1, by (repeat (first | with_reducible exact l_here | assumption | refine l_there rfl ?_ | with_reducible refine l_bind ?_ | with_reducible refine l_bind0 ?_)), by (repeat (first | with_reducible exact l_here | assumption | refine l_there rfl ?_ | with_reducible refine l_bind ?_ | with_reducible refine l_bind0 ?_)), by (repeat (first | with_reducible exact l_here | assumption | refine l_there rfl ?_ | with_reducible refine l_bind ?_ | with_reducible refine l_bind0 ?_)), pre ++ [i], by rw [List.append_assoc]; exact h5, by rw [← g3]; exact g2⟩
    refine s_cons ?_; refine s_if ?_; refine r_cmp ?_; refine r_comp rfl ?_; refine r_var (by assumption) ?_
    refine w_on (turns_list hg') ⟨by rw [List.length_map, List.length_map]; exact Nat.le_trans hl (by decide), ?_⟩
    refine comp_fil (σ₀ := σ') (one1 fun (r : Int) v => v = .int r) (fun r => decide (i ∈ rows.getD r.toNat [])) (fun r => .int r) (fun σ3 e3 => stay_list hg' (e3 _ _ hg')) ns _ [] σ' (.refl _) (All2.turns (All2.of fun o' o' => rfl)) ?_ ?_ ?_
    · intro r hr t σ3 H09 e3 K' hK'
      refine Classical.byContradiction fun hG => ?_
      obtain ⟨v, rfl, rfl⟩ := H09
      refine hG ?_
      clear hG
      have hrn := hn r hr
      refine r_if1 ?_; refine r_cmp ?_; refine r_s rfl ?_; refine v_cmp ?_; refine r_sub ?_; refine r_var (by assumption) ?_; refine v_sub1 ?_; refine r_s rfl ?_
      refine sub_has (x := rows.getD r.toNat []) hd (e.trans e3) hrn.1 (getD_some (by lia)) fun w hw => ?_
      obtain ⟨aw, haw⟩ := ints_at hw
      refine c_in ((e.trans e3) _ _ haw) ?_
      have := hK' _ (.refl _)
      cases q : decide (i ∈ rows.getD r.toNat []) with
      | true =>
        rw [q] at this
        refine v_b ?_; refine v_ifst ?_; refine r_if0 ?_
        exact this
      | false =>
        rw [q] at this
        refine v_b ?_; refine v_ifsf ?_
        exact this
    · intro r hr _ t σ3 H09 e3 K' hK'
      refine Classical.byContradiction fun hG => ?_
      obtain ⟨v, rfl, rfl⟩ := H09
      refine hG ?_
      clear hG
      refine r_s rfl ?_
      exact hK' _ (.refl _)
    intro σ3 e3 b hb
    refine v_cmp ?_; refine r_list0 ?_
    refine n_ob fun z hz => ?_
    have e4 := (e3.trans (.set hb (.list ([] ++ (ns.filter fun r => decide (i ∈ rows.getD r.toNat [])).map fun r => Val.int r)))).trans (.set hz (.list []))
    refine c_nenil (Ext.set hz _ _ _ (set_at _ _ _)) (set_at _ _ _) ?_
    rw [List.nil_append]
    have hem : (((ns.filter fun r => decide (i ∈ rows.getD r.toNat [])).map fun r => Val.int r).isEmpty) = !(ledP rows ns i) := by
      unfold ledP
      cases (ns.filter fun r => decide (i ∈ rows.getD r.toNat [])) <;> rfl
    rw [hem, Bool.not_not]
    rw [List.nil_append] at e4
    generalize ((σ3.set b (.list ((ns.filter fun r => decide (i ∈ rows.getD r.toNat [])).map fun r => Val.int r))).set z (.list [])) = σ4 at *
    have h6' := e4 _ _ h6
    cases q : ledP rows ns i with
    | true =>
      refine v_b ?_; refine v_ift ?_; refine t_expr ?_; refine r_meth ?_; refine r_var (by assumption) ?_; refine v_mon (by assumption) ?_; refine r_ss rfl ?_
      refine m_app h6' ?_ ?_
      · rw [List.length_map]
        have := List.length_filter_le (ledP rows ns) pre
        lia
      refine v_exprn ?_; refine s_nil2 ?_; refine s_nil ?_
      refine next _ (pre.filter (ledP rows ns) ++ [i]) ((e.trans e4).upd hc _) (by rw [set_ne _ _ (Ne.symm hcr)]; exact e4 _ _ h1) (by rw [set_at, List.map_append]; rfl) ?_
      rw [List.filter_append, List.filter_cons_of_pos q]; rfl
    | false =>
      refine v_b ?_; refine v_iffn ?_; refine s_nil ?_
      refine next _ (pre.filter (ledP rows ns)) (e.trans e4) (e4 _ _ h1) h6' ?_
      rw [List.filter_append, List.filter_cons_of_neg (by rw [q]; exact Bool.false_ne_true)]
      exact (List.append_nil _).symm
end BP

namespace BP
open PySem
variable {F : Nat → CallW} {g : Glo}
theorem goodW_few {least many : Int} : ∀ {ws : List Way} {b : Int}, b ≤ 9 → goodW least many b ws = true → (ws.length : Int) ≤ 9 - b
  | [], b, hb, _ => by rw [List.length_nil]; lia
  | w :: ws, b, hb, h => by
    simp only [goodW, Bool.and_eq_true, decide_eq_true_eq] at h
    have := goodW_few (b := w.1) (by lia) h.2
    rw [List.length_cons]; lia
theorem goodW_len {least many : Int} {ws : List Way} (h : goodW least many (-1) ws = true) : ws.length ≤ 10 := by
  have := goodW_few (by decide) h
  lia
noncomputable def RL (M : Nat → List Int) (k : Nat) (ob : Ob) : Prop := ob = .list ((M k).map .int)
structure Walk (G : Gr) (M : Nat → List Int) : Prop where
  nd : ∀ k, (M k).Nodup
  snd : ∀ (k : Nat) r, r ∈ M k → ∃ n, G.Rch n (k, r)
noncomputable def Sub (M M' : Nat → List Int) : Prop := ∀ k r, r ∈ M k → r ∈ M' k
structure WalkT (G : Gr) (M : Nat → List Int) (p : Nat) : Prop where
  s : 1 ≤ p → G.GoodS ∧ ∀ y, G.Start y → y.2 ∈ M y.1.toNat
  d : ∀ (k : Nat) r, k + 1 < p → r ∈ M k → G.OkW (k, r) ∧ ∀ y, G.Succ (k, r) y → y.2 ∈ M y.1.toNat
structure Walked (G : Gr) (M : Nat → List Int) : Prop where
  w : Walk G M
  all : ∀ n x, G.Rch n x → x.2 ∈ M x.1.toNat
  good : G.GoodW
theorem WalkT.end_ {G : Gr} {many : Int} {M : Nat → List Int} (hW : G.WF many) (w : Walk G M) (h : WalkT G M (G.R.length + 1)) : Walked G M := by
  have all : ∀ {n x}, G.Rch n x → x.2 ∈ M x.1.toNat := fun {n x} hx => by
    have key : ∀ {n x}, G.Rch n x → x.2 ∈ M x.1.toNat ∧ 0 ≤ x.1 := fun {n x} hx => Gr.rch_ind (P := fun o' x => x.2 ∈ M x.1.toNat ∧ 0 ≤ x.1) (fun s hs => ⟨(h.s (by lia)).2 s hs, (hW.start hs).1⟩) (fun n x y hx hy => by
      obtain ⟨m, hr⟩ := w.snd _ _ hx.1
      have hb := hW.rch hr
      have hb1 : x.1.toNat < G.R.length := by have := hb.2.1; dsimp only at this; lia
      have e : ((x.1.toNat : Int), x.2) = x := by rw [Int.toNat_of_nonneg hx.2]
      have := (h.d x.1.toNat x.2 (by lia) hx.1).2 y (by rw [e]; exact hy)
      rw [e] at hr
      have := hW.succ hx.2 hb.2.2.1 hb.2.2.2 hy
      exact ⟨‹_›, by lia⟩) hx
    exact (key hx).1
  refine ⟨w, fun n x => all, (h.s (by lia)).1, fun n x hx => ?_⟩
  have hb := hW.rch hx
  have := (h.d x.1.toNat x.2 (by lia) (all hx)).1
  rw [show ((x.1.toNat : Int), x.2) = x by rw [Int.toNat_of_nonneg hb.1]] at this
  exact this
theorem Walk.put {G : Gr} {M : Nat → List Int} (w : Walk G M) {k n : Nat} {r : Int} (hr : G.Rch n (k, r)) (hn : r ∉ M k) : Walk G (updT M k (M k ++ [r])) := by
  refine ⟨fun j => ?_, fun j x hx => ?_⟩
  · by_cases q : j = k
    · rw [q, updT_at]
      exact List.nodup_append.mpr ⟨w.nd k, List.pairwise_singleton _ _, fun a ha b hb e => hn (by rw [List.mem_singleton.mp hb] at e; exact e ▸ ha)⟩
    · rw [updT_ne _ _ q]; exact w.nd j
  · by_cases q : j = k
    · rw [q, updT_at] at hx
      rcases List.mem_append.mp hx with h | h
      · rw [q]; exact w.snd k x h
      · rw [q, List.mem_singleton.mp h]; exact ⟨n, hr⟩
    · rw [updT_ne _ _ q] at hx; exact w.snd j x hx
theorem Sub.put {M : Nat → List Int} {k : Nat} {r : Int} : Sub M (updT M k (M k ++ [r])) := fun j x hx => by
  by_cases q : j = k
  · rw [q, updT_at]; rw [q] at hx; exact List.mem_append.mpr (.inl hx)
  · rw [updT_ne _ _ q]; exact hx
theorem WalkT.next {G : Gr} {M M' : Nat → List Int} {k : Nat} (wt : WalkT G M (k + 1)) (sub : Sub M M') (keep : ∀ j, j < k + 1 → M' j = M j) (hk : ∀ r ∈ M k, G.OkW (k, r) ∧ ∀ y, G.Succ (k, r) y → y.2 ∈ M' y.1.toNat) : WalkT G M' (k + 1 + 1) := by
  refine ⟨fun o' => ⟨(wt.s (by lia)).1, fun y hy => sub _ _ ((wt.s (by lia)).2 y hy)⟩, fun j r hj hr => ?_⟩
  rw [keep j (by lia)] at hr
  by_cases q : j = k
  · subst q; exact hk r hr
  · have := wt.d j r (by lia) hr
    exact ⟨this.1, fun y hy => sub _ _ (this.2 y hy)⟩
theorem ledP_mem {rows : List (List Int)} {ns : List Int} {n o : Int} : o ∈ (irange 0 n).filter (ledP rows ns) ↔ (0 ≤ o ∧ o < n) ∧ ∃ r ∈ ns, o ∈ rows.getD r.toNat [] := by
  rw [List.mem_filter, mem_irange]
  refine and_congr Iff.rfl ?_
  unfold ledP
  constructor
  · intro h
    cases q : ns.filter fun r => decide (o ∈ rows.getD r.toNat []) with
    | nil => rw [q] at h; cases h
    | cons r l =>
      have := List.mem_filter.mp (q ▸ List.mem_cons_self : r ∈ ns.filter fun r => decide (o ∈ rows.getD r.toNat []))
      exact ⟨r, this.1, of_decide_eq_true this.2⟩
  · intro H09
    refine Classical.byContradiction fun hG => ?_
    obtain ⟨r, h1, h2⟩ := H09
    refine hG ?_
    clear hG
    have : r ∈ ns.filter fun r => decide (o ∈ rows.getD r.toNat []) := List.mem_filter.mpr ⟨h1, decide_eq_true h2⟩
    cases q : ns.filter fun r => decide (o ∈ rows.getD r.toNat []) with
    | nil => rw [q] at this; cases this
    | cons r l => rfl
structure WalN (ρ : Loc) (al ga a : Nat) (vd vp : Val) : Prop where
  r1 : ρ "_law_looks_here" = some (.ref al)
  r2 : ρ "_law_deeds" = some vd
  r3 : ρ "_law_guess_here" = some (.ref ga)
  r4 : ρ "_law_plan" = some vp
  r5 : ρ "_law_may" = some (.ref a)
theorem walked_spec (V : Env F g) {G : Gr} {many : Int} (W : G.WF many) {d al ga : Nat} {vd vp : Val} {σ : Sto} {Q : KV} {er : String → Sto → Prop}
    (hL : σ al = some (.list (G.L.map .int))) (hD : Has σ (.list (G.D.map deedD)) vd) (hg : σ ga = some (.list (G.G.map .int))) (hp : Has σ (dPlan G.S G.R) vp) (hG8 : G.G.length ≤ 8)
    (hN : ∀ σ', Ext σ σ' → ¬ G.GoodW → Q .none σ') (hQ : ∀ a bs M σ', Cells σ σ' a bs (RL M) → bs.length = G.R.length → Walked G M → Q (.ref a) σ') : F (d + 2) false "_law_walked" [.ref al, vd, .ref ga, vp] σ Q er := by
  refine Classical.byContradiction fun hG => ?_
  obtain ⟨ap, x, y, h1, h2, h3⟩ := has_tup2 hp
  obtain ⟨ar, xr, har, hxr⟩ := has_list h3
  refine hG ?_
  clear hG
  have hlr := hxr.len
  have hrows := W.rows
  have f6 := V.l6
  have f9 := V.l9
  refine FnOk.go V.la rfl ?_
  refine s_cons ?_; refine s_assign ?_; refine r_comp rfl ?_; refine r_sub ?_; refine r_s rfl ?_; refine v_sub1 ?_; refine r_s rfl ?_
  refine sub1 h1 ?_
  refine fresh_list (o := .list []) har (by lia) (fun ρ' σ' K' hK => r_list0 hK) fun a bs σ1 hbs C0 => ?_
  have hbl : bs.length = G.R.length := hbs.trans hlr
  refine v_asgn ?_; refine s_cons ?_; refine s_for rfl ?_; refine r_bcall rfl ?_; refine r_cons ?_; refine r_s rfl ?_; refine v_cons ?_; refine r_cons ?_; refine r_bcall rfl ?_; refine r_cons ?_; refine r_sub ?_; refine r_s rfl ?_; refine v_sub1 ?_; refine r_s rfl ?_
  refine sub1 (C0.e _ _ h1) ?_
  refine v_cons ?_; refine r_ss rfl ?_; refine v_push ?_
  refine b_len (C0.e _ _ har) ?_
  rw [hlr]
  refine b_range2 (by decide) (by lia) (by lia) fun r hr => ?_
  have C1 : Cells σ σ1 a bs (RL fun o' => []) := ⟨C0.e, C0.la, C0.nd, C0.fr, C0.at_⟩
  have C := C1.base hr (.range (-1) G.R.length)
  have e1 : Ext σ (σ.set r (.range (-1) G.R.length)) := .set (C1.e.new hr) _
  have hr0 := set_at σ1 r (.range (-1) G.R.length)
  have hr1 := set_at σ r (.range (-1) G.R.length)
  replace hL := e1 _ _ hL
  replace hD := hD.ext e1
  replace hg := e1 _ _ hg
  replace h1 := e1 _ _ h1
  replace h2 := h2.ext e1
  replace h3 := h3.ext e1
  replace hN := fun σ' e => hN σ' (e1.trans e)
  replace hQ := fun a bs M σ' (C : Cells (σ.set r (.range (-1) G.R.length)) σ' a bs (RL M)) => hQ a bs M σ' ⟨e1.trans C.e, C.la, C.nd, fun b hb => ⟨e1.new (C.fr b hb).1, (C.fr b hb).2⟩, C.at_⟩
  clear C0 C1 e1 hp har hxr hlr hbs
  generalize σ.set r (.range (-1) G.R.length) = σ2 at *
  generalize σ1.set r (.range (-1) G.R.length) = σ3 at *
  clear hr
  refine w_on (turns_range hr0) ?_
  refine for_rel _ (fun ks ρ' σ' => WalN ρ' al ga a vd (.ref ap) ∧ ∃ (p : Nat) (M : Nat → List Int), ks = irange ((p : Int) - 1) G.R.length ∧ Cells σ2 σ' a bs (RL M) ∧ Walk G M ∧ WalkT G M p) ?_ ?_ ?_ _ _ _ σ3 ran_turns
    ⟨⟨by (repeat (first | with_reducible exact l_here | assumption | refine l_there rfl ?_ | with_reducible refine l_bind ?_ | with_reducible refine l_bind0 ?_)), by (repeat (first | with_reducible exact l_here | assumption | refine l_there rfl ?_ | with_reducible refine l_bind ?_ | with_reducible refine l_bind0 ?_)), by (repeat (first | with_reducible exact l_here | assumption | refine l_there rfl ?_ | with_reducible refine l_bind ?_ | with_reducible refine l_bind0 ?_)), by (repeat (first | with_reducible exact l_here | assumption | refine l_there rfl ?_ | with_reducible refine l_bind ?_ | with_reducible refine l_bind0 ?_)), by (repeat (first | with_reducible exact l_here | assumption | refine l_there rfl ?_ | with_reducible refine l_bind ?_ | with_reducible refine l_bind0 ?_))⟩, 0, fun o' => [], rfl, C, ⟨fun o' => List.Pairwise.nil, fun o' o' h => (nomatch h)⟩, ⟨fun h => absurd h (by decide), fun o' o' o' h => (nomatch h)⟩⟩
  · rintro ks ρ' σ' ⟨_, p, M, _, C, _⟩; exact stay_range hr0 (C.e _ _ hr1)
  · intro ρ' σ' H09
    refine Classical.byContradiction fun hG => ?_
    obtain ⟨⟨r1, r2, r3, r4, r5⟩, p, M, hk, C, w, t⟩ := H09
    refine hG ?_
    clear hG
    have hk := irange_nil hk
    refine s_nxt ?_; refine s_cons ?_; refine s_ret ?_; refine r_var (by assumption) ?_; refine v_ret ?_; refine s_out ?_; refine k_ret ?_
    exact hQ _ _ _ _ C hbl (WalkT.end_ W w ⟨fun o' => t.s (by lia), fun k r hk' => t.d k r (by lia)⟩)
  · intro i ks t ρ' σ' K H09 H19 hn hret
    refine Classical.byContradiction fun hG => ?_
    obtain ⟨v, rfl, i0, i1, rfl⟩ := H09
    obtain ⟨N, p, M, hk, C, w, wt⟩ := H19
    obtain ⟨hi, hks⟩ := irange_cons hk
    refine hG ?_
    clear hG
    rw [show ((p : Int) - 1 + 1) = ((p + 1 : Nat) : Int) - 1 by lia] at hks
    have inner : ∀ (ws : List Way) (rs : List Int) (ra : Nat) (vw : Val) (lo : Nat) (ρ'' : Loc) (τ τ' : Sto), WalN ρ'' al ga a vd (.ref ap) → ρ'' "_law_ways_here" = some vw → ρ'' "_law_rooms" = some (.ref ra) → Ext σ2 τ → Has τ (dWays ws) vw → ws.length ≤ 1000 → τ ra = some (.list (rs.map .int)) → Cells τ τ' a bs (RL M) → (∀ r ∈ rs, 0 ≤ r ∧ r < many) →
        (∀ r ∈ rs, ∀ q, wayOf ws (G.look r) = some q → lo ≤ q ∧ q < G.R.length ∧ ∃ n, G.Rch n (q, r)) → ((∃ r ∈ rs, wayOf ws (G.look r) = none) → ¬ G.GoodW) → (∀ M', Walk G M' → Sub M M' → (∀ k, k < lo → M' k = M k) → (∀ r ∈ rs, ∃ q, wayOf ws (G.look r) = some q ∧ r ∈ M' q.toNat) → WalkT G M' (p + 1)) →
        wpSs (F (d + 1)) (g.at false er) [.for_ 1 ["_law_room"] (.var "_law_rooms")
          [.assign "_law_place" (.call "_law_way_for" [(.var "_law_ways_here"), (.sub (.var "_law_looks_here") (.var "_law_room"))]),
           .if_ (.cmp .is_ (.var "_law_place") .none_)
             [.ret .none_]
             [],
           .if_ (.cmp .notIn (.var "_law_room") (.sub (.var "_law_may") (.var "_law_place")))
             [.expr (.meth (.sub (.var "_law_may") (.var "_law_place")) .append [(.var "_law_room")])]
             []]] ρ'' τ' K := by
      intro ws rs ra vw lo ρ'' τ τ' N hvw hra e hw hwl hrs C hrm hrq hno hfin
      refine Classical.byContradiction fun hG => ?_
      obtain ⟨r1, r2, r3, r4, r5⟩ := N
      refine hG ?_
      clear hG
      have hrs1 := C.e _ _ hrs
      refine s_cons ?_; refine s_for rfl ?_; refine r_var (by assumption) ?_
      refine w_on (turns_list hrs1) ?_
      refine for_rel (one1 fun (i : Int) v => v = .int i) (fun ls ρ'' τ'' => WalN ρ'' al ga a vd (.ref ap) ∧ ρ'' "_law_ways_here" = some vw ∧ ∃ M', Cells τ τ'' a bs (RL M') ∧ Walk G M' ∧ Sub M M' ∧ (∀ k, k < lo → M' k = M k) ∧ (∀ r ∈ ls, r ∈ rs) ∧ ∀ r ∈ rs, r ∈ ls ∨ ∃ q, wayOf ws (G.look r) = some q ∧ r ∈ M' q.toNat) ?_ ?_ ?_ _ _ _ τ' (All2.turns (All2.of fun o' o' => rfl))
        ⟨⟨by (repeat (first | with_reducible exact l_here | assumption | refine l_there rfl ?_ | with_reducible refine l_bind ?_ | with_reducible refine l_bind0 ?_)), by (repeat (first | with_reducible exact l_here | assumption | refine l_there rfl ?_ | with_reducible refine l_bind ?_ | with_reducible refine l_bind0 ?_)), by (repeat (first | with_reducible exact l_here | assumption | refine l_there rfl ?_ | with_reducible refine l_bind ?_ | with_reducible refine l_bind0 ?_)), by (repeat (first | with_reducible exact l_here | assumption | refine l_there rfl ?_ | with_reducible refine l_bind ?_ | with_reducible refine l_bind0 ?_)), by (repeat (first | with_reducible exact l_here | assumption | refine l_there rfl ?_ | with_reducible refine l_bind ?_ | with_reducible refine l_bind0 ?_))⟩, by (repeat (first | with_reducible exact l_here | assumption | refine l_there rfl ?_ | with_reducible refine l_bind ?_ | with_reducible refine l_bind0 ?_)), M, C, w, fun o' o' h => h, fun o' o' => rfl, fun o' h => h, fun o' h => .inl h⟩
      · rintro ls ρ'' τ'' ⟨_, _, M', C', _⟩; exact stay_list hrs1 (C'.e _ _ hrs)
      · intro ρ'' τ'' H09
        refine Classical.byContradiction fun hG => ?_
        obtain ⟨N, _, M', C', w', sub, keep, _, hall⟩ := H09
        refine hG ?_
        clear hG
        refine s_nxt ?_; refine s_nil ?_
        refine hn _ _ ⟨N, p + 1, M', hks, ⟨e.trans C'.e, C'.la, C'.nd, fun b hb => ⟨e.new (C'.fr b hb).1, (C'.fr b hb).2⟩, C'.at_⟩, w', hfin M' w' sub keep fun r hr => (hall r hr).resolve_left fun h => (nomatch h)⟩
      · intro r ls t ρ'' τ'' K' H09 H19 hn' hret'
        refine Classical.byContradiction fun hG => ?_
        obtain ⟨v, rfl, rfl⟩ := H09
        obtain ⟨⟨r1, r2, r3, r4, r5⟩, hvw, M', C', w', sub, keep, hls, hall⟩ := H19
        refine hG ?_
        clear hG
        have hr := hls r (.head _)
        have hrm := hrm r hr
        refine s_cons ?_; refine s_assign ?_; refine r_calln (FnOk.cf (by assumption)) ?_; refine r_cons ?_; refine r_var (by assumption) ?_; refine v_cons ?_; refine r_cons ?_; refine r_sub ?_; refine r_var (by assumption) ?_; refine v_sub1 ?_; refine r_s rfl ?_
        refine sub_look W ((e.trans C'.e) _ _ hL) hrm.1 hrm.2 ?_
        refine way_for_spec f9 (hw.ext C'.e) hwl (fun hq σ4 e4 => ?_) fun k hq σ4 e4 => ?_
        · refine v_asgn ?_; refine t_if ?_; refine r_cmp ?_; refine r_s rfl ?_; refine v_cmp ?_; refine r_s rfl ?_; refine v_is0 ?_; refine v_ift ?_; refine t_ret ?_; refine r_s rfl ?_; refine v_ret ?_; refine s_out ?_
          exact hret' _ _ _ (hret _ _ _ (hN _ ((e.trans C'.e).trans e4) (hno ⟨r, hr, hq⟩)))
        · refine Classical.byContradiction fun hG => ?_
          obtain ⟨k0, k1, n, hrch⟩ := hrq r hr k hq
          obtain ⟨k, rfl⟩ := Int.eq_ofNat_of_zero_le (show 0 ≤ k by lia)
          refine hG ?_
          clear hG
          have C4 := C'.ext e4
          refine v_asgn ?_; refine t_if ?_; refine r_cmp ?_; refine r_s rfl ?_; refine v_cmp ?_; refine r_s rfl ?_; refine v_isi ?_; refine v_iffn ?_; refine t_if ?_; refine r_cmp ?_; refine r_s rfl ?_; refine v_cmp ?_; refine r_sub ?_; refine r_var (by assumption) ?_; refine v_sub1 ?_; refine r_s rfl ?_
          refine C4.sub (Int.natCast_nonneg k) (by lia) fun b ob hb hob hR => ?_
          rw [Int.toNat_natCast] at hb hR
          cases hR
          refine c_nin hob ?_
          have more : ∀ M'' ρ''' τ3, WalN ρ''' al ga a vd (.ref ap) → ρ''' "_law_ways_here" = some vw → Cells τ τ3 a bs (RL M'') → Walk G M'' → Sub M' M'' → (∀ k, k < lo → M'' k = M' k) → r ∈ M'' k → K' .next ρ''' τ3 := fun M'' ρ''' τ3 N hv C3 w3 s3 k3 h3 => hn' _ _ ⟨N, hv, M'', C3, w3, fun j x hx => s3 j x (sub j x hx), fun j hj => (k3 j hj).trans (keep j hj), fun x hx => hls x (.tail _ hx), fun x hx => (hall x hx).elim (fun h => (List.mem_cons.mp h).elim (fun q => .inr ⟨k, by rw [q]; exact hq, by rw [q]; exact h3⟩) .inl) fun ⟨q, g1, g2⟩ => .inr ⟨q, g1, s3 _ _ g2⟩⟩
          by_cases q : r ∈ M' k
          · rw [decide_eq_true q]
            refine v_b ?_; refine v_ifnn rfl ?_; refine s_nil ?_
            exact more M' _ _ ⟨by (repeat (first | with_reducible exact l_here | assumption | refine l_there rfl ?_ | with_reducible refine l_bind ?_ | with_reducible refine l_bind0 ?_)), by (repeat (first | with_reducible exact l_here | assumption | refine l_there rfl ?_ | with_reducible refine l_bind ?_ | with_reducible refine l_bind0 ?_)), by (repeat (first | with_reducible exact l_here | assumption | refine l_there rfl ?_ | with_reducible refine l_bind ?_ | with_reducible refine l_bind0 ?_)), by (repeat (first | with_reducible exact l_here | assumption | refine l_there rfl ?_ | with_reducible refine l_bind ?_ | with_reducible refine l_bind0 ?_)), by (repeat (first | with_reducible exact l_here | assumption | refine l_there rfl ?_ | with_reducible refine l_bind ?_ | with_reducible refine l_bind0 ?_))⟩ (by (repeat (first | with_reducible exact l_here | assumption | refine l_there rfl ?_ | with_reducible refine l_bind ?_ | with_reducible refine l_bind0 ?_))) C4 w' (fun o' o' h => h) (fun o' o' => rfl) q
          · rw [decide_eq_false q]
            refine v_b ?_; refine v_ifp rfl ?_; refine t_expr ?_; refine r_meth ?_; refine r_sub ?_; refine r_var (by assumption) ?_; refine v_sub1 ?_; refine r_s rfl ?_
            refine C4.sub (Int.natCast_nonneg k) (by lia) fun b ob hb hob hR => ?_
            rw [Int.toNat_natCast] at hb hR
            cases hR
            refine v_mon (by assumption) ?_; refine r_ss rfl ?_
            refine m_app hob ?_ ?_
            · rw [List.length_map]
              have := few (n := 8) (w'.nd k) fun x hx => by
                obtain ⟨n, hx⟩ := w'.snd k x hx
                exact ⟨(W.rch hx).2.2.1, Int.lt_of_lt_of_le (W.rch hx).2.2.2 W.m8⟩
              lia
            refine v_exprn ?_; refine s_nil2 ?_; refine s_nil ?_
            refine more (updT M' k (M' k ++ [r])) _ _ ⟨by (repeat (first | with_reducible exact l_here | assumption | refine l_there rfl ?_ | with_reducible refine l_bind ?_ | with_reducible refine l_bind0 ?_)), by (repeat (first | with_reducible exact l_here | assumption | refine l_there rfl ?_ | with_reducible refine l_bind ?_ | with_reducible refine l_bind0 ?_)), by (repeat (first | with_reducible exact l_here | assumption | refine l_there rfl ?_ | with_reducible refine l_bind ?_ | with_reducible refine l_bind0 ?_)), by (repeat (first | with_reducible exact l_here | assumption | refine l_there rfl ?_ | with_reducible refine l_bind ?_ | with_reducible refine l_bind0 ?_)), by (repeat (first | with_reducible exact l_here | assumption | refine l_there rfl ?_ | with_reducible refine l_bind ?_ | with_reducible refine l_bind0 ?_))⟩ (by (repeat (first | with_reducible exact l_here | assumption | refine l_there rfl ?_ | with_reducible refine l_bind ?_ | with_reducible refine l_bind0 ?_))) (C4.set hb (fun j o q h => ?_) ?_) (w'.put hrch q) .put (fun j hj => updT_ne _ _ (by lia)) (by rw [updT_at]; exact List.mem_append.mpr (.inr (.head _)))
            · show o = .list ((updT M' k _ j).map .int)
              rw [updT_ne _ _ q]; exact h
            · show _ = Ob.list ((updT M' k _ k).map .int)
              rw [updT_at, List.map_append]; rfl
    refine Classical.byContradiction fun hG => ?_
    obtain ⟨r1, r2, r3, r4, r5⟩ := N
    refine hG ?_
    clear hG
    refine s_cons ?_; refine s_assign ?_; refine r_sub ?_; refine r_var (by assumption) ?_; refine v_sub1 ?_; refine r_s rfl ?_
    refine sub0 (C.e _ _ h1) ?_
    refine v_asgn ?_; refine t_assign ?_; refine r_var (by assumption) ?_; refine v_asgn ?_; refine t_if ?_; refine r_s rfl ?_
    cases p with
    | zero =>
      rw [show decide (i ≥ 0) = false from decide_eq_false (by lia)]
      refine v_iff ?_; refine s_nil ?_
      refine inner G.S G.G ga x 0 _ σ2 σ' ⟨by (repeat (first | with_reducible exact l_here | assumption | refine l_there rfl ?_ | with_reducible refine l_bind ?_ | with_reducible refine l_bind0 ?_)), by (repeat (first | with_reducible exact l_here | assumption | refine l_there rfl ?_ | with_reducible refine l_bind ?_ | with_reducible refine l_bind0 ?_)), by (repeat (first | with_reducible exact l_here | assumption | refine l_there rfl ?_ | with_reducible refine l_bind ?_ | with_reducible refine l_bind0 ?_)), by (repeat (first | with_reducible exact l_here | assumption | refine l_there rfl ?_ | with_reducible refine l_bind ?_ | with_reducible refine l_bind0 ?_)), by (repeat (first | with_reducible exact l_here | assumption | refine l_there rfl ?_ | with_reducible refine l_bind ?_ | with_reducible refine l_bind0 ?_))⟩ (by (repeat (first | with_reducible exact l_here | assumption | refine l_there rfl ?_ | with_reducible refine l_bind ?_ | with_reducible refine l_bind0 ?_))) (by (repeat (first | with_reducible exact l_here | assumption | refine l_there rfl ?_ | with_reducible refine l_bind ?_ | with_reducible refine l_bind0 ?_))) (.refl _) h2 ?_ hg C W.gs (fun r hr q hq => ?_) (fun ⟨r, hr, hq⟩ hG => hG.1 r hr hq) fun M' o' o' o' hall => ⟨fun o' => ⟨fun r hr e => ?_, fun y hy => ?_⟩, fun k r hk => absurd hk (by lia)⟩
      · have := W.plan
        simp only [goodP, Bool.and_eq_true] at this
        exact Nat.le_trans (goodW_len this.1.2) (by decide)
      · have := W.start (y := (q, r)) ⟨hr, hq⟩
        exact ⟨this.1, this.2.1, 0, (q, r), ⟨hr, hq⟩, rfl⟩
      · refine Classical.byContradiction fun hG => ?_
        obtain ⟨q, g1, _⟩ := hall r hr
        refine hG ?_
        clear hG
        rw [g1] at e; cases e
      · refine Classical.byContradiction fun hG => ?_
        obtain ⟨q, g1, g2⟩ := hall _ hy.1
        refine hG ?_
        clear hG
        rw [hy.2] at g1; cases g1; exact g2
    | succ k =>
      have hik : i = (k : Int) := by lia
      subst hik
      rw [show decide ((k : Int) ≥ 0) = true from decide_eq_true (by lia)]
      have hkl : k < G.R.length := by lia
      obtain ⟨⟨dd, ws⟩, hrow⟩ : ∃ row, G.R[k]? = some row := ⟨_, List.getElem?_eq_getElem hkl⟩
      refine v_ift ?_; refine s_cons ?_; refine s_unpack rfl ?_; refine r_sub ?_; refine r_sub ?_; refine r_var (by assumption) ?_; refine v_sub1 ?_; refine r_s rfl ?_
      refine sub1 (C.e _ _ h1) ?_
      refine v_sub1 ?_; refine r_s rfl ?_
      refine sub_row h3 C.e hrow fun b yw hb hyw => ?_
      refine u_seq (C.e _ _ hb) rfl ?_
      cases dd with
      | none =>
        show nxt (F (d + 1)) _ _ _ .next (bindT ["_law_deed", "_law_ways_here"] [.none, yw] _) _
        refine s_nxt ?_; refine s_cons ?_; refine s_assign ?_; refine r_ite ?_; refine r_cmp ?_; refine r_s rfl ?_; refine v_cmp ?_; refine r_s rfl ?_; refine v_is0 ?_; refine v_itet ?_; refine r_list0 ?_
        refine n_ob fun z hz => ?_
        refine v_asg ?_
        have C5 := C.ext (.set hz (.list []))
        refine inner ws [] z yw (k + 1) _ _ _ ⟨by (repeat (first | with_reducible exact l_here | assumption | refine l_there rfl ?_ | with_reducible refine l_bind ?_ | with_reducible refine l_bind0 ?_)), by (repeat (first | with_reducible exact l_here | assumption | refine l_there rfl ?_ | with_reducible refine l_bind ?_ | with_reducible refine l_bind0 ?_)), by (repeat (first | with_reducible exact l_here | assumption | refine l_there rfl ?_ | with_reducible refine l_bind ?_ | with_reducible refine l_bind0 ?_)), by (repeat (first | with_reducible exact l_here | assumption | refine l_there rfl ?_ | with_reducible refine l_bind ?_ | with_reducible refine l_bind0 ?_)), by (repeat (first | with_reducible exact l_here | assumption | refine l_there rfl ?_ | with_reducible refine l_bind ?_ | with_reducible refine l_bind0 ?_))⟩ (by (repeat (first | with_reducible exact l_here | assumption | refine l_there rfl ?_ | with_reducible refine l_bind ?_ | with_reducible refine l_bind0 ?_))) (by (repeat (first | with_reducible exact l_here | assumption | refine l_there rfl ?_ | with_reducible refine l_bind ?_ | with_reducible refine l_bind0 ?_))) C5.offE (hyw.ext C5.offE) ?_ (by rw [off_ne (C.not hz), set_at]; rfl) C5.off (fun o' h => (nomatch h)) (fun o' h => (nomatch h)) (fun ⟨_, h, _⟩ => (nomatch h)) fun M' o' sub keep o' => wt.next sub keep fun r hr => ?_
        · have := W.row hrow
          simp only [goodR, List.isEmpty_iff] at this
          rw [this]; decide
        · have no : ∀ {d' ws'}, G.R[((k : Int), r).1.toNat]? = some (some d', ws') → False := fun h' => by
            have e := hrow.symm.trans h'
            cases e
          exact ⟨fun d' ws' h' => (no h').elim, fun y' ⟨d', ws', h', _⟩ => (no h').elim⟩
      | some dd =>
        have hdg := (W.deed hrow).2.2
        have hdl := W.deeds _ (W.deedAt hrow)
        have hm8 := W.m8
        have same : ∀ {r : Int} {d' ws'}, G.R[((k : Int), r).1.toNat]? = some (some d', ws') → d' = dd ∧ ws' = ws := fun h' => by
          have e := hrow.symm.trans h'
          cases e; exact ⟨rfl, rfl⟩
        have hMr : ∀ r ∈ M k, (∃ n, G.Rch n ((k : Int), r)) ∧ 0 ≤ r ∧ r < many := fun r hr => by
          obtain ⟨n, hr⟩ := w.snd k r hr
          exact ⟨⟨n, hr⟩, (W.rch hr).2.2⟩
        have hM8 := few (n := 8) (w.nd k) fun x hx => ⟨(hMr x hx).2.1, Int.lt_of_lt_of_le (hMr x hx).2.2 W.m8⟩
        show nxt (F (d + 1)) _ _ _ .next (bindT ["_law_deed", "_law_ways_here"] [.int dd, yw] _) _
        refine s_nxt ?_; refine s_cons ?_; refine s_assign ?_; refine r_ite ?_; refine r_cmp ?_; refine r_s rfl ?_; refine v_cmp ?_; refine r_s rfl ?_; refine v_isi ?_; refine v_itef ?_; refine r_calln (FnOk.cf (by assumption)) ?_; refine r_cons ?_; refine r_sub ?_; refine r_var (by assumption) ?_; refine v_sub1 ?_; refine r_s rfl ?_
        refine sub_deed W hD C.e hrow fun w2 hw2 => ?_
        refine v_cons ?_; refine r_cons ?_; refine r_sub ?_; refine r_var (by assumption) ?_; refine v_sub1 ?_; refine r_s rfl ?_
        refine C.sub (Int.natCast_nonneg k) (by lia) fun b ob hb hob hR => ?_
        rw [Int.toNat_natCast] at hR
        cases hR
        refine led_spec f6 (hw2.ext C.e) hob (by lia) (by lia) (fun r hr => ⟨(hMr r hr).2.1, hdl.1.symm ▸ (hMr r hr).2.2⟩) fun c σ5 e5 hc5 hcv => ?_
        refine v_asg ?_
        have C5 := C.ext e5
        have hmem : ∀ {o}, o ∈ (irange 0 (G.D.getD dd.toNat []).length).filter (ledP (G.D.getD dd.toNat []) (M k)) ↔ ∃ r ∈ M k, o ∈ G.led dd r := fun {o} => ledP_mem.trans ⟨fun h => h.2, fun ⟨r, h1, h2⟩ => ⟨⟨((W.led hrow (hMr r h1).2.1 (hMr r h1).2.2).2 o h2).1, hdl.1.symm ▸ ((W.led hrow (hMr r h1).2.1 (hMr r h1).2.2).2 o h2).2⟩, r, h1, h2⟩⟩
        refine inner ws ((irange 0 (G.D.getD dd.toNat []).length).filter (ledP (G.D.getD dd.toNat []) (M k))) c yw (k + 1) _ _ _ ⟨by (repeat (first | with_reducible exact l_here | assumption | refine l_there rfl ?_ | with_reducible refine l_bind ?_ | with_reducible refine l_bind0 ?_)), by (repeat (first | with_reducible exact l_here | assumption | refine l_there rfl ?_ | with_reducible refine l_bind ?_ | with_reducible refine l_bind0 ?_)), by (repeat (first | with_reducible exact l_here | assumption | refine l_there rfl ?_ | with_reducible refine l_bind ?_ | with_reducible refine l_bind0 ?_)), by (repeat (first | with_reducible exact l_here | assumption | refine l_there rfl ?_ | with_reducible refine l_bind ?_ | with_reducible refine l_bind0 ?_)), by (repeat (first | with_reducible exact l_here | assumption | refine l_there rfl ?_ | with_reducible refine l_bind ?_ | with_reducible refine l_bind0 ?_))⟩ (by (repeat (first | with_reducible exact l_here | assumption | refine l_there rfl ?_ | with_reducible refine l_bind ?_ | with_reducible refine l_bind0 ?_))) (by (repeat (first | with_reducible exact l_here | assumption | refine l_there rfl ?_ | with_reducible refine l_bind ?_ | with_reducible refine l_bind0 ?_))) C5.offE (hyw.ext C5.offE) (Nat.le_trans (goodW_len hdg) (by decide)) (by rw [off_ne (C.not hc5)]; exact hcv) C5.off (fun o ho => ?_) (fun o ho q hq => ?_) (fun ⟨o, ho, hq⟩ hG => ?_) fun M' o' sub keep hall => wt.next sub keep fun r hr => ⟨fun d' ws' h' o ho e => ?_, fun y' ⟨d', ws', h', h5, h6⟩ => ?_⟩
        · refine Classical.byContradiction fun hG => ?_
          obtain ⟨r, g1, g2⟩ := hmem.mp ho
          refine hG ?_
          clear hG
          exact (W.led hrow (hMr r g1).2.1 (hMr r g1).2.2).2 o g2
        · refine Classical.byContradiction fun hG => ?_
          obtain ⟨r, g1, g2⟩ := hmem.mp ho
          obtain ⟨⟨n, g3⟩, _⟩ := hMr r g1
          refine hG ?_
          clear hG
          have := wayOf_good hdg hq
          exact ⟨this.1, this.2, n + 1, Gr.rch_step g3 ⟨dd, ws, hrow, g2, hq⟩⟩
        · refine Classical.byContradiction fun hG => ?_
          obtain ⟨r, g1, g2⟩ := hmem.mp ho
          obtain ⟨⟨n, g3⟩, _⟩ := hMr r g1
          refine hG ?_
          clear hG
          exact hG.2 _ _ g3 _ _ hrow o g2 hq
        · refine Classical.byContradiction fun hG => ?_
          obtain ⟨rfl, rfl⟩ := same h'
          obtain ⟨q, g1, _⟩ := hall o (hmem.mpr ⟨r, hr, ho⟩)
          refine hG ?_
          clear hG
          rw [g1] at e; cases e
        · refine Classical.byContradiction fun hG => ?_
          obtain ⟨rfl, rfl⟩ := same h'
          obtain ⟨q, g1, g2⟩ := hall _ (hmem.mpr ⟨r, hr, h5⟩)
          refine hG ?_
          clear hG
          rw [h6] at g1; cases g1; exact g2
end BP

namespace BP
open PySem
variable {F : Nat → CallW} {g : Glo}
theorem All2.left {α β : Type} {R : α → β → Prop} {as : List α} {bs : List β} (h : All2 R as bs) : ∀ b ∈ bs, ∃ a ∈ as, R a b := by
  induction h with
  | nil => exact fun o' h => nomatch h
  | cons h1 _ ih => exact fun b hb => (List.mem_cons.mp hb).elim (fun q => ⟨_, .head _, q ▸ h1⟩) fun q => (ih b q).elim fun x hx => ⟨x, .tail _ hx.1, hx.2⟩
theorem All2.right {α β : Type} {R : α → β → Prop} {as : List α} {bs : List β} (h : All2 R as bs) : ∀ a ∈ as, ∃ b ∈ bs, R a b := by
  induction h with
  | nil => exact fun o' h => nomatch h
  | cons h1 _ ih => exact fun b hb => (List.mem_cons.mp hb).elim (fun q => ⟨_, .head _, q ▸ h1⟩) fun q => (ih b q).elim fun x hx => ⟨x, .tail _ hx.1, hx.2⟩
theorem all_nats {α : Type} {P : α → Nat → Prop} {as : List α} {ys : List Val} (h : All2 (fun a v => ∃ t : Nat, v = .int t ∧ P a t) as ys) : ∃ ts : List Nat, ys = (ts.map fun t : Nat => (t : Int)).map .int ∧ All2 P as ts := by
  induction h with
  | nil => exact ⟨[], rfl, .nil⟩
  | cons h1 _ ih => exact h1.elim fun t ht => ih.elim fun ts k => ⟨t :: ts, by rw [ht.1, k.1]; rfl, .cons ht.2 k.2⟩
noncomputable def ValT (G : Gr) (ws : List Way) (es : List (List Int × Nat × Val)) (r : Int) (t : Nat) : Prop := ∃ q, wayOf ws (G.look r) = some q ∧ tget es [q, r] = some (.int t)
theorem keysIn.ext {σ σ' : Sto} {es : List (List Int × Nat × Val)} (h : keysIn σ es) (e : Ext σ σ') : keysIn σ' es := fun x hx => e _ _ (h x hx)
theorem most_spec (V : Env F g) {G : Gr} {many : Int} (W : G.WF many) {d al ra dn ep : Nat} {rs : List Int} {ws : List Way} {vw : Val} {es : List (List Int × Nat × Val)} {σ : Sto} {Q : KV} {er : String → Sto → Prop} (hL : σ al = some (.list (G.L.map .int))) (hw : Has σ (dWays ws) vw) (hwl : ws.length ≤ 1000) (hr : σ ra = some (.list (rs.map .int))) (hrl : rs.length ≤ 1000) (hrm : ∀ r ∈ rs, 0 ≤ r ∧ r < many) (hr0 : rs ≠ [])
    (hd : σ dn = some (.tdict ep es)) (hk : keysIn σ es) (hv : ∀ r ∈ rs, ∃ t, ValT G ws es r t) (hQ : ∀ m r σ', Ext σ σ' → r ∈ rs → ValT G ws es r m → (∀ o ∈ rs, ∃ t, ValT G ws es o t ∧ t ≤ m) → Q (.int m) σ') : F (d + 2) false "_law_most" [.ref al, vw, .ref ra, .ref dn] σ Q er := by
  have l9 := V.l9
  refine FnOk.go V.lb rfl ?_
  refine s_cons ?_; refine s_ret ?_; refine r_bcall rfl ?_; refine r_cons ?_; refine r_comp rfl ?_; refine r_s rfl ?_
  refine comp_list (fun (i : Int) v => v = .int i) (fun o' r v => ∃ t : Nat, v = .int t ∧ ValT G ws es r t) (fun o' h => h) hr (by rw [List.length_map]; lia) (All2.of fun o' o' => rfl) ?_ ?_
  · intro r hr' v σ' hv' e K' hK
    subst hv'
    have hm := hrm r hr'
    refine Classical.byContradiction fun hG => ?_
    obtain ⟨t, q, h1, h2⟩ := hv r hr'
    refine hG ?_
    clear hG
    refine r_sub ?_; refine r_s rfl ?_; refine v_sub1 ?_; refine r_tup ?_; refine r_cons ?_; refine r_calln (FnOk.cf (by assumption)) ?_; refine r_cons ?_; refine r_s rfl ?_; refine v_cons ?_; refine r_cons ?_; refine r_sub ?_; refine r_s rfl ?_; refine v_sub1 ?_; refine r_s rfl ?_
    refine sub_look W (e _ _ hL) hm.1 hm.2 ?_
    refine way_for_spec l9 (hw.ext e) hwl (fun hq => by rw [h1] at hq; cases hq) fun k hq σ2 e2 => ?_
    rw [h1] at hq; cases hq
    refine v_cons ?_; refine r_ss rfl ?_; refine v_push ?_
    refine n_lit rfl fun c hc => ?_
    have e3 := (e.trans e2).trans (.set hc (.tup [.int q, .int r]))
    refine x_tdict (k := [q, r]) (e3 _ _ hd) (hk.ext e3) (set_at _ _ _) h2 ?_
    exact hK _ _ (e2.trans (.set hc _)) ⟨t, rfl, q, h1, h2⟩
  · intro c ys σ' e hc hys
    refine Classical.byContradiction fun hG => ?_
    obtain ⟨ts, rfl, h2⟩ := all_nats hys
    refine hG ?_
    clear hG
    refine v_cons ?_; refine r_ss rfl ?_; refine v_push ?_
    refine b_maxl (set_at _ _ _) (fun q => ?_) fun m hm hmx => ?_
    · have := h2.len
      rw [List.map_eq_nil_iff.mp q] at this
      exact hr0 (List.length_eq_zero_iff.mp this.symm)
    · refine Classical.byContradiction fun hG => ?_
      obtain ⟨t, ht, rfl⟩ := List.mem_map.mp hm
      obtain ⟨r, hr', hrt⟩ := h2.left t ht
      refine hG ?_
      clear hG
      refine v_ret ?_; refine s_out ?_; refine k_ret ?_
      refine hQ t r _ (e.trans (.set hc _)) hr' hrt fun o ho => ?_
      refine Classical.byContradiction fun hG => ?_
      obtain ⟨u, hu, hou⟩ := h2.right o ho
      refine hG ?_
      clear hG
      have := hmx (u : Int) (List.mem_map.mpr ⟨u, hu, rfl⟩)
      exact ⟨u, hou, by lia⟩
theorem keysIn_put {σ : Sto} {es : List (List Int × Nat × Val)} {k : List Int} {t : Nat} {x : Val} (h : keysIn σ es) (ht : σ t = some (.tup (k.map .int))) : keysIn σ (tput es k t x) := by
  unfold tput
  cases tget es k with
  | some _ =>
    intro e he
    refine Classical.byContradiction fun hG => ?_
    obtain ⟨e', h1, rfl⟩ := List.mem_map.mp he
    refine hG ?_
    clear hG
    by_cases q : e'.1 = k
    · rw [if_pos q]; exact h e' h1
    · rw [if_neg q]; exact h e' h1
  | none =>
    intro e he
    rcases List.mem_append.mp he with q | q
    · exact h e q
    · rw [List.mem_singleton.mp q]; exact ht
theorem keysIn.set {σ : Sto} {es : List (List Int × Nat × Val)} {dn ep : Nat} {es' : List (List Int × Nat × Val)} {ob : Ob} (h : keysIn σ es) (hd : σ dn = some (.tdict ep es')) : keysIn (σ.set dn ob) es := fun e he => by
  rw [set_ne _ _ fun q => by have := h e he; rw [q, hd] at this; cases this]; exact h e he
theorem tput_ln {es : List (List Int × Nat × Val)} {k : List Int} {t : Nat} {x : Val} : (tput es k t x).length ≤ es.length + 1 := by
  unfold tput
  cases tget es k with
  | some _ => show (es.map _).length ≤ _; rw [List.length_map]; lia
  | none => show (es ++ [_]).length ≤ _; rw [List.length_append, List.length_singleton]; lia
structure Dn (τ₀ σ : Sto) (dn : Nat) (es : List (List Int × Nat × Val)) (n : Nat) : Prop where
  e : Ext τ₀ σ
  d : ∃ ep, σ dn = some (.tdict ep es)
  k : keysIn σ es
  l : es.length ≤ n
theorem Dn.ext {τ₀ σ σ' : Sto} {dn n : Nat} {es : List (List Int × Nat × Val)} (h : Dn τ₀ σ dn es n) (e : Ext σ σ') : Dn τ₀ σ' dn es n := ⟨h.e.trans e, by obtain ⟨ep, q⟩ := h.d; exact ⟨ep, e _ _ q⟩, h.k.ext e, h.l⟩
theorem Dn.put {τ₀ σ : Sto} {dn n t : Nat} {es : List (List Int × Nat × Val)} {k : List Int} {x : Val} {K : Sto → Prop} (h0 : τ₀ dn = none) (h : Dn τ₀ σ dn es n) (hn : n ≤ 1000000) (ht : σ t = some (.tup (k.map .int))) (hK : ∀ σ', Dn τ₀ σ' dn (tput es k t x) (n + 1) → K σ') : setSubW (.ref dn) (.ref t) x σ K := by
  obtain ⟨ep, hd⟩ := h.d
  refine p_tdict hd h.k (Nat.le_trans h.l hn) ht fun ep' => hK _ ⟨h.e.upd h0 _, ⟨ep', set_at _ _ _⟩, ?_, Nat.le_trans tput_ln (Nat.succ_le_succ h.l)⟩
  exact (keysIn_put h.k ht).set hd
end BP

namespace BP
open PySem
variable {F : Nat → CallW} {g : Glo}
theorem two8 {l : Nat} (h : l + 1 ≤ 8) : 2 * (8 - (l + 1)) + 1 + 1 ≤ 2 * (8 - l) := Nat.le_of_eq (congrArg (2 * ·) (Nat.sub_add_cancel (Nat.sub_pos_of_lt h)))
theorem sm9 {a b c : Nat} (h : a ≤ 300) : 16 * (a - b) + 2 * (8 - c) + 1 ≤ 1000000 := Nat.le_trans (Nat.succ_le_succ (Nat.add_le_add (Nat.mul_le_mul_left 16 (Nat.le_trans (Nat.sub_le _ _) h)) (Nat.mul_le_mul_left 2 (Nat.sub_le 8 _)))) (by decide)
theorem sm8 {a b c : Nat} (h : a ≤ 300) : 16 * (a - b) + 2 * (8 - c) ≤ 1000000 := Nat.le_trans (Nat.add_le_add (Nat.mul_le_mul_left 16 (Nat.le_trans (Nat.sub_le _ _) h)) (Nat.mul_le_mul_left 2 (Nat.sub_le 8 _))) (by decide)
structure StpN (ρ : Loc) (al aw ga a dn : Nat) (vd vp : Val) : Prop where
  r1 : ρ "_law_looks_here" = some (.ref al)
  r2 : ρ "_law_deeds" = some vd
  r3 : ρ "_law_guess_here" = some (.ref ga)
  r4 : ρ "_law_plan" = some vp
  r5 : ρ "_law_may" = some (.ref a)
  r6 : ρ "_law_wished_here" = some (.ref aw)
  r7 : ρ "_law_done" = some (.ref dn)
noncomputable def InT (G : Gr) (es : List (List Int × Nat × Val)) (x : Nd) : Prop := ∃ t : Nat, tget es [x.1, x.2] = some (.int t) ∧ G.Lng t x ∧ G.OkE x
theorem InT.put {G : Gr} {es : List (List Int × Nat × Val)} {x : Nd} {k : List Int} {t : Nat} {v : Val} (h : InT G es x) (hk : [x.1, x.2] ≠ k) : InT G (tput es k t v) x := by
  refine Classical.byContradiction fun hG => ?_
  obtain ⟨u, h1, h2⟩ := h
  refine hG ?_
  clear hG
  exact ⟨u, by rw [tget_tput, if_neg hk]; exact h1, h2⟩
theorem turns_rev {σ : Sto} {a : Nat} {lo hi : Int} (h : σ a = some (.range lo hi)) : turnsOf σ (.ref a) 4 = some (((irange lo hi).reverse.map Val.int).map fun v => [v]) := by simp [turnsOf, revV, h]
theorem rev_cons {p : Nat} {i : Int} {l : List Int} (h : i :: l = (irange 0 p).reverse) : ∃ k : Nat, p = k + 1 ∧ i = k ∧ l = (irange 0 k).reverse := by
  cases p with
  | zero => exact absurd h (List.cons_ne_nil _ _)
  | succ k =>
    have e : irange 0 ((k + 1 : Nat) : Int) = irange 0 (k : Int) ++ [(k : Int)] := by
      unfold irange
      rw [show (((k + 1 : Nat) : Int) - 0).toNat = k + 1 by lia, show ((k : Int) - 0).toNat = k by lia, List.range_succ, List.map_append]
      congr 1
      show [(0 : Int) + (k : Int)] = [(k : Int)]
      rw [Int.zero_add]
    rw [e, List.reverse_append, List.reverse_singleton] at h
    obtain ⟨a, b⟩ := List.cons.inj h
    exact ⟨k, rfl, a, b⟩
theorem steps_spec (V : Env F g) {G : Gr} {many : Int} (W : G.WF many) {d ga aw : Nat} {Wd : List Int} {vh vp : Val} {σ : Sto} {Q : KV} {er : String → Sto → Prop}
    (hh : Has σ (houseD G.L G.D Wd) vh) (hg : σ ga = some (.list (G.G.map .int))) (hp : Has σ (dPlan G.S G.R) vp) (hw : σ aw = some (.list (G.W.map .int))) (hG8 : G.G.length ≤ 8)
    (hQ : ∀ v σ', Ext σ σ' → G.Ans v → Q v σ') : F (d + 3) false "_law_steps" [vh, .ref ga, vp, .ref aw] σ Q er := by
  obtain ⟨ah, x0, r0, rfl, hah, hx0, y0, r1, rfl, hy0, z0, r2, rfl, hz0, rfl⟩ : ∃ a x r, vh = .ref a ∧ σ a = some (.tup (x :: r)) ∧ Has σ (ilist G.L) x ∧ ∃ y r', r = y :: r' ∧ Has σ (.list (G.D.map deedD)) y ∧ ∃ z r'', r' = z :: r'' ∧ Has σ (ilist Wd) z ∧ r'' = [] := by
    simp only [houseD, Has, HasL] at hh ⊢
    refine Classical.byContradiction fun hG => ?_
    obtain ⟨a, xs, h1, h2, y, ys, rfl, h3, z, zs, rfl, h4, u, us, rfl, h5, rfl⟩ := hh
    refine hG ?_
    clear hG
    exact ⟨a, y, _, h1, h2, h3, z, _, rfl, h4, u, _, rfl, h5, rfl⟩
  refine Classical.byContradiction fun hG => ?_
  obtain ⟨al, hL⟩ := ints_at hx0
  obtain ⟨ap, x, y, h1, h2, h3⟩ := has_tup2 hp
  obtain ⟨ar, xr, har, hxr⟩ := has_list h3
  refine hG ?_
  clear hG
  have hlr := hxr.len
  have hrows := W.rows
  have hm8 := W.m8
  have la := V.la
  have lb := V.lb
  refine FnOk.go V.lc rfl ?_
  refine s_cons ?_; refine s_unpack rfl ?_; refine r_slice ?_; refine r_s rfl ?_; refine v_sl1 ?_; refine r_s rfl ?_; refine v_sl2 ?_; refine r_s rfl ?_
  have sl : ∀ Q', newW σ (.tup [.ref al, y0]) Q' → sliceW (.ref ah) .none (.int 2) σ Q' := fun Q' hq => by
    simp only [sliceW, hah, onI]
    exact ⟨trivial, by decide, by show (2 : Int) < 3; decide, hq⟩
  refine sl _ fun z hz => ?_
  have e0 := Ext.set hz (.tup [.ref al, y0])
  refine u_seq (set_at _ _ _) rfl ?_
  refine s_nxt ?_; refine s_cons ?_; refine s_assign ?_; refine r_calln (FnOk.cf (by assumption)) ?_; refine r_ss rfl ?_
  refine walked_spec V W (e0 _ _ hL) (hy0.ext e0) (e0 _ _ hg) (hp.ext e0) hG8 (fun σ1 e1 hno => ?_) fun a bs M σ1 C hbl wk => ?_
  · refine v_asgn ?_; refine t_if ?_; refine r_cmp ?_; refine r_s rfl ?_; refine v_cmp ?_; refine r_s rfl ?_; refine v_is0 ?_; refine v_ift ?_; refine t_ret ?_; refine r_s rfl ?_; refine v_ret ?_; refine s_out ?_; refine k_ret ?_
    exact hQ _ _ (e0.trans e1) (.inl ⟨fun h => hno h.1, rfl⟩)
  refine v_asgn ?_; refine t_if ?_; refine r_cmp ?_; refine r_s rfl ?_; refine v_cmp ?_; refine r_s rfl ?_; refine v_isr ?_; refine v_iffn ?_; refine t_assign ?_
  refine r_tdict fun dn hdn => ?_
  refine v_asgn ?_; refine s_cons ?_; refine s_for rfl ?_; refine r_bcall rfl ?_; refine r_cons ?_; refine r_bcall rfl ?_; refine r_cons ?_; refine r_sub ?_; refine r_s rfl ?_; refine v_sub1 ?_; refine r_s rfl ?_
  have e1 := e0.trans C.e
  have e2 := e1.trans (.set hdn (.tdict 0 []))
  refine sub1 (e2 _ _ h1) ?_
  refine v_cons ?_; refine r_ss rfl ?_; refine v_push ?_
  refine b_len (e2 _ _ har) ?_
  rw [hlr]
  refine b_range (Int.natCast_nonneg _) (by lia) fun r hr => ?_
  have hrd : r ≠ dn := fun q => by rw [q, set_at] at hr; cases hr
  have hr1 : σ1 r = none := by rw [set_ne _ _ hrd] at hr; exact hr
  have h0 : (σ1.set r (.range 0 G.R.length)) dn = none := by rw [set_ne _ _ (Ne.symm hrd)]; exact hdn
  have hr0 := set_at σ1 r (.range 0 G.R.length)
  have hrr := set_at (σ1.set dn (.tdict 0 [])) r (.range 0 G.R.length)
  have D0 : Dn (σ1.set r (.range 0 G.R.length)) ((σ1.set dn (.tdict 0 [])).set r (.range 0 G.R.length)) dn [] 0 := ⟨fun u ob hu => by
    by_cases q : u = r
    · rw [q, set_at] at hu ⊢; exact hu
    · rw [set_ne _ _ q] at hu ⊢
      exact Ext.set hdn _ _ _ hu, ⟨0, by rw [set_ne _ _ (Ne.symm hrd), set_at]⟩, fun o' h => (nomatch h), Nat.le_refl _⟩
  have e3 := Ext.set hr1 (.range 0 G.R.length)
  have C := C.ext e3
  replace e1 := e1.trans e3
  generalize σ1.set r (.range 0 G.R.length) = τ₀ at *
  generalize (σ1.set dn (.tdict 0 [])).set r (.range 0 G.R.length) = σ2 at *
  replace hL := e1 _ _ hL
  replace hy0 := hy0.ext e1
  replace hg := e1 _ _ hg
  replace h1 := e1 _ _ h1
  replace h2 := h2.ext e1
  replace h3 := h3.ext e1
  replace hw := e1 _ _ hw
  replace hQ := fun v σ' e => hQ v σ' (e1.trans e)
  clear e0 e1 e2 e3 hr1 hdn hr hrd hp hz sl hh har hxr hlr
  refine w_on (turns_rev hrr) ?_
  refine for_rel (one1 fun (i : Int) v => v = .int i) (fun ks ρ' σ' => StpN ρ' al aw ga a dn y0 (.ref ap) ∧ ∃ (p : Nat) (es : List (List Int × Nat × Val)), p ≤ G.R.length ∧ ks = (irange 0 p).reverse ∧ Dn τ₀ σ' dn es (16 * (G.R.length - p)) ∧ ∀ k r, p ≤ k → r ∈ M k → InT G es (k, r)) ?_ ?_ ?_ _ _ _ σ2 (All2.turns (All2.of fun o' o' => rfl))
    ⟨⟨by (repeat (first | with_reducible exact l_here | assumption | refine l_there rfl ?_ | with_reducible refine l_bind ?_ | with_reducible refine l_bind0 ?_)), by (repeat (first | with_reducible exact l_here | assumption | refine l_there rfl ?_ | with_reducible refine l_bind ?_ | with_reducible refine l_bind0 ?_)), by (repeat (first | with_reducible exact l_here | assumption | refine l_there rfl ?_ | with_reducible refine l_bind ?_ | with_reducible refine l_bind0 ?_)), by (repeat (first | with_reducible exact l_here | assumption | refine l_there rfl ?_ | with_reducible refine l_bind ?_ | with_reducible refine l_bind0 ?_)), by (repeat (first | with_reducible exact l_here | assumption | refine l_there rfl ?_ | with_reducible refine l_bind ?_ | with_reducible refine l_bind0 ?_)), by (repeat (first | with_reducible exact l_here | assumption | refine l_there rfl ?_ | with_reducible refine l_bind ?_ | with_reducible refine l_bind0 ?_)), by (repeat (first | with_reducible exact l_here | assumption | refine l_there rfl ?_ | with_reducible refine l_bind ?_ | with_reducible refine l_bind0 ?_))⟩, G.R.length, [], Nat.le_refl _, rfl, ⟨D0.e, D0.d, D0.k, Nat.zero_le _⟩, fun k r hk hr => by
      obtain ⟨n, hr⟩ := wk.w.snd k r hr
      have := W.rch hr
      dsimp only at this; lia⟩
  · rintro ks ρ' σ' ⟨_, p, es, _, _, D, _⟩; exact ⟨fun b q => by cases q; rw [hrr, D.e _ _ hr0], turns_rev (D.e _ _ hr0)⟩
  · intro ρ' σ' H09
    refine Classical.byContradiction fun hG => ?_
    obtain ⟨⟨r1, r2, r3, r4, r5, r6, r7⟩, p, es, _, hk, D, hall⟩ := H09
    refine hG ?_
    clear hG
    have hp0 : p = 0 := by
      have := congrArg List.length hk
      rw [List.length_reverse, iran_len, List.length_nil] at this; lia
    subst hp0
    have hin : ∀ {n x}, G.Rch n x → InT G es x := fun {n x} hx => by
      have := hall x.1.toNat x.2 (Nat.zero_le _) (wk.all n x hx)
      rw [Int.toNat_of_nonneg (W.rch hx).1] at this
      exact this
    have hst : ∀ r ∈ G.G, ∃ q, wayOf G.S (G.look r) = some q ∧ G.Start (q, r) := fun r hr => by
      cases q : wayOf G.S (G.look r) with
      | none => exact absurd q (wk.good.1 r hr)
      | some k => exact ⟨k, rfl, hr, q⟩
    obtain ⟨ep, hd⟩ := D.d
    refine s_nxt ?_; refine s_cons ?_; refine s_ret ?_; refine r_calln (FnOk.cf (by assumption)) ?_; refine r_cons ?_; refine r_var (by assumption) ?_; refine v_cons ?_; refine r_cons ?_; refine r_sub ?_; refine r_var (by assumption) ?_; refine v_sub1 ?_; refine r_s rfl ?_
    refine sub0 (D.e _ _ h1) ?_
    refine v_cons ?_; refine r_cons ?_; refine r_var (by assumption) ?_; refine v_cons ?_; refine r_cons ?_; refine r_var (by assumption) ?_; refine v_cons ?_; refine r_ss rfl ?_; refine v_push ?_; refine v_push ?_; refine v_push ?_; refine v_push ?_
    refine most_spec V W (D.e _ _ hL) (h2.ext D.e) ?_ (D.e _ _ hg) (by lia) W.gs W.g0 hd D.k (fun r hr => ?_) fun m r σ5 e5 hr hm hmx => ?_
    · have := W.plan
      simp only [goodP, Bool.and_eq_true] at this
      exact Nat.le_trans (goodW_len this.1.2) (by decide)
    · refine Classical.byContradiction fun hG => ?_
      obtain ⟨q, g1, g2⟩ := hst r hr
      obtain ⟨t, g3, _⟩ := hin (n := 0) (x := (q, r)) ⟨_, g2, rfl⟩
      refine hG ?_
      clear hG
      exact ⟨t, q, g1, g3⟩
    · refine v_ret ?_; refine s_out ?_; refine k_ret ?_
      have lng : ∀ o ∈ G.G, ∀ t, ValT G G.S es o t → ∃ q, G.Start (q, o) ∧ G.Lng t (q, o) := fun o ho t ⟨q, g1, g2⟩ => by
        refine Classical.byContradiction fun hG => ?_
        obtain ⟨u, g3, g4, _⟩ := hin (n := 0) (x := (q, o)) ⟨_, ⟨ho, g1⟩, rfl⟩
        refine hG ?_
        clear hG
        rw [g2] at g3
        have : t = u := by have := int_inj (Option.some.inj g3); lia
        exact ⟨q, ⟨ho, g1⟩, this ▸ g4⟩
      refine Classical.byContradiction fun hG => ?_
      obtain ⟨q, g1, g2⟩ := lng r hr m hm
      refine hG ?_
      clear hG
      refine hQ _ _ (D.e.trans e5) (.inr ⟨⟨wk.good, fun n x hx => ?_⟩, m, rfl, Gr.top_lng g1 g2 fun u hu => ?_⟩)
      · obtain ⟨_, _, _, g⟩ := hin hx; exact g
      · refine Classical.byContradiction fun hG => ?_
        obtain ⟨t, g3, g4⟩ := hmx _ hu.1
        obtain ⟨q', g5, g6⟩ := lng _ hu.1 t g3
        refine hG ?_
        clear hG
        have : q' = u.1 := by have := hu.2.symm.trans g5.2; exact (Option.some.inj this).symm
        subst this
        exact ⟨t, g6, g4⟩
  · intro i ks t ρ' σ' K H09 H19 hn hret
    refine Classical.byContradiction fun hG => ?_
    obtain ⟨v, rfl, rfl⟩ := H09
    obtain ⟨⟨r1, r2, r3, r4, r5, r6, r7⟩, p, es, hpl, hk, D, hall⟩ := H19
    obtain ⟨k, rfl, rfl, hks⟩ := rev_cons hk
    refine hG ?_
    clear hG
    have hkl : k < G.R.length := hpl
    obtain ⟨⟨dd, ws⟩, hrow⟩ : ∃ row, G.R[k]? = some row := ⟨_, List.getElem?_eq_getElem hkl⟩
    have hM8 : (M k).length ≤ 8 := few (n := 8) (wk.w.nd k) fun x hx => by
      obtain ⟨n, hx⟩ := wk.w.snd k x hx
      have := W.rch hx
      dsimp only at *; lia
    refine s_cons ?_; refine s_unpack rfl ?_; refine r_sub ?_; refine r_sub ?_; refine r_var (by assumption) ?_; refine v_sub1 ?_; refine r_s rfl ?_
    refine sub1 (D.e _ _ h1) ?_
    refine v_sub1 ?_; refine r_s rfl ?_
    refine sub_row h3 D.e hrow fun b yw hb hyw => ?_
    refine u_seq (D.e _ _ hb) rfl ?_
    refine s_nxt ?_; refine s_cons ?_; refine s_for rfl ?_; refine r_sub ?_; refine r_var (by assumption) ?_; refine v_sub1 ?_; refine r_s rfl ?_
    refine (C.ext D.e).sub (Int.natCast_nonneg k) (by lia) fun b ob hb hob hR => ?_
    rw [Int.toNat_natCast] at hR hb
    cases hR
    have hb0 : τ₀ b = some (.list ((M k).map .int)) := by
      refine Classical.byContradiction fun hG => ?_
      obtain ⟨ob, g1, g2⟩ := C.at_ k b hb
      refine hG ?_
      clear hG
      rw [g1, g2]
    refine w_on (turns_list hob) ?_
    refine for_rel (one1 fun (i : Int) v => v = .int i) (fun ls ρ'' σ'' => StpN ρ'' al aw ga a dn y0 (.ref ap) ∧ ρ'' "_law_at" = some (.int k) ∧ ρ'' "_law_deed" = some (deedV dd) ∧ ρ'' "_law_ways_here" = some yw ∧ ∃ es', ls.length ≤ 8 ∧ Dn τ₀ σ'' dn es' (16 * (G.R.length - (k + 1)) + 2 * (8 - ls.length)) ∧ (∀ j r, k + 1 ≤ j → r ∈ M j → InT G es' (j, r)) ∧ (∀ r ∈ ls, r ∈ M k) ∧ ∀ r ∈ M k, r ∈ ls ∨ InT G es' (k, r)) ?_ ?_ ?_ _ _ _ σ' (All2.turns (All2.of fun o' o' => rfl))
      ⟨⟨by (repeat (first | with_reducible exact l_here | assumption | refine l_there rfl ?_ | with_reducible refine l_bind ?_ | with_reducible refine l_bind0 ?_)), by (repeat (first | with_reducible exact l_here | assumption | refine l_there rfl ?_ | with_reducible refine l_bind ?_ | with_reducible refine l_bind0 ?_)), by (repeat (first | with_reducible exact l_here | assumption | refine l_there rfl ?_ | with_reducible refine l_bind ?_ | with_reducible refine l_bind0 ?_)), by (repeat (first | with_reducible exact l_here | assumption | refine l_there rfl ?_ | with_reducible refine l_bind ?_ | with_reducible refine l_bind0 ?_)), by (repeat (first | with_reducible exact l_here | assumption | refine l_there rfl ?_ | with_reducible refine l_bind ?_ | with_reducible refine l_bind0 ?_)), by (repeat (first | with_reducible exact l_here | assumption | refine l_there rfl ?_ | with_reducible refine l_bind ?_ | with_reducible refine l_bind0 ?_)), by (repeat (first | with_reducible exact l_here | assumption | refine l_there rfl ?_ | with_reducible refine l_bind ?_ | with_reducible refine l_bind0 ?_))⟩, by (repeat (first | with_reducible exact l_here | assumption | refine l_there rfl ?_ | with_reducible refine l_bind ?_ | with_reducible refine l_bind0 ?_)), by (repeat (first | with_reducible exact l_here | assumption | refine l_there rfl ?_ | with_reducible refine l_bind ?_ | with_reducible refine l_bind0 ?_)), by (repeat (first | with_reducible exact l_here | assumption | refine l_there rfl ?_ | with_reducible refine l_bind ?_ | with_reducible refine l_bind0 ?_)), es, hM8, ⟨D.e, D.d, D.k, Nat.le_trans D.l (Nat.le_add_right _ _)⟩, hall, fun o' h => h, fun o' h => .inl h⟩
    · rintro ls ρ'' σ'' ⟨_, _, _, _, es', _, D', _⟩; exact stay_list hob (D'.e _ _ hb0)
    · intro ρ'' σ'' H09
      refine Classical.byContradiction fun hG => ?_
      obtain ⟨N, _, _, _, es', _, D', ha, _, hd⟩ := H09
      refine hG ?_
      clear hG
      refine s_nxt ?_; refine s_nil ?_
      refine hn _ _ ⟨N, k, es', by lia, hks, ⟨D'.e, D'.d, D'.k, Nat.le_trans D'.l (Nat.le_of_eq (congrArg (16 * ·) (Nat.sub_add_cancel (Nat.sub_pos_of_lt hpl))))⟩, fun j r hj hr => ?_⟩
      by_cases q : j = k
      · subst q; exact (hd r hr).resolve_left fun h => (nomatch h)
      · exact ha j r (by lia) hr
    · intro r ls t ρ'' σ'' K' H09 H19 hn' hret'
      refine Classical.byContradiction fun hG => ?_
      obtain ⟨v, rfl, rfl⟩ := H09
      obtain ⟨⟨r1, r2, r3, r4, r5, r6, r7⟩, r8, r9, rA, es', hl8, D', ha, hls, hd⟩ := H19
      refine hG ?_
      clear hG
      rw [List.length_cons] at hl8 D'
      have hrM := hls r (.head _)
      obtain ⟨n, hrch⟩ := wk.w.snd k r hrM
      have hrm := (W.rch hrch).2.2
      have fin : ∀ {es'' ρ₃ σ₃}, StpN ρ₃ al aw ga a dn y0 (.ref ap) → ρ₃ "_law_at" = some (.int k) → ρ₃ "_law_deed" = some (deedV dd) → ρ₃ "_law_ways_here" = some yw → Dn τ₀ σ₃ dn es'' (16 * (G.R.length - (k + 1)) + 2 * (8 - (ls.length + 1)) + 1 + 1) → InT G es'' (k, r) → (∀ x, InT G es' x → x ≠ ((k : Int), r) → InT G es'' x) → K' .next ρ₃ σ₃ := fun {es'' ρ₃ σ₃} N g1 g2 g3 D3 hi hsub => hn' _ _ ⟨N, g1, g2, g3, es'', Nat.le_of_succ_le hl8, ⟨D3.e, D3.d, D3.k, Nat.le_trans D3.l (Nat.add_le_add_left (two8 hl8) _)⟩, fun j r' hj hr' => hsub _ (ha j r' hj hr') fun q => by
        have := (Prod.mk.inj q).1; lia, fun x hx => hls x (.tail _ hx), fun x hx => by
        by_cases q : x = r
        · rw [q]; exact .inr hi
        · exact (hd x hx).imp (fun h => (List.mem_cons.mp h).resolve_left q) fun h => hsub _ h fun e => q (Prod.mk.inj e).2⟩
      have key : ∀ {x : Nd}, x ≠ ((k : Int), r) → [x.1, x.2] ≠ [(k : Int), r] := fun {x} hx q => hx (by
        obtain ⟨a, b⟩ := List.cons.inj q
        exact Prod.ext a (List.cons.inj b).1)
      refine s_cons ?_; refine s_asub ?_; refine r_s rfl ?_; refine v_as1 ?_; refine r_var (by assumption) ?_; refine v_as2 ?_; refine r_tup ?_; refine r_cons ?_; refine r_var (by assumption) ?_; refine v_cons ?_; refine r_ss rfl ?_; refine v_push ?_
      refine n_lit rfl fun c hc => ?_
      have D1 := D'.ext (.set hc (.tup [.int k, .int r]))
      refine D1.put (k := [(k : Int), r]) h0 (sm8 hrows) (set_at _ _ _) fun σ4 D4 => ?_
      cases dd with
      | none =>
        have r9 : ρ'' "_law_deed" = some .none := r9
        refine v_nxn ?_; refine t_if ?_; refine r_bop ?_; refine r_cmp ?_; refine r_var (by assumption) ?_; refine v_cmp ?_; refine r_s rfl ?_; refine v_is0 ?_; refine v_bft ?_; refine r_b1 ?_; refine r_cmp ?_; refine r_s rfl ?_; refine v_cmp ?_; refine r_var (by assumption) ?_
        refine c_nin (D4.e _ _ hw) ?_
        by_cases q : r ∈ G.W
        · rw [decide_eq_true q]
          refine v_b ?_; refine v_ifnn rfl ?_; refine t_if ?_; refine r_cmp ?_; refine r_var (by assumption) ?_; refine v_cmp ?_; refine r_s rfl ?_; refine v_ni0 ?_; refine v_iffn ?_; refine s_nil ?_
          refine fin ⟨by (repeat (first | with_reducible exact l_here | assumption | refine l_there rfl ?_ | with_reducible refine l_bind ?_ | with_reducible refine l_bind0 ?_)), by (repeat (first | with_reducible exact l_here | assumption | refine l_there rfl ?_ | with_reducible refine l_bind ?_ | with_reducible refine l_bind0 ?_)), by (repeat (first | with_reducible exact l_here | assumption | refine l_there rfl ?_ | with_reducible refine l_bind ?_ | with_reducible refine l_bind0 ?_)), by (repeat (first | with_reducible exact l_here | assumption | refine l_there rfl ?_ | with_reducible refine l_bind ?_ | with_reducible refine l_bind0 ?_)), by (repeat (first | with_reducible exact l_here | assumption | refine l_there rfl ?_ | with_reducible refine l_bind ?_ | with_reducible refine l_bind0 ?_)), by (repeat (first | with_reducible exact l_here | assumption | refine l_there rfl ?_ | with_reducible refine l_bind ?_ | with_reducible refine l_bind0 ?_)), by (repeat (first | with_reducible exact l_here | assumption | refine l_there rfl ?_ | with_reducible refine l_bind ?_ | with_reducible refine l_bind0 ?_))⟩ (by (repeat (first | with_reducible exact l_here | assumption | refine l_there rfl ?_ | with_reducible refine l_bind ?_ | with_reducible refine l_bind0 ?_))) (by (repeat (first | with_reducible exact l_here | assumption | refine l_there rfl ?_ | with_reducible refine l_bind ?_ | with_reducible refine l_bind0 ?_))) (by (repeat (first | with_reducible exact l_here | assumption | refine l_there rfl ?_ | with_reducible refine l_bind ?_ | with_reducible refine l_bind0 ?_))) ⟨D4.e, D4.d, D4.k, Nat.le_succ_of_le D4.l⟩ ⟨0, by rw [tget_tput, if_pos rfl]; rfl, Gr.lng_zero fun y' ⟨d', ws', h', _⟩ => ?_, fun o' o' => q⟩ fun x hx hne => hx.put (key hne)
          have e := hrow.symm.trans h'
          cases e
        · rw [decide_eq_false q]
          refine v_b ?_; refine v_ifp rfl ?_; refine t_ret ?_; refine r_s rfl ?_; refine v_ret ?_; refine s_out ?_
          exact hret' _ _ _ (hret _ _ _ (hQ _ _ D4.e (.inl ⟨fun hG => q (hG.2 _ _ hrch _ hrow), rfl⟩)))
      | some dd =>
        have r9 : ρ'' "_law_deed" = some (.int dd) := r9
        have hled := W.led hrow hrm.1 hrm.2
        have hokw := wk.good.2 _ _ hrch _ _ hrow
        have hway : ∀ o ∈ G.led dd r, ∃ q, wayOf ws (G.look o) = some q ∧ G.Succ (k, r) (q, o) := fun o ho => by
          cases q : wayOf ws (G.look o) with
          | none => exact absurd q (hokw o ho)
          | some q' => exact ⟨q', rfl, dd, ws, hrow, ho, q⟩
        have hin : ∀ {q o}, G.Succ (k, r) (q, o) → InT G (tput es' [(k : Int), r] c (.int 0)) (q, o) := fun {q o} hs => by
          have hk2 := W.succ (Int.natCast_nonneg k) hrm.1 hrm.2 hs
          dsimp only at hk2
          have hM := wk.all _ _ (Gr.rch_step hrch hs)
          have := ha q.toNat o (Int.lt_toNat.mpr hk2.1) hM
          rw [Int.toNat_of_nonneg (by lia)] at this
          exact this.put (key fun e => by have := (Prod.mk.inj e).1; lia)
        obtain ⟨ep, hdd⟩ := D4.d
        refine v_nxn ?_; refine t_if ?_; refine r_bop ?_; refine r_cmp ?_; refine r_var (by assumption) ?_; refine v_cmp ?_; refine r_s rfl ?_; refine v_isi ?_; refine v_bff ?_; refine v_iffn ?_; refine t_if ?_; refine r_cmp ?_; refine r_var (by assumption) ?_; refine v_cmp ?_; refine r_s rfl ?_; refine v_nii ?_; refine v_ift ?_; refine t_asub ?_; refine r_bin ?_; refine r_s rfl ?_; refine v_bin ?_; refine r_calln (FnOk.cf (by assumption)) ?_; refine r_cons ?_; refine r_var (by assumption) ?_; refine v_cons ?_; refine r_cons ?_; refine r_var (by assumption) ?_; refine v_cons ?_; refine r_cons ?_; refine r_sub ?_; refine r_sub ?_; refine r_var (by assumption) ?_; refine v_sub1 ?_; refine r_var (by assumption) ?_
        refine sub_deed W hy0 D4.e hrow fun w2 hw2 => ?_
        refine v_sub1 ?_; refine r_s rfl ?_
        refine sub_led W hw2 D4.e hrow hrm.1 hrm.2 fun ao hao => ?_
        refine v_cons ?_; refine r_cons ?_; refine r_var (by assumption) ?_; refine v_cons ?_; refine r_ss rfl ?_; refine v_push ?_; refine v_push ?_; refine v_push ?_; refine v_push ?_
        refine most_spec V W (D4.e _ _ hL) (hyw.ext D4.e) (Nat.le_trans (goodW_len (W.deed hrow).2.2) (by decide)) (D4.e _ _ hao) (Nat.le_trans hled.1.2 (by decide)) hled.2 hled.1.1 hdd D4.k (fun o ho => ?_) fun m o σ5 e5 ho hm hmx => ?_
        · refine Classical.byContradiction fun hG => ?_
          obtain ⟨q, g1, g2⟩ := hway o ho
          obtain ⟨t, g3, _⟩ := hin g2
          refine hG ?_
          clear hG
          exact ⟨t, q, g1, g3⟩
        · have lng : ∀ o ∈ G.led dd r, ∀ t, ValT G ws (tput es' [(k : Int), r] c (.int 0)) o t → ∃ q, G.Succ (k, r) (q, o) ∧ G.Lng t (q, o) := fun o ho t ⟨q, g1, g2⟩ => by
            have hs : G.Succ (k, r) (q, o) := ⟨dd, ws, hrow, ho, g1⟩
            refine Classical.byContradiction fun hG => ?_
            obtain ⟨u, g3, g4, _⟩ := hin hs
            refine hG ?_
            clear hG
            rw [g2] at g3
            have : t = u := by have := int_inj (Option.some.inj g3); lia
            exact ⟨q, hs, this ▸ g4⟩
          refine Classical.byContradiction fun hG => ?_
          obtain ⟨q, g1, g2⟩ := lng o ho m hm
          refine hG ?_
          clear hG
          have hL1 : G.Lng (m + 1) (k, r) := Gr.lng_succ g1 g2 fun u ⟨d', ws', h', h5, h6⟩ => by
            have e := hrow.symm.trans h'
            cases e
            refine Classical.byContradiction fun hG => ?_
            obtain ⟨t, g3, g4⟩ := hmx _ h5
            obtain ⟨q', g5, g6⟩ := lng _ h5 t g3
            obtain ⟨d'', ws'', h'', _, h7⟩ := g5
            refine hG ?_
            clear hG
            have e := hrow.symm.trans h''
            cases e
            have : q' = u.1 := (Option.some.inj (h6.symm.trans h7)).symm
            subst this
            exact ⟨t, g6, g4⟩
          have D5 := D4.ext e5
          refine v_add ?_; refine v_as1 ?_; refine r_var (by assumption) ?_; refine v_as2 ?_; refine r_tup ?_; refine r_cons ?_; refine r_var (by assumption) ?_; refine v_cons ?_; refine r_ss rfl ?_; refine v_push ?_
          refine n_lit rfl fun c2 hc2 => ?_
          refine (D5.ext (.set hc2 (.tup [.int k, .int r]))).put (k := [(k : Int), r]) h0 (sm9 hrows) (set_at _ _ _) fun σ6 D6 => ?_
          refine v_nxn ?_; refine s_nil2 ?_; refine s_nil ?_
          refine fin ⟨by (repeat (first | with_reducible exact l_here | assumption | refine l_there rfl ?_ | with_reducible refine l_bind ?_ | with_reducible refine l_bind0 ?_)), by (repeat (first | with_reducible exact l_here | assumption | refine l_there rfl ?_ | with_reducible refine l_bind ?_ | with_reducible refine l_bind0 ?_)), by (repeat (first | with_reducible exact l_here | assumption | refine l_there rfl ?_ | with_reducible refine l_bind ?_ | with_reducible refine l_bind0 ?_)), by (repeat (first | with_reducible exact l_here | assumption | refine l_there rfl ?_ | with_reducible refine l_bind ?_ | with_reducible refine l_bind0 ?_)), by (repeat (first | with_reducible exact l_here | assumption | refine l_there rfl ?_ | with_reducible refine l_bind ?_ | with_reducible refine l_bind0 ?_)), by (repeat (first | with_reducible exact l_here | assumption | refine l_there rfl ?_ | with_reducible refine l_bind ?_ | with_reducible refine l_bind0 ?_)), by (repeat (first | with_reducible exact l_here | assumption | refine l_there rfl ?_ | with_reducible refine l_bind ?_ | with_reducible refine l_bind0 ?_))⟩ (by (repeat (first | with_reducible exact l_here | assumption | refine l_there rfl ?_ | with_reducible refine l_bind ?_ | with_reducible refine l_bind0 ?_))) (by (repeat (first | with_reducible exact l_here | assumption | refine l_there rfl ?_ | with_reducible refine l_bind ?_ | with_reducible refine l_bind0 ?_))) (by (repeat (first | with_reducible exact l_here | assumption | refine l_there rfl ?_ | with_reducible refine l_bind ?_ | with_reducible refine l_bind0 ?_))) D6 ⟨m + 1, ?_, hL1, fun ws' h' => ?_⟩ fun x hx hne => (hx.put (key hne)).put (key hne)
          · rw [tget_tput, if_pos rfl]
            show some (Val.int (1 + (m : Int))) = some (Val.int ((m + 1 : Nat) : Int))
            rw [show (1 + (m : Int)) = ((m + 1 : Nat) : Int) by lia]
          · have e := hrow.symm.trans h'
            cases e
end BP

namespace BP
open PySem
variable {F : Nat → CallW} {g : Glo}
inductive HouseV (σ : Sto) (L : List Int) (D : List (List (List Int))) (W : List Int) : Val → Prop
  | mk (a al : Nat) (y : Val) (aw : Nat) (h : σ a = some (.tup [.ref al, y, .ref aw])) (hl : σ al = some (.list (L.map .int))) (hd : Has σ (.list (D.map deedD)) y) (hw : σ aw = some (.list (W.map .int))) : HouseV σ L D W (.ref a)
theorem house_at {σ : Sto} {L : List Int} {D : List (List (List Int))} {W : List Int} {v : Val} (h : Has σ (houseD L D W) v) : HouseV σ L D W v := by
  refine Classical.byContradiction fun hG => ?_
  obtain ⟨a, xs, rfl, h2, y, ys, rfl, h3, z, zs, rfl, h4, u, us, rfl, h5, rfl⟩ := h
  obtain ⟨al, hal⟩ := ints_at h3
  obtain ⟨aw, haw⟩ := ints_at h5
  refine hG ?_
  clear hG
  exact ⟨a, al, z, aw, h2, hal, h4, haw⟩
theorem subt {σ : Sto} {a : Nat} {xs : List Val} {x : Val} {Q : KV} (k : Nat) (h : σ a = some (.tup xs)) (hk : xs[k]? = some x) (hQ : Q x σ) : subW (.ref a) (.int k) σ Q := subW_tup h (Int.natCast_nonneg k) (by rw [getIdx_nat]; exact hk) hQ
theorem wished_spec (V : Env F g) {G : Gr} {many : Int} (W : G.WF many) {d ga : Nat} {c0 : Int} {vh vp : Val} {σ : Sto} {Q : KV} {er : String → Sto → Prop}
    (hh : Has σ (houseD G.L G.D G.W) vh) (hW : Rooms many G.W) (hg : σ ga = some (.list (G.G.map .int))) (hp : Has σ (dPlan G.S G.R) vp) (hG8 : G.G.length ≤ 8)
    (hQ : ∀ (ms : List Int) c σ', Ext σ σ' → Rooms many ms → σ' c = some (.list (ms.map .int)) → Q (.ref c) σ') : F (d + 3) false "_law_wished" [vh, .ref ga, vp, .int c0] σ Q er := by
  refine Classical.byContradiction fun hG => ?_
  obtain ⟨ah, al, yd, aw, hah, hL, hD, hw⟩ := house_at hh
  obtain ⟨ap, x, y, h1, h2, h3⟩ := has_tup2 hp
  obtain ⟨ar, xr, har, hxr⟩ := has_list h3
  refine hG ?_
  clear hG
  have hlr := hxr.len
  have hrows := W.rows
  have hm8 := W.m8
  have hm1 := W.m1
  have hLl := W.looks
  have la := V.la
  refine FnOk.go V.lf rfl ?_
  refine s_cons ?_; refine s_assign ?_; refine r_calln (FnOk.cf (by assumption)) ?_; refine r_cons ?_; refine r_sub ?_; refine r_s rfl ?_; refine v_sub1 ?_; refine r_s rfl ?_
  refine subt 0 hah rfl ?_
  refine v_cons ?_; refine r_cons ?_; refine r_sub ?_; refine r_s rfl ?_; refine v_sub1 ?_; refine r_s rfl ?_
  refine subt 1 hah rfl ?_
  refine v_cons ?_; refine r_ss rfl ?_; refine v_push ?_; refine v_push ?_
  have give : ∀ ρ' σ', Ext σ σ' → ρ' "_law_house_here" = some (.ref ah) → ∀ K, wpSs (F (d + 2)) (g.at false er) [.ret (.sub (.var "_law_house_here") (.int_ 2))] ρ' σ' (nxt (F (d + 2)) (g.at false er) K (Kq Q)) := fun ρ' σ' e r1 K => by
    refine s_cons ?_; refine s_ret ?_; refine r_sub ?_; refine r_var (by assumption) ?_; refine v_sub1 ?_; refine r_s rfl ?_
    refine subt 2 (e _ _ hah) rfl ?_
    refine v_ret ?_; refine s_out ?_; refine s_out ?_; refine k_ret ?_
    exact hQ G.W aw σ' e hW (e _ _ hw)
  refine walked_spec V W hL hD hg hp hG8 (fun σ1 e1 hno => ?_) fun a bs M σ1 C hbl wk => ?_
  · refine v_asgn ?_; refine t_if ?_; refine r_bop ?_; refine r_s rfl ?_
    cases decide (c0 % 4 = 0) with
    | true =>
      refine v_btt ?_; refine v_ift ?_
      exact give _ _ e1 (by (repeat (first | with_reducible exact l_here | assumption | refine l_there rfl ?_ | with_reducible refine l_bind ?_ | with_reducible refine l_bind0 ?_))) _
    | false =>
      refine v_btf ?_; refine r_b1 ?_; refine r_cmp ?_; refine r_s rfl ?_; refine v_cmp ?_; refine r_s rfl ?_; refine v_is0 ?_; refine v_ift ?_
      exact give _ _ e1 (by (repeat (first | with_reducible exact l_here | assumption | refine l_there rfl ?_ | with_reducible refine l_bind ?_ | with_reducible refine l_bind0 ?_))) _
  have e1 := C.e
  refine v_asgn ?_; refine t_if ?_; refine r_bop ?_; refine r_s rfl ?_
  cases decide (c0 % 4 = 0) with
  | true =>
    refine v_btt ?_; refine v_ift ?_
    exact give _ _ e1 (by (repeat (first | with_reducible exact l_here | assumption | refine l_there rfl ?_ | with_reducible refine l_bind ?_ | with_reducible refine l_bind0 ?_))) _
  | false =>
    refine v_btf ?_; refine r_b1 ?_; refine r_cmp ?_; refine r_s rfl ?_; refine v_cmp ?_; refine r_s rfl ?_; refine v_isr ?_; refine v_iffn ?_; refine t_assign ?_; refine r_list0 ?_
    refine n_ob fun c hc => ?_
    have e2 := e1.trans (.set hc (.list []))
    have C2 := C.ext (.set hc (.list []))
    have hc2 := set_at σ1 c (.list [])
    generalize σ1.set c (.list []) = σ2 at e2 C2 hc2 ⊢
    refine v_asgn ?_; refine s_cons ?_; refine s_for rfl ?_; refine r_sub ?_; refine r_s rfl ?_; refine v_sub1 ?_; refine r_s rfl ?_
    refine sub1 (e2 _ _ h1) ?_
    refine w_on (turns_enum (e2 _ _ har)) ?_
    refine for_rel _ (fun (l : List (Nat × Row)) ρ' σ' => Ext σ2 σ' ∧ ρ' "_law_house_here" = some (.ref ah) ∧ ρ' "_law_cell_here" = some (.int c0) ∧ ρ' "_law_may" = some (.ref a) ∧ (∀ q ∈ l, q.1 < G.R.length) ∧ ∃ (ns : List Int) (c : Nat), ρ' "_law_ends" = some (.ref c) ∧ σ' c = some (.list (ns.map .int)) ∧ ns.length + 8 * l.length ≤ 2400) ?_ ?_ ?_ _ _ _ σ2 (hxr.numb 0)
      ⟨.refl _, by (repeat (first | with_reducible exact l_here | assumption | refine l_there rfl ?_ | with_reducible refine l_bind ?_ | with_reducible refine l_bind0 ?_)), by (repeat (first | with_reducible exact l_here | assumption | refine l_there rfl ?_ | with_reducible refine l_bind ?_ | with_reducible refine l_bind0 ?_)), by (repeat (first | with_reducible exact l_here | assumption | refine l_there rfl ?_ | with_reducible refine l_bind ?_ | with_reducible refine l_bind0 ?_)), ?_, [], c, by (repeat (first | with_reducible exact l_here | assumption | refine l_there rfl ?_ | with_reducible refine l_bind ?_ | with_reducible refine l_bind0 ?_)), hc2, ?_⟩
    · rintro l ρ' σ' ⟨e, _⟩; exact stay_enum (e2 _ _ har) (e _ _ (e2 _ _ har))
    · intro ρ' σ' H09
      refine Classical.byContradiction fun hG => ?_
      obtain ⟨e3, r1, r2, r3, _, ns, c', r4, hc', hnl⟩ := H09
      refine hG ?_
      clear hG
      have e4 := e2.trans e3
      refine s_nxt ?_; refine s_cons ?_; refine s_assign ?_; refine r_comp rfl ?_; refine r_bcall rfl ?_; refine r_cons ?_; refine r_bcall rfl ?_; refine r_cons ?_; refine r_sub ?_; refine r_var (by assumption) ?_; refine v_sub1 ?_; refine r_s rfl ?_
      refine subt 0 (e4 _ _ hah) rfl ?_
      refine v_cons ?_; refine r_ss rfl ?_; refine v_push ?_
      refine b_len (e4 _ _ hL) ?_
      rw [List.length_map, hLl]
      refine ran_sub (fun o' => False) (by lia) (by lia) (fun i σ' K' hK => ?_) (fun i o' o' σ' e K' hK => ?_) fun ms c3 σ5 e5 hc3 hs o' => ?_
      · refine r_s rfl ?_
        exact hK
      · refine r_if1 ?_; refine r_cmp ?_; refine r_s rfl ?_; refine v_cmp ?_; refine r_var (by assumption) ?_
        refine c_in (e _ _ hc') ?_
        have := fun b => hK b _ (.refl _) False.elim
        cases decide (i ∈ ns) with
        | true =>
          refine v_b ?_; refine v_ifst ?_; refine r_if0 ?_
          exact this _
        | false =>
          refine v_b ?_; refine v_ifsf ?_
          exact this _
      have hms := Rooms.ran hs
      have e6 := e5.trans (.set hc3 (.list (ms.map .int)))
      have hc6 := set_at σ5 c3 (.list (ms.map .int))
      generalize σ5.set c3 (.list (ms.map .int)) = σ6 at e6 hc6 ⊢
      refine v_asgn ?_; refine t_if ?_; refine r_bop ?_; refine r_cmp ?_; refine r_bin ?_; refine r_var (by assumption) ?_; refine v_bin ?_; refine r_s rfl ?_; refine v_mod rfl ?_; refine v_cmp ?_; refine r_s rfl ?_; refine v_eq ?_
      cases decide (c0 % 4 = 1) with
      | false =>
        refine v_bff ?_; refine v_iffn ?_; refine t_ret ?_; refine r_s rfl ?_; refine v_retk ?_
        exact hQ ms c3 _ (e4.trans e6) hms hc6
      | true =>
        refine v_bft ?_; refine r_b1 ?_; refine r_cmp ?_; refine r_s rfl ?_; refine v_cmp ?_; refine r_list0 ?_
        refine n_ob fun z hz => ?_
        have hc7 := Ext.set hz (.list []) _ _ hc6
        refine c_nenil hc7 (set_at _ _ _) ?_
        have e7 := (e4.trans e6).trans (.set hz (.list []))
        generalize σ6.set z (.list []) = σ7 at e7 hc7 ⊢
        have hml := hms.len hm8
        cases ms with
        | nil =>
          refine v_b ?_; refine v_ifnn rfl ?_; refine t_ret ?_; refine r_s rfl ?_; refine v_retk ?_
          exact hQ [] c3 _ e7 hms hc7
        | cons m ms =>
          refine v_b ?_; refine v_ifp rfl ?_; refine t_ret ?_; refine r_comp rfl ?_; refine r_s rfl ?_
          refine w_on (turns_list hc7) ⟨by rw [List.length_map, List.length_map]; exact Nat.le_trans hml (by decide), ?_⟩
          refine comp_sub (σ₀ := σ7) (fun o' => False) (fun σ' e => stay_list hc7 (e _ _ hc7)) (fun i σ' K' hK => ?_) _ [] σ7 (.refl _) (fun i hi σ' e K' hK => ?_) fun ks σ' e hs o' z2 hz2 => ?_
          · refine r_s rfl ?_
            exact hK
          · have hc8 := e _ _ hc7
            refine r_if1 ?_; refine r_cmp ?_; refine r_s rfl ?_; refine v_cmp ?_; refine r_sub ?_; refine r_s rfl ?_; refine v_sub1 ?_; refine r_bin ?_; refine r_bin ?_; refine r_var (by assumption) ?_; refine v_bin ?_; refine r_s rfl ?_; refine v_fdiv rfl ?_; refine v_bin ?_; refine r_bcall rfl ?_; refine r_ss rfl ?_; refine v_len (by assumption) ?_
            rw [List.length_map]
            refine o_modn (by rw [List.length_cons]; lia) (by lia) ?_
            refine subW_ints hc8 (Int.emod_nonneg _ (by rw [List.length_cons]; lia)) (Int.emod_lt_of_pos _ (by rw [List.length_cons]; lia)) fun j o' o' => ?_
            refine v_ne ?_
            have := fun b => hK b _ (.refl _) False.elim
            cases decide (i ≠ j) with
            | true =>
              refine v_ifst ?_; refine r_if0 ?_
              exact this _
            | false =>
              refine v_ifsf ?_
              exact this _
          · refine v_ret ?_; refine s_out ?_; refine k_ret ?_
            exact hQ ks z2 _ (e7.trans (e.trans (.set hz2 _))) (hms.sub hs) (set_at _ _ _)
    · intro H09 l t ρ' σ' K H19 H29 hn hret
      refine Classical.byContradiction fun hG => ?_
      obtain ⟨k, row⟩ := H09
      obtain ⟨v, rfl, hv⟩ := H19
      obtain ⟨e3, r1, r2, r3, hq, ns, c', r4, hc', hnl⟩ := H29
      obtain ⟨b, w, g1, g3⟩ := has_row (hv.ext (e2.trans e3))
      refine hG ?_
      clear hG
      rw [List.length_cons] at hnl
      have hk := hq _ (.head _)
      refine s_cons ?_; refine s_if ?_; refine r_cmp ?_; refine r_sub ?_; refine r_s rfl ?_; refine v_sub1 ?_; refine r_s rfl ?_
      obtain ⟨dd, ws⟩ := row
      cases dd with
      | some dd =>
        replace g1 : σ' b = some (.tup [.int dd, w]) := g1
        refine sub0 g1 ?_
        refine v_cmp ?_; refine r_s rfl ?_; refine v_isi ?_; refine v_iffn ?_; refine s_nil ?_
        exact hn _ _ ⟨e3, by (repeat (first | with_reducible exact l_here | assumption | refine l_there rfl ?_ | with_reducible refine l_bind ?_ | with_reducible refine l_bind0 ?_)), by (repeat (first | with_reducible exact l_here | assumption | refine l_there rfl ?_ | with_reducible refine l_bind ?_ | with_reducible refine l_bind0 ?_)), by (repeat (first | with_reducible exact l_here | assumption | refine l_there rfl ?_ | with_reducible refine l_bind ?_ | with_reducible refine l_bind0 ?_)), fun q h => hq q (.tail _ h), ns, c', by (repeat (first | with_reducible exact l_here | assumption | refine l_there rfl ?_ | with_reducible refine l_bind ?_ | with_reducible refine l_bind0 ?_)), hc', by lia⟩
      | none =>
        replace g1 : σ' b = some (.tup [.none, w]) := g1
        refine sub0 g1 ?_
        refine v_cmp ?_; refine r_s rfl ?_; refine v_is0 ?_; refine v_ift ?_; refine t_assign ?_; refine r_bin ?_; refine r_var (by assumption) ?_; refine v_bin ?_; refine r_sub ?_; refine r_var (by assumption) ?_; refine v_sub1 ?_; refine r_s rfl ?_
        refine (C2.ext e3).sub (Int.natCast_nonneg k) (by lia) fun b ob hb hob hR => ?_
        rw [Int.toNat_natCast] at hR
        cases hR
        dsimp only at hob
        have hM8 : (M k).length ≤ 8 := few (n := 8) (wk.w.nd k) fun x hx => by
          obtain ⟨n, hx⟩ := wk.w.snd k x hx
          have := W.rch hx
          dsimp only at *; lia
        refine o_cat hc' hob (by rw [List.length_map, List.length_map]; lia) fun z hz => ?_
        refine v_asgn ?_; refine s_nil2 ?_; refine s_nil ?_
        exact hn _ _ ⟨e3.trans (.set hz _), by (repeat (first | with_reducible exact l_here | assumption | refine l_there rfl ?_ | with_reducible refine l_bind ?_ | with_reducible refine l_bind0 ?_)), by (repeat (first | with_reducible exact l_here | assumption | refine l_there rfl ?_ | with_reducible refine l_bind ?_ | with_reducible refine l_bind0 ?_)), by (repeat (first | with_reducible exact l_here | assumption | refine l_there rfl ?_ | with_reducible refine l_bind ?_ | with_reducible refine l_bind0 ?_)), fun q h => hq q (.tail _ h), ns ++ M k, z, by (repeat (first | with_reducible exact l_here | assumption | refine l_there rfl ?_ | with_reducible refine l_bind ?_ | with_reducible refine l_bind0 ?_)), by rw [set_at, List.map_append], by rw [List.length_append]; lia⟩
    · have : ∀ (k : Nat) (R : List Row), ∀ q ∈ numb k R, q.1 < k + R.length := fun k R => by
        induction R generalizing k with
        | nil => exact fun o' h => nomatch h
        | cons r R ih =>
          intro q hq
          rcases List.mem_cons.mp hq with h | h
          · rw [h, List.length_cons]; show k < _; lia
          · have := ih (k + 1) q h
            rw [List.length_cons]; lia
      intro q hq
      have := this 0 G.R q hq
      lia
    · have : ∀ (k : Nat) (R : List Row), (numb k R).length = R.length := fun k R => by
        induction R generalizing k with
        | nil => rfl
        | cons r R ih => exact congrArg (· + 1) (ih (k + 1))
      rw [this]
      show 0 + _ ≤ _
      lia
end BP

namespace BP
open PySem
variable {F : Nat → CallW} {g : Glo}
theorem turned_spec (V : Env F g) {d h m0 m1 mv ga ap aw ar : Nat} {β σ : Sto} {hs z0 z1 gs xw xr : List Val} {Q : KV} {er : String → Sto → Prop} (e : Ext β σ) (b0 : β h = none) (b1 : β m0 = none) (b2 : β m1 = none) (n0 : m0 ≠ h) (n1 : m1 ≠ h) (n2 : m0 ≠ m1) (c0 : σ h = some (.list hs)) (c1 : σ m0 = some (.list z0)) (c2 : σ m1 = some (.list z1))
    (hmv : β mv = some (.tup [.ref m0, .ref m1])) (hg : β ga = some (.list gs)) (hp : β ap = some (.tup [.ref aw, .ref ar])) (hw : β aw = some (.list xw)) (hr : β ar = some (.list xr)) (gl : gs.length ≤ 1000) (wl : xw.length ≤ 1000) (rl : xr.length ≤ 1000)
    (hQ : ∀ σ', Ext β σ' → σ' h = some (.list gs) → σ' m0 = some (.list xw) → σ' m1 = some (.list xr) → Q .none σ') : F (d + 1) false "_law_turned_to" [.ref h, .ref mv, .ref ga, .ref ap] σ Q er := by
  have one : ∀ {σ : Sto} {m b : Nat} {K : KV} {zs ys : List Val}, Ext β σ → β m = none → σ m = some (.list zs) → β b = some (.list ys) → ys.length ≤ 1000 → K .none ((σ.set m (.list [])).set m (.list ys)) → methW .extend (.ref m) [.ref b] (σ.set m (.list [])) K := fun {σ m b K zs ys} e hm h1 h2 h3 hK => by
    refine m_ext (xs := []) (ys := ys) (set_at _ _ _) (by rw [set_ne _ _ fun q => by rw [q, hm] at h2; cases h2]; exact e _ _ h2) ?_ hK
    rw [List.length_nil]; omega
  refine FnOk.go V.le rfl ?_
  refine s_cons ?_; refine s_expr ?_; refine r_meth ?_; refine r_s rfl ?_; refine v_mon (by assumption) ?_; refine r_ss rfl ?_
  refine m_clr c0 ?_
  refine v_exprn ?_; refine t_expr ?_; refine r_meth ?_; refine r_s rfl ?_
  refine m_on (set_at _ _ _) ?_
  refine r_ss rfl ?_
  refine one e b0 c0 hg gl ?_
  have e1 : Ext β ((σ.set h (.list [])).set h (.list gs)) := (e.upd b0 _).upd b0 _
  have k0 := set_at (σ.set h (.list [])) h (.list gs)
  have k1 : ((σ.set h (.list [])).set h (.list gs)) m0 = some (.list z0) := by rw [set_ne _ _ n0, set_ne _ _ n0]; exact c1
  have k2 : ((σ.set h (.list [])).set h (.list gs)) m1 = some (.list z1) := by rw [set_ne _ _ n1, set_ne _ _ n1]; exact c2
  generalize (σ.set h (.list [])).set h (.list gs) = σ1 at e1 k0 k1 k2 ⊢
  refine v_exprn ?_; refine s_cons ?_; refine s_for rfl ?_; refine r_bcall rfl ?_; refine r_ss rfl ?_
  refine b_range (by decide) (by decide) fun r hr2 => ?_
  have hr0 := set_at σ1 r (.range 0 2)
  have e2 := e1.trans (.set hr2 (.range 0 2))
  replace k0 := Ext.set hr2 (.range 0 2) _ _ k0
  replace k1 := Ext.set hr2 (.range 0 2) _ _ k1
  replace k2 := Ext.set hr2 (.range 0 2) _ _ k2
  generalize σ1.set r (.range 0 2) = σ2 at *
  refine w_on (turns_range hr0) ?_
  have rn : ∀ {σ' : Sto}, σ' r = some (.range 0 2) → (∀ {m zs}, σ' m = some (.list zs) → r ≠ m) := fun h1 m zs h2 q => by rw [q, h2] at h1; cases h1
  refine for_rel (one1 fun (i : Int) v => v = .int i) (fun l ρ' σ' => Ext β σ' ∧ σ' r = some (.range 0 2) ∧ σ' h = some (.list gs) ∧ ρ' "_law_moved" = some (.ref mv) ∧ ρ' "_law_plan" = some (.ref ap) ∧ ((l = [0, 1] ∧ (∃ z, σ' m0 = some (.list z)) ∧ ∃ z, σ' m1 = some (.list z)) ∨ (l = [1] ∧ σ' m0 = some (.list xw) ∧ ∃ z, σ' m1 = some (.list z)) ∨ (l = [] ∧ σ' m0 = some (.list xw) ∧ σ' m1 = some (.list xr)))) ?_ ?_ ?_ (irange 0 2) _ _ σ2 (All2.turns (All2.of fun o' o' => rfl))
    ⟨e2, hr0, k0, by (repeat (first | with_reducible exact l_here | assumption | refine l_there rfl ?_ | with_reducible refine l_bind ?_ | with_reducible refine l_bind0 ?_)), by (repeat (first | with_reducible exact l_here | assumption | refine l_there rfl ?_ | with_reducible refine l_bind ?_ | with_reducible refine l_bind0 ?_)), .inl ⟨rfl, ⟨_, k1⟩, _, k2⟩⟩
  · rintro l ρ' σ' ⟨_, h1, _⟩; exact stay_range hr0 h1
  · intro ρ' σ' H09
    refine Classical.byContradiction fun hG => ?_
    obtain ⟨f, _, h1, _, _, h2⟩ := H09
    refine hG ?_
    clear hG
    rcases h2 with h2 | h2 | h2
    · cases h2.1
    · cases h2.1
    · refine s_nxt ?_; refine s_nil ?_; refine k_nxt ?_
      exact hQ _ f h1 h2.2.1 h2.2.2
  · intro i l t ρ' σ' K H09 H19 hn hret
    refine Classical.byContradiction fun hG => ?_
    obtain ⟨v, rfl, rfl⟩ := H09
    obtain ⟨f, h1, h2, r1, r2, h3⟩ := H19
    refine hG ?_
    clear hG
    rcases h3 with ⟨h3, ⟨z, h4⟩, z', h5⟩ | ⟨h3, h4, z, h5⟩ | h3
    · obtain ⟨rfl, rfl⟩ := List.cons.inj h3
      refine s_cons ?_; refine s_expr ?_; refine r_meth ?_; refine r_sub ?_; refine r_var (by assumption) ?_; refine v_sub1 ?_; refine r_s rfl ?_
      refine sub0 (f _ _ hmv) ?_
      refine m_on h4 ?_
      refine r_ss rfl ?_
      refine m_clr h4 ?_
      refine v_exprn ?_; refine t_expr ?_; refine r_meth ?_; refine r_sub ?_; refine r_var (by assumption) ?_; refine v_sub1 ?_; refine r_s rfl ?_
      refine sub0 (f.upd b1 _ _ _ hmv) ?_
      refine m_on (set_at _ _ _) ?_
      refine r_cons ?_; refine r_sub ?_; refine r_var (by assumption) ?_; refine v_sub1 ?_; refine r_s rfl ?_
      refine sub0 (f.upd b1 _ _ _ hp) ?_
      refine v_cons ?_; refine r_ss rfl ?_; refine v_push ?_
      refine one f b1 h4 hw wl ?_
      refine v_exprn ?_; refine s_nil ?_
      exact hn _ _ ⟨(f.upd b1 _).upd b1 _, by rw [set_ne _ _ (rn h1 h4), set_ne _ _ (rn h1 h4)]; exact h1, by rw [set_ne _ _ (Ne.symm n0), set_ne _ _ (Ne.symm n0)]; exact h2, by (repeat (first | with_reducible exact l_here | assumption | refine l_there rfl ?_ | with_reducible refine l_bind ?_ | with_reducible refine l_bind0 ?_)), by (repeat (first | with_reducible exact l_here | assumption | refine l_there rfl ?_ | with_reducible refine l_bind ?_ | with_reducible refine l_bind0 ?_)), .inr (.inl ⟨rfl, set_at _ _ _, z', by rw [set_ne _ _ (Ne.symm n2), set_ne _ _ (Ne.symm n2)]; exact h5⟩)⟩
    · obtain ⟨rfl, rfl⟩ := List.cons.inj h3
      refine s_cons ?_; refine s_expr ?_; refine r_meth ?_; refine r_sub ?_; refine r_var (by assumption) ?_; refine v_sub1 ?_; refine r_s rfl ?_
      refine sub1 (f _ _ hmv) ?_
      refine m_on h5 ?_
      refine r_ss rfl ?_
      refine m_clr h5 ?_
      refine v_exprn ?_; refine t_expr ?_; refine r_meth ?_; refine r_sub ?_; refine r_var (by assumption) ?_; refine v_sub1 ?_; refine r_s rfl ?_
      refine sub1 (f.upd b2 _ _ _ hmv) ?_
      refine m_on (set_at _ _ _) ?_
      refine r_cons ?_; refine r_sub ?_; refine r_var (by assumption) ?_; refine v_sub1 ?_; refine r_s rfl ?_
      refine sub1 (f.upd b2 _ _ _ hp) ?_
      refine v_cons ?_; refine r_ss rfl ?_; refine v_push ?_
      refine one f b2 h5 hr rl ?_
      refine v_exprn ?_; refine s_nil ?_
      exact hn _ _ ⟨(f.upd b2 _).upd b2 _, by rw [set_ne _ _ (rn h1 h5), set_ne _ _ (rn h1 h5)]; exact h1, by rw [set_ne _ _ (Ne.symm n1), set_ne _ _ (Ne.symm n1)]; exact h2, by (repeat (first | with_reducible exact l_here | assumption | refine l_there rfl ?_ | with_reducible refine l_bind ?_ | with_reducible refine l_bind0 ?_)), by (repeat (first | with_reducible exact l_here | assumption | refine l_there rfl ?_ | with_reducible refine l_bind ?_ | with_reducible refine l_bind0 ?_)), .inr (.inr ⟨rfl, by rw [set_ne _ _ n2, set_ne _ _ n2]; exact h4, set_at _ _ _⟩)⟩
    · cases h3.1
theorem y_ve {gv : Glo} {σ : Sto} {a : Nat} {c : String} {K : Bool → Prop} (h : σ a = some (.exc c)) (hK : K true) : isiAny gv (.ref a) .valueError σ K := by simp only [isiAny, isxW, h]; exact hK
theorem y_own {g : Glo} {hd : Bool} {er : String → Sto → Prop} {σ : Sto} {a : Nat} {c d : String} {K : Bool → Prop} (hx : g.ex d = true) (h : σ a = some (.exc c)) (hK : K (excSub c d)) : isiAny (g.at hd er) (.ref a) (.own d) σ K := by
  simp only [isiAny, isxW, h]; exact ⟨hx, hK⟩
noncomputable def wd (c d s : String) : List Nat := if excSub c d then lit s ++ [] else []
theorem o_wd {σ : Sto} {c d s : String} {Q : KV} (hl : (lit s).length ≤ 1000) (h : Q (.str (wd c d s)) σ) : binW .mul (.str (lit s)) (.int (if excSub c d = true then 1 else 0)) σ Q := by
  unfold wd at h
  cases q : excSub c d with
  | true => rw [q] at h; exact o_reps (by decide) (by decide) hl h
  | false => rw [q] at h; exact o_reps (by decide) (by decide) hl h
theorem wd_len {c d s : String} (h : (lit s).length ≤ 10) : (wd c d s).length ≤ 10 := by
  unfold wd
  split
  · rw [List.append_nil]; exact h
  · exact Nat.zero_le _
noncomputable def word (c : String) : List Nat := [] ++ wd c "BadHouse" "house" ++ wd c "BadGuess" "guess" ++ wd c "BadDeed" "deed" ++ wd c "BadPlan" "plan" ++ wd c "BadSteps" "steps" ++ wd c "NoWay" "way" ++ wd c "BadText" "text"
theorem word_spec (V : Env F g) {d a : Nat} {c : String} {σ : Sto} {Q : KV} {er : String → Sto → Prop} (ha : σ a = some (.exc c)) (hQ : Q (.str (word c)) σ) : F (d + 1) true "_law_word" [.ref a] σ Q er := by
  have cat : ∀ {x y : List Nat} {n : Nat} {Q : KV} {σ : Sto}, x.length ≤ n → y.length ≤ 10 → n ≤ 1000 → (∀ z : List Nat, z = x ++ y → z.length ≤ n + 10 → Q (.str z) σ) → binW .add (.str x) (.str y) σ Q := fun h1 h2 h3 hq => o_cats (by omega) (hq _ rfl (by rw [List.length_append]; omega))
  have w0 : ∀ {d s}, (lit s).length ≤ 10 → (wd c d s).length ≤ 10 := fun h => wd_len h
  have hx := V.xs
  refine FnOk.go V.lh rfl ?_
  refine s_cons ?_; refine s_assign ?_; refine r_bin ?_; refine r_bin ?_; refine r_str rfl ?_; refine v_bin ?_; refine r_bint ?_; refine r_cons ?_; refine r_not ?_; refine r_isi ?_; refine r_s rfl ?_
  refine y_ve ha ?_
  refine v_b ?_; refine v_nott ?_; refine v_cons ?_; refine r_ss rfl ?_; refine v_push ?_; refine v_boo ?_
  refine o_reps (by decide) (by decide) (by decide) ?_
  refine v_bin ?_; refine r_bin ?_; refine r_str rfl ?_; refine v_bin ?_; refine r_bint ?_; refine r_cons ?_; refine r_isi ?_; refine r_s rfl ?_
  refine y_own (hx _ (by decide)) ha ?_
  refine v_b ?_; refine v_cons ?_; refine r_ss rfl ?_; refine v_push ?_; refine v_boo ?_
  refine o_wd (by decide) (cat (n := 0) (Nat.le_refl _) (w0 (by decide)) (by decide) fun z1 e1 l1 => ?_)
  refine v_asgn ?_; refine t_assign ?_; refine r_bin ?_; refine r_bin ?_; refine r_s rfl ?_; refine v_bin ?_; refine r_bin ?_; refine r_str rfl ?_; refine v_bin ?_; refine r_bint ?_; refine r_cons ?_; refine r_isi ?_; refine r_s rfl ?_
  refine y_own (hx _ (by decide)) ha ?_
  refine v_b ?_; refine v_cons ?_; refine r_ss rfl ?_; refine v_push ?_; refine v_boo ?_
  refine o_wd (by decide) (cat l1 (w0 (by decide)) (by decide) fun z2 e2 l2 => ?_)
  refine v_bin ?_; refine r_bin ?_; refine r_str rfl ?_; refine v_bin ?_; refine r_bint ?_; refine r_cons ?_; refine r_isi ?_; refine r_s rfl ?_
  refine y_own (hx _ (by decide)) ha ?_
  refine v_b ?_; refine v_cons ?_; refine r_ss rfl ?_; refine v_push ?_; refine v_boo ?_
  refine o_wd (by decide) (cat l2 (w0 (by decide)) (by decide) fun z3 e3 l3 => ?_)
  refine v_asgn ?_; refine t_assign ?_; refine r_bin ?_; refine r_bin ?_; refine r_s rfl ?_; refine v_bin ?_; refine r_bin ?_; refine r_str rfl ?_; refine v_bin ?_; refine r_bint ?_; refine r_cons ?_; refine r_isi ?_; refine r_s rfl ?_
  refine y_own (hx _ (by decide)) ha ?_
  refine v_b ?_; refine v_cons ?_; refine r_ss rfl ?_; refine v_push ?_; refine v_boo ?_
  refine o_wd (by decide) (cat l3 (w0 (by decide)) (by decide) fun z4 e4 l4 => ?_)
  refine v_bin ?_; refine r_bin ?_; refine r_str rfl ?_; refine v_bin ?_; refine r_bint ?_; refine r_cons ?_; refine r_isi ?_; refine r_s rfl ?_
  refine y_own (hx _ (by decide)) ha ?_
  refine v_b ?_; refine v_cons ?_; refine r_ss rfl ?_; refine v_push ?_; refine v_boo ?_
  refine o_wd (by decide) (cat l4 (w0 (by decide)) (by decide) fun z5 e5 l5 => ?_)
  refine v_asgn ?_; refine t_ret ?_; refine r_bin ?_; refine r_bin ?_; refine r_s rfl ?_; refine v_bin ?_; refine r_bin ?_; refine r_str rfl ?_; refine v_bin ?_; refine r_bint ?_; refine r_cons ?_; refine r_isi ?_; refine r_s rfl ?_
  refine y_own (hx _ (by decide)) ha ?_
  refine v_b ?_; refine v_cons ?_; refine r_ss rfl ?_; refine v_push ?_; refine v_boo ?_
  refine o_wd (by decide) (cat l5 (w0 (by decide)) (by decide) fun z6 e6 l6 => ?_)
  refine v_bin ?_; refine r_bin ?_; refine r_str rfl ?_; refine v_bin ?_; refine r_bint ?_; refine r_cons ?_; refine r_isi ?_; refine r_s rfl ?_
  refine y_own (hx _ (by decide)) ha ?_
  refine v_b ?_; refine v_cons ?_; refine r_ss rfl ?_; refine v_push ?_; refine v_boo ?_
  refine o_wd (by decide) (cat l6 (w0 (by decide)) (by decide) fun z7 e7 l7 => ?_)
  refine v_retk ?_
  subst e1 e2 e3 e4 e5 e6 e7
  exact hQ
theorem s_tryn {F : CallW} {ρ : Loc} {σ : Sto} {Q : KS} {er : String → Sto → Prop} {body hb : List St} {cls x : String} (hx : g.ex cls = true)
    (h : wpSs F (g.at false fun c σ' => excSub c cls = true ∧ ∀ a, σ' a = none → wpSs F (g.at true fun o' o' => False) hb (upd (fun o' => none) x (.ref a)) (σ'.set a (.exc c)) (fun fl o' σ'' => Q fl (fun o' => none) σ'')) body ρ σ Q) : wpS F (g.at false er) (.try_ body cls x hb) ρ σ Q := ⟨rfl, hx, h⟩
theorem refused_spec (V : Env F g) {d ga : Nat} {L : List Int} {D : List (List (List Int))} {W : List Int} {gs : List Int} {b : Bool} {vh vp : Val} {σ : Sto} {Q : KV} {er : String → Sto → Prop} (hv : HouseAt σ vh L D W) (hg : σ ga = some (.list (gs.map .int))) (hb : ∀ σ', Ext σ σ' → PlanIs F σ' D.length vp b)
    (hno : (risingI gs (-1) L.length && !gs.isEmpty) = true → b = false) (hQ : ∀ σ', Ext σ σ' → Q (.str (lit (if (risingI gs (-1) L.length && !gs.isEmpty) = true then "plan" else "guess"))) σ') : F (d + 8) false "_law_refused" [vh, .ref ga, vp] σ Q er := by
  have fd := V.fd
  have lh := V.lh
  have h1 : word "BadGuess" = lit "guess" := by decide
  have h2 : word "BadPlan" = lit "plan" := by decide
  refine FnOk.go V.li rfl ?_
  refine s_cons ?_
  refine s_tryn V.x0 ?_
  refine s_cons ?_; refine s_expr ?_; refine r_calln (FnOk.cf (by assumption)) ?_; refine r_ss rfl ?_
  refine leads_bad V hv hg hb (fun q σ' e => ⟨rfl, fun z hz => ?_⟩) (fun q o' σ' e => ⟨rfl, fun z hz => ?_⟩) fun q q2 => absurd q2 (by rw [hno q]; exact Bool.false_ne_true)
  · refine s_cons ?_; refine s_ret ?_; refine r_calln (FnOk.cf (by assumption)) ?_; refine r_ss rfl ?_
    refine word_spec V (set_at _ _ _) ?_
    refine v_ret ?_; refine s_out ?_; refine s_out ?_; refine k_ret ?_
    have := hQ _ (e.trans (.set hz (.exc "BadGuess")))
    rw [if_neg (by rw [q]; exact Bool.false_ne_true), ← h1] at this
    exact this
  · refine s_cons ?_; refine s_ret ?_; refine r_calln (FnOk.cf (by assumption)) ?_; refine r_ss rfl ?_
    refine word_spec V (set_at _ _ _) ?_
    refine v_ret ?_; refine s_out ?_; refine s_out ?_; refine k_ret ?_
    have := hQ _ (e.trans (.set hz (.exc "BadPlan")))
    rw [if_pos q, ← h2] at this
    exact this
end BP

namespace BP
open PySem
variable {F : Nat → CallW} {g : Glo}
mutual
theorem Has.alloc {σ : Sto} : ∀ {d : Dat} {v : Val}, Has σ d v → HasF (fun a => σ a ≠ none) σ d v
  | .none, v, x => x
  | .bool _, v, x => x
  | .int _, v, x => x
  | .list ds, v, ⟨a, xs, h1, h2, h3⟩ => ⟨a, xs, h1, (fun q => by rw [h2] at q; cases q), h2, HasL.alloc h3⟩
  | .tup ds, v, ⟨a, xs, h1, h2, h3⟩ => ⟨a, xs, h1, (fun q => by rw [h2] at q; cases q), h2, HasL.alloc h3⟩
theorem HasL.alloc {σ : Sto} : ∀ {ds : List Dat} {xs : List Val}, HasL σ ds xs → HasFL (fun a => σ a ≠ none) σ ds xs
  | [], xs, x => x
  | d :: ds, xs, ⟨y, ys, h1, h2, h3⟩ => ⟨y, ys, h1, Has.alloc h2, HasL.alloc h3⟩
end
theorem Has.ne {σ : Sto} {c : Nat} {d : Dat} {v : Val} (h : Has σ d v) (hc : σ c = none) : HasF (· ≠ c) σ d v := h.alloc.move (fun o' o' o' e => e) fun a ha q => ha (by rw [q]; exact hc)
theorem fresh_ne {σ : Sto} {b c : Nat} {ob : Ob} (hb : σ b = none) (hc : σ c = some ob) : b ≠ c := fun q => by rw [q, hc] at hb; cases hb
noncomputable def srt (i j : Int) : List Int := if j < i then [j, i] else [i, j]
noncomputable def srtW (w w' : Way) : List Way := if w'.1 < w.1 then [w', w] else [w, w']
theorem b_sorti {σ : Sto} {a : Nat} {i j : Int} {Q : KV} (ha : σ a = some (.list [.int i, .int j])) (h : ∀ c, σ c = none → Q (.ref c) (σ.set c (.list ((srt i j).map .int)))) : bcallW .sorted [.ref a] σ Q := by
  simp only [bcallW, ref1, ha, onL]
  refine .inl ⟨i, j, rfl, fun c hc => ?_⟩
  have := h c hc
  unfold srt at this
  by_cases q : j < i
  · rw [if_pos q] at this ⊢; exact this
  · rw [if_neg q] at this ⊢; exact this
theorem wayF {ok : Nat → Prop} {σ : Sto} {t : Nat} {w : Way} (h : σ t = some (.tup [.int w.1, .int w.2])) (ht : ok t) : HasF ok σ (dWay w) (.ref t) := by
  simp only [dWay, HasF, HasFL]
  exact ⟨t, _, rfl, ht, h, _, _, rfl, rfl, _, _, rfl, rfl, rfl⟩
theorem b_sortw {ok : Nat → Prop} {σ : Sto} {a t u : Nat} {w w' : Way} {Q : KV} (ha : σ a = some (.list [.ref t, .ref u])) (ht : σ t = some (.tup [.int w.1, .int w.2])) (hu : σ u = some (.tup [.int w'.1, .int w'.2])) (kt : ok t) (ku : ok u) (hne : w.1 ≠ w'.1)
    (h : ∀ c, σ c = none → ∀ vs, All2 (fun w v => HasF ok σ (dWay w) v) (srtW w w') vs → Q (.ref c) (σ.set c (.list vs))) : bcallW .sorted [.ref a] σ Q := by
  simp only [bcallW, ref1, ha, onL]
  refine .inr ⟨t, u, w.1, w.2, w'.1, w'.2, rfl, ht, hu, hne, fun c hc => ?_⟩
  have := h c hc
  unfold srtW at this
  by_cases q : w'.1 < w.1
  · rw [if_pos q] at this ⊢; exact this _ (.cons (wayF hu ku) (.cons (wayF ht kt) .nil))
  · rw [if_neg q] at this ⊢; exact this _ (.cons (wayF ht kt) (.cons (wayF hu ku) .nil))
theorem mem2 {k i j : Int} (h : k ∈ [i, j]) : k = i ∨ k = j := (List.mem_cons.mp h).imp_right List.mem_singleton.mp
theorem srt_rooms {i j n : Int} (h : i ≠ j) (i0 : 0 ≤ i) (i1 : i < n) (j0 : 0 ≤ j) (j1 : j < n) : Rooms n (srt i j) ∧ srt i j ≠ [] := by
  unfold srt
  by_cases q : j < i
  · rw [if_pos q]
    exact ⟨⟨List.pairwise_pair.mpr q, fun k hk => (mem2 hk).elim (fun e => e ▸ ⟨j0, Int.lt_trans q i1⟩) fun e => e ▸ ⟨Int.le_trans j0 (Int.le_of_lt q), i1⟩⟩, List.cons_ne_nil _ _⟩
  · rw [if_neg q]
    exact ⟨⟨List.pairwise_pair.mpr (Int.lt_iff_le_and_ne.mpr ⟨Int.not_lt.mp q, h⟩), fun k hk => (mem2 hk).elim (fun e => e ▸ ⟨i0, Int.lt_of_le_of_lt (Int.not_lt.mp q) j1⟩) fun e => e ▸ ⟨Int.le_trans i0 (Int.not_lt.mp q), j1⟩⟩, List.cons_ne_nil _ _⟩
theorem srtW_ok {w w' : Way} {a b : Int} (h : w.1 ≠ w'.1) (h1 : (0 ≤ w.1 ∧ w.1 < 10) ∧ a ≤ w.2 ∧ w.2 < b) (h2 : (0 ≤ w'.1 ∧ w'.1 < 10) ∧ a ≤ w'.2 ∧ w'.2 < b) : WaysOk a b (srtW w w') 10 := by
  have two : ∀ {P : Way → Prop}, P w → P w' → (∀ v ∈ [w, w'], P v) ∧ ∀ v ∈ [w', w], P v := fun h1 h2 => ⟨fun v hv => by
    rcases List.mem_cons.mp hv with q | q
    · rw [q]; exact h1
    · rw [List.mem_singleton.mp q]; exact h2, fun v hv => by
    rcases List.mem_cons.mp hv with q | q
    · rw [q]; exact h2
    · rw [List.mem_singleton.mp q]; exact h1⟩
  have := two (P := fun v => (0 ≤ v.1 ∧ v.1 < 10) ∧ a ≤ v.2 ∧ v.2 < b) h1 h2
  unfold srtW
  by_cases q : w'.1 < w.1
  · rw [if_pos q]; exact ⟨List.pairwise_pair.mpr q, this.2⟩
  · rw [if_neg q]; exact ⟨List.pairwise_pair.mpr (by lia), this.1⟩
theorem goodRs_ran {nd m n : Int} {f : Int → Row} {l : List Int} {k : Int} (h : l = irange k n) (hf : ∀ i, k ≤ i → i < n → goodR nd m i (f i) = true) : goodRs nd m k (l.map f) = true := by
  induction l generalizing k with
  | nil => rfl
  | cons i l ih =>
    have h2 := irange_cons h
    have hin := mem_irange.mp (h ▸ List.mem_cons_self : i ∈ irange k n)
    rw [h2.1] at hin ⊢
    exact (Bool.and_eq_true _ _).mpr ⟨hf k (Int.le_refl _) hin.2, ih h2.2 fun j h3 h4 => hf j (Int.le_of_lt h3) h4⟩
noncomputable def crossR (lq lr m e : Int) (w : List Way) : List Row := (((irange 0 m).map fun k => ((some 0, [(lq, k + 1)]) : Row)) ++ [(some 1, w)]) ++ ((irange (m + 1) e).map fun k => ((some 0, [(lr, k + 1)]) : Row)) ++ [(none, [])]
theorem crossR_len {lq lr m e : Int} {w : List Way} (h1 : 0 ≤ m) (h2 : m + 1 < e) : ((crossR lq lr m e w).length : Int) = e + 1 := by
  simp only [crossR, List.length_append, List.length_map, iran_len, List.length_singleton]
  lia
theorem crossR_good {lq lr m e : Int} {w : List Way} (h1 : 0 ≤ m) (h2 : m + 1 < e) (hq : 0 ≤ lq ∧ lq < 10) (hr : 0 ≤ lr ∧ lr < 10) (hw : WaysOk (m + 1) (e + 1) w 10) : goodRs 2 (e + 1) 0 (crossR lq lr m e w) = true := by
  have one : ∀ {l i : Int}, 0 ≤ l ∧ l < 10 → 0 ≤ i → i < e → goodR 2 (e + 1) i (some 0, [(l, i + 1)]) = true := fun {l i} hl hi he => by
    show (decide ((0 : Int) ≤ 0) && decide ((0 : Int) ≤ 2 - 1) && goodW (i + 1) (e + 1) (-1) [(l, i + 1)]) = true
    rw [WaysOk.good (ws := [(l, i + 1)]) ⟨List.pairwise_singleton _ _, fun w hw => by rw [List.mem_singleton.mp hw]; exact ⟨hl, Int.le_refl _, by show i + 1 < e + 1; lia⟩⟩]; rfl
  have l1 : (((irange 0 m).map fun k => ((some 0, [(lq, k + 1)]) : Row)).length : Int) = m := by rw [List.length_map, iran_len]; lia
  have A : goodRs 2 (e + 1) 0 (((irange 0 m).map fun k => ((some 0, [(lq, k + 1)]) : Row)) ++ [(some 1, w)]) = true := by
    refine goodRs_snoc (goodRs_ran rfl fun i h3 h4 => one hq h3 (by lia)) ?_
    rw [l1, Int.zero_add]
    show (decide ((0 : Int) ≤ 1) && decide ((1 : Int) ≤ 2 - 1) && goodW (m + 1) (e + 1) (-1) w) = true
    rw [hw.good]; rfl
  have B := goodRs_app (B := (irange (m + 1) e).map fun k => ((some 0, [(lr, k + 1)]) : Row)) A (by
    rw [List.length_append, List.length_singleton, show (0 : Int) + (((((irange 0 m).map fun k => ((some 0, [(lq, k + 1)]) : Row)).length + 1 : Nat)) : Int) = m + 1 by lia]
    exact goodRs_ran rfl fun i h3 h4 => one hr (by lia) h4)
  exact goodRs_snoc B rfl
theorem All2.set {α β : Type} {R : α → β → Prop} {a : α} {b : β} (h : R a b) {as : List α} {bs : List β} (k : Nat) (h' : All2 R as bs) : All2 R (as.set k a) (bs.set k b) := by
  induction h' generalizing k with
  | nil => exact .nil
  | cons h1 h2 ih => cases k with
    | zero => exact .cons h h2
    | succ k => exact .cons h1 (ih k)
theorem All2.append {α β : Type} {R : α → β → Prop} {as as' : List α} {bs bs' : List β} (h : All2 R as bs) (h' : All2 R as' bs') : All2 R (as ++ as') (bs ++ bs') := by
  induction h with
  | nil => exact h'
  | cons h1 _ ih => exact .cons h1 ih
end BP

namespace BP
open PySem
variable {F : Nat → CallW} {g : Glo}
noncomputable def four (b : Int) : List Int := (irange 0 4).map fun i => (b + 3 * i) % 10
theorem four_at {b i : Int} (h0 : 0 ≤ i) (h1 : i < 4) : (four b)[i.toNat]? = some ((b + 3 * i) % 10) := by
  have : i = 0 ∨ i = 1 ∨ i = 2 ∨ i = 3 := by lia
  rcases this with rfl | rfl | rfl | rfl <;> rfl
noncomputable def goR (p q r s : Int) : List (List Int) := (((irange 0 4).map fun i => [i]).set p.toNat [r]).set q.toNat [s]
theorem one_deed {n i : Int} (h0 : 0 ≤ i) (h1 : i < n) : Rooms n [i] ∧ [i] ≠ [] := ⟨.one h0 h1, List.cons_ne_nil _ _⟩
theorem idR_ok : DeedOk 4 ((irange 0 4).map fun i => [i]) := ⟨by decide, fun ns h => by
  refine Classical.byContradiction fun hG => ?_
  obtain ⟨i, hi, rfl⟩ := List.mem_map.mp h
  refine hG ?_
  clear hG
  exact one_deed (mem_irange.mp hi).1 (mem_irange.mp hi).2⟩
theorem goR_ok {p q r s : Int} (r0 : 0 ≤ r) (r1 : r < 4) (s0 : 0 ≤ s) (s1 : s < 4) : DeedOk 4 (goR p q r s) := by
  unfold goR
  refine ⟨by rw [List.length_set, List.length_set]; exact idR_ok.1, fun ns h => ?_⟩
  rcases List.mem_or_eq_of_mem_set h with h | h
  · rcases List.mem_or_eq_of_mem_set h with h | h
    · exact idR_ok.2 ns h
    · rw [h]; exact one_deed r0 r1
  · rw [h]; exact one_deed s0 s1
theorem row_new2 {σ : Sto} {b c : Nat} {dd : Int} {ws : List Way} {y : Val} (hb : σ b = none) (hbc : b ≠ c) (h : HasF (· ≠ c) σ (dWays ws) y) : HasF (· ≠ c) (σ.set b (.tup [.int dd, y])) (dRow (some dd, ws)) (.ref b) := row_new (r := (some dd, ws)) hb hbc h
theorem subl {σ : Sto} {al : Nat} {b i : Int} {Q : KV} (h : σ al = some (.list ((four b).map .int))) (h0 : 0 ≤ i) (h1 : i < 4) (hQ : Q (.int ((b + 3 * i) % 10)) σ) : subW (.ref al) (.int i) σ Q :=
  subW_ints h h0 (by show i < 4; exact h1) fun j o' hj => by rw [four_at h0 h1] at hj; cases hj; exact hQ
theorem ways_comp {F : CallW} {er : String → Sto → Prop} {x : String} {ρ : Loc} {σ : Sto} {al r : Nat} {b i lo hi : Int} {Q : KV} (hal : σ al = some (.list ((four b).map .int))) (r1 : ρ "_law_looks_here" = some (.ref al)) (r2 : ρ x = some (.int i)) (hx : (x == "_law_k") = false) (h0 : 0 ≤ i) (h1 : i < 4) (hr : σ r = some (.range lo hi)) (hl : (hi - lo).toNat ≤ 1000)
    (hQ : ∀ c ys σ', Ext σ σ' → σ' c = none → All2 (fun k v => Has σ' (dRow (some 0, [((b + 3 * i) % 10, k + 1)])) v) (irange lo hi) ys → Q (.ref c) (σ'.set c (.list ys))) :
    onS1 (turnsOf σ (.ref r) 1) fun turns => turns.length ≤ lim ∧ wpComp (fun ρ' σ' K => wpIfs F (g.at false er) [] ρ' σ' K) (fun ρ' σ' K => wpE F (g.at false er) (.tup [(.int_ 0), (.list [(.tup [(.sub (.var "_law_looks_here") (.var x)), (.bin .add (.var "_law_k") (.int_ 1))])])]) ρ' σ' K) (stay σ (.ref r) 1 turns) ["_law_k"] turns [] ρ σ fun ys σ' => newW σ' (.list ys) Q := by
  refine comp_ran _ (fun e h => h.ext e) hr (by lia) ?_ hQ
  intro k _ _ σ' e K' hK
  have r3 : upd ρ "_law_k" (.int k) x = some (.int i) := l_there hx r2
  refine r_tup ?_; refine r_cons ?_; refine r_s rfl ?_; refine v_cons ?_; refine r_cons ?_; refine r_list ?_; refine r_cons ?_; refine r_tup ?_; refine r_cons ?_; refine r_sub ?_; refine r_var (by assumption) ?_; refine v_sub1 ?_; refine r_var (by assumption) ?_
  refine subl (e _ _ hal) h0 h1 ?_
  refine v_cons ?_; refine r_ss rfl ?_; refine v_push ?_
  refine n_lit rfl fun t ht => ?_
  refine v_cons ?_; refine r_ss rfl ?_; refine v_push ?_
  refine n_lit rfl fun l hl => ?_
  refine v_cons ?_; refine r_ss rfl ?_; refine v_push ?_; refine v_push ?_
  refine n_lit rfl fun z hz => ?_
  refine hK _ _ ((Ext.set ht _).trans ((Ext.set hl _).trans (.set hz _))) (mk_tup2 (set_at _ _ _) rfl ?_)
  refine list_has (as := [((b + 3 * i) % 10, k + 1)]) (Ext.set hz _ _ _ (set_at _ _ _)) (.cons (mk_tup2 (((Ext.set hl _).trans (.set hz _)) _ _ (set_at _ _ _)) rfl rfl) .nil)
theorem go_set {β σ : Sto} {ag b : Nat} {xs : List Val} {rows : List (List Int)} {k r : Int} {K : Sto → Prop} (e : Ext β σ) (h0 : β ag = none) (ha : σ ag = some (.list xs)) (hl : xs.length = 4) (hx : All2 (fun ns v => HasF (· ≠ ag) σ (ilist ns) v) rows xs) (k0 : 0 ≤ k) (k1 : k < 4) (hb : σ b = none)
    (hK : ∀ σ' xs', Ext β σ' → σ' ag = some (.list xs') → xs'.length = 4 → All2 (fun ns v => HasF (· ≠ ag) σ' (ilist ns) v) (rows.set k.toNat [r]) xs' → K σ') : setSubW (.ref ag) (.int k) (.ref b) (σ.set b (.list [.int r])) K := by
  have hbn := fresh_ne hb ha
  refine p_list (Ext.set hb _ _ _ ha) k0 (by lia) (hK _ (xs.set k.toNat (.ref b)) ((e.trans (.set hb _)).upd h0 _) (set_at _ _ _) (by rw [List.length_set]; exact hl) ?_)
  refine All2.set ?_ _ (hx.imp fun o' o' o' h => hasF_keep (h.ext (.set hb _)))
  exact hasF_keep (newF_list (ds := [.int r]) hb hbn (HasFL.cons.mpr ⟨rfl, HasFL.nil⟩))
set_option maxHeartbeats 1000000 in
theorem mod4 (x : Int) : 0 ≤ x % 4 ∧ x % 4 < 4 := ⟨Int.emod_nonneg _ (by decide), Int.emod_lt_of_pos _ (by decide)⟩
theorem mod4_ne (x : Int) : (0 + x) % 4 ≠ (1 + x) % 4 ∧ (2 + x) % 4 ≠ (3 + x) % 4 := by lia
theorem mod10_ne {b r s : Int} (h : r ≠ s) (r0 : 0 ≤ r ∧ r < 4) (s0 : 0 ≤ s ∧ s < 4) : (b + 3 * r) % 10 ≠ (b + 3 * s) % 10 := by lia
theorem one_mod (c : Int) : 1 ≤ 1 + c % 4 ∧ 1 + c % 4 ≤ 4 := by have := mod4 c; lia
theorem two_mod {m : Int} (c : Int) (h : 1 ≤ m ∧ m ≤ 4) : m + 2 ≤ m + 2 + c % 4 ∧ m + 2 + c % 4 ≤ 9 := ⟨Int.le_add_of_nonneg_right (mod4 c).1, Int.le_trans (Int.add_le_add (Int.add_le_add_right h.2 2) (Int.le_of_lt_add_one (b := 3) (mod4 c).2)) (by decide)⟩
theorem crossed_spec (V : Env F g) {d : Nat} {c0 b0 : Int} {σ : Sto} {Q : KV} {er : String → Sto → Prop}
    (hQ : ∀ a vh ga vp L D Wd Gs S R σ', Ext σ σ' → σ' a = some (.tup [vh, .ref ga, vp]) → HouseOk 4 L D Wd → Has σ' (houseD L D Wd) vh → Rooms 4 Gs → Gs ≠ [] → σ' ga = some (.list (Gs.map .int)) → Has σ' (dPlan S R) vp → goodP D.length S R = true → R.length ≤ 68 → Q (.ref a) σ') : F (d + 1) false "_law_crossed" [.int c0, .int b0] σ Q er := by
  obtain ⟨p, hp⟩ : ∃ p, p = (0 + c0 / 16) % 4 := ⟨_, rfl⟩
  obtain ⟨q, hq⟩ : ∃ p, p = (1 + c0 / 16) % 4 := ⟨_, rfl⟩
  obtain ⟨r, hr⟩ : ∃ p, p = (2 + c0 / 16) % 4 := ⟨_, rfl⟩
  obtain ⟨s, hs⟩ : ∃ p, p = (3 + c0 / 16) % 4 := ⟨_, rfl⟩
  have pq : p ≠ q := by rw [hp, hq]; exact (mod4_ne _).1
  have rs : r ≠ s := by rw [hr, hs]; exact (mod4_ne _).2
  have p0 : 0 ≤ p ∧ p < 4 := hp ▸ mod4 _
  have q0 : 0 ≤ q ∧ q < 4 := hq ▸ mod4 _
  have r0 : 0 ≤ r ∧ r < 4 := hr ▸ mod4 _
  have s0 : 0 ≤ s ∧ s < 4 := hs ▸ mod4 _
  have lk : ∀ {i : Int}, 0 ≤ (b0 + 3 * i) % 10 ∧ (b0 + 3 * i) % 10 < 10 := fun {i} => ⟨Int.emod_nonneg _ (by decide), Int.emod_lt_of_pos _ (by decide)⟩
  refine FnOk.go V.ld rfl ?_
  refine s_cons ?_; refine s_unpack rfl ?_; refine r_comp rfl ?_; refine r_bcall rfl ?_; refine r_ss rfl ?_
  refine b_range (by decide) (by decide) fun z1 hz1 => ?_
  refine comp_ran (fun o' k v => v = .int ((k + c0 / 16) % 4)) (fun o' h => h) (set_at _ _ _) (by decide) ?_ ?_
  · intro k _ _ σ' e K' hK
    refine r_s rfl ?_
    exact hK _ _ (.refl _) rfl
  intro c1 ys σ1 e1 hc1 hys
  rw [hys.eq]
  refine u_list (xs := [.int p, .int q, .int r, .int s]) (by rw [set_at, hp, hq, hr, hs]; rfl) rfl ?_
  have E1 := (Ext.set hz1 _).trans (e1.trans (.set hc1 (.list ((irange 0 4).map fun k => Val.int ((k + c0 / 16) % 4)))))
  generalize (σ1.set c1 (.list ((irange 0 4).map fun k => Val.int ((k + c0 / 16) % 4)))) = σ2 at E1 ⊢
  clear hys e1 hc1 hz1 hp hq hr hs
  refine s_nxt ?_; refine s_cons ?_; refine s_assign ?_; refine r_comp rfl ?_; refine r_bcall rfl ?_; refine r_ss rfl ?_
  refine b_range (by decide) (by decide) fun z2 hz2 => ?_
  refine comp_ran (fun o' k v => v = .int ((b0 + 3 * k) % 10)) (fun o' h => h) (set_at _ _ _) (by decide) ?_ ?_
  · intro k k0 k1 σ' e K' hK
    refine r_bin ?_; refine r_bin ?_; refine r_s rfl ?_; refine v_bin ?_; refine r_bin ?_; refine r_s rfl ?_; refine v_bin ?_; refine r_s rfl ?_; refine v_mull rfl ?_; refine v_add ?_; refine v_bin ?_; refine r_s rfl ?_; refine v_mod rfl ?_
    exact hK _ _ (.refl _) rfl
  intro al ys σ3 e3 hal hys
  rw [hys.eq, show (irange 0 4).map (fun k => Val.int ((b0 + 3 * k) % 10)) = (four b0).map .int from rfl]
  have E3 := E1.trans ((Ext.set hz2 _).trans (e3.trans (.set hal (.list ((four b0).map .int)))))
  have hal := set_at σ3 al (.list ((four b0).map .int))
  generalize σ3.set al (.list ((four b0).map .int)) = σ4 at E3 hal ⊢
  clear hys e3 hz2 E1
  refine v_asgn ?_; refine t_assign ?_; refine r_s rfl ?_; refine v_asgn ?_; refine t_assign ?_; refine r_s rfl ?_; refine v_asgn ?_; refine t_assign ?_; refine r_comp rfl ?_; refine r_bcall rfl ?_; refine r_ss rfl ?_
  refine b_range (by decide) (by decide) fun z3 hz3 => ?_
  refine comp_ran (fun σ' k v => Has σ' (ilist [k]) v) (fun e h => h.ext e) (set_at _ _ _) (by decide) ?_ ?_
  · intro k k0 k1 σ' e K' hK
    refine r_list ?_; refine r_ss rfl ?_
    refine n_lit rfl fun b hb => ?_
    exact hK _ _ (.set hb _) (mk_ints (set_at _ _ _))
  intro ag ys σ5 e5 hag hys
  have E5 := E3.trans ((Ext.set hz3 _).trans e5)
  replace hal := ((Ext.set hz3 _).trans e5) _ _ hal
  have go0 : All2 (fun ns v => HasF (· ≠ ag) (σ5.set ag (.list ys)) (ilist ns) v) ((irange 0 4).map fun i => [i]) ys := All2.unmap (hys.imp fun k o' v h => (h.ne hag).ext (.set hag _))
  have f6 := Ext.set hag (.list ys)
  have hagv := set_at σ5 ag (.list ys)
  have hyl : ys.length = 4 := hys.len
  generalize σ5.set ag (.list ys) = σ6 at go0 f6 hagv ⊢
  clear hys e5 hz3 E3
  refine v_asgn ?_; refine t_asub ?_; refine r_list ?_; refine r_ss rfl ?_
  refine n_lit rfl fun b1 hb1 => ?_
  refine v_as1 ?_; refine r_s rfl ?_; refine v_as2 ?_; refine r_s rfl ?_
  refine go_set f6 hag hagv hyl go0 p0.1 p0.2 hb1 fun σ7 xs1 f7 ha1 hl1 go1 => ?_
  clear go0 hagv hyl f6 hb1
  refine v_nxn ?_; refine t_asub ?_; refine r_list ?_; refine r_ss rfl ?_
  refine n_lit rfl fun b2 hb2 => ?_
  refine v_as1 ?_; refine r_s rfl ?_; refine v_as2 ?_; refine r_s rfl ?_
  refine go_set f7 hag ha1 hl1 go1 q0.1 q0.2 hb2 fun σ8 xs2 f8 ha2 hl2 go2 => ?_
  clear go1 ha1 hl1 f7 hb2
  have hgo : Has σ8 (deedD (goR p q r s)) (.ref ag) := list_has ha2 (go2.imp fun o' o' o' h => h.has)
  have E8 := E5.trans f8
  replace hal := f8 _ _ hal
  clear go2 ha2 hl2 f8 E5 hag σ7 σ6 b1 b2
  obtain ⟨m, hm⟩ : ∃ m, m = 1 + c0 % 4 := ⟨_, rfl⟩
  obtain ⟨e, he⟩ : ∃ e, e = m + 2 + c0 / 4 % 4 := ⟨_, rfl⟩
  have hm1 : 1 ≤ m ∧ m ≤ 4 := hm ▸ one_mod _
  have he1 : m + 2 ≤ e ∧ e ≤ 9 := he ▸ two_mod _ hm1
  rw [← hm, ← he]
  clear hm he
  refine v_nxn ?_; refine t_assign ?_; refine r_comp rfl ?_; refine r_bcall rfl ?_; refine r_ss rfl ?_
  refine b_range (by lia) (by lia) fun z4 hz4 => ?_
  refine ways_comp (σ := σ8.set z4 (.range 0 m)) (i := q) (Ext.set hz4 _ _ _ hal) (by (repeat (first | with_reducible exact l_here | assumption | refine l_there rfl ?_ | with_reducible refine l_bind ?_ | with_reducible refine l_bind0 ?_))) (by (repeat (first | with_reducible exact l_here | assumption | refine l_there rfl ?_ | with_reducible refine l_bind ?_ | with_reducible refine l_bind0 ?_))) rfl q0.1 q0.2 (set_at _ _ _) (by lia) ?_
  intro a1 ys σ9 e9 ha1 hys
  have g9 := (Ext.set hz4 _).trans e9
  have ha8 := g9.new ha1
  have rw1 : All2 (fun x v => HasF (· ≠ a1) (σ9.set a1 (.list ys)) (dRow x) v) ((irange 0 m).map fun k => (some 0, [((b0 + 3 * q) % 10, k + 1)])) ys := All2.unmap (hys.imp fun k o' v h => (h.ne ha1).ext (.set ha1 _))
  have hyl : (ys.length : Int) = m := by rw [hys.len, iran_len]; lia
  have ha1v := set_at σ9 a1 (.list ys)
  have g9 := g9.trans (.set ha1 (.list ys))
  generalize σ9.set a1 (.list ys) = σ10 at g9 rw1 ha1v ⊢
  clear hys e9 hz4 ha1
  have hal10 := g9 _ _ hal
  refine v_asgn ?_; refine t_expr ?_; refine r_meth ?_; refine r_s rfl ?_; refine v_mon (by assumption) ?_; refine r_cons ?_; refine r_tup ?_; refine r_cons ?_; refine r_s rfl ?_; refine v_cons ?_; refine r_cons ?_; refine r_bcall rfl ?_; refine r_cons ?_; refine r_list ?_; refine r_cons ?_; refine r_tup ?_; refine r_cons ?_; refine r_sub ?_; refine r_s rfl ?_; refine v_sub1 ?_; refine r_s rfl ?_
  refine subl hal10 r0.1 r0.2 ?_
  refine v_cons ?_; refine r_ss rfl ?_; refine v_push ?_
  refine n_lit rfl fun t1 ht1 => ?_
  refine v_cons ?_; refine r_cons ?_; refine r_tup ?_; refine r_cons ?_; refine r_sub ?_; refine r_s rfl ?_; refine v_sub1 ?_; refine r_s rfl ?_
  refine subl (Ext.set ht1 _ _ _ hal10) s0.1 s0.2 ?_
  refine v_cons ?_; refine r_ss rfl ?_; refine v_push ?_
  refine n_lit rfl fun t2 ht2 => ?_
  refine v_cons ?_; refine r_ss rfl ?_; refine v_push ?_; refine v_push ?_
  refine n_lit rfl fun t3 ht3 => ?_
  have x3 := (Ext.set ht1 (.tup [.int ((b0 + 3 * r) % 10), .int (m + 1)])).trans ((Ext.set ht2 (.tup [.int ((b0 + 3 * s) % 10), .int e])).trans (.set ht3 (.list [.ref t1, .ref t2])))
  have d1 := ((Ext.set ht2 (.tup [.int ((b0 + 3 * s) % 10), .int e])).trans (.set ht3 (.list [.ref t1, .ref t2]))) _ _ (set_at σ10 t1 (.tup [.int ((b0 + 3 * r) % 10), .int (m + 1)]))
  have d2 := Ext.set ht3 (.list [.ref t1, .ref t2]) _ _ (set_at (σ10.set t1 (.tup [.int ((b0 + 3 * r) % 10), .int (m + 1)])) t2 (.tup [.int ((b0 + 3 * s) % 10), .int e]))
  have n1 := fresh_ne ht1 ha1v
  have n2 := fresh_ne ht2 (Ext.set ht1 _ _ _ ha1v)
  have d3 := set_at ((σ10.set t1 (.tup [.int ((b0 + 3 * r) % 10), .int (m + 1)])).set t2 (.tup [.int ((b0 + 3 * s) % 10), .int e])) t3 (.list [.ref t1, .ref t2])
  generalize (((σ10.set t1 (.tup [.int ((b0 + 3 * r) % 10), .int (m + 1)])).set t2 (.tup [.int ((b0 + 3 * s) % 10), .int e])).set t3 (.list [.ref t1, .ref t2])) = σ11 at x3 d1 d2 d3 ⊢
  clear ht1 ht2 ht3
  refine v_cons ?_; refine r_ss rfl ?_; refine v_push ?_
  refine b_sortw (ok := (· ≠ a1)) (w := ((b0 + 3 * r) % 10, m + 1)) (w' := ((b0 + 3 * s) % 10, e)) d3 d1 d2 n1 n2 (mod10_ne rs r0 s0) fun t4 ht4 vs hvs => ?_
  have ha11 := x3 _ _ ha1v
  have W1 := newF_list (ok := (· ≠ a1)) (ds := (srtW ((b0 + 3 * r) % 10, m + 1) ((b0 + 3 * s) % 10, e)).map dWay) ht4 (fresh_ne ht4 ha11) (all_hasFL hvs)
  have ok1 : WaysOk (m + 1) (e + 1) (srtW ((b0 + 3 * r) % 10, m + 1) ((b0 + 3 * s) % 10, e)) 10 := srtW_ok (mod10_ne rs r0 s0) ⟨lk, Int.le_refl _, by show m + 1 < e + 1; lia⟩ ⟨lk, by show m + 1 ≤ e; lia, by show e < e + 1; lia⟩
  generalize srtW ((b0 + 3 * r) % 10, m + 1) ((b0 + 3 * s) % 10, e) = w1 at W1 ok1
  have x4 := x3.trans (.set ht4 (.list vs))
  generalize σ11.set t4 (.list vs) = σ12 at W1 x4 ⊢
  clear hvs ht4 d1 d2 d3 x3 ha11 n1 n2
  refine v_cons ?_; refine r_ss rfl ?_; refine v_push ?_; refine v_push ?_
  refine n_lit rfl fun t5 ht5 => ?_
  have n5 := fresh_ne ht5 (x4 _ _ ha1v)
  have R1 := row_new2 (dd := 1) (ws := w1) ht5 n5 W1
  have x5 := x4.trans (.set ht5 (.tup [.int 1, .ref t4]))
  generalize σ12.set t5 (.tup [.int 1, .ref t4]) = σ13 at R1 x5 ⊢
  clear W1 ht5 n5 x4
  refine v_cons ?_; refine r_ss rfl ?_; refine v_push ?_
  refine m_app (x5 _ _ ha1v) (by lia) ?_
  have rw2 : All2 (fun x v => HasF (· ≠ a1) (σ13.set a1 (.list (ys ++ [.ref t5]))) (dRow x) v) (((irange 0 m).map fun k => (some 0, [((b0 + 3 * q) % 10, k + 1)])) ++ [(some 1, w1)]) (ys ++ [.ref t5]) := by
    refine All2.snoc ?_ (rw1.imp fun o' o' o' h => hasF_keep (h.ext x5))
    exact hasF_keep R1
  have g14 : Ext σ8 (σ13.set a1 (.list (ys ++ [.ref t5]))) := (g9.trans x5).upd ha8 _
  have ha14 := set_at σ13 a1 (.list (ys ++ [.ref t5]))
  generalize σ13.set a1 (.list (ys ++ [.ref t5])) = σ14 at rw2 g14 ha14 ⊢
  clear R1 x5 rw1 ha1v g9 hal10 ha8
  refine v_exprn ?_; refine t_assign ?_; refine r_bin ?_; refine r_s rfl ?_; refine v_bin ?_; refine r_comp rfl ?_; refine r_bcall rfl ?_; refine r_ss rfl ?_
  refine b_range2 (by lia) (by lia) (by lia) fun z5 hz5 => ?_
  refine ways_comp (σ := σ14.set z5 (.range (m + 1) e)) (i := r) (Ext.set hz5 _ _ _ (g14 _ _ hal)) (by (repeat (first | with_reducible exact l_here | assumption | refine l_there rfl ?_ | with_reducible refine l_bind ?_ | with_reducible refine l_bind0 ?_))) (by (repeat (first | with_reducible exact l_here | assumption | refine l_there rfl ?_ | with_reducible refine l_bind ?_ | with_reducible refine l_bind0 ?_))) rfl r0.1 r0.2 (set_at _ _ _) (by lia) ?_
  intro a2 zs σ15 e15 ha2 hzs
  have x6 := ((Ext.set hz5 _).trans e15).trans (.set ha2 (.list zs))
  have hzl : (zs.length : Int) = e - (m + 1) := by rw [hzs.len, iran_len]; lia
  refine o_cat (x6 _ _ ha14) (set_at _ _ _) (by rw [List.length_append, List.length_singleton]; lia) fun a3 ha3 => ?_
  have rw3 : All2 (fun x v => HasF (· ≠ a3) ((σ15.set a2 (.list zs)).set a3 (.list ((ys ++ [Val.ref t5]) ++ zs))) (dRow x) v) ((((irange 0 m).map fun k => (some 0, [((b0 + 3 * q) % 10, k + 1)])) ++ [(some 1, w1)]) ++ ((irange (m + 1) e).map fun k => (some 0, [((b0 + 3 * r) % 10, k + 1)]))) ((ys ++ [Val.ref t5]) ++ zs) := by
    refine All2.append (rw2.imp fun o' o' o' h => ((h.has.ext x6).ne ha3).ext (.set ha3 _)) (All2.unmap (hzs.imp fun k o' v h => ?_))
    exact ((h.ext (.set ha2 _)).ne ha3).ext (.set ha3 _)
  have x7 := x6.trans (.set ha3 (.list ((ys ++ [Val.ref t5]) ++ zs)))
  have ha3v := set_at (σ15.set a2 (.list zs)) a3 (.list ((ys ++ [Val.ref t5]) ++ zs))
  have a30 : σ8 a3 = none := (g14.trans x6).new ha3
  have g16 := g14.trans x7
  have hvl : ((ys ++ [Val.ref t5]) ++ zs).length ≤ 20 := by rw [List.length_append, List.length_append, List.length_singleton]; lia
  generalize ((ys ++ [Val.ref t5]) ++ zs) = us at rw3 ha3v hvl x7 g16 ⊢
  generalize (σ15.set a2 (.list zs)).set a3 (.list us) = σ16 at rw3 ha3v g16 ⊢
  clear x6 x7 hzs e15 hz5 rw2 ha14 g14 ha3 ha2
  refine v_asgn ?_; refine t_expr ?_; refine r_meth ?_; refine r_s rfl ?_; refine v_mon (by assumption) ?_; refine r_cons ?_; refine r_tup ?_; refine r_cons ?_; refine r_s rfl ?_; refine v_cons ?_; refine r_cons ?_; refine r_list0 ?_
  refine n_ob fun t6 ht6 => ?_
  refine v_cons ?_; refine r_ss rfl ?_; refine v_push ?_; refine v_push ?_
  refine n_lit rfl fun t7 ht7 => ?_
  have n6 := fresh_ne ht6 ha3v
  have n7 := fresh_ne ht7 (Ext.set ht6 _ _ _ ha3v)
  have R2 := row_new (r := (none, [])) ht7 n7 (newF_list (ds := []) ht6 n6 HasFL.nil)
  have x8 := (Ext.set ht6 (.list [])).trans (.set ht7 (.tup [.none, .ref t6]))
  have R2 : HasF (· ≠ a3) ((σ16.set t6 (.list [])).set t7 (.tup [.none, .ref t6])) (dRow (none, [])) (.ref t7) := R2
  generalize (σ16.set t6 (.list [])).set t7 (.tup [.none, .ref t6]) = σ17 at x8 R2 ⊢
  clear ht6 ht7 n6 n7
  refine v_cons ?_; refine r_ss rfl ?_; refine v_push ?_
  refine m_app (x8 _ _ ha3v) (by lia) ?_
  have rw4 : Has (σ17.set a3 (.list (us ++ [.ref t7]))) (.list ((crossR ((b0 + 3 * q) % 10) ((b0 + 3 * r) % 10) m e w1).map dRow)) (.ref a3) := by
    refine list_has (set_at _ _ _) (All2.imp ?_ fun o' o' o' h => HasF.has h (ok := (· ≠ a3)))
    refine All2.snoc ?_ (rw3.imp fun o' o' o' h => hasF_keep (h.ext x8))
    exact hasF_keep R2
  have g18 : Ext σ8 (σ17.set a3 (.list (us ++ [.ref t7]))) := (g16.trans x8).upd a30 _
  generalize σ17.set a3 (.list (us ++ [.ref t7])) = σ18 at rw4 g18 ⊢
  clear R2 x8 rw3 ha3v hvl g16 a30
  have hal18 := g18 _ _ hal
  have hgo18 := hgo.ext g18
  have E18 := E8.trans g18
  clear hal hgo E8 g18
  refine v_exprn ?_; refine t_assign ?_; refine r_tup ?_; refine r_cons ?_; refine r_s rfl ?_; refine v_cons ?_; refine r_cons ?_; refine r_list ?_; refine r_cons ?_; refine r_comp rfl ?_; refine r_bcall rfl ?_; refine r_ss rfl ?_
  refine b_range (by decide) (by decide) fun z6 hz6 => ?_
  refine comp_ran (fun σ' k v => Has σ' (ilist [k]) v) (fun e h => h.ext e) (set_at _ _ _) (by decide) ?_ ?_
  · intro k k0 k1 σ' e K' hK
    refine r_list ?_; refine r_ss rfl ?_
    refine n_lit rfl fun b hb => ?_
    exact hK _ _ (.set hb _) (mk_ints (set_at _ _ _))
  intro ad ys σ19 e19 had hys
  have x1 := ((Ext.set hz6 _).trans e19).trans (.set had (.list ys))
  have hid : Has (σ19.set ad (.list ys)) (deedD ((irange 0 4).map fun i => [i])) (.ref ad) := list_has (set_at _ _ _) (All2.unmap (hys.imp fun k o' v h => h.ext (.set had _)))
  generalize σ19.set ad (.list ys) = σ20 at x1 hid ⊢
  clear hys e19 hz6 had
  refine v_cons ?_; refine r_ss rfl ?_; refine v_push ?_
  refine n_lit rfl fun ae hae => ?_
  have hde : Has (σ20.set ae (.list [.ref ad, .ref ag])) (.list ([((irange 0 4).map fun i => [i]), goR p q r s].map deedD)) (.ref ae) := has_new_list hae (HasL.cons.mpr ⟨hid, HasL.cons.mpr ⟨hgo18.ext x1, HasL.nil⟩⟩)
  have x2 := x1.trans (.set hae (.list [.ref ad, .ref ag]))
  generalize σ20.set ae (.list [.ref ad, .ref ag]) = σ21 at x2 hde ⊢
  clear x1 hid hae hgo18
  refine v_cons ?_; refine r_cons ?_; refine r_bcall rfl ?_; refine r_cons ?_; refine r_list ?_; refine r_ss rfl ?_
  refine n_lit rfl fun t8 ht8 => ?_
  refine v_cons ?_; refine r_ss rfl ?_; refine v_push ?_
  refine b_sorti (set_at _ _ _) fun aw haw => ?_
  refine v_cons ?_; refine r_ss rfl ?_; refine v_push ?_; refine v_push ?_; refine v_push ?_
  refine n_lit rfl fun ah hah => ?_
  have x3 := ((Ext.set ht8 (.list [.int r, .int s])).trans (.set haw (.list ((srt r s).map .int)))).trans (.set hah (.tup [.ref al, .ref ae, .ref aw]))
  have hH : Has (((σ21.set t8 (.list [.int r, .int s])).set aw (.list ((srt r s).map .int))).set ah (.tup [.ref al, .ref ae, .ref aw])) (houseD (four b0) [((irange 0 4).map fun i => [i]), goR p q r s] (srt r s)) (.ref ah) :=
    has_new_tup hah (HasL.cons.mpr ⟨mk_ints (((Ext.set ht8 (.list [.int r, .int s])).trans (.set haw _)) _ _ (x2 _ _ hal18)), HasL.cons.mpr ⟨hde.ext ((Ext.set ht8 _).trans (.set haw _)), HasL.cons.mpr ⟨mk_ints (set_at _ _ _), HasL.nil⟩⟩⟩)
  have x4 := x2.trans x3
  generalize ((σ21.set t8 (.list [.int r, .int s])).set aw (.list ((srt r s).map .int))).set ah (.tup [.ref al, .ref ae, .ref aw]) = σ22 at x4 hH ⊢
  clear x2 x3 ht8 haw hah hde
  refine v_asgn ?_; refine t_ret ?_; refine r_tup ?_; refine r_cons ?_; refine r_s rfl ?_; refine v_cons ?_; refine r_cons ?_; refine r_bcall rfl ?_; refine r_cons ?_; refine r_list ?_; refine r_ss rfl ?_
  refine n_lit rfl fun t9 ht9 => ?_
  refine v_cons ?_; refine r_ss rfl ?_; refine v_push ?_
  refine b_sorti (set_at _ _ _) fun ga hga => ?_
  have x5 := x4.trans ((Ext.set ht9 (.list [.int p, .int q])).trans (.set hga (.list ((srt p q).map .int))))
  have hH := hH.ext ((Ext.set ht9 (.list [.int p, .int q])).trans (.set hga (.list ((srt p q).map .int))))
  have hga := set_at (σ22.set t9 (.list [.int p, .int q])) ga (.list ((srt p q).map .int))
  generalize (σ22.set t9 (.list [.int p, .int q])).set ga (.list ((srt p q).map .int)) = σ23 at x5 hH hga ⊢
  clear x4 ht9
  have hal23 := x5 _ _ hal18
  refine v_cons ?_; refine r_cons ?_; refine r_tup ?_; refine r_cons ?_; refine r_bcall rfl ?_; refine r_cons ?_; refine r_list ?_; refine r_cons ?_; refine r_tup ?_; refine r_cons ?_; refine r_sub ?_; refine r_s rfl ?_; refine v_sub1 ?_; refine r_s rfl ?_
  refine subl hal23 p0.1 p0.2 ?_
  refine v_cons ?_; refine r_ss rfl ?_; refine v_push ?_
  refine n_lit rfl fun t1 ht1 => ?_
  refine v_cons ?_; refine r_cons ?_; refine r_tup ?_; refine r_cons ?_; refine r_sub ?_; refine r_s rfl ?_; refine v_sub1 ?_; refine r_s rfl ?_
  refine subl (Ext.set ht1 _ _ _ hal23) q0.1 q0.2 ?_
  refine v_cons ?_; refine r_ss rfl ?_; refine v_push ?_
  refine n_lit rfl fun t2 ht2 => ?_
  refine v_cons ?_; refine r_ss rfl ?_; refine v_push ?_; refine v_push ?_
  refine n_lit rfl fun t3 ht3 => ?_
  have y3 := (Ext.set ht1 (.tup [.int ((b0 + 3 * p) % 10), .int m])).trans ((Ext.set ht2 (.tup [.int ((b0 + 3 * q) % 10), .int 0])).trans (.set ht3 (.list [.ref t1, .ref t2])))
  have d1 := ((Ext.set ht2 (.tup [.int ((b0 + 3 * q) % 10), .int 0])).trans (.set ht3 (.list [.ref t1, .ref t2]))) _ _ (set_at σ23 t1 (.tup [.int ((b0 + 3 * p) % 10), .int m]))
  have d2 := Ext.set ht3 (.list [.ref t1, .ref t2]) _ _ (set_at (σ23.set t1 (.tup [.int ((b0 + 3 * p) % 10), .int m])) t2 (.tup [.int ((b0 + 3 * q) % 10), .int 0]))
  have d3 := set_at ((σ23.set t1 (.tup [.int ((b0 + 3 * p) % 10), .int m])).set t2 (.tup [.int ((b0 + 3 * q) % 10), .int 0])) t3 (.list [.ref t1, .ref t2])
  generalize (((σ23.set t1 (.tup [.int ((b0 + 3 * p) % 10), .int m])).set t2 (.tup [.int ((b0 + 3 * q) % 10), .int 0])).set t3 (.list [.ref t1, .ref t2])) = σ24 at y3 d1 d2 d3 ⊢
  clear ht1 ht2 ht3
  refine v_cons ?_; refine r_ss rfl ?_; refine v_push ?_
  refine b_sortw (ok := fun o' => True) (w := ((b0 + 3 * p) % 10, m)) (w' := ((b0 + 3 * q) % 10, 0)) d3 d1 d2 trivial trivial (mod10_ne pq p0 q0) fun t4 ht4 vs hvs => ?_
  have ok2 : WaysOk 0 (e + 1) (srtW ((b0 + 3 * p) % 10, m) ((b0 + 3 * q) % 10, 0)) 10 := srtW_ok (mod10_ne pq p0 q0) ⟨lk, by show 0 ≤ m; lia, by show m < e + 1; lia⟩ ⟨lk, Int.le_refl _, by show 0 < e + 1; lia⟩
  have hS := newF_list (ok := fun o' => True) (ds := (srtW ((b0 + 3 * p) % 10, m) ((b0 + 3 * q) % 10, 0)).map dWay) ht4 trivial (all_hasFL hvs)
  generalize srtW ((b0 + 3 * p) % 10, m) ((b0 + 3 * q) % 10, 0) = w2 at hS ok2
  have y4 := y3.trans (.set ht4 (.list vs))
  generalize σ24.set t4 (.list vs) = σ25 at y4 hS ⊢
  clear hvs ht4 d1 d2 d3 y3
  refine v_cons ?_; refine r_ss rfl ?_; refine v_push ?_
  refine n_lit rfl fun t5 ht5 => ?_
  refine v_cons ?_; refine r_ss rfl ?_; refine v_push ?_; refine v_push ?_; refine v_push ?_
  refine n_lit rfl fun t6 ht6 => ?_
  refine v_retk ?_
  have z := (Ext.set ht5 (.tup [.ref t4, .ref a3])).trans (.set ht6 (.tup [.ref ah, .ref ga, .ref t5]))
  have len := crossR_len (lq := (b0 + 3 * q) % 10) (lr := (b0 + 3 * r) % 10) (w := w1) (show 0 ≤ m by lia) (show m + 1 < e by lia)
  have hG := srt_rooms pq p0.1 p0.2 q0.1 q0.2
  refine hQ t6 _ ga _ (four b0) [((irange 0 4).map fun i => [i]), goR p q r s] (srt r s) (srt p q) w2 (crossR ((b0 + 3 * q) % 10) ((b0 + 3 * r) % 10) m e w1) _ ((E18.trans x5).trans (y4.trans z)) (set_at _ _ _) ⟨by decide, by decide, ⟨rfl, fun l hl => ?_⟩, (show 1 ≤ 2 ∧ 2 ≤ 5 by decide), fun D hD => ?_, (srt_rooms rs r0.1 r0.2 s0.1 s0.2).1⟩ (hH.ext (y4.trans z)) hG.1 hG.2 ((y4.trans z) _ _ hga) (mk_tup2 (Ext.set ht6 _ _ _ (set_at _ _ _)) (hS.has.ext z) (rw4.ext (x5.trans (y4.trans z)))) ?_ (by lia)
  · refine Classical.byContradiction fun hG => ?_
    obtain ⟨i, hi, rfl⟩ := List.mem_map.mp hl
    refine hG ?_
    clear hG
    lia
  · rcases List.mem_cons.mp hD with h | h
    · rw [h]; exact idR_ok
    · rw [List.mem_singleton.mp h]; exact goR_ok r0.1 r0.2 s0.1 s0.2
  · show (decide _ && goodW 0 _ (-1) w2 && goodRs 2 _ 0 _) = true
    rw [len, ok2.good, crossR_good (by lia) (by lia) lk lk ok1, decide_eq_true (by lia)]; rfl
end BP

namespace BP
open PySem
variable {F : Nat → CallW} {g : Glo}
mutual
theorem pyEq_refl : ∀ d : Dat, pyEq d d = true
  | .none => rfl
  | .bool b => by cases b <;> rfl
  | .int i => by rw [pyEq_int]; exact decide_eq_true rfl
  | .list ds => by rw [pyEq]; exact pyEqL_refl ds
  | .tup ds => by rw [pyEq]; exact pyEqL_refl ds
theorem pyEqL_refl : ∀ ds : List Dat, pyEqL ds ds = true
  | [] => rfl
  | d :: ds => by rw [pyEqL]; exact (Bool.and_eq_true _ _).mpr ⟨pyEq_refl d, pyEqL_refl ds⟩
end
theorem c_nesame {σ : Sto} {d : Dat} {v w : Val} {K : Bool → Prop} (hv : Has σ d v) (hw : Has σ d w) (ok : dOk 9 d = true) (h : K false) : cmpW .ne v w σ K := .inl (.inr ⟨d, d, hv, hw, ok, ok, by rw [pyEq_refl]; exact h⟩)
theorem dOk_ints {n : Nat} {ns : List Int} : dOk (n + 1) (ilist ns) = true := by
  show (ns.map Dat.int).all (dOk n) = true
  rw [List.all_map, List.all_eq_true]
  exact fun o' o' => by cases n <;> rfl
theorem dOk_ways {n : Nat} {ws : List Way} : dOk (n + 2) (dWays ws) = true := by
  show (ws.map dWay).all (dOk (n + 1)) = true
  rw [List.all_map, List.all_eq_true]
  exact fun o' o' => by cases n <;> rfl
theorem dOk_plan {S : List Way} {R : List Row} : dOk 9 (dPlan S R) = true := by
  have hr : dOk 8 (.list (R.map dRow)) = true := by
    show (R.map dRow).all (dOk 7) = true
    rw [List.all_map, List.all_eq_true]
    intro r _
    show ([dDeed r.1, dWays r.2]).all (dOk 6) = true
    rw [List.all_cons, List.all_cons, List.all_nil, dOk_ways]
    cases r.1 <;> rfl
  show ([dWays S, .list (R.map dRow)]).all (dOk 8) = true
  rw [List.all_cons, List.all_cons, List.all_nil, dOk_ways, hr]; rfl
structure LawN (ρ : Loc) (l : Nat) (vh : Val) (ga : Nat) (vp : Val) (aw : Nat) (vm : Val) : Prop where
  r1 : ρ "_law_script" = some (.ref l)
  r2 : ρ "_law_house_here" = some vh
  r3 : ρ "_law_guess_here" = some (.ref ga)
  r4 : ρ "_law_plan" = some vp
  r5 : ρ "_law_wished_here" = some (.ref aw)
  r6 : ρ "_law_made" = some vm
set_option genSizeOf false in
set_option genInjectivity false in
structure LawD where
  ns : List Int
  many : Int
  L : List Int
  D : List (List (List Int))
  Wd : List Int
  W : List Int
  G : List Int
  S : List Way
  R : List Row
structure LawC (X : LawD) (β : Sto) (l : Nat) (vh : Val) (ga : Nat) (vp : Val) (aw : Nat) (vm : Val) : Prop where
  l : β l = some (.ro (X.ns.map .int))
  n63 : X.ns.length ≤ 63
  ok : HouseOk X.many X.L X.D X.Wd
  hh : Has β (houseD X.L X.D X.Wd) vh
  hG : Rooms X.many X.G
  g0 : X.G ≠ []
  hg : β ga = some (.list (X.G.map .int))
  hp : Has β (dPlan X.S X.R) vp
  good : goodP X.D.length X.S X.R = true
  len : X.R.length ≤ 68
  hW : Rooms X.many X.W
  haw : β aw = some (.list (X.W.map .int))
  hm : HouseAt β vm X.L X.D X.W
theorem LawC.ext {X : LawD} {β β' : Sto} {l ga aw : Nat} {vh vp vm : Val} (h : LawC X β l vh ga vp aw vm) (e : Ext β β') : LawC X β' l vh ga vp aw vm :=
  ⟨e _ _ h.l, h.n63, h.ok, h.hh.ext e, h.hG, h.g0, e _ _ h.hg, h.hp.ext e, h.good, h.len, h.hW, e _ _ h.haw, h.hm.ext e⟩
noncomputable def LawD.gr (X : LawD) (G : List Int) (S : List Way) (R : List Row) : Gr := ⟨X.L, X.D, G, S, R, X.W⟩
theorem HouseOk.wf {many : Int} {L : List Int} {D : List (List (List Int))} {Wd W G : List Int} {S : List Way} {R : List Row} (h : HouseOk many L D Wd) (hG : Rooms many G) (g0 : G ≠ []) (hp : goodP D.length S R = true) : (Gr.mk L D G S R W).WF many :=
  ⟨h.many1, h.many8, h.looks.1, hG.2, g0, hp, fun d hd => ⟨(h.deeds d hd).1, fun ns hns => ⟨⟨((h.deeds d hd).2 ns hns).2, ((h.deeds d hd).2 ns hns).1.len h.many8⟩, ((h.deeds d hd).2 ns hns).1.2⟩⟩⟩
theorem bad99 {nd m : Int} (h : nd ≤ 5) : ∀ {R : List Row} {k : Int}, goodRs nd m k (R ++ [(some 99, [])]) = false
  | [], k => by
    show (((decide ((0 : Int) ≤ 99) && decide ((99 : Int) ≤ nd - 1)) && true) && true) = false
    rw [decide_eq_false (show ¬ (99 : Int) ≤ nd - 1 by lia)]; rfl
  | r :: R, k => by
    show (goodR nd m k r && goodRs nd m (k + 1) (R ++ [(some 99, [])])) = false
    rw [bad99 h]; exact Bool.and_false _
theorem law_tail (V : Env F g) {X : LawD} {d l ga aw : Nat} {vh vp vm : Val} {σ : Sto} {ρ : Loc} {Q : KV} {er : String → Sto → Prop} (C : LawC X σ l vh ga vp aw vm) (N : LawN ρ l vh ga vp aw vm) (hQ : ∀ σ', Q (.bool true) σ') :
    nxt (F (d + 8)) (g.at false er) (d_law.2.drop 14) (Kq Q) .next ρ σ := by
  refine Classical.byContradiction fun hG => ?_
  obtain ⟨r1, r2, r3, r4, r5, r6⟩ := N
  obtain ⟨ap, x, y, h1, h2, h3⟩ := has_tup2 C.hp
  obtain ⟨ar, xr, har, hxr⟩ := has_list h3
  obtain ⟨ah, al, yd, aw0, hah, hL, hD, hw⟩ := house_at C.hh
  refine hG ?_
  clear hG
  have hlr := hxr.len
  have hlen := C.len
  have l0 := V.l0
  have li := V.li
  have hLl := C.ok.looks.1
  have hgood : (risingI X.G (-1) X.L.length && !X.G.isEmpty) = true := by
    rw [hLl, C.hG.rising]
    cases q : X.G with
    | nil => exact absurd q C.g0
    | cons _ _ => rfl
  have fin : ∀ (v : Val) (σ1 : Sto) (ρ' : Loc), Ext σ σ1 → (∀ σ', Ext σ1 σ' → PlanIs F σ' X.D.length v false) → LawN ρ' l (.ref ah) ga (.ref ap) aw vm → ρ' "_law_wrong" = some v → nxt (F (d + 8)) (g.at false er) (d_law.2.drop 15) (Kq Q) .next ρ' σ1 := by
    intro v σ1 ρ' e1 hv ⟨r1, r2, r3, r4, r5, r6⟩ r7
    show nxt (F (d + 8)) (g.at false er) [St.if_ _ _ _, St.ret _] (Kq Q) .next ρ' σ1
    have hg1 := e1 _ _ C.hg
    refine s_nxt ?_; refine s_cons ?_; refine s_if ?_; refine r_cmp ?_; refine r_calln (FnOk.cf (by assumption)) ?_; refine r_cons ?_; refine r_var (by assumption) ?_; refine v_cons ?_; refine r_cons ?_; refine r_bcall rfl ?_; refine r_cons ?_; refine r_var (by assumption) ?_; refine v_cons ?_; refine r_ss rfl ?_; refine v_push ?_; refine v_lst (by assumption) ?_
    refine n_ob fun c hc => ?_
    refine v_cons ?_; refine r_cons ?_; refine r_var (by assumption) ?_; refine v_cons ?_; refine r_ss rfl ?_; refine v_push ?_; refine v_push ?_; refine v_push ?_
    have e2 := e1.trans (.set hc (.list (X.G.map .int)))
    refine refused_spec V (b := false) (C.hm.ext e2) (set_at _ _ _) (fun σ' e => hv _ ((Ext.set hc _).trans e)) (fun o' => rfl) fun σ3 e3 => ?_
    rw [if_pos hgood]
    have e4 := e2.trans e3
    have e4' := (Ext.set hc (.list (X.G.map .int))).trans e3
    refine v_cmp ?_; refine r_str rfl ?_; refine v_nes ?_; refine v_ifnn rfl ?_; refine t_ret ?_; refine r_bop ?_; refine r_cmp ?_; refine r_calln (FnOk.cf (by assumption)) ?_; refine r_cons ?_; refine r_var (by assumption) ?_; refine v_cons ?_; refine r_cons ?_; refine r_list0 ?_
    refine n_ob fun c2 hc2 => ?_
    refine v_cons ?_; refine r_cons ?_; refine r_var (by assumption) ?_; refine v_cons ?_; refine r_ss rfl ?_; refine v_push ?_; refine v_push ?_; refine v_push ?_
    have e5 := e4.trans (.set hc2 (.list []))
    refine refused_spec V (gs := []) (b := false) (C.hm.ext e5) (set_at _ _ _) (fun σ' e => hv _ (e4'.trans ((Ext.set hc2 _).trans e))) (fun o' => rfl) fun σ6 e6 => ?_
    rw [if_neg (show ¬ (risingI [] (-1) X.L.length && !([] : List Int).isEmpty) = true from Bool.false_ne_true)]
    have e7 := e5.trans e6
    refine v_cmp ?_; refine r_str rfl ?_; refine v_eqs ?_; refine v_bfp rfl ?_; refine r_b1 ?_; refine r_cmp ?_; refine r_calln (FnOk.cf (by assumption)) ?_; refine r_cons ?_; refine r_var (by assumption) ?_; refine v_cons ?_; refine r_cons ?_; refine r_list ?_; refine r_cons ?_; refine r_bcall rfl ?_; refine r_cons ?_; refine r_sub ?_; refine r_var (by assumption) ?_; refine v_sub1 ?_; refine r_s rfl ?_
    refine subt 0 (e7 _ _ hah) rfl ?_
    refine v_cons ?_; refine r_ss rfl ?_; refine v_push ?_
    refine b_len (e7 _ _ hL) ?_
    rw [List.length_map]
    refine v_cons ?_; refine r_ss rfl ?_; refine v_push ?_
    refine n_lit rfl fun c3 hc3 => ?_
    refine v_cons ?_; refine r_cons ?_; refine r_var (by assumption) ?_; refine v_cons ?_; refine r_ss rfl ?_; refine v_push ?_; refine v_push ?_; refine v_push ?_
    have e8 := e7.trans (.set hc3 (.list [.int X.L.length]))
    refine refused_spec V (gs := [(X.L.length : Int)]) (b := true) (C.hm.ext e8) (set_at _ _ _) (fun σ' e => ?_) (fun q => ?_) fun σ9 e9 => ?_
    · have := V.planIs (nd := X.D.length) (C.hp.ext (e8.trans e))
      rw [C.good] at this
      exact this
    · simp only [risingI, Bool.and_eq_true, decide_eq_true_eq] at q
      lia
    · rw [if_neg fun q => by simp only [risingI, Bool.and_eq_true, decide_eq_true_eq] at q; lia]
      refine v_cmp ?_; refine r_str rfl ?_; refine v_eqs ?_; refine v_retk ?_
      exact hQ _
  show nxt (F (d + 8)) (g.at false er) (St.assign "_law_wrong" _ :: d_law.2.drop 15) (Kq Q) .next ρ σ
  refine s_nxt ?_; refine s_cons ?_; refine s_assign ?_; refine r_sub ?_; refine r_list ?_; refine r_cons ?_; refine r_tup ?_; refine r_cons ?_; refine r_sub ?_; refine r_var (by assumption) ?_; refine v_sub1 ?_; refine r_s rfl ?_
  refine sub0 h1 ?_
  refine v_cons ?_; refine r_cons ?_; refine r_bin ?_; refine r_sub ?_; refine r_var (by assumption) ?_; refine v_sub1 ?_; refine r_s rfl ?_
  refine sub1 h1 ?_
  refine v_bin ?_; refine r_list ?_; refine r_cons ?_; refine r_tup ?_; refine r_cons ?_; refine r_s rfl ?_; refine v_cons ?_; refine r_cons ?_; refine r_list0 ?_
  refine n_ob fun c1 hc1 => ?_
  refine v_cons ?_; refine r_ss rfl ?_; refine v_push ?_; refine v_push ?_
  refine n_lit rfl fun c2 hc2 => ?_
  refine v_cons ?_; refine r_ss rfl ?_; refine v_push ?_
  refine n_lit rfl fun c3 hc3 => ?_
  have x3 := (Ext.set hc1 (.list [])).trans ((Ext.set hc2 (.tup [.int 99, .ref c1])).trans (.set hc3 (.list [.ref c2])))
  have R3 : Has (((σ.set c1 (.list [])).set c2 (.tup [.int 99, .ref c1])).set c3 (.list [.ref c2])) (dRow (some 99, [])) (.ref c2) := mk_tup2 (Ext.set hc3 _ _ _ (set_at _ _ _)) rfl (list_has (f := dWay) (as := []) (((Ext.set hc2 _).trans (.set hc3 _)) _ _ (set_at _ _ _)) .nil)
  have A3 := set_at ((σ.set c1 (.list [])).set c2 (.tup [.int 99, .ref c1])) c3 (.list [.ref c2])
  generalize ((σ.set c1 (.list [])).set c2 (.tup [.int 99, .ref c1])).set c3 (.list [.ref c2]) = σ3 at x3 R3 A3 ⊢
  refine o_cat (x3 _ _ har) A3 (by show _ + 1 ≤ _; lia) fun c4 hc4 => ?_
  refine v_cons ?_; refine r_ss rfl ?_; refine v_push ?_; refine v_push ?_
  refine n_lit rfl fun c5 hc5 => ?_
  have x5 := x3.trans ((Ext.set hc4 (.list (xr ++ [.ref c2]))).trans (.set hc5 (.tup [x, .ref c4])))
  have P5 : Has ((σ3.set c4 (.list (xr ++ [.ref c2]))).set c5 (.tup [x, .ref c4])) (dPlan X.S (X.R ++ [(some 99, [])])) (.ref c5) := mk_tup2 (set_at _ _ _) (h2.ext x5) (list_has (Ext.set hc5 _ _ _ (set_at _ _ _)) (All2.append (hxr.imp fun o' o' o' h => h.ext x5) (.cons (R3.ext ((Ext.set hc4 _).trans (.set hc5 _))) .nil)))
  generalize (σ3.set c4 (.list (xr ++ [.ref c2]))).set c5 (.tup [x, .ref c4]) = σ5 at x5 P5 ⊢
  clear x3 R3 A3 hc1 hc2 hc3 hc4 hc5
  refine v_cons ?_; refine r_cons ?_; refine r_tup ?_; refine r_cons ?_; refine r_sub ?_; refine r_var (by assumption) ?_; refine v_sub1 ?_; refine r_s rfl ?_
  refine sub0 (x5 _ _ h1) ?_
  refine v_cons ?_; refine r_ss rfl ?_; refine v_push ?_
  refine n_lit rfl fun c6 hc6 => ?_
  refine v_cons ?_; refine r_ss rfl ?_; refine v_push ?_; refine v_push ?_
  refine n_lit rfl fun c7 hc7 => ?_
  have x7 := (Ext.set hc6 (.tup [x])).trans (.set hc7 (.list [.ref c5, .ref c6, .none]))
  have A6 := Ext.set hc7 (.list [.ref c5, .ref c6, .none]) _ _ (set_at σ5 c6 (.tup [x]))
  have A7 := set_at (σ5.set c6 (.tup [x])) c7 (.list [.ref c5, .ref c6, .none])
  generalize (σ5.set c6 (.tup [x])).set c7 (.list [.ref c5, .ref c6, .none]) = σ7 at x7 A6 A7 ⊢
  refine v_sub1 ?_; refine r_bin ?_; refine r_bin ?_; refine r_calln (FnOk.cf (by assumption)) ?_; refine r_cons ?_; refine r_var (by assumption) ?_; refine v_cons ?_; refine r_ss rfl ?_; refine v_push ?_
  refine cell_any l0 ((x5.trans x7) _ _ C.l) C.n63 fun c0 σ8 e8 => ?_
  have e9 := x7.trans e8
  refine v_bin ?_; refine r_s rfl ?_; refine v_fdiv rfl ?_; refine v_bin ?_; refine r_s rfl ?_; refine v_mod rfl ?_
  have three : c0 / 16 % 3 = 0 ∨ c0 / 16 % 3 = 1 ∨ c0 / 16 % 3 = 2 := by lia
  have f8 := V.f8
  rcases three with q | q | q
  · rw [q]
    refine subW_list (e8 _ _ A7) (x := .ref c5) rfl ?_
    refine v_asg ?_
    refine fin _ _ _ (x5.trans e9) (fun σ' e => ?_) ⟨by (repeat (first | with_reducible exact l_here | assumption | refine l_there rfl ?_ | with_reducible refine l_bind ?_ | with_reducible refine l_bind0 ?_)), by (repeat (first | with_reducible exact l_here | assumption | refine l_there rfl ?_ | with_reducible refine l_bind ?_ | with_reducible refine l_bind0 ?_)), by (repeat (first | with_reducible exact l_here | assumption | refine l_there rfl ?_ | with_reducible refine l_bind ?_ | with_reducible refine l_bind0 ?_)), by (repeat (first | with_reducible exact l_here | assumption | refine l_there rfl ?_ | with_reducible refine l_bind ?_ | with_reducible refine l_bind0 ?_)), by (repeat (first | with_reducible exact l_here | assumption | refine l_there rfl ?_ | with_reducible refine l_bind ?_ | with_reducible refine l_bind0 ?_)), by (repeat (first | with_reducible exact l_here | assumption | refine l_there rfl ?_ | with_reducible refine l_bind ?_ | with_reducible refine l_bind0 ?_))⟩ (by (repeat (first | with_reducible exact l_here | assumption | refine l_there rfl ?_ | with_reducible refine l_bind ?_ | with_reducible refine l_bind0 ?_)))
    have := V.planIs (nd := X.D.length) (P5.ext (e9.trans e))
    rw [goodP, bad99 (by have := C.ok.count; lia), Bool.and_false] at this
    exact this
  · rw [q]
    refine subW_list (e8 _ _ A7) (x := .ref c6) rfl ?_
    refine v_asg ?_
    refine fin _ _ _ (x5.trans e9) (fun σ' e d' Q' er' hQ' => ?_) ⟨by (repeat (first | with_reducible exact l_here | assumption | refine l_there rfl ?_ | with_reducible refine l_bind ?_ | with_reducible refine l_bind0 ?_)), by (repeat (first | with_reducible exact l_here | assumption | refine l_there rfl ?_ | with_reducible refine l_bind ?_ | with_reducible refine l_bind0 ?_)), by (repeat (first | with_reducible exact l_here | assumption | refine l_there rfl ?_ | with_reducible refine l_bind ?_ | with_reducible refine l_bind0 ?_)), by (repeat (first | with_reducible exact l_here | assumption | refine l_there rfl ?_ | with_reducible refine l_bind ?_ | with_reducible refine l_bind0 ?_)), by (repeat (first | with_reducible exact l_here | assumption | refine l_there rfl ?_ | with_reducible refine l_bind ?_ | with_reducible refine l_bind0 ?_)), by (repeat (first | with_reducible exact l_here | assumption | refine l_there rfl ?_ | with_reducible refine l_bind ?_ | with_reducible refine l_bind0 ?_))⟩ (by (repeat (first | with_reducible exact l_here | assumption | refine l_there rfl ?_ | with_reducible refine l_bind ?_ | with_reducible refine l_bind0 ?_)))
    have A6' := (e8.trans e) _ _ A6
    refine FnOk.go f8 rfl ?_
    refine s_cons ?_; refine s_if ?_; refine r_bop ?_; refine r_not ?_; refine r_isi ?_; refine r_s rfl ?_; refine w_tt (by assumption) ?_; refine v_nott ?_; refine v_btf ?_; refine r_b2 ?_; refine r_cmp ?_; refine r_bcall rfl ?_; refine r_ss rfl ?_; refine v_lent (by assumption) ?_; refine v_cmp ?_; refine r_s rfl ?_; refine v_ne ?_; refine v_btp rfl ?_; refine v_ift ?_; refine t_ret ?_; refine r_s rfl ?_; refine v_ret ?_; refine s_out ?_; refine k_ret ?_
    exact hQ' _ (.refl _)
  · rw [q]
    refine subW_list (e8 _ _ A7) (x := .none) rfl ?_
    refine v_asg ?_
    refine fin _ _ _ (x5.trans e9) (fun σ' e d' Q' er' hQ' => ?_) ⟨by (repeat (first | with_reducible exact l_here | assumption | refine l_there rfl ?_ | with_reducible refine l_bind ?_ | with_reducible refine l_bind0 ?_)), by (repeat (first | with_reducible exact l_here | assumption | refine l_there rfl ?_ | with_reducible refine l_bind ?_ | with_reducible refine l_bind0 ?_)), by (repeat (first | with_reducible exact l_here | assumption | refine l_there rfl ?_ | with_reducible refine l_bind ?_ | with_reducible refine l_bind0 ?_)), by (repeat (first | with_reducible exact l_here | assumption | refine l_there rfl ?_ | with_reducible refine l_bind ?_ | with_reducible refine l_bind0 ?_)), by (repeat (first | with_reducible exact l_here | assumption | refine l_there rfl ?_ | with_reducible refine l_bind ?_ | with_reducible refine l_bind0 ?_)), by (repeat (first | with_reducible exact l_here | assumption | refine l_there rfl ?_ | with_reducible refine l_bind ?_ | with_reducible refine l_bind0 ?_))⟩ (by (repeat (first | with_reducible exact l_here | assumption | refine l_there rfl ?_ | with_reducible refine l_bind ?_ | with_reducible refine l_bind0 ?_)))
    refine FnOk.go f8 rfl ?_
    refine s_cons ?_; refine s_if ?_; refine r_bop ?_; refine r_not ?_; refine r_isi ?_; refine r_s rfl ?_; refine w_nt ?_; refine v_notf ?_; refine v_btt ?_; refine v_ift ?_; refine t_ret ?_; refine r_s rfl ?_; refine v_ret ?_; refine s_out ?_; refine k_ret ?_
    exact hQ' _ (.refl _)
end BP

namespace BP
open PySem
variable {F : Nat → CallW} {g : Glo}
theorem wpFor_all {B : Loc → Sto → (Fl → Loc → Sto → Prop) → Prop} {it : Sto → Prop} {xs : List String} {Q : Fl → Loc → Sto → Prop} (P : List Val → Prop) (I : Loc → Sto → Prop) (hit : ∀ ρ σ, I ρ σ → it σ) (hnil : ∀ ρ σ, I ρ σ → Q .next ρ σ)
    (hcons : ∀ vs ρ σ (K : Fl → Loc → Sto → Prop), P vs → I ρ σ → (∀ ρ' σ', I ρ' σ' → K .next ρ' σ') → B (bindT xs vs ρ) σ K) :
    ∀ (l : List (List Val)) (ρ : Loc) (σ : Sto), (∀ vs ∈ l, P vs) → I ρ σ → wpFor B it xs l ρ σ Q
  | [], ρ, σ, _, h => ⟨hit _ _ h, hnil _ _ h⟩
  | vs :: l, ρ, σ, hp, h => ⟨hit _ _ h, hcons vs ρ σ _ (hp vs (.head _)) h fun ρ' σ' h' => wpFor_all P I hit hnil hcons l ρ' σ' (fun u hu => hp u (.tail _ hu)) h'⟩
noncomputable def CaseOk (X : LawD) (β : Sto) (vs : List Val) : Prop := ∃ (ga : Nat) (v : Val) (G : List Int) (S : List Way) (R : List Row), vs = [.ref ga, v] ∧ β ga = some (.list (G.map .int)) ∧ Rooms X.many G ∧ G ≠ [] ∧ Has β (dPlan S R) v ∧ goodP X.D.length S R = true
structure LoopI (β : Sto) (h m0 m1 mv l : Nat) (vh : Val) (ga : Nat) (vp : Val) (aw : Nat) (vm : Val) (ρ : Loc) (σ : Sto) : Prop where
  e : Ext β σ
  c0 : ∃ xs, σ h = some (.list xs)
  c1 : ∃ xs, σ m0 = some (.list xs)
  c2 : ∃ xs, σ m1 = some (.list xs)
  N : LawN ρ l vh ga vp aw vm
  k1 : ρ "_law_handed" = some (.ref h)
  k2 : ρ "_law_moved" = some (.ref mv)
theorem loop_body (V : Env F g) {X : LawD} {d h m0 m1 mv l ga aw : Nat} {vh vp vm : Val} {β σ : Sto} {ρ : Loc} {K : KS} {er : String → Sto → Prop} {vs : List Val} (C : LawC X β l vh ga vp aw vm) (b0 : β h = none) (b1 : β m0 = none) (b2 : β m1 = none) (n0 : m0 ≠ h) (n1 : m1 ≠ h) (n2 : m0 ≠ m1) (hmv : β mv = some (.tup [.ref m0, .ref m1]))
    (I : LoopI β h m0 m1 mv l vh ga vp aw vm ρ σ) (P : CaseOk X β vs) (k : ∀ ρ' σ', LoopI β h m0 m1 mv l vh ga vp aw vm ρ' σ' → K .next ρ' σ') :
    wpSs (F (d + 8)) (g.at false er) [.expr (.call "_law_turned_to" [(.var "_law_handed"), (.var "_law_moved"), (.var "_law_one"), (.var "_law_way")]),
      .assign "_law_found" (.call "leads" [(.var "_law_made"), (.var "_law_handed"), (.var "_law_moved")]),
      .assign "_law_due" (.call "_law_steps" [(.var "_law_house_here"), (.var "_law_one"), (.var "_law_way"), (.var "_law_wished_here")]),
      .if_ (.bop true [(.bop false [(.cmp .is_ (.var "_law_due") .none_), (.cmp .isNot (.var "_law_found") .none_)]), (.bop false [(.cmp .isNot (.var "_law_due") .none_), (.bop true [(.not_ (.call "_law_int" [(.var "_law_found")])), (.cmp .ne (.var "_law_found") (.var "_law_due"))])])])
        [.ret (.bool_ false)]
        []] (bindT ["_law_one", "_law_way"] vs ρ) σ K := by
  refine Classical.byContradiction fun hG => ?_
  obtain ⟨og, v, G, S, R, rfl, hog, hG, g0, hv, good⟩ := P
  obtain ⟨e, ⟨hs, c0⟩, ⟨z0, c1⟩, ⟨z1, c2⟩, ⟨r1, r2, r3, r4, r5, r6⟩, k1, k2⟩ := I
  obtain ⟨ap, x, y, h1, h2, h3⟩ := has_tup2 hv
  obtain ⟨aw', xw, haw, hxw⟩ := has_list h2
  obtain ⟨ar, xr, har, hxr⟩ := has_list h3
  refine hG ?_
  clear hG
  have W : (X.gr G S R).WF X.many := C.ok.wf hG g0 good
  have hrows := W.rows
  have hwl : xw.length ≤ 1000 := by
    simp only [goodP, Bool.and_eq_true] at good
    rw [hxw.len]; exact Nat.le_trans (goodW_len good.1.2) (by decide)
  have hrl : xr.length ≤ 1000 := by rw [hxr.len]; exact Nat.le_trans hrows (by decide)
  have hG8 := hG.len C.ok.many8
  have le := V.le
  have fd := V.fd
  have lc := V.lc
  have l1 := V.l1
  refine s_cons ?_; refine s_expr ?_; refine r_calln (FnOk.cf (by assumption)) ?_; refine r_cons ?_; refine r_var (by assumption) ?_; refine v_cons ?_; refine r_cons ?_; refine r_var (by assumption) ?_; refine v_cons ?_; refine r_ss rfl ?_; refine v_push ?_; refine v_push ?_
  refine turned_spec V e b0 b1 b2 n0 n1 n2 c0 c1 c2 hmv hog h1 haw har (by rw [List.length_map]; lia) hwl hrl fun σ1 e1 q0 q1 q2 => ?_
  refine v_exprn ?_; refine t_assign ?_; refine r_calln (FnOk.cf (by assumption)) ?_; refine r_cons ?_; refine r_var (by assumption) ?_; refine v_cons ?_; refine r_cons ?_; refine r_var (by assumption) ?_; refine v_cons ?_; refine r_cons ?_; refine r_var (by assumption) ?_; refine v_cons ?_; refine r_ss rfl ?_; refine v_push ?_; refine v_push ?_; refine v_push ?_
  refine leads_spec V W hG (C.hm.ext e1) q0 (mk_tup2 (e1 _ _ hmv) (list_has q1 (hxw.imp fun o' o' o' h => h.ext e1)) (list_has q2 (hxr.imp fun o' o' o' h => h.ext e1))) fun v1 σ2 e2 a1 => ?_
  have e3 := e1.trans e2
  refine v_asgn ?_; refine t_assign ?_; refine r_calln (FnOk.cf (by assumption)) ?_; refine r_cons ?_; refine r_var (by assumption) ?_; refine v_cons ?_; refine r_cons ?_; refine r_s rfl ?_; refine v_cons ?_; refine r_cons ?_; refine r_s rfl ?_; refine v_cons ?_; refine r_cons ?_; refine r_var (by assumption) ?_; refine v_cons ?_; refine r_ss rfl ?_; refine v_push ?_; refine v_push ?_; refine v_push ?_; refine v_push ?_
  refine steps_spec V W (Wd := X.Wd) (C.hh.ext e3) (e3 _ _ hog) (hv.ext e3) (e3 _ _ C.haw) hG8 fun v2 σ4 e4 a2 => ?_
  have ev2 := Gr.ans_same a2 a1
  subst ev2
  have e5 := e2.trans e4
  have fin : ∀ ρ', LawN ρ' l vh ga vp aw vm → ρ' "_law_handed" = some (.ref h) → ρ' "_law_moved" = some (.ref mv) → K .next ρ' σ4 := fun ρ' N g1 g2 => k _ _ ⟨e3.trans e4, ⟨_, e5 _ _ q0⟩, ⟨_, e5 _ _ q1⟩, ⟨_, e5 _ _ q2⟩, N, g1, g2⟩
  rcases a1 with ⟨_, rfl⟩ | ⟨_, m, rfl, _⟩
  · refine v_asgn ?_; refine t_if ?_; refine r_bop ?_; refine r_bop ?_; refine r_cmp ?_; refine r_s rfl ?_; refine v_cmp ?_; refine r_s rfl ?_; refine v_is0 ?_; refine v_bft ?_; refine r_b1 ?_; refine r_cmp ?_; refine r_s rfl ?_; refine v_cmp ?_; refine r_s rfl ?_; refine v_ni0 ?_; refine v_btf ?_; refine r_b1 ?_; refine r_bop ?_; refine r_cmp ?_; refine r_s rfl ?_; refine v_cmp ?_; refine r_s rfl ?_; refine v_ni0 ?_; refine v_bff ?_; refine v_iffn ?_; refine s_nil ?_
    exact fin _ ⟨by (repeat (first | with_reducible exact l_here | assumption | refine l_there rfl ?_ | with_reducible refine l_bind ?_ | with_reducible refine l_bind0 ?_)), by (repeat (first | with_reducible exact l_here | assumption | refine l_there rfl ?_ | with_reducible refine l_bind ?_ | with_reducible refine l_bind0 ?_)), by (repeat (first | with_reducible exact l_here | assumption | refine l_there rfl ?_ | with_reducible refine l_bind ?_ | with_reducible refine l_bind0 ?_)), by (repeat (first | with_reducible exact l_here | assumption | refine l_there rfl ?_ | with_reducible refine l_bind ?_ | with_reducible refine l_bind0 ?_)), by (repeat (first | with_reducible exact l_here | assumption | refine l_there rfl ?_ | with_reducible refine l_bind ?_ | with_reducible refine l_bind0 ?_)), by (repeat (first | with_reducible exact l_here | assumption | refine l_there rfl ?_ | with_reducible refine l_bind ?_ | with_reducible refine l_bind0 ?_))⟩ (by (repeat (first | with_reducible exact l_here | assumption | refine l_there rfl ?_ | with_reducible refine l_bind ?_ | with_reducible refine l_bind0 ?_))) (by (repeat (first | with_reducible exact l_here | assumption | refine l_there rfl ?_ | with_reducible refine l_bind ?_ | with_reducible refine l_bind0 ?_)))
  · refine v_asgn ?_; refine t_if ?_; refine r_bop ?_; refine r_bop ?_; refine r_cmp ?_; refine r_s rfl ?_; refine v_cmp ?_; refine r_s rfl ?_; refine v_isi ?_; refine v_bff ?_; refine v_btf ?_; refine r_b1 ?_; refine r_bop ?_; refine r_cmp ?_; refine r_s rfl ?_; refine v_cmp ?_; refine r_s rfl ?_; refine v_nii ?_; refine v_bft ?_; refine r_b1 ?_; refine r_bop ?_; refine r_not ?_; refine r_calln (FnOk.cf (by assumption)) ?_; refine r_ss rfl ?_
    refine int_spec l1 ?_
    refine v_nott ?_; refine v_btf ?_; refine r_b1 ?_; refine r_s rfl ?_
    rw [decide_eq_false (fun n => n rfl)]
    refine v_iffn ?_; refine s_nil ?_
    exact fin _ ⟨by (repeat (first | with_reducible exact l_here | assumption | refine l_there rfl ?_ | with_reducible refine l_bind ?_ | with_reducible refine l_bind0 ?_)), by (repeat (first | with_reducible exact l_here | assumption | refine l_there rfl ?_ | with_reducible refine l_bind ?_ | with_reducible refine l_bind0 ?_)), by (repeat (first | with_reducible exact l_here | assumption | refine l_there rfl ?_ | with_reducible refine l_bind ?_ | with_reducible refine l_bind0 ?_)), by (repeat (first | with_reducible exact l_here | assumption | refine l_there rfl ?_ | with_reducible refine l_bind ?_ | with_reducible refine l_bind0 ?_)), by (repeat (first | with_reducible exact l_here | assumption | refine l_there rfl ?_ | with_reducible refine l_bind ?_ | with_reducible refine l_bind0 ?_)), by (repeat (first | with_reducible exact l_here | assumption | refine l_there rfl ?_ | with_reducible refine l_bind ?_ | with_reducible refine l_bind0 ?_))⟩ (by (repeat (first | with_reducible exact l_here | assumption | refine l_there rfl ?_ | with_reducible refine l_bind ?_ | with_reducible refine l_bind0 ?_))) (by (repeat (first | with_reducible exact l_here | assumption | refine l_there rfl ?_ | with_reducible refine l_bind ?_ | with_reducible refine l_bind0 ?_)))
noncomputable def shortR (R : List Row) : List Row := [(none, [])].take R.length ++ R.drop 1
noncomputable def turnR (R : List Row) : List Row := R.take (R.length - 1) ++ [(some 0, [])].take R.length
theorem take1 {α : Type} {x : α} {n : Nat} : [x].take (n + 1) = [x] := by rw [List.take_succ_cons, List.take_nil]
theorem short_good {nd : Int} {S : List Way} {R : List Row} (h : goodP nd S R = true) : goodP nd S (shortR R) = true := by
  cases R with
  | nil => exact h
  | cons r R =>
    simp only [goodP, Bool.and_eq_true, goodRs] at h
    rw [shortR, List.length_cons, take1]
    show goodP nd S ((none, []) :: R) = true
    rw [goodP, goodRs]
    exact (Bool.and_eq_true _ _).mpr ⟨(Bool.and_eq_true _ _).mpr h.1, (Bool.and_eq_true _ _).mpr ⟨rfl, h.2.2⟩⟩
theorem goodRs_take {nd m : Int} : ∀ {R : List Row} {k : Int} (j : Nat), goodRs nd m k R = true → goodRs nd m k (R.take j) = true
  | [], k, j, _ => by rw [List.take_nil]; rfl
  | r :: R, k, 0, _ => rfl
  | r :: R, k, j + 1, h => by
    obtain ⟨h1, h2⟩ := (Bool.and_eq_true _ _).mp h
    exact (Bool.and_eq_true _ _).mpr ⟨h1, goodRs_take j h2⟩
theorem turn_good {nd : Int} {S : List Way} {R : List Row} (hn : 1 ≤ nd) (h : goodP nd S R = true) : goodP nd S (turnR R) = true := by
  cases R with
  | nil => exact h
  | cons r R =>
    have hl : (turnR (r :: R)).length = (r :: R).length := by
      simp only [turnR, List.length_append, List.length_take, List.length_cons, List.length_nil]
      rw [Nat.add_sub_cancel, Nat.min_eq_left (Nat.le_succ _), Nat.min_eq_right (Nat.succ_le_succ (Nat.zero_le _))]
    simp only [goodP, Bool.and_eq_true] at h
    rw [goodP, hl]
    refine (Bool.and_eq_true _ _).mpr ⟨(Bool.and_eq_true _ _).mpr h.1, ?_⟩
    unfold turnR
    rw [show [((some 0, []) : Row)].take (r :: R).length = [(some 0, [])] from take1]
    refine goodRs_snoc (goodRs_take _ h.2) ?_
    show ((decide ((0 : Int) ≤ 0) && decide ((0 : Int) ≤ nd - 1)) && true) = true
    rw [decide_eq_true (show (0 : Int) ≤ nd - 1 by lia)]; rfl
theorem bnd_pre {n k : Nat} {d : Nat} : bnd n d (.int (k : Int)) = some (min k n) := by
  show some (max 0 (min (if (k : Int) < 0 then (k : Int) + n else k) (n : Int))).toNat = _
  rw [if_neg (Int.not_lt.mpr (Int.natCast_nonneg k)), show min (k : Int) (n : Int) = ((min k n : Nat) : Int) from (Nat.le_total k n).elim (fun q => by rw [Nat.min_eq_left q]; exact Int.min_eq_left (Int.ofNat_le.mpr q)) fun q => by rw [Nat.min_eq_right q]; exact Int.min_eq_right (Int.ofNat_le.mpr q), Int.max_eq_right (Int.natCast_nonneg _), Int.toNat_natCast]
theorem bnd_neg {n d : Nat} : bnd n d (.int (-1)) = some (n - 1) := by
  show some (max 0 (min (if (-1 : Int) < 0 then (-1 : Int) + n else -1) (n : Int))).toNat = _
  rw [if_pos (by decide)]
  cases n with
  | zero => rfl
  | succ n => rw [show (-1 + ((n + 1 : Nat) : Int)) = n by rw [Int.natCast_add, Int.add_comm (n : Int)]; exact Int.neg_add_cancel_left .., Int.min_eq_left (Int.ofNat_le.mpr (Nat.le_succ n)), Int.max_eq_right (Int.natCast_nonneg _), Int.toNat_natCast]; rfl
section
variable {σ : Sto} {a : Nat} {xs : List Val} {Q : KV}
theorem sl_pre {k : Nat} (ha : σ a = some (.list xs)) (h : newW σ (.list (xs.take k)) Q) : sliceW (.ref a) .none (.int k) σ Q := x_sll ha rfl bnd_pre (by
  unfold cut
  rw [List.drop_zero, Nat.sub_zero]
  by_cases q : k ≤ xs.length
  · rw [Nat.min_eq_left q]
  · rw [Nat.min_eq_right (by lia), List.take_length, List.take_of_length_le (by lia)]) h
theorem sl_init (ha : σ a = some (.list xs)) (h : newW σ (.list (xs.take (xs.length - 1))) Q) : sliceW (.ref a) .none (.int (-1)) σ Q := x_sll ha rfl bnd_neg (by unfold cut; rw [List.drop_zero, Nat.sub_zero]) h
theorem sl_tail (ha : σ a = some (.list xs)) (h : newW σ (.list (xs.drop 1)) Q) : sliceW (.ref a) (.int 1) .none σ Q := x_sll ha (bnd_pre (k := 1)) rfl (by
  unfold cut
  cases xs with
  | nil => rfl
  | cons x xs =>
    rw [List.length_cons, Nat.min_eq_left (by lia)]
    exact List.take_of_length_le (by rw [List.drop_succ_cons, List.drop_zero]; lia)) h
end
theorem All2.take {α β : Type} {R : α → β → Prop} {as : List α} {bs : List β} (k : Nat) (h : All2 R as bs) : All2 R (as.take k) (bs.take k) := by
  induction h generalizing k with
  | nil => rw [List.take_nil, List.take_nil]; exact .nil
  | cons h1 _ ih => cases k with
    | zero => exact .nil
    | succ k => exact .cons h1 (ih k)
theorem All2.drop1 {α β : Type} {R : α → β → Prop} {as : List α} {bs : List β} (h : All2 R as bs) : All2 R (as.drop 1) (bs.drop 1) := by
  cases h with
  | nil => exact .nil
  | cons _ h => exact h
theorem planF {ok : Nat → Prop} {σ : Sto} {a b c : Nat} {S : List Way} {R : List Row} {xw xr : List Val} (h1 : σ a = some (.tup [.ref b, .ref c])) (hb : σ b = some (.list xw)) (hc : σ c = some (.list xr)) (ka : ok a) (kb : ok b) (kc : ok c) (hw : All2 (fun w v => HasF ok σ (dWay w) v) S xw) (hr : All2 (fun w v => HasF ok σ (dRow w) v) R xr) : HasF ok σ (dPlan S R) (.ref a) := by
  show HasF ok σ (.tup [dWays S, .list (R.map dRow)]) (.ref a)
  simp only [HasF]
  exact ⟨a, _, rfl, ka, h1, HasFL.cons.mpr ⟨listF_has hb kb hw, HasFL.cons.mpr ⟨listF_has hc kc hr, HasFL.nil⟩⟩⟩
inductive ListF (ok : Nat → Prop) (σ : Sto) {α : Type} (f : α → Dat) (as : List α) : Val → Prop
  | mk (a : Nat) (xs : List Val) (h : σ a = some (.list xs)) (hx : All2 (fun x v => HasF ok σ (f x) v) as xs) : ListF ok σ f as (.ref a)
theorem hasFL_all {ok : Nat → Prop} {σ : Sto} {α : Type} {f : α → Dat} {as : List α} : ∀ {xs : List Val}, HasFL ok σ (as.map f) xs → All2 (fun x v => HasF ok σ (f x) v) as xs := by
  induction as with
  | nil => exact fun {xs} h => (show xs = [] from h) ▸ .nil
  | cons a as ih => exact fun {xs} ⟨y, ys, h1, h2, h3⟩ => h1 ▸ .cons h2 (ih h3)
theorem listF_inv {ok : Nat → Prop} {σ : Sto} {α : Type} {f : α → Dat} {as : List α} {v : Val} (h : HasF ok σ (.list (as.map f)) v) : ListF ok σ f as v := by
  simp only [HasF] at h
  refine Classical.byContradiction fun hG => ?_
  obtain ⟨a, xs, rfl, h0, h2, h3⟩ := h
  refine hG ?_
  clear hG
  exact ⟨a, xs, h2, hasFL_all h3⟩
inductive PlanF (ok : Nat → Prop) (σ : Sto) (S : List Way) (R : List Row) : Val → Prop
  | mk (a b c : Nat) (xw xr : List Val) (h : σ a = some (.tup [.ref b, .ref c])) (hb : σ b = some (.list xw)) (hc : σ c = some (.list xr)) (hw : All2 (fun w v => HasF ok σ (dWay w) v) S xw) (hr : All2 (fun w v => HasF ok σ (dRow w) v) R xr) : PlanF ok σ S R (.ref a)
theorem planF_inv {ok : Nat → Prop} {σ : Sto} {S : List Way} {R : List Row} {v : Val} (h : HasF ok σ (dPlan S R) v) : PlanF ok σ S R v := by
  have h : HasF ok σ (.tup [dWays S, .list (R.map dRow)]) v := h
  simp only [HasF, HasFL] at h
  refine Classical.byContradiction fun hG => ?_
  obtain ⟨a, xs, rfl, _, h2, x, r, rfl, h3, y, r', rfl, h4, rfl⟩ := h
  obtain ⟨b, xw, hb, hw⟩ := listF_inv (f := dWay) h3
  refine hG ?_
  clear hG
  obtain ⟨c, xr, hc, hr⟩ := listF_inv (f := dRow) (by simp only [HasF]; exact h4)
  exact ⟨a, b, c, xw, xr, h2, hb, hc, hw, hr⟩
end BP

namespace BP
open PySem
variable {F : Nat → CallW} {g : Glo}
noncomputable def Off (h m0 m1 : Nat) (a : Nat) : Prop := a ≠ h ∧ a ≠ m0 ∧ a ≠ m1
structure Std (h m0 m1 : Nat) (σ : Sto) : Prop where
  c0 : ∃ xs, σ h = some (.list xs)
  c1 : ∃ xs, σ m0 = some (.list xs)
  c2 : ∃ xs, σ m1 = some (.list xs)
section
variable {h m0 m1 : Nat} {σ σ' : Sto}
theorem Std.ext (s : Std h m0 m1 σ) (e : Ext σ σ') : Std h m0 m1 σ' := ⟨by obtain ⟨x, q⟩ := s.c0; exact ⟨x, e _ _ q⟩, by obtain ⟨x, q⟩ := s.c1; exact ⟨x, e _ _ q⟩, by obtain ⟨x, q⟩ := s.c2; exact ⟨x, e _ _ q⟩⟩
theorem Std.off (s : Std h m0 m1 σ) {a : Nat} (ha : σ a = none) : Off h m0 m1 a := by
  refine Classical.byContradiction fun hG => ?_
  obtain ⟨x, q0⟩ := s.c0
  obtain ⟨y, q1⟩ := s.c1
  obtain ⟨z, q2⟩ := s.c2
  refine hG ?_
  clear hG
  exact ⟨fresh_ne ha q0, fresh_ne ha q1, fresh_ne ha q2⟩
theorem Std.set (s : Std h m0 m1 σ) {a : Nat} (ha : σ a = none) (ob : Ob) : Std h m0 m1 (σ.set a ob) := s.ext (.set ha ob)
end
structure Made (h m0 m1 : Nat) (S : List Way) (R : List Row) (σ : Sto) (v : Val) : Prop where
  p : HasF (Off h m0 m1) σ (dPlan S R) v
section
variable {h m0 m1 ap : Nat} {σ : Sto} {S : List Way} {R : List Row} {ρ : Loc} {Q : KV} {er : String → Sto → Prop} {F : CallW}
theorem short_spec (s : Std h m0 m1 σ) (hp : HasF (Off h m0 m1) σ (dPlan S R) (.ref ap)) (hl : R.length ≤ 300) (hS : S.length ≤ 300) (r1 : ρ "_law_plan" = some (.ref ap)) (hQ : ∀ v σ', Ext σ σ' → HasF (Off h m0 m1) σ' (dPlan S (shortR R)) v → Q v σ') :
    wpE F (g.at false er) (.tup [(.bcall .list [(.sub (.var "_law_plan") (.int_ 0))]), (.bin .add (.slice (.list [(.tup [.none_, (.list [])])]) .none_ (.bcall .len [(.sub (.var "_law_plan") (.int_ 1))])) (.slice (.sub (.var "_law_plan") (.int_ 1)) (.int_ 1) .none_))]) ρ σ Q := by
  refine Classical.byContradiction fun hG => ?_
  refine Classical.byContradiction fun hG => ?_
  obtain ⟨_, b, c, xw, xr, h1, hb, hc, hw, hr⟩ := planF_inv hp
  refine hG ?_
  clear hG
  refine hG ?_
  clear hG
  have hlr := hr.len
  refine r_tup ?_; refine r_cons ?_; refine r_bcall rfl ?_; refine r_cons ?_; refine r_sub ?_; refine r_var (by assumption) ?_; refine v_sub1 ?_; refine r_s rfl ?_
  refine sub0 h1 ?_
  refine v_cons ?_; refine r_ss rfl ?_; refine v_push ?_; refine v_lst (by assumption) ?_
  refine n_ob fun a1 k1 => ?_
  have s1 := s.set k1 (.list xw)
  refine v_cons ?_; refine r_cons ?_; refine r_bin ?_; refine r_slice ?_; refine r_list ?_; refine r_cons ?_; refine r_tup ?_; refine r_cons ?_; refine r_s rfl ?_; refine v_cons ?_; refine r_cons ?_; refine r_list0 ?_
  refine n_ob fun a2 k2 => ?_
  have s2 := s1.set k2 (.list [])
  refine v_cons ?_; refine r_ss rfl ?_; refine v_push ?_; refine v_push ?_
  refine n_lit rfl fun a3 k3 => ?_
  have s3 := s2.set k3 (.tup [.none, .ref a2])
  refine v_cons ?_; refine r_ss rfl ?_; refine v_push ?_
  refine n_lit rfl fun a4 k4 => ?_
  have s4 := s3.set k4 (.list [.ref a3])
  have x4 := (Ext.set k1 (.list xw)).trans ((Ext.set k2 (.list [])).trans ((Ext.set k3 (.tup [.none, .ref a2])).trans (.set k4 (.list [.ref a3]))))
  have A1 := ((Ext.set k2 (.list [])).trans ((Ext.set k3 (.tup [.none, .ref a2])).trans (.set k4 (.list [.ref a3])))) _ _ (set_at σ a1 (.list xw))
  have A4 := set_at (((σ.set a1 (.list xw)).set a2 (.list [])).set a3 (.tup [.none, .ref a2])) a4 (.list [.ref a3])
  have R3 : HasF (Off h m0 m1) ((((σ.set a1 (.list xw)).set a2 (.list [])).set a3 (.tup [.none, .ref a2])).set a4 (.list [.ref a3])) (dRow (none, [])) (.ref a3) := (newF_tup (ds := [dDeed none, dWays []]) k3 (s2.off k3) (HasFL.cons.mpr ⟨rfl, HasFL.cons.mpr ⟨newF_list (ds := []) k2 (s1.off k2) HasFL.nil, HasFL.nil⟩⟩)).ext (.set k4 _)
  have o1 := s.off k1
  generalize (((σ.set a1 (.list xw)).set a2 (.list [])).set a3 (.tup [.none, .ref a2])).set a4 (.list [.ref a3]) = σ4 at s4 x4 A1 A4 R3 ⊢
  clear s1 s2 s3 k1 k2 k3 k4
  refine v_sl1 ?_; refine r_s rfl ?_; refine v_sl2 ?_; refine r_bcall rfl ?_; refine r_cons ?_; refine r_sub ?_; refine r_var (by assumption) ?_; refine v_sub1 ?_; refine r_s rfl ?_
  refine sub1 (x4 _ _ h1) ?_
  refine v_cons ?_; refine r_ss rfl ?_; refine v_push ?_
  refine b_len (x4 _ _ hc) ?_
  refine sl_pre A4 fun a5 k5 => ?_
  have s5 := s4.set k5 (.list ([.ref a3].take xr.length))
  have x5 := Ext.set k5 (.list ([.ref a3].take xr.length))
  refine v_bin ?_; refine r_slice ?_; refine r_sub ?_; refine r_var (by assumption) ?_; refine v_sub1 ?_; refine r_s rfl ?_
  refine sub1 (x5 _ _ (x4 _ _ h1)) ?_
  refine v_sl1 ?_; refine r_s rfl ?_; refine v_sl2 ?_; refine r_s rfl ?_
  refine sl_tail (x5 _ _ (x4 _ _ hc)) fun a6 k6 => ?_
  have s6 := s5.set k6 (.list (xr.drop 1))
  have x6 := Ext.set k6 (.list (xr.drop 1))
  have l5 : ([Val.ref a3].take xr.length).length ≤ 1 := by rw [List.length_take, List.length_singleton]; exact Nat.min_le_right _ _
  refine o_cat (x6 _ _ (set_at _ _ _)) (set_at _ _ _) (by rw [List.length_drop]; exact Nat.le_trans (Nat.add_le_add l5 (Nat.le_trans (Nat.sub_le _ _) (Nat.le_trans (Nat.le_of_eq hlr) hl))) (by decide)) fun a7 k7 => ?_
  have o7 := s6.off k7
  have s7 := s6.set k7 (.list ([.ref a3].take xr.length ++ xr.drop 1))
  refine v_cons ?_; refine r_ss rfl ?_; refine v_push ?_; refine v_push ?_
  refine n_lit rfl fun a8 k8 => ?_
  have y := x5.trans (x6.trans ((Ext.set k7 (.list ([.ref a3].take xr.length ++ xr.drop 1))).trans (.set k8 (.tup [.ref a1, .ref a7]))))
  have z := x4.trans y
  refine hQ _ _ z (planF (xw := xw) (xr := [.ref a3].take xr.length ++ xr.drop 1) (set_at _ _ _) (y _ _ A1) (Ext.set k8 _ _ _ (set_at _ _ _)) (s7.off k8) o1 o7 (hw.imp fun o' o' o' q => q.ext z) ?_)
  rw [shortR, ← hlr]
  refine All2.append (All2.take _ (.cons ?_ .nil)) (All2.drop1 (hr.imp fun o' o' o' q => q.ext z))
  exact R3.ext y
theorem turn_spec (s : Std h m0 m1 σ) (hp : HasF (Off h m0 m1) σ (dPlan S R) (.ref ap)) (hl : R.length ≤ 300) (hS : S.length ≤ 300) (r1 : ρ "_law_plan" = some (.ref ap)) (hQ : ∀ v σ', Ext σ σ' → HasF (Off h m0 m1) σ' (dPlan S (turnR R)) v → Q v σ') :
    wpE F (g.at false er) (.tup [(.bcall .list [(.sub (.var "_law_plan") (.int_ 0))]), (.bin .add (.slice (.sub (.var "_law_plan") (.int_ 1)) .none_ (.neg (.int_ 1))) (.slice (.list [(.tup [(.int_ 0), (.list [])])]) .none_ (.bcall .len [(.sub (.var "_law_plan") (.int_ 1))])))]) ρ σ Q := by
  refine Classical.byContradiction fun hG => ?_
  refine Classical.byContradiction fun hG => ?_
  obtain ⟨_, b, c, xw, xr, h1, hb, hc, hw, hr⟩ := planF_inv hp
  refine hG ?_
  clear hG
  refine hG ?_
  clear hG
  have hlr := hr.len
  refine r_tup ?_; refine r_cons ?_; refine r_bcall rfl ?_; refine r_cons ?_; refine r_sub ?_; refine r_var (by assumption) ?_; refine v_sub1 ?_; refine r_s rfl ?_
  refine sub0 h1 ?_
  refine v_cons ?_; refine r_ss rfl ?_; refine v_push ?_; refine v_lst (by assumption) ?_
  refine n_ob fun a1 k1 => ?_
  have s1 := s.set k1 (.list xw)
  have o1 := s.off k1
  have x1 := Ext.set k1 (.list xw)
  refine v_cons ?_; refine r_cons ?_; refine r_bin ?_; refine r_slice ?_; refine r_sub ?_; refine r_var (by assumption) ?_; refine v_sub1 ?_; refine r_s rfl ?_
  refine sub1 (x1 _ _ h1) ?_
  refine v_sl1 ?_; refine r_s rfl ?_; refine v_sl2 ?_; refine r_s rfl ?_
  refine sl_init (x1 _ _ hc) fun a0 k0 => ?_
  have s0 := s1.set k0 (.list (xr.take (xr.length - 1)))
  have x0 := x1.trans (.set k0 (.list (xr.take (xr.length - 1))))
  have A1 := Ext.set k0 (.list (xr.take (xr.length - 1))) _ _ (set_at σ a1 (.list xw))
  have A0 := set_at (σ.set a1 (.list xw)) a0 (.list (xr.take (xr.length - 1)))
  generalize (σ.set a1 (.list xw)).set a0 (.list (xr.take (xr.length - 1))) = σ0 at s0 x0 A1 A0 ⊢
  clear x1 s1 k1 k0
  refine v_bin ?_; refine r_slice ?_; refine r_list ?_; refine r_cons ?_; refine r_tup ?_; refine r_cons ?_; refine r_s rfl ?_; refine v_cons ?_; refine r_cons ?_; refine r_list0 ?_
  refine n_ob fun a2 k2 => ?_
  have s2 := s0.set k2 (.list [])
  refine v_cons ?_; refine r_ss rfl ?_; refine v_push ?_; refine v_push ?_
  refine n_lit rfl fun a3 k3 => ?_
  have s3 := s2.set k3 (.tup [.int 0, .ref a2])
  refine v_cons ?_; refine r_ss rfl ?_; refine v_push ?_
  refine n_lit rfl fun a4 k4 => ?_
  have s4 := s3.set k4 (.list [.ref a3])
  have x4 := (Ext.set k2 (.list [])).trans ((Ext.set k3 (.tup [.int 0, .ref a2])).trans (.set k4 (.list [.ref a3])))
  have A4 := set_at ((σ0.set a2 (.list [])).set a3 (.tup [.int 0, .ref a2])) a4 (.list [.ref a3])
  have R3 : HasF (Off h m0 m1) (((σ0.set a2 (.list [])).set a3 (.tup [.int 0, .ref a2])).set a4 (.list [.ref a3])) (dRow (some 0, [])) (.ref a3) := (newF_tup (ds := [dDeed (some 0), dWays []]) k3 (s2.off k3) (HasFL.cons.mpr ⟨rfl, HasFL.cons.mpr ⟨newF_list (ds := []) k2 (s0.off k2) HasFL.nil, HasFL.nil⟩⟩)).ext (.set k4 _)
  generalize ((σ0.set a2 (.list [])).set a3 (.tup [.int 0, .ref a2])).set a4 (.list [.ref a3]) = σ4 at s4 x4 A4 R3 ⊢
  clear s0 s2 s3 k2 k3 k4
  refine v_sl1 ?_; refine r_s rfl ?_; refine v_sl2 ?_; refine r_bcall rfl ?_; refine r_cons ?_; refine r_sub ?_; refine r_var (by assumption) ?_; refine v_sub1 ?_; refine r_s rfl ?_
  refine sub1 (x4 _ _ (x0 _ _ h1)) ?_
  refine v_cons ?_; refine r_ss rfl ?_; refine v_push ?_
  refine b_len (x4 _ _ (x0 _ _ hc)) ?_
  refine sl_pre A4 fun a5 k5 => ?_
  have s5 := s4.set k5 (.list ([.ref a3].take xr.length))
  have x5 := Ext.set k5 (.list ([.ref a3].take xr.length))
  have l5 : ([Val.ref a3].take xr.length).length ≤ 1 := by rw [List.length_take, List.length_singleton]; exact Nat.min_le_right _ _
  refine o_cat (x5 _ _ (x4 _ _ A0)) (set_at _ _ _) (by rw [List.length_take]; exact Nat.le_trans (Nat.add_le_add (Nat.le_trans (Nat.min_le_right _ _) (Nat.le_trans (Nat.le_of_eq hlr) hl)) l5) (by decide)) fun a7 k7 => ?_
  have o7 := s5.off k7
  have s7 := s5.set k7 (.list (xr.take (xr.length - 1) ++ [.ref a3].take xr.length))
  refine v_cons ?_; refine r_ss rfl ?_; refine v_push ?_; refine v_push ?_
  refine n_lit rfl fun a8 k8 => ?_
  have y := x5.trans ((Ext.set k7 (.list (xr.take (xr.length - 1) ++ [.ref a3].take xr.length))).trans (.set k8 (.tup [.ref a1, .ref a7])))
  have z := x0.trans (x4.trans y)
  refine hQ _ _ z (planF (xw := xw) (xr := xr.take (xr.length - 1) ++ [.ref a3].take xr.length) (set_at _ _ _) ((x4.trans y) _ _ A1) (Ext.set k8 _ _ _ (set_at _ _ _)) (s7.off k8) o1 o7 (hw.imp fun o' o' o' q => q.ext z) ?_)
  rw [turnR, ← hlr]
  refine All2.append (All2.take _ (hr.imp fun o' o' o' q => q.ext z)) (All2.take _ (.cons ?_ .nil))
  exact R3.ext y
end
theorem off_at {h m0 m1 a : Nat} {σ : Sto} {ob : Ob} (e : σ a = some ob) (o : Off h m0 m1 a) : σ.off [h, m0, m1] a = some ob := by
  rw [off_ne fun q => ?_]
  · exact e
  · simp only [List.mem_cons, List.not_mem_nil, or_false] at q
    rcases q with q | q | q
    · exact o.1 q
    · exact o.2.1 q
    · exact o.2.2 q
theorem HasF.off {h m0 m1 : Nat} {σ : Sto} {d : Dat} {v : Val} (x : HasF (Off h m0 m1) σ d v) : Has (σ.off [h, m0, m1]) d v := (x.move (ok' := fun o' => True) (fun a ob o e => off_at e o) fun o' o' => trivial).has
theorem turns_five {σ : Sto} {T t1 t2 t3 t4 t5 : Nat} {x1 y1 x2 y2 x3 y3 x4 y4 x5 y5 : Val} (h : σ T = some (.tup [.ref t1, .ref t2, .ref t3, .ref t4, .ref t5])) (h1 : σ t1 = some (.tup [x1, y1])) (h2 : σ t2 = some (.tup [x2, y2])) (h3 : σ t3 = some (.tup [x3, y3])) (h4 : σ t4 = some (.tup [x4, y4])) (h5 : σ t5 = some (.tup [x5, y5])) :
    turnsOf σ (.ref T) 3 = some [[x1, y1], [x2, y2], [x3, y3], [x4, y4], [x5, y5]] := by
  show (itemsO (σ T)).bind (pairsV σ) = _
  rw [h]; exact pairs_cons (pair_at h1) (pairs_cons (pair_at h2) (pairs_cons (pair_at h3) (pairs_cons (pair_at h4) (pairs_cons (pair_at h5) rfl))))
theorem law_loop (V : Env F g) {X : LawD} {d h l ga aw : Nat} {vh vp vm : Val} {σ0 σ : Sto} {ρ : Loc} {Q : KV} {er : String → Sto → Prop} {hs : List Val} (C : LawC X σ0 l vh ga vp aw vm) (e0 : Ext σ0 σ) (h0 : σ0 h = none) (hhs : σ h = some (.list hs)) (N : LawN ρ l vh ga vp aw vm) (rh : ρ "_law_handed" = some (.ref h)) (hQ : ∀ σ', Q (.bool true) σ') :
    nxt (F (d + 8)) (g.at false er) (d_law.2.drop 10) (Kq Q) .next ρ σ := by
  refine Classical.byContradiction fun hG => ?_
  obtain ⟨r1, r2, r3, r4, r5, r6⟩ := N
  obtain ⟨ah, al, yd, aw0, hah, hL, hD, hw⟩ := house_at C.hh
  refine hG ?_
  clear hG
  have hlen := C.len
  have hlp := C.good
  simp only [goodP, Bool.and_eq_true] at hlp
  have hSl := goodW_len hlp.1.2
  show nxt (F (d + 8)) (g.at false er) (St.assign "_law_moved" _ :: St.assign "_law_shorter" _ :: St.assign "_law_turned" _ :: St.for_ 3 ["_law_one", "_law_way"] _ _ :: d_law.2.drop 14) (Kq Q) .next ρ σ
  refine s_nxt ?_; refine s_cons ?_; refine s_assign ?_; refine r_tup ?_; refine r_cons ?_; refine r_list0 ?_
  refine n_ob fun m0 k0 => ?_
  refine v_cons ?_; refine r_cons ?_; refine r_list0 ?_
  refine n_ob fun m1 k1 => ?_
  refine v_cons ?_; refine r_ss rfl ?_; refine v_push ?_; refine v_push ?_
  refine n_lit rfl fun mv kv => ?_
  have st : Std h m0 m1 (((σ.set m0 (.list [])).set m1 (.list [])).set mv (.tup [.ref m0, .ref m1])) := Std.set ⟨⟨_, ((Ext.set k0 _).trans (.set k1 _)) _ _ hhs⟩, ⟨_, Ext.set k1 _ _ _ (set_at _ _ _)⟩, ⟨_, set_at _ _ _⟩⟩ kv _
  have omv : Off h m0 m1 mv := Std.off ⟨⟨_, ((Ext.set k0 _).trans (.set k1 _)) _ _ hhs⟩, ⟨_, Ext.set k1 _ _ _ (set_at _ _ _)⟩, ⟨_, set_at _ _ _⟩⟩ kv
  have n0 : m0 ≠ h := fresh_ne k0 hhs
  have n1 : m1 ≠ h := fresh_ne k1 (Ext.set k0 _ _ _ hhs)
  have n2 : m0 ≠ m1 := Ne.symm (fresh_ne k1 (set_at _ _ _))
  have old : ∀ {a ob}, σ0 a = some ob → Off h m0 m1 a := fun {a ob} ha => ⟨Ne.symm (fresh_ne h0 ha), Ne.symm (fresh_ne k0 (e0 _ _ ha)), Ne.symm (fresh_ne k1 (Ext.set k0 _ _ _ (e0 _ _ ha)))⟩
  have b1 : σ0 m0 = none := e0.new k0
  have b2 : σ0 m1 = none := (e0.trans (.set k0 _)).new k1
  have e1 := e0.trans ((Ext.set k0 (.list [])).trans ((Ext.set k1 (.list [])).trans (.set kv (.tup [.ref m0, .ref m1]))))
  have hmv := set_at ((σ.set m0 (.list [])).set m1 (.list [])) mv (.tup [.ref m0, .ref m1])
  generalize ((σ.set m0 (.list [])).set m1 (.list [])).set mv (.tup [.ref m0, .ref m1]) = σ1 at st e1 hmv ⊢
  clear k0 k1 kv hhs e0
  have hp1 : HasF (Off h m0 m1) σ1 (dPlan X.S X.R) vp := C.hp.alloc.move (fun a ob ha q => e1 _ _ q) fun a ha => by
    cases q : σ0 a with
    | none => exact absurd q ha
    | some ob => exact old q
  refine Classical.byContradiction fun hG => ?_
  obtain ⟨ap, _, _, _, _, _, _, _, _, _⟩ := planF_inv hp1
  refine hG ?_
  clear hG
  refine s_nxt (s_cons (s_assign ?_))
  refine short_spec st hp1 (by lia) (by lia) (by (repeat (first | with_reducible exact l_here | assumption | refine l_there rfl ?_ | with_reducible refine l_bind ?_ | with_reducible refine l_bind0 ?_))) fun v2 σ2 e2 hs2 => ?_
  refine s_nxt (s_cons (s_assign ?_))
  refine turn_spec (st.ext e2) (hp1.ext e2) (by lia) (by lia) (by (repeat (first | with_reducible exact l_here | assumption | refine l_there rfl ?_ | with_reducible refine l_bind ?_ | with_reducible refine l_bind0 ?_))) fun v3 σ3 e3 hs3 => ?_
  have e4 := e1.trans (e2.trans e3)
  replace hs2 := hs2.ext e3
  replace st := st.ext (e2.trans e3)
  replace hmv := (e2.trans e3) _ _ hmv
  clear e1 e2 e3
  refine v_asgn ?_; refine s_cons ?_; refine s_for rfl ?_; refine r_tup ?_; refine r_cons ?_; refine r_tup ?_; refine r_cons ?_; refine r_var (by assumption) ?_; refine v_cons ?_; refine r_cons ?_; refine r_var (by assumption) ?_; refine v_cons ?_; refine r_ss rfl ?_; refine v_push ?_; refine v_push ?_
  refine n_lit rfl fun t1 k1 => ?_
  have o1 := st.off k1
  have s1 := st.set k1 (.tup [.ref ga, .ref ap])
  have x1 := Ext.set k1 (.tup [.ref ga, .ref ap])
  have A1 := set_at σ3 t1 (.tup [.ref ga, .ref ap])
  generalize σ3.set t1 (.tup [.ref ga, .ref ap]) = τ1 at s1 x1 A1 ⊢
  refine v_cons ?_; refine r_cons ?_; refine r_tup ?_; refine r_cons ?_; refine r_list ?_; refine r_cons ?_; refine r_bin ?_; refine r_bcall rfl ?_; refine r_cons ?_; refine r_sub ?_; refine r_var (by assumption) ?_; refine v_sub1 ?_; refine r_s rfl ?_
  refine subt 0 (x1 _ _ (e4 _ _ hah)) rfl ?_
  refine v_cons ?_; refine r_ss rfl ?_; refine v_push ?_
  refine b_len (x1 _ _ (e4 _ _ hL)) ?_
  rw [List.length_map, C.ok.looks.1]
  refine v_bin ?_; refine r_s rfl ?_; refine v_sub ?_; refine v_cons ?_; refine r_ss rfl ?_; refine v_push ?_
  refine n_lit rfl fun t0 k0 => ?_
  have o0 := s1.off k0
  have s0 := s1.set k0 (.list [.int (X.many - 1)])
  have x0 := x1.trans (.set k0 (.list [.int (X.many - 1)]))
  have A0 := set_at τ1 t0 (.list [.int (X.many - 1)])
  replace A1 := Ext.set k0 (.list [.int (X.many - 1)]) _ _ A1
  generalize τ1.set t0 (.list [.int (X.many - 1)]) = τ0 at s0 x0 A0 A1 ⊢
  clear s1 x1 k1 k0
  refine v_cons ?_; refine r_cons ?_; refine r_var (by assumption) ?_; refine v_cons ?_; refine r_ss rfl ?_; refine v_push ?_; refine v_push ?_
  refine n_lit rfl fun t2 k2 => ?_
  have o2 := s0.off k2
  have s2 := s0.set k2 (.tup [.ref t0, .ref ap])
  have y2 := Ext.set k2 (.tup [.ref t0, .ref ap])
  have A2 := set_at τ0 t2 (.tup [.ref t0, .ref ap])
  generalize τ0.set t2 (.tup [.ref t0, .ref ap]) = τ2 at s2 y2 A2 ⊢
  refine v_cons ?_; refine r_cons ?_; refine r_tup ?_; refine r_cons ?_; refine r_var (by assumption) ?_; refine v_cons ?_; refine r_ss rfl ?_; refine v_push ?_
  refine n_lit rfl fun t3 k3 => ?_
  have o3 := s2.off k3
  have s3 := s2.set k3 (.tup [.ref ga, v2])
  have y3 := Ext.set k3 (.tup [.ref ga, v2])
  have A3 := set_at τ2 t3 (.tup [.ref ga, v2])
  generalize τ2.set t3 (.tup [.ref ga, v2]) = τ3 at s3 y3 A3 ⊢
  refine v_cons ?_; refine r_cons ?_; refine r_tup ?_; refine r_cons ?_; refine r_var (by assumption) ?_; refine v_cons ?_; refine r_ss rfl ?_; refine v_push ?_
  refine n_lit rfl fun t4 k4 => ?_
  have o4 := s3.off k4
  have s4 := s3.set k4 (.tup [.ref ga, v3])
  have y4 := Ext.set k4 (.tup [.ref ga, v3])
  have A4 := set_at τ3 t4 (.tup [.ref ga, v3])
  generalize τ3.set t4 (.tup [.ref ga, v3]) = τ4 at s4 y4 A4 ⊢
  refine v_cons ?_; refine r_cons ?_; refine r_tup ?_; refine r_cons ?_; refine r_var (by assumption) ?_; refine v_cons ?_; refine r_cons ?_; refine r_var (by assumption) ?_; refine v_cons ?_; refine r_ss rfl ?_; refine v_push ?_; refine v_push ?_
  refine n_lit rfl fun t5 k5 => ?_
  have o5 := s4.off k5
  have s5 := s4.set k5 (.tup [.ref ga, .ref ap])
  have y5 := Ext.set k5 (.tup [.ref ga, .ref ap])
  have A5 := set_at τ4 t5 (.tup [.ref ga, .ref ap])
  generalize τ4.set t5 (.tup [.ref ga, .ref ap]) = τ5 at s5 y5 A5 ⊢
  refine v_cons ?_; refine r_ss rfl ?_; refine v_push ?_; refine v_push ?_; refine v_push ?_; refine v_push ?_; refine v_push ?_
  refine n_lit rfl fun T kT => ?_
  have oT := s5.off kT
  have sT := s5.set kT (.tup [.ref t1, .ref t2, .ref t3, .ref t4, .ref t5])
  have yT := Ext.set kT (.tup [.ref t1, .ref t2, .ref t3, .ref t4, .ref t5])
  have AT := set_at τ5 T (.tup [.ref t1, .ref t2, .ref t3, .ref t4, .ref t5])
  generalize τ5.set T (.tup [.ref t1, .ref t2, .ref t3, .ref t4, .ref t5]) = τ at sT yT AT ⊢
  clear s0 s2 s3 s4 s5 k2 k3 k4 k5 kT
  have z4 := y5.trans yT
  have z3 := y4.trans z4
  have z2 := y3.trans z3
  have z0 := y2.trans z2
  have z := x0.trans z0
  have eb : Ext σ0 (τ.off [h, m0, m1]) := fun a ob ha => off_at (z _ _ (e4 _ _ ha)) (old ha)
  have eτ : Ext (τ.off [h, m0, m1]) τ := off_ext
  have none3 : ∀ {a}, a ∈ [h, m0, m1] → τ.off [h, m0, m1] a = none := fun ha => if_pos ha
  have B0 := off_at (z0 _ _ A0) o0
  have P1 : Has (τ.off [h, m0, m1]) (dPlan X.S X.R) (.ref ap) := C.hp.ext eb
  have P2 := (hs2.ext z).off
  have P3 := (hs3.ext z).off
  have G1 := eb _ _ C.hg
  have T0 : ∀ σ', Ext (τ.off [h, m0, m1]) σ' → _ := fun σ' e => turns_five (e _ _ (off_at AT oT)) (e _ _ (off_at (z0 _ _ A1) o1)) (e _ _ (off_at (z2 _ _ A2) o2)) (e _ _ (off_at (z3 _ _ A3) o3)) (e _ _ (off_at (z4 _ _ A4) o4)) (e _ _ (off_at (yT _ _ A5) o5))
  have hT := off_at AT oT
  have hmv' := off_at (z _ _ hmv) omv
  have good := C.good
  have cases : ∀ vs ∈ [[.ref ga, .ref ap], [.ref t0, .ref ap], [.ref ga, v2], [.ref ga, v3], [.ref ga, .ref ap]], CaseOk X (τ.off [h, m0, m1]) vs := fun vs hvs => by
    have c1 : CaseOk X (τ.off [h, m0, m1]) [.ref ga, .ref ap] := ⟨ga, _, X.G, X.S, X.R, rfl, G1, C.hG, C.g0, P1, good⟩
    have c2 : CaseOk X (τ.off [h, m0, m1]) [.ref t0, .ref ap] := ⟨t0, _, [X.many - 1], X.S, X.R, rfl, B0, .one (by have := C.ok.many1; lia) (by lia), List.cons_ne_nil _ _, P1, good⟩
    have c3 : CaseOk X (τ.off [h, m0, m1]) [.ref ga, v2] := ⟨ga, _, X.G, X.S, shortR X.R, rfl, G1, C.hG, C.g0, P2, short_good good⟩
    have c4 : CaseOk X (τ.off [h, m0, m1]) [.ref ga, v3] := ⟨ga, _, X.G, X.S, turnR X.R, rfl, G1, C.hG, C.g0, P3, turn_good (by have := C.ok.count; lia) good⟩
    simp only [List.mem_cons, List.not_mem_nil, or_false] at hvs
    rcases hvs with q | q | q | q | q
    · rw [q]; exact c1
    · rw [q]; exact c2
    · rw [q]; exact c3
    · rw [q]; exact c4
    · rw [q]; exact c1
  have bh := none3 (a := h) (.head _)
  have bm0 := none3 (a := m0) (.tail _ (.head _))
  have bm1 := none3 (a := m1) (.tail _ (.tail _ (.head _)))
  have Cb := C.ext eb
  generalize τ.off [h, m0, m1] = β at eb eτ T0 hT hmv' cases bh bm0 bm1 Cb
  clear none3 P1 P2 P3 G1 B0 A0 A1 A2 A3 A4 A5 AT hs2 hs3 hp1 z z0 z2 z3 z4 x0 y2 y3 y4 y5 yT e4 hmv
  refine w_on (T0 τ eτ) ?_
  refine wpFor_all (CaseOk X β) (LoopI β h m0 m1 mv l (.ref ah) ga (.ref ap) aw vm) ?_ ?_ ?_ _ _ τ cases ⟨eτ, sT.c0, sT.c1, sT.c2, ⟨by (repeat (first | with_reducible exact l_here | assumption | refine l_there rfl ?_ | with_reducible refine l_bind ?_ | with_reducible refine l_bind0 ?_)), by (repeat (first | with_reducible exact l_here | assumption | refine l_there rfl ?_ | with_reducible refine l_bind ?_ | with_reducible refine l_bind0 ?_)), by (repeat (first | with_reducible exact l_here | assumption | refine l_there rfl ?_ | with_reducible refine l_bind ?_ | with_reducible refine l_bind0 ?_)), by (repeat (first | with_reducible exact l_here | assumption | refine l_there rfl ?_ | with_reducible refine l_bind ?_ | with_reducible refine l_bind0 ?_)), by (repeat (first | with_reducible exact l_here | assumption | refine l_there rfl ?_ | with_reducible refine l_bind ?_ | with_reducible refine l_bind0 ?_)), by (repeat (first | with_reducible exact l_here | assumption | refine l_there rfl ?_ | with_reducible refine l_bind ?_ | with_reducible refine l_bind0 ?_))⟩, by (repeat (first | with_reducible exact l_here | assumption | refine l_there rfl ?_ | with_reducible refine l_bind ?_ | with_reducible refine l_bind0 ?_)), by (repeat (first | with_reducible exact l_here | assumption | refine l_there rfl ?_ | with_reducible refine l_bind ?_ | with_reducible refine l_bind0 ?_))⟩
  · intro ρ' σ' I
    exact ⟨fun b q => by cases q; rw [I.e _ _ hT, eτ _ _ hT], T0 σ' I.e⟩
  · intro ρ' σ' I
    exact law_tail V (Cb.ext I.e) I.N hQ
  · intro vs ρ' σ' K P I k
    exact loop_body V Cb bh bm0 bm1 n0 n1 n2 hmv' I P k
end BP

namespace BP
open PySem
variable {F : Nat → CallW} {g : Glo}
theorem law_mid (V : Env F g) {d l ga : Nat} {ns : List Int} {many : Int} {L : List Int} {D : List (List (List Int))} {Wd G : List Int} {S : List Way} {R : List Row} {vh vp : Val} {σ : Sto} {ρ : Loc} {Q : KV} {er : String → Sto → Prop} (hσ : σ l = some (.ro (ns.map .int))) (hl : ns.length ≤ 63)
    (ok : HouseOk many L D Wd) (hh : Has σ (houseD L D Wd) vh) (hG : Rooms many G) (g0 : G ≠ []) (hg : σ ga = some (.list (G.map .int))) (hp : Has σ (dPlan S R) vp) (good : goodP D.length S R = true) (hlen : R.length ≤ 68)
    (r1 : ρ "_law_script" = some (.ref l)) (r2 : ρ "_law_house_here" = some vh) (r3 : ρ "_law_guess_here" = some (.ref ga)) (r4 : ρ "_law_plan" = some vp) (hQ : ∀ σ', Q (.bool true) σ') :
    nxt (F (d + 8)) (g.at false er) (d_law.2.drop 4) (Kq Q) .next ρ σ := by
  have lf := V.lf
  have l0 := V.l0
  have f3 := V.f3
  have lg := V.lg
  have fd := V.fd
  have hG8 := hG.len ok.many8
  show nxt (F (d + 8)) (g.at false er) (St.assign "_law_wished_here" _ :: St.assign "_law_made" _ :: St.assign "_law_kept" _ :: St.assign "_law_handed" _ :: St.expr _ :: St.if_ _ _ _ :: d_law.2.drop 10) (Kq Q) .next ρ σ
  refine s_nxt ?_; refine s_cons ?_; refine s_assign ?_; refine r_calln (FnOk.cf (by assumption)) ?_; refine r_cons ?_; refine r_var (by assumption) ?_; refine v_cons ?_; refine r_cons ?_; refine r_var (by assumption) ?_; refine v_cons ?_; refine r_cons ?_; refine r_var (by assumption) ?_; refine v_cons ?_; refine r_cons ?_; refine r_calln (FnOk.cf (by assumption)) ?_; refine r_cons ?_; refine r_var (by assumption) ?_; refine v_cons ?_; refine r_ss rfl ?_; refine v_push ?_
  refine cell_any l0 hσ hl fun c0 σ1 e1 => ?_
  have W0 : (Gr.mk L D G S R Wd).WF many := ok.wf hG g0 good
  refine wished_spec V W0 (hh.ext e1) ok.wished (e1 _ _ hg) (hp.ext e1) hG8 fun W aw σ2 e2 hW haw => ?_
  have E2 := e1.trans e2
  refine Classical.byContradiction fun hG => ?_
  obtain ⟨ah, al, yd, aw0, hah, hL, hD, hw⟩ := house_at hh
  obtain ⟨ad, xd, had, hxd⟩ := has_list hD
  refine hG ?_
  clear hG
  have hdl := hxd.len
  have hc5 := ok.count
  refine v_asgn ?_; refine t_assign ?_; refine r_calln (ClsOk.cf (by assumption)) ?_; refine r_cons ?_; refine r_bcall rfl ?_; refine r_cons ?_; refine r_sub ?_; refine r_var (by assumption) ?_; refine v_sub1 ?_; refine r_s rfl ?_
  refine subt 0 (E2 _ _ hah) rfl ?_
  refine v_cons ?_; refine r_ss rfl ?_; refine v_push ?_
  refine b_list (E2 _ _ hL) fun b1 k1 => ?_
  have x1 := Ext.set k1 (.list (L.map .int))
  have B1 := set_at σ2 b1 (.list (L.map .int))
  generalize σ2.set b1 (.list (L.map .int)) = σ3 at x1 B1 ⊢
  refine v_cons ?_; refine r_cons ?_; refine r_comp rfl ?_; refine r_sub ?_; refine r_var (by assumption) ?_; refine v_sub1 ?_; refine r_s rfl ?_
  refine subt 1 (x1 _ _ (E2 _ _ hah)) rfl ?_
  refine comp_list (fun D v => Has σ (deedD D) v) (fun σ' D v => Has σ' (deedD D) v) (fun e h => h.ext e) (x1 _ _ (E2 _ _ had)) (by lia) hxd ?_ ?_
  · intro D' hD' v σ' hv e K' hK
    refine r_calln (FnOk.cf (by assumption)) ?_; refine r_ss rfl ?_
    refine own_spec lg (hv.ext ((E2.trans x1).trans e)) (by have := (ok.deeds D' hD').1; have := ok.many8; lia) fun w σ'' e' hw' => hK _ _ e' hw'
  intro b2 ys σ4 e4 k2 hys
  have x2 := x1.trans (e4.trans (.set k2 (.list ys)))
  have B2 : Has (σ4.set b2 (.list ys)) (.list (D.map deedD)) (.ref b2) := list_has (set_at _ _ _) (hys.imp fun o' o' o' h => h.ext (.set k2 _))
  replace B1 := (e4.trans (.set k2 (.list ys))) _ _ B1
  generalize σ4.set b2 (.list ys) = σ5 at x2 B1 B2 ⊢
  clear x1 k1 e4 k2 hys
  have haw5 := x2 _ _ haw
  refine v_cons ?_; refine r_cons ?_; refine r_bcall rfl ?_; refine r_ss rfl ?_; refine v_lst (by assumption) ?_
  refine n_ob fun b3 k3 => ?_
  have x3 := x2.trans (.set k3 (.list (W.map .int)))
  refine v_cons ?_; refine r_ss rfl ?_; refine v_push ?_; refine v_push ?_; refine v_push ?_
  have ok' : HouseOk many L D W := ⟨ok.many1, ok.many8, ok.looks, ok.count, ok.deeds, hW⟩
  refine house_spec V.f0 V.f1 V.f2 V.f4 V.f3 V.g1 V.g2 V.g3 (d := d + 3) (mk_ints (Ext.set k3 _ _ _ B1)) (B2.ext (.set k3 _)) (mk_ints (set_at _ _ _)) ok' fun vm σ6 e6 hm => ?_
  have E6 := E2.trans (x3.trans e6)
  have C6 : LawC ⟨ns, many, L, D, Wd, W, G, S, R⟩ σ6 l (.ref ah) ga vp aw vm := ⟨E6 _ _ hσ, hl, ok, hh.ext E6, hG, g0, E6 _ _ hg, hp.ext E6, good, hlen, hW, (x3.trans e6) _ _ haw, hm⟩
  clear B1 B2 x2 x3 e6 k3 haw5 haw E2 e1 e2 hm E6
  refine Classical.byContradiction fun hG => ?_
  obtain ⟨ap, x, y, h1, h2, h3⟩ := has_tup2 C6.hp
  obtain ⟨aw', xw, hax, hxw⟩ := has_list h2
  obtain ⟨ar, xr, har, hxr⟩ := has_list h3
  refine hG ?_
  clear hG
  have hlr : xr.length = R.length := hxr.len
  refine v_asgn ?_; refine t_assign ?_; refine r_tup ?_; refine r_cons ?_; refine r_bcall rfl ?_; refine r_cons ?_; refine r_sub ?_; refine r_var (by assumption) ?_; refine v_sub1 ?_; refine r_s rfl ?_
  refine sub0 h1 ?_
  refine v_cons ?_; refine r_ss rfl ?_; refine v_push ?_; refine v_lst (by assumption) ?_
  refine n_ob fun b4 k4 => ?_
  have x4 := Ext.set k4 (.list xw)
  have B4 := set_at σ6 b4 (.list xw)
  generalize σ6.set b4 (.list xw) = σ7 at x4 B4 ⊢
  refine v_cons ?_; refine r_cons ?_; refine r_comp rfl ?_; refine r_sub ?_; refine r_var (by assumption) ?_; refine v_sub1 ?_; refine r_s rfl ?_
  refine sub1 (x4 _ _ h1) ?_
  refine comp_list (fun r v => Has σ6 (dRow r) v) (fun σ' r v => Has σ' (dRow r) v) (fun e h => h.ext e) (x4 _ _ har) (by lia) hxr ?_ ?_
  · intro r hr v σ' hv e K' hK
    refine Classical.byContradiction fun hG => ?_
    obtain ⟨c, w, q1, q3⟩ := has_row hv
    obtain ⟨cw, zs, q4, q5⟩ := has_list q3
    refine hG ?_
    clear hG
    have e' := x4.trans e
    have q4' := e' _ _ q4
    refine r_tup ?_; refine r_cons ?_; refine r_sub ?_; refine r_s rfl ?_; refine v_sub1 ?_; refine r_s rfl ?_
    refine sub0 (e' _ _ q1) ?_
    refine v_cons ?_; refine r_cons ?_; refine r_bcall rfl ?_; refine r_cons ?_; refine r_sub ?_; refine r_s rfl ?_; refine v_sub1 ?_; refine r_s rfl ?_
    refine sub1 (e' _ _ q1) ?_
    refine v_cons ?_; refine r_ss rfl ?_; refine v_push ?_; refine v_lst (by assumption) ?_
    refine n_ob fun a k => ?_
    refine v_cons ?_; refine r_ss rfl ?_; refine v_push ?_; refine v_push ?_
    refine n_lit rfl fun a' k' => ?_
    have e2 := (Ext.set k (.list zs)).trans (.set k' (.tup [deedV r.1, .ref a]))
    refine hK _ _ e2 (mk_tup2 (set_at _ _ _) ?_ (list_has (Ext.set k' _ _ _ (set_at _ _ _)) (q5.imp fun o' o' o' h => h.ext (e'.trans e2))))
    cases r.1 <;> rfl
  intro b5 ys σ8 e8 k5 hys
  have x5 := x4.trans (e8.trans (.set k5 (.list ys)))
  refine v_cons ?_; refine r_ss rfl ?_; refine v_push ?_; refine v_push ?_
  refine n_lit rfl fun b6 k6 => ?_
  have x6 := x5.trans (.set k6 (.tup [.ref b4, .ref b5]))
  have hk : Has ((σ8.set b5 (.list ys)).set b6 (.tup [.ref b4, .ref b5])) (dPlan S R) (.ref b6) := mk_tup2 (set_at _ _ _) (list_has ((e8.trans ((Ext.set k5 _).trans (.set k6 _))) _ _ B4) (hxw.imp fun o' o' o' h => h.ext x6)) (list_has (Ext.set k6 _ _ _ (set_at _ _ _)) (hys.imp fun o' o' o' h => h.ext ((Ext.set k5 _).trans (.set k6 _))))
  have C9 := C6.ext x6
  generalize (σ8.set b5 (.list ys)).set b6 (.tup [.ref b4, .ref b5]) = σ9 at hk C9 ⊢
  clear C6 hxw hxr hys x4 x5 x6 e8 k4 k5 k6 B4 h1 h2 h3 hax har
  have hg9 := C9.hg
  refine v_asgn ?_; refine t_assign ?_; refine r_bcall rfl ?_; refine r_cons ?_; refine r_var (by assumption) ?_; refine v_cons ?_; refine r_ss rfl ?_; refine v_push ?_; refine v_lst (by assumption) ?_
  refine n_ob fun h k7 => ?_
  have x7 := Ext.set k7 (.list (G.map .int))
  have B7 := set_at σ9 h (.list (G.map .int))
  generalize σ9.set h (.list (G.map .int)) = σ10 at x7 B7 ⊢
  refine v_asgn ?_; refine t_expr ?_; refine r_calln (FnOk.cf (by assumption)) ?_; refine r_cons ?_; refine r_s rfl ?_; refine v_cons ?_; refine r_cons ?_; refine r_s rfl ?_; refine v_cons ?_; refine r_cons ?_; refine r_var (by assumption) ?_; refine v_cons ?_; refine r_ss rfl ?_; refine v_push ?_; refine v_push ?_; refine v_push ?_
  have W1 : (Gr.mk L D G S R W).WF many := ok.wf hG g0 good
  refine leads_spec V W1 hG (C9.hm.ext x7) B7 (C9.hp.ext x7) fun v σ11 e11 o' => ?_
  have x8 := x7.trans e11
  refine v_exprn ?_; refine t_if ?_; refine r_bop ?_; refine r_cmp ?_; refine r_s rfl ?_; refine v_cmp ?_; refine r_var (by assumption) ?_
  refine c_nesame (d := ilist G) (mk_ints (e11 _ _ B7)) (mk_ints (x8 _ _ hg9)) dOk_ints ?_
  refine v_b ?_; refine v_btf ?_; refine r_b1 ?_; refine r_cmp ?_; refine r_var (by assumption) ?_; refine v_cmp ?_; refine r_s rfl ?_
  refine c_nesame (C9.hp.ext x8) (hk.ext x8) dOk_plan ?_
  refine v_b ?_; refine v_iff ?_; refine s_nil ?_
  exact law_loop V C9 x8 k7 (e11 _ _ B7) ⟨by (repeat (first | with_reducible exact l_here | assumption | refine l_there rfl ?_ | with_reducible refine l_bind ?_ | with_reducible refine l_bind0 ?_)), by (repeat (first | with_reducible exact l_here | assumption | refine l_there rfl ?_ | with_reducible refine l_bind ?_ | with_reducible refine l_bind0 ?_)), by (repeat (first | with_reducible exact l_here | assumption | refine l_there rfl ?_ | with_reducible refine l_bind ?_ | with_reducible refine l_bind0 ?_)), by (repeat (first | with_reducible exact l_here | assumption | refine l_there rfl ?_ | with_reducible refine l_bind ?_ | with_reducible refine l_bind0 ?_)), by (repeat (first | with_reducible exact l_here | assumption | refine l_there rfl ?_ | with_reducible refine l_bind ?_ | with_reducible refine l_bind0 ?_)), by (repeat (first | with_reducible exact l_here | assumption | refine l_there rfl ?_ | with_reducible refine l_bind ?_ | with_reducible refine l_bind0 ?_))⟩ (by (repeat (first | with_reducible exact l_here | assumption | refine l_there rfl ?_ | with_reducible refine l_bind ?_ | with_reducible refine l_bind0 ?_))) hQ
theorem law_spec (V : Env F g) {d l : Nat} {ns : List Int} {σ : Sto} {Q : KV} {er : String → Sto → Prop} (hσ : σ l = some (.ro (ns.map .int))) (hl : ns.length ≤ 63) (hQ : ∀ σ', Q (.bool true) σ') : wpSs (F (d + 8)) (g.at false er) d_law.2 (bindT d_law.1 [.ref l] fun o' => none) σ (Kq Q) := by
  have l0 := V.l0
  have l4 := V.l4
  have l5 := V.l5
  have l8 := V.l8
  have ld := V.ld
  show wpSs (F (d + 8)) (g.at false er) (St.assign "_law_house_here" _ :: St.assign "_law_guess_here" _ :: St.assign "_law_plan" _ :: St.if_ _ _ _ :: d_law.2.drop 4) (bindT ["_law_script"] [.ref l] fun o' => none) σ (Kq Q)
  refine s_cons ?_; refine s_assign ?_; refine r_calln (FnOk.cf (by assumption)) ?_; refine r_ss rfl ?_
  refine law_house_spec V.l0 V.l2 V.l3 V.l4 (d := d + 5) hσ hl fun many L D Wd vh σ1 e1 ok hh => ?_
  refine Classical.byContradiction fun hG => ?_
  obtain ⟨ah, al, yd, aw0, hah, hL, hD, hw⟩ := house_at hh
  obtain ⟨ad, xd, had, hxd⟩ := has_list hD
  refine hG ?_
  clear hG
  have hdl := hxd.len
  refine v_asgn ?_; refine t_assign ?_; refine r_calln (FnOk.cf (by assumption)) ?_; refine r_cons ?_; refine r_s rfl ?_; refine v_cons ?_; refine r_cons ?_; refine r_bcall rfl ?_; refine r_cons ?_; refine r_sub ?_; refine r_s rfl ?_; refine v_sub1 ?_; refine r_s rfl ?_
  refine subt 0 hah rfl ?_
  refine v_cons ?_; refine r_ss rfl ?_; refine v_push ?_; refine v_len (by assumption) ?_; refine v_cons ?_; refine r_ss rfl ?_; refine v_push ?_; refine v_push ?_
  rw [List.length_map, ok.looks.1]
  refine guess_spec V.l0 V.l5 (d := d + 6) (e1 _ _ hσ) hl ok.many1 ok.many8 fun G ga σ2 e2 hG g0 hg => ?_
  refine v_asgn ?_; refine t_assign ?_; refine r_calln (FnOk.cf (by assumption)) ?_; refine r_cons ?_; refine r_s rfl ?_; refine v_cons ?_; refine r_cons ?_; refine r_sub ?_; refine r_s rfl ?_; refine v_sub1 ?_; refine r_s rfl ?_
  refine subt 0 (e2 _ _ hah) rfl ?_
  refine v_cons ?_; refine r_cons ?_; refine r_bcall rfl ?_; refine r_cons ?_; refine r_sub ?_; refine r_s rfl ?_; refine v_sub1 ?_; refine r_s rfl ?_
  refine subt 1 (e2 _ _ hah) rfl ?_
  refine v_cons ?_; refine r_ss rfl ?_; refine v_push ?_
  refine b_len (e2 _ _ had) ?_
  rw [hdl]
  have hc := ok.count
  refine law_rows_spec V.l0 V.l7 V.l8 (d := d + 6) ((e1.trans e2) _ _ hσ) hl (e2 _ _ hL) (by lia) (by lia) fun S R vp σ3 e3 hp good hlen => ?_
  have E3 := (e1.trans e2).trans e3
  refine v_asgn ?_; refine t_if ?_; refine r_cmp ?_; refine r_bin ?_; refine r_bin ?_; refine r_calln (FnOk.cf (by assumption)) ?_; refine r_ss rfl ?_
  refine cell_any l0 (E3 _ _ hσ) hl fun c1 σ4 e4 => ?_
  refine v_bin ?_; refine r_s rfl ?_; refine v_fdiv rfl ?_; refine v_bin ?_; refine r_s rfl ?_; refine v_mod rfl ?_; refine v_cmp ?_; refine r_s rfl ?_; refine v_eq ?_
  refine i_dec (fun q => ?_) fun q => ?_
  · refine s_cons ?_; refine s_unpack rfl ?_; refine r_calln (FnOk.cf (by assumption)) ?_; refine r_cons ?_; refine r_calln (FnOk.cf (by assumption)) ?_; refine r_ss rfl ?_
    refine cell_any l0 ((E3.trans e4) _ _ hσ) hl fun c2 σ5 e5 => ?_
    refine v_cons ?_; refine r_cons ?_; refine r_calln (FnOk.cf (by assumption)) ?_; refine r_ss rfl ?_
    refine cell_any l0 ((E3.trans (e4.trans e5)) _ _ hσ) hl fun c3 σ6 e6 => ?_
    refine crossed_spec V fun a vh' ga' vp' L' D' Wd' G' S' R' σ7 e7 ha ok' hh' hG' g0' hg' hp' good' hlen' => ?_
    refine u_seq ha rfl ?_
    exact law_mid V ((E3.trans (e4.trans (e5.trans (e6.trans e7)))) _ _ hσ) hl ok' hh' hG' g0' hg' hp' good' hlen' (by (repeat (first | with_reducible exact l_here | assumption | refine l_there rfl ?_ | with_reducible refine l_bind ?_ | with_reducible refine l_bind0 ?_))) (by (repeat (first | with_reducible exact l_here | assumption | refine l_there rfl ?_ | with_reducible refine l_bind ?_ | with_reducible refine l_bind0 ?_))) (by (repeat (first | with_reducible exact l_here | assumption | refine l_there rfl ?_ | with_reducible refine l_bind ?_ | with_reducible refine l_bind0 ?_))) (by (repeat (first | with_reducible exact l_here | assumption | refine l_there rfl ?_ | with_reducible refine l_bind ?_ | with_reducible refine l_bind0 ?_))) hQ
  · refine s_nil ?_
    exact law_mid V ((E3.trans e4) _ _ hσ) hl ok (hh.ext (e2.trans (e3.trans e4))) hG g0 ((e3.trans e4) _ _ hg) (hp.ext e4) good hlen (by (repeat (first | with_reducible exact l_here | assumption | refine l_there rfl ?_ | with_reducible refine l_bind ?_ | with_reducible refine l_bind0 ?_))) (by (repeat (first | with_reducible exact l_here | assumption | refine l_there rfl ?_ | with_reducible refine l_bind ?_ | with_reducible refine l_bind0 ?_))) (by (repeat (first | with_reducible exact l_here | assumption | refine l_there rfl ?_ | with_reducible refine l_bind ?_ | with_reducible refine l_bind0 ?_))) (by (repeat (first | with_reducible exact l_here | assumption | refine l_there rfl ?_ | with_reducible refine l_bind ?_ | with_reducible refine l_bind0 ?_))) hQ
end BP

namespace BP
open PySem PyProof.Rows
theorem fnB_at {K : W.Frag} {h : Heap} {mg : Str → Option Value} {x : String} {fa : Addr} {df : List String × List St} (X : K.In h) (g : h.Ns mainGlobals mg) (hm : mg (Str.ofString x) = some (.ref fa)) (e : fnB K x df = true) : fdB K fa df = true := by
  obtain ⟨a, q, e⟩ := any_of e
  cases hm.symm.trans (refB_mg X g q)
  exact e
theorem fnOk_of {G : Gd} {fns : List (String × (List String × List St))} (h : okB G.K fns = true) {f : String} {df : List String × List St} (hf : (f, df) ∈ fns) (hc : G.fns.contains f = true) : FnOk (WF G) (G.gv false fun o' o' => False) f df := by
  have := List.all_eq_true.mp h _ hf
  rw [Bool.and_eq_true] at this
  exact ⟨hc, fun d hd er vs σ Q hl hw => fnB_ok this.1 hl hw⟩
theorem clsOk_of {G : Gd} {x : String} {df : List String × List St} (h : clsOkB G.K x df = true) (hc : G.cls x = refB G.K x) (hf : G.fns.contains x = true) : ClsOk (WF G) (G.gv false fun o' o' => False) x df :=
  let ⟨C, q, h⟩ := any_of h
  ⟨hf, fun d hd er vs σ Q hl hw => makeB_ok q (hc.trans q) (and3 h).1.2 hl hw⟩
theorem intB_gv {G : Gd} {hd : Bool} {er : String → Sto → Prop} {x : String} {i : Int} (e : intB G.K x i = true) : (G.gv hd er).gv x = some (.int i) := by
  obtain ⟨o, q, e⟩ := any_of e
  obtain ⟨v, rfl, h⟩ := any_of e
  show (G.mg (Str.ofString x)).bind vval = _
  rw [W.mg_of G.kin G.g q]
  exact of_decide_eq_true h
noncomputable def lawGd (prog : Program) (w : World) (s : Shared) (mg mb : Str → Option Value) (K : W.Frag) (KX : K.In s.heap) (g : s.heap.Ns mainGlobals mg) (b : s.heap.Ns builtinsNs mb) (bi : ∀ x : Str, x ≠ "__name__" → mb x = bootBuiltins x) (nl : s.heap.NoLimit)
    (hfree : bNames.all (freeB K) = true) (fns : List (String × (List String × List St))) (hok : okB K fns = true) (hxs : excsB K excNames = true) (dH : List String × List St) (hH : clsOkB K "House" dH = true) (hmods : (K.lookup sysModules).isSome = true) : Gd :=
  mkGd prog w s mg mb K KX g b bi nl hfree ("House" :: fns.map (·.1))
    (by
      rw [List.all_cons, Bool.and_eq_true]
      refine ⟨?_, ?_⟩
      · obtain ⟨C, q, h⟩ := any_of hH
        exact (and2 h).2
      · rw [List.all_map, List.all_eq_true]
        intro p hp
        have := List.all_eq_true.mp hok p hp
        rw [Bool.and_eq_true] at this
        exact this.2)
    excNames hxs (fun c => if c = "House" then refB K "House" else none)
    (fun c C h => by
      split at h
      · obtain ⟨D, q, hH⟩ := any_of hH
        cases h.symm.trans q
        exact (and3 hH).1.1
      · cases h)
    hmods
theorem lawGd_ex {G : Gd} {xs : List String} (hxs : excsB G.K xs = true) (hx : ∀ c, G.exc c = if xs.contains c then refB G.K c else none) {hd : Bool} {er : String → Sto → Prop} : ∀ c ∈ xs, (G.gv hd er).ex c = true := by
  intro c hc
  show (G.exc c).isSome = true
  rw [hx c, if_pos (by simpa using hc)]
  have := List.all_eq_true.mp hxs c hc
  cases q : refB G.K c with
  | none => rw [q] at this; cases this
  | some C => rfl
theorem ro_list {G : Gd} {s : Shared} {l : Addr} {vs : List Value} {ns : List Int} (hL : s.heap.IsList l vs.toArray) (hI : IntsAre vs ns) (hn : ns.length ≤ 63) : ∀ a ob, (fun x => if x = l then some (Ob.ro (ns.map .int)) else none : Sto) a = some ob → ob.isRo = true ∧ ∃ o, s.heap.get? a = some o ∧ ObR G ob o := by
  intro a ob h
  dsimp only at h
  split at h
  · rename_i q
    subst q
    cases h
    obtain ⟨o, ho, hc, n, hd⟩ := hL
    refine ⟨rfl, o, ho, _, n, hc, hd, ?_, by simp [lim]; lia⟩
    exact VsR.of_ints hI
  · cases h
theorem law_end {c : W.ClaimW} {cl : Str → Option Addr} {mean : PySem.ExcName → Option Value} {args : List W.WData} {s₁ : Shared} {G : Gd} (hb : G.base = s₁.heap) (ho : s₁.os = G.os) (hg' : s₁.gens = G.gens) (hg : s₁.gens = #[]) {fa l : Addr} {df : List String × List St} (H : fdB G.K fa df = true) (hlen : df.1.length = 1) {vs : List Value} {ns : List Int} (hL : s₁.heap.IsList l vs.toArray) (hI : IntsAre vs ns) (hn : ns.length ≤ 63)
    (hw : wpSs (WF G 20) (G.gv false fun o' o' => False) df.2 (bindT df.1 [.ref l] fun o' => none) (fun x => if x = l then some (.ro (ns.map .int)) else none) (Kh fun v o' => v = .bool true))
    (hr : ∀ cls, c.raises args cls = false) (hp : ∀ h : Heap, ∃ d, W.ReadsW c.records cl h (.bool true) d [] ∧ c.post args d args = true) :
    wpAny (model G.prog G.w) callerA (PySem.call (.ref fa) [.ref l]) (fun v s' => W.GoodWG c cl mean args s₁ (.ok (.ret v)) s') (fun e s' => W.GoodWG c cl mean args s₁ (.error e) s') s₁ := by
  refine W.enter_call ?_
  refine top_call (vs := [.ref l]) hb ho hg' H (d := 20) (by decide) (by simp [hlen]) (ro_list hL hI hn) hw (show VsR [.ref l] [.ref l] from rfl) ?_
  intro s' hk hos hgs
  obtain ⟨d, h1, h2⟩ := hp s'.heap
  exact W.GoodW.toG ⟨.inl ⟨_, d, [], rfl, hr, h1, h2, fun o' => ⟨.nil, fun a ha => by cases ha⟩⟩, hk, hos, hgs.trans hg⟩
end BP

open PySem PySem.W PyProof.Rows
set_option Elab.async false
set_option maxRecDepth 100000 in
set_option maxHeartbeats 8000000 in
theorem PySem.Challenge.cw_uf020010_05_holds : PySem.Challenge.rw_uf020010_05.Holds := by
  refine BP.head05 ?_
  intro w s₀ s₁ mg mb G Y fa o pm cd doc dV kV ho hd hcd hD hmg hg args vals as hpre hlay hrd hwl hlo
  obtain ⟨K, KX, FF⟩ := BP.cHook_says Y
  clear ho hd hcd hD
  refine Ground.open G ?_
  intro T B D TE TW
  wrow_args hpre hlay hrd hwl hlo
  rename_i ns _ _ _ _ _ _ _ l vs _ hL _ _ _ hI _ hlen _
  have hmg' : mg (Str.ofString "law") = some (.ref fa) := hmg
  clear hmg
  simp only [BP.chk05, Bool.and_eq_true] at FF
  obtain ⟨F1, F2, F3, F4, F5, F6, F7, F8, F9, FA⟩ := FF
  let GD := BP.lawGd rw_uf020010_05.row.prog w s₁ mg mb _ KX T.g T.b T.builtins T.nolimit F1 BP.fns05 F2 F9 BP.d_House_init F3 FA
  have fk : ∀ (k : Nat) {f df}, BP.fns05[k]? = some (f, df) → BP.FnOk (BP.WF GD) (GD.gv false fun o' o' => False) f df := fun k {f df} hk => BP.fnOk_of (G := GD) (fns := BP.fns05) F2 (List.mem_of_getElem? hk) (by
    show ("House" :: BP.fns05.map (·.1)).contains f = true
    rw [List.contains_eq_mem, decide_eq_true_eq]
    exact List.mem_cons_of_mem _ (List.mem_map.mpr ⟨_, List.mem_of_getElem? hk, rfl⟩))
  have ck : BP.ClsOk (BP.WF GD) (GD.gv false fun o' o' => False) "House" BP.d_House_init := BP.clsOk_of (G := GD) F3 rfl rfl
  have hx := BP.lawGd_ex (G := GD) F9 (fun o' => rfl) (hd := false) (er := fun o' o' => False)
  refine BP.law_end (G := GD) rfl rfl rfl hg (BP.fnB_at KX T.g hmg' F4) rfl hL hI (by omega) ?_ ?_ ?_
  · exact BP.law_spec (F := BP.WF GD) (g := GD.gv false fun o' o' => False) (er := fun o' o' => False) (d := 12) (ns := ns) ⟨BP.intB_gv (G := GD) F5, BP.intB_gv (G := GD) F6, BP.intB_gv (G := GD) F7, BP.intB_gv (G := GD) F8, hx _ (.head _), fun c hc => hx c (List.mem_cons_of_mem _ hc), fk 0 rfl, fk 1 rfl, fk 2 rfl, ck, fk 3 rfl, fk 4 rfl, fk 5 rfl, fk 6 rfl, fk 7 rfl, fk 8 rfl, fk 9 rfl, fk 10 rfl, fk 11 rfl, fk 12 rfl, fk 13 rfl, fk 14 rfl, fk 15 rfl, fk 16 rfl, fk 17 rfl, fk 18 rfl, fk 19 rfl, fk 20 rfl, fk 21 rfl, fk 22 rfl, fk 23 rfl, fk 24 rfl, fk 25 rfl, fk 26 rfl, fk 27 rfl, fk 28 rfl, fk 29 rfl, fk 30 rfl, fk 31 rfl⟩
      (σ := fun x => if x = l then some (.ro (ns.map .int)) else none) (by simp) (by omega) fun o' => rfl
  · intro cls; rfl
  · intro h; exact ⟨.bool true, .bool true, by first | rfl | kernel_rfl⟩
