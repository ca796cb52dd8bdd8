import PyProof.Rows.All
import Wide.All
import OpenK.AllK
import Wide.FinOn
import HandS.ForMost
import PyProof.Rows.SetFrom
import HandS.Strs
import HandS.Set
import HandS.TupAny
import HandS.TupMul
import PyProof.StrOps2
import HandS.SortInts
import HandS.Deep
import HandS.Style
import HandS.Flt
import HandS.IsInst
import HandS.Defaults
import HandS.Flow
import HandS.Conv
import HandS.SortKw
import HandS.SetFor
import PyProof.Rows.SortShellAny
import KE.DatumOrd
import HandS.TupSets
import HandS.HeadHook3
import PyProof.Rows.StrTemp
import KE.KTupSum
import PySem.Challenge.RW_lostelder_k40_alignments_are_least
import KE.KStateDown
import HandS.Words
import HandS.Head0
import HandS.Head1
import HandS.Head2
import HandS.HeadEnd
import HandS.HeadHook1
import HandS.HeadHook2
set_option Elab.async false
set_option linter.all false
set_option maxRecDepth 100000
/-! DL0: the different ones of a row. -/
namespace DL
def addK {K : Type} [DecidableEq K] (acc : List K) (k : K) : List K := if k ∈ acc then acc else acc ++ [k]
def ddK {K : Type} [DecidableEq K] (xs : List K) : List K := xs.foldl addK []
end DL

set_option Elab.async false
set_option linter.all false
set_option maxRecDepth 100000
set_option maxHeartbeats 4000000
/-! DLset: set(xs) of a list or a tuple whose items are keys of any kind; how many it has. -/
namespace DL
open PySem PySem.Spec PyProof.Rows L2

def memK {K : Type} [DecidableEq K] (xs : List K) (k : K) : Bool := decide (k ∈ ddK xs)
section
variable {K : Type} [DecidableEq K]
theorem ddK_snoc (xs : List K) (k : K) : ddK (xs ++ [k]) = addK (ddK xs) k := by
  unfold ddK
  rw [List.foldl_append]
  rfl
theorem mem_addK (acc : List K) (k x : K) : x ∈ addK acc k ↔ x ∈ acc ∨ x = k := by
  unfold addK
  split
  · rename_i h
    exact ⟨.inl, fun z => z.elim id fun z => z ▸ h⟩
  · simp
theorem ddK_len (xs : List K) : (ddK xs).length ≤ xs.length := by
  have key : ∀ (xs acc : List K), (xs.foldl addK acc).length ≤ acc.length + xs.length := by
    intro xs
    induction xs with
    | nil => exact fun acc => Nat.le_refl _
    | cons x xs ih =>
      intro acc
      have h1 := ih (addK acc x)
      have h2 : (addK acc x).length ≤ acc.length + 1 := by
        unfold addK
        split <;> simp
      rw [List.foldl_cons, List.length_cons]
      omega
  simpa [ddK] using key xs []
end
def newS (led : Bool) : Obj := { cls := .type "set", dict := none, data := .set #[] 0 (.fresh 0 0 led) }
section
variable {prog : Program} {w : World} {K : Type} [DecidableEq K] {knd : KeyKind prog w K}
section
variable {A : Around} {R : Result → Shared → Prop} {It : Addr} {fp wr : List Addr} {G : Array GenState → Array GenState → Prop} {n : Nat} {P : Nat → Value → Prop} {St : Nat → Shared → Prop}
theorem set_loopK (W : WalksS prog w A.in1 It fp wr G n P St) (T : Addr) (hT : T ∉ fp) (ks : List K) (hz : ks.length = n) (hb : n + 1 < scanBound)
    (hv : ∀ i v, P i v → ∃ k, ks[i]? = some k ∧ knd.is k v = true ∧ v.scannable = true) :
    ∀ (j i : Nat) (st : Shared), n - i = j → i ≤ n → St i st →
      st.heap.SetOf knd T (fun k => decide (k ∈ ddK (ks.take i))) (ddK (ks.take i)).length →
      (∀ st', Moved (T :: wr) G st st' → st'.heap.SetOf knd T (fun k => decide (k ∈ ddK (ks.take n))) (ddK (ks.take n)).length → R (.ok (.ret .none)) st') →
      codeAny (model prog w) A (.builtin "set.update.loop" ⟨[.ref T, .ref It], []⟩) R st := by
  have hTw : T ∉ wr := fun h => hT (W.sub _ h)
  have sub1 : ∀ b ∈ wr, b ∈ T :: wr := fun b hb => List.mem_cons_of_mem _ hb
  intro j
  induction j with
  | zero =>
    intro i st hk hi hst hS hR
    obtain rfl : i = n := by omega
    refine codeAny_builtin PyProof.Rows.F.entry_set_update_loop ?_
    rw [Around.under_plainId PyProof.Rows.F.plain_set_update_loop _]
    show wpAny _ A.in1 (pyNext (.ref It) >>= _) _ _ st
    refine wpAny_bind (W.done st _ _ hst fun st' hm => ?_)
    show wpAny _ A.in1 (ret Value.none) _ _ st'
    exact wpAny_pure (hR st' (hm.mono sub1) (by
      obtain ⟨o, es, ep, t, ho, rest⟩ := hS
      exact ⟨o, es, ep, t, hm.heap T _ hTw ho, rest⟩))
  | succ j ih =>
    intro i st hk hi hst hS hR
    have hlt : i < n := by omega
    refine codeAny_builtin PyProof.Rows.F.entry_set_update_loop ?_
    rw [Around.under_plainId PyProof.Rows.F.plain_set_update_loop _]
    show wpAny _ A.in1 (pyNext (.ref It) >>= _) _ _ st
    refine wpAny_bind (W.item i st _ _ hlt hst fun v st' hP hst' hm => ?_)
    obtain ⟨k, ek, hkey, hsc⟩ := hv i v hP
    have hS1 : st'.heap.SetOf knd T (fun k => decide (k ∈ ddK (ks.take i))) (ddK (ks.take i)).length := by
      obtain ⟨o, es, ep, tb, ho, rest⟩ := hS
      exact ⟨o, es, ep, tb, hm.heap T _ hTw ho, rest⟩
    show wpAny _ A.in1 (holding [v] (setAdd T v) >>= _) _ _ st'
    refine wpAny_bind (wpAny_holding ?_)
    unfold setAdd
    refine wpAny_holding (wpAny_bind (knd.pyHash hkey ?_))
    have room : (ddK (ks.take i)).length + 1 < scanBound := by
      have := ddK_len (ks.take i)
      rw [List.length_take] at this
      omega
    have eT : ks.take (i + 1) = ks.take i ++ [k] := by
      obtain ⟨h1, h2⟩ := List.getElem?_eq_some_iff.mp ek
      rw [List.take_succ_eq_append_getElem h1, h2]
    refine wpAny_setAddHashed_of (knd := knd) (s := { st' with toks := st'.toks + 1 }) hkey hsc hS1 room fun h' hsb hS2 => ?_
    have hS3 : h'.SetOf knd T (fun k => decide (k ∈ ddK (ks.take (i + 1)))) (ddK (ks.take (i + 1))).length := by
      have ef : (fun x => (decide (x ∈ ddK (ks.take i)) || decide (x = k))) = fun x => decide (x ∈ ddK (ks.take (i + 1))) := by
        funext x
        rw [eT, ddK_snoc, Bool.eq_iff_iff, Bool.or_eq_true, decide_eq_true_eq, decide_eq_true_eq, decide_eq_true_eq, mem_addK]
      have en : (if decide (k ∈ ddK (ks.take i)) = true then (ddK (ks.take i)).length else (ddK (ks.take i)).length + 1) = (ddK (ks.take (i + 1))).length := by
        rw [eT, ddK_snoc]
        unfold addK
        by_cases hm : k ∈ ddK (ks.take i)
        · rw [if_pos (decide_eq_true hm), if_pos hm]
        · rw [if_neg (by rw [decide_eq_false hm]; exact Bool.false_ne_true), if_neg hm, List.length_append]
          rfl
      rw [← ef, ← en]
      exact hS2
    refine wpAny_pure ⟨plainId_quiet PyProof.Rows.F.plain_set_update_loop _, ih (i + 1) _ (by omega) hlt (W.frame _ st' _ _ hst' (Nat.le_succ _) fun b hb o e => ?_) hS3 fun st2 hm2 hS4 => ?_⟩
    · rw [hsb.2 b (fun h : b = T => hT (by rw [← h]; exact hb))]
      exact e
    · refine hR st2 (Moved.trans W.gtrans ((hm.mono sub1).then_heap (Nat.le_succ _) fun b o hb e => ?_) hm2) hS4
      rw [hsb.2 b (fun h : b = T => hb (by rw [h]; exact List.mem_cons_self))]
      exact e
end
set_option maxHeartbeats 8000000 in
theorem call_setT {A : Around} {E : Value → Shared → Prop} {st : Shared} {src : Addr} {vs : Array Value} (ks : List K) {Q : Value → Shared → Prop} (free : A.handled = none) (hsrc : st.heap.IsTuple src vs) (hz : ks.length = vs.size) (hb : ks.length + 1 < scanBound)
    (hv : ∀ (i : Nat) (v : Value), vs[i]? = some v → ∃ k, ks[i]? = some k ∧ knd.is k v = true ∧ v.scannable = true)
    (h : ∀ (hp : Heap) (tk : Nat), hp.SetOf knd st.heap.objs.size (fun k => decide (k ∈ ddK ks)) (ddK ks).length → (∀ b o, b < st.heap.objs.size → st.heap.get? b = some o → hp.get? b = some o) → Q (.ref st.heap.objs.size) { st with heap := hp, toks := tk }) :
    wpAny (model prog w) A (call (.type "set") [.ref src]) Q E st := by
  obtain ⟨c, tl, hmro⟩ := PySem.F.called_set.mro
  have cs1 := PySem.F.called_set.made
  have cs2 := PySem.F.called_set.sub
  refine wpAny_call (codeAny_of_tree ?_)
  show wpAny (model prog w) _ (callAny (.type "set") _) _ _ st
  refine wpAny_pure ⟨Code.quiet_builtin _ (by decide +kernel), codeAny_builtin PySem.F.entry_type_call ?_⟩
  rw [Around.under_plain (weight_type_call_type "set" [.ref src] []) rfl]
  have cs3 := PySem.F.called_set.notType
  have cs4 := PySem.F.called_set.canCreate
  have cs5 := PySem.F.typeCall_set_1 (.ref src)
  repeat (any_goals (first | assumption | wp_step))
  refine codeAny_mono (code_set_new_1 (.ref src) (E := E) (Q₁ := fun obj s1 => ∃ led : Bool, obj = .ref st.heap.objs.size ∧ s1 = { st with heap := st.heap.push (newS led) }) fun led => ⟨led, rfl, rfl⟩) fun r s1 hr => ?_
  cases r with
  | error e => exact hr
  | ok fl =>
    cases fl with
    | ret obj =>
      obtain ⟨led, rfl, rfl⟩ := hr
      have gS : (st.heap.push (newS led)).get? st.heap.objs.size = some (newS led) := Heap.get?_push_size _ rfl
      have tS : Shared.TypeIs { st with heap := st.heap.push (newS led) } (.ref st.heap.objs.size) "set" := ⟨_, gS, rfl⟩
      have cs6 := PySem.F.called_set.init.lookup
      have cs7 := PySem.F.called_set.init.bind (.ref st.heap.objs.size)
      repeat (any_goals (first | assumption | wp_step))
      refine codeAny_mono (codeAny_call_builtin (R := wants (fun r s2 => r = .none ∧ ∃ hp tk, s2 = { st with heap := hp, toks := tk } ∧ hp.SetOf knd st.heap.objs.size (fun k => decide (k ∈ ddK ks)) (ddK ks).length ∧
          (∀ b o, b < st.heap.objs.size → st.heap.get? b = some o → hp.get? b = some o)) E) PySem.F.called_set.init.plain PySem.F.entry_set_init (check_set_init_1 tS ?_)) fun r2 s2 hr2 => ?_
      · obtain ⟨ol, hol, hcl, nl, hdl⟩ := hsrc
        obtain ⟨oc, od, oa, os⟩ := ol
        simp only at hcl hdl
        subst hcl; subst hdl
        have hol2 : (st.heap.push (newS led)).get? src = some { cls := .type "tuple", dict := od, data := .seq vs nl, slots := os } := Heap.get?_push_of_some _ hol
        have sb1 := PySem.F.sub_tuple_set
        have sb2 := PySem.F.sub_tuple_frozenset
        have neD : (Value.type "tuple" == Value.type "dict") = false := by decide
        have hl1 : (st.heap.push (newS led)).IsTuple src vs := ⟨_, hol2, rfl, nl, rfl⟩
        unfold Builtin.«set.__init__» noKeywords Builtin.Frozenset.updateFrom
        generalize hPI : pyIter = PI
        wp_walk
        subst hPI
        refine wpAny_pyIter_tuple hl1 (wpAny_bind (wpAny_runValue ?_))
        have ltS : src < st.heap.objs.size := Heap.lt_size hol
        have fr3 : A.in1.in1.in1.handled = none := by simp [free]
        have szN : (st.heap.push (newS led)).objs.size = st.heap.objs.size + 1 := Heap.size_push ..
        have neI : src ≠ (st.heap.push (newS led)).objs.size := by rw [szN]; exact Nat.ne_of_lt (Nat.lt_succ_of_lt ltS)
        have notF : st.heap.objs.size ∉ [(st.heap.push (newS led)).objs.size, src] := by
          rw [szN]
          simp only [List.mem_cons, List.not_mem_nil, or_false, not_or]
          exact ⟨Nat.ne_of_lt (Nat.lt_succ_self _), Nat.ne_of_gt ltS⟩
        refine set_loopK ((Walks.tuple fr3 _ src neI vs).toS) st.heap.objs.size notF ks hz (by omega) hv (vs.size - 0) 0 _ (by omega) (Nat.zero_le _) ⟨⟨_, Heap.get?_push_size _ rfl, rfl, rfl⟩, (hl1.push _)⟩ ?hS0 ?hR
        case hS0 =>
          have hget : ((st.heap.push (newS led)).push { cls := .type "tuple_iterator", data := .fields #[.ref src, .int 0 0] }).get? st.heap.objs.size = some (newS led) := Heap.get?_push_of_some _ gS
          exact PyProof.Rows.SetOf_congr ((PyProof.Rows.setObjOf_fresh (knd := knd) led).setOf hget (by unfold scanBound; omega)) (fun _ => rfl) rfl
        case hR =>
          intro s3 hm hS3
          obtain ⟨h3, g3, d3, t3, o3⟩ := s3
          have eg : g3 = st.gens := hm.gens
          have ed : d3 = st.drawn := hm.drawn
          have eo : o3 = st.os := hm.os
          subst eg; subst ed; subst eo
          refine wpAny_pure ?_
          show wpAny (model prog w) _ (ret Value.none) _ _ _
          rw [← hz, List.take_length] at hS3
          refine wpAny_pure ⟨rfl, h3, t3, rfl, hS3, fun b o hb e => ?_⟩
          refine hm.heap b o ?_ (Heap.get?_push_of_some _ (Heap.get?_push_of_some _ e))
          rw [szN]
          simp only [List.mem_cons, List.not_mem_nil, or_false, not_or]
          exact ⟨Nat.ne_of_lt hb, Nat.ne_of_lt (Nat.lt_succ_of_lt hb)⟩
      · cases r2 with
        | error e => exact hr2
        | ok fl2 =>
          cases fl2 with
          | ret r =>
            obtain ⟨rfl, hp, tk, rfl, hS3, keep⟩ := hr2
            repeat (any_goals (first | assumption | wp_step))
            exact h _ _ hS3 keep
          | _ => exact hr2.elim
    | _ => exact hr.elim
set_option maxHeartbeats 8000000 in
theorem call_setL {A : Around} {E : Value → Shared → Prop} {st : Shared} {src : Addr} {vs : Array Value} (ks : List K) {Q : Value → Shared → Prop} (free : A.handled = none) (hsrc : st.heap.IsList src vs) (hz : ks.length = vs.size) (hb : ks.length + 1 < scanBound)
    (hv : ∀ (i : Nat) (v : Value), vs[i]? = some v → ∃ k, ks[i]? = some k ∧ knd.is k v = true ∧ v.scannable = true)
    (h : ∀ (hp : Heap) (tk : Nat), hp.SetOf knd st.heap.objs.size (fun k => decide (k ∈ ddK ks)) (ddK ks).length → (∀ b o, b < st.heap.objs.size → st.heap.get? b = some o → hp.get? b = some o) → Q (.ref st.heap.objs.size) { st with heap := hp, toks := tk }) :
    wpAny (model prog w) A (call (.type "set") [.ref src]) Q E st := by
  obtain ⟨c, tl, hmro⟩ := PySem.F.called_set.mro
  have cs1 := PySem.F.called_set.made
  have cs2 := PySem.F.called_set.sub
  refine wpAny_call (codeAny_of_tree ?_)
  show wpAny (model prog w) _ (callAny (.type "set") _) _ _ st
  refine wpAny_pure ⟨Code.quiet_builtin _ (by decide +kernel), codeAny_builtin PySem.F.entry_type_call ?_⟩
  rw [Around.under_plain (weight_type_call_type "set" [.ref src] []) rfl]
  have cs3 := PySem.F.called_set.notType
  have cs4 := PySem.F.called_set.canCreate
  have cs5 := PySem.F.typeCall_set_1 (.ref src)
  repeat (any_goals (first | assumption | wp_step))
  refine codeAny_mono (code_set_new_1 (.ref src) (E := E) (Q₁ := fun obj s1 => ∃ led : Bool, obj = .ref st.heap.objs.size ∧ s1 = { st with heap := st.heap.push (newS led) }) fun led => ⟨led, rfl, rfl⟩) fun r s1 hr => ?_
  cases r with
  | error e => exact hr
  | ok fl =>
    cases fl with
    | ret obj =>
      obtain ⟨led, rfl, rfl⟩ := hr
      have gS : (st.heap.push (newS led)).get? st.heap.objs.size = some (newS led) := Heap.get?_push_size _ rfl
      have tS : Shared.TypeIs { st with heap := st.heap.push (newS led) } (.ref st.heap.objs.size) "set" := ⟨_, gS, rfl⟩
      have cs6 := PySem.F.called_set.init.lookup
      have cs7 := PySem.F.called_set.init.bind (.ref st.heap.objs.size)
      repeat (any_goals (first | assumption | wp_step))
      refine codeAny_mono (codeAny_call_builtin (R := wants (fun r s2 => r = .none ∧ ∃ hp tk, s2 = { st with heap := hp, toks := tk } ∧ hp.SetOf knd st.heap.objs.size (fun k => decide (k ∈ ddK ks)) (ddK ks).length ∧
          (∀ b o, b < st.heap.objs.size → st.heap.get? b = some o → hp.get? b = some o)) E) PySem.F.called_set.init.plain PySem.F.entry_set_init (check_set_init_1 tS ?_)) fun r2 s2 hr2 => ?_
      · obtain ⟨ol, hol, hcl, nl, hdl⟩ := hsrc
        obtain ⟨oc, od, oa, os⟩ := ol
        simp only at hcl hdl
        subst hcl; subst hdl
        have hol2 : (st.heap.push (newS led)).get? src = some { cls := .type "list", dict := od, data := .seq vs nl, slots := os } := Heap.get?_push_of_some _ hol
        have sb1 := PySem.F.sub_list_set
        have sb2 := PySem.F.sub_list_frozenset
        have neD : (Value.type "list" == Value.type "dict") = false := by decide
        have hl1 : (st.heap.push (newS led)).IsList src vs := ⟨_, hol2, rfl, nl, rfl⟩
        unfold Builtin.«set.__init__» noKeywords Builtin.Frozenset.updateFrom
        generalize hPI : pyIter = PI
        wp_walk
        subst hPI
        refine wpAny_pyIter_list hl1 (wpAny_bind (wpAny_runValue ?_))
        have ltS : src < st.heap.objs.size := Heap.lt_size hol
        have fr3 : A.in1.in1.in1.handled = none := by simp [free]
        have szN : (st.heap.push (newS led)).objs.size = st.heap.objs.size + 1 := Heap.size_push ..
        have neI : src ≠ (st.heap.push (newS led)).objs.size := by rw [szN]; exact Nat.ne_of_lt (Nat.lt_succ_of_lt ltS)
        have notF : st.heap.objs.size ∉ [(st.heap.push (newS led)).objs.size, src] := by
          rw [szN]
          simp only [List.mem_cons, List.not_mem_nil, or_false, not_or]
          exact ⟨Nat.ne_of_lt (Nat.lt_succ_self _), Nat.ne_of_gt ltS⟩
        refine set_loopK ((Walks.list fr3 _ src neI vs).toS) st.heap.objs.size notF ks hz (by omega) hv (vs.size - 0) 0 _ (by omega) (Nat.zero_le _) ⟨⟨_, Heap.get?_push_size _ rfl, rfl, rfl⟩, (hl1.push _)⟩ ?hS0 ?hR
        case hS0 =>
          have hget : ((st.heap.push (newS led)).push { cls := .type "list_iterator", data := .fields #[.ref src, .int 0 0] }).get? st.heap.objs.size = some (newS led) := Heap.get?_push_of_some _ gS
          exact PyProof.Rows.SetOf_congr ((PyProof.Rows.setObjOf_fresh (knd := knd) led).setOf hget (by unfold scanBound; omega)) (fun _ => rfl) rfl
        case hR =>
          intro s3 hm hS3
          obtain ⟨h3, g3, d3, t3, o3⟩ := s3
          have eg : g3 = st.gens := hm.gens
          have ed : d3 = st.drawn := hm.drawn
          have eo : o3 = st.os := hm.os
          subst eg; subst ed; subst eo
          refine wpAny_pure ?_
          show wpAny (model prog w) _ (ret Value.none) _ _ _
          rw [← hz, List.take_length] at hS3
          refine wpAny_pure ⟨rfl, h3, t3, rfl, hS3, fun b o hb e => ?_⟩
          refine hm.heap b o ?_ (Heap.get?_push_of_some _ (Heap.get?_push_of_some _ e))
          rw [szN]
          simp only [List.mem_cons, List.not_mem_nil, or_false, not_or]
          exact ⟨Nat.ne_of_lt hb, Nat.ne_of_lt (Nat.lt_succ_of_lt hb)⟩
      · cases r2 with
        | error e => exact hr2
        | ok fl2 =>
          cases fl2 with
          | ret r =>
            obtain ⟨rfl, hp, tk, rfl, hS3, keep⟩ := hr2
            repeat (any_goals (first | assumption | wp_step))
            exact h _ _ hS3 keep
          | _ => exact hr2.elim
    | _ => exact hr.elim
end
end DL

set_option Elab.async false
set_option linter.all false
set_option maxRecDepth 100000
/-! DL1: data by value (D), how a value of the abstract heap stands for it (Dat), the small language E, S and what it means. -/
namespace DL
open PySem PySem.Spec PyProof.Rows L2

/-! ### data -/
inductive D where
  | non | bl (b : Bool) | int (i : Int) | str (s : Str) | tup (xs : List D) | lst (xs : List D) | dic (ks vs : List D) | tape (k : Bool)

/-- the law's source of numbers: a list of a counter and a list, or a dict; or none -/
inductive Tape where
  | no | st (p c : Addr) | tp (p c : Addr)
def Tape.own : Tape → List Addr
  | .no => []
  | .st p c => [p, c]
  | .tp p c => [p, c]
def Tape.at : Tape → V
  | .no => .non
  | .st p _ => .ref p
  | .tp p _ => .ref p
/-- its kind: true for the dict -/
def Tape.kd : Tape → Option Bool
  | .no => none
  | .st _ _ => some false
  | .tp _ _ => some true
def Tape.ok (T : Tape) (H : Hp) : Prop := match T with
  | .no => True
  | .st p c => p ≠ c ∧ ∃ (n : Int) (ns : List Int), ns ≠ [] ∧ H p = some (.lst [.int n, .ref c]) ∧ H c = some (.lst (ns.map V.int))
  | .tp p c => p ≠ c ∧ ∃ (a b s : Int) (ns : List Int), 0 ≤ a ∧ 0 ≤ b ∧ H p = some (.dK [(.inr "cells", .ref c), (.inr "at", .int a), (.inr "big", .int b), (.inr "seed", .int s)]) ∧ H c = some (.lst (ns.map V.int))

/-- the heap without the addresses of O -/
def res (H : Hp) (O : List Addr) : Hp := fun a => if a ∈ O then none else H a

section
variable (K : PySem.W.Frag) (T : Tape)
mutual
def Dat (H : Hp) : D → V → Prop
  | .non, v => v = .non
  | .bl b, v => v = .bl b
  | .int i, v => v = .int i
  | .str s, v => v = .str s ∧ s.cps.size ≤ 16777216 ∧ PyData.strOk s = true
  | .tup ds, v => ∃ a xs, v = .ref a ∧ SqT K H a xs ∧ xs.length ≤ 16777216 ∧ Dats H ds xs
  | .lst ds, v => ∃ a xs, v = .ref a ∧ H a = some (.lst xs) ∧ xs.length ≤ 16777216 ∧ Dats H ds xs
  | .dic ks vs, v => ∃ a kvs, v = .ref a ∧ H a = some (.dK kvs) ∧ Dats H ks (kvs.map fun p => kV p.1) ∧ Dats H vs (kvs.map fun p => p.2)
  | .tape k, v => v = T.at ∧ T.kd = some k
def Dats (H : Hp) : List D → List V → Prop
  | [], vs => vs = []
  | d :: ds, vs => ∃ v r, vs = v :: r ∧ Dat H d v ∧ Dats H ds r
end
end

/-! ### places -/
inductive Sl where
  | no | sh (d : D) | ow (d : D) | nw (rows : List (List D)) (as : List Addr)
abbrev DEnv := List Sl
def Sl.val : Sl → Option D
  | .no => none
  | .sh d => some d
  | .ow d => some d
  | .nw rows _ => some (.lst (rows.map .lst))
def rdv (env : DEnv) (i : Nat) : Option D := match env[i]? with
  | some s => s.val
  | none => none

/-! ### the small language -/
abbrev DSpec := List D → (D → Prop) → Prop

inductive Ty where
  | int | bool | str | tuple | list | dict
  deriving DecidableEq
def Ty.name : Ty → String
  | .int => "int" | .bool => "bool" | .str => "str" | .tuple => "tuple" | .list => "list" | .dict => "dict"

inductive Bf where
  | len | abs | int | str | all | any | sum | max | min | sorted | tuple | list | ord
  deriving DecidableEq
inductive Mf where
  | join | index | get | count
  deriving DecidableEq

/-- where a name stands: the def's names, its scope, names that may be stored -/
structure Ctx where
  N : List Str
  sc : Scope
  fn : Str → Bool
structure DEnds where
  nx : DEnv → Prop
  rt : D → Prop
  bk : DEnv → Prop := fun _ => False
  ct : DEnv → Prop := fun _ => False

inductive E where
  | nil | cons (a b : E)
  | var (i : Nat)
  | non | bl (b : Bool) | int (i : Int) | str (s : Str)
  | glob (x : Str) (d : D)
  | bin (o : Operator) (a b : E) | neg (a : E)
  | cmp (o : CmpOp) (a b : E) | chain (o p : CmpOp) (a b c : E)
  | andd (a b : E) | orr (a b : E) | nott (a : E) | ite (c a b : E)
  | tup (es : E) | lst (es : E)
  | ix (a b : E) | sl (a lo hi : E)
  | call (f : Str) (sp : DSpec) (es : E)
  | bf (f : Bf) (es : E)
  | lenset (a : E)
  | mt (m : Mf) (o es : E)
  | isin (a : E) (ts : List Ty)
  | lc (own : List (Str × Nat)) (elt tg it cond : E)
  | lc2 (own : List (Str × Nat)) (elt tg it cond tg2 it2 cond2 : E)
  | r1 (a : E) | r2 (a b : E) | r3 (a b c : E)
  | raw (look : Ctx → Expr → Bool) (sm : DEnv → (D → Prop) → Prop) (vs : List Nat) (fr : Bool)

inductive S where
  | nil | cons (s r : S)
  | pass | brk | cont
  | asg (i : Nat) (e : E)
  | asg2 (i j : Nat) (a b : E)
  | asgT (tg e : E)
  | app (i : Nat) (e : E)
  | ext (i : Nat) (e : E)
  | pop (i : Nat)
  | popA (j i : Nat)
  | popAt (i : Nat) (e : E)
  | setI (i : Nat) (k e : E)
  | ret (e : E) | retN
  | iff (c : E) (a b : S)
  | for_ (tg it : E) (body : S)
  | whl (c : E) (body : S)
  | expr (e : E)
  | never
  | raw (look : Ctx → Stmt → Bool) (sm : DEnds → DEnv → Prop)

/-! ### what it means -/
def wipeD (env : DEnv) : List Nat → DEnv
  | [] => env
  | v :: vs => (wipeD env vs).set v .no

mutual
/-- no list, no dict within -/
def noMut : D → Bool
  | .non => true | .bl _ => true | .int _ => true | .str _ => true
  | .tup ds => noMuts ds
  | .lst _ => false | .dic _ _ => false | .tape _ => true
def noMuts : List D → Bool
  | [] => true
  | d :: ds => noMut d && noMuts ds
end
/-- no dict, no tape; not deeper than n -/
def shal : Nat → D → Bool
  | _, .non => true | _, .bl _ => true | _, .int _ => true | _, .str _ => true
  | n + 1, .tup ds => ds.all (shal n)
  | n + 1, .lst ds => ds.all (shal n)
  | _, _ => false

mutual
def eqD : D → D → Bool
  | .non, .non => true
  | .bl a, .bl b => a == b
  | .bl a, .int j => (if a then 1 else 0) == j
  | .int i, .bl b => i == (if b then 1 else 0)
  | .int i, .int j => i == j
  | .str x, .str y => x == y
  | .lst xs, .lst ys => eqDs xs ys
  | .tup xs, .tup ys => eqDs xs ys
  | _, _ => false
def eqDs : List D → List D → Bool
  | [], [] => true
  | x :: xs, y :: ys => eqD x y && eqDs xs ys
  | _, _ => false
end

def repS (x : Str) (k : Nat) : Str := ⟨(List.replicate k x.cps.toList).flatten.toArray⟩
def dBin : Operator → D → D → (D → Prop) → Prop
  | .Add, .int i, .int j, Q => Q (.int (i + j))
  | .Add, .str a, .str b, Q => a.cps.size + b.cps.size ≤ 16777216 ∧ Q (.str (a ++ b))
  | .Add, .tup a, .tup b, Q => a.length + b.length ≤ 16777216 ∧ Q (.tup (a ++ b))
  | .Add, .lst a, .lst b, Q => a.length + b.length ≤ 16777216 ∧ Q (.lst (a ++ b))
  | .Sub, .int i, .int j, Q => Q (.int (i - j))
  | .Mult, .int i, .int j, Q => CMul i j ∧ Q (.int (i * j))
  | .Mult, .lst xs, .int k, Q => (-1000000000 ≤ k ∧ k ≤ 1000000000 ∧ xs.length * k.toNat ≤ 16777216) ∧ Q (.lst (List.replicate k.toNat xs).flatten)
  | .Mult, .tup xs, .int k, Q => (-1000 ≤ k ∧ k ≤ 1000 ∧ xs.length ≤ 1000) ∧ Q (.tup (List.replicate k.toNat xs).flatten)
  | .Mult, .str x, .int k, Q => (-1000000000 ≤ k ∧ k ≤ 1000000000 ∧ x.cps.size * k.toNat ≤ 16777216) ∧ Q (.str (repS x k.toNat))
  | .FloorDiv, .int i, .int j, Q => (0 < j ∧ j < 1073741824) ∧ Q (.int (i / j))
  | .Mod, .int i, .int j, Q => 0 < j ∧ Q (.int (i % j))
  | .Pow, .int i, .int j, Q => CPow i j ∧ Q (.int (i ^ j.toNat))
  | _, _, _, _ => False

/-- a sign of a text -/
def sgn (c : Nat) : Str := ⟨#[c]⟩
def isNon : D → Bool
  | .non => true
  | _ => false
def isDic : D → Bool
  | .dic _ _ => true
  | _ => false
def isTup : D → Bool
  | .tup _ => true
  | _ => false
/-- may a be looked for among ds -/
def inOk (a : D) (ds : List D) : Prop := (shal 8 a = true ∧ ds.all (shal 8) = true) ∨ (isDic a = true ∧ ds.all isTup = true)
def dCmp : CmpOp → D → D → (D → Prop) → Prop
  | .Eq, a, b, Q => (shal 8 a = true ∧ shal 8 b = true) ∧ Q (.bl (eqD a b))
  | .NotEq, a, b, Q => (shal 8 a = true ∧ shal 8 b = true) ∧ Q (.bl (!eqD a b))
  | .Lt, .int i, .int j, Q => Q (.bl (decide (i < j)))
  | .LtE, .int i, .int j, Q => Q (.bl (decide (i ≤ j)))
  | .Gt, .int i, .int j, Q => Q (.bl (decide (j < i)))
  | .GtE, .int i, .int j, Q => Q (.bl (decide (j ≤ i)))
  | .Lt, .str i, .str j, Q => Q (.bl (decide (i.cps.toList < j.cps.toList)))
  | .LtE, .str i, .str j, Q => Q (.bl (!decide (j.cps.toList < i.cps.toList)))
  | .Is, a, .non, Q => Q (.bl (isNon a))
  | .IsNot, a, .non, Q => Q (.bl (!isNon a))
  | .Is, .bl a, .bl b, Q => Q (.bl (a == b))
  | .IsNot, .bl a, .bl b, Q => Q (.bl (!(a == b)))
  | .In, a, .tup ds, Q => inOk a ds ∧ Q (.bl (ds.any fun z => eqD z a))
  | .In, a, .lst ds, Q => inOk a ds ∧ Q (.bl (ds.any fun z => eqD z a))
  | .NotIn, a, .tup ds, Q => inOk a ds ∧ Q (.bl (!ds.any fun z => eqD z a))
  | .NotIn, a, .lst ds, Q => inOk a ds ∧ Q (.bl (!ds.any fun z => eqD z a))
  | .In, .str a, .str b, Q => ∃ c, a = sgn c ∧ Q (.bl (decide (c ∈ b.cps.toList)))
  | .NotIn, .str a, .str b, Q => ∃ c, a = sgn c ∧ Q (.bl (!decide (c ∈ b.cps.toList)))
  | _, _, _, _ => False

def strS (l : List Nat) : Str := ⟨l.toArray⟩
def cutL {α : Type} (xs : List α) (lo hi : Option Int) : List α := (xs.drop (HT.sIx xs.length 0 lo)).take (HT.sIx xs.length xs.length hi - HT.sIx xs.length 0 lo)
def dIx : D → D → (D → Prop) → Prop
  | .tup ds, .int i, Q => ∃ d, atI ds i = some d ∧ Q d
  | .lst ds, .int i, Q => ∃ d, atI ds i = some d ∧ Q d
  | .str s, .int i, Q => ∃ c, atI s.cps.toList i = some c ∧ Q (.str (sgn c))
  | _, _, _ => False
def dSl : D → Option Int → Option Int → (D → Prop) → Prop
  | .tup ds, lo, hi, Q => Q (.tup (cutL ds lo hi))
  | .lst ds, lo, hi, Q => Q (.lst (cutL ds lo hi))
  | .str s, lo, hi, Q => Q (.str (strS (cutL s.cps.toList lo hi)))
  | _, _, _, _ => False

def maxI : List Int → Int
  | [] => 0
  | x :: xs => xs.foldl max x
def minI : List Int → Int
  | [] => 0
  | x :: xs => xs.foldl min x
def sortI (ns : List Int) : List Int := ns.mergeSort (fun a b => decide (a ≤ b))

def numS (i : Int) : Str := (toString i : String)
def dBf : Bf → List D → (D → Prop) → Prop
  | .len, [.str s], Q => Q (.int s.cps.size)
  | .len, [.tup ds], Q => Q (.int ds.length)
  | .len, [.lst ds], Q => Q (.int ds.length)
  | .len, [.dic ks _], Q => Q (.int ks.length)
  | .abs, [.int i], Q => Q (.int (if i < 0 then -i else i))
  | .int, [.int i], Q => Q (.int i)
  | .int, [.bl b], Q => Q (.int (if b then 1 else 0))
  | .str, [.int i], Q => (-1000000000 ≤ i ∧ i ≤ 1000000000) ∧ Q (.str (numS i))
  | .all, [.lst ds], Q => ∃ bs : List Bool, ds = bs.map D.bl ∧ Q (.bl (bs.all id))
  | .any, [.lst ds], Q => ∃ bs : List Bool, ds = bs.map D.bl ∧ Q (.bl (bs.any id))
  | .sum, [.lst ds], Q => ∃ ns : List Int, ds = ns.map D.int ∧ Q (.int ns.sum)
  | .max, [.lst ds], Q => ∃ ns : List Int, ds = ns.map D.int ∧ ns ≠ [] ∧ Q (.int (maxI ns))
  | .min, [.lst ds], Q => ∃ ns : List Int, ds = ns.map D.int ∧ ns ≠ [] ∧ Q (.int (minI ns))
  | .max, [.int i, .int j], Q => Q (.int (if j > i then j else i))
  | .min, [.int i, .int j], Q => Q (.int (if j < i then j else i))
  | .max, [.int i, .int j, .int k], Q => Q (.int (max (max i j) k))
  | .min, [.int i, .int j, .int k], Q => Q (.int (min (min i j) k))
  | .sorted, [.lst ds], Q => ∃ ns : List Int, ds = ns.map D.int ∧ Q (.lst ((sortI ns).map D.int))
  | .tuple, [.lst ds], Q => Q (.tup ds)
  | .tuple, [.tup ds], Q => Q (.tup ds)
  | .list, [.lst ds], Q => Q (.lst ds)
  | .list, [.tup ds], Q => Q (.lst ds)
  | .ord, [.str s], Q => ∃ c, s = sgn c ∧ Q (.int c)
  | _, _, _ => False

def joinS (sep : Str) (xs : List Str) : Str := Txt.join sep xs
/-- keys: ints and texts -/
def keyD : Key → D
  | .inl i => .int i
  | .inr x => .str x
def mtOk : Mf → D → Prop
  | .join, .str _ => True
  | .index, .lst _ => True
  | _, _ => False
def dMt : Mf → D → List D → (D → Prop) → Prop
  | .join, .str sep, [.lst ds], Q => ∃ xs : List Str, ds = xs.map D.str ∧ (xs.map fun x => x.cps.size).sum + xs.length * sep.cps.size ≤ 16777216 ∧ Q (.str (joinS sep xs))
  | .join, .str sep, [.tup ds], Q => ∃ xs : List Str, ds = xs.map D.str ∧ (xs.map fun x => x.cps.size).sum + xs.length * sep.cps.size ≤ 16777216 ∧ Q (.str (joinS sep xs))
  | .index, .lst ds, [a], Q => (shal 8 a = true ∧ ds.all (shal 8) = true) ∧ ((ds.any fun z => eqD z a) = true ∧ Q (.int (ds.findIdx fun z => eqD z a)))
  | _, _, _, _ => False

def isTy : D → Ty → Bool
  | .bl _, .bool => true
  | .bl _, .int => true
  | .int _, .int => true
  | .str _, .str => true
  | .tup _, .tuple => true
  | .lst _, .list => true
  | .dic _ _, .dict => true
  | _, _ => false
def notTape : D → Prop
  | .tape _ => False
  | _ => True

/-- what is walked: its items -/
def dItems : D → (List D → Prop) → Prop
  | .lst ds, Q => Q ds
  | .tup ds, Q => Q ds
  | .str s, Q => Q (s.cps.toList.map fun c => .str (sgn c))
  | _, _ => False
def rangeD (a b : Int) : List D := (List.range (b - a).toNat).map fun (i : Nat) => .int (a + i)
/-- from a down to b, b left out -/
def rangeDn (a b : Int) : List D := (List.range (a - b).toNat).map fun (i : Nat) => .int (a + i * (-1))
def slotsOf : E → List Nat
  | .var i => [i]
  | .cons a b => slotsOf a ++ slotsOf b
  | .tup es => slotsOf es
  | _ => []

def bindTs (env : DEnv) : E → List D → (DEnv → Prop) → Prop
  | .nil, [], Q => Q env
  | .cons (.var i) r, d :: ds, Q => bindTs (env.set i (.sh d)) r ds Q
  | _, _, _ => False
def bindT (env : DEnv) : E → D → (DEnv → Prop) → Prop
  | .var i, d, Q => Q (env.set i (.sh d))
  | .tup es, .tup ds, Q => bindTs env es ds Q
  | _, _, _ => False

def lcD (bind : D → (DEnv → Prop) → Prop) (cond : DEnv → (Bool → Prop) → Prop) (elt : DEnv → (D → Prop) → Prop) : List D → (List D → Prop) → Prop
  | [], Q => Q []
  | d :: ds, Q => bind d fun e1 => cond e1 fun b => match b with
    | true => elt e1 fun y => lcD bind cond elt ds fun ys => Q (y :: ys)
    | false => lcD bind cond elt ds Q
def lc2D (bind : D → (DEnv → Prop) → Prop) (cond : DEnv → (Bool → Prop) → Prop) (inner : DEnv → (List D → Prop) → Prop) : List D → (List D → Prop) → Prop
  | [], Q => Q []
  | d :: ds, Q => bind d fun e1 => cond e1 fun b => match b with
    | true => inner e1 fun ys => lc2D bind cond inner ds fun zs => Q (ys ++ zs)
    | false => lc2D bind cond inner ds Q


def E.isNil : E → Bool
  | .nil => true
  | _ => false
/-- a slice's part: nil is left out -/
def partD (n : Bool) (t : (D → Prop) → Prop) (Q : Option Int → Prop) : Prop := match n with
  | true => Q none
  | false => t fun d => match d with
    | .int i => Q (some i)
    | _ => False
/-- a comprehension's condition: nil is none -/
def condD (n : Bool) (t : (D → Prop) → Prop) (Q : Bool → Prop) : Prop := match n with
  | true => Q true
  | false => t fun d => match d with
    | .bl b => Q b
    | _ => False

mutual
def semE : E → DEnv → (D → Prop) → Prop
  | .nil, _, _ => False
  | .cons _ _, _, _ => False
  | .var i, env, Q => match rdv env i with
    | some d => Q d
    | none => False
  | .non, _, Q => Q .non
  | .bl b, _, Q => Q (.bl b)
  | .int i, _, Q => Q (.int i)
  | .str s, _, Q => Q (.str s)
  | .glob _ d, _, Q => Q d
  | .bin o a b, env, Q => semE a env fun x => semE b env fun y => dBin o x y Q
  | .neg a, env, Q => semE a env fun x => match x with
    | .int i => Q (.int (-i))
    | _ => False
  | .cmp o a b, env, Q => semE a env fun x => semE b env fun y => dCmp o x y Q
  | .chain o p a b c, env, Q => semE a env fun x => semE b env fun y => dCmp o x y fun r => match r with
    | .bl true => semE c env fun z => dCmp p y z Q
    | .bl false => Q (.bl false)
    | _ => False
  | .andd a b, env, Q => semE a env fun x => match x with
    | .bl true => semE b env Q
    | .bl false => Q (.bl false)
    | _ => False
  | .orr a b, env, Q => semE a env fun x => match x with
    | .bl true => Q (.bl true)
    | .bl false => semE b env Q
    | _ => False
  | .nott a, env, Q => semE a env fun x => match x with
    | .bl b => Q (.bl (!b))
    | _ => False
  | .ite c a b, env, Q => semE c env fun x => match x with
    | .bl true => semE a env Q
    | .bl false => semE b env Q
    | _ => False
  | .tup es, env, Q => semEs es env fun ds => Q (.tup ds)
  | .lst es, env, Q => semEs es env fun ds => Q (.lst ds)
  | .ix a b, env, Q => semE a env fun x => semE b env fun y => dIx x y Q
  | .sl a lo hi, env, Q => semE a env fun x => partD lo.isNil (semE lo env) fun l => partD hi.isNil (semE hi env) fun h => dSl x l h Q
  | .call _ sp es, env, Q => semEs es env fun ds => sp ds Q
  | .bf f es, env, Q => semEs es env fun ds => dBf f ds Q
  | .lenset a, env, Q => semE a env fun x => match x with
    | .tup ds => ∃ ks : List Key, (ds = ks.map keyD ∧ ks.length ≤ 4000) ∧ Q (.int (ddK ks).length)
    | .lst ds => ∃ ks : List Key, (ds = ks.map keyD ∧ ks.length ≤ 4000) ∧ Q (.int (ddK ks).length)
    | _ => False
  | .mt m o es, env, Q => semE o env fun x => mtOk m x ∧ semEs es env fun ds => dMt m x ds Q
  | .isin a ts, env, Q => semE a env fun x => notTape x ∧ Q (.bl (ts.any (isTy x)))
  | .lc own elt tg it cond, env, Q => semE it env fun w => dItems w fun items => lcD (fun d => bindT (wipeD env (own.map (·.2))) tg d) (fun e1 Qb => condD cond.isNil (semE cond e1) Qb) (semE elt) items fun ds => Q (.lst ds)
  | .lc2 own elt tg it cond tg2 it2 cond2, env, Q => semE it env fun w => dItems w fun items => items.length ≤ 4000 ∧ lc2D (fun d => bindT (wipeD env (own.map (·.2))) tg d) (fun e1 Qb => condD cond.isNil (semE cond e1) Qb)
      (fun e1 Q1 => semE it2 e1 fun w2 => dItems w2 fun items2 => items2.length ≤ 4000 ∧ lcD (fun d => bindT (wipeD e1 (slotsOf tg2)) tg2 d) (fun e2 Qb => condD cond2.isNil (semE cond2 e2) Qb) (semE elt) items2 Q1) items fun ds => Q (.lst ds)
  | .r1 a, env, Q => semE a env fun x => match x with
    | .int n => (n ≤ 16777216 ∧ -16777216 ≤ n) ∧ Q (.lst (rangeD 0 n))
    | _ => False
  | .r2 a b, env, Q => semE a env fun x => semE b env fun y => match x, y with
    | .int i, .int j => (-8000000 ≤ i ∧ i ≤ 8000000 ∧ -8000000 ≤ j ∧ j ≤ 8000000) ∧ Q (.lst (rangeD i j))
    | _, _ => False
  | .r3 a b c, env, Q => semE a env fun x => semE b env fun y => semE c env fun z => match x, y, z with
    | .int i, .int j, .int (-1) => (-8000000 ≤ i ∧ i ≤ 8000000 ∧ -8000000 ≤ j ∧ j ≤ 8000000) ∧ Q (.lst (rangeDn i j))
    | _, _, _ => False
  | .raw _ s _ _, env, Q => s env Q
def semEs : E → DEnv → (List D → Prop) → Prop
  | .nil, _, Q => Q []
  | .cons a b, env, Q => semE a env fun d => semEs b env fun ds => Q (d :: ds)
  | _, _, _ => False
end

/-! ### statements -/
mutual
def E.vars : E → List Nat
  | .nil => [] | .cons a b => a.vars ++ b.vars
  | .var i => [i]
  | .non => [] | .bl _ => [] | .int _ => [] | .str _ => [] | .glob _ _ => []
  | .bin _ a b => a.vars ++ b.vars
  | .neg a => a.vars
  | .cmp _ a b => a.vars ++ b.vars
  | .chain _ _ a b c => a.vars ++ (b.vars ++ c.vars)
  | .andd a b => a.vars ++ b.vars
  | .orr a b => a.vars ++ b.vars
  | .nott a => a.vars
  | .ite c a b => c.vars ++ (a.vars ++ b.vars)
  | .tup es => es.vars | .lst es => es.vars
  | .ix a b => a.vars ++ b.vars
  | .sl a l h => a.vars ++ (l.vars ++ h.vars)
  | .call _ _ es => es.vars
  | .bf _ es => es.vars
  | .lenset a => a.vars
  | .mt _ o es => o.vars ++ es.vars
  | .isin a _ => a.vars
  | .lc _ elt tg it cond => it.vars ++ (tg.vars ++ (cond.vars ++ elt.vars))
  | .lc2 _ elt tg it cond tg2 it2 cond2 => it.vars ++ (tg.vars ++ (cond.vars ++ (it2.vars ++ (tg2.vars ++ (cond2.vars ++ elt.vars)))))
  | .r1 a => a.vars
  | .r2 a b => a.vars ++ b.vars
  | .r3 a b c => a.vars ++ (b.vars ++ c.vars)
  | .raw _ _ v _ => v
end
/-- a new list whenever its value is a list -/
def E.fresh : E → Bool
  | .lst _ => true | .lc _ _ _ _ _ => true | .lc2 _ _ _ _ _ _ _ _ => true
  | .bf .list _ => true | .bf .sorted _ => true
  | .sl _ _ _ => true | .bin _ _ _ => true
  | .r1 _ => true | .r2 _ _ => true | .r3 _ _ _ => true
  | .raw _ _ _ f => f
  | _ => false
def frz (env : DEnv) : List Nat → DEnv
  | [] => env
  | i :: is => match (frz env is)[i]? with
    | some (.ow d) => (frz env is).set i (.sh d)
    | some (.nw rows _) => (frz env is).set i (.sh (.lst (rows.map .lst)))
    | _ => frz env is
/-- nothing of what the names of e hold is within d -/
def keeps (e : E) (d : D) : Bool := noMut d || (match d with
  | .lst ds => e.fresh && noMuts ds
  | _ => false)
def aft (e : E) (d : D) (env : DEnv) : DEnv := if keeps e d then env else frz env e.vars
def newSl (e : E) (d : D) : Sl := match d with
  | .lst ds => if e.fresh then .ow (.lst ds) else .sh (.lst ds)
  | d => .sh d
def ownL (env : DEnv) (i : Nat) (Q : List D → Prop) : Prop := match env[i]? with
  | some (.ow (.lst ds)) => Q ds
  | _ => False

def forD (bind : DEnv → D → (DEnv → Prop) → Prop) (body : DEnds → DEnv → Prop) (en : DEnds) : List D → DEnv → Prop
  | [], env => en.nx env
  | d :: ds, env => bind env d fun e1 => body { nx := forD bind body en ds, rt := en.rt, bk := en.nx, ct := forD bind body en ds } e1
def testD (t : (D → Prop) → Prop) (a b : Prop) : Prop := t fun d => match d with
  | .bl true => a
  | .bl false => b
  | _ => False
def whlD (c : DEnv → (D → Prop) → Prop) (body : DEnds → DEnv → Prop) (en : DEnds) : Nat → DEnv → Prop
  | 0, _ => False
  | n + 1, env => testD (c env) (body { nx := whlD c body en n, rt := en.rt, bk := en.nx, ct := whlD c body en n } env) (en.nx env)

def semS : S → DEnds → DEnv → Prop
  | .nil, en, env => en.nx env
  | .cons s r, en, env => semS s { en with nx := semS r en } env
  | .pass, en, env => en.nx env
  | .brk, en, env => en.bk env
  | .cont, en, env => en.ct env
  | .asg i e, en, env => semE e env fun d => en.nx ((aft e d env).set i (newSl e d))
  | .asg2 i j a b, en, env => semE a env fun x => semE b (aft a x env) fun y => en.nx (((aft b y (aft a x env)).set i (newSl a x)).set j (newSl b y))
  | .asgT tg e, en, env => semE e env fun d => bindT (aft e d env) tg d en.nx
  | .app i e, en, env => ownL env i fun _ => semE e env fun d => ownL (aft e d env) i fun ds => ds.length < 16777216 ∧ en.nx ((aft e d env).set i (.ow (.lst (ds ++ [d]))))
  | .ext i e, en, env => ownL env i fun _ => semE e env fun w => match w with
    | .lst es => ownL (aft e (.tup es) env) i fun ds => ds.length + es.length ≤ 16777216 ∧ en.nx ((aft e (.tup es) env).set i (.ow (.lst (ds ++ es))))
    | _ => False
  | .pop i, en, env => ownL env i fun ds => ds ≠ [] ∧ en.nx (env.set i (.ow (.lst ds.dropLast)))
  | .popA j i, en, env => ownL env i fun ds => ∃ d, ds[ds.length - 1]? = some d ∧ en.nx ((env.set i (.ow (.lst ds.dropLast))).set j (.sh d))
  | .popAt i e, en, env => ownL env i fun ds => semE e env fun x => match x with
    | .int k => ∃ j, ixN ds.length k = some j ∧ en.nx (env.set i (.ow (.lst (ds.eraseIdx j))))
    | _ => False
  | .setI i k e, en, env => semE e env fun d => ownL (aft e d env) i fun ds => semE k (aft e d env) fun x => match x with
    | .int n => ∃ j, ixN ds.length n = some j ∧ en.nx ((aft e d env).set i (.ow (.lst (ds.set j d))))
    | _ => False
  | .ret e, en, env => semE e env en.rt
  | .retN, en, _ => en.rt .non
  | .iff c a b, en, env => testD (semE c env) (semS a en env) (semS b en env)
  | .for_ tg it body, en, env => semE it env fun w => dItems w fun items => forD (fun e1 d => bindT e1 tg d) (semS body) en items (aft it w env)
  | .whl c body, en, env => ∃ n, whlD (semE c) (semS body) en n env
  | .expr e, en, env => semE e env fun _ => en.nx env
  | .never, _, _ => False
  | .raw _ s, en, env => s en env
end DL

set_option Elab.async false
set_option linter.all false
set_option maxRecDepth 100000
/-! DL2: what is wanted may be weakened (mono); the data relation's lemmas. -/
namespace DL
open PySem PySem.Spec PyProof.Rows L2

theorem dBin_mono {o : Operator} {a b : D} {Q Q' : D → Prop} (h : dBin o a b Q) (m : ∀ d, Q d → Q' d) : dBin o a b Q' := by
  unfold dBin at h
  split at h
  all_goals first | exact m _ h | exact ⟨h.1, m _ h.2⟩ | exact h.elim
theorem dCmp_mono {o : CmpOp} {a b : D} {Q Q' : D → Prop} (h : dCmp o a b Q) (m : ∀ d, Q d → Q' d) : dCmp o a b Q' := by
  unfold dCmp at h
  split at h
  all_goals first | exact m _ h | exact ⟨h.1, m _ h.2⟩ | (obtain ⟨c, e, h⟩ := h; exact ⟨c, e, m _ h⟩) | exact h.elim
theorem dIx_mono {a b : D} {Q Q' : D → Prop} (h : dIx a b Q) (m : ∀ d, Q d → Q' d) : dIx a b Q' := by
  unfold dIx at h
  split at h
  all_goals first | (obtain ⟨d, h1, h2⟩ := h; exact ⟨d, h1, m _ h2⟩) | exact h.elim
theorem dSl_mono {a : D} {l u : Option Int} {Q Q' : D → Prop} (h : dSl a l u Q) (m : ∀ d, Q d → Q' d) : dSl a l u Q' := by
  unfold dSl at h
  split at h
  all_goals first | exact m _ h | exact h.elim
theorem dBf_mono {f : Bf} {ds : List D} {Q Q' : D → Prop} (h : dBf f ds Q) (m : ∀ d, Q d → Q' d) : dBf f ds Q' := by
  unfold dBf at h
  split at h
  all_goals first | exact m _ h | exact h.2.elim | exact ⟨h.1, m _ h.2⟩ | exact h.elim | (obtain ⟨b, h1, h2⟩ := h; exact ⟨b, h1, m _ h2⟩) | (obtain ⟨b, h1, h0, h2⟩ := h; exact ⟨b, h1, h0, m _ h2⟩)
theorem dMt_mono {f : Mf} {o : D} {ds : List D} {Q Q' : D → Prop} (h : dMt f o ds Q) (m : ∀ d, Q d → Q' d) : dMt f o ds Q' := by
  unfold dMt at h
  split at h
  all_goals first | exact h.elim | (obtain ⟨b, h1, h0, h2⟩ := h; exact ⟨b, h1, h0, m _ h2⟩) | exact ⟨h.1, h.2.1, m _ h.2.2⟩
theorem dItems_mono {a : D} {Q Q' : List D → Prop} (h : dItems a Q) (m : ∀ d, Q d → Q' d) : dItems a Q' := by
  unfold dItems at h
  split at h
  all_goals first | exact m _ h | exact h.elim
theorem bindTs_mono {e : E} : ∀ {env : DEnv} {ds : List D} {Q Q' : DEnv → Prop}, bindTs env e ds Q → (∀ d, Q d → Q' d) → bindTs env e ds Q' := by
  induction e with
  | nil => intro env ds Q Q' h m; cases ds with
    | nil => exact m _ h
    | cons d ds => exact h.elim
  | cons a b _ ih =>
    intro env ds Q Q' h m
    cases ds with
    | nil => cases a <;> exact h.elim
    | cons d ds => cases a <;> first | exact h.elim | exact ih (env := _) (show bindTs _ b ds Q from h) m
  | _ => intro env ds Q Q' h m; exact h.elim
theorem bindT_mono {e : E} {env : DEnv} {d : D} {Q Q' : DEnv → Prop} (h : bindT env e d Q) (m : ∀ d, Q d → Q' d) : bindT env e d Q' := by
  unfold bindT at h
  split at h
  all_goals first | exact m _ h | exact h.elim | exact bindTs_mono (show bindTs _ _ _ Q from h) m
theorem partD_mono {n : Bool} {t : (D → Prop) → Prop} {Q Q' : Option Int → Prop} (h : partD n t Q) (m : ∀ d, Q d → Q' d) (mt : ∀ Q Q' : D → Prop, t Q → (∀ d, Q d → Q' d) → t Q') : partD n t Q' := by
  cases n with
  | true => exact m _ h
  | false =>
    refine mt _ _ h fun d hd => ?_
    cases d <;> first | exact hd.elim | exact m _ hd
theorem condD_mono {n : Bool} {t : (D → Prop) → Prop} {Q Q' : Bool → Prop} (h : condD n t Q) (m : ∀ d, Q d → Q' d) (mt : ∀ Q Q' : D → Prop, t Q → (∀ d, Q d → Q' d) → t Q') : condD n t Q' := by
  cases n with
  | true => exact m _ h
  | false =>
    refine mt _ _ h fun d hd => ?_
    cases d <;> first | exact hd.elim | exact m _ hd
theorem lcD_mono {bind : D → (DEnv → Prop) → Prop} {cond : DEnv → (Bool → Prop) → Prop} {elt : DEnv → (D → Prop) → Prop}
    (mb : ∀ d Q Q', bind d Q → (∀ e, Q e → Q' e) → bind d Q') (mc : ∀ e Q Q', cond e Q → (∀ b, Q b → Q' b) → cond e Q') (me : ∀ e Q Q', elt e Q → (∀ b, Q b → Q' b) → elt e Q') :
    ∀ {ds : List D} {Q Q' : List D → Prop}, lcD bind cond elt ds Q → (∀ e, Q e → Q' e) → lcD bind cond elt ds Q'
  | [], _, _, h, m => m _ h
  | d :: ds, Q, Q', h, m => mb _ _ _ h fun e1 h1 => mc _ _ _ h1 fun b h2 => by
    cases b with
    | true => exact me _ _ _ h2 fun y h3 => lcD_mono mb mc me h3 fun ys h4 => m _ h4
    | false => exact lcD_mono mb mc me h2 m
theorem lc2D_mono {bind : D → (DEnv → Prop) → Prop} {cond : DEnv → (Bool → Prop) → Prop} {inner : DEnv → (List D → Prop) → Prop}
    (mb : ∀ d Q Q', bind d Q → (∀ e, Q e → Q' e) → bind d Q') (mc : ∀ e Q Q', cond e Q → (∀ b, Q b → Q' b) → cond e Q') (mi : ∀ e Q Q', inner e Q → (∀ b, Q b → Q' b) → inner e Q') :
    ∀ {ds : List D} {Q Q' : List D → Prop}, lc2D bind cond inner ds Q → (∀ e, Q e → Q' e) → lc2D bind cond inner ds Q'
  | [], _, _, h, m => m _ h
  | d :: ds, Q, Q', h, m => mb _ _ _ h fun e1 h1 => mc _ _ _ h1 fun b h2 => by
    cases b with
    | true => exact mi _ _ _ h2 fun ys h2 => lc2D_mono mb mc mi h2 fun zs h3 => m _ h3
    | false => exact lc2D_mono mb mc mi h2 m

/-- what a spec asks may be weakened -/
def SpMono (sp : DSpec) : Prop := ∀ ds Q Q', sp ds Q → (∀ d, Q d → Q' d) → sp ds Q'
/-- every spec within is so -/
def E.monos : E → Prop
  | .nil => True | .cons a b => a.monos ∧ b.monos
  | .var _ => True
  | .non => True | .bl _ => True | .int _ => True | .str _ => True | .glob _ _ => True
  | .bin _ a b => a.monos ∧ b.monos
  | .neg a => a.monos
  | .cmp _ a b => a.monos ∧ b.monos
  | .chain _ _ a b c => a.monos ∧ b.monos ∧ c.monos
  | .andd a b => a.monos ∧ b.monos
  | .orr a b => a.monos ∧ b.monos
  | .nott a => a.monos
  | .ite c a b => c.monos ∧ a.monos ∧ b.monos
  | .tup es => es.monos | .lst es => es.monos
  | .ix a b => a.monos ∧ b.monos
  | .sl a l h => a.monos ∧ l.monos ∧ h.monos
  | .call _ sp es => SpMono sp ∧ es.monos
  | .bf _ es => es.monos
  | .lenset a => a.monos
  | .mt _ o es => o.monos ∧ es.monos
  | .isin a _ => a.monos
  | .lc _ elt tg it cond => it.monos ∧ cond.monos ∧ elt.monos
  | .lc2 _ elt tg it cond tg2 it2 cond2 => it.monos ∧ cond.monos ∧ it2.monos ∧ cond2.monos ∧ elt.monos
  | .r1 a => a.monos
  | .r2 a b => a.monos ∧ b.monos
  | .r3 a b c => a.monos ∧ b.monos ∧ c.monos
  | .raw _ s _ _ => ∀ (env : DEnv) (Q Q' : D → Prop), s env Q → (∀ d, Q d → Q' d) → s env Q'

theorem sem_mono : ∀ e : E, e.monos → (∀ env (Q Q' : D → Prop), semE e env Q → (∀ d, Q d → Q' d) → semE e env Q') ∧ (∀ env (Q Q' : List D → Prop), semEs e env Q → (∀ d, Q d → Q' d) → semEs e env Q') := by
  intro e
  induction e with
  | nil => exact fun _ => ⟨fun env Q Q' h m => h.elim, fun env Q Q' h m => m _ h⟩
  | cons a b iha ihb =>
    exact fun hm => ⟨fun env Q Q' h m => h.elim, fun env Q Q' h m => (iha hm.1).1 _ _ _ h fun d h => (ihb hm.2).2 _ _ _ h fun ds h => m _ h⟩
  | var i =>
    refine fun _ => ⟨fun env Q Q' h m => ?_, fun env Q Q' h m => h.elim⟩
    unfold semE at h ⊢
    cases e : rdv env i with
    | none => rw [e] at h; exact h.elim
    | some d => rw [e] at h; exact m _ h
  | non => exact fun _ => ⟨fun env Q Q' h m => m _ h, fun env Q Q' h m => h.elim⟩
  | bl b => exact fun _ => ⟨fun env Q Q' h m => m _ h, fun env Q Q' h m => h.elim⟩
  | int b => exact fun _ => ⟨fun env Q Q' h m => m _ h, fun env Q Q' h m => h.elim⟩
  | str b => exact fun _ => ⟨fun env Q Q' h m => m _ h, fun env Q Q' h m => h.elim⟩
  | glob x d => exact fun _ => ⟨fun env Q Q' h m => m _ h, fun env Q Q' h m => h.elim⟩
  | bin o a b iha ihb => exact fun hm => ⟨fun env Q Q' h m => (iha hm.1).1 _ _ _ h fun x h => (ihb hm.2).1 _ _ _ h fun y h => dBin_mono h m, fun env Q Q' h m => h.elim⟩
  | neg a iha => exact fun hm => ⟨fun env Q Q' h m => (iha hm).1 _ _ _ h fun x h => by cases x <;> first | exact m _ h | exact h.elim, fun env Q Q' h m => h.elim⟩
  | cmp o a b iha ihb => exact fun hm => ⟨fun env Q Q' h m => (iha hm.1).1 _ _ _ h fun x h => (ihb hm.2).1 _ _ _ h fun y h => dCmp_mono h m, fun env Q Q' h m => h.elim⟩
  | chain o p a b c iha ihb ihc =>
    refine fun hm => ⟨fun env Q Q' h m => (iha hm.1).1 _ _ _ h fun x h => (ihb hm.2.1).1 _ _ _ h fun y h => dCmp_mono h fun r h => ?_, fun env Q Q' h m => h.elim⟩
    split at h
    · exact (ihc hm.2.2).1 _ _ _ h fun z h => dCmp_mono h m
    · exact m _ h
    · exact h.elim
  | andd a b iha ihb =>
    refine fun hm => ⟨fun env Q Q' h m => (iha hm.1).1 _ _ _ h fun x h => ?_, fun env Q Q' h m => h.elim⟩
    split at h
    · exact (ihb hm.2).1 _ _ _ h m
    · exact m _ h
    · exact h.elim
  | orr a b iha ihb =>
    refine fun hm => ⟨fun env Q Q' h m => (iha hm.1).1 _ _ _ h fun x h => ?_, fun env Q Q' h m => h.elim⟩
    split at h
    · exact m _ h
    · exact (ihb hm.2).1 _ _ _ h m
    · exact h.elim
  | nott a iha => exact fun hm => ⟨fun env Q Q' h m => (iha hm).1 _ _ _ h fun x h => by cases x <;> first | exact m _ h | exact h.elim, fun env Q Q' h m => h.elim⟩
  | ite c a b ihc iha ihb =>
    refine fun hm => ⟨fun env Q Q' h m => (ihc hm.1).1 _ _ _ h fun x h => ?_, fun env Q Q' h m => h.elim⟩
    split at h
    · exact (iha hm.2.1).1 _ _ _ h m
    · exact (ihb hm.2.2).1 _ _ _ h m
    · exact h.elim
  | tup es ih => exact fun hm => ⟨fun env Q Q' h m => (ih hm).2 _ _ _ h fun ds h => m _ h, fun env Q Q' h m => h.elim⟩
  | lst es ih => exact fun hm => ⟨fun env Q Q' h m => (ih hm).2 _ _ _ h fun ds h => m _ h, fun env Q Q' h m => h.elim⟩
  | ix a b iha ihb => exact fun hm => ⟨fun env Q Q' h m => (iha hm.1).1 _ _ _ h fun x h => (ihb hm.2).1 _ _ _ h fun y h => dIx_mono h m, fun env Q Q' h m => h.elim⟩
  | sl a l u iha ihl ihu =>
    exact fun hm => ⟨fun env Q Q' h m => (iha hm.1).1 _ _ _ h fun x h => partD_mono h (fun lo h => partD_mono h (fun hi h => dSl_mono h m) ((ihu hm.2.2).1 env)) ((ihl hm.2.1).1 env), fun env Q Q' h m => h.elim⟩
  | call f sp es ih => exact fun hm => ⟨fun env Q Q' h m => (ih hm.2).2 _ _ _ h fun ds h => hm.1 _ _ _ h m, fun env Q Q' h m => h.elim⟩
  | bf f es ih => exact fun hm => ⟨fun env Q Q' h m => (ih hm).2 _ _ _ h fun ds h => dBf_mono h m, fun env Q Q' h m => h.elim⟩
  | lenset a iha => exact fun hm => ⟨fun env Q Q' h m => (iha hm).1 _ _ _ h fun x h => by cases x <;> first | exact h.elim | (obtain ⟨ks, h1, h2⟩ := h; exact ⟨ks, h1, m _ h2⟩), fun env Q Q' h m => h.elim⟩
  | mt f o es iho ih => exact fun hm => ⟨fun env Q Q' h m => (iho hm.1).1 _ _ _ h fun x h => ⟨h.1, (ih hm.2).2 _ _ _ h.2 fun ds h => dMt_mono h m⟩, fun env Q Q' h m => h.elim⟩
  | isin a ts iha => exact fun hm => ⟨fun env Q Q' h m => (iha hm).1 _ _ _ h fun x h => ⟨h.1, m _ h.2⟩, fun env Q Q' h m => h.elim⟩
  | lc own elt tg it cond ihe _ iht ihc =>
    exact fun hm => ⟨fun env Q Q' h m => (iht hm.1).1 _ _ _ h fun w h => dItems_mono h fun items h => lcD_mono (bind := fun d => bindT (wipeD env (own.map (·.2))) tg d) (cond := fun e1 Qb => condD cond.isNil (semE cond e1) Qb) (elt := semE elt) (fun d Q Q' h m => bindT_mono h m)
      (fun e Q Q' h m => condD_mono h m ((ihc hm.2.1).1 e)) (fun e => (ihe hm.2.2).1 e) h fun ds h => m _ h, fun env Q Q' h m => h.elim⟩
  | lc2 own elt tg it cond tg2 it2 cond2 ihe _ iht ihc _ iht2 ihc2 =>
    exact fun hm => ⟨fun env Q Q' h m => (iht hm.1).1 _ _ _ h fun w h => dItems_mono h fun items ⟨hz, h⟩ => ⟨hz, lc2D_mono (bind := fun d => bindT (wipeD env (own.map (·.2))) tg d) (cond := fun e1 Qb => condD cond.isNil (semE cond e1) Qb)
      (inner := fun e1 Q1 => semE it2 e1 fun w2 => dItems w2 fun items2 => items2.length ≤ 4000 ∧ lcD (fun d => bindT (wipeD e1 (slotsOf tg2)) tg2 d) (fun e2 Qb => condD cond2.isNil (semE cond2 e2) Qb) (semE elt) items2 Q1) (fun d Q Q' h m => bindT_mono h m)
      (fun e Q Q' h m => condD_mono h m ((ihc hm.2.1).1 e))
      (fun e Q Q' h m => (iht2 hm.2.2.1).1 e _ _ h fun w h => dItems_mono h fun items2 ⟨hz, h⟩ => ⟨hz, lcD_mono (bind := fun d => bindT (wipeD e (slotsOf tg2)) tg2 d) (cond := fun e2 Qb => condD cond2.isNil (semE cond2 e2) Qb) (elt := semE elt) (fun d Q Q' h m => bindT_mono h m)
        (fun e Q Q' h m => condD_mono h m ((ihc2 hm.2.2.2.1).1 e)) (fun e => (ihe hm.2.2.2.2).1 e) h m⟩) h fun ds h => m _ h⟩, fun env Q Q' h m => h.elim⟩
  | r1 a iha => exact fun hm => ⟨fun env Q Q' h m => (iha hm).1 _ _ _ h fun x h => by cases x <;> first | exact h.elim | exact ⟨h.1, m _ h.2⟩, fun env Q Q' h m => h.elim⟩
  | r2 a b iha ihb => exact fun hm => ⟨fun env Q Q' h m => (iha hm.1).1 _ _ _ h fun x h => (ihb hm.2).1 _ _ _ h fun y h => by
      cases x <;> first | exact h.elim | (cases y <;> first | exact h.elim | exact ⟨h.1, m _ h.2⟩), fun env Q Q' h m => h.elim⟩
  | r3 a b c iha ihb ihc => exact fun hm => ⟨fun env Q Q' h m => (iha hm.1).1 _ _ _ h fun x h => (ihb hm.2.1).1 _ _ _ h fun y h => (ihc hm.2.2).1 _ _ _ h fun z h => by
      split at h
      · exact ⟨h.1, m _ h.2⟩
      · exact h.elim, fun env Q Q' h m => h.elim⟩
  | raw l s v f => exact fun hm => ⟨fun env Q Q' h m => hm env Q Q' h m, fun env Q Q' h m => h.elim⟩

/-! ### statements -/
structure DEnds.le (a b : DEnds) : Prop where
  nx : ∀ e, a.nx e → b.nx e
  rt : ∀ d, a.rt d → b.rt d
  bk : ∀ e, a.bk e → b.bk e
  ct : ∀ e, a.ct e → b.ct e
def S.monos : S → Prop
  | .nil => True | .cons s r => s.monos ∧ r.monos
  | .pass => True | .brk => True | .cont => True
  | .asg _ e => e.monos
  | .asg2 _ _ a b => a.monos ∧ b.monos
  | .asgT _ e => e.monos
  | .app _ e => e.monos
  | .ext _ e => e.monos
  | .pop _ => True | .popA _ _ => True
  | .popAt _ e => e.monos
  | .setI _ k e => k.monos ∧ e.monos
  | .ret e => e.monos | .retN => True
  | .iff c a b => c.monos ∧ a.monos ∧ b.monos
  | .for_ _ it body => it.monos ∧ body.monos
  | .whl c body => c.monos ∧ body.monos
  | .expr e => e.monos
  | .never => True
  | .raw _ s => ∀ a b : DEnds, a.le b → ∀ env, s a env → s b env
theorem ownL_mono {env : DEnv} {i : Nat} {Q Q' : List D → Prop} (h : ownL env i Q) (m : ∀ d, Q d → Q' d) : ownL env i Q' := by
  unfold ownL at h ⊢
  split at h
  · exact m _ h
  · exact h.elim
theorem forD_mono {bind : DEnv → D → (DEnv → Prop) → Prop} {body : DEnds → DEnv → Prop} (mb : ∀ e d Q Q', bind e d Q → (∀ e, Q e → Q' e) → bind e d Q')
    (my : ∀ a b : DEnds, a.le b → ∀ e, body a e → body b e) {a b : DEnds} (hl : a.le b) : ∀ (ds : List D) (e : DEnv), forD bind body a ds e → forD bind body b ds e
  | [], e, h => hl.nx _ h
  | d :: ds, e, h => mb _ _ _ _ h fun e1 h1 => my { nx := forD bind body a ds, rt := a.rt, bk := a.nx, ct := forD bind body a ds } { nx := forD bind body b ds, rt := b.rt, bk := b.nx, ct := forD bind body b ds }
      ⟨fun e h => forD_mono mb my hl ds e h, hl.rt, hl.nx, fun e h => forD_mono mb my hl ds e h⟩ _ h1
theorem testD_mono {t : (D → Prop) → Prop} {a b a' b' : Prop} (h : testD t a b) (ha : a → a') (hb : b → b') (mt : ∀ Q Q' : D → Prop, t Q → (∀ d, Q d → Q' d) → t Q') : testD t a' b' :=
  mt _ _ h fun d h => by
    split at h
    · exact ha h
    · exact hb h
    · exact h.elim
theorem whlD_mono {c : DEnv → (D → Prop) → Prop} {body : DEnds → DEnv → Prop} (mc : ∀ e (Q Q' : D → Prop), c e Q → (∀ d, Q d → Q' d) → c e Q')
    (my : ∀ a b : DEnds, a.le b → ∀ e, body a e → body b e) {a b : DEnds} (hl : a.le b) : ∀ (n : Nat) (e : DEnv), whlD c body a n e → whlD c body b n e
  | 0, _, h => h.elim
  | n + 1, e, h => testD_mono h (fun h => my { nx := whlD c body a n, rt := a.rt, bk := a.nx, ct := whlD c body a n } { nx := whlD c body b n, rt := b.rt, bk := b.nx, ct := whlD c body b n }
      ⟨fun e h => whlD_mono mc my hl n e h, hl.rt, hl.nx, fun e h => whlD_mono mc my hl n e h⟩ _ h) (hl.nx _) (mc e)

theorem semS_mono : ∀ s : S, s.monos → ∀ (a b : DEnds), a.le b → ∀ env, semS s a env → semS s b env := by
  intro s
  induction s with
  | nil => exact fun _ a b l env h => l.nx _ h
  | cons s r ihs ihr => exact fun hm a b l env h => ihs hm.1 { a with nx := semS r a } { b with nx := semS r b } ⟨fun e h => ihr hm.2 a b l e h, l.rt, l.bk, l.ct⟩ env h
  | pass => exact fun _ a b l env h => l.nx _ h
  | brk => exact fun _ a b l env h => l.bk _ h
  | cont => exact fun _ a b l env h => l.ct _ h
  | asg i e => exact fun hm a b l env h => (sem_mono e hm).1 _ _ _ h fun d h => l.nx _ h
  | asg2 i j x y => exact fun hm a b l env h => (sem_mono x hm.1).1 _ _ _ h fun d h => (sem_mono y hm.2).1 _ _ _ h fun d h => l.nx _ h
  | asgT tg e => exact fun hm a b l env h => (sem_mono e hm).1 _ _ _ h fun d h => bindT_mono h l.nx
  | app i e => exact fun hm a b l env h => ownL_mono h fun _ h => (sem_mono e hm).1 _ _ _ h fun d h => ownL_mono h fun ds h => ⟨h.1, l.nx _ h.2⟩
  | ext i e =>
    refine fun hm a b l env h => ownL_mono h fun _ h => (sem_mono e hm).1 _ _ _ h fun d h => ?_
    cases d <;> first | exact h.elim | exact ownL_mono h fun ds h => ⟨h.1, l.nx _ h.2⟩
  | pop i => exact fun hm a b l env h => ownL_mono h fun ds h => ⟨h.1, l.nx _ h.2⟩
  | popA j i => exact fun hm a b l env h => ownL_mono h fun ds ⟨d, h1, h2⟩ => ⟨d, h1, l.nx _ h2⟩
  | popAt i e =>
    refine fun hm a b l env h => ownL_mono h fun ds h => (sem_mono e hm).1 _ _ _ h fun d h => ?_
    cases d <;> first | exact h.elim | (obtain ⟨j, h1, h2⟩ := h; exact ⟨j, h1, l.nx _ h2⟩)
  | setI i k e =>
    refine fun hm a b l env h => (sem_mono e hm.2).1 _ _ _ h fun d h => ownL_mono h fun ds h => (sem_mono k hm.1).1 _ _ _ h fun x h => ?_
    cases x <;> first | exact h.elim | (obtain ⟨j, h1, h2⟩ := h; exact ⟨j, h1, l.nx _ h2⟩)
  | ret e => exact fun hm a b l env h => (sem_mono e hm).1 _ _ _ h l.rt
  | retN => exact fun _ a b l env h => l.rt _ h
  | iff c x y ihx ihy => exact fun hm a b l env h => testD_mono h (ihx hm.2.1 a b l env) (ihy hm.2.2 a b l env) ((sem_mono c hm.1).1 env)
  | for_ tg it body ih => exact fun hm a b l env h => (sem_mono it hm.1).1 _ _ _ h fun w h => dItems_mono h fun items h => forD_mono (bind := fun e1 d => bindT e1 tg d) (fun e d Q Q' h m => bindT_mono h m) (ih hm.2) l _ _ h
  | whl c body ih => exact fun hm a b l env ⟨n, h⟩ => ⟨n, whlD_mono (sem_mono c hm.1).1 (ih hm.2) l _ _ h⟩
  | expr e => exact fun hm a b l env h => (sem_mono e hm).1 _ _ _ h fun d h => l.nx _ h
  | never => exact fun _ a b l env h => h.elim
  | raw l s => exact fun hm a b l env h => hm a b l env h
end DL

set_option Elab.async false
set_option linter.all false
set_option maxRecDepth 100000
/-! DL3: the data relation's lemmas; what is wanted behind an expression (post); operators by values. -/
namespace DL
open PySem PySem.Spec PyProof.Rows L2

def Le (H H' : Hp) : Prop := ∀ a o, H a = some o → H' a = some o
theorem Le.refl (H : Hp) : Le H H := fun _ _ h => h
theorem Le.trans {H H1 H2 : Hp} (a : Le H H1) (b : Le H1 H2) : Le H H2 := fun c o h => b c o (a c o h)
theorem res_le (H : Hp) (O : List Addr) : Le (res H O) H := fun a o h => by
  unfold res at h
  split at h
  · cases h
  · exact h
theorem res_some {H : Hp} {O : List Addr} {a : Addr} {o : HO} (h : res H O a = some o) : a ∉ O ∧ H a = some o := by
  unfold res at h
  split at h
  · cases h
  · exact ⟨by assumption, h⟩
theorem res_of {H : Hp} {O : List Addr} {a : Addr} {o : HO} (n : a ∉ O) (h : H a = some o) : res H O a = some o := by
  unfold res
  rw [if_neg n]
  exact h
theorem SqT.le {K : PySem.W.Frag} {H H' : Hp} {a : Addr} {xs : List V} (l : Le H H') (h : SqT K H a xs) : SqT K H' a xs := by
  rcases h with (h | ⟨o, h⟩) | h
  · exact .inl (.inl (l _ _ h))
  · exact .inl (.inr ⟨o, l _ _ h⟩)
  · exact .inr h

section
variable {K : PySem.W.Frag} {T : Tape} {H H' : Hp}
mutual
theorem Dat.le (l : Le H H') : ∀ (d : D) (v : V), Dat K T H d v → Dat K T H' d v
  | .non, _, h => h
  | .bl _, _, h => h
  | .int _, _, h => h
  | .str _, _, h => h
  | .tup ds, _, h => by
    obtain ⟨a, xs, e, s, z, hs⟩ := h
    exact ⟨a, xs, e, SqT.le l s, z, Dats.le l ds xs hs⟩
  | .lst ds, _, h => by
    obtain ⟨a, xs, e, s, z, hs⟩ := h
    exact ⟨a, xs, e, l _ _ s, z, Dats.le l ds xs hs⟩
  | .dic ks vs, _, h => by
    obtain ⟨a, kvs, e, s, h1, h2⟩ := h
    exact ⟨a, kvs, e, l _ _ s, Dats.le l ks _ h1, Dats.le l vs _ h2⟩
  | .tape _, _, h => h
theorem Dats.le (l : Le H H') : ∀ (ds : List D) (vs : List V), Dats K T H ds vs → Dats K T H' ds vs
  | [], _, h => h
  | d :: ds, _, h => by
    obtain ⟨v, r, e, h1, h2⟩ := h
    exact ⟨v, r, e, Dat.le l d v h1, Dats.le l ds r h2⟩
end
theorem Dats.length : ∀ {ds : List D} {vs : List V}, Dats K T H ds vs → vs.length = ds.length
  | [], vs, h => by
    have e : vs = [] := h
    rw [e]
    rfl
  | d :: ds, _, h => by
    obtain ⟨v, r, rfl, _, h2⟩ := h
    rw [List.length_cons, List.length_cons, Dats.length h2]
theorem Dats.get : ∀ {ds : List D} {vs : List V} {i : Nat} {d : D}, Dats K T H ds vs → ds[i]? = some d → ∃ v, vs[i]? = some v ∧ Dat K T H d v
  | [], _, _, _, _, e => by simp at e
  | d :: ds, _, 0, _, h, e => by
    obtain ⟨v, r, rfl, h1, _⟩ := h
    simp at e
    subst e
    exact ⟨v, rfl, h1⟩
  | d :: ds, _, i + 1, _, h, e => by
    obtain ⟨v, r, rfl, _, h2⟩ := h
    obtain ⟨u, q, z⟩ := Dats.get (i := i) h2 (by simpa using e)
    exact ⟨u, by simpa using q, z⟩
theorem Dats.get' {ds : List D} {vs : List V} {i : Nat} {v : V} (h : Dats K T H ds vs) (e : vs[i]? = some v) : ∃ d, ds[i]? = some d ∧ Dat K T H d v := by
  have hi : i < vs.length := (List.getElem?_eq_some_iff.mp e).1
  rw [h.length] at hi
  obtain ⟨u, q, z⟩ := h.get (List.getElem?_eq_getElem hi)
  rw [e] at q
  cases q
  exact ⟨_, List.getElem?_eq_getElem hi, z⟩
theorem Dats.append : ∀ {ds es : List D} {vs ws : List V}, Dats K T H ds vs → Dats K T H es ws → Dats K T H (ds ++ es) (vs ++ ws)
  | [], _, vs, _, h, h' => by
    have e : vs = [] := h
    rw [e]; exact h'
  | d :: ds, _, _, _, h, h' => by
    obtain ⟨v, r, rfl, h1, h2⟩ := h
    exact ⟨v, _, rfl, h1, Dats.append h2 h'⟩
theorem Dats.one {d : D} {v : V} (h : Dat K T H d v) : Dats K T H [d] [v] := ⟨v, [], rfl, h, rfl⟩
theorem Dats.drop : ∀ {ds : List D} {vs : List V} (n : Nat), Dats K T H ds vs → Dats K T H (ds.drop n) (vs.drop n)
  | _, _, 0, h => h
  | [], vs, n + 1, h => by
    have e : vs = [] := h
    rw [e]; exact rfl
  | d :: ds, _, n + 1, h => by
    obtain ⟨v, r, rfl, _, h2⟩ := h
    exact Dats.drop n h2
theorem Dats.take : ∀ {ds : List D} {vs : List V} (n : Nat), Dats K T H ds vs → Dats K T H (ds.take n) (vs.take n)
  | _, _, 0, h => rfl
  | [], vs, n + 1, h => by
    have e : vs = [] := h
    rw [e]; exact rfl
  | d :: ds, _, n + 1, h => by
    obtain ⟨v, r, rfl, h1, h2⟩ := h
    exact ⟨v, _, rfl, h1, Dats.take n h2⟩
theorem Dats.set {d : D} {v : V} (hd : Dat K T H d v) : ∀ {ds : List D} {vs : List V} (n : Nat), Dats K T H ds vs → Dats K T H (ds.set n d) (vs.set n v)
  | [], vs, _, h => by
    have e : vs = [] := h
    rw [e]; exact rfl
  | x :: ds, _, 0, h => by
    obtain ⟨u, r, rfl, h1, h2⟩ := h
    exact ⟨v, r, rfl, hd, h2⟩
  | x :: ds, _, n + 1, h => by
    obtain ⟨u, r, rfl, h1, h2⟩ := h
    exact ⟨u, _, rfl, h1, Dats.set hd n h2⟩
theorem Dats.erase : ∀ {ds : List D} {vs : List V} (n : Nat), Dats K T H ds vs → Dats K T H (ds.eraseIdx n) (vs.eraseIdx n)
  | [], vs, _, h => by
    have e : vs = [] := h
    rw [e]; exact rfl
  | x :: ds, _, 0, h => by
    obtain ⟨u, r, rfl, h1, h2⟩ := h
    exact h2
  | x :: ds, _, n + 1, h => by
    obtain ⟨u, r, rfl, h1, h2⟩ := h
    exact ⟨u, _, rfl, h1, Dats.erase n h2⟩
theorem Dats.dropLast {ds : List D} {vs : List V} (h : Dats K T H ds vs) : Dats K T H ds.dropLast vs.dropLast := by
  rw [List.dropLast_eq_take, List.dropLast_eq_take, h.length]
  exact h.take _
theorem Dats.rep {ds : List D} {vs : List V} (h : Dats K T H ds vs) : ∀ k : Nat, Dats K T H (List.replicate k ds).flatten (List.replicate k vs).flatten
  | 0 => rfl
  | k + 1 => by
    rw [List.replicate_succ, List.replicate_succ, List.flatten_cons, List.flatten_cons]
    exact h.append (Dats.rep h k)
theorem Dats.ints : ∀ {ns : List Int} {vs : List V}, Dats K T H (ns.map D.int) vs → vs = ns.map V.int
  | [], _, h => h
  | n :: ns, _, h => by
    obtain ⟨v, r, rfl, h1, h2⟩ := h
    rw [show v = V.int n from h1, Dats.ints h2]
    rfl
theorem Dats.of_ints : ∀ (ns : List Int), Dats K T H (ns.map D.int) (ns.map V.int)
  | [] => rfl
  | n :: ns => ⟨_, _, rfl, rfl, Dats.of_ints ns⟩
theorem Dats.bls : ∀ {ns : List Bool} {vs : List V}, Dats K T H (ns.map D.bl) vs → vs = ns.map V.bl
  | [], _, h => h
  | n :: ns, _, h => by
    obtain ⟨v, r, rfl, h1, h2⟩ := h
    rw [show v = V.bl n from h1, Dats.bls h2]
    rfl
theorem Dats.strs : ∀ {ns : List Str} {vs : List V}, Dats K T H (ns.map D.str) vs → vs = ns.map V.str ∧ ∀ s ∈ ns, s.cps.size ≤ 16777216 ∧ PyData.strOk s = true
  | [], _, h => ⟨h, fun s hs => nomatch hs⟩
  | n :: ns, _, h => by
    obtain ⟨v, r, rfl, h1, h2⟩ := h
    obtain ⟨e, q⟩ := Dats.strs h2
    rw [show v = V.str n from h1.1, e]
    refine ⟨rfl, fun s hs => ?_⟩
    rcases List.mem_cons.mp hs with rfl | hs
    · exact h1.2
    · exact q s hs
theorem Dats.of_strs : ∀ (ns : List Str), (∀ s ∈ ns, s.cps.size ≤ 16777216 ∧ PyData.strOk s = true) → Dats K T H (ns.map D.str) (ns.map V.str)
  | [], _ => rfl
  | n :: ns, h => ⟨_, _, rfl, ⟨rfl, h n List.mem_cons_self⟩, Dats.of_strs ns fun s hs => h s (List.mem_cons_of_mem _ hs)⟩
end

/-! ### frames -/
/-- all that is tracked but the tape is as it was -/
def Ext (T : Tape) (H H' : Hp) : Prop := ∀ a o, H a = some o → a ∉ T.own → H' a = some o
theorem Ext.refl {T : Tape} {H : Hp} : Ext T H H := fun _ _ h _ => h
theorem Ext.trans {T : Tape} {H H1 H2 : Hp} (a : Ext T H H1) (b : Ext T H1 H2) : Ext T H H2 := fun c o h n => b c o (a c o h n) n
theorem Ext.of_le {T : Tape} {H H' : Hp} (l : Le H H') : Ext T H H' := fun a o h _ => l a o h
theorem tapeLe {T : Tape} {H H' : Hp} (l : Le H H') (h : T.ok H) : T.ok H' := by
  cases T with
  | no => trivial
  | st p c => obtain ⟨n, a, ns, z, h1, h2⟩ := h; exact ⟨n, a, ns, z, l _ _ h1, l _ _ h2⟩
  | tp p c => obtain ⟨n, a, b, s, ns, z1, z2, h1, h2⟩ := h; exact ⟨n, a, b, s, ns, z1, z2, l _ _ h1, l _ _ h2⟩
theorem tapeLive {T : Tape} {H : Hp} (h : T.ok H) : ∀ a ∈ T.own, H a ≠ none := by
  cases T with
  | no => exact fun a z => nomatch z
  | st p c =>
    obtain ⟨n, a, ns, z, h1, h2⟩ := h
    intro b hb
    rcases List.mem_cons.mp hb with rfl | hb
    · rw [h1]; exact fun z => nomatch z
    · rcases List.mem_cons.mp hb with rfl | hb
      · rw [h2]; exact fun z => nomatch z
      · cases hb
  | tp p c =>
    obtain ⟨n, a, b, s, ns, z1, z2, h1, h2⟩ := h
    intro b hb
    rcases List.mem_cons.mp hb with rfl | hb
    · rw [h1]; exact fun z => nomatch z
    · rcases List.mem_cons.mp hb with rfl | hb
      · rw [h2]; exact fun z => nomatch z
      · cases hb
/-- O: what data may not lie in; the tape within -/
structure Ok (T : Tape) (O : List Addr) (H : Hp) : Prop where
  tape : T.ok H
  sub : ∀ a ∈ T.own, a ∈ O
  live : ∀ a ∈ O, H a ≠ none
theorem Ext.live {T : Tape} {H H' : Hp} (e : Ext T H H') (t : T.ok H') {a : Addr} (h : H a ≠ none) : H' a ≠ none := by
  by_cases ha : a ∈ T.own
  · exact tapeLive t a ha
  · cases q : H a with
    | none => exact absurd q h
    | some o => rw [e a o q ha]; exact fun z => nomatch z
theorem Ok.ext {T : Tape} {O : List Addr} {H H' : Hp} (k : Ok T O H) (e : Ext T H H') (t : T.ok H') : Ok T O H' := ⟨t, k.sub, fun a ha => e.live t (k.live a ha)⟩
theorem Ok.res {T : Tape} {O : List Addr} {H H' : Hp} (k : Ok T O H) (e : Ext T H H') : Le (res H O) (res H' O) := fun a o h => by
  obtain ⟨n, q⟩ := res_some h
  exact res_of n (e a o q fun z => n (k.sub a z))
theorem Ext.upd {T : Tape} {H : Hp} {p : Addr} {o : HO} (n : H p = none) : Ext T H (upd H p o) := fun a u h _ => by
  rw [upd_ne (ne_of_none h n)]
  exact h
theorem le_upd {H : Hp} {p : Addr} {o : HO} (n : H p = none) : Le H (upd H p o) := fun a u h => by
  rw [upd_ne (ne_of_none h n)]
  exact h
theorem Ok.new {T : Tape} {O : List Addr} {H : Hp} (k : Ok T O H) {p : Addr} (n : H p = none) : p ∉ O := fun z => k.live p z n

/-- a list that is new -/
def Fresh (K : PySem.W.Frag) (T : Tape) (O : List Addr) (H H' : Hp) (d : D) (v : V) : Prop :=
  ∀ ds, d = .lst ds → ∃ p xs, v = .ref p ∧ H p = none ∧ H' p = some (.lst xs) ∧ xs.length ≤ 16777216 ∧ Dats K T (res H' (p :: O)) ds xs
/-- what is wanted behind an expression -/
def post (K : PySem.W.Frag) (T : Tape) (O : List Addr) (fr : Bool) (H : Hp) (Q : VK) : D → Prop := fun d => ∀ v H', Ext T H H' → T.ok H' → Dat K T (res H' O) d v → (fr = true → Fresh K T O H H' d v) → Q v H'
theorem post.ext {K : PySem.W.Frag} {T : Tape} {O : List Addr} {fr : Bool} {H H1 : Hp} {Q : VK} (e : Ext T H H1) (t : T.ok H1) {d : D} (h : post K T O fr H Q d) : post K T O fr H1 Q d := fun v H' e' t' hd hf =>
  h v H' (e.trans e') t' hd fun z ds q => by
    obtain ⟨p, xs, e1, n, r⟩ := hf z ds q
    refine ⟨p, xs, e1, ?_, r⟩
    cases w : H p with
    | none => rfl
    | some o => exact absurd n (e.live t (by rw [w]; exact fun z => nomatch z))
theorem post.here {K : PySem.W.Frag} {T : Tape} {O : List Addr} {fr : Bool} {H : Hp} {Q : VK} (k : Ok T O H) {d : D} {v : V} (h : post K T O fr H Q d) (hd : Dat K T (res H O) d v) (nl : fr = true → ∀ ds, d ≠ .lst ds) : Q v H :=
  h v H Ext.refl k.tape hd fun z ds q => absurd q (nl z ds)
/-- a new list -/
theorem post.lst {K : PySem.W.Frag} {T : Tape} {O : List Addr} {fr : Bool} {H : Hp} {Q : VK} (k : Ok T O H) {ds : List D} {xs : List V} {p : Addr} (h : post K T O fr H Q (.lst ds)) (hd : Dats K T (res H O) ds xs) (z : xs.length ≤ 16777216) (n : H p = none) :
    Q (.ref p) (upd H p (.lst xs)) := by
  have l : Le (res H O) (res (upd H p (.lst xs)) (p :: O)) := fun a o q => by
    obtain ⟨na, q⟩ := res_some q
    have hne := ne_of_none q n
    refine res_of (fun z => ?_) (by rw [upd_ne hne]; exact q)
    rcases List.mem_cons.mp z with z | z
    · exact hne z
    · exact na z
  have l2 : Le (res H O) (res (upd H p (.lst xs)) O) := k.res (Ext.upd n)
  refine h _ _ (Ext.upd n) (tapeLe (le_upd n) k.tape) ⟨p, xs, rfl, res_of (k.new n) upd_same, z, hd.le l2⟩ fun _ ds' q => ?_
  cases q
  exact ⟨p, xs, rfl, n, upd_same, z, hd.le l⟩
theorem post.tup {K : PySem.W.Frag} {T : Tape} {O : List Addr} {fr : Bool} {H : Hp} {Q : VK} (k : Ok T O H) {ds : List D} {xs : List V} {p : Addr} (h : post K T O fr H Q (.tup ds)) (hd : Dats K T (res H O) ds xs) (z : xs.length ≤ 16777216) (n : H p = none) :
    Q (.ref p) (upd H p (.tup xs)) := by
  refine h _ _ (Ext.upd n) (tapeLe (le_upd n) k.tape) ⟨p, xs, rfl, .inl (.inl (res_of (k.new n) upd_same)), z, hd.le (k.res (Ext.upd n))⟩ fun _ ds' q => ?_
  cases q
end DL

set_option Elab.async false
set_option linter.all false
set_option maxRecDepth 100000
set_option maxHeartbeats 4000000
/-! DL3b: a tuple times an int, a text times an int, whatever the int. -/
namespace DL
open PySem PySem.Spec PyProof.Rows L2

theorem repS_size (x : Str) (k : Nat) : (repS x k).cps.size = x.cps.size * k := by
  show ((List.replicate k x.cps.toList).flatten.toArray).size = _
  rw [List.size_toArray, List.length_flatten, List.map_replicate, List.sum_replicate_nat, Array.length_toList, Nat.mul_comm]
/-- once, or nothing times any number: the tuple itself -/
theorem mul_same (tp : Addr) (xs : Array Value) (k0 : Nat) (di : Option Addr) (so : Array (Option Value)) (j : Int) (tk : Tok) (e0 : (decide (j < -(2 ^ 63)) || decide (j ≥ 2 ^ 63)) = false) (e1 : (xs.isEmpty || j == 1) = true) :
    Meets (Builtin.«tuple.__mul__» ⟨[.ref tp, .int j tk], []⟩) (fun _ R s => s.heap.get? tp = some { cls := .type "tuple", dict := di, data := .seq xs k0, slots := so } ∧ R (.ok (.ret (.ref tp))) s) :=
  .of_wp fun prog w A R st hh => by
    obtain ⟨hp0, g0, d0, t0, o0⟩ := st
    obtain ⟨got, hh⟩ := hh
    have idx := AutoSeq1.idx_int
    wp_walk using wpAny_loadPart' got
    repeat (first
      | (refine wpAny_ite_false (decide_eq_false (by rw [e0]; decide)) ?_; wp_walk using wpAny_loadPart' got)
      | (refine wpAny_ite_true (decide_eq_true e1) ?_; wp_walk using wpAny_loadPart' got))
    exact ⟨_, rfl, hh⟩
/-- not once: nothing -/
theorem mul_none (tp : Addr) (xs : Array Value) (k0 : Nat) (di : Option Addr) (so : Array (Option Value)) (j : Int) (tk : Tok) (e0 : (decide (j < -(2 ^ 63)) || decide (j ≥ 2 ^ 63)) = false) (e1 : (xs.isEmpty || j == 1) = false) (e2 : (decide (j ≤ 0) || xs.isEmpty) = true) :
    Meets (Builtin.«tuple.__mul__» ⟨[.ref tp, .int j tk], []⟩) (fun _ R s => s.heap.get? tp = some { cls := .type "tuple", dict := di, data := .seq xs k0, slots := so } ∧
      R (.ok (.ret (Value.ref s.heap.objs.size))) { s with heap := s.heap.push { cls := Value.type "tuple", data := Data.seq #[] }, toks := s.toks }) :=
  .of_wp fun prog w A R st hh => by
    obtain ⟨hp0, g0, d0, t0, o0⟩ := st
    obtain ⟨got, hh⟩ := hh
    have idx := AutoSeq1.idx_int
    wp_walk using wpAny_loadPart' got
    repeat (first
      | (refine wpAny_ite_false (decide_eq_false (by rw [e0]; decide)) ?_; wp_walk using wpAny_loadPart' got)
      | (refine wpAny_ite_false (decide_eq_false (by rw [e1]; decide)) ?_; wp_walk using wpAny_loadPart' got)
      | (refine wpAny_ite_true (decide_eq_true e2) ?_; wp_walk using wpAny_loadPart' got))
    exact ⟨_, rfl, hh⟩
def rMulT (K : PySem.W.Frag) : R2 := fun x y H Q => ∃ l k xs, x = .ref l ∧ y = .int k ∧ SqT K H l xs ∧ -1000 ≤ k ∧ k ≤ 1000 ∧ xs.length ≤ 1000 ∧ (xs = [] ∨ k = 1 → Q (.ref l) H) ∧ (xs ≠ [] → k ≠ 1 → ∀ p, H p = none → Q (.ref p) (upd H p (.tup (List.replicate k.toNat xs).flatten)))
theorem op_mulT {X : Cx} : OpR X (binaryOp .Mult) (rMulT X.K) := by
  intro pins s σ H x y v u Q I rx ry h
  obtain ⟨l, k, xs, rfl, rfl, hT, h1, h2, hz, q1, q2⟩ := h
  by_cases hbig : xs ≠ [] ∧ 2 ≤ k
  · exact op_repT pins s σ H _ _ v u Q I rx ry ⟨l, k, xs, rfl, rfl, hT, hbig.1, hbig.2, h2, hz, q2 hbig.1 (by omega)⟩
  · cases rx
    obtain ⟨t, rfl⟩ := ry
    obtain ⟨its, r, ⟨⟨cls, dd, data, sl⟩, ho, hc, n, hd⟩, hs⟩ := I.tuple hT
    simp only at hc hd
    subst hc hd
    have hle : its.length = xs.length := r.length.symm
    have e0 : (decide (k < -(2 ^ 63)) || decide (k ≥ 2 ^ 63)) = false := by
      rw [decide_eq_false (show ¬ k < -(2 ^ 63) by omega), decide_eq_false (show ¬ k ≥ 2 ^ 63 by omega)]
      rfl
    by_cases hsame : xs = [] ∨ k = 1
    · have e1 : (its.toArray.isEmpty || k == 1) = true := by
        rcases hsame with e | e
        · rw [e] at hle
          rw [List.eq_nil_of_length_eq_zero hle]
          rfl
        · rw [e]
          simp
      exact wpAny_binaryOp_repeat_ref (T := "tuple") (U := "int") (by decide) ⟨_, ho, rfl⟩ (fun st => typeIs_int st k t) noFill_tuple_mul F.fills_int_mul F.slot_int_rmul repeat_tuple F.slot_int_index.lookup
        (call_meets F.slot_int_rmul (typeIs_int s k t) F.entry_int_rmul (F.args_int_rmul_2 _ _) (int_rmul_tuple k t l its.toArray n dd sl)
          ⟨ho, rfl, ⟨_, ho, rfl⟩, call_meets F.slot_tuple_mul ⟨_, ho, rfl⟩ F.entry_tuple_mul (F.args_tuple_mul_2 _ _) (mul_same l its.toArray n dd sl k t e0 e1) ⟨ho, .ref l, H, I, rfl, q1 hsame⟩⟩)
    · have hx : xs ≠ [] := fun e => hsame (.inl e)
      have hk : k ≠ 1 := fun e => hsame (.inr e)
      have hk0 : k ≤ 0 := by
        by_cases h0 : k ≤ 0
        · exact h0
        · exact absurd ⟨hx, by omega⟩ hbig
      have hi : its.toArray.isEmpty = false := by
        cases its with
        | nil => exact absurd (List.eq_nil_of_length_eq_zero hle.symm) hx
        | cons a b => rfl
      have e1 : (its.toArray.isEmpty || k == 1) = false := by
        rw [hi, Bool.false_or]
        exact beq_eq_false_iff_ne.mpr hk
      have e2 : (decide (k ≤ 0) || its.toArray.isEmpty) = true := by rw [decide_eq_true hk0, Bool.true_or]
      refine wpAny_binaryOp_repeat_ref (T := "tuple") (U := "int") (by decide) ⟨_, ho, rfl⟩ (fun st => typeIs_int st k t) noFill_tuple_mul F.fills_int_mul F.slot_int_rmul repeat_tuple F.slot_int_index.lookup
        (call_meets F.slot_int_rmul (typeIs_int s k t) F.entry_int_rmul (F.args_int_rmul_2 _ _) (int_rmul_tuple k t l its.toArray n dd sl)
          ⟨ho, rfl, ⟨_, ho, rfl⟩, call_meets F.slot_tuple_mul ⟨_, ho, rfl⟩ F.entry_tuple_mul (F.args_tuple_mul_2 _ _) (mul_none l its.toArray n dd sl k t e0 e1 e2) ⟨ho, ?_⟩⟩)
      have q := q2 hx hk _ (I.hok.fresh (Nat.le_refl _))
      rw [show k.toNat = 0 by omega, show (List.replicate 0 xs).flatten = [] from rfl] at q
      refine ⟨.ref s.heap.objs.size, _, I.laid (t' := s.toks) (o := .tup []) (fun b ob q => Heap.get?_push_of_some _ q) (Nat.le_refl _) ?_, rfl, q⟩
      exact ⟨Nat.zero_le _, [], .nil, IsTup.new _ _⟩
theorem foldl_cps (l : List Nat) : ∀ (k : Nat) (acc : List Nat), (List.replicate k l.toArray).foldl (fun a b => a ++ b) acc.toArray = (acc ++ (List.replicate k l).flatten).toArray
  | 0, acc => by simp
  | k + 1, acc => by
    rw [List.replicate_succ, List.foldl_cons, show acc.toArray ++ l.toArray = (acc ++ l).toArray by simp, foldl_cps l k, List.replicate_succ, List.flatten_cons, List.append_assoc]
theorem repS_eq (x : Str) (k : Nat) : (⟨(List.replicate k x.cps).foldl (fun a b => a ++ b) #[]⟩ : Str) = repS x k := by
  have e := foldl_cps x.cps.toList k []
  rw [List.nil_append, Array.toArray_toList] at e
  exact congrArg Str.mk e
def rMulS : R2 := fun x y H Q => ∃ (z : Str) (k : Int), x = .str z ∧ y = .int k ∧ -1000000000 ≤ k ∧ k ≤ 1000000000 ∧ z.cps.size * k.toNat ≤ 16777216 ∧ z.cps.size ≤ 16777216 ∧ Q (.str (repS z k.toNat)) H
theorem op_mulS {X : Cx} : OpR X (binaryOp .Mult) rMulS := by
  intro pins s σ H x y v u Q I rx ry h
  obtain ⟨z, k, rfl, rfl, h1, h2, h3, h4, q⟩ := h
  obtain ⟨t, rfl⟩ := rx
  obtain ⟨t', rfl⟩ := ry
  have e0 : (decide (k < -(2 ^ 63)) || decide (k ≥ 2 ^ 63)) = false := by
    rw [decide_eq_false (show ¬ k < -(2 ^ 63) by omega), decide_eq_false (show ¬ k ≥ 2 ^ 63 by omega)]
    rfl
  have hlen : z.length = z.cps.size := rfl
  refine P.mul_str e0 (fun hk _ => ?_) (fun hk _ => ?_) ?_
  · have : (1000000000 : Int) ≤ (2 ^ 63 - 1) / k := by
      refine Int.le_ediv_of_mul_le (by omega) ?_
      have : (1000000000 : Int) * k ≤ 1000000000 * 1000000000 := Int.mul_le_mul_of_nonneg_left h2 (by decide)
      omega
    rw [hlen]
    omega
  · unfold Builtin.Str.tooLong
    rw [sizeLine_eq]
    exact decide_eq_false (by rw [hlen]; omega)
  · by_cases hk : k < 1
    · rw [if_pos hk]
      refine ⟨by decide, ?_⟩
      rw [show k.toNat = 0 by omega] at q
      exact ⟨.str (repS z 0), H, I.tok _, ⟨_, rfl⟩, q⟩
    · rw [if_neg hk]
      by_cases hs : (k == 1 || z.length == 0) = true
      · rw [if_pos hs]
        have e : repS z k.toNat = z := by
          rw [Bool.or_eq_true, beq_iff_eq, beq_iff_eq] at hs
          unfold repS
          rcases hs with rfl | hs
          · show (⟨(List.flatten [z.cps.toList]).toArray⟩ : Str) = z
            simp
          · have e : z.cps = #[] := Array.eq_empty_of_size_eq_zero hs
            have : z = ⟨#[]⟩ := congrArg Str.mk e
            rw [this]
            simp
        rw [e] at q
        exact ⟨.str z, H, I, ⟨_, rfl⟩, q⟩
      · rw [if_neg hs, repS_eq]
        refine ⟨?_, .str _, H, I.tok _, ⟨_, rfl⟩, q⟩
        show (repS z k.toNat).cps.size ≤ _
        rw [repS_size, sizeLine_eq]
        exact h3
end DL

set_option Elab.async false
set_option linter.all false
set_option maxRecDepth 100000
/-! DL4: operators, subscripts, built-ins by values: each keeps what D says of it. -/
namespace DL
open PySem PySem.Spec PyProof.Rows L2

theorem len_size (s : Str) : s.length = s.cps.size := rfl
theorem strOk_iff {s : Str} : PyData.strOk s = true ↔ ∀ c ∈ s.cps.toList, c < 0x110000 := by
  unfold PyData.strOk
  rw [Array.all_eq_true_iff_forall_mem]
  simp
theorem strOk_sgn {s : Str} (h : PyData.strOk s = true) {c : Nat} (hc : c ∈ s.cps.toList) : PyData.strOk (sgn c) = true :=
  strOk_iff.mpr fun d hd => by
    have e : d = c := by simpa [sgn] using hd
    rw [e]
    exact strOk_iff.mp h c hc
theorem strOk_append {s t : Str} (h : PyData.strOk s = true) (h' : PyData.strOk t = true) : PyData.strOk (s ++ t) = true :=
  strOk_iff.mpr fun d hd => by
    have e : d ∈ s.cps.toList ++ t.cps.toList := by
      have : (s ++ t).cps = s.cps ++ t.cps := rfl
      rw [this] at hd
      simpa using hd
    rcases List.mem_append.mp e with e | e
    · exact strOk_iff.mp h d e
    · exact strOk_iff.mp h' d e
theorem size_append (s t : Str) : (s ++ t).cps.size = s.cps.size + t.cps.size := by
  have : (s ++ t).cps = s.cps ++ t.cps := rfl
  rw [this, Array.size_append]
theorem mem_cutL {α : Type} {xs : List α} {lo hi : Option Int} {x : α} (h : x ∈ cutL xs lo hi) : x ∈ xs := List.mem_of_mem_drop (List.mem_of_mem_take h)
theorem cutL_length {α : Type} (xs : List α) (lo hi : Option Int) : (cutL xs lo hi).length ≤ xs.length := by
  unfold cutL
  rw [List.length_take, List.length_drop]
  omega

section
variable {K : PySem.W.Frag} {T : Tape} {O : List Addr} {H : Hp} {fr : Bool} {Q : VK}
theorem post.int (k : Ok T O H) {i : Int} (h : post K T O fr H Q (.int i)) : Q (.int i) H := h.here k rfl fun _ ds q => by cases q
theorem post.bl (k : Ok T O H) {b : Bool} (h : post K T O fr H Q (.bl b)) : Q (.bl b) H := h.here k rfl fun _ ds q => by cases q
theorem post.non (k : Ok T O H) (h : post K T O fr H Q .non) : Q .non H := h.here k rfl fun _ ds q => by cases q
theorem post.str (k : Ok T O H) {s : Str} (h : post K T O fr H Q (.str s)) (h1 : s.cps.size ≤ 16777216) (h2 : PyData.strOk s = true) : Q (.str s) H := h.here k ⟨rfl, h1, h2⟩ fun _ ds q => by cases q
end

/-- a two-place operation that keeps f -/
def RD (K : PySem.W.Frag) (fr : Bool) (f : D → D → (D → Prop) → Prop) : R2 := fun x y H Q => ∃ (T : Tape) (O : List Addr) (a b : D), Ok T O H ∧ Dat K T (res H O) a x ∧ Dat K T (res H O) b y ∧ f a b (post K T O fr H Q)

theorem dat_int {K : PySem.W.Frag} {T : Tape} {H : Hp} {i : Int} {v : V} (h : Dat K T H (.int i) v) : v = .int i := h
theorem dat_str {K : PySem.W.Frag} {T : Tape} {H : Hp} {i : Str} {v : V} (h : Dat K T H (.str i) v) : v = .str i ∧ i.cps.size ≤ 16777216 ∧ PyData.strOk i = true := h
theorem dat_tup {K : PySem.W.Frag} {T : Tape} {H : Hp} {ds : List D} {v : V} (h : Dat K T H (.tup ds) v) : ∃ a xs, v = .ref a ∧ SqT K H a xs ∧ xs.length ≤ 16777216 ∧ Dats K T H ds xs := h
theorem dat_lst {K : PySem.W.Frag} {T : Tape} {H : Hp} {ds : List D} {v : V} (h : Dat K T H (.lst ds) v) : ∃ a xs, v = .ref a ∧ H a = some (.lst xs) ∧ xs.length ≤ 16777216 ∧ Dats K T H ds xs := h

theorem Dats.nil {K : PySem.W.Frag} {T : Tape} {H : Hp} {ds : List D} (h : Dats K T H ds []) : ds = [] := List.eq_nil_of_length_eq_zero (by rw [← h.length]; rfl)
section
variable {X : Cx}
theorem strOk_rep {x : Str} (h : PyData.strOk x = true) (k : Nat) : PyData.strOk (repS x k) = true :=
  strOk_iff.mpr fun d hd => by
    have e : d ∈ (List.replicate k x.cps.toList).flatten := by simpa [repS] using hd
    obtain ⟨l, hl, hd⟩ := List.mem_flatten.mp e
    rw [List.eq_of_mem_replicate hl] at hd
    exact strOk_iff.mp h d hd
theorem op_bin (o : Operator) : OpR X (binaryOp o) (RD X.K true (dBin o)) := by
  intro pins s σ H x y v u Q I rx ry h
  obtain ⟨T, O, a, b, k, ha, hb, h⟩ := h
  unfold dBin at h
  split at h
  · cases dat_int ha; cases dat_int hb
    exact op_add pins s σ H _ _ v u Q I rx ry ⟨_, _, rfl, rfl, post.int k h⟩
  · obtain ⟨rfl, z1, s1⟩ := dat_str ha
    obtain ⟨rfl, z2, s2⟩ := dat_str hb
    exact op_add_str pins s σ H _ _ v u Q I rx ry ⟨_, _, rfl, rfl, h.1, post.str k h.2 (by rw [size_append]; exact h.1) (strOk_append s1 s2)⟩
  · obtain ⟨p, xs, rfl, q1, z1, d1⟩ := dat_tup ha
    obtain ⟨p', ys, rfl, q2, z2, d2⟩ := dat_tup hb
    have l1 := d1.length
    have l2 := d2.length
    have hz : xs.length + ys.length ≤ 16777216 := by rw [l1, l2]; exact h.1
    refine op_catA pins s σ H _ _ v u Q I rx ry ⟨p, p', xs, ys, rfl, rfl, SqT.le (res_le _ _) q1, SqT.le (res_le _ _) q2, hz, fun e => ?_, fun _ e => ?_, fun _ _ p hp => ?_⟩
    · subst e
      have e1 := d1.nil
      subst e1
      exact h.2.here k hb fun _ ds q => by cases q
    · subst e
      have e1 := d2.nil
      subst e1
      rw [List.append_nil] at h
      exact h.2.here k ha fun _ ds q => by cases q
    · exact post.tup k h.2 (d1.append d2) (by rw [List.length_append]; exact hz) hp
  · obtain ⟨p, xs, rfl, q1, z1, d1⟩ := dat_lst ha
    obtain ⟨p', ys, rfl, q2, z2, d2⟩ := dat_lst hb
    have hz : xs.length + ys.length ≤ 16777216 := by rw [d1.length, d2.length]; exact h.1
    refine op_cat pins s σ H _ _ v u Q I rx ry ⟨p, p', xs, ys, rfl, rfl, res_le _ _ _ _ q1, res_le _ _ _ _ q2, hz, fun p hp => ?_⟩
    exact post.lst k h.2 (d1.append d2) (by rw [List.length_append]; exact hz) hp
  · cases dat_int ha; cases dat_int hb
    exact op_sub pins s σ H _ _ v u Q I rx ry ⟨_, _, rfl, rfl, post.int k h⟩
  · cases dat_int ha; cases dat_int hb
    exact op_mul pins s σ H _ _ v u Q I rx ry ⟨_, _, rfl, rfl, h.1, post.int k h.2⟩
  · obtain ⟨p, xs, rfl, q1, z1, d1⟩ := dat_lst ha
    cases dat_int hb
    obtain ⟨⟨z3, z4, z5⟩, h⟩ := h
    rw [← d1.length] at z5
    refine op_rep pins s σ H _ _ v u Q I rx ry ⟨p, _, xs, rfl, rfl, res_le _ _ _ _ q1, by omega, by omega, z5, fun p hp => ?_⟩
    refine post.lst k h (d1.rep _) ?_ hp
    rw [List.length_flatten, List.map_replicate, List.sum_replicate_nat, Nat.mul_comm]
    exact z5
  · obtain ⟨p, xs, rfl, q1, z1, d1⟩ := dat_tup ha
    cases dat_int hb
    rename_i ds j
    obtain ⟨⟨z3, z4, z5⟩, h⟩ := h
    rw [← d1.length] at z5
    refine op_mulT pins s σ H _ _ v u Q I rx ry ⟨p, _, xs, rfl, rfl, SqT.le (res_le _ _) q1, z3, z4, z5, fun e => ?_, fun _ _ p hp => ?_⟩
    · have e : (List.replicate j.toNat ds).flatten = ds := by
        rcases e with e | e
        · subst e
          have e1 := d1.length
          have e2 : ds = [] := List.eq_nil_of_length_eq_zero e1.symm
          rw [e2]
          simp
        · rw [e]
          simp
      rw [e] at h
      exact h.here k ha fun _ ds q => by cases q
    · refine post.tup k h (d1.rep _) ?_ hp
      rw [List.length_flatten, List.map_replicate, List.sum_replicate_nat]
      have : j.toNat * xs.length ≤ 1000 * 1000 := Nat.mul_le_mul (by omega) z5
      omega
  · obtain ⟨rfl, z1, s1⟩ := dat_str ha
    cases dat_int hb
    exact op_mulS pins s σ H _ _ v u Q I rx ry ⟨_, _, rfl, rfl, h.1.1, h.1.2.1, h.1.2.2, z1, post.str k h.2 (by rw [repS_size]; exact h.1.2.2) (strOk_rep s1 _)⟩
  · cases dat_int ha; cases dat_int hb
    exact op_fdiv pins s σ H _ _ v u Q I rx ry ⟨_, _, rfl, rfl, h.1, post.int k h.2⟩
  · cases dat_int ha; cases dat_int hb
    exact op_mod pins s σ H _ _ v u Q I rx ry ⟨_, _, rfl, rfl, h.1, post.int k h.2⟩
  · cases dat_int ha; cases dat_int hb
    exact op_pow pins s σ H _ _ v u Q I rx ry ⟨_, _, rfl, rfl, h.1, post.int k h.2⟩
  · exact h.elim
end

/-! ### equality -/
mutual
def D.py : D → PyData
  | .non => .none | .bl b => .bool b | .int i => .int i | .str s => .str s
  | .tup ds => .tuple (D.pys ds)
  | .lst ds => .list (D.pys ds)
  | .dic _ _ => .none | .tape _ => .none
def D.pys : List D → List PyData
  | [] => []
  | d :: ds => d.py :: D.pys ds
end
section
variable {K : PySem.W.Frag} {T : Tape} {H H' : Hp}
theorem sqT_sub {a : Addr} {xs : List V} (l : Le H H') (h : SqT K H a xs) : SqT K H' a xs := SqT.le l h
mutual
theorem dat_dp (l : Le H H') : ∀ (d : D) (n : Nat) (v : V), shal n d = true → Dat K T H d v → Dp K H' v d.py ∧ d.py.canLay0 = true ∧ d.py.depth ≤ n
  | .non, n, v, _, h => by
    have e : v = .non := h
    subst e
    exact ⟨.non, by simp [D.py, PyData.canLay0], by simp [D.py, PyData.depth]⟩
  | .bl b, n, v, _, h => by
    have e : v = .bl b := h
    subst e
    exact ⟨.bl b, by simp [D.py, PyData.canLay0], by simp [D.py, PyData.depth]⟩
  | .int b, n, v, _, h => by
    have e : v = .int b := h
    subst e
    exact ⟨.int b, by simp [D.py, PyData.canLay0], by simp [D.py, PyData.depth]⟩
  | .str b, n, v, _, h => by
    obtain ⟨e, _, k⟩ := dat_str h
    subst e
    exact ⟨.str b, by simpa [D.py, PyData.canLay0] using k, by simp [D.py, PyData.depth]⟩
  | .tup ds, 0, v, s, h => by simp [shal] at s
  | .lst ds, 0, v, s, h => by simp [shal] at s
  | .tup ds, n + 1, v, s, h => by
    obtain ⟨a, xs, rfl, q, _, hs⟩ := dat_tup h
    obtain ⟨h1, h2, h3⟩ := dats_dp l ds n xs (by simpa [shal] using s) hs
    refine ⟨.tup (SqT.le l q) h1, by simpa [D.py, PyData.canLay0] using h2, ?_⟩
    simp only [D.py, PyData.depth]
    omega
  | .lst ds, n + 1, v, s, h => by
    obtain ⟨a, xs, rfl, q, _, hs⟩ := dat_lst h
    obtain ⟨h1, h2, h3⟩ := dats_dp l ds n xs (by simpa [shal] using s) hs
    refine ⟨.lst (SqL.of (l _ _ q)) h1, by simpa [D.py, PyData.canLay0] using h2, ?_⟩
    simp only [D.py, PyData.depth]
    omega
  | .dic _ _, n, v, s, h => by cases n <;> simp [shal] at s
  | .tape _, n, v, s, h => by cases n <;> simp [shal] at s
theorem dats_dp (l : Le H H') : ∀ (ds : List D) (n : Nat) (vs : List V), (∀ d ∈ ds, shal n d = true) → Dats K T H ds vs → DpAll K H' vs (D.pys ds) ∧ PyData.canLayAll0 (D.pys ds) = true ∧ PyData.depthAll (D.pys ds) ≤ n
  | [], n, vs, _, h => by
    have e : vs = [] := h
    subst e
    exact ⟨.nil, by simp [D.pys, PyData.canLayAll0], by simp [D.pys, PyData.depthAll]⟩
  | d :: ds, n, vs, s, h => by
    obtain ⟨v, r, rfl, h1, h2⟩ := h
    obtain ⟨a1, a2, a3⟩ := dat_dp l d n v (s d List.mem_cons_self) h1
    obtain ⟨b1, b2, b3⟩ := dats_dp l ds n r (fun e he => s e (List.mem_cons_of_mem _ he)) h2
    refine ⟨.cons a1 b1, by simp [D.pys, PyData.canLayAll0, a2, b2], ?_⟩
    simp only [D.pys, PyData.depthAll]
    omega
end
end
mutual
theorem eqD_py : ∀ (a b : D) (n m : Nat), shal n a = true → shal m b = true → eqD a b = PyData.eqv a.py b.py
  | .non, b, n, m, _, hb => by cases b <;> first | (exfalso; cases m <;> simp [shal] at hb; done) | simp [eqD, D.py, PyData.eqv]
  | .bl x, b, n, m, _, hb => by cases b <;> first | (exfalso; cases m <;> simp [shal] at hb; done) | simp [eqD, D.py, PyData.eqv]
  | .int x, b, n, m, _, hb => by cases b <;> first | (exfalso; cases m <;> simp [shal] at hb; done) | simp [eqD, D.py, PyData.eqv]
  | .str x, b, n, m, _, hb => by cases b <;> first | (exfalso; cases m <;> simp [shal] at hb; done) | simp [eqD, D.py, PyData.eqv]
  | .tup xs, b, n, m, ha, hb => by
    cases n with
    | zero => simp [shal] at ha
    | succ n =>
      cases b with
      | tup ys =>
        cases m with
        | zero => simp [shal] at hb
        | succ m =>
          simp only [eqD, D.py, PyData.eqv]
          exact eqDs_py xs ys n m (by simpa [shal] using ha) (by simpa [shal] using hb)
      | dic _ _ => cases m <;> simp [shal] at hb
      | tape _ => cases m <;> simp [shal] at hb
      | _ => simp [eqD, D.py, PyData.eqv]
  | .lst xs, b, n, m, ha, hb => by
    cases n with
    | zero => simp [shal] at ha
    | succ n =>
      cases b with
      | lst ys =>
        cases m with
        | zero => simp [shal] at hb
        | succ m =>
          simp only [eqD, D.py, PyData.eqv]
          exact eqDs_py xs ys n m (by simpa [shal] using ha) (by simpa [shal] using hb)
      | dic _ _ => cases m <;> simp [shal] at hb
      | tape _ => cases m <;> simp [shal] at hb
      | _ => simp [eqD, D.py, PyData.eqv]
  | .dic _ _, b, n, m, ha, _ => by cases n <;> simp [shal] at ha
  | .tape _, b, n, m, ha, _ => by cases n <;> simp [shal] at ha
theorem eqDs_py : ∀ (a b : List D) (n m : Nat), (∀ d ∈ a, shal n d = true) → (∀ d ∈ b, shal m d = true) → eqDs a b = PyData.eqvAll (D.pys a) (D.pys b)
  | [], [], _, _, _, _ => by simp [eqDs, D.pys, PyData.eqvAll]
  | [], y :: ys, _, _, _, _ => by simp [eqDs, D.pys, PyData.eqvAll]
  | x :: xs, [], _, _, _, _ => by simp [eqDs, D.pys, PyData.eqvAll]
  | x :: xs, y :: ys, n, m, ha, hb => by
    simp only [eqDs, D.pys, PyData.eqvAll]
    rw [eqD_py x y n m (ha x List.mem_cons_self) (hb y List.mem_cons_self), eqDs_py xs ys n m (fun d hd => ha d (List.mem_cons_of_mem _ hd)) (fun d hd => hb d (List.mem_cons_of_mem _ hd))]
end
theorem any_py : ∀ (ds : List D) (a : D), (∀ d ∈ ds, shal 8 d = true) → shal 8 a = true → (D.pys ds).any (fun y => PyData.eqv y a.py) = ds.any fun z => eqD z a
  | [], _, _, _ => by simp [D.pys]
  | d :: ds, a, h, ha => by
    simp only [D.pys, List.any_cons]
    rw [any_py ds a (fun d hd => h d (List.mem_cons_of_mem _ hd)) ha, ← eqD_py d a 8 8 (h d List.mem_cons_self) ha]
theorem shaped_of {d : D} {n : Nat} (h1 : d.py.canLay0 = true) (h2 : d.py.depth ≤ n) (hn : n ≤ 64) : SeqAt.shaped d.py = true := by
  unfold SeqAt.shaped
  rw [h1, Bool.true_and, decide_eq_true_eq]
  omega

/-! ### a tuple and a dict -/
theorem tuple_eq_declines_dict (l b : Addr) (items : Array Value) (es : Array DictEntry) (n ep : Nat) (dd dd2 : Option Addr) (sl sl2 : Array (Option Value)) :
    Meets (Builtin.«tuple.__eq__» ⟨[.ref l, .ref b], []⟩) (fun _ R s => s.heap.get? l = some { cls := .type "tuple", dict := dd, data := .seq items n, slots := sl } ∧ s.heap.get? b = some { cls := .type "dict", dict := dd2, data := .dict es ep, slots := sl2 } ∧ R (.ok (.ret .notImplemented)) s) :=
  .of_wp fun prog w A R s h => by obtain ⟨hp, g, d, tk, os⟩ := s; obtain ⟨hl, hb, h⟩ := h; have f1 := F.sub_dict_tuple; wp_walk using wpAny_loadPart' hl, wpAny_loadPart' hb; exact ⟨_, rfl, h⟩
theorem dict_eq_declines_tuple (l b : Addr) (items : Array Value) (es : Array DictEntry) (n ep : Nat) (dd dd2 : Option Addr) (sl sl2 : Array (Option Value)) :
    Meets (Builtin.«dict.__eq__» ⟨[.ref b, .ref l], []⟩) (fun _ R s => s.heap.get? l = some { cls := .type "tuple", dict := dd, data := .seq items n, slots := sl } ∧ s.heap.get? b = some { cls := .type "dict", dict := dd2, data := .dict es ep, slots := sl2 } ∧ R (.ok (.ret .notImplemented)) s) :=
  .of_wp fun prog w A R s h => by obtain ⟨hp, g, d, tk, os⟩ := s; obtain ⟨hl, hb, h⟩ := h; have f1 := F.sub_tuple_dict; wp_walk using wpAny_loadPart' hl, wpAny_loadPart' hb; exact ⟨_, rfl, h⟩
theorem eqAt_tuple_dict {A : Around} {s : Shared} {l b : Addr} {items : Array Value} {o : Obj} {es : Array DictEntry} {ep : Nat} (hl : s.heap.IsTuple l items) (ho2 : s.heap.get? b = some o) (hex : o.ExactDict) (hdt : o.data = .dict es ep) (hu : A.units < cLine) : SeqAt.EqAt A s (.ref l) (.ref b) false := by
  obtain ⟨⟨cls, dd, data, sl⟩, ho, hc, n, hd⟩ := id hl
  obtain ⟨cls2, dd2, data2, sl2⟩ := o
  have hc2 : cls2 = .type "dict" := hex.1
  simp only at hc hd hdt
  subst hc hd hdt hc2
  have hne : l ≠ b := fun z => by
    rw [z, ho2] at ho
    injection ho with e
    injection e with e1
    exact absurd e1 (by decide)
  refine SeqAt.EqAt.of_refs hne fun prog w E Q h => ?_
  exact (SeqAt.rc_eq_decline_or (k := false) ⟨_, ho, rfl⟩ ⟨_, ho2, rfl⟩ (by decide) F.sub_dict_tuple F.slot_tuple_eq F.slot_dict_eq_refl
    (fun _ hq => call_meets F.slot_tuple_eq ⟨_, ho, rfl⟩ F.entry_tuple_eq (F.args_tuple_eq_2 _ _) (tuple_eq_declines_dict l b items es n ep dd dd2 sl sl2) ⟨ho, ho2, hq⟩)
    (fun _ hq => call_meets F.slot_dict_eq_refl ⟨_, ho2, rfl⟩ F.entry_dict_eq (F.args_dict_eq_2 _ _) (dict_eq_declines_tuple l b items es n ep dd dd2 sl sl2) ⟨ho, ho2, hq⟩)
    (fun _ hq => SeqAt.wpAny_isSame_ref_other' hne ho ho2 (by simp) hq) (.inr hu) h)
section
variable {X : Cx}
theorem in_seq (hu : X.A.units + 65 < cLine) {K : PySem.W.Frag} (hK : K = X.K) {T : Tape} {O : List Addr} {pins : List (Addr × Obj)} {s : Shared} {σ : L2.St} {H : Hp} {x y : V} {v u : Value} {E : Value → Shared → Prop} {Q : Value → Shared → Prop} (I : Inv X pins σ H s) (rx : RelV x v) (ry : RelV y u)
    {a b : D} {ds : List D} (hb : b = .tup ds ∨ b = .lst ds) (da : Dat K T (res H O) a x) (db : Dat K T (res H O) b y) (sa : shal 8 a = true) (sb : ds.all (shal 8) = true) (neg : Bool)
    (h : Q (.bool (if neg then !ds.any fun z => eqD z a else ds.any fun z => eqD z a)) s) : wpAny (model X.prog X.w) X.A (compareOp (if neg then .NotIn else .In) v u) Q E s := by
  subst hK
  have sb' : ∀ d ∈ ds, shal 8 d = true := List.all_eq_true.mp sb
  obtain ⟨a1, a2, a3⟩ := dat_dp (res_le H O) a 8 x sa da
  obtain ⟨as, r1⟩ := Dp.reads I _ _ v a1 rx
  have e := any_py ds a sb' sa
  have hr : ∀ xs : List PyData, X.A.units + 1 + min (PyData.depthAll xs) a.py.depth < cLine := fun xs => by
    have := Nat.min_le_right (PyData.depthAll xs) a.py.depth
    omega
  rcases hb with rfl | rfl
  · obtain ⟨b1, b2, b3⟩ := dat_dp (res_le H O) (.tup ds) 9 y (by simpa [shal] using sb) db
    obtain ⟨bs, r2⟩ := Dp.reads I _ _ u b1 ry
    have b2' : PyData.canLayAll0 (D.pys ds) = true := by simpa [D.py, PyData.canLay0] using b2
    have r2' : Reads s.heap u (.tuple (D.pys ds)) bs := by simpa [D.py] using r2
    cases neg with
    | false => exact SeqAt.in_tuple_reads r2' r1 b2' a2 (hr _) (by rw [e]; exact h)
    | true => exact SeqAt.notIn_tuple_reads r2' r1 b2' a2 (hr _) (by rw [e]; exact h)
  · obtain ⟨b1, b2, b3⟩ := dat_dp (res_le H O) (.lst ds) 9 y (by simpa [shal] using sb) db
    obtain ⟨bs, r2⟩ := Dp.reads I _ _ u b1 ry
    have b2' : PyData.canLayAll0 (D.pys ds) = true := by simpa [D.py, PyData.canLay0] using b2
    have r2' : Reads s.heap u (.list (D.pys ds)) bs := by simpa [D.py] using r2
    cases neg with
    | false => exact SeqAt.in_list_reads r2' r1 b2' a2 (hr _) (by rw [e]; exact h)
    | true => exact SeqAt.notIn_list_reads r2' r1 b2' a2 (hr _) (by rw [e]; exact h)
/-- a dict among tuples -/
theorem in_dic (hu : X.A.units + 65 < cLine) {K : PySem.W.Frag} (hK : K = X.K) {T : Tape} {O : List Addr} {pins : List (Addr × Obj)} {s : Shared} {σ : L2.St} {H : Hp} {x y : V} {v u : Value} {E : Value → Shared → Prop} {Q : Value → Shared → Prop} (I : Inv X pins σ H s) (rx : RelV x v) (ry : RelV y u)
    {a b : D} {ds : List D} (hb : b = .tup ds ∨ b = .lst ds) (da : Dat K T (res H O) a x) (db : Dat K T (res H O) b y) (sa : isDic a = true) (sb : ds.all isTup = true) (neg : Bool)
    (h : Q (.bool (if neg then !ds.any fun z => eqD z a else ds.any fun z => eqD z a)) s) : wpAny (model X.prog X.w) X.A (compareOp (if neg then .NotIn else .In) v u) Q E s := by
  subst hK
  cases a with
  | dic ks vs =>
    obtain ⟨p, kvs, rfl, hp, _, _⟩ := da
    cases rx
    obtain ⟨_, _, _, _, o, es, ep, ho, hex, hdt, _⟩ := I.hok p _ (res_le _ _ _ _ hp)
    have hany : (ds.any fun z => eqD z (.dic ks vs)) = false := by
      rw [List.any_eq_false]
      intro z hz
      have := List.all_eq_true.mp sb z hz
      cases z with
      | tup xs => exact fun z => Bool.noConfusion (show false = true from z)
      | _ => cases this
    rw [hany] at h
    have key : ∀ (its : List Value) (xs : List V), Vals xs its → Dats X.K T (res H O) ds xs → ∀ z, z ∈ its.toArray → SeqAt.EqAt X.A.in1 s z (.ref p) ((fun _ => false) z) := fun its xs r hd z hz => by
      obtain ⟨i, hi⟩ := List.getElem?_of_mem (show z ∈ its by simpa using hz)
      have hil : i < its.length := (List.getElem?_eq_some_iff.mp hi).1
      obtain ⟨w, hw⟩ : ∃ w, xs[i]? = some w := ⟨xs[i]'(by rw [r.length]; exact hil), List.getElem?_eq_getElem _⟩
      obtain ⟨d, hd1, hd2⟩ := hd.get' hw
      have ht := List.all_eq_true.mp sb d (List.mem_of_getElem? hd1)
      cases d with
      | tup es' =>
        obtain ⟨q, ys, rfl, hq, _, _⟩ := dat_tup hd2
        obtain ⟨w', hw', rw'⟩ := r.get hw
        rw [hi] at hw'
        cases hw'
        cases rw'
        obtain ⟨its2, _, pl, _⟩ := I.tuple (SqT.le (res_le _ _) hq)
        exact eqAt_tuple_dict pl ho hex hdt (by show X.A.units + 1 < cLine; omega)
      | _ => cases ht
    rcases hb with rfl | rfl
    · obtain ⟨q, xs, rfl, hq, _, hs⟩ := dat_tup db
      cases ry
      obtain ⟨its, r, pl, _⟩ := I.tuple (SqT.le (res_le _ _) hq)
      have z : its.toArray.any (fun _ => false) = false := by simp
      cases neg with
      | false => exact SeqAt.in_tupleAt (fun _ => false) pl (key its xs r hs) (by rw [z]; exact h)
      | true => exact SeqAt.notIn_tupleAt (fun _ => false) pl (key its xs r hs) (by rw [z]; exact h)
    · obtain ⟨q, xs, rfl, hq, _, hs⟩ := dat_lst db
      cases ry
      obtain ⟨its, r, pl, _⟩ := I.list (SqL.of (res_le _ _ _ _ hq))
      have z : its.toArray.any (fun _ => false) = false := by simp
      cases neg with
      | false => exact SeqAt.in_listAt (fun _ => false) pl.isList (key its xs r hs) (by rw [z]; exact h)
      | true => exact SeqAt.notIn_listAt (fun _ => false) pl.isList (key its xs r hs) (by rw [z]; exact h)
  | _ => cases sa
theorem isNon_of {K : PySem.W.Frag} {T : Tape} {H : Hp} {d : D} {v : V} (ht : ∀ k, T.kd = some k → T.at ≠ .non) (h : Dat K T H d v) : isNon d = decide (v = .non) := by
  cases d with
  | non => rw [show v = .non from h]; rfl
  | bl b => rw [show v = .bl b from h]; rfl
  | int b => rw [show v = .int b from h]; rfl
  | str b => rw [(dat_str h).1]; rfl
  | tup ds => obtain ⟨a, xs, rfl, _⟩ := dat_tup h; rfl
  | lst ds => obtain ⟨a, xs, rfl, _⟩ := dat_lst h; rfl
  | dic ks vs => obtain ⟨a, xs, rfl, _⟩ := h; rfl
  | tape k =>
    have e : v = T.at := h.1
    rw [e, decide_eq_false (ht _ h.2)]
    rfl
theorem tape_at (T : Tape) : ∀ k, T.kd = some k → T.at ≠ .non := by
  cases T with
  | no => exact fun _ h => nomatch h
  | st p c => exact fun _ _ h => nomatch h
  | tp p c => exact fun _ _ h => nomatch h
theorem op_cmp (hu : X.A.units + 65 < cLine) (o : CmpOp) : OpR X (compareOp o) (RD X.K true (dCmp o)) := by
  intro pins s σ H x y v u Q I rx ry h
  obtain ⟨T, O, a, b, k, ha, hb, h⟩ := h
  unfold dCmp at h
  split at h
  · obtain ⟨⟨sa, sb⟩, h⟩ := h
    obtain ⟨a1, a2, a3⟩ := dat_dp (res_le H O) _ 8 x sa ha
    obtain ⟨b1, b2, b3⟩ := dat_dp (res_le H O) _ 8 y sb hb
    refine op_eqD (by omega) pins s σ H _ _ v u Q I rx ry ⟨_, _, a1, b1, shaped_of a2 a3 (by decide), shaped_of b2 b3 (by decide), ?_⟩
    rw [← eqD_py _ _ 8 8 sa sb]
    exact post.bl k h
  · obtain ⟨⟨sa, sb⟩, h⟩ := h
    obtain ⟨a1, a2, a3⟩ := dat_dp (res_le H O) _ 8 x sa ha
    obtain ⟨b1, b2, b3⟩ := dat_dp (res_le H O) _ 8 y sb hb
    refine op_neD (by omega) pins s σ H _ _ v u Q I rx ry ⟨_, _, a1, b1, shaped_of a2 a3 (by decide), shaped_of b2 b3 (by decide), ?_⟩
    rw [← eqD_py _ _ 8 8 sa sb]
    exact post.bl k h
  · cases dat_int ha; cases dat_int hb
    exact op_lt pins s σ H _ _ v u Q I rx ry ⟨_, _, rfl, rfl, post.bl k h⟩
  · cases dat_int ha; cases dat_int hb
    exact op_le pins s σ H _ _ v u Q I rx ry ⟨_, _, rfl, rfl, post.bl k h⟩
  · cases dat_int ha; cases dat_int hb
    exact op_gt pins s σ H _ _ v u Q I rx ry ⟨_, _, rfl, rfl, post.bl k h⟩
  · cases dat_int ha; cases dat_int hb
    exact op_ge pins s σ H _ _ v u Q I rx ry ⟨_, _, rfl, rfl, post.bl k h⟩
  · obtain ⟨rfl, z1, s1⟩ := dat_str ha
    obtain ⟨rfl, z2, s2⟩ := dat_str hb
    exact op_lt_str pins s σ H _ _ v u Q I rx ry ⟨_, _, rfl, rfl, post.bl k h⟩
  · obtain ⟨rfl, z1, s1⟩ := dat_str ha
    obtain ⟨rfl, z2, s2⟩ := dat_str hb
    exact op_le_str pins s σ H _ _ v u Q I rx ry ⟨_, _, rfl, rfl, post.bl k h⟩
  · have e : y = .non := hb
    subst e
    refine op_isN pins s σ H _ _ v u Q I rx ry ⟨rfl, ?_⟩
    rw [← isNon_of (tape_at T) ha]
    exact post.bl k h
  · have e : y = .non := hb
    subst e
    refine op_notN pins s σ H _ _ v u Q I rx ry ⟨rfl, ?_⟩
    rw [← isNon_of (tape_at T) ha]
    exact post.bl k h
  · rename_i a b
    obtain rfl : x = .bl a := ha
    obtain rfl : y = .bl b := hb
    exact op_isBl pins s σ H _ _ v u Q I rx ry ⟨a, b, rfl, rfl, post.bl k (by rw [show decide (a = b) = (a == b) by cases a <;> cases b <;> rfl]; exact h)⟩
  · rename_i a b
    obtain rfl : x = .bl a := ha
    obtain rfl : y = .bl b := hb
    exact op_notBl pins s σ H _ _ v u Q I rx ry ⟨a, b, rfl, rfl, post.bl k (by rw [show decide (a = b) = (a == b) by cases a <;> cases b <;> rfl]; exact h)⟩
  · rcases h.1 with h1 | h1
    · exact in_seq hu rfl I rx ry (.inl rfl) ha hb h1.1 h1.2 false ⟨.bl _, H, I, rfl, post.bl k h.2⟩
    · exact in_dic hu rfl I rx ry (.inl rfl) ha hb h1.1 h1.2 false ⟨.bl _, H, I, rfl, post.bl k h.2⟩
  · rcases h.1 with h1 | h1
    · exact in_seq hu rfl I rx ry (.inr rfl) ha hb h1.1 h1.2 false ⟨.bl _, H, I, rfl, post.bl k h.2⟩
    · exact in_dic hu rfl I rx ry (.inr rfl) ha hb h1.1 h1.2 false ⟨.bl _, H, I, rfl, post.bl k h.2⟩
  · rcases h.1 with h1 | h1
    · exact in_seq hu rfl I rx ry (.inl rfl) ha hb h1.1 h1.2 true ⟨.bl _, H, I, rfl, post.bl k h.2⟩
    · exact in_dic hu rfl I rx ry (.inl rfl) ha hb h1.1 h1.2 true ⟨.bl _, H, I, rfl, post.bl k h.2⟩
  · rcases h.1 with h1 | h1
    · exact in_seq hu rfl I rx ry (.inr rfl) ha hb h1.1 h1.2 true ⟨.bl _, H, I, rfl, post.bl k h.2⟩
    · exact in_dic hu rfl I rx ry (.inr rfl) ha hb h1.1 h1.2 true ⟨.bl _, H, I, rfl, post.bl k h.2⟩
  · obtain ⟨c, rfl, h⟩ := h
    obtain ⟨rfl, z1, s1⟩ := dat_str ha
    obtain ⟨rfl, z2, s2⟩ := dat_str hb
    exact op_in_sign pins s σ H _ _ v u Q I rx ry ⟨c, _, rfl, rfl, post.bl k h⟩
  · obtain ⟨c, rfl, h⟩ := h
    obtain ⟨rfl, z1, s1⟩ := dat_str ha
    obtain ⟨rfl, z2, s2⟩ := dat_str hb
    exact op_notIn_sign pins s σ H _ _ v u Q I rx ry ⟨c, _, rfl, rfl, post.bl k h⟩
  · exact h.elim
end
end DL

set_option Elab.async false
set_option linter.all false
set_option maxRecDepth 100000
/-! DL5: subscripts, slices, built-ins, isinstance by values. -/
namespace DL
open PySem PySem.Spec PyProof.Rows L2

/-- a call by values that keeps f -/
def RL (K : PySem.W.Frag) (fr : Bool) (f : List D → (D → Prop) → Prop) : List V → Hp → VK → Prop := fun xs H Q => ∃ (T : Tape) (O : List Addr) (ds : List D), Ok T O H ∧ Dats K T (res H O) ds xs ∧ f ds (post K T O fr H Q)
/-- a method by values -/
def RM (K : PySem.W.Frag) (fr : Bool) (f : D → List D → (D → Prop) → Prop) : V → List V → Hp → VK → Prop := fun x xs H Q => ∃ (T : Tape) (O : List Addr) (o : D) (ds : List D), Ok T O H ∧ Dat K T (res H O) o x ∧ Dats K T (res H O) ds xs ∧ f o ds (post K T O fr H Q)
def RS (K : PySem.W.Frag) : V → Option Int → Option Int → Hp → VK → Prop := fun x lo hi H Q => ∃ (T : Tape) (O : List Addr) (a : D), Ok T O H ∧ Dat K T (res H O) a x ∧ dSl a lo hi (post K T O true H Q)

theorem Dats.atI {K : PySem.W.Frag} {T : Tape} {H : Hp} {ds : List D} {xs : List V} {i : Int} {d : D} (h : Dats K T H ds xs) (e : atI ds i = some d) : ∃ v, L2.atI xs i = some v ∧ Dat K T H d v := by
  unfold L2.atI at e ⊢
  rw [h.length]
  cases q : ixN ds.length i with
  | none => rw [q] at e; cases e
  | some j =>
    rw [q] at e
    exact h.get e
theorem Dats.mem {K : PySem.W.Frag} {T : Tape} {H : Hp} {ds : List D} {xs : List V} {d : D} (h : Dats K T H ds xs) (e : d ∈ ds) : ∃ v, Dat K T H d v := by
  obtain ⟨i, hi⟩ := List.getElem?_of_mem e
  obtain ⟨v, _, q⟩ := h.get hi
  exact ⟨v, q⟩
theorem atI_mem {α : Type} {xs : List α} {i : Int} {v : α} (h : L2.atI xs i = some v) : v ∈ xs := by
  obtain ⟨j, _, q, _⟩ := atI_get h
  exact List.mem_of_getElem? q
theorem cutL_dats {K : PySem.W.Frag} {T : Tape} {H : Hp} {ds : List D} {xs : List V} (h : Dats K T H ds xs) (lo hi : Option Int) : Dats K T H (cutL ds lo hi) (cutV xs lo hi) := by
  unfold cutL cutV
  rw [h.length]
  exact (h.drop _).take _
theorem cutS_eq (z : Str) (lo hi : Option Int) : cutS z lo hi = strS (cutL z.cps.toList lo hi) := by
  unfold cutS strS cutL
  rw [show z.length = z.cps.toList.length from (Array.length_toList ..).symm]
theorem cutL_whole {α : Type} {xs : List α} {lo hi : Option Int} (h : HT.sIx xs.length 0 lo = 0 ∧ HT.sIx xs.length xs.length hi = xs.length) : cutL xs lo hi = xs := by
  unfold cutL
  rw [h.1, h.2]
  simp
theorem maxI_mem : ∀ {ns : List Int}, ns ≠ [] → maxI ns ∈ ns ∧ ∀ y ∈ ns, y ≤ maxI ns
  | [], h => absurd rfl h
  | x :: xs, _ => by
    show xs.foldl max x ∈ x :: xs ∧ ∀ y ∈ x :: xs, y ≤ xs.foldl max x
    induction xs generalizing x with
    | nil => simp
    | cons z zs ih =>
      obtain ⟨h1, h2⟩ := ih (max x z) (by simp)
      show zs.foldl max (max x z) ∈ x :: z :: zs ∧ ∀ y ∈ x :: z :: zs, y ≤ zs.foldl max (max x z)
      generalize zs.foldl max (max x z) = m at h1 h2 ⊢
      have h3 := h2 (max x z) List.mem_cons_self
      refine ⟨?_, fun y hy => ?_⟩
      · rcases List.mem_cons.mp h1 with h | h
        · by_cases hz : x ≤ z
          · exact List.mem_cons_of_mem _ (List.mem_cons.mpr (.inl (by omega)))
          · exact List.mem_cons.mpr (.inl (by omega))
        · exact List.mem_cons_of_mem _ (List.mem_cons_of_mem _ h)
      · rcases List.mem_cons.mp hy with h | h
        · omega
        · rcases List.mem_cons.mp h with h | h
          · omega
          · exact h2 y (List.mem_cons_of_mem _ h)
theorem minI_mem : ∀ {ns : List Int}, ns ≠ [] → minI ns ∈ ns ∧ ∀ y ∈ ns, minI ns ≤ y
  | [], h => absurd rfl h
  | x :: xs, _ => by
    show xs.foldl min x ∈ x :: xs ∧ ∀ y ∈ x :: xs, xs.foldl min x ≤ y
    induction xs generalizing x with
    | nil => simp
    | cons z zs ih =>
      obtain ⟨h1, h2⟩ := ih (min x z) (by simp)
      show zs.foldl min (min x z) ∈ x :: z :: zs ∧ ∀ y ∈ x :: z :: zs, zs.foldl min (min x z) ≤ y
      generalize zs.foldl min (min x z) = m at h1 h2 ⊢
      have h3 := h2 (min x z) List.mem_cons_self
      refine ⟨?_, fun y hy => ?_⟩
      · rcases List.mem_cons.mp h1 with h | h
        · by_cases hz : x ≤ z
          · exact List.mem_cons.mpr (.inl (by omega))
          · exact List.mem_cons_of_mem _ (List.mem_cons.mpr (.inl (by omega)))
        · exact List.mem_cons_of_mem _ (List.mem_cons_of_mem _ h)
      · rcases List.mem_cons.mp hy with h | h
        · omega
        · rcases List.mem_cons.mp h with h | h
          · omega
          · exact h2 y (List.mem_cons_of_mem _ h)
theorem sortI_perm (ns : List Int) : (sortI ns).Perm ns := List.mergeSort_perm _ _
theorem sortI_pw (ns : List Int) : (sortI ns).Pairwise (· ≤ ·) := by
  have h := List.pairwise_mergeSort (le := fun (a b : Int) => decide (a ≤ b)) (fun a b c h1 h2 => decide_eq_true (Int.le_trans (of_decide_eq_true h1) (of_decide_eq_true h2)))
    (fun a b => by
      rw [Bool.or_eq_true, decide_eq_true_eq, decide_eq_true_eq]
      omega) ns
  exact h.imp fun h => of_decide_eq_true h
theorem sortI_eq {ns ms : List Int} (h : ms.Perm ns) (p : ms.Pairwise (· ≤ ·)) : ms = sortI ns := PySem.W.ksm_same (h.trans (sortI_perm ns).symm) p (sortI_pw ns)

section
variable {X : Cx}
theorem ix_D : IxR X (RD X.K false dIx) := by
  intro value slice pins s σ H x y v u Q I rx ry h hs
  obtain ⟨T, O, a, b, k, ha, hb, h⟩ := h
  refine ix_seq value slice pins s σ H x y v u Q I rx ry ?_ hs
  unfold dIx at h
  split at h
  · obtain ⟨d, e, h⟩ := h
    obtain ⟨p, xs, rfl, q, z, hs⟩ := dat_tup ha
    cases dat_int hb
    obtain ⟨w, e2, hd⟩ := hs.atI e
    exact .inr (.inl ⟨p, xs, _, w, rfl, rfl, SqT.le (res_le _ _) q, e2, h.here k hd fun z => nomatch z⟩)
  · obtain ⟨d, e, h⟩ := h
    obtain ⟨p, xs, rfl, q, z, hs⟩ := dat_lst ha
    cases dat_int hb
    obtain ⟨w, e2, hd⟩ := hs.atI e
    exact .inl ⟨p, xs, _, w, rfl, rfl, SqL.of (res_le _ _ _ _ q), e2, h.here k hd fun z => nomatch z⟩
  · obtain ⟨c, e, h⟩ := h
    obtain ⟨rfl, z, so⟩ := dat_str ha
    cases dat_int hb
    exact .inr (.inr ⟨_, _, c, rfl, rfl, z, e, h.here k ⟨rfl, by show 1 ≤ 16777216; omega, strOk_sgn so (atI_mem e)⟩ fun z => nomatch z⟩)
  · exact h.elim
theorem sl_D : SlR X (RS X.K) := by
  intro pins s σ H x v vl vu lo hi sl Q I rx hs pl pu h
  obtain ⟨T, O, a, k, ha, h⟩ := h
  unfold dSl at h
  split at h
  · obtain ⟨p, xs, rfl, q, z, hd⟩ := dat_tup ha
    refine sl_tupA pins s σ H _ v vl vu _ _ sl Q I rx hs pl pu ⟨p, xs, rfl, SqT.le (res_le _ _) q, fun e => ?_, fun e p hp => ?_⟩
    · rw [hd.length] at e
      rw [cutL_whole e] at h
      exact h.here k ha fun _ ds q => by cases q
    · exact post.tup k h (cutL_dats hd _ _) (Nat.le_trans (cutV_length _ _ _) z) hp
  · obtain ⟨p, xs, rfl, q, z, hd⟩ := dat_lst ha
    exact sl_list pins s σ H _ v vl vu _ _ sl Q I rx hs pl pu ⟨p, xs, rfl, SqL.of (res_le _ _ _ _ q), fun p hp => post.lst k h (cutL_dats hd _ _) (Nat.le_trans (cutV_length _ _ _) z) hp⟩
  · obtain ⟨rfl, z, so⟩ := dat_str ha
    refine sl_str pins s σ H _ v vl vu _ _ sl Q I rx hs pl pu ⟨_, rfl, z, ?_⟩
    rw [cutS_eq]
    refine post.str k h ?_ (strOk_iff.mpr fun c hc => strOk_iff.mp so c (mem_cutL (by simpa [strS] using hc)))
    show (List.toArray _).size ≤ 16777216
    rw [List.size_toArray]
    exact Nat.le_trans (cutL_length _ _ _) (by rw [Array.length_toList]; exact z)
  · exact h.elim

def Bf.val : Bf → Value
  | .len => .builtin "len" | .abs => .builtin "abs" | .int => .type "int" | .str => .type "str" | .all => .builtin "all" | .any => .builtin "any" | .sum => .builtin "sum"
  | .max => .builtin "max" | .min => .builtin "min" | .sorted => .builtin "sorted" | .tuple => .type "tuple" | .list => .type "list" | .ord => .builtin "ord"
def Bf.name : Bf → Str
  | .len => "len" | .abs => "abs" | .int => "int" | .str => "str" | .all => "all" | .any => "any" | .sum => "sum"
  | .max => "max" | .min => "min" | .sorted => "sorted" | .tuple => "tuple" | .list => "list" | .ord => "ord"
theorem Dats.two {K : PySem.W.Frag} {T : Tape} {H : Hp} {a b : D} {xs : List V} (h : Dats K T H [a, b] xs) : ∃ x y, xs = [x, y] ∧ Dat K T H a x ∧ Dat K T H b y := by
  obtain ⟨x, r, rfl, h1, y, r2, rfl, h2, e⟩ := h
  have e : r2 = [] := e
  subst e
  exact ⟨x, y, rfl, h1, h2⟩
theorem Dats.one' {K : PySem.W.Frag} {T : Tape} {H : Hp} {a : D} {xs : List V} (h : Dats K T H [a] xs) : ∃ x, xs = [x] ∧ Dat K T H a x := by
  obtain ⟨x, r, rfl, h1, e⟩ := h
  have e : r = [] := e
  subst e
  exact ⟨x, rfl, h1⟩
theorem Dats.three {K : PySem.W.Frag} {T : Tape} {H : Hp} {a b c : D} {xs : List V} (h : Dats K T H [a, b, c] xs) : ∃ x y z, xs = [x, y, z] ∧ Dat K T H a x ∧ Dat K T H b y ∧ Dat K T H c z := by
  obtain ⟨x, r, rfl, h1, h2⟩ := h
  obtain ⟨y, z, rfl, h3, h4⟩ := Dats.two (show Dats K T H [b, c] r from h2)
  exact ⟨x, y, z, rfl, h1, h3, h4⟩
theorem nuMax3_int (i j k : Int) : nuMax3 (.int i) (.int j) (.int k) = some (.int (max (max i j) k)) := by
  have h2 : ∀ a b : Int, nuMax2 (.int a) (.int b) = some (.int (max a b)) := fun a b => by
    show some (if decide (a < b) = true then V.int b else V.int a) = _
    by_cases h : a < b
    · rw [if_pos (decide_eq_true h), show max a b = b by omega]
    · rw [if_neg (by simpa using h), show max a b = a by omega]
  show (nuMax2 (.int i) (.int j)).bind (fun m => nuMax2 m (.int k)) = _
  rw [h2]
  exact h2 _ _
theorem nuMin3_int (i j k : Int) : nuMin3 (.int i) (.int j) (.int k) = some (.int (min (min i j) k)) := by
  have h2 : ∀ a b : Int, nuMin2 (.int a) (.int b) = some (.int (min a b)) := fun a b => by
    show some (if decide (b < a) = true then V.int b else V.int a) = _
    by_cases h : b < a
    · rw [if_pos (decide_eq_true h), show min a b = b by omega]
    · rw [if_neg (by simpa using h), show min a b = a by omega]
  show (nuMin2 (.int i) (.int j)).bind (fun m => nuMin2 m (.int k)) = _
  rw [h2]
  exact h2 _ _
theorem log_small {i : Int} (h0 : -1000000000 ≤ i) (h1 : i ≤ 1000000000) : i.natAbs.log2 < 1920 := by
  have h : i.natAbs < 2 ^ 30 := by
    have : (2 : Nat) ^ 30 = 1073741824 := by decide
    omega
  by_cases hz : i.natAbs = 0
  · rw [hz]
    decide
  · have := (Nat.log2_lt hz).mpr h
    omega
theorem numS_ok {i : Int} (h0 : -1000000000 ≤ i) (h1 : i ≤ 1000000000) : (numS i).cps.size ≤ 16777216 ∧ PyData.strOk (numS i) = true := by
  refine ⟨?_, strOk_iff.mpr fun c hc => ?_⟩
  · have := int_text_fits (log_small h0 h1)
    rw [sizeLine_eq] at this
    exact this
  · by_cases h : c < 0x110000
    · exact h
    · exact absurd hc (int_text_free' c ⟨by omega, .inr (by omega)⟩ i)
theorem op_bf (hc : X.calm = true) (f : Bf) : CallR X f.val (RL X.K true (dBf f)) := by
  intro pins s σ H xs us Q I r h
  obtain ⟨T, O, ds, k, hd, h⟩ := h
  unfold dBf at h
  split at h
  · obtain ⟨x, rfl, ha⟩ := hd.one'
    obtain ⟨rfl, z, so⟩ := dat_str ha
    exact call_len pins s σ H _ us Q I r ⟨_, _, rfl, ⟨z, rfl⟩, post.int k h⟩
  · obtain ⟨x, rfl, ha⟩ := hd.one'
    obtain ⟨p, xs, rfl, q, z, hs⟩ := dat_tup ha
    rw [← hs.length] at h
    exact call_len pins s σ H _ us Q I r ⟨_, _, rfl, .inr ⟨xs, SqT.le (res_le _ _) q, rfl⟩, post.int k h⟩
  · obtain ⟨x, rfl, ha⟩ := hd.one'
    obtain ⟨p, xs, rfl, q, z, hs⟩ := dat_lst ha
    rw [← hs.length] at h
    exact call_len pins s σ H _ us Q I r ⟨_, _, rfl, .inl ⟨xs, SqL.of (res_le _ _ _ _ q), rfl⟩, post.int k h⟩
  · obtain ⟨x, rfl, ha⟩ := hd.one'
    obtain ⟨p, kvs, rfl, q, h1, h2⟩ := ha
    have e := h1.length
    rw [List.length_map] at e
    rw [← e] at h
    exact call_lenD pins s σ H _ us Q I r ⟨_, _, rfl, res_le _ _ _ _ q, post.int k h⟩
  · obtain ⟨x, rfl, ha⟩ := hd.one'
    cases dat_int ha
    exact call_abs pins s σ H _ us Q I r ⟨_, rfl, post.int k h⟩
  · obtain ⟨x, rfl, ha⟩ := hd.one'
    cases dat_int ha
    exact call_int1 pins s σ H _ us Q I r (.inl ⟨_, rfl, post.int k h⟩)
  · obtain ⟨x, rfl, ha⟩ := hd.one'
    obtain rfl : x = .bl _ := ha
    exact call_int1 pins s σ H _ us Q I r (.inr ⟨_, rfl, post.int k h⟩)
  · obtain ⟨x, rfl, ha⟩ := hd.one'
    cases dat_int ha
    rename_i i
    obtain ⟨⟨z0, z1⟩, h⟩ := h
    obtain ⟨s1, s2⟩ := numS_ok z0 z1
    exact call_str_int pins s σ H _ us Q I r ⟨_, rfl, log_small z0 z1, post.str k h s1 s2⟩
  · obtain ⟨x, rfl, ha⟩ := hd.one'
    obtain ⟨bs, rfl, h⟩ := h
    obtain ⟨p, xs, rfl, q, z, hs⟩ := dat_lst ha
    cases hs.bls
    exact cr_all hc pins s σ H _ us Q I r ⟨_, bs, rfl, SqL.of (res_le _ _ _ _ q), post.bl k h⟩
  · obtain ⟨x, rfl, ha⟩ := hd.one'
    obtain ⟨bs, rfl, h⟩ := h
    obtain ⟨p, xs, rfl, q, z, hs⟩ := dat_lst ha
    cases hs.bls
    exact cr_any hc pins s σ H _ us Q I r ⟨_, bs, rfl, SqL.of (res_le _ _ _ _ q), post.bl k h⟩
  · obtain ⟨x, rfl, ha⟩ := hd.one'
    obtain ⟨bs, rfl, h⟩ := h
    obtain ⟨p, xs, rfl, q, z, hs⟩ := dat_lst ha
    cases hs.ints
    exact cr_sum hc pins s σ H _ us Q I r ⟨_, bs, rfl, SqL.of (res_le _ _ _ _ q), post.int k h⟩
  · obtain ⟨x, rfl, ha⟩ := hd.one'
    obtain ⟨ns, rfl, hn, h⟩ := h
    obtain ⟨p, xs, rfl, q, z, hs⟩ := dat_lst ha
    cases hs.ints
    obtain ⟨m1, m2⟩ := maxI_mem hn
    refine cr_max hc pins s σ H _ us Q I r ⟨_, ns, rfl, SqL.of (res_le _ _ _ _ q), List.length_pos_iff.mpr hn, fun m h1 h2 => ?_⟩
    have e : m = maxI ns := Int.le_antisymm (m2 m h1) (h2 _ m1)
    rw [e]
    exact post.int k h
  · obtain ⟨x, rfl, ha⟩ := hd.one'
    obtain ⟨ns, rfl, hn, h⟩ := h
    obtain ⟨p, xs, rfl, q, z, hs⟩ := dat_lst ha
    cases hs.ints
    obtain ⟨m1, m2⟩ := minI_mem hn
    refine cr_min hc pins s σ H _ us Q I r ⟨_, ns, rfl, SqL.of (res_le _ _ _ _ q), List.length_pos_iff.mpr hn, fun m h1 h2 => ?_⟩
    have e : m = minI ns := Int.le_antisymm (h2 _ m1) (m2 m h1)
    rw [e]
    exact post.int k h
  · obtain ⟨x, y, rfl, ha, hb⟩ := hd.two
    cases dat_int ha; cases dat_int hb
    exact call_max2 hc pins s σ H _ us Q I r ⟨_, _, rfl, post.int k h⟩
  · obtain ⟨x, y, rfl, ha, hb⟩ := hd.two
    cases dat_int ha; cases dat_int hb
    exact call_min2 hc pins s σ H _ us Q I r ⟨_, _, rfl, post.int k h⟩
  · obtain ⟨x, y, z, rfl, ha, hb, hc3⟩ := hd.three
    cases dat_int ha; cases dat_int hb; cases dat_int hc3
    exact call_max3Nu hc pins s σ H _ us Q I r ⟨_, _, _, _, rfl, nuMax3_int _ _ _, post.int k h⟩
  · obtain ⟨x, y, z, rfl, ha, hb, hc3⟩ := hd.three
    cases dat_int ha; cases dat_int hb; cases dat_int hc3
    exact call_min3Nu hc pins s σ H _ us Q I r ⟨_, _, _, _, rfl, nuMin3_int _ _ _, post.int k h⟩
  · obtain ⟨x, rfl, ha⟩ := hd.one'
    obtain ⟨ns, rfl, h⟩ := h
    obtain ⟨p, xs, rfl, q, z, hs⟩ := dat_lst ha
    cases hs.ints
    refine cr_sortedI pins s σ H _ us Q I r ⟨_, ns, rfl, SqL.of (res_le _ _ _ _ q), fun ns' p h1 h2 hp => ?_⟩
    cases sortI_eq h1 h2
    refine post.lst k h (Dats.of_ints _) ?_ hp
    have e := h1.length_eq
    rw [List.length_map] at z ⊢
    omega
  · obtain ⟨x, rfl, ha⟩ := hd.one'
    obtain ⟨p, xs, rfl, q, z, hs⟩ := dat_lst ha
    exact call_tuple_of pins s σ H _ us Q I r ⟨p, xs, rfl, .inl ⟨SqL.of (res_le _ _ _ _ q), fun l hl => post.tup k h hs z hl⟩⟩
  · obtain ⟨x, rfl, ha⟩ := hd.one'
    obtain ⟨p, xs, rfl, q, z, hs⟩ := dat_tup ha
    exact call_tuple_of pins s σ H _ us Q I r ⟨p, xs, rfl, .inr ⟨SqT.le (res_le _ _) q, h.here k ha fun _ ds q => by cases q⟩⟩
  · obtain ⟨x, rfl, ha⟩ := hd.one'
    obtain ⟨p, xs, rfl, q, z, hs⟩ := dat_lst ha
    exact call_list_of pins s σ H _ us Q I r ⟨p, xs, rfl, .inl (SqL.of (res_le _ _ _ _ q)), fun l hl => post.lst k h hs z hl⟩
  · obtain ⟨x, rfl, ha⟩ := hd.one'
    obtain ⟨p, xs, rfl, q, z, hs⟩ := dat_tup ha
    exact call_list_of pins s σ H _ us Q I r ⟨p, xs, rfl, .inr (SqT.le (res_le _ _) q), fun l hl => post.lst k h hs z hl⟩
  · obtain ⟨x, rfl, ha⟩ := hd.one'
    obtain ⟨c, rfl, h⟩ := h
    obtain ⟨rfl, z, so⟩ := dat_str ha
    exact call_ord pins s σ H _ us Q I r ⟨_, rfl, rfl, post.int k h⟩
  · exact h.elim
end
end DL

set_option Elab.async false
set_option linter.all false
set_option maxRecDepth 100000
set_option maxHeartbeats 4000000
/-! DL6: an expression of the text is what an E says (matchE), and does what it means (sound). -/
namespace DL
open PySem PySem.Spec PyProof.Rows L2

/-! ### the look -/
def visB (sc : Scope) (x : Str) : Bool := match sc.names.lookup x with
  | some .local => true | some .cell => true | some .free => true | _ => false
def locB (sc : Scope) (x : Str) : Bool := match sc.names.lookup x with
  | some .local => true | some .cell => true | _ => false
def glB (sc : Scope) (x : Str) : Bool := decide (sc.names.lookup x = some .globalImplicit) && (decide (x ≠ ("__debug__" : Str)) && decide (x ≠ ("__name__" : Str)))
def notStar : Expr → Bool
  | .Starred _ _ => false
  | _ => true
def notSet : Expr → Bool
  | .Set _ _ _ => false
  | _ => true
def notComp : Expr → Bool
  | .ListComp _ _ _ _ => false | .SetComp _ _ _ _ => false | .DictComp _ _ _ _ _ => false
  | _ => true
def notSlice : Expr → Bool
  | .Slice _ _ _ _ => false
  | _ => true
def Ctx.blk (c : Ctx) (scope : Scope) : Ctx := ⟨c.N, relS scope c.sc, fun x => scope.names.lookup x == some .cell⟩
/-- a target: a name or names -/
def matchTs (c : Ctx) : E → List Expr → Bool
  | .nil, [] => true
  | .cons (.var i) r, .Name x _ :: es => decide (c.N[i]? = some x) && locB c.sc x && (c.fn x || decide (c.sc.names.lookup x = some .local)) && matchTs c r es
  | _, _ => false
def matchT (c : Ctx) : E → Expr → Bool
  | .var i, .Name x _ => decide (c.N[i]? = some x) && locB c.sc x && (c.fn x || decide (c.sc.names.lookup x = some .local))
  | .tup es, .Tuple xs _ _ => matchTs c es xs
  | _, _ => false
def notCall0 : Expr → Bool
  | .Call (.Name _ _) [] [] _ => false
  | _ => true
def Mf.name : Mf → Str
  | .join => "join" | .index => "index" | .get => "get" | .count => "count"
theorem base_of {o : Expr} {name : Str} {env : Env} (h : notCall0 o = true) (w : Sem Value) : attributeBase o name env w = w := by
  unfold attributeBase
  split
  · simp [notCall0] at h
  · rfl
mutual
def matchE (c : Ctx) : Bool → E → Expr → Bool
  | _, .nil, _ => false
  | _, .cons _ _, _ => false
  | _, .var i, e => match e with
    | .Name x _ => decide (c.N[i]? = some x) && visB c.sc x && (decide (x ≠ ("__debug__" : Str)) && decide (x ≠ ("__classdict__" : Str)))
    | _ => false
  | _, .non, e => match e with
    | .Constant .none _ _ => true
    | _ => false
  | _, .bl b, e => match e with
    | .Constant (.bool a) _ _ => a == b
    | _ => false
  | _, .int b, e => match e with
    | .Constant (.int a) _ _ => a == b
    | _ => false
  | _, .str b, e => match e with
    | .Constant (.str a) _ _ => decide (a = b) && decide (a.cps.size ≤ 16777216) && PyData.strOk a
    | _ => false
  | _, .glob y _, e => match e with
    | .Name x _ => decide (x = y) && glB c.sc x
    | _ => false
  | _, .bin o a b, e => match e with
    | .BinOp x o' y _ => decide (o = o') && matchE c false a x && matchE c false b y
    | _ => false
  | _, .neg a, e => match e with
    | .UnaryOp .USub x _ => matchE c false a x
    | _ => false
  | _, .cmp o a b, e => match e with
    | .Compare x [o'] [y] _ => decide (o = o') && notSet y && matchE c false a x && matchE c false b y
    | _ => false
  | _, .chain o p a b d, e => match e with
    | .Compare x [o', p'] [y, z] _ => decide (o = o') && decide (p = p') && notSet y && notSet z && matchE c false a x && matchE c false b y && matchE c false d z
    | _ => false
  | _, .andd a b, e => match e with
    | .BoolOp .And [x, y] _ => matchE c false a x && matchE c false b y
    | .BoolOp .And (x :: y :: z :: r) p => matchE c false a x && matchE c false b (.BoolOp .And (y :: z :: r) p)
    | _ => false
  | _, .orr a b, e => match e with
    | .BoolOp .Or [x, y] _ => matchE c false a x && matchE c false b y
    | .BoolOp .Or (x :: y :: z :: r) p => matchE c false a x && matchE c false b (.BoolOp .Or (y :: z :: r) p)
    | _ => false
  | _, .nott a, e => match e with
    | .UnaryOp .Not x _ => matchE c false a x
    | _ => false
  | _, .ite t a b, e => match e with
    | .IfExp z x y _ => matchE c false t z && matchE c false a x && matchE c false b y
    | _ => false
  | _, .tup es, e => match e with
    | .Tuple xs _ _ => decide (xs.length ≤ 16777216) && matchEs c es xs
    | _ => false
  | _, .lst es, e => match e with
    | .List xs _ => decide (xs.length ≤ 16777216) && matchEs c es xs
    | _ => false
  | _, .ix a b, e => match e with
    | .Subscript x y _ => notSlice y && matchE c false a x && matchE c false b y
    | _ => false
  | _, .sl a lo hi, e => match e with
    | .Subscript x (.Slice l h none _) _ => matchE c false a x && (match l with
      | none => lo.isNil
      | some l => !lo.isNil && matchE c false lo l) && (match h with
      | none => hi.isNil
      | some h => !hi.isNil && matchE c false hi h)
    | _ => false
  | _, .call f _ es, e => match e with
    | .Call (.Name x _) xs [] _ => decide (x = f) && glB c.sc x && matchEs c es xs
    | _ => false
  | _, .bf f es, e => match e with
    | .Call (.Name x _) (y :: xs) [] _ => decide (x = f.name) && glB c.sc x && matchEs c es (y :: xs)
    | _ => false
  | _, .lenset a, e => match e with
    | .Call (.Name x _) [.Call (.Name z _) [y] [] _] [] _ => decide (x = ("len" : Str)) && glB c.sc x && decide (z = ("set" : Str)) && glB c.sc z && notStar y && matchE c false a y
    | _ => false
  | _, .mt m o es, e => match e with
    | .Call (.Attribute y nm ap) [x] [] cp => decide (nm = m.name) && notCall0 y && (ap.endLine == cp.line) && matchE c false o y && matchEs c es [x]
    | _ => false
  | _, .isin a ts, e => match ts, e with
    | [t], .Call (.Name x _) [y, .Name z _] [] _ => decide (x = ("isinstance" : Str)) && glB c.sc x && decide (z = (t.name : Str)) && glB c.sc z && notStar y && matchE c false a y
    | _, _ => false
  | _, .lc own elt tg it cond, e => match e with
    | .ListComp x [⟨tg', it', ifs, as⟩] scope _ => decide (as = 0) && matchE c true it it' && notSet it' && blkC c.N c.sc scope own && matchT (c.blk scope) tg tg' && (slotsOf tg).all (fun i => decide (i ∈ own.map (·.2))) &&
      (match ifs with
      | [] => cond.isNil
      | [i] => !cond.isNil && matchE (c.blk scope) false cond i
      | _ => false) && matchE (c.blk scope) false elt x
    | _ => false
  | _, .lc2 own elt tg it cond tg2 it2 cond2, e => match e with
    | .ListComp x [⟨tg', it', ifs, as⟩, ⟨tg2', it2', ifs2, as2⟩] scope _ => decide (as = 0) && decide (as2 = 0) && matchE c true it it' && notSet it' && notSet it2' && blkC c.N c.sc scope own && matchT (c.blk scope) tg tg' && matchT (c.blk scope) tg2 tg2' &&
      (slotsOf tg).all (fun i => decide (i ∈ own.map (·.2))) && (slotsOf tg2).all (fun i => decide (i ∈ own.map (·.2))) &&
      (match ifs with
      | [] => cond.isNil
      | [i] => !cond.isNil && matchE (c.blk scope) false cond i
      | _ => false) &&
      (match ifs2 with
      | [] => cond2.isNil
      | [i] => !cond2.isNil && matchE (c.blk scope) false cond2 i
      | _ => false) && matchE (c.blk scope) true it2 it2' && matchE (c.blk scope) false elt x
    | _ => false
  | im, .r1 a, e => match e with
    | .Call (.Name x _) [y] [] _ => im && decide (x = ("range" : Str)) && glB c.sc x && notStar y && matchE c false a y
    | _ => false
  | im, .r2 a b, e => match e with
    | .Call (.Name x _) [y, z] [] _ => im && decide (x = ("range" : Str)) && glB c.sc x && notStar y && notStar z && matchE c false a y && matchE c false b z
    | _ => false
  | im, .r3 a b d, e => match e with
    | .Call (.Name x _) [y, z, u] [] _ => im && decide (x = ("range" : Str)) && glB c.sc x && notStar y && notStar z && notStar u && matchE c false a y && matchE c false b z && matchE c false d u
    | _ => false
  | _, .raw l _ _ _, x => notComp x && l c x
def matchEs (c : Ctx) : E → List Expr → Bool
  | .nil, xs => match xs with
    | [] => true
    | _ => false
  | .cons a b, xs => match xs with
    | x :: xs => notStar x && matchE c false a x && matchEs c b xs
    | _ => false
  | .var _, _ => false | .non, _ => false | .bl _, _ => false | .int _, _ => false | .str _, _ => false | .glob _ _, _ => false | .bin _ _ _, _ => false | .neg _, _ => false | .cmp _ _ _, _ => false | .chain _ _ _ _ _, _ => false
  | .andd _ _, _ => false | .orr _ _, _ => false | .nott _, _ => false | .ite _ _ _, _ => false | .tup _, _ => false | .lst _, _ => false | .ix _ _, _ => false | .sl _ _ _, _ => false | .call _ _ _, _ => false | .bf _ _, _ => false
  | .lenset _, _ => false | .mt _ _ _, _ => false | .isin _ _, _ => false | .lc _ _ _ _ _, _ => false | .lc2 _ _ _ _ _ _ _ _, _ => false | .r1 _, _ => false | .r2 _ _, _ => false | .r3 _ _ _, _ => false | .raw _ _ _ _, _ => false
end

theorem mE_nil {c : Ctx} {im : Bool} {e : Expr} : matchE c im (E.nil) e = (false) := rfl
theorem mE_cons {c : Ctx} {im : Bool} {z1} {z2} {e : Expr} : matchE c im (E.cons z1 z2) e = (false) := rfl
theorem mE_var {c : Ctx} {im : Bool} {i} {e : Expr} : matchE c im (E.var i) e = (match e with
    | .Name x _ => decide (c.N[i]? = some x) && visB c.sc x && (decide (x ≠ ("__debug__" : Str)) && decide (x ≠ ("__classdict__" : Str)))
    | _ => false) := rfl
theorem mE_non {c : Ctx} {im : Bool} {e : Expr} : matchE c im (E.non) e = (match e with
    | .Constant .none _ _ => true
    | _ => false) := rfl
theorem mE_bl {c : Ctx} {im : Bool} {b} {e : Expr} : matchE c im (E.bl b) e = (match e with
    | .Constant (.bool a) _ _ => a == b
    | _ => false) := rfl
theorem mE_int {c : Ctx} {im : Bool} {b} {e : Expr} : matchE c im (E.int b) e = (match e with
    | .Constant (.int a) _ _ => a == b
    | _ => false) := rfl
theorem mE_str {c : Ctx} {im : Bool} {b} {e : Expr} : matchE c im (E.str b) e = (match e with
    | .Constant (.str a) _ _ => decide (a = b) && decide (a.cps.size ≤ 16777216) && PyData.strOk a
    | _ => false) := rfl
theorem mE_glob {c : Ctx} {im : Bool} {y} {z1} {e : Expr} : matchE c im (E.glob y z1) e = (match e with
    | .Name x _ => decide (x = y) && glB c.sc x
    | _ => false) := rfl
theorem mE_bin {c : Ctx} {im : Bool} {o} {a} {b} {e : Expr} : matchE c im (E.bin o a b) e = (match e with
    | .BinOp x o' y _ => decide (o = o') && matchE c false a x && matchE c false b y
    | _ => false) := rfl
theorem mE_neg {c : Ctx} {im : Bool} {a} {e : Expr} : matchE c im (E.neg a) e = (match e with
    | .UnaryOp .USub x _ => matchE c false a x
    | _ => false) := rfl
theorem mE_cmp {c : Ctx} {im : Bool} {o} {a} {b} {e : Expr} : matchE c im (E.cmp o a b) e = (match e with
    | .Compare x [o'] [y] _ => decide (o = o') && notSet y && matchE c false a x && matchE c false b y
    | _ => false) := rfl
theorem mE_chain {c : Ctx} {im : Bool} {o} {p} {a} {b} {d} {e : Expr} : matchE c im (E.chain o p a b d) e = (match e with
    | .Compare x [o', p'] [y, z] _ => decide (o = o') && decide (p = p') && notSet y && notSet z && matchE c false a x && matchE c false b y && matchE c false d z
    | _ => false) := rfl
theorem mE_andd {c : Ctx} {im : Bool} {a} {b} {e : Expr} : matchE c im (E.andd a b) e = (match e with
    | .BoolOp .And [x, y] _ => matchE c false a x && matchE c false b y
    | .BoolOp .And (x :: y :: z :: r) p => matchE c false a x && matchE c false b (.BoolOp .And (y :: z :: r) p)
    | _ => false) := rfl
theorem mE_orr {c : Ctx} {im : Bool} {a} {b} {e : Expr} : matchE c im (E.orr a b) e = (match e with
    | .BoolOp .Or [x, y] _ => matchE c false a x && matchE c false b y
    | .BoolOp .Or (x :: y :: z :: r) p => matchE c false a x && matchE c false b (.BoolOp .Or (y :: z :: r) p)
    | _ => false) := rfl
theorem mE_nott {c : Ctx} {im : Bool} {a} {e : Expr} : matchE c im (E.nott a) e = (match e with
    | .UnaryOp .Not x _ => matchE c false a x
    | _ => false) := rfl
theorem mE_ite {c : Ctx} {im : Bool} {t} {a} {b} {e : Expr} : matchE c im (E.ite t a b) e = (match e with
    | .IfExp z x y _ => matchE c false t z && matchE c false a x && matchE c false b y
    | _ => false) := rfl
theorem mE_tup {c : Ctx} {im : Bool} {es} {e : Expr} : matchE c im (E.tup es) e = (match e with
    | .Tuple xs _ _ => decide (xs.length ≤ 16777216) && matchEs c es xs
    | _ => false) := rfl
theorem mE_lst {c : Ctx} {im : Bool} {es} {e : Expr} : matchE c im (E.lst es) e = (match e with
    | .List xs _ => decide (xs.length ≤ 16777216) && matchEs c es xs
    | _ => false) := rfl
theorem mE_ix {c : Ctx} {im : Bool} {a} {b} {e : Expr} : matchE c im (E.ix a b) e = (match e with
    | .Subscript x y _ => notSlice y && matchE c false a x && matchE c false b y
    | _ => false) := rfl
theorem mE_sl {c : Ctx} {im : Bool} {a} {lo} {hi} {e : Expr} : matchE c im (E.sl a lo hi) e = (match e with
    | .Subscript x (.Slice l h none _) _ => matchE c false a x && (match l with
      | none => lo.isNil
      | some l => !lo.isNil && matchE c false lo l) && (match h with
      | none => hi.isNil
      | some h => !hi.isNil && matchE c false hi h)
    | _ => false) := rfl
theorem mE_call {c : Ctx} {im : Bool} {f} {z1} {es} {e : Expr} : matchE c im (E.call f z1 es) e = (match e with
    | .Call (.Name x _) xs [] _ => decide (x = f) && glB c.sc x && matchEs c es xs
    | _ => false) := rfl
theorem mE_bf {c : Ctx} {im : Bool} {f} {es} {e : Expr} : matchE c im (E.bf f es) e = (match e with
    | .Call (.Name x _) (y :: xs) [] _ => decide (x = f.name) && glB c.sc x && matchEs c es (y :: xs)
    | _ => false) := rfl
theorem mE_lenset {c : Ctx} {im : Bool} {a} {e : Expr} : matchE c im (E.lenset a) e = (match e with
    | .Call (.Name x _) [.Call (.Name z _) [y] [] _] [] _ => decide (x = ("len" : Str)) && glB c.sc x && decide (z = ("set" : Str)) && glB c.sc z && notStar y && matchE c false a y
    | _ => false) := rfl
theorem mE_mt {c : Ctx} {im : Bool} {m} {o} {es} {e : Expr} : matchE c im (E.mt m o es) e = (match e with
    | .Call (.Attribute y nm ap) [x] [] cp => decide (nm = m.name) && notCall0 y && (ap.endLine == cp.line) && matchE c false o y && matchEs c es [x]
    | _ => false) := rfl
theorem mE_isin {c : Ctx} {im : Bool} {a} {ts} {e : Expr} : matchE c im (E.isin a ts) e = (match ts, e with
    | [t], .Call (.Name x _) [y, .Name z _] [] _ => decide (x = ("isinstance" : Str)) && glB c.sc x && decide (z = (t.name : Str)) && glB c.sc z && notStar y && matchE c false a y
    | _, _ => false) := rfl
theorem mE_lc {c : Ctx} {im : Bool} {own} {elt} {tg} {it} {cond} {e : Expr} : matchE c im (E.lc own elt tg it cond) e = (match e with
    | .ListComp x [⟨tg', it', ifs, as⟩] scope _ => decide (as = 0) && matchE c true it it' && notSet it' && blkC c.N c.sc scope own && matchT (c.blk scope) tg tg' && (slotsOf tg).all (fun i => decide (i ∈ own.map (·.2))) &&
      (match ifs with
      | [] => cond.isNil
      | [i] => !cond.isNil && matchE (c.blk scope) false cond i
      | _ => false) && matchE (c.blk scope) false elt x
    | _ => false) := rfl
theorem mE_lc2 {c : Ctx} {im : Bool} {own} {elt} {tg} {it} {cond} {tg2} {it2} {cond2} {e : Expr} : matchE c im (E.lc2 own elt tg it cond tg2 it2 cond2) e = (match e with
    | .ListComp x [⟨tg', it', ifs, as⟩, ⟨tg2', it2', ifs2, as2⟩] scope _ => decide (as = 0) && decide (as2 = 0) && matchE c true it it' && notSet it' && notSet it2' && blkC c.N c.sc scope own && matchT (c.blk scope) tg tg' && matchT (c.blk scope) tg2 tg2' &&
      (slotsOf tg).all (fun i => decide (i ∈ own.map (·.2))) && (slotsOf tg2).all (fun i => decide (i ∈ own.map (·.2))) &&
      (match ifs with
      | [] => cond.isNil
      | [i] => !cond.isNil && matchE (c.blk scope) false cond i
      | _ => false) &&
      (match ifs2 with
      | [] => cond2.isNil
      | [i] => !cond2.isNil && matchE (c.blk scope) false cond2 i
      | _ => false) && matchE (c.blk scope) true it2 it2' && matchE (c.blk scope) false elt x
    | _ => false) := rfl
theorem mE_r1 {c : Ctx} {im : Bool} {a} {e : Expr} : matchE c im (E.r1 a) e = (match e with
    | .Call (.Name x _) [y] [] _ => im && decide (x = ("range" : Str)) && glB c.sc x && notStar y && matchE c false a y
    | _ => false) := rfl
theorem mE_r2 {c : Ctx} {im : Bool} {a} {b} {e : Expr} : matchE c im (E.r2 a b) e = (match e with
    | .Call (.Name x _) [y, z] [] _ => im && decide (x = ("range" : Str)) && glB c.sc x && notStar y && notStar z && matchE c false a y && matchE c false b z
    | _ => false) := rfl
theorem mE_r3 {c : Ctx} {im : Bool} {a} {b} {d} {e : Expr} : matchE c im (E.r3 a b d) e = (match e with
    | .Call (.Name x _) [y, z, u] [] _ => im && decide (x = ("range" : Str)) && glB c.sc x && notStar y && notStar z && notStar u && matchE c false a y && matchE c false b z && matchE c false d u
    | _ => false) := rfl
theorem mE_raw {c : Ctx} {im : Bool} {l} {z1} {z2} {z3} {x : Expr} : matchE c im (E.raw l z1 z2 z3) x = (notComp x && l c x) := rfl
theorem mEs_nil {c : Ctx} {xs : List Expr} : matchEs c .nil xs = (match xs with
    | [] => true
    | _ => false) := rfl
theorem mEs_cons {c : Ctx} {a b : E} {xs : List Expr} : matchEs c (.cons a b) xs = (match xs with
    | x :: xs => notStar x && matchE c false a x && matchEs c b xs
    | _ => false) := rfl

/-! ### what is asked of the module -/
structure Gx where
  prog : Program
  w : World
  K : PySem.W.Frag
  mg : Str → Option Value
  base : Heap
  A : Around
def gxOf (X : Cx) : Gx := ⟨X.prog, X.w, X.K, X.mg, X.base, X.A⟩
/-- a def's promise, by data -/
def spOf (K : PySem.W.Frag) (sp : DSpec) : Sp := fun vs H Q _ => ∃ (T : Tape) (O : List Addr) (ds : List D), Ok T O H ∧ Dats K T (res H O) ds vs ∧ sp ds (post K T O false H Q)
def HasFn (g : Gx) (f : Str) (sp : DSpec) : Prop := ∃ (fa : Addr) (fd : FuncData) (ps : List Str) (k : Nat), g.mg f = some (.ref fa) ∧ FnOk g.prog g.w g.K g.mg g.base CX0 k fa fd ps (spOf g.K sp) ∧ Room k g.A ∧ PySem.W.keepIn g.K (.ref fa) = true ∧ Binds g.K fd ps []
def HasGl (g : Gx) (x : Str) (d : D) : Prop := ∃ (u : Value) (v : V), g.mg x = some u ∧ RelV v u ∧ ∀ (T : Tape) (H : Hp), Dat g.K T H d v
def NoG (g : Gx) (x : Str) : Prop := g.mg x = none
structure XOk (X : Cx) (c : Ctx) : Prop where
  N : X.N = c.N
  nd : c.N.Nodup
  sc : X.env.scope = c.sc
  calm : X.calm = true
  hu : X.A.units + 65 < cLine
  fn : ∀ x, c.fn x = true → X.fn x = true

/-! ### what an expression does -/
structure Rp (K : PySem.W.Frag) (T : Tape) (O : List Addr) (σ : L2.St) (env : DEnv) (H : Hp) (vs : List Nat) : Prop where
  at_ : ∀ i ∈ vs, ∀ d, rdv env i = some d → ∃ v, σ[i]? = some (some v) ∧ Dat K T (res H O) d v
section
variable {K : PySem.W.Frag} {T : Tape} {O : List Addr} {σ : L2.St} {env : DEnv} {H H1 : Hp} {vs ws : List Nat}
theorem Rp.sub (r : Rp K T O σ env H vs) (h : ∀ i ∈ ws, i ∈ vs) : Rp K T O σ env H ws := ⟨fun i hi => r.at_ i (h i hi)⟩
theorem Rp.l (r : Rp K T O σ env H (vs ++ ws)) : Rp K T O σ env H vs := r.sub fun i hi => List.mem_append_left _ hi
theorem Rp.r (r : Rp K T O σ env H (vs ++ ws)) : Rp K T O σ env H ws := r.sub fun i hi => List.mem_append_right _ hi
theorem Rp.ext (r : Rp K T O σ env H vs) (k : Ok T O H) (e : Ext T H H1) : Rp K T O σ env H1 vs := ⟨fun i hi d hd => by
  obtain ⟨v, h1, h2⟩ := r.at_ i hi d hd
  exact ⟨v, h1, h2.le (k.res e)⟩⟩
end
def liftE (K : PySem.W.Frag) (e : E) : TE := fun σ H Q => ∃ (T : Tape) (env : DEnv) (O : List Addr), Ok T O H ∧ Rp K T O σ env H e.vars ∧ semE e env (post K T O e.fresh H Q)
def postB (T : Tape) (H : Hp) (Q : Bool → Hp → Prop) : D → Prop
  | .bl b => ∀ H', Ext T H H' → T.ok H' → Q b H'
  | _ => False
def liftT (K : PySem.W.Frag) (e : E) : TT := fun σ H Q => ∃ (T : Tape) (env : DEnv) (O : List Addr), Ok T O H ∧ Rp K T O σ env H e.vars ∧ semE e env (postB T H Q)
def Need (g : Gx) : E → Prop
  | .nil => True | .cons a b => Need g a ∧ Need g b
  | .var _ => True
  | .non => True | .bl _ => True | .int _ => True | .str _ => True | .glob x d => HasGl g x d
  | .bin _ a b => Need g a ∧ Need g b
  | .neg a => Need g a
  | .cmp _ a b => Need g a ∧ Need g b
  | .chain _ _ a b c => Need g a ∧ Need g b ∧ Need g c
  | .andd a b => Need g a ∧ Need g b
  | .orr a b => Need g a ∧ Need g b
  | .nott a => Need g a
  | .ite c a b => Need g c ∧ Need g a ∧ Need g b
  | .tup es => Need g es | .lst es => Need g es
  | .ix a b => Need g a ∧ Need g b
  | .sl a l h => Need g a ∧ Need g l ∧ Need g h
  | .call f sp es => HasFn g f sp ∧ Need g es
  | .bf f es => NoG g f.name ∧ Need g es
  | .lenset a => NoG g "len" ∧ NoG g "set" ∧ Need g a
  | .mt _ o es => Need g o ∧ Need g es
  | .isin a ts => NoG g "isinstance" ∧ (∀ t ∈ ts, NoG g (t.name : Str)) ∧ Need g a
  | .lc _ elt tg it cond => Need g it ∧ Need g cond ∧ Need g elt
  | .lc2 _ elt tg it cond tg2 it2 cond2 => Need g it ∧ Need g cond ∧ Need g it2 ∧ Need g cond2 ∧ Need g elt
  | .r1 a => NoG g "range" ∧ Need g a
  | .r2 a b => NoG g "range" ∧ Need g a ∧ Need g b
  | .r3 a b c => NoG g "range" ∧ Need g a ∧ Need g b ∧ Need g c
  | .raw l s v f => ∀ (X : Cx) (c : Ctx) (x : Expr), gxOf X = g → XOk X c → l c x = true → PE X x (liftE g.K (.raw l s v f)) ∧ PT X x (liftT g.K (.raw l s v f)) ∧ ∀ op vs p, x ≠ .BoolOp op vs p
def postL (K : PySem.W.Frag) (T : Tape) (O : List Addr) (H : Hp) (Q : List V → Hp → Prop) : List D → Prop := fun ds => ∀ vs H', Ext T H H' → T.ok H' → Dats K T (res H' O) ds vs → Q vs H'
def liftA (K : PySem.W.Frag) (es : E) : TA := fun σ H Q => ∃ (T : Tape) (env : DEnv) (O : List Addr), Ok T O H ∧ Rp K T O σ env H es.vars ∧ semEs es env (postL K T O H Q)
/-- the items are what J walks, while all stays -/
def WalkD (K : PySem.W.Frag) (T : Tape) (O : List Addr) (H1 : Hp) (items : List D) (J : It) : Prop :=
  items.length ≤ 16777216 ∧ ∀ H, Le (res H1 O) (res H O) → (∀ i, i < items.length → J.go i H ∧ ∀ x H', J.yld i H x H' → H' = H ∧ ∃ d, items[i]? = some d ∧ Dat K T (res H1 O) d x) ∧ J.stop items.length H
/-- more may be kept away: lists that stood at H -/
def Wider (O O2 : List Addr) (H : Hp) : Prop := ∀ a ∈ O2, a ∈ O ∨ ∃ xs, H a = some (.lst xs)
def postI (K : PySem.W.Frag) (T : Tape) (O : List Addr) (e : E) (H : Hp) (R : It → Hp → Prop) (w : D) : Prop :=
  dItems w fun items => ∀ J H', Ext T H H' → T.ok H' → WalkD K T O H' items J → (keeps e w = true → ∀ O2, Wider O O2 H → (∀ a ∈ T.own, a ∈ O2) → WalkD K T O2 H' items J) → R J H'
def liftI (K : PySem.W.Frag) (e : E) : TI := fun σ H R => ∃ (T : Tape) (env : DEnv) (O : List Addr), Ok T O H ∧ Rp K T O σ env H e.vars ∧ semE e env (postI K T O e H R)

theorem PE.imp {X : Cx} {e : Expr} {t t' : TE} (h : PE X e t) (i : ∀ σ H Q, t' σ H Q → t σ H Q) : PE X e t' := ⟨fun pins s σ H Q I q => h.run pins s σ H Q I (i σ H Q q)⟩
theorem PT.imp {X : Cx} {e : Expr} {t t' : TT} (h : PT X e t) (i : ∀ σ H Q, t' σ H Q → t σ H Q) : PT X e t' := ⟨fun pins s σ H Q I q => h.run pins s σ H Q I (i σ H Q q)⟩
theorem PW.imp {X : Cx} {e : Expr} {t t' : TT} (h : PW X e t) (i : ∀ σ H Q, t' σ H Q → t σ H Q) : PW X e t' := ⟨fun w pins s σ H Q I q => h.run w pins s σ H Q I (i σ H Q q)⟩
theorem PA.imp {X : Cx} {e : List Expr} {t t' : TA} (h : PA X e t) (i : ∀ σ H Q, t' σ H Q → t σ H Q) : PA X e t' := ⟨fun p pins s σ H Q I q => h.run p pins s σ H Q I (i σ H Q q)⟩
theorem PI.imp {X : Cx} {tg e : Expr} {t t' : TI} (h : PI X tg e t) (i : ∀ σ H Q, t' σ H Q → t σ H Q) : PI X tg e t' := ⟨fun pins s σ H Q I q => h.run pins s σ H Q I (i σ H Q q)⟩

section
variable {K : PySem.W.Frag} {T : Tape} {O : List Addr} {σ : L2.St} {env : DEnv} {H : Hp}
/-- one part -/
theorem lift1 {a : E} {P : D → Prop} {R : VK} (ha : a.monos) (k : Ok T O H) (r : Rp K T O σ env H a.vars) (h : semE a env P) (c : ∀ d v H1, Ext T H H1 → Ok T O H1 → Dat K T (res H1 O) d v → P d → R v H1) : liftE K a σ H R :=
  ⟨T, env, O, k, r, (sem_mono a ha).1 _ _ _ h fun d hp v H1 e t hd _ => c d v H1 e (k.ext e t) hd hp⟩
theorem liftL {a : E} {P : List D → Prop} {R : List V → Hp → Prop} (ha : a.monos) (k : Ok T O H) (r : Rp K T O σ env H a.vars) (h : semEs a env P) (c : ∀ d v H1, Ext T H H1 → Ok T O H1 → Dats K T (res H1 O) d v → P d → R v H1) : liftA K a σ H R :=
  ⟨T, env, O, k, r, (sem_mono a ha).2 _ _ _ h fun d hp v H1 e t hd => c d v H1 e (k.ext e t) hd hp⟩
theorem liftB {a : E} {P : D → Prop} {R : Bool → Hp → Prop} (ha : a.monos) (k : Ok T O H) (r : Rp K T O σ env H a.vars) (h : semE a env P) (c : ∀ d, P d → ∃ b, d = .bl b ∧ ∀ H1, Ext T H H1 → Ok T O H1 → R b H1) : liftT K a σ H R :=
  ⟨T, env, O, k, r, (sem_mono a ha).1 _ _ _ h fun d hp => by
    obtain ⟨b, rfl, q⟩ := c d hp
    exact fun H1 e t => q H1 e (k.ext e t)⟩
theorem post.up {fr : Bool} {Q : VK} {d : D} (h : post K T O fr H Q d) : post K T O true H Q d := fun v H' e t hd hf => h v H' e t hd fun _ => hf rfl
end
theorem PT.of {X : Cx} {e : E} {x : Expr} (hm : e.monos) (h : PE X x (liftE X.K e)) (he : ∀ whole, isTrue x X.env whole = (do let v ← whole; standAt x.pos; holding [v] (truthy v))) : PT X x (liftT X.K e) := by
  refine PT.imp (pt_val h he) fun σ H Q q => ?_
  obtain ⟨T, env, O, k, r, q⟩ := q
  refine lift1 hm k r q fun d v H1 e k1 hd hp => ?_
  cases d with
  | bl b => exact ⟨b, hd, hp H1 e k1.tape⟩
  | _ => exact hp.elim
theorem star_of {e : Expr} {es : List Expr} {env : Env} (h : notStar e = true) : starEach (e :: es) env = (false, eval e env) :: starEach es env := by
  cases e <;> first | rfl | (simp [notStar] at h)
theorem set_of {e : Expr} {env : Env} (h : notSet e = true) (x : Value) : foldedSetIterable e env x = pure x := by
  cases e <;> first | rfl | (simp [notSet] at h)
theorem mark_of {o : CmpOp} {e : Expr} (h : notSet e = true) : behindInMarks o e = false := by
  cases e <;> first | rfl | (simp [notSet] at h)
theorem plain_of {e : Expr} (h : notSlice e = true) : PlainIx e := by
  intro o i
  cases e <;> first | rfl | (simp [notSlice] at h)
theorem gl_of {X : Cx} {c : Ctx} (ok : XOk X c) {x : Str} (h : glB c.sc x = true) : Gl X x ∧ (x == ("__debug__" : Str)) = false ∧ x ≠ ("__name__" : Str) := by
  unfold glB at h
  simp only [Bool.and_eq_true, decide_eq_true_eq] at h
  refine ⟨?_, by simpa using h.2.1, h.2.2⟩
  show X.env.scope.names.lookup x = some .globalImplicit
  rw [ok.sc]
  exact h.1
theorem vis_of {X : Cx} {c : Ctx} (ok : XOk X c) {x : Str} (h : visB c.sc x = true) : Vis X.env.scope x := by
  unfold visB at h
  unfold Vis
  rw [ok.sc]
  split at h
  · exact .inl (by assumption)
  · exact .inr (.inl (by assumption))
  · exact .inr (.inr (by assumption))
  · cases h
theorem loc_of {X : Cx} {c : Ctx} (ok : XOk X c) {x : Str} (h : locB c.sc x = true) : L2.Loc X.env.scope x := by
  unfold locB at h
  unfold L2.Loc
  rw [ok.sc]
  split at h
  · exact .inl (by assumption)
  · exact .inr (by assumption)
  · cases h
end DL

set_option Elab.async false
set_option linter.all false
set_option maxRecDepth 100000
/-! DL7: what is walked; comprehensions; sound: an expression that is looked at does what E means. -/
namespace DL
open PySem PySem.Spec PyProof.Rows L2

/-! ### what is walked -/
def iAny (K : PySem.W.Frag) (te : TE) : TI := fun σ H R => te σ H fun x H1 => (∃ a xs, x = .ref a ∧ SqL K H1 a xs ∧ R (Itl K a) H1) ∨ (∃ a xs, x = .ref a ∧ SqT K H1 a xs ∧ R (Itt K a) H1) ∨ ∃ z, x = .str z ∧ R (Its z) H1
theorem pi_any {X : Cx} {tg e : Expr} {te : TE} (he : PE X e te) : PI X tg e (iAny X.K te) := by
  constructor
  intro pins s σ H R I h
  refine thn (he.run pins s σ H _ I h) ?_
  rintro v s1 ⟨y, H1, J1, rv, q⟩
  rcases q with ⟨a, xs, rfl, hs, q⟩ | ⟨a, xs, rfl, hs, q⟩ | ⟨z, rfl, q⟩
  · cases rv
    obtain ⟨items, _, pl, _⟩ := J1.list hs
    exact wpAny_pyIter_list pl.isList (pi_one (tk := s1.toks) J1 _ (turn_list a _) ⟨_, Heap.get?_push_size _ rfl, rfl, rfl⟩ q)
  · cases rv
    obtain ⟨items, _, pl, _⟩ := J1.tuple hs
    have pl2 : s1.heap.IsTuple a items.toArray := pl
    exact wpAny_pyIter_tuple pl2 (pi_one (tk := s1.toks) J1 _ (turn_tuple a _) ⟨_, Heap.get?_push_size _ rfl, rfl, rfl⟩ q)
  · obtain ⟨t, rfl⟩ := rv
    cases hz : z.cps.all (· < 128) with
    | false => exact wpAny_pyIter_wide hz (pi_one (tk := s1.toks) J1 _ (turn_str _ z t "str_iterator" (.inr rfl)) ⟨_, Heap.get?_push_size _ rfl, rfl, rfl⟩ q)
    | true => exact wpAny_pyIter_ascii hz (pi_one (tk := s1.toks) J1 _ (turn_str _ z t "str_ascii_iterator" (.inl rfl)) ⟨_, Heap.get?_push_size _ rfl, rfl, rfl⟩ q)

section
variable {K : PySem.W.Frag} {T : Tape} {O O2 : List Addr} {H H' : Hp}
theorem SqL.le' {a : Addr} {xs : List V} (l : Le H H') (h : H a = some (.lst xs)) : SqL K H' a xs := SqL.of (l _ _ h)
theorem walk_list {a : Addr} {xs : List V} {ds : List D} (h : res H O a = some (.lst xs)) (z : xs.length ≤ 16777216) (hd : Dats K T (res H O) ds xs) : WalkD K T O H ds (Itl K a) := by
  refine ⟨by rw [← hd.length]; exact z, fun H2 l => ⟨fun i hi => ?_, ?_⟩⟩
  · have hi' : i < xs.length := by rw [hd.length]; exact hi
    refine ⟨⟨xs, xs[i], SqL.of (res_le _ _ _ _ (l _ _ h)), List.getElem?_eq_getElem hi'⟩, fun x H' y => ?_⟩
    obtain ⟨rfl, y⟩ := y
    refine ⟨rfl, ?_⟩
    obtain ⟨d, e, q⟩ := hd.get' (y xs (SqL.of (res_le _ _ _ _ (l _ _ h))))
    exact ⟨d, e, q⟩
  · exact ⟨xs, SqL.of (res_le _ _ _ _ (l _ _ h)), by rw [hd.length]; exact Nat.le_refl _⟩
theorem walk_tup {a : Addr} {xs : List V} {ds : List D} (h : SqT K (res H O) a xs) (z : xs.length ≤ 16777216) (hd : Dats K T (res H O) ds xs) : WalkD K T O H ds (Itt K a) := by
  refine ⟨by rw [← hd.length]; exact z, fun H2 l => ?_⟩
  have h2 : SqT K H2 a xs := SqT.le (res_le _ _) (SqT.le l h)
  refine ⟨fun i hi => ?_, ?_⟩
  · have hi' : i < xs.length := by rw [hd.length]; exact hi
    refine ⟨⟨xs, xs[i], h2, List.getElem?_eq_getElem hi'⟩, fun x H' y => ?_⟩
    obtain ⟨rfl, y⟩ := y
    refine ⟨rfl, ?_⟩
    obtain ⟨d, e, q⟩ := hd.get' (y xs h2)
    exact ⟨d, e, q⟩
  · exact ⟨xs, h2, by rw [hd.length]; exact Nat.le_refl _⟩
theorem walk_str {s : Str} (z : s.cps.size ≤ 16777216) (so : PyData.strOk s = true) : WalkD K T O H (s.cps.toList.map fun c => D.str (sgn c)) (Its s) := by
  refine ⟨by rw [List.length_map, Array.length_toList]; exact z, fun H2 l => ⟨fun i hi => ?_, ?_⟩⟩
  · rw [List.length_map, Array.length_toList] at hi
    refine ⟨hi, fun x H' y => ?_⟩
    obtain ⟨rfl, c, e, rfl⟩ := y
    have e2 : s.cps.toList[i]? = some c := by rw [Array.getElem?_toList]; exact e
    refine ⟨rfl, .str (sgn c), by rw [List.getElem?_map, e2]; rfl, rfl, by show 1 ≤ 16777216; omega, strOk_sgn so (List.mem_of_getElem? e2)⟩
  · show s.cps.size ≤ _
    rw [List.length_map, Array.length_toList]
    exact Nat.le_refl _
theorem walk_range {a b : Int} (z : (b - a).toNat ≤ 16777216) : WalkD K T O H (rangeD a b) (Itr a (b - a).toNat) := by
  unfold rangeD
  refine ⟨by rw [List.length_map, List.length_range]; exact z, fun H2 l => ⟨fun i hi => ?_, ?_⟩⟩
  · rw [List.length_map, List.length_range] at hi
    refine ⟨hi, fun x H' y => ?_⟩
    obtain ⟨rfl, rfl⟩ := y
    exact ⟨rfl, .int (a + i), by rw [List.getElem?_map, List.getElem?_range hi]; rfl, rfl⟩
  · show (b - a).toNat ≤ _
    rw [List.length_map, List.length_range]
    exact Nat.le_refl _
/-- data without lists do not lie in lists -/
theorem sqT_wide {a : Addr} {xs : List V} (w : ∀ b ∈ O2, b ∈ O ∨ ∃ ys, H b = some (.lst ys)) (h : SqT K (res H O) a xs) : SqT K (res H O2) a xs := by
  rcases h with (h | ⟨o, h⟩) | h
  · obtain ⟨n, q⟩ := res_some h
    refine .inl (.inl (res_of (fun z => ?_) q))
    rcases w a z with z | ⟨ys, z⟩
    · exact n z
    · rw [q] at z; cases z
  · obtain ⟨n, q⟩ := res_some h
    refine .inl (.inr ⟨o, res_of (fun z => ?_) q⟩)
    rcases w a z with z | ⟨ys, z⟩
    · exact n z
    · rw [q] at z; cases z
  · exact .inr h
mutual
theorem dat_wide (w : ∀ b ∈ O2, b ∈ O ∨ ∃ ys, H b = some (.lst ys)) : ∀ (d : D) (v : V), noMut d = true → Dat K T (res H O) d v → Dat K T (res H O2) d v
  | .non, _, _, h => h
  | .bl _, _, _, h => h
  | .int _, _, _, h => h
  | .str _, _, _, h => h
  | .tup ds, _, n, h => by
    obtain ⟨a, xs, e, q, z, hs⟩ := dat_tup h
    exact ⟨a, xs, e, sqT_wide w q, z, dats_wide w ds xs (by simpa [noMut] using n) hs⟩
  | .lst _, _, n, _ => by simp [noMut] at n
  | .dic _ _, _, n, _ => by simp [noMut] at n
  | .tape _, _, _, h => h
theorem dats_wide (w : ∀ b ∈ O2, b ∈ O ∨ ∃ ys, H b = some (.lst ys)) : ∀ (ds : List D) (vs : List V), noMuts ds = true → Dats K T (res H O) ds vs → Dats K T (res H O2) ds vs
  | [], _, _, h => h
  | d :: ds, _, n, h => by
    obtain ⟨v, r, e, h1, h2⟩ := h
    simp only [noMuts, Bool.and_eq_true] at n
    exact ⟨v, r, e, dat_wide w d v n.1 h1, dats_wide w ds r n.2 h2⟩
end
theorem wider_ext (e : Ext T H H') (t : ∀ a ∈ T.own, a ∈ O) (w : Wider O O2 H) : ∀ b ∈ O2, b ∈ O ∨ ∃ ys, H' b = some (.lst ys) := fun b hb => by
  by_cases hO : b ∈ O
  · exact .inl hO
  · rcases w b hb with z | ⟨ys, z⟩
    · exact .inl z
    · exact .inr ⟨ys, e b _ z fun q => hO (t b q)⟩
end

/-- from an expression to what is walked -/
theorem PI.of {X : Cx} {tg x : Expr} {e : E} (hm : e.monos) (h : PE X x (liftE X.K e)) : PI X tg x (liftI X.K e) := by
  refine PI.imp (pi_any h) fun σ H R q => ?_
  obtain ⟨T, env, O, k, r, q⟩ := q
  refine ⟨T, env, O, k, r, (sem_mono e hm).1 _ _ _ q fun w hw v H1 ex t hd hf => ?_⟩
  unfold postI at hw
  unfold dItems at hw
  split at hw
  · obtain ⟨p, xs, rfl, q1, z, hs⟩ := dat_lst hd
    refine .inl ⟨p, xs, rfl, SqL.of (res_le _ _ _ _ q1), hw _ H1 ex t (walk_list q1 z hs) fun kp O2 w2 t2 => ?_⟩
    simp only [keeps, noMut, Bool.false_or, Bool.and_eq_true] at kp
    obtain ⟨p', xs', e1, n, g, z', hs'⟩ := hf kp.1 _ rfl
    cases e1
    obtain ⟨_, q2⟩ := res_some q1
    rw [q2] at g
    cases g
    have np : p ∉ O2 := fun z => by
      rcases w2 p z with z | ⟨ys, z⟩
      · exact k.live p z n
      · rw [n] at z; cases z
    refine walk_list (res_of np q2) z (dats_wide (wider_ext ex k.sub w2) _ _ kp.2 hs)
  · obtain ⟨p, xs, rfl, q1, z, hs⟩ := dat_tup hd
    refine .inr (.inl ⟨p, xs, rfl, SqT.le (res_le _ _) q1, hw _ H1 ex t (walk_tup q1 z hs) fun kp O2 w2 t2 => ?_⟩)
    simp only [keeps, noMut, Bool.or_false] at kp
    exact walk_tup (sqT_wide (wider_ext ex k.sub w2) q1) z (dats_wide (wider_ext ex k.sub w2) _ _ kp hs)
  · obtain ⟨rfl, z, so⟩ := dat_str hd
    exact .inr (.inr ⟨_, rfl, hw _ H1 ex t (walk_str z so) fun _ O2 _ _ => walk_str z so⟩)
  · exact hw.elim

/-! ### targets -/
theorem rdv_set {env : DEnv} {i j : Nat} {s : Sl} {d : D} (h : rdv (env.set i s) j = some d) : (j = i ∧ s.val = some d) ∨ (j ≠ i ∧ rdv env j = some d) := by
  unfold rdv at h ⊢
  by_cases e : i = j
  · subst e
    by_cases hi : i < env.length
    · rw [List.getElem?_set_self hi] at h
      exact .inl ⟨rfl, h⟩
    · rw [List.getElem?_eq_none (by simpa using hi)] at h
      cases h
  · rw [List.getElem?_set_ne e] at h
    exact .inr ⟨fun z => e z.symm, h⟩
theorem Rp.set {K : PySem.W.Frag} {T : Tape} {O : List Addr} {σ : L2.St} {env : DEnv} {H : Hp} {vs : List Nat} {i : Nat} {d : D} {v : V} (r : Rp K T O σ env H vs) (hd : Dat K T (res H O) d v) (hi : i < σ.length) : Rp K T O (σ.set i (some v)) (env.set i (.sh d)) H vs := ⟨fun j hj d' e => by
  rcases rdv_set e with ⟨rfl, e1⟩ | ⟨ne, e1⟩
  · cases e1
    exact ⟨v, List.getElem?_set_self hi, hd⟩
  · obtain ⟨w, q, z⟩ := r.at_ j hj d' e1
    exact ⟨w, by rw [List.getElem?_set_ne (Ne.symm ne)]; exact q, z⟩⟩
/-- what stays true when a name is stored -/
def GInv (K : PySem.W.Frag) (T : Tape) (O : List Addr) (H : Hp) (P : L2.St → DEnv → Prop) : Prop := ∀ (σ : L2.St) (env : DEnv) (i : Nat) (d : D) (v : V), P σ env → Dat K T (res H O) d v → i < σ.length → P (σ.set i (some v)) (env.set i (.sh d))
/-- binding a target: what it does to slots and places -/
def liftG (K : PySem.W.Frag) (n : Nat) (tg : E) : TG := fun v σ H Q => ∃ (T : Tape) (O : List Addr) (env : DEnv) (P : L2.St → DEnv → Prop) (d : D), GInv K T O H P ∧ P σ env ∧ Dat K T (res H O) d v ∧ σ.length = n ∧
  bindT env tg d fun env' => ∀ σ', P σ' env' → σ'.length = n → (∀ i, i ∉ slotsOf tg → σ'[i]? = σ[i]?) → Q σ' H
theorem GInv.rp {K : PySem.W.Frag} {T : Tape} {O : List Addr} {H : Hp} (vs : List Nat) : GInv K T O H fun σ env => Rp K T O σ env H vs := fun σ env i d v r hd hi => r.set hd hi
theorem PG.imp {X : Cx} {e : Expr} {t t' : TG} (h : PG X e t) (i : ∀ v σ H Q, t' v σ H Q → t v σ H Q) : PG X e t' := ⟨fun pins s σ H v u Q I r q => h.run pins s σ H v u Q I r (i v σ H Q q)⟩
def liftGs (K : PySem.W.Frag) (n : Nat) (tg : E) : TGs := fun ws σ H Q => ∃ (T : Tape) (O : List Addr) (env : DEnv) (P : L2.St → DEnv → Prop) (ds : List D), GInv K T O H P ∧ P σ env ∧ Dats K T (res H O) ds ws ∧ σ.length = n ∧
  bindTs env tg ds fun env' => ∀ σ', P σ' env' → σ'.length = n → (∀ i, i ∉ slotsOf tg → σ'[i]? = σ[i]?) → Q σ' H
theorem fn_of_match {X : Cx} {c : Ctx} (ok : XOk X c) {x : Str} (h : (c.fn x || decide (c.sc.names.lookup x = some .local)) = true) : X.fn x = true ∨ X.env.scope.names.lookup x = some .local := by
  rw [Bool.or_eq_true, decide_eq_true_eq] at h
  rcases h with h | h
  · exact .inl (ok.fn x h)
  · right
    rw [ok.sc]
    exact h
theorem pgs_of {X : Cx} {c : Ctx} (ok : XOk X c) : ∀ (tg : E) (xs : List Expr), matchTs c tg xs = true → PGs X xs (liftGs X.K c.N.length tg) ∧ (assignEach xs X.env).length = xs.length ∧ (assignEach xs X.env).findIdx? (·.1) = none ∧
    (∀ (n : Nat) (env : DEnv) (ds : List D) (Q : DEnv → Prop), bindTs env tg ds Q → ds.length = xs.length) := by
  intro tg
  induction tg with
  | nil =>
    intro xs h
    cases xs with
    | cons x xs => simp [matchTs] at h
    | nil =>
      refine ⟨⟨fun pins s σ H vs us Q I r q => ?_⟩, rfl, rfl, fun n env ds Q q => ?_⟩
      · refine pgs_nil.run pins s σ H vs us Q I r ?_
        obtain ⟨T, O, env, P, ds, k, rp, hd, hl, q⟩ := q
        cases ds with
        | cons d ds => exact q.elim
        | nil => exact ⟨hd, q σ rp hl fun _ _ => rfl⟩
      · cases ds with
        | cons d ds => exact q.elim
        | nil => rfl
  | cons a b iha ihb =>
    intro xs h
    cases xs with
    | nil => cases a <;> simp [matchTs] at h
    | cons x xs =>
      cases a with
      | var i =>
        cases x with
        | Name y pos =>
          simp only [matchTs, Bool.and_eq_true, decide_eq_true_eq] at h
          obtain ⟨⟨⟨h1, h2⟩, h3⟩, h4⟩ := h
          obtain ⟨p, q1, q2, q3⟩ := ihb xs h4
          have hN : X.N[i]? = some y := by rw [ok.N]; exact h1
          refine ⟨⟨fun pins s σ H vs us Q I r q => ?_⟩, ?_, ?_, fun n env ds Q q => ?_⟩
          · refine (pgs_cons (pg_name (by rw [ok.N]; exact ok.nd) hN (loc_of ok h2) (fn_of_match ok h3)) p).run pins s σ H vs us Q I r ?_
            obtain ⟨T, O, env, P, ds, k, rp, hd, hl, q⟩ := q
            cases ds with
            | nil => exact q.elim
            | cons d ds =>
              obtain ⟨v, w, rfl, d1, d2⟩ := hd
              have hi : i < σ.length := by rw [hl]; exact (List.getElem?_eq_some_iff.mp h1).1
              refine ⟨v, w, rfl, ⟨T, O, env.set i (.sh d), P, ds, k, k _ _ _ _ _ rp d1 hi, d2, by rw [List.length_set]; exact hl, ?_⟩⟩
              refine bindTs_mono (show bindTs (env.set i (.sh d)) b ds _ from q) fun env' q σ' r' l' f' => q σ' r' l' fun j hj => ?_
              rw [f' j (fun z => hj (List.mem_append_right _ z)), List.getElem?_set_ne (fun z => hj (List.mem_append_left _ (by rw [z]; exact List.mem_singleton_self _)))]
          · show (assignEach xs X.env).length + 1 = _
            rw [q1]
            rfl
          · show ((false, _) :: assignEach xs X.env).findIdx? (·.1) = none
            rw [List.findIdx?_cons, q2]
            rfl
          · cases ds with
            | nil => exact q.elim
            | cons d ds => rw [List.length_cons, List.length_cons, q3 n (env.set i (.sh d)) ds Q q]
        | _ => simp [matchTs] at h
      | _ => simp [matchTs] at h
  | _ => intro xs h; simp [matchTs] at h
theorem pg_of {X : Cx} {c : Ctx} (ok : XOk X c) (tg : E) (x : Expr) (h : matchT c tg x = true) : PG X x (liftG X.K c.N.length tg) := by
  unfold matchT at h
  split at h
  · simp only [Bool.and_eq_true, decide_eq_true_eq] at h
    obtain ⟨⟨h1, h2⟩, h3⟩ := h
    refine PG.imp (pg_name (by rw [ok.N]; exact ok.nd) (by rw [ok.N]; exact h1) (loc_of ok h2) (fn_of_match ok h3)) fun v σ H Q q => ?_
    obtain ⟨T, O, env, P, d, k, r, hd, hl, q⟩ := q
    have hi := (List.getElem?_eq_some_iff.mp h1).1
    rw [← hl] at hi
    exact q _ (k _ _ _ _ _ r hd hi) (by rw [List.length_set]; exact hl) fun j hj => List.getElem?_set_ne fun z => hj (by rw [z]; exact List.mem_singleton_self _)
  · obtain ⟨p, q1, q2, q3⟩ := pgs_of ok _ _ h
    refine PG.imp (pg_tup ok.calm p q1 q2) fun v σ H Q q => ?_
    obtain ⟨T, O, env, P, d, k, r, hd, hl, q⟩ := q
    cases d with
    | tup ds =>
      obtain ⟨a, xs, rfl, s, z, hs⟩ := dat_tup hd
      refine ⟨a, xs, rfl, SqT.le (res_le _ _) s, ?_, T, O, env, P, ds, k, r, hs, hl, q⟩
      rw [hs.length]
      exact q3 0 env ds _ q
    | _ => exact q.elim
  · cases h
end DL

set_option Elab.async false
set_option linter.all false
set_option maxRecDepth 100000
/-! DL8: list comprehensions. -/
namespace DL
open PySem PySem.Spec PyProof.Rows L2

theorem wipe_get {σ : L2.St} {i : Nat} : ∀ {vs : List Nat}, (wipe σ vs)[i]? = if i ∈ vs then (σ[i]?).map (fun _ => none) else σ[i]?
  | [] => by simp [wipe]
  | v :: vs => by
    unfold wipe
    by_cases e : v = i
    · subst e
      by_cases hv : v < σ.length
      · rw [List.getElem?_set_self (by rw [wipe_length]; exact hv), if_pos List.mem_cons_self, List.getElem?_eq_getElem hv]
        rfl
      · rw [List.getElem?_eq_none (by rw [List.length_set, wipe_length]; omega), if_pos List.mem_cons_self, List.getElem?_eq_none (by omega)]
        rfl
    · rw [List.getElem?_set_ne e, wipe_get]
      by_cases h : i ∈ vs
      · rw [if_pos h, if_pos (List.mem_cons_of_mem _ h)]
      · rw [if_neg h, if_neg (fun z => (List.mem_cons.mp z).elim (fun z => e z.symm) h)]
theorem wipe_same {σ σ2 : L2.St} {vs : List Nat} (hl : σ2.length = σ.length) (h : ∀ i, i ∉ vs → σ2[i]? = (wipe σ vs)[i]?) : wipe σ2 vs = wipe σ vs := by
  apply List.ext_getElem?
  intro i
  by_cases hi : i ∈ vs
  · rw [wipe_get, wipe_get, if_pos hi, if_pos hi]
    by_cases hv : i < σ.length
    · rw [List.getElem?_eq_getElem hv, List.getElem?_eq_getElem (by omega)]
      rfl
    · rw [List.getElem?_eq_none (by omega), List.getElem?_eq_none (by omega)]
  · rw [wipe_get, if_neg hi]
    exact h i hi
theorem wipeD_get {env : DEnv} {i : Nat} {d : D} : ∀ {vs : List Nat}, rdv (wipeD env vs) i = some d → i ∉ vs ∧ rdv env i = some d
  | [], h => ⟨by simp, h⟩
  | v :: vs, h => by
    unfold wipeD at h
    rcases rdv_set h with ⟨_, z⟩ | ⟨ne, z⟩
    · cases z
    · obtain ⟨a, b⟩ := wipeD_get z
      exact ⟨fun z => (List.mem_cons.mp z).elim ne a, b⟩
theorem res_cons {H : Hp} {ad : Addr} {O : List Addr} {o : HO} : res (upd H ad o) (ad :: O) = res H (ad :: O) := by
  funext b
  unfold res
  by_cases h : b ∈ ad :: O
  · rw [if_pos h, if_pos h]
  · rw [if_neg h, if_neg h, upd_ne fun z => h (by rw [z]; exact List.mem_cons_self)]

def liftC (K : PySem.W.Frag) (cond : E) : TT := match cond.isNil with
  | true => tYes
  | false => liftT K cond
section
variable {K : PySem.W.Frag} {T : Tape} {O : List Addr} {H H' : Hp}
/-- the heap at a turn of a comprehension: ad is its list -/
structure Turn1 (K : PySem.W.Frag) (T : Tape) (O : List Addr) (H' : Hp) (ad : Addr) (n : Nat) (ys : List DL.D) (H2 : Hp) : Prop where
  ok : T.ok H2
  ext : Ext T H' H2
  at_ : ∃ acc, H2 ad = some (.lst acc) ∧ acc.length ≤ n ∧ Dats K T (res H2 (ad :: O)) ys acc
theorem Turn1.le {ad : Addr} {n : Nat} {ys : List D} {H2 : Hp} (k : Ok T O H') (hD : H' ad = none) (t : Turn1 K T O H' ad n ys H2) : Le (res H' O) (res H2 (ad :: O)) := fun b o q => by
  obtain ⟨nb, q⟩ := res_some q
  have hne := ne_of_none q hD
  exact res_of (fun z => (List.mem_cons.mp z).elim hne nb) (t.ext b o q fun z => nb (k.sub b z))
theorem Turn1.okD {ad : Addr} {n : Nat} {ys : List D} {H2 : Hp} (k : Ok T O H') (t : Turn1 K T O H' ad n ys H2) : Ok T (ad :: O) H2 :=
  ⟨t.ok, fun a ha => List.mem_cons_of_mem _ (k.sub a ha), fun a ha => by
    rcases List.mem_cons.mp ha with rfl | ha
    · obtain ⟨acc, e, _⟩ := t.at_
      rw [e]
      exact fun z => nomatch z
    · exact t.ext.live t.ok (k.live a ha)⟩
theorem notTapeD {ad : Addr} (k : Ok T O H') (hD : H' ad = none) : ad ∉ T.own := fun z => tapeLive k.tape ad z hD
theorem Turn1.go {ad : Addr} {n : Nat} {ys : List D} {H2 H3 : Hp} (k : Ok T O H') (hD : H' ad = none) (t : Turn1 K T O H' ad n ys H2) (e : Ext T H2 H3) (t3 : T.ok H3) : Turn1 K T O H' ad n ys H3 := by
  obtain ⟨acc, q, z, h⟩ := t.at_
  exact ⟨t3, t.ext.trans e, acc, e _ _ q (notTapeD k hD), z, h.le ((t.okD k).res e)⟩
theorem Turn1.add {ad : Addr} {n : Nat} {ys : List D} {H2 : Hp} {y : D} {v : V} (k : Ok T O H') (hD : H' ad = none) (t : Turn1 K T O H' ad n ys H2) (hy : Dat K T (res H2 (ad :: O)) y v) :
    ∃ acc, H2 ad = some (.lst acc) ∧ acc.length ≤ n ∧ Turn1 K T O H' ad (n + 1) (ys ++ [y]) (upd H2 ad (.lst (acc ++ [v]))) := by
  obtain ⟨acc, q, z, h⟩ := t.at_
  refine ⟨acc, q, z, ?_, fun b o hb nb => ?_, acc ++ [v], upd_same, by rw [List.length_append]; exact Nat.succ_le_succ z, ?_⟩
  · have nt := notTapeD k hD
    have key : ∀ a ∈ T.own, (upd H2 ad (.lst (acc ++ [v]))) a = H2 a := fun a ha => upd_ne fun z => nt (z ▸ ha)
    have ok := t.ok
    cases T with
    | no => trivial
    | st p c =>
      obtain ⟨e, m, ns, g, h1, h2⟩ := ok
      exact ⟨e, m, ns, g, by rw [key p (by simp [Tape.own])]; exact h1, by rw [key c (by simp [Tape.own])]; exact h2⟩
    | tp p c =>
      obtain ⟨e, m, m2, m3, ns, g, g2, h1, h2⟩ := ok
      exact ⟨e, m, m2, m3, ns, g, g2, by rw [key p (by simp [Tape.own])]; exact h1, by rw [key c (by simp [Tape.own])]; exact h2⟩
  · rw [upd_ne (ne_of_none hb hD)]
    exact t.ext b o hb nb
  · rw [res_cons]
    exact h.append (Dats.one hy)
end

/-- the turns of a comprehension -/
def lcOf (own : List (Str × Nat)) (elt tg cond : E) (env : DEnv) : List D → (List D → Prop) → Prop :=
  lcD (fun d => bindT (wipeD env (own.map (·.2))) tg d) (fun e1 Qb => condD cond.isNil (semE cond e1) Qb) (semE elt)
theorem lcOf_mono {own : List (Str × Nat)} {elt tg cond : E} {env : DEnv} {ds : List D} {Q Q' : List D → Prop} (mc : cond.monos) (me : elt.monos) (h : lcOf own elt tg cond env ds Q) (m : ∀ e, Q e → Q' e) : lcOf own elt tg cond env ds Q' :=
  lcD_mono (bind := fun d => bindT (wipeD env (List.map (fun x : Str × Nat => x.2) own)) tg d) (cond := fun e1 Qb => condD cond.isNil (semE cond e1) Qb) (elt := semE elt) (fun d Q Q' h m => bindT_mono h m) (fun e Q Q' h m => condD_mono h m ((sem_mono cond mc).1 e)) ((sem_mono elt me).1) (ds := ds) (Q := Q) (Q' := Q') h m
theorem lcOf_cons {own : List (Str × Nat)} {elt tg cond : E} {env : DEnv} {d : D} {ds : List D} {Q : List D → Prop} (h : lcOf own elt tg cond env (d :: ds) Q) : bindT (wipeD env (own.map (·.2))) tg d fun e1 => condD cond.isNil (semE cond e1) fun b => match b with
    | true => semE elt e1 fun y => lcOf own elt tg cond env ds fun ys => Q (y :: ys)
    | false => lcOf own elt tg cond env ds Q := h
theorem lc_read {K : PySem.W.Frag} {own : List (Str × Nat)} {elt tg it cond : E} {n : Nat} (hm : (E.lc own elt tg it cond).monos) (hs : ∀ i ∈ slotsOf tg, i ∈ own.map (·.2)) {σ : L2.St} {H : Hp} {Q : VK} (hl : σ.length = n)
    (h : liftE K (.lc own elt tg it cond) σ H Q) : tLc (liftI K it) (liftG K n tg) (liftC K cond) (liftE K elt) (own.map (·.2)) σ H Q := by
  obtain ⟨T, env, O, k, r, h⟩ := h
  have h : semE it env fun w => dItems w fun items => lcOf own elt tg cond env items fun ds => post K T O true H Q (.lst ds) := h
  refine ⟨T, env, O, k, r.l, (sem_mono it hm.1).1 _ _ _ h fun w hw => dItems_mono hw fun items hw J H1 ex t wk _ ad hD => ?_⟩
  have k1 : Ok T O H1 := k.ext ex t
  obtain ⟨hz, wk⟩ := wk
  have hHD : H ad = none := by
    cases q : H ad with
    | none => rfl
    | some o => exact absurd hD (ex.live t (by rw [q]; exact fun z => nomatch z))
  refine ⟨fun i m H2 => ∃ ys, i + m = items.length ∧ Turn1 K T O H1 ad i ys H2 ∧ lcOf own elt tg cond env (items.drop i) fun zs => post K T O true H Q (.lst (ys ++ zs)), ⟨items.length, [], by omega, ?_, hw⟩, ?_⟩
  · exact ⟨tapeLe (le_upd hD) t, Ext.upd hD, [], upd_same, Nat.le_refl _, rfl⟩
  rintro i m H2 ⟨ys, him, tn, hq⟩
  have lw : Le (res H1 O) (res H2 O) := fun b o q => by
    obtain ⟨nb, q⟩ := res_some q
    exact res_of nb (tn.ext b o q fun z => nb (k1.sub b z))
  by_cases hi : i < items.length
  · obtain ⟨g, y⟩ := (wk H2 lw).1 i hi
    refine .inr ⟨g, fun H3 => ∃ ys, Turn1 K T O H1 ad (i + 1) ys H3 ∧ lcOf own elt tg cond env (items.drop (i + 1)) fun zs => post K T O true H Q (.lst (ys ++ zs)),
      fun H3 ⟨ys, a, b⟩ => ⟨m - 1, by omega, ys, by omega, a, b⟩, fun x H3 hy => ?_⟩
    obtain ⟨rfl, d, ed, hd⟩ := y x H3 hy
    have ed2 : items.drop i = d :: items.drop (i + 1) := by
      rw [List.drop_eq_getElem_cons hi]
      rw [List.getElem?_eq_getElem hi] at ed
      cases ed
      rfl
    rw [ed2] at hq
    have kD := tn.okD k1
    have rp : Rp K T (ad :: O) (wipe σ (own.map (·.2))) (wipeD env (own.map (·.2))) H3 (tg.vars ++ (cond.vars ++ elt.vars)) := ⟨fun j hj d' e => by
      obtain ⟨nj, e⟩ := wipeD_get e
      obtain ⟨v, q, z⟩ := r.at_ j (List.mem_append_right _ hj) d' e
      refine ⟨v, by rw [wipe_get, if_neg nj]; exact q, z.le ?_⟩
      exact (k.res ex).trans (tn.le k1 hD)⟩
    refine ⟨T, ad :: O, _, fun σ env => Rp K T (ad :: O) σ env H3 (tg.vars ++ (cond.vars ++ elt.vars)), d, GInv.rp _, rp, hd.le (tn.le k1 hD), by rw [wipe_length]; exact hl, bindT_mono (lcOf_cons hq) fun e1 he σ2 r2 l2 f2 => ⟨?_, ?_⟩⟩
    · exact wipe_same (by rw [l2, hl]) fun j hj => f2 j fun z => hj (hs j z)
    -- the condition
    have goB : ∀ (b : Bool) (H4 : Hp), Ext T H3 H4 → T.ok H4 → (match b with
        | true => semE elt e1 fun y => lcOf own elt tg cond env (items.drop (i + 1)) fun zs => post K T O true H Q (.lst (ys ++ (y :: zs)))
        | false => lcOf own elt tg cond env (items.drop (i + 1)) fun zs => post K T O true H Q (.lst (ys ++ zs))) →
        (if b = true then liftE K elt σ2 H4 fun y H4 => ∃ acc, H4 ad = some (.lst acc) ∧ acc.length < sizeLine ∧ (∃ ys, Turn1 K T O H1 ad (i + 1) ys (upd H4 ad (.lst (acc ++ [y]))) ∧ lcOf own elt tg cond env (items.drop (i + 1)) fun zs => post K T O true H Q (.lst (ys ++ zs)))
        else ∃ ys, Turn1 K T O H1 ad (i + 1) ys H4 ∧ lcOf own elt tg cond env (items.drop (i + 1)) fun zs => post K T O true H Q (.lst (ys ++ zs))) := fun b H4 e4 t4 hb => by
      have tn4 := tn.go k1 hD e4 t4
      cases b with
      | true =>
        rw [if_pos rfl]
        refine lift1 hm.2.2 (tn4.okD k1) ((r2.ext kD e4).r.r) hb fun y v H5 e5 k5 hy hp => ?_
        have tn5 := tn4.go k1 hD e5 k5.tape
        obtain ⟨acc, q1, q2, q3⟩ := tn5.add k1 hD hy
        exact ⟨acc, q1, Nat.lt_of_le_of_lt q2 (by rw [sizeLine_eq]; omega), ys ++ [y], q3, lcOf_mono hm.2.1 hm.2.2 hp fun zs h => by
          rw [List.append_assoc]
          exact h⟩
      | false =>
        rw [if_neg Bool.false_ne_true]
        obtain ⟨acc, q1, q2, q3⟩ := tn4.at_
        exact ⟨ys, ⟨tn4.ok, tn4.ext, acc, q1, Nat.le_succ_of_le q2, q3⟩, hb⟩
    unfold liftC
    cases hc : cond.isNil with
    | true =>
      rw [hc] at he
      exact goB true H3 Ext.refl kD.tape he
    | false =>
      rw [hc] at he
      refine liftB hm.2.1 kD r2.r.l he fun d hd => ?_
      cases d with
      | bl b => exact ⟨b, rfl, fun H4 e4 k4 => goB b H4 e4 k4.tape hd⟩
      | _ => exact hd.elim
  · have ei : i = items.length := by omega
    subst ei
    refine .inl ⟨(wk H2 lw).2, ?_⟩
    rw [List.drop_length] at hq
    have hq : post K T O true H Q (.lst (ys ++ [])) := hq
    rw [List.append_nil] at hq
    obtain ⟨acc, q1, q2, q3⟩ := tn.at_
    have nO : ad ∉ O := k1.new hD
    refine hq _ H2 (ex.trans tn.ext) tn.ok ⟨ad, acc, rfl, res_of nO q1, by omega, q3.le fun b o q => ?_⟩ fun _ ds' e => ?_
    · obtain ⟨nb, q⟩ := res_some q
      exact res_of (fun z => nb (List.mem_cons_of_mem _ z)) q
    · cases e
      exact ⟨ad, acc, rfl, hHD, q1, by omega, q3⟩
end DL

set_option Elab.async false
set_option linter.all false
set_option maxRecDepth 100000
set_option maxHeartbeats 4000000
/-! DL9: sound: an expression that is looked at does what E means. -/
namespace DL
open PySem PySem.Spec PyProof.Rows L2

structure Snd (X : Cx) (e : E) (x : Expr) : Prop where
  pe : PE X x (liftE X.K e)
  pt : PT X x (liftT X.K e)
  pw : ∀ op vs p, x = .BoolOp op vs p → PW X x (liftT X.K e)
def isRng : E → Bool
  | .r1 _ => true | .r2 _ _ => true | .r3 _ _ _ => true
  | _ => false
theorem rng_of {c : Ctx} {e : E} {x : Expr} (h : matchE c false e x = true) : isRng e = false := by
  cases e with
  | r1 a => simp only [mE_r1] at h; split at h <;> simp at h
  | r2 a b => simp only [mE_r2] at h; split at h <;> simp at h
  | r3 a b d => simp only [mE_r3] at h; split at h <;> simp at h
  | _ => rfl
def Sound (e : E) : Prop :=
  (∀ (X : Cx) (c : Ctx) (im : Bool) (x : Expr), XOk X c → Need (gxOf X) e → matchE c im e x = true → (isRng e = false → Snd X e x) ∧ ∀ tg, PI X tg x (liftI X.K e)) ∧
  (∀ (X : Cx) (c : Ctx) (xs : List Expr), XOk X c → Need (gxOf X) e → matchEs c e xs = true → PA X xs (liftA X.K e))
theorem Sound.get {e : E} (h : Sound e) {X : Cx} {c : Ctx} {x : Expr} (ok : XOk X c) (nd : Need (gxOf X) e) (m : matchE c false e x = true) : Snd X e x := (h.1 X c false x ok nd m).1 (rng_of m)
/-- from the value -/
theorem both {X : Cx} {e : E} {x : Expr} (hm : e.monos) (s : Snd X e x) : (isRng e = false → Snd X e x) ∧ ∀ tg, PI X tg x (liftI X.K e) := ⟨fun _ => s, fun tg => PI.of hm s.pe⟩
theorem snd_plain {X : Cx} {e : E} {x : Expr} (hm : e.monos) (h : PE X x (liftE X.K e)) (he : ∀ whole, isTrue x X.env whole = (do let v ← whole; standAt x.pos; holding [v] (truthy v))) (hb : ∀ op vs p, x ≠ .BoolOp op vs p) : Snd X e x :=
  ⟨h, PT.of hm h he, fun op vs p e => absurd e (hb op vs p)⟩

section
variable {K : PySem.W.Frag} {T : Tape} {O : List Addr} {H : Hp} {Q : VK}
theorem post.bT {b : Bool} {d : D} (h : postB T H (fun b H => Q (.bl b) H) d) : ∃ b, d = .bl b ∧ ∀ H', Ext T H H' → T.ok H' → Q (.bl b) H' := by
  cases d with
  | bl b => exact ⟨b, rfl, h⟩
  | _ => exact h.elim
end

theorem xok_blk {X : Cx} {c : Ctx} (ok : XOk X c) (s : Shared) (H : Hp) (scope : Scope) (C : Addr) (cl : List (Str × Addr)) (fp : List Addr) : XOk (X.blk s H scope (compEnvC scope cl C X.env) fp) (c.blk scope) :=
  ⟨ok.N, ok.nd, by show relS scope X.env.scope = _; rw [ok.sc]; rfl, ok.calm, ok.hu, fun x h => h⟩
theorem tr_of {X : Cx} {e : Expr} {t : TE} {P : D → Prop} : True := trivial

theorem bf_boot (f : Bf) : bootBuiltins f.name = some f.val := by cases f <;> decide +kernel
theorem bf_pe {X : Cx} {c : Ctx} (ok : XOk X c) {f : Bf} {es : E} {y : Expr} {xs : List Expr} {p pos : Pos} (g : glB c.sc f.name = true) (hm : X.mg f.name = none) (pa : PA X (y :: xs) (liftA X.K es)) (ns : notStar y = true) (nx : ∀ e ∈ xs, notStar e = true) :
    PE X (.Call (.Name f.name p) (y :: xs) [] pos) (tCB (RL X.K true (dBf f)) (liftA X.K es)) := by
  obtain ⟨g1, g2, g3⟩ := gl_of ok g
  have hb := bf_boot f
  have hr := op_bf ok.calm f (X := X)
  have hpl : ∀ l : List Expr, (∀ e ∈ l, notStar e = true) → (backTo pos (starEach l X.env)).any (·.1) = false := fun l => by
    induction l with
    | nil => exact fun _ => rfl
    | cons a l ih =>
      intro h
      rw [star_of (h a List.mem_cons_self)]
      show (false || (backTo pos (starEach l X.env)).any (·.1)) = false
      rw [ih fun e he => h e (List.mem_cons_of_mem _ he)]
      rfl
  cases f <;> first
    | exact pe_callB hr g1 hm hb pa g3 g2 (star_of ns) (hpl xs nx)
    | exact pe_callTy hr g1 hm hb pa g3 g2 (star_of ns) (hpl xs nx)
theorem stars_of {c : Ctx} : ∀ {e : E} {xs : List Expr}, matchEs c e xs = true → ∀ x ∈ xs, notStar x = true := by
  intro e
  induction e with
  | nil =>
    intro xs h
    cases xs with
    | nil => exact fun x hx => nomatch hx
    | cons x xs => simp [mEs_nil, mEs_cons] at h
  | cons a b _ ih =>
    intro xs h
    cases xs with
    | nil => exact fun x hx => nomatch hx
    | cons x xs =>
      simp only [mEs_nil, mEs_cons, Bool.and_eq_true] at h
      intro z hz
      rcases List.mem_cons.mp hz with rfl | hz
      · exact h.1.1
      · exact ih h.2 z hz
  | _ => intro xs h; exact Bool.noConfusion (show false = true from h)
theorem backs_of {X : Cx} {pos : Pos} : ∀ l : List Expr, (∀ e ∈ l, notStar e = true) → (backTo pos (starEach l X.env)).any (·.1) = false
  | [], _ => rfl
  | a :: l, h => by
    rw [star_of (h a List.mem_cons_self)]
    show (false || (backTo pos (starEach l X.env)).any (·.1)) = false
    rw [backs_of l fun e he => h e (List.mem_cons_of_mem _ he)]
    rfl
theorem po_of {X : Cx} {c : Ctx} (ok : XOk X c) {e : E} (hm : e.monos) (ih : Sound e) (nd : Need (gxOf X) e) {l : Option Expr} (h : (match l with
    | none => e.isNil
    | some l => !e.isNil && matchE c false e l) = true) : PO X l (fun σ H Q => ∃ (T : Tape) (env : DEnv) (O : List Addr), Ok T O H ∧ Rp X.K T O σ env H e.vars ∧ partD e.isNil (semE e env) fun o => ∀ H', Ext T H H' → T.ok H' → Q o H') := by
  cases l with
  | none =>
    have h : e.isNil = true := h
    refine ⟨fun pins s σ H Q I q => po_none.run pins s σ H Q I ?_⟩
    obtain ⟨T, env, O, k, r, q⟩ := q
    rw [h] at q
    exact q H Ext.refl k.tape
  | some l =>
    simp only [Bool.and_eq_true, Bool.not_eq_true'] at h
    have s := ih.get ok nd h.2
    refine ⟨fun pins st σ H Q I q => (po_some s.pe).run pins st σ H Q I ?_⟩
    obtain ⟨T, env, O, k, r, q⟩ := q
    rw [h.1] at q
    refine lift1 hm k r q fun d v H1 e1 k1 hd hp => ?_
    cases d with
    | int i => exact ⟨i, hd, hp H1 e1 k1.tape⟩
    | _ => exact hp.elim
theorem isTy_of {X : Cx} {T : Tape} {H : Hp} {d : D} {v : V} {t : Ty} (hd : Dat X.K T H d v) (l : ∀ a o, H a = some o → True) (nt : notTape d) {H2 : Hp} (le : Le H H2) : ∃ tv, TyX X.K H2 v tv ∧ PySem.W.kitOne X.K tv (.type t.name) = some (isTy d t) := by
  cases d with
  | non =>
    obtain rfl : v = .non := hd
    exact ⟨_, .base .non, by cases t <;> first | exact kit_ty (show kitB "NoneType" _ = some true from by decide +kernel) | exact kit_ty (show kitB "NoneType" _ = some false from by decide +kernel)⟩
  | bl b =>
    obtain rfl : v = .bl b := hd
    exact ⟨_, .base (.bl b), by cases t <;> first | exact kit_ty (show kitB "bool" _ = some true from by decide +kernel) | exact kit_ty (show kitB "bool" _ = some false from by decide +kernel)⟩
  | int b =>
    obtain rfl : v = .int b := hd
    exact ⟨_, .base (.int b), by cases t <;> first | exact kit_ty (show kitB "int" _ = some true from by decide +kernel) | exact kit_ty (show kitB "int" _ = some false from by decide +kernel)⟩
  | str b =>
    obtain rfl : v = .str b := (dat_str hd).1
    exact ⟨_, .base (.str b), by cases t <;> first | exact kit_ty (show kitB "str" _ = some true from by decide +kernel) | exact kit_ty (show kitB "str" _ = some false from by decide +kernel)⟩
  | tup ds =>
    obtain ⟨a, xs, rfl, q, _, _⟩ := dat_tup hd
    refine ⟨.type "tuple", ?_, by cases t <;> first | exact kit_ty (show kitB "tuple" _ = some true from by decide +kernel) | exact kit_ty (show kitB "tuple" _ = some false from by decide +kernel)⟩
    rcases q with (q | ⟨o, q⟩) | ⟨o, its, n, q1, q2, _⟩
    · exact .base (.tup (le _ _ q))
    · exact .fTuple (le _ _ q)
    · exact .kTuple q1 q2
  | lst ds =>
    obtain ⟨a, xs, rfl, q, _, _⟩ := dat_lst hd
    exact ⟨.type "list", .base (.lst (le _ _ q)), by cases t <;> first | exact kit_ty (show kitB "list" _ = some true from by decide +kernel) | exact kit_ty (show kitB "list" _ = some false from by decide +kernel)⟩
  | dic ks vs =>
    obtain ⟨a, kvs, rfl, q, _, _⟩ := hd
    exact ⟨.type "dict", .base (.dK (le _ _ q)), by cases t <;> first | exact kit_ty (show kitB "dict" _ = some true from by decide +kernel) | exact kit_ty (show kitB "dict" _ = some false from by decide +kernel)⟩
  | tape _ => exact nt.elim
theorem ty_boot (t : Ty) : bootBuiltins (t.name : Str) = some (.type t.name) := by cases t <;> decide +kernel
end DL

set_option Elab.async false
set_option linter.all false
set_option maxRecDepth 100000
set_option maxHeartbeats 2000000
/-! DL10: sound, by cases of E. -/
namespace DL
open PySem PySem.Spec PyProof.Rows L2

theorem no_list {e : E} (h : ∀ c xs, matchEs c e xs = false) : ∀ (X : Cx) (c : Ctx) (xs : List Expr), XOk X c → Need (gxOf X) e → matchEs c e xs = true → PA X xs (liftA X.K e) := fun X c xs _ _ m => by
  rw [h] at m
  cases m
theorem snd_const {e : E} {d : D} {w : V} (hs : ∀ env Q, semE e env Q = Q d) (hd : ∀ K T H, Dat K T H d w) (hn : ∀ ds, d ≠ .lst ds) {X : Cx} {x : Expr} (h : PE X x (tC w)) : PE X x (liftE X.K e) :=
  PE.imp h fun σ H Q q => by
    obtain ⟨T, env, O, k, r, q⟩ := q
    rw [hs] at q
    exact q.here k (hd _ _ _) fun _ ds => hn ds
theorem liftE_up {K : PySem.W.Frag} {T : Tape} {O : List Addr} {H : Hp} {e : E} {env : DEnv} {Q : VK} {fr : Bool} (hm : e.monos) (h : semE e env (post K T O fr H Q)) : semE e env (post K T O true H Q) := (sem_mono e hm).1 _ _ _ h fun _ h => h.up

theorem sound_nil : Sound .nil := by
  refine ⟨fun X c im x _ _ m => ?_, fun X c xs ok nd m => ?_⟩
  · cases x <;> simp [mE_nil] at m
  · cases xs with
    | cons x xs => simp [mEs_nil, mEs_cons] at m
    | nil =>
      refine PA.imp pa_nil fun σ H Q q => ?_
      obtain ⟨T, env, O, k, r, q⟩ := q
      exact q [] H Ext.refl k.tape rfl
theorem sound_cons {a b : E} (ma : a.monos) (mb : b.monos) (iha : Sound a) (ihb : Sound b) : Sound (.cons a b) := by
  refine ⟨fun X c im x _ _ m => ?_, fun X c xs ok nd m => ?_⟩
  · cases x <;> simp [mE_cons] at m
  · cases xs with
    | nil => simp [mEs_nil, mEs_cons] at m
    | cons x xs =>
      simp only [mEs_nil, mEs_cons, Bool.and_eq_true] at m
      have A := iha.get ok nd.1 m.1.2
      have B := ihb.2 X c xs ok nd.2 m.2
      refine PA.imp (pa_cons A.pe B (star_of m.1.1)) fun σ H Q q => ?_
      obtain ⟨T, env, O, k, r, q⟩ := q
      refine lift1 ma k r.l q fun d v H1 e1 k1 hd hp => ?_
      refine liftL mb k1 (r.r.ext k e1) hp fun ds vs H2 e2 k2 hds hp => ?_
      exact hp (v :: vs) H2 (e1.trans e2) k2.tape ⟨v, vs, rfl, hd.le (k1.res e2), hds⟩
theorem sound_var {i : Nat} : Sound (.var i) := by
  refine ⟨fun X c im x ok nd m => ?_, no_list fun c xs => rfl⟩
  cases x <;> simp only [mE_var, Bool.and_eq_true, decide_eq_true_eq, Bool.false_eq_true] at m
  obtain ⟨⟨h1, h2⟩, h3, h4⟩ := m
  refine both trivial (snd_plain trivial (PE.imp (pe_var (i := i) (by rw [ok.N]; exact h1) (vis_of ok h2) (by simpa using h3) (by simpa using h4)) fun σ H Q q => ?_) (fun _ => rfl) fun _ _ _ z => nomatch z)
  obtain ⟨T, env, O, k, r, q⟩ := q
  have q : match rdv env i with
    | some d => post X.K T O false H Q d
    | none => False := q
  cases e : rdv env i with
  | none => rw [e] at q; exact q.elim
  | some d =>
    rw [e] at q
    obtain ⟨v, h1, h2⟩ := r.at_ i (List.mem_singleton_self _) d e
    exact ⟨v, h1, q.here k h2 fun z => nomatch z⟩
theorem sound_non : Sound .non := by
  refine ⟨fun X c im x ok nd m => ?_, no_list fun c xs => rfl⟩
  cases x <;> try simp only [mE_non, Bool.false_eq_true] at m
  rename_i cst k pos
  cases cst <;> simp only [mE_non, Bool.false_eq_true] at m
  exact both trivial (snd_plain trivial (snd_const (d := .non) (w := .non) (fun _ _ => rfl) (fun _ _ _ => rfl) (fun _ z => nomatch z) pe_non) (fun _ => rfl) fun _ _ _ z => nomatch z)
theorem sound_bl {b : Bool} : Sound (.bl b) := by
  refine ⟨fun X c im x ok nd m => ?_, no_list fun c xs => rfl⟩
  cases x <;> try simp only [mE_bl, Bool.false_eq_true] at m
  rename_i cst k pos
  cases cst <;> simp only [mE_bl, Bool.false_eq_true, beq_iff_eq] at m
  subst m
  exact both trivial (snd_plain trivial (snd_const (d := .bl _) (w := .bl _) (fun _ _ => rfl) (fun _ _ _ => rfl) (fun _ z => nomatch z) pe_bl) (fun _ => rfl) fun _ _ _ z => nomatch z)
theorem sound_int {b : Int} : Sound (.int b) := by
  refine ⟨fun X c im x ok nd m => ?_, no_list fun c xs => rfl⟩
  cases x <;> try simp only [mE_int, Bool.false_eq_true] at m
  rename_i cst k pos
  cases cst <;> simp only [mE_int, Bool.false_eq_true, beq_iff_eq] at m
  subst m
  exact both trivial (snd_plain trivial (snd_const (d := .int _) (w := .int _) (fun _ _ => rfl) (fun _ _ _ => rfl) (fun _ z => nomatch z) pe_int) (fun _ => rfl) fun _ _ _ z => nomatch z)
theorem sound_str {b : Str} : Sound (.str b) := by
  refine ⟨fun X c im x ok nd m => ?_, no_list fun c xs => rfl⟩
  cases x <;> try simp only [mE_str, Bool.false_eq_true] at m
  rename_i cst k pos
  cases cst <;> simp only [mE_str, Bool.false_eq_true, Bool.and_eq_true, decide_eq_true_eq] at m
  obtain ⟨⟨rfl, h1⟩, h2⟩ := m
  exact both trivial (snd_plain trivial (snd_const (d := .str _) (w := .str _) (fun _ _ => rfl) (fun _ _ _ => ⟨rfl, h1, h2⟩) (fun _ z => nomatch z) pe_str) (fun _ => rfl) fun _ _ _ z => nomatch z)
theorem sound_glob {y : Str} {d : D} : Sound (.glob y d) := by
  refine ⟨fun X c im x ok nd m => ?_, no_list fun c xs => rfl⟩
  cases x <;> simp only [mE_glob, Bool.false_eq_true, Bool.and_eq_true, decide_eq_true_eq] at m
  obtain ⟨rfl, g⟩ := m
  obtain ⟨g1, g2, g3⟩ := gl_of ok g
  obtain ⟨u, v, hm, rv, hd⟩ := nd
  refine both trivial (snd_plain trivial (PE.imp (pe_glob g1 hm rv g2) fun σ H Q q => ?_) (fun _ => rfl) fun _ _ _ z => nomatch z)
  obtain ⟨T, env, O, k, r, q⟩ := q
  exact post.here k (show post X.K T O false H Q d from q) (hd _ _) fun z => nomatch z
theorem sound_bin {o : Operator} {a b : E} (ma : a.monos) (mb : b.monos) (iha : Sound a) (ihb : Sound b) : Sound (.bin o a b) := by
  refine ⟨fun X c im x ok nd m => ?_, no_list fun c xs => rfl⟩
  cases x <;> simp only [mE_bin, Bool.false_eq_true, Bool.and_eq_true, decide_eq_true_eq] at m
  obtain ⟨⟨rfl, m1⟩, m2⟩ := m
  have A := iha.get ok nd.1 m1
  have B := ihb.get ok nd.2 m2
  refine both ⟨ma, mb⟩ (snd_plain ⟨ma, mb⟩ (PE.imp (pe_op (op_bin _) A.pe B.pe) fun σ H Q q => ?_) (fun _ => rfl) fun _ _ _ z => nomatch z)
  obtain ⟨T, env, O, k, r, q⟩ := q
  refine lift1 ma k r.l q fun x v H1 e1 k1 d1 q => ?_
  refine lift1 mb k1 (r.r.ext k e1) q fun y w H2 e2 k2 d2 q => ?_
  exact ⟨T, O, x, y, k2, d1.le (k1.res e2), d2, dBin_mono q fun d q => q.ext (e1.trans e2) k2.tape⟩
theorem sound_neg {a : E} (ma : a.monos) (iha : Sound a) : Sound (.neg a) := by
  refine ⟨fun X c im x ok nd m => ?_, no_list fun c xs => rfl⟩
  cases x <;> try simp only [mE_neg, Bool.false_eq_true] at m
  rename_i op x pos
  cases op <;> simp only [mE_neg, Bool.false_eq_true] at m
  have A := iha.get ok nd m
  refine both (e := .neg a) ma (snd_plain (e := .neg a) ma (PE.imp (pe_un un_neg A.pe) fun σ H Q q => ?_) (fun _ => rfl) fun _ _ _ z => nomatch z)
  obtain ⟨T, env, O, k, r, q⟩ := q
  refine lift1 ma k r q fun x v H1 e1 k1 d1 q => ?_
  cases x with
  | int i => exact ⟨i, d1, post.int k1 (post.ext e1 k1.tape q)⟩
  | _ => exact q.elim
theorem sound_cmp {o : CmpOp} {a b : E} (ma : a.monos) (mb : b.monos) (iha : Sound a) (ihb : Sound b) : Sound (.cmp o a b) := by
  refine ⟨fun X c im x ok nd m => ?_, no_list fun c xs => rfl⟩
  cases x <;> try simp only [mE_cmp, Bool.false_eq_true] at m
  rename_i l ops cs pos
  match ops, cs, m with
  | [o'], [y], m =>
    simp only [mE_cmp, Bool.and_eq_true, decide_eq_true_eq] at m
    obtain ⟨⟨⟨rfl, n⟩, m1⟩, m2⟩ := m
    have A := iha.get ok nd.1 m1
    have B := ihb.get ok nd.2 m2
    refine both ⟨ma, mb⟩ ⟨PE.imp (pe_cmpR (op_cmp ok.hu _) A.pe B.pe (mark_of n)) fun σ H Q q => ?_, PT.imp (pt_cmpR (op_cmp ok.hu _) A.pe B.pe (mark_of n)) fun σ H Q q => ?_, fun _ _ _ z => nomatch z⟩
    · obtain ⟨T, env, O, k, r, q⟩ := q
      refine lift1 ma k r.l q fun x v H1 e1 k1 d1 q => ?_
      refine lift1 mb k1 (r.r.ext k e1) q fun y w H2 e2 k2 d2 q => ?_
      exact ⟨T, O, x, y, k2, d1.le (k1.res e2), d2, dCmp_mono q fun d q => (q.ext (e1.trans e2) k2.tape).up⟩
    · obtain ⟨T, env, O, k, r, q⟩ := q
      refine lift1 ma k r.l q fun x v H1 e1 k1 d1 q => ?_
      refine lift1 mb k1 (r.r.ext k e1) q fun y w H2 e2 k2 d2 q => ?_
      refine ⟨T, O, x, y, k2, d1.le (k1.res e2), d2, dCmp_mono q fun d q v H3 e3 t3 hd _ => ?_⟩
      cases d with
      | bl b => exact ⟨b, hd, q H3 ((e1.trans e2).trans e3) t3⟩
      | _ => exact q.elim
  | [], _, m => simp [mE_cmp] at m
  | [o'], [], m => simp [mE_cmp] at m
  | [o'], y :: z :: r, m => simp [mE_cmp] at m
  | o' :: p' :: r, cs, m => simp [mE_cmp] at m
end DL

set_option Elab.async false
set_option linter.all false
set_option maxRecDepth 100000
set_option maxHeartbeats 2000000
/-! DL11: sound, further cases of E, and the whole. -/
namespace DL
open PySem PySem.Spec PyProof.Rows L2

theorem sound_none {e : E} (h1 : ∀ c im x, matchE c im e x = false) (h2 : ∀ c xs, matchEs c e xs = false) : Sound e := by
  refine ⟨fun X c im x _ _ m => ?_, no_list h2⟩
  rw [h1] at m
  cases m
theorem sound_chain {o p : CmpOp} {a b d : E} (ma : a.monos) (mb : b.monos) (md : d.monos) (iha : Sound a) (ihb : Sound b) (ihd : Sound d) : Sound (.chain o p a b d) := by
  refine ⟨fun X c im x ok nd m => ?_, no_list fun c xs => rfl⟩
  cases x <;> try simp only [mE_chain, Bool.false_eq_true] at m
  rename_i l ops cs pos
  match ops, cs, m with
  | [o', p'], [y, z], m =>
    simp only [mE_chain, Bool.and_eq_true, decide_eq_true_eq] at m
    obtain ⟨⟨⟨⟨⟨⟨rfl, rfl⟩, n1⟩, n2⟩, m1⟩, m2⟩, m3⟩ := m
    have A := iha.get ok nd.1 m1
    have B := ihb.get ok nd.2.1 m2
    have C := ihd.get ok nd.2.2 m3
    have hm : lastMarks [o, p] [y, z] = false := mark_of n2
    refine both ⟨ma, mb, md⟩ ⟨PE.imp (pe_chain (op_cmp ok.hu _) (op_cmp ok.hu _) A.pe B.pe C.pe hm) fun σ H Q q => ?_, PT.imp (pt_chain (op_cmp ok.hu _) (op_cmp ok.hu _) A.pe B.pe C.pe hm) fun σ H Q q => ?_, fun _ _ _ z => nomatch z⟩
    · obtain ⟨T, env, O, k, r, q⟩ := q
      refine lift1 ma k r.l q fun x v H1 e1 k1 d1 q => ?_
      refine lift1 mb k1 (r.r.l.ext k e1) q fun y w H2 e2 k2 d2 q => ?_
      refine ⟨T, O, x, y, k2, d1.le (k1.res e2), d2, dCmp_mono q fun d q v3 H3 e3 t3 hd _ => ?_⟩
      have e123 := (e1.trans e2).trans e3
      have k3 := k2.ext e3 t3
      split at q
      · refine ⟨true, hd, ?_⟩
        rw [if_pos rfl]
        refine lift1 md k3 (r.r.r.ext k e123) q fun z v4 H4 e4 k4 d4 q => ?_
        exact ⟨T, O, _, _, k4, d2.le (k2.res (e3.trans e4)), d4, dCmp_mono q fun d q => (q.ext (e123.trans e4) k4.tape).up⟩
      · refine ⟨false, hd, ?_⟩
        rw [if_neg Bool.false_ne_true]
        exact post.bl k3 (post.ext e123 t3 q)
      · exact q.elim
    · obtain ⟨T, env, O, k, r, q⟩ := q
      refine lift1 ma k r.l q fun x v H1 e1 k1 d1 q => ?_
      refine lift1 mb k1 (r.r.l.ext k e1) q fun y w H2 e2 k2 d2 q => ?_
      refine ⟨T, O, x, y, k2, d1.le (k1.res e2), d2, dCmp_mono q fun d q v3 H3 e3 t3 hd _ => ?_⟩
      have e123 := (e1.trans e2).trans e3
      have k3 := k2.ext e3 t3
      split at q
      · refine ⟨true, hd, ?_⟩
        rw [if_pos rfl]
        refine lift1 md k3 (r.r.r.ext k e123) q fun z v4 H4 e4 k4 d4 q => ?_
        refine ⟨T, O, _, _, k4, d2.le (k2.res (e3.trans e4)), d4, dCmp_mono q fun d q v5 H5 e5 t5 hd _ => ?_⟩
        cases d with
        | bl b => exact ⟨b, hd, q H5 ((e123.trans e4).trans e5) t5⟩
        | _ => exact q.elim
      · refine ⟨false, hd, ?_⟩
        rw [if_neg Bool.false_ne_true]
        exact ⟨false, rfl, q H3 e123 t3⟩
      · exact q.elim
  | [], _, m => simp [mE_chain] at m
  | [o'], cs, m => simp [mE_chain] at m
  | [o', p'], [], m => simp [mE_chain] at m
  | [o', p'], [y], m => simp [mE_chain] at m
  | [o', p'], y :: z :: w :: r, m => simp [mE_chain] at m
  | o' :: p' :: q' :: r, cs, m => simp [mE_chain] at m

theorem postB.ext {T : Tape} {H H1 : Hp} {Q : Bool → Hp → Prop} {d : D} (e : Ext T H H1) (h : postB T H Q d) : postB T H1 Q d := by
  cases d with
  | bl b => exact fun H2 e2 t2 => h H2 (e.trans e2) t2
  | _ => exact h.elim
/-- two tests in a row -/
theorem andd_read {K : PySem.W.Frag} {a b : E} (ma : a.monos) (mb : b.monos) {σ : L2.St} {H : Hp} {Q : Bool → Hp → Prop} (h : liftT K (.andd a b) σ H Q) : tAnd (liftT K a) (liftT K b) σ H Q := by
  obtain ⟨T, env, O, k, r, q⟩ := h
  refine liftB ma k r.l q fun d q => ?_
  cases d with
  | bl x =>
    refine ⟨x, rfl, fun H1 e1 k1 => ?_⟩
    cases x with
    | true =>
      rw [if_pos rfl]
      exact ⟨T, env, O, k1, r.r.ext k e1, (sem_mono b mb).1 _ _ _ q fun d q => q.ext e1⟩
    | false =>
      rw [if_neg Bool.false_ne_true]
      exact (show postB T H Q (.bl false) from q) H1 e1 k1.tape
  | _ => exact q.elim
theorem orr_read {K : PySem.W.Frag} {a b : E} (ma : a.monos) (mb : b.monos) {σ : L2.St} {H : Hp} {Q : Bool → Hp → Prop} (h : liftT K (.orr a b) σ H Q) : tOr (liftT K a) (liftT K b) σ H Q := by
  obtain ⟨T, env, O, k, r, q⟩ := h
  refine liftB ma k r.l q fun d q => ?_
  cases d with
  | bl x =>
    refine ⟨x, rfl, fun H1 e1 k1 => ?_⟩
    cases x with
    | false =>
      rw [if_neg Bool.false_ne_true]
      exact ⟨T, env, O, k1, r.r.ext k e1, (sem_mono b mb).1 _ _ _ q fun d q => q.ext e1⟩
    | true =>
      rw [if_pos rfl]
      exact (show postB T H Q (.bl true) from q) H1 e1 k1.tape
  | _ => exact q.elim
theorem andd_readE {K : PySem.W.Frag} {a b : E} (ma : a.monos) (mb : b.monos) {σ : L2.St} {H : Hp} {Q : VK} (h : liftE K (.andd a b) σ H Q) : tAndV (liftE K a) (liftE K b) σ H Q := by
  obtain ⟨T, env, O, k, r, q⟩ := h
  refine lift1 ma k r.l q fun d v H1 e1 k1 d1 q => ?_
  cases d with
  | bl x =>
    refine ⟨x, d1, ?_⟩
    cases x with
    | true =>
      rw [if_pos rfl]
      exact ⟨T, env, O, k1, r.r.ext k e1, (sem_mono b mb).1 _ _ _ q fun d q v H2 e2 t2 hd hf => (post.ext e1 k1.tape q) v H2 e2 t2 hd fun z => nomatch z⟩
    | false =>
      rw [if_neg Bool.false_ne_true]
      exact post.bl k1 (post.ext e1 k1.tape q)
  | _ => exact q.elim
theorem orr_readE {K : PySem.W.Frag} {a b : E} (ma : a.monos) (mb : b.monos) {σ : L2.St} {H : Hp} {Q : VK} (h : liftE K (.orr a b) σ H Q) : tOrV (liftE K a) (liftE K b) σ H Q := by
  obtain ⟨T, env, O, k, r, q⟩ := h
  refine lift1 ma k r.l q fun d v H1 e1 k1 d1 q => ?_
  cases d with
  | bl x =>
    refine ⟨x, d1, ?_⟩
    cases x with
    | false =>
      rw [if_neg Bool.false_ne_true]
      exact ⟨T, env, O, k1, r.r.ext k e1, (sem_mono b mb).1 _ _ _ q fun d q v H2 e2 t2 hd hf => (post.ext e1 k1.tape q) v H2 e2 t2 hd fun z => nomatch z⟩
    | true =>
      rw [if_pos rfl]
      exact post.bl k1 (post.ext e1 k1.tape q)
  | _ => exact q.elim
theorem sound_andd {a b : E} (ma : a.monos) (mb : b.monos) (iha : Sound a) (ihb : Sound b) : Sound (.andd a b) := by
  refine ⟨fun X c im x ok nd m => ?_, no_list fun c xs => rfl⟩
  cases x <;> try simp only [mE_andd, Bool.false_eq_true] at m
  rename_i op vs pos
  match op, vs, m with
  | .And, [x, y], m =>
    simp only [mE_andd, Bool.and_eq_true] at m
    have A := iha.get ok nd.1 m.1
    have B := ihb.get ok nd.2 m.2
    have W : PW X (.BoolOp .And [x, y] pos) (liftT X.K (.andd a b)) := PW.imp (pw_and A.pt (pw_and1 B.pt)) fun σ H Q q => andd_read ma mb q
    exact both ⟨ma, mb⟩ ⟨PE.imp (pe_and A.pe (pe_one B.pe)) fun σ H Q q => andd_readE ma mb q, W.pt, fun _ _ _ e => by cases e; exact W⟩
  | .And, x :: y :: z :: r, m =>
    simp only [mE_andd, Bool.and_eq_true] at m
    have A := iha.get ok nd.1 m.1
    have B := ihb.get ok nd.2 m.2
    have W : PW X (.BoolOp .And (x :: y :: z :: r) pos) (liftT X.K (.andd a b)) := PW.imp (pw_and A.pt (B.pw _ _ _ rfl)) fun σ H Q q => andd_read ma mb q
    exact both ⟨ma, mb⟩ ⟨PE.imp (pe_and A.pe B.pe) fun σ H Q q => andd_readE ma mb q, W.pt, fun _ _ _ e => by cases e; exact W⟩
  | .And, [], m => simp [mE_andd] at m
  | .And, [x], m => simp [mE_andd] at m
  | .Or, vs, m => simp [mE_andd] at m
theorem sound_orr {a b : E} (ma : a.monos) (mb : b.monos) (iha : Sound a) (ihb : Sound b) : Sound (.orr a b) := by
  refine ⟨fun X c im x ok nd m => ?_, no_list fun c xs => rfl⟩
  cases x <;> try simp only [mE_orr, Bool.false_eq_true] at m
  rename_i op vs pos
  match op, vs, m with
  | .Or, [x, y], m =>
    simp only [mE_orr, Bool.and_eq_true] at m
    have A := iha.get ok nd.1 m.1
    have B := ihb.get ok nd.2 m.2
    have W : PW X (.BoolOp .Or [x, y] pos) (liftT X.K (.orr a b)) := PW.imp (pw_or A.pt (pw_or1 B.pt)) fun σ H Q q => orr_read ma mb q
    exact both ⟨ma, mb⟩ ⟨PE.imp (pe_or A.pe (pe_one B.pe)) fun σ H Q q => orr_readE ma mb q, W.pt, fun _ _ _ e => by cases e; exact W⟩
  | .Or, x :: y :: z :: r, m =>
    simp only [mE_orr, Bool.and_eq_true] at m
    have A := iha.get ok nd.1 m.1
    have B := ihb.get ok nd.2 m.2
    have W : PW X (.BoolOp .Or (x :: y :: z :: r) pos) (liftT X.K (.orr a b)) := PW.imp (pw_or A.pt (B.pw _ _ _ rfl)) fun σ H Q q => orr_read ma mb q
    exact both ⟨ma, mb⟩ ⟨PE.imp (pe_or A.pe B.pe) fun σ H Q q => orr_readE ma mb q, W.pt, fun _ _ _ e => by cases e; exact W⟩
  | .Or, [], m => simp [mE_orr] at m
  | .Or, [x], m => simp [mE_orr] at m
  | .And, vs, m => simp [mE_orr] at m
theorem sound_nott {a : E} (ma : a.monos) (iha : Sound a) : Sound (.nott a) := by
  refine ⟨fun X c im x ok nd m => ?_, no_list fun c xs => rfl⟩
  cases x <;> try simp only [mE_nott, Bool.false_eq_true] at m
  rename_i op x pos
  cases op <;> try simp only [mE_nott, Bool.false_eq_true] at m
  have A := iha.get ok nd m
  refine both (e := .nott a) ma ⟨PE.imp (pe_not A.pe) fun σ H Q q => ?_, PT.imp (pt_not A.pt) fun σ H Q q => ?_, fun _ _ _ z => nomatch z⟩
  · obtain ⟨T, env, O, k, r, q⟩ := q
    refine lift1 ma k r q fun x v H1 e1 k1 d1 q => ?_
    cases x with
    | bl i => exact ⟨i, d1, post.bl k1 (post.ext e1 k1.tape q)⟩
    | _ => exact q.elim
  · obtain ⟨T, env, O, k, r, q⟩ := q
    refine liftB ma k r q fun d q => ?_
    cases d with
    | bl i => exact ⟨i, rfl, fun H1 e1 k1 => (show postB T H Q (.bl (!i)) from q) H1 e1 k1.tape⟩
    | _ => exact q.elim
theorem pt_ite {X : Cx} {c a b : Expr} {pos : Pos} {tc ta tb : TT} (hc : PT X c tc) (ha : PT X a ta) (hb : PT X b tb) : PT X (.IfExp c a b pos) (fun σ H Q => tc σ H fun d H1 => if d = true then ta σ H1 Q else tb σ H1 Q) := by
  constructor
  intro pins s σ H Q I h
  refine isTrue_IfExp (thn (hc.run pins s σ H _ I h) ?_)
  rintro d s1 ⟨H1, I1, q1⟩
  cases d with
  | true => exact ha.run pins s1 σ H1 Q I1 q1
  | false => exact hb.run pins s1 σ H1 Q I1 q1
theorem sound_ite {t a b : E} (mt : t.monos) (ma : a.monos) (mb : b.monos) (iht : Sound t) (iha : Sound a) (ihb : Sound b) : Sound (.ite t a b) := by
  refine ⟨fun X c im x ok nd m => ?_, no_list fun c xs => rfl⟩
  cases x <;> try simp only [mE_ite, Bool.false_eq_true, Bool.and_eq_true] at m
  have C := iht.get ok nd.1 m.1.1
  have A := iha.get ok nd.2.1 m.1.2
  have B := ihb.get ok nd.2.2 m.2
  refine both ⟨mt, ma, mb⟩ ⟨PE.imp (pe_ifExp C.pt A.pe B.pe) fun σ H Q q => ?_, PT.imp (pt_ite C.pt A.pt B.pt) fun σ H Q q => ?_, fun _ _ _ z => nomatch z⟩
  · obtain ⟨T, env, O, k, r, q⟩ := q
    refine liftB mt k r.l q fun d q => ?_
    cases d with
    | bl x =>
      refine ⟨x, rfl, fun H1 e1 k1 => ?_⟩
      cases x with
      | true =>
        rw [if_pos rfl]
        exact ⟨T, env, O, k1, r.r.l.ext k e1, (sem_mono a ma).1 _ _ _ q fun d q v H2 e2 t2 hd hf => (post.ext e1 k1.tape q) v H2 e2 t2 hd fun z => nomatch z⟩
      | false =>
        rw [if_neg Bool.false_ne_true]
        exact ⟨T, env, O, k1, r.r.r.ext k e1, (sem_mono b mb).1 _ _ _ q fun d q v H2 e2 t2 hd hf => (post.ext e1 k1.tape q) v H2 e2 t2 hd fun z => nomatch z⟩
    | _ => exact q.elim
  · obtain ⟨T, env, O, k, r, q⟩ := q
    refine liftB mt k r.l q fun d q => ?_
    cases d with
    | bl x =>
      refine ⟨x, rfl, fun H1 e1 k1 => ?_⟩
      cases x with
      | true =>
        rw [if_pos rfl]
        exact ⟨T, env, O, k1, r.r.l.ext k e1, (sem_mono a ma).1 _ _ _ q fun d q => q.ext e1⟩
      | false =>
        rw [if_neg Bool.false_ne_true]
        exact ⟨T, env, O, k1, r.r.r.ext k e1, (sem_mono b mb).1 _ _ _ q fun d q => q.ext e1⟩
    | _ => exact q.elim
end DL

set_option Elab.async false
set_option linter.all false
set_option maxRecDepth 100000
set_option maxHeartbeats 2000000
/-! DL12: sound, the last cases of E, and the whole. -/
namespace DL
open PySem PySem.Spec PyProof.Rows L2

def E.len : E → Nat
  | .cons _ b => b.len + 1
  | _ => 0
theorem semEs_len : ∀ {e : E}, e.monos → ∀ {env : DEnv} {Q : List D → Prop}, semEs e env Q → semEs e env fun ds => ds.length = e.len ∧ Q ds := by
  intro e
  induction e with
  | nil => exact fun _ env Q h => ⟨rfl, h⟩
  | cons a b _ ih => exact fun hm env Q h => (sem_mono a hm.1).1 _ _ _ h fun d h => (sem_mono b hm.2).2 _ _ _ (ih hm.2 h) fun ds h => ⟨by rw [List.length_cons, h.1]; rfl, h.2⟩
  | _ => exact fun _ env Q h => h.elim
theorem matchEs_len {c : Ctx} : ∀ {e : E} {xs : List Expr}, matchEs c e xs = true → xs.length = e.len := by
  intro e
  induction e with
  | nil =>
    intro xs h
    cases xs with
    | nil => rfl
    | cons x xs => simp [mEs_nil, mEs_cons] at h
  | cons a b _ ih =>
    intro xs h
    cases xs with
    | nil => simp [mEs_nil, mEs_cons] at h
    | cons x xs =>
      simp only [mEs_nil, mEs_cons, Bool.and_eq_true] at h
      rw [List.length_cons, ih h.2]
      rfl
  | _ => intro xs h; exact Bool.noConfusion (show false = true from h)
theorem sound_tup {es : E} (me : es.monos) (ih : Sound es) : Sound (.tup es) := by
  refine ⟨fun X c im x ok nd m => ?_, no_list fun c xs => rfl⟩
  cases x <;> try simp only [mE_tup, Bool.false_eq_true, Bool.and_eq_true, decide_eq_true_eq] at m
  have A := ih.2 X c _ ok nd m.2
  have hl := matchEs_len m.2
  refine both (e := .tup es) me (snd_plain (e := .tup es) me (PE.imp (pe_tup A) fun σ H Q q => ?_) (fun _ => rfl) fun _ _ _ z => nomatch z)
  obtain ⟨T, env, O, k, r, q⟩ := q
  refine liftL me k r (semEs_len me q) fun ds vs H1 e1 k1 hd q => ?_
  have hz : vs.length ≤ 16777216 := by rw [hd.length, q.1, ← hl]; exact m.1
  exact ⟨hz, fun p hp => post.tup k1 (post.ext e1 k1.tape q.2) hd hz hp⟩
theorem sound_lst {es : E} (me : es.monos) (ih : Sound es) : Sound (.lst es) := by
  refine ⟨fun X c im x ok nd m => ?_, no_list fun c xs => rfl⟩
  cases x <;> try simp only [mE_lst, Bool.false_eq_true, Bool.and_eq_true, decide_eq_true_eq] at m
  have A := ih.2 X c _ ok nd m.2
  have hl := matchEs_len m.2
  refine both (e := .lst es) me (snd_plain (e := .lst es) me (PE.imp (pe_lst A) fun σ H Q q => ?_) (fun _ => rfl) fun _ _ _ z => nomatch z)
  obtain ⟨T, env, O, k, r, q⟩ := q
  refine liftL me k r (semEs_len me q) fun ds vs H1 e1 k1 hd q => ?_
  have hz : vs.length ≤ 16777216 := by rw [hd.length, q.1, ← hl]; exact m.1
  exact ⟨hz, fun p hp => post.lst k1 (post.ext e1 k1.tape q.2) hd hz hp⟩
theorem sound_ix {a b : E} (ma : a.monos) (mb : b.monos) (iha : Sound a) (ihb : Sound b) : Sound (.ix a b) := by
  refine ⟨fun X c im x ok nd m => ?_, no_list fun c xs => rfl⟩
  cases x <;> try simp only [mE_ix, Bool.false_eq_true, Bool.and_eq_true, decide_eq_true_eq] at m
  obtain ⟨⟨ns, m1⟩, m2⟩ := m
  have A := iha.get ok nd.1 m1
  have B := ihb.get ok nd.2 m2
  refine both ⟨ma, mb⟩ (snd_plain ⟨ma, mb⟩ (PE.imp (pe_ix ix_D A.pe B.pe (plain_of ns)) fun σ H Q q => ?_) (fun _ => rfl) fun _ _ _ z => nomatch z)
  obtain ⟨T, env, O, k, r, q⟩ := q
  refine lift1 ma k r.l q fun x v H1 e1 k1 d1 q => ?_
  refine lift1 mb k1 (r.r.ext k e1) q fun y w H2 e2 k2 d2 q => ?_
  exact ⟨T, O, x, y, k2, d1.le (k1.res e2), d2, dIx_mono q fun d q => q.ext (e1.trans e2) k2.tape⟩
theorem sound_sl {a lo hi : E} (ma : a.monos) (ml : lo.monos) (mh : hi.monos) (iha : Sound a) (ihl : Sound lo) (ihh : Sound hi) : Sound (.sl a lo hi) := by
  refine ⟨fun X c im x ok nd m => ?_, no_list fun c xs => rfl⟩
  cases x <;> try simp only [mE_sl, Bool.false_eq_true] at m
  rename_i x y pos
  match y, m with
  | .Slice l h none p, m =>
    simp only [mE_sl, Bool.and_eq_true] at m
    obtain ⟨⟨m1, m2⟩, m3⟩ := m
    have A := iha.get ok nd.1 m1
    have L := po_of ok ml ihl nd.2.1 m2
    have U := po_of ok mh ihh nd.2.2 m3
    refine both ⟨ma, ml, mh⟩ (snd_plain ⟨ma, ml, mh⟩ (PE.imp (pe_slice sl_D A.pe L U) fun σ H Q q => ?_) (fun _ => rfl) fun _ _ _ z => nomatch z)
    obtain ⟨T, env, O, k, r, q⟩ := q
    refine lift1 ma k r.l q fun x v H1 e1 k1 d1 q => ?_
    refine ⟨T, env, O, k1, r.r.l.ext k e1, partD_mono q (fun l q H2 e2 t2 => ?_) ((sem_mono lo ml).1 env)⟩
    have k2 := k1.ext e2 t2
    refine ⟨T, env, O, k2, r.r.r.ext k (e1.trans e2), partD_mono q (fun u q H3 e3 t3 => ?_) ((sem_mono hi mh).1 env)⟩
    exact ⟨T, O, x, k2.ext e3 t3, d1.le ((k1.res e2).trans (k2.res e3)), dSl_mono q fun d q => q.ext ((e1.trans e2).trans e3) t3⟩
  | .Slice _ _ (some _) _, m => simp [mE_sl] at m
  | .BoolOp .., m | .NamedExpr .., m | .BinOp .., m | .UnaryOp .., m | .Lambda .., m | .IfExp .., m | .Dict .., m | .Set .., m | .ListComp .., m | .SetComp .., m | .DictComp .., m | .GeneratorExp .., m | .Await .., m | .Yield .., m | .YieldFrom .., m
  | .Compare .., m | .Call .., m | .FormattedValue .., m | .JoinedStr .., m | .Constant .., m | .Attribute .., m | .Subscript .., m | .Starred .., m | .Name .., m | .List .., m | .Tuple .., m => simp [mE_sl] at m
theorem sound_call {f : Str} {sp : DSpec} {es : E} (msp : SpMono sp) (me : es.monos) (ih : Sound es) : Sound (.call f sp es) := by
  refine ⟨fun X c im x ok nd m => ?_, no_list fun c xs => rfl⟩
  cases x <;> try simp only [mE_call, Bool.false_eq_true] at m
  rename_i g xs kws pos
  match g, kws, m with
  | .Name y p, [], m =>
    simp only [mE_call, Bool.and_eq_true, decide_eq_true_eq] at m
    obtain ⟨⟨rfl, g5⟩, m5⟩ := m
    obtain ⟨g1, g2, g3⟩ := gl_of ok g5
    obtain ⟨⟨fa, fd, ps, kk, hm, F, hr, hk, hb⟩, nd⟩ := nd
    have A := ih.2 X c _ ok nd m5
    have key : ∀ {σ : L2.St} {H : Hp} {Q : VK}, liftE X.K (.call y sp es) σ H Q → liftA X.K es σ H fun vs H1 => spOf X.K sp (vs ++ []) H1 Q E0 := fun {σ H Q} q => by
      obtain ⟨T, env, O, k, r, q⟩ := q
      refine liftL me k r q fun ds vs H1 e1 k1 hd q => ?_
      rw [List.append_nil]
      exact ⟨T, O, ds, k1, hd, msp _ _ _ q fun d q => q.ext e1 k1.tape⟩
    refine both ⟨msp, me⟩ (snd_plain ⟨msp, me⟩ ?_ (fun _ => rfl) fun _ _ _ z => nomatch z)
    cases xs with
    | nil =>
      refine PE.imp (pe_call0 (E := E0) F hr g1 hm hk hb .nil pass0 g2) fun σ H Q q => ?_
      obtain ⟨T, env, O, k, r, q⟩ := key q
      have e0 : es = .nil := by
        cases es <;> first | rfl | exact Bool.noConfusion (show false = true from m5)
      subst e0
      exact q [] H Ext.refl k.tape rfl
    | cons x xs =>
      have st := stars_of m5
      exact PE.imp (pe_call (E := E0) F hr g1 hm hk hb .nil pass0 A g2 (star_of (st x List.mem_cons_self)) (backs_of xs fun e he => st e (List.mem_cons_of_mem _ he))) fun σ H Q q => key q
  | .Name _ _, _ :: _, m => simp [mE_call] at m
  | .BoolOp .., _, m | .NamedExpr .., _, m | .BinOp .., _, m | .UnaryOp .., _, m | .Lambda .., _, m | .IfExp .., _, m | .Dict .., _, m | .Set .., _, m | .ListComp .., _, m | .SetComp .., _, m | .DictComp .., _, m | .GeneratorExp .., _, m | .Await .., _, m | .Yield .., _, m | .YieldFrom .., _, m
  | .Compare .., _, m | .Call .., _, m | .FormattedValue .., _, m | .JoinedStr .., _, m | .Constant .., _, m | .Attribute .., _, m | .Subscript .., _, m | .Starred .., _, m | .List .., _, m | .Tuple .., _, m | .Slice .., _, m => simp [mE_call] at m
theorem sound_bf {f : Bf} {es : E} (me : es.monos) (ih : Sound es) : Sound (.bf f es) := by
  refine ⟨fun X c im x ok nd m => ?_, no_list fun c xs => rfl⟩
  cases x <;> try simp only [mE_bf, Bool.false_eq_true] at m
  rename_i g xs kws pos
  match g, xs, kws, m with
  | .Name y p, x :: xs, [], m =>
    simp only [mE_bf, Bool.and_eq_true, decide_eq_true_eq] at m
    obtain ⟨⟨rfl, g5⟩, m5⟩ := m
    have A := ih.2 X c _ ok nd.2 m5
    have st := stars_of m5
    refine both (e := .bf f es) me (snd_plain (e := .bf f es) me (PE.imp (bf_pe ok g5 nd.1 A (st x List.mem_cons_self) fun e he => st e (List.mem_cons_of_mem _ he)) fun σ H Q q => ?_) (fun _ => rfl) fun _ _ _ z => nomatch z)
    obtain ⟨T, env, O, k, r, q⟩ := q
    refine liftL me k r q fun ds vs H1 e1 k1 hd q => ?_
    exact ⟨T, O, ds, k1, hd, dBf_mono q fun d q => (q.ext e1 k1.tape).up⟩
  | .Name _ _, [], _, m => simp [mE_bf] at m
  | .Name _ _, _ :: _, _ :: _, m => simp [mE_bf] at m
  | .BoolOp .., _, _, m | .NamedExpr .., _, _, m | .BinOp .., _, _, m | .UnaryOp .., _, _, m | .Lambda .., _, _, m | .IfExp .., _, _, m | .Dict .., _, _, m | .Set .., _, _, m | .ListComp .., _, _, m | .SetComp .., _, _, m | .DictComp .., _, _, m | .GeneratorExp .., _, _, m | .Await .., _, _, m | .Yield .., _, _, m | .YieldFrom .., _, _, m
  | .Compare .., _, _, m | .Call .., _, _, m | .FormattedValue .., _, _, m | .JoinedStr .., _, _, m | .Constant .., _, _, m | .Attribute .., _, _, m | .Subscript .., _, _, m | .Starred .., _, _, m | .List .., _, _, m | .Tuple .., _, _, m | .Slice .., _, _, m => simp [mE_bf] at m
end DL

set_option Elab.async false
set_option linter.all false
set_option maxRecDepth 100000
set_option maxHeartbeats 4000000
/-! DLm: methods, len(set(xs)), comprehensions of two fors, ranges downward. -/
namespace DL
open PySem PySem.Spec PyProof.Rows L2

/-! ### methods -/
def tBMx (X : Cx) (name : Str) (to : TE) (t : TA) : TE := fun σ H Q => to σ H fun x H1 => ∃ (T id : String) (r : V → List V → Hp → VK → Prop), PlainAttrs T ∧ Slot T name id ∧ typeOf (.builtin id) = pure (.type "method_descriptor") ∧ MtR X id r ∧ tyV X.K T x H1 ∧ t σ H1 fun xs H2 => r x xs H2 Q
theorem pe_bmx {X : Cx} {o e : Expr} {es : List Expr} {to : TE} {t : TA} {name : Str} {apos cpos : Pos} (ho : PE X o to) (ha : PA X (e :: es) t)
    (hbase : attributeBase o name X.env (eval o X.env) = eval o X.env)
    (hfew : ((backTo cpos (starEach (e :: es) X.env)).all (fun x => !x.1) && (backToKw cpos (keywordEach [] X.env)).all (fun x => x.1.isSome)
      && decide ((e :: es).length + ([] : List Keyword).length + (if ([] : List Keyword).isEmpty then 0 else 1) < 30)) = true)
    (hline : (apos.endLine == cpos.line) = true) (hs : starEach (e :: es) X.env = (false, eval e X.env) :: starEach es X.env) (hplain : (backTo cpos (starEach es X.env)).any (·.1) = false) :
    PE X (.Call (.Attribute o name apos) (e :: es) [] cpos) (tBMx X name to t) := by
  refine ⟨fun pins s σ H Q I h => ?_⟩
  refine wpAny_Call_method_late hbase hfew hline rfl (thn (ho.run pins s σ H _ I h) fun v s1 ⟨x, H1, I1, r1, T, id, r, pa, slot, hty, hm, ty, q1⟩ => ?_)
  obtain ⟨h1, h2⟩ := tyV_is I1 r1 ty
  refine ⟨T, id, pa, slot, hty, h1, h2, ?_⟩
  have hA := ha.run cpos pins s1 σ H1 _ I1 q1
  rw [hs] at hA ⊢
  refine Calls.callWith_builtin (by show (false || (backTo cpos (starEach es X.env)).any (·.1)) = false; rw [hplain] <;> rfl) (Calls.evalArgs_plain ?_)
  exact thn hA fun us s2 ⟨vs, H2, I2, r2, q2⟩ => hm pins s2 σ H2 x vs v us Q I2 r1 r2 q2
theorem few_one {X : Cx} {y : Expr} {cpos : Pos} (ns : notStar y = true) : ((backTo cpos (starEach [y] X.env)).all (fun x => !x.1) && (backToKw cpos (keywordEach [] X.env)).all (fun x => x.1.isSome)
      && decide (([y] : List Expr).length + ([] : List Keyword).length + (if ([] : List Keyword).isEmpty then 0 else 1) < 30)) = true := by
  rw [star_of ns]
  rfl
theorem joinS_list (sep : Str) (xs : List Str) : (joinS sep xs).cps.toList = TL.joinL sep.cps.toList (xs.map fun x => x.cps.toList) := by
  unfold joinS
  rw [TL.join_eq]
  exact TL.tl_join sep xs
theorem joinL_mem {S : List Nat} {c : Nat} : ∀ {ls : List (List Nat)}, c ∈ TL.joinL S ls → c ∈ S ∨ ∃ l ∈ ls, c ∈ l
  | [], h => nomatch h
  | [p], h => .inr ⟨p, List.mem_singleton_self _, h⟩
  | p :: q :: r, h => by
    have h : c ∈ p ++ (S ++ TL.joinL S (q :: r)) := h
    rcases List.mem_append.mp h with h | h
    · exact .inr ⟨p, List.mem_cons_self, h⟩
    · rcases List.mem_append.mp h with h | h
      · exact .inl h
      · rcases joinL_mem h with h | ⟨l, hl, h⟩
        · exact .inl h
        · exact .inr ⟨l, List.mem_cons_of_mem _ hl, h⟩
theorem joinL_len {S : List Nat} : ∀ {ls : List (List Nat)}, (TL.joinL S ls).length ≤ (ls.map List.length).sum + ls.length * S.length
  | [] => Nat.zero_le _
  | [p] => by show p.length ≤ _; simp
  | p :: q :: r => by
    have ih := @joinL_len S (q :: r)
    show (p ++ (S ++ TL.joinL S (q :: r))).length ≤ _
    rw [List.length_append, List.length_append, List.map_cons, List.sum_cons, List.length_cons, Nat.succ_mul]
    omega
theorem joinS_ok {sep : Str} {xs : List Str} (hs : PyData.strOk sep = true) (hx : ∀ x ∈ xs, PyData.strOk x = true) (hz : (xs.map fun x => x.cps.size).sum + xs.length * sep.cps.size ≤ 16777216) : (joinS sep xs).cps.size ≤ 16777216 ∧ PyData.strOk (joinS sep xs) = true := by
  refine ⟨?_, strOk_iff.mpr fun c hc => ?_⟩
  · rw [← Array.length_toList, joinS_list]
    refine Nat.le_trans joinL_len ?_
    rw [List.map_map, List.length_map, Array.length_toList]
    exact hz
  · rw [joinS_list] at hc
    rcases joinL_mem hc with h | ⟨l, hl, h⟩
    · exact strOk_iff.mp hs c h
    · obtain ⟨x, hx1, rfl⟩ := List.mem_map.mp hl
      exact strOk_iff.mp (hx x hx1) c h
theorem joinL_nil : ∀ ls : List (List Nat), TL.joinL [] ls = ls.flatten
  | [] => rfl
  | [p] => by show p = _; simp
  | p :: q :: r => by
    show p ++ ([] ++ TL.joinL [] (q :: r)) = _
    rw [joinL_nil (q :: r)]
    rfl
theorem findIdx_get {α : Type} {p : α → Bool} {xs : List α} (h : xs.any p = true) : ∃ z, xs[xs.findIdx p]? = some z ∧ p z = true ∧ ∀ m z', m < xs.findIdx p → xs[m]? = some z' → p z' = false := by
  have hl : xs.findIdx p < xs.length := List.findIdx_lt_length.mpr (by
    obtain ⟨x, hx, hp⟩ := List.any_eq_true.mp h
    exact ⟨x, hx, hp⟩)
  refine ⟨xs[xs.findIdx p], List.getElem?_eq_getElem hl, List.findIdx_getElem, fun m z' hm hz => ?_⟩
  obtain ⟨h1, h2⟩ := List.getElem?_eq_some_iff.mp hz
  have := List.not_of_lt_findIdx hm
  rw [h2] at this
  simpa using this
theorem pys_get : ∀ {ds : List D} {i : Nat}, (D.pys ds)[i]? = (ds[i]?).map D.py
  | [], i => by simp [D.pys]
  | d :: ds, 0 => by simp [D.pys]
  | d :: ds, i + 1 => by
    simp only [D.pys, List.getElem?_cons_succ]
    exact pys_get
theorem shal_lst' {ds : List D} {n : Nat} : shal (n + 1) (.lst ds) = ds.all (shal n) := by simp [shal]
theorem dMt_join {s : Str} {ds : List D} {Q : D → Prop} (h : dMt .join (.str s) ds Q) : ∃ xs : List Str, (ds = [.lst (xs.map D.str)] ∨ ds = [.tup (xs.map D.str)]) ∧ (xs.map fun x => x.cps.size).sum + xs.length * s.cps.size ≤ 16777216 ∧ Q (.str (joinS s xs)) := by
  unfold dMt at h
  split at h
  · rename_i e
    cases e
    obtain ⟨xs, rfl, hz, h⟩ := h
    exact ⟨xs, .inl rfl, hz, h⟩
  · rename_i e
    cases e
    obtain ⟨xs, rfl, hz, h⟩ := h
    exact ⟨xs, .inr rfl, hz, h⟩
  · contradiction
  · exact h.elim
theorem dMt_index {l : List D} {ds : List D} {Q : D → Prop} (h : dMt .index (.lst l) ds Q) : ∃ a, ds = [a] ∧ (shal 8 a = true ∧ l.all (shal 8) = true) ∧ ((l.any fun z => eqD z a) = true ∧ Q (.int (l.findIdx fun z => eqD z a))) := by
  unfold dMt at h
  split at h
  · contradiction
  · contradiction
  · rename_i e
    cases e
    exact ⟨_, rfl, h⟩
  · exact h.elim
theorem sound_mt {m : Mf} {o es : E} (mo : o.monos) (me : es.monos) (iho : Sound o) (ih : Sound es) : Sound (.mt m o es) := by
  refine ⟨fun X c im x ok nd h => ?_, no_list fun c xs => rfl⟩
  cases x <;> try simp only [mE_mt, Bool.false_eq_true] at h
  rename_i g xs kws pos
  match g, xs, kws, h with
  | .Attribute y nm ap, [x], [], h =>
    simp only [mE_mt, Bool.and_eq_true, decide_eq_true_eq] at h
    obtain ⟨⟨⟨⟨rfl, h2⟩, h3⟩, h4⟩, h5⟩ := h
    have st := stars_of h5 x List.mem_cons_self
    have O := iho.get ok nd.1 h4
    have A := ih.2 X c _ ok nd.2 h5
    refine both ⟨mo, me⟩ (snd_plain ⟨mo, me⟩ (PE.imp (pe_bmx O.pe A (base_of h2 _) (few_one st) h3 (star_of st) rfl) fun σ H Q q => ?_) (fun _ => rfl) fun _ _ _ z => nomatch z)
    obtain ⟨T, env, O, k, r, q⟩ := q
    refine lift1 mo k r.l q fun x v H1 e1 k1 d1 ⟨q0, q⟩ => ?_
    have r1 := r.r.ext k e1
    unfold mtOk at q0
    split at q0
    · obtain ⟨rfl, z1, s1⟩ := dat_str d1
      refine ⟨_, _, _, PySem.F.plainAttrs_str, PySem.F.slot_str_join, PySem.F.type_str_join, mt_join, rfl, liftL me k1 r1 q fun ds vs H2 e2 k2 hd q => ?_⟩
      have fin : ∀ (xs : List Str) (ys : List V) (p : Addr), Dats X.K T (res H2 O) (xs.map D.str) ys → (SqL X.K H2 p ys ∨ SqT X.K H2 p ys) → (xs.map fun x => x.cps.size).sum + xs.length * _ ≤ 16777216 →
          post X.K T O true H1 Q (.str (joinS _ xs)) → ∃ a p', ∃ ys : List Str, V.str _ = V.str a ∧ [V.ref p] = [V.ref p'] ∧ (SqL X.K H2 p' (ys.map V.str) ∨ SqT X.K H2 p' (ys.map V.str)) ∧ (ys.map (·.length)).sum + ys.length * a.length ≤ 16777216 ∧ Q (.str (Txt.join a ys)) H2 := fun xs ys p hd hs hz q => by
            obtain ⟨e, hx⟩ := hd.strs
            subst e
            obtain ⟨j1, j2⟩ := joinS_ok s1 (fun x hx' => (hx x hx').2) hz
            exact ⟨_, p, xs, rfl, rfl, hs, hz, post.str k2 (post.ext e2 k2.tape q) j1 j2⟩
      have q1 : dMt .join (.str _) ds (post X.K T O true H1 Q) := dMt_mono q fun d q => (q.ext e1 k1.tape).up
      obtain ⟨xs, e, hz, q9⟩ := dMt_join q1
      rcases e with rfl | rfl
      · obtain ⟨y, rfl, hy⟩ := hd.one'
        obtain ⟨p, ys, rfl, q2, z2, d2⟩ := dat_lst hy
        exact fin xs ys p d2 (.inl (SqL.of (res_le _ _ _ _ q2))) hz q9
      · obtain ⟨y, rfl, hy⟩ := hd.one'
        obtain ⟨p, ys, rfl, q2, z2, d2⟩ := dat_tup hy
        exact fin xs ys p d2 (.inr (SqT.le (res_le _ _) q2)) hz q9
    · obtain ⟨p, ys, rfl, q2, z2, d2⟩ := dat_lst d1
      refine ⟨_, _, _, PySem.F.plainAttrs_list, PySem.F.slot_list_index, PySem.F.type_list_index, mt_indexD ok.hu, .inl ⟨rfl, ys, SqL.of (res_le _ _ _ _ q2)⟩, liftL me k1 r1 q fun ds vs H2 e2 k2 hd q => ?_⟩
      have q1 : dMt .index (.lst _) ds (post X.K T O true H1 Q) := dMt_mono q fun d q => (q.ext e1 k1.tape).up
      obtain ⟨a, rfl, ⟨sa, sb⟩, hz, q9⟩ := dMt_index q1
      obtain ⟨y, rfl, hy⟩ := hd.one'
      have d3 := d1.le (k1.res e2)
      obtain ⟨a1, a2, a3⟩ := dat_dp (res_le H2 O) _ 8 y sa hy
      obtain ⟨b1, b2, b3⟩ := dat_dp (res_le H2 O) _ 9 _ (by rw [shal_lst']; exact sb) d3
      obtain ⟨z, h1, h2, h3⟩ := findIdx_get hz
      have sb' : ∀ d ∈ _, shal 8 d = true := List.all_eq_true.mp sb
      have hp := shaped_of b2 b3 (by decide)
      simp only [D.py] at b1 hp
      refine ⟨p, y, a.py, _, _, z.py, rfl, rfl, b1, a1, hp, shaped_of a2 a3 (by decide), by rw [pys_get, h1]; rfl, ?_, fun m z' hm hz' => ?_, post.int k2 (post.ext e2 k2.tape q9)⟩
      · rw [← eqD_py z a 8 8 (sb' z (List.mem_of_getElem? h1)) sa]
        exact h2
      · rw [pys_get] at hz'
        obtain ⟨w, hw, rfl⟩ := Option.map_eq_some_iff.mp hz'
        rw [← eqD_py w a 8 8 (sb' w (List.mem_of_getElem? hw)) sa]
        exact h3 m w hm hw
    · exact q0.elim
  | .Attribute .., [], _, h => simp [mE_mt] at h
  | .Attribute .., _ :: _ :: _, _, h => simp [mE_mt] at h
  | .Attribute .., [_], _ :: _, h => simp [mE_mt] at h
  | .BoolOp .., _, _, m | .NamedExpr .., _, _, m | .BinOp .., _, _, m | .UnaryOp .., _, _, m | .Lambda .., _, _, m | .IfExp .., _, _, m | .Dict .., _, _, m | .Set .., _, _, m | .ListComp .., _, _, m | .SetComp .., _, _, m | .DictComp .., _, _, m | .GeneratorExp .., _, _, m | .Await .., _, _, m | .Yield .., _, _, m | .YieldFrom .., _, _, m
  | .Compare .., _, _, m | .Call .., _, _, m | .FormattedValue .., _, _, m | .JoinedStr .., _, _, m | .Constant .., _, _, m | .Name .., _, _, m | .Subscript .., _, _, m | .Starred .., _, _, m | .List .., _, _, m | .Tuple .., _, _, m | .Slice .., _, _, m => simp [mE_mt] at m
/-! ### len(set(xs)) -/
theorem dats_keys {K : PySem.W.Frag} {T : Tape} {H : Hp} : ∀ {ks : List Key} {vs : List V}, Dats K T H (ks.map keyD) vs → vs = ks.map kV
  | [], vs, h => h
  | k :: ks, vs, h => by
    obtain ⟨v, r, rfl, h1, h2⟩ := h
    rw [dats_keys h2]
    cases k with
    | inl i =>
      have e : v = .int i := h1
      rw [e]
      rfl
    | inr x =>
      have e : v = .str x := h1.1
      rw [e]
      rfl
theorem scan_key {k : Key} {u : Value} (r : RelV (kV k) u) : u.scannable = true := by
  cases k with
  | inl i =>
    obtain ⟨t, e⟩ := (show ∃ t, u = Value.int i t from r)
    rw [e]
    rfl
  | inr x =>
    obtain ⟨t, e⟩ := (show ∃ t, u = Value.str x t from r)
    rw [e]
    rfl
theorem vals_keys {P : Program} {w : World} {ks : List Key} {us : List Value} (r : Vals (ks.map kV) us) : ks.length = us.length ∧ ∀ (i : Nat) (v : Value), us[i]? = some v → ∃ k, ks[i]? = some k ∧ (mixKind P w).is k v = true ∧ v.scannable = true := by
  have hl := r.length
  rw [List.length_map] at hl
  refine ⟨hl, fun i v hv => ?_⟩
  have hi : i < ks.length := by
    rw [hl]
    exact (List.getElem?_eq_some_iff.mp hv).1
  obtain ⟨u, hu, rv⟩ := r.get (i := i) (x := kV ks[i]) (by rw [List.getElem?_map, List.getElem?_eq_getElem hi]; rfl)
  rw [hv] at hu
  obtain rfl := Option.some.inj hu
  exact ⟨ks[i], List.getElem?_eq_getElem hi, kV_is rv, scan_key rv⟩
def tLenSetK (K : PySem.W.Frag) (ta : TE) : TE := fun σ H Q => ta σ H fun x H1 => ∃ (l : Addr) (ks : List Key), x = .ref l ∧ (SqL K H1 l (ks.map kV) ∨ SqT K H1 l (ks.map kV)) ∧ ks.length ≤ 4000 ∧ Q (.int (ddK ks).length) H1
theorem pe_lenSetK {X : Cx} {a : Expr} {ta : TE} {p p2 q pos : Pos} (hc : X.calm = true) (g1 : Gl X "len") (m1 : X.mg "len" = none) (g2 : Gl X "set") (m2 : X.mg "set" = none) (ha : PE X a ta)
    (na : starEach [a] X.env = (false, eval a X.env) :: starEach [] X.env) : PE X (.Call (.Name "len" p) [.Call (.Name "set" p2) [a] [] q] [] pos) (tLenSetK X.K ta) := by
  refine ⟨fun pins st σ H Q I h => ?_⟩
  refine Call_ (ld_blt I g1 m1 boot_len ?_)
  refine PyProof.Rows.callWith_builtin1 (PyProof.Rows.args_cons ?_ rfl) rfl rfl
  refine Call_ (ld_blt I g2 m2 boot_set ?_)
  refine PyProof.Rows.callWith_type1 (PyProof.Rows.args_cons (thn (ha.run pins st σ H _ I h) fun v s1 ⟨x, H1, I1, r1, q1⟩ => PyProof.Rows.args_nil ?_) na) na rfl
  obtain ⟨l, ks, rfl, hq, hz, q1⟩ := q1
  cases r1
  have hb : ks.length + 1 < scanBound := by
    unfold scanBound
    omega
  have fin : ∀ (hp : Heap) (tk : Nat), hp.SetOf (mixKind X.prog X.w) s1.heap.objs.size (memK ks) (ddK ks).length → (∀ b o, b < s1.heap.objs.size → s1.heap.get? b = some o → hp.get? b = some o) →
      wpAny (model X.prog X.w) X.A (spliced (backTo pos (starEach [] X.env))) (fun vs s2 => wpAny (model X.prog X.w) X.A (call (.builtin "len") (Value.ref s1.heap.objs.size :: vs)) (EP X pins σ Q) X.xe s2) X.xe { s1 with heap := hp, toks := tk } := fun hp tk hS hk => by
    refine PyProof.Rows.args_nil ?_
    have hd := ddK_len ks
    obtain ⟨o, es, ep, t, ho, hex, hd2, _, _, _, hf, hn⟩ := hS
    have I2 : Inv X pins σ H1 { s1 with heap := hp, toks := tk } := I1.kept fun b o e => hk b o (Heap.lt_size e) e
    refine call_len_set ho hex hd2 hf (by rw [hn]; omega) ⟨.int (ddK ks).length, H1, I2.tok _, ⟨_, by rw [hn]⟩, q1⟩
  rcases hq with hq | hq
  · obtain ⟨its, r, pl, _⟩ := I1.list hq
    obtain ⟨e1, e2⟩ := vals_keys (P := X.prog) (w := X.w) r
    exact call_setL (knd := mixKind X.prog X.w) ks (I1.ok.hd hc) pl.isList (by rw [e1, List.size_toArray]) hb (fun i v hv => e2 i v (by simpa using hv)) fun hp tk hS hk => fin hp tk hS hk
  · obtain ⟨its, r, pl, _⟩ := I1.tuple hq
    obtain ⟨e1, e2⟩ := vals_keys (P := X.prog) (w := X.w) r
    exact call_setT (knd := mixKind X.prog X.w) ks (I1.ok.hd hc) pl (by rw [e1, List.size_toArray]) hb (fun i v hv => e2 i v (by simpa using hv)) fun hp tk hS hk => fin hp tk hS hk
theorem sound_lenset {a : E} (ma : a.monos) (iha : Sound a) : Sound (.lenset a) := by
  refine ⟨fun X c im x ok nd m => ?_, no_list fun c xs => rfl⟩
  rw [mE_lenset] at m
  split at m
  · simp only [Bool.and_eq_true, decide_eq_true_eq] at m
    obtain ⟨⟨⟨⟨⟨rfl, g5⟩, rfl⟩, g6⟩, ns⟩, m5⟩ := m
    obtain ⟨g1, g2, g3⟩ := gl_of ok g5
    obtain ⟨h1, h2, h3⟩ := gl_of ok g6
    have A := iha.get ok nd.2.2 m5
    refine both (e := .lenset a) ma (snd_plain (e := .lenset a) ma (PE.imp (pe_lenSetK ok.calm g1 nd.1 h1 nd.2.1 A.pe (star_of ns)) fun σ H Q q => ?_) (fun _ => rfl) fun _ _ _ z => nomatch z)
    obtain ⟨T, env, O, k, r, q⟩ := q
    refine lift1 ma k r q fun d v H1 e1 k1 hd q => ?_
    cases d with
    | tup ds =>
      obtain ⟨ks, ⟨rfl, hz⟩, q⟩ := q
      obtain ⟨p, xs, rfl, q2, z, hs⟩ := dat_tup hd
      have e := dats_keys hs
      subst e
      exact ⟨p, ks, rfl, .inr (SqT.le (res_le _ _) q2), hz, post.int k1 (post.ext e1 k1.tape q)⟩
    | lst ds =>
      obtain ⟨ks, ⟨rfl, hz⟩, q⟩ := q
      obtain ⟨p, xs, rfl, q2, z, hs⟩ := dat_lst hd
      have e := dats_keys hs
      subst e
      exact ⟨p, ks, rfl, .inl (SqL.of (res_le _ _ _ _ q2)), hz, post.int k1 (post.ext e1 k1.tape q)⟩
    | _ => exact q.elim
  · cases m
/-! ### ranges downward -/
theorem walk_dn {K : PySem.W.Frag} {T : Tape} {O : List Addr} {H : Hp} {a b : Int} (z : (a - b).toNat ≤ 16777216) : WalkD K T O H (rangeDn a b) (Itc a (-1) (a - b).toNat) := by
  unfold rangeDn
  refine ⟨by rw [List.length_map, List.length_range]; exact z, fun H2 l => ⟨fun i hi => ?_, ?_⟩⟩
  · rw [List.length_map, List.length_range] at hi
    refine ⟨hi, fun x H' y => ?_⟩
    obtain ⟨rfl, rfl⟩ := y
    exact ⟨rfl, .int (a + i * (-1)), by rw [List.getElem?_map, List.getElem?_range hi]; rfl, rfl⟩
  · show (a - b).toNat ≤ _
    rw [List.length_map, List.length_range]
    exact Nat.le_refl _
theorem sound_r3 {a b d : E} (ma : a.monos) (mb : b.monos) (md : d.monos) (iha : Sound a) (ihb : Sound b) (ihd : Sound d) : Sound (.r3 a b d) := by
  refine ⟨fun X c im x ok nd m => ⟨fun z => (nomatch z), fun tg => ?_⟩, no_list fun c xs => rfl⟩
  cases im with
  | false =>
    have z := rng_of m
    cases z
  | true =>
    rw [mE_r3] at m
    split at m
    · rename_i y p x z u pos
      simp only [Bool.and_eq_true, decide_eq_true_eq, true_and] at m
      obtain ⟨⟨⟨⟨⟨⟨⟨rfl, g5⟩, ns⟩, ns2⟩, ns3⟩, m5⟩, m6⟩, m7⟩ := m
      obtain ⟨g1, g2, g3⟩ := gl_of ok g5
      have A := iha.get ok nd.2.1 m5
      have B := ihb.get ok nd.2.2.1 m6
      have C := ihd.get ok nd.2.2.2 m7
      refine PI.imp (pi_range3 g1 nd.1 (pa_cons A.pe (pa_cons B.pe (pa_cons C.pe pa_nil (star_of ns3)) (star_of ns2)) (star_of ns)) (star_of ns) (by rw [star_of ns2, star_of ns3]; rfl)) fun σ H R q => ?_
      obtain ⟨T, env, O, k, r, q⟩ := q
      refine lift1 ma k r.l q fun x1 v H1 e1 k1 hd q => ?_
      refine lift1 mb k1 (r.r.l.ext k e1) q fun x2 v2 H2 e2 k2 hd2 q => ?_
      refine lift1 md k2 (r.r.r.ext k (e1.trans e2)) q fun x3 v3 H3 e3 k3 hd3 q => ?_
      have key : ∃ i j : Int, x1 = .int i ∧ x2 = .int j ∧ x3 = .int (-1) ∧ (-8000000 ≤ i ∧ i ≤ 8000000 ∧ -8000000 ≤ j ∧ j ≤ 8000000) ∧ postI X.K T O (.r3 a b d) H R (.lst (rangeDn i j)) := by
        split at q
        · exact ⟨_, _, rfl, rfl, rfl, q⟩
        · exact q.elim
      obtain ⟨i, j, rfl, rfl, rfl, ⟨z1, z2, z3, z4⟩, q⟩ := key
      refine ⟨i, j, -1, (i - j).toNat, by rw [show v = V.int i from hd, show v2 = V.int j from hd2, show v3 = V.int (-1) from hd3], RgC.neg (by omega) (by omega) (by omega) (by omega), ?_⟩
      have w : ∀ O2, WalkD X.K T O2 H3 (rangeDn i j) (Itc i (-1) (i - j).toNat) := fun O2 => walk_dn (by omega)
      exact q _ H3 ((e1.trans e2).trans e3) k3.tape (w O) fun _ O2 _ _ => w O2
    · cases m
/-! ### comprehensions of two fors -/
def lcIn (elt tg2 cond2 : E) (e1 : DEnv) : List D → (List D → Prop) → Prop :=
  lcD (fun d => bindT (wipeD e1 (slotsOf tg2)) tg2 d) (fun e2 Qb => condD cond2.isNil (semE cond2 e2) Qb) (semE elt)
def lc2Of (own : List (Str × Nat)) (elt tg cond tg2 it2 cond2 : E) (env : DEnv) : List D → (List D → Prop) → Prop :=
  lc2D (fun d => bindT (wipeD env (own.map (·.2))) tg d) (fun e1 Qb => condD cond.isNil (semE cond e1) Qb) (fun e1 Q1 => semE it2 e1 fun w2 => dItems w2 fun items2 => items2.length ≤ 4000 ∧ lcIn elt tg2 cond2 e1 items2 Q1)
section
variable {own : List (Str × Nat)} {elt tg it cond tg2 it2 cond2 : E} {env : DEnv}
theorem lcIn_mono {ds : List D} {Q Q' : List D → Prop} (mc : cond2.monos) (me : elt.monos) (h : lcIn elt tg2 cond2 env ds Q) (m : ∀ e, Q e → Q' e) : lcIn elt tg2 cond2 env ds Q' :=
  lcD_mono (bind := fun d => bindT (wipeD env (slotsOf tg2)) tg2 d) (cond := fun e1 Qb => condD cond2.isNil (semE cond2 e1) Qb) (elt := semE elt) (fun d Q Q' h m => bindT_mono h m) (fun e Q Q' h m => condD_mono h m ((sem_mono cond2 mc).1 e)) ((sem_mono elt me).1) (ds := ds) (Q := Q) (Q' := Q') h m
theorem lc2Of_mono {ds : List D} {Q Q' : List D → Prop} (mc : cond.monos) (m2 : it2.monos) (mc2 : cond2.monos) (me : elt.monos) (h : lc2Of own elt tg cond tg2 it2 cond2 env ds Q) (m : ∀ e, Q e → Q' e) : lc2Of own elt tg cond tg2 it2 cond2 env ds Q' :=
  lc2D_mono (bind := fun d => bindT (wipeD env (own.map (·.2))) tg d) (cond := fun e1 Qb => condD cond.isNil (semE cond e1) Qb) (inner := fun e1 Q1 => semE it2 e1 fun w2 => dItems w2 fun items2 => items2.length ≤ 4000 ∧ lcIn elt tg2 cond2 e1 items2 Q1)
    (fun d Q Q' h m => bindT_mono h m) (fun e Q Q' h m => condD_mono h m ((sem_mono cond mc).1 e)) (fun e Q Q' h m => (sem_mono it2 m2).1 _ _ _ h fun w h => dItems_mono h fun items2 ⟨hz, h⟩ => ⟨hz, lcIn_mono mc2 me h m⟩) (ds := ds) (Q := Q) (Q' := Q') h m
end
theorem Turn1.more {K : PySem.W.Frag} {T : Tape} {O : List Addr} {H' H2 : Hp} {ad : Addr} {n m : Nat} {ys : List D} (t : Turn1 K T O H' ad n ys H2) (h : n ≤ m) : Turn1 K T O H' ad m ys H2 := by
  obtain ⟨acc, a, b, c⟩ := t.at_
  exact ⟨t.ok, t.ext, acc, a, Nat.le_trans b h, c⟩
theorem lc2_inner {K : PySem.W.Frag} {elt tg2 it2 cond2 : E} {n i : Nat} {T : Tape} {O : List Addr} {H1 H4 : Hp} {ad : Addr} {ys : List D} {σ2 : L2.St} {e1 : DEnv} {Nx : Hp → Prop} {P : List D → Prop} (mi2 : it2.monos) (mc2 : cond2.monos) (me : elt.monos)
    (k1 : Ok T O H1) (hD : H1 ad = none) (hl : σ2.length = n) (tn4 : Turn1 K T O H1 ad (4000 * i) ys H4) (hi : i < 4000) (r4 : Rp K T (ad :: O) σ2 e1 H4 (it2.vars ++ (tg2.vars ++ (cond2.vars ++ elt.vars))))
    (hb : semE it2 e1 fun w2 => dItems w2 fun items2 => items2.length ≤ 4000 ∧ lcIn elt tg2 cond2 e1 items2 P) (fin : ∀ ws H6, Turn1 K T O H1 ad (4000 * (i + 1)) (ys ++ ws) H6 → P ws → Nx H6) :
    liftI K it2 σ2 H4 fun J1 H5 => ∃ W1 : Nat → Nat → Hp → Prop, (∃ m, W1 0 m H5) ∧ ∀ j k H, W1 j k H →
          (J1.stop j H ∧ Nx H) ∨
          (J1.go j H ∧ ∃ Nx1 : Hp → Prop, (∀ H', Nx1 H' → ∃ k', k' < k ∧ W1 (j + 1) k' H') ∧ ∀ x H', J1.yld j H x H' → liftG K n tg2 x (wipe σ2 (slotsOf tg2)) H' fun σ3 H5 => wipe σ3 (slotsOf tg2) = wipe σ2 (slotsOf tg2) ∧ liftC K cond2 σ3 H5 fun b H6 =>
            if b = true then liftE K elt σ3 H6 fun y H7 => ∃ acc, H7 ad = some (.lst acc) ∧ acc.length < sizeLine ∧ Nx1 (upd H7 ad (.lst (acc ++ [y]))) else Nx1 H6) := by
  have kD4 := tn4.okD k1
  refine ⟨T, e1, ad :: O, kD4, r4.l, (sem_mono it2 mi2).1 _ _ _ hb fun w2 hw2 => dItems_mono hw2 fun items2 ⟨hz2, hw2⟩ J1 H5 ex5 t5 wk5 _ => ?_⟩
  have kD5 := kD4.ext ex5 t5
  have tn5 := tn4.go k1 hD ex5 t5
  obtain ⟨_, wk5⟩ := wk5
  have r5 := r4.ext kD4 ex5
  refine ⟨fun j kk H6 => ∃ zs, j + kk = items2.length ∧ Turn1 K T O H1 ad (4000 * i + j) (ys ++ zs) H6 ∧ Le (res H5 (ad :: O)) (res H6 (ad :: O)) ∧ lcIn elt tg2 cond2 e1 (items2.drop j) fun ws => P (zs ++ ws),
    ⟨items2.length, [], by omega, ?_, Le.refl _, hw2⟩, ?_⟩
  · rw [List.append_nil]
    exact tn5
  rintro j kk H6 ⟨zs, hjk, tn6, le6, hq⟩
  by_cases hj : j < items2.length
  · obtain ⟨g, y⟩ := (wk5 H6 le6).1 j hj
    refine .inr ⟨g, fun H7 => ∃ zs, Turn1 K T O H1 ad (4000 * i + (j + 1)) (ys ++ zs) H7 ∧ Le (res H5 (ad :: O)) (res H7 (ad :: O)) ∧ lcIn elt tg2 cond2 e1 (items2.drop (j + 1)) fun ws => P (zs ++ ws),
      fun H7 ⟨zs, a, b, c⟩ => ⟨kk - 1, by omega, zs, by omega, a, b, c⟩, fun x H7 hy => ?_⟩
    obtain ⟨rfl, d, ed, hd⟩ := y x H7 hy
    have ed2 : items2.drop j = d :: items2.drop (j + 1) := by
      rw [List.drop_eq_getElem_cons hj]
      rw [List.getElem?_eq_getElem hj] at ed
      cases ed
      rfl
    rw [ed2] at hq
    have hq : bindT (wipeD e1 (slotsOf tg2)) tg2 d fun e2 => condD cond2.isNil (semE cond2 e2) fun b => match b with
      | true => semE elt e2 fun y => lcIn elt tg2 cond2 e1 (items2.drop (j + 1)) fun ws => P (zs ++ (y :: ws))
      | false => lcIn elt tg2 cond2 e1 (items2.drop (j + 1)) fun ws => P (zs ++ ws) := hq
    have kD6 := tn6.okD k1
    have rp : Rp K T (ad :: O) (wipe σ2 (slotsOf tg2)) (wipeD e1 (slotsOf tg2)) H7 (tg2.vars ++ (cond2.vars ++ elt.vars)) := ⟨fun j hj d' e => by
      obtain ⟨nj, e⟩ := wipeD_get e
      obtain ⟨v, q, z⟩ := r5.at_ j (List.mem_append_right _ hj) d' e
      exact ⟨v, by rw [wipe_get, if_neg nj]; exact q, z.le le6⟩⟩
    refine ⟨T, ad :: O, _, fun σ env => Rp K T (ad :: O) σ env H7 (tg2.vars ++ (cond2.vars ++ elt.vars)), d, GInv.rp _, rp, hd.le le6, by rw [wipe_length]; exact hl, bindT_mono hq fun e2 he σ3 r3 l3 f3 => ⟨?_, ?_⟩⟩
    · exact wipe_same (by rw [l3, hl]) fun j hj => f3 j hj
    have goB : ∀ (b : Bool) (H8 : Hp), Ext T H7 H8 → T.ok H8 → (match b with
        | true => semE elt e2 fun y => lcIn elt tg2 cond2 e1 (items2.drop (j + 1)) fun ws => P (zs ++ (y :: ws))
        | false => lcIn elt tg2 cond2 e1 (items2.drop (j + 1)) fun ws => P (zs ++ ws)) →
        (if b = true then liftE K elt σ3 H8 fun y H9 => ∃ acc, H9 ad = some (.lst acc) ∧ acc.length < sizeLine ∧ (∃ zs, Turn1 K T O H1 ad (4000 * i + (j + 1)) (ys ++ zs) (upd H9 ad (.lst (acc ++ [y]))) ∧ Le (res H5 (ad :: O)) (res (upd H9 ad (.lst (acc ++ [y]))) (ad :: O)) ∧ lcIn elt tg2 cond2 e1 (items2.drop (j + 1)) fun ws => P (zs ++ ws))
        else ∃ zs, Turn1 K T O H1 ad (4000 * i + (j + 1)) (ys ++ zs) H8 ∧ Le (res H5 (ad :: O)) (res H8 (ad :: O)) ∧ lcIn elt tg2 cond2 e1 (items2.drop (j + 1)) fun ws => P (zs ++ ws)) := fun b H8 e8 t8 hb => by
      have tn8 := tn6.go k1 hD e8 t8
      cases b with
      | true =>
        rw [if_pos rfl]
        refine lift1 me (tn8.okD k1) ((r3.ext kD6 e8).r.r) hb fun y v H9 e9 k9 hy hp => ?_
        have tn9 := tn8.go k1 hD e9 k9.tape
        obtain ⟨acc, q1, q2, q3⟩ := tn9.add k1 hD hy
        refine ⟨acc, q1, Nat.lt_of_le_of_lt q2 (by rw [sizeLine_eq]; omega), zs ++ [y], ?_, ?_, lcIn_mono mc2 me hp fun zs h => by
          rw [List.append_assoc]
          exact h⟩
        · rw [← List.append_assoc]
          exact q3
        · rw [res_cons]
          exact (le6.trans (kD6.res e8)).trans ((tn8.okD k1).res e9)
      | false =>
        rw [if_neg Bool.false_ne_true]
        exact ⟨zs, tn8.more (by omega), le6.trans (kD6.res e8), hb⟩
    unfold liftC
    cases hc : cond2.isNil with
    | true =>
      rw [hc] at he
      exact goB true H7 Ext.refl kD6.tape he
    | false =>
      rw [hc] at he
      refine liftB mc2 kD6 r3.r.l he fun d hd => ?_
      cases d with
      | bl b => exact ⟨b, rfl, fun H8 e8 k8 => goB b H8 e8 k8.tape hd⟩
      | _ => exact hd.elim
  · have ej : j = items2.length := by omega
    subst ej
    refine .inl ⟨(wk5 H6 le6).2, ?_⟩
    rw [List.drop_length] at hq
    have hq : P (zs ++ []) := hq
    rw [List.append_nil] at hq
    exact fin zs H6 (tn6.more (by omega)) hq
theorem lc2_read {K : PySem.W.Frag} {own : List (Str × Nat)} {elt tg it cond tg2 it2 cond2 : E} {n : Nat} (hm : (E.lc2 own elt tg it cond tg2 it2 cond2).monos) (hs : ∀ i ∈ slotsOf tg, i ∈ own.map (·.2)) {σ : L2.St} {H : Hp} {Q : VK} (hl : σ.length = n)
    (h : liftE K (.lc2 own elt tg it cond tg2 it2 cond2) σ H Q) : tLc2 (liftI K it) (liftG K n tg) (liftC K cond) (liftI K it2) (liftG K n tg2) (liftC K cond2) (liftE K elt) (own.map (·.2)) (slotsOf tg2) σ H Q := by
  obtain ⟨mi, mc, mi2, mc2, me⟩ := hm
  obtain ⟨T, env, O, k, r, h⟩ := h
  have h : semE it env fun w => dItems w fun items => items.length ≤ 4000 ∧ lc2Of own elt tg cond tg2 it2 cond2 env items fun ds => post K T O true H Q (.lst ds) := h
  refine ⟨T, env, O, k, r.l, (sem_mono it mi).1 _ _ _ h fun w hw => dItems_mono hw fun items ⟨hz4, hw⟩ J H1 ex t wk _ ad hD => ?_⟩
  have k1 : Ok T O H1 := k.ext ex t
  obtain ⟨hz, wk⟩ := wk
  have hHD : H ad = none := by
    cases q : H ad with
    | none => rfl
    | some o => exact absurd hD (ex.live t (by rw [q]; exact fun z => nomatch z))
  refine ⟨fun i m H2 => ∃ ys, i + m = items.length ∧ Turn1 K T O H1 ad (4000 * i) ys H2 ∧ lc2Of own elt tg cond tg2 it2 cond2 env (items.drop i) fun zs => post K T O true H Q (.lst (ys ++ zs)), ⟨items.length, [], by omega, ?_, hw⟩, ?_⟩
  · exact ⟨tapeLe (le_upd hD) t, Ext.upd hD, [], upd_same, Nat.le_refl _, rfl⟩
  rintro i m H2 ⟨ys, him, tn, hq⟩
  have lw : Le (res H1 O) (res H2 O) := fun b o q => by
    obtain ⟨nb, q⟩ := res_some q
    exact res_of nb (tn.ext b o q fun z => nb (k1.sub b z))
  by_cases hi : i < items.length
  · obtain ⟨g, y⟩ := (wk H2 lw).1 i hi
    refine .inr ⟨g, fun H3 => ∃ ys, Turn1 K T O H1 ad (4000 * (i + 1)) ys H3 ∧ lc2Of own elt tg cond tg2 it2 cond2 env (items.drop (i + 1)) fun zs => post K T O true H Q (.lst (ys ++ zs)),
      fun H3 ⟨ys, a, b⟩ => ⟨m - 1, by omega, ys, by omega, a, b⟩, fun x H3 hy => ?_⟩
    obtain ⟨rfl, d, ed, hd⟩ := y x H3 hy
    have ed2 : items.drop i = d :: items.drop (i + 1) := by
      rw [List.drop_eq_getElem_cons hi]
      rw [List.getElem?_eq_getElem hi] at ed
      cases ed
      rfl
    rw [ed2] at hq
    have hq : bindT (wipeD env (own.map (·.2))) tg d fun e1 => condD cond.isNil (semE cond e1) fun b => match b with
      | true => semE it2 e1 fun w2 => dItems w2 fun items2 => items2.length ≤ 4000 ∧ lcIn elt tg2 cond2 e1 items2 fun ws => lc2Of own elt tg cond tg2 it2 cond2 env (items.drop (i + 1)) fun zs => post K T O true H Q (.lst (ys ++ (ws ++ zs)))
      | false => lc2Of own elt tg cond tg2 it2 cond2 env (items.drop (i + 1)) fun zs => post K T O true H Q (.lst (ys ++ zs)) := hq
    have kD := tn.okD k1
    have rp : Rp K T (ad :: O) (wipe σ (own.map (·.2))) (wipeD env (own.map (·.2))) H3 (tg.vars ++ (cond.vars ++ (it2.vars ++ (tg2.vars ++ (cond2.vars ++ elt.vars))))) := ⟨fun j hj d' e => by
      obtain ⟨nj, e⟩ := wipeD_get e
      obtain ⟨v, q, z⟩ := r.at_ j (List.mem_append_right _ hj) d' e
      refine ⟨v, by rw [wipe_get, if_neg nj]; exact q, z.le ?_⟩
      exact (k.res ex).trans (tn.le k1 hD)⟩
    refine ⟨T, ad :: O, _, fun σ env => Rp K T (ad :: O) σ env H3 (tg.vars ++ (cond.vars ++ (it2.vars ++ (tg2.vars ++ (cond2.vars ++ elt.vars))))), d, GInv.rp _, rp, hd.le (tn.le k1 hD), by rw [wipe_length]; exact hl, bindT_mono hq fun e1 he σ2 r2 l2 f2 => ⟨?_, ?_⟩⟩
    · exact wipe_same (by rw [l2, hl]) fun j hj => f2 j fun z => hj (hs j z)
    have goT := fun (H4 : Hp) (e4 : Ext T H3 H4) (t4 : T.ok H4) (hb : semE it2 e1 fun w2 => dItems w2 fun items2 => items2.length ≤ 4000 ∧ lcIn elt tg2 cond2 e1 items2 fun ws => lc2Of own elt tg cond tg2 it2 cond2 env (items.drop (i + 1)) fun zs => post K T O true H Q (.lst (ys ++ (ws ++ zs)))) =>
      lc2_inner (H4 := H4) mi2 mc2 me k1 hD l2 (tn.go k1 hD e4 t4) (by omega) (r2.ext kD e4).r.r (P := fun ws => lc2Of own elt tg cond tg2 it2 cond2 env (items.drop (i + 1)) fun zs => post K T O true H Q (.lst (ys ++ (ws ++ zs)))) hb
            (Nx := fun H3 => ∃ ys, Turn1 K T O H1 ad (4000 * (i + 1)) ys H3 ∧ lc2Of own elt tg cond tg2 it2 cond2 env (items.drop (i + 1)) fun zs => post K T O true H Q (.lst (ys ++ zs)))
            fun ws H6 t h => ⟨ys ++ ws, t, lc2Of_mono mc mi2 mc2 me h fun zs h => by
              rw [List.append_assoc]
              exact h⟩
    unfold liftC
    cases hc : cond.isNil with
    | true =>
      rw [hc] at he
      exact goT H3 Ext.refl kD.tape he
    | false =>
      rw [hc] at he
      refine liftB mc kD r2.r.l he fun d hd => ?_
      cases d with
      | bl b =>
        refine ⟨b, rfl, fun H4 e4 k4 => ?_⟩
        cases b with
        | true =>
          rw [if_pos rfl]
          exact goT H4 e4 k4.tape hd
        | false =>
          rw [if_neg Bool.false_ne_true]
          exact ⟨ys, (tn.go k1 hD e4 k4.tape).more (by omega), hd⟩
      | _ => exact hd.elim
  · have ei : i = items.length := by omega
    subst ei
    refine .inl ⟨(wk H2 lw).2, ?_⟩
    rw [List.drop_length] at hq
    have hq : post K T O true H Q (.lst (ys ++ [])) := hq
    rw [List.append_nil] at hq
    obtain ⟨acc, q1, q2, q3⟩ := tn.at_
    have nO : ad ∉ O := k1.new hD
    refine hq _ H2 (ex.trans tn.ext) tn.ok ⟨ad, acc, rfl, res_of nO q1, by omega, q3.le fun b o q => ?_⟩ fun _ ds' e => ?_
    · obtain ⟨nb, q⟩ := res_some q
      exact res_of (fun z => nb (List.mem_cons_of_mem _ z)) q
    · cases e
      exact ⟨ad, acc, rfl, hHD, q1, by omega, q3⟩
end DL

set_option Elab.async false
set_option linter.all false
set_option maxRecDepth 100000
set_option maxHeartbeats 2000000
/-! DL13: sound: isinstance, comprehensions, ranges; the whole. -/
namespace DL
open PySem PySem.Spec PyProof.Rows L2

theorem sound_isin {a : E} {ts : List Ty} (ma : a.monos) (iha : Sound a) : Sound (.isin a ts) := by
  refine ⟨fun X c im x ok nd m => ?_, no_list fun c xs => rfl⟩
  cases x <;> try simp only [mE_isin, Bool.false_eq_true] at m
  rename_i g xs kws pos
  match ts, g, xs, kws, m with
  | [t], .Name y p, [x, w], [], m =>
    cases w with
    | Name z p2 =>
      simp only [mE_isin, Bool.and_eq_true, decide_eq_true_eq] at m
      obtain ⟨⟨⟨⟨⟨rfl, g5⟩, rfl⟩, g6⟩, ns⟩, m5⟩ := m
      obtain ⟨g1, g2, g3⟩ := gl_of ok g5
      obtain ⟨h1, h2, h3⟩ := gl_of ok g6
      obtain ⟨n1, n2, nd⟩ := nd
      have A := iha.get ok nd m5
      have P : PE X (.Name (t.name : Str) p2) (tC (.ty t.name)) := pe_bltn h1 (n2 t (List.mem_singleton_self _)) (ty_boot t) rfl h3 h2
      refine both (e := .isin a [t]) ma (snd_plain (e := .isin a [t]) ma (PE.imp (pe_callB call_isi g1 n1 (by decide +kernel) (pa_cons A.pe (pa_cons P pa_nil) (star_of ns)) g3 g2 (star_of ns) rfl) fun σ H Q q => ?_) (fun _ => rfl) fun _ _ _ z => nomatch z)
      obtain ⟨T, env, O, k, r, q⟩ := q
      refine lift1 ma k r q fun d v H1 e1 k1 hd q => ?_
      obtain ⟨tv, q1, q2⟩ := isTy_of (t := t) hd (fun _ _ _ => trivial) q.1 (res_le H1 O)
      refine ⟨v, .ty t.name, tv, .type t.name, isTy d t, rfl, .ty _, q1, q2, ?_⟩
      have e : ([t].any (isTy d)) = isTy d t := by simp
      have q3 := q.2
      rw [e] at q3
      exact post.bl k1 (post.ext e1 k1.tape q3)
    | _ => simp [mE_isin] at m
  | [], _, _, _, m => simp [mE_isin] at m
  | t :: u :: r, _, _, _, m => simp [mE_isin] at m
  | [t], _, _, _ :: _, m => simp [mE_isin] at m
  | [t], _, [], _, m => simp [mE_isin] at m
  | [t], _, [_], _, m => simp [mE_isin] at m
  | [t], _, _ :: _ :: _ :: _, _, m => simp [mE_isin] at m
  | [t], .BoolOp .., _, _, m | [t], .NamedExpr .., _, _, m | [t], .BinOp .., _, _, m | [t], .UnaryOp .., _, _, m | [t], .Lambda .., _, _, m | [t], .IfExp .., _, _, m | [t], .Dict .., _, _, m | [t], .Set .., _, _, m | [t], .ListComp .., _, _, m
  | [t], .SetComp .., _, _, m | [t], .DictComp .., _, _, m | [t], .GeneratorExp .., _, _, m | [t], .Await .., _, _, m | [t], .Yield .., _, _, m | [t], .YieldFrom .., _, _, m
  | [t], .Compare .., _, _, m | [t], .Call .., _, _, m | [t], .FormattedValue .., _, _, m | [t], .JoinedStr .., _, _, m | [t], .Constant .., _, _, m | [t], .Attribute .., _, _, m | [t], .Subscript .., _, _, m | [t], .Starred .., _, _, m
  | [t], .List .., _, _, m | [t], .Tuple .., _, _, m | [t], .Slice .., _, _, m => simp [mE_isin] at m
theorem PE.impI {X : Cx} {e : Expr} {t t' : TE} (h : PE X e t) (i : ∀ (σ : L2.St) H Q, σ.length = X.N.length → t' σ H Q → t σ H Q) : PE X e t' := ⟨fun pins s σ H Q I q => h.run pins s σ H Q I (i σ H Q I.len q)⟩
theorem lc_parts {X : Cx} {c : Ctx} (ok : XOk X c) {own : List (Str × Nat)} {elt tg it cond : E} (hm : (E.lc own elt tg it cond).monos) (ihe : Sound elt) (iht : Sound it) (ihc : Sound cond) (nd : Need (gxOf X) (.lc own elt tg it cond))
    {im : Bool} {x tg' it' : Expr} {ifs : List Expr} {scope : Scope} {pos : Pos} (m : matchE c im (.lc own elt tg it cond) (.ListComp x [⟨tg', it', ifs, 0⟩] scope pos) = true) :
    PI X tg' it' (liftI X.K it) ∧ BlkOk X.N X.env.scope scope own ∧ (∀ (s : Shared) (H : Hp) (C : Addr) (cl : List (Str × Addr)) (fp : List Addr), PG (X.blk s H scope (compEnvC scope cl C X.env) fp) tg' (liftG X.K c.N.length tg)) ∧
    (∀ (s : Shared) (H : Hp) (C : Addr) (cl : List (Str × Addr)) (fp : List Addr), PTs (X.blk s H scope (compEnvC scope cl C X.env) fp) ifs (liftC X.K cond)) ∧
    (∀ (s : Shared) (H : Hp) (C : Addr) (cl : List (Str × Addr)) (fp : List Addr), PE (X.blk s H scope (compEnvC scope cl C X.env) fp) x (liftE X.K elt)) ∧ (∀ v, foldedSetIterable it' X.env v = pure v) ∧ (∀ i ∈ slotsOf tg, i ∈ own.map (·.2)) := by
  simp only [mE_nil, mE_cons, mE_var, mE_non, mE_bl, mE_int, mE_str, mE_glob, mE_bin, mE_neg, mE_cmp, mE_chain, mE_andd, mE_orr, mE_nott, mE_ite, mE_tup, mE_lst, mE_ix, mE_sl, mE_call, mE_bf, mE_lenset, mE_mt, mE_isin, mE_lc, mE_lc2, mE_r1, mE_r2, mE_r3, mE_raw, Bool.and_eq_true] at m
  obtain ⟨⟨⟨⟨⟨⟨⟨_, m1⟩, m2⟩, m3⟩, m4⟩, m5⟩, m6⟩, m7⟩ := m
  refine ⟨(iht.1 X c true it' ok nd.1 m1).2 tg', ?_, fun s H C cl fp => pg_of (xok_blk ok s H scope C cl fp) tg tg' m4, fun s H C cl fp => ?_, fun s H C cl fp => (ihe.get (xok_blk ok s H scope C cl fp) nd.2.2 m7).pe, fun v => set_of m2 v, fun i hi => of_decide_eq_true (List.all_eq_true.mp m5 i hi)⟩
  · rw [ok.N, ok.sc]
    exact blkOk_by m3
  · unfold liftC
    match ifs, m6 with
    | [], m6 =>
      have m6 : cond.isNil = true := m6
      rw [m6]
      exact pts_nil
    | [i], m6 =>
      simp only [Bool.and_eq_true, Bool.not_eq_true'] at m6
      rw [m6.1]
      exact pts_one (ihc.get (xok_blk ok s H scope C cl fp) nd.2.1 m6.2).pt
    | _ :: _ :: _, m6 => cases m6
theorem sound_lc {own : List (Str × Nat)} {elt tg it cond : E} (hm : (E.lc own elt tg it cond).monos) (ihe : Sound elt) (iht : Sound it) (ihc : Sound cond) : Sound (.lc own elt tg it cond) := by
  refine ⟨fun X c im x ok nd m => ?_, no_list fun c xs => rfl⟩
  have m0 := m
  rw [mE_lc] at m
  split at m
  · simp only [Bool.and_eq_true, decide_eq_true_eq] at m
    have e0 := m.1.1.1.1.1.1.1
    subst e0
    obtain ⟨p1, p2, p3, p4, p5, p6, p7⟩ := lc_parts ok hm ihe iht ihc nd m0
    exact both hm (snd_plain hm (PE.impI (pe_lc ok.calm (by rw [ok.N]; exact ok.nd) p1 p2 p3 p4 p5 p6) fun σ H Q hl q => lc_read hm p7 (by rw [hl, ok.N]) q) (fun _ => rfl) fun _ _ _ z => nomatch z)
  · cases m
theorem lc2_parts {X : Cx} {c : Ctx} (ok : XOk X c) {own : List (Str × Nat)} {elt tg it cond tg2 it2 cond2 : E} (ihe : Sound elt) (iht : Sound it) (ihc : Sound cond) (iht2 : Sound it2) (ihc2 : Sound cond2) (nd : Need (gxOf X) (.lc2 own elt tg it cond tg2 it2 cond2))
    {im : Bool} {x tg' it' tg2' it2' : Expr} {ifs ifs2 : List Expr} {scope : Scope} {pos : Pos} (m : matchE c im (.lc2 own elt tg it cond tg2 it2 cond2) (.ListComp x [⟨tg', it', ifs, 0⟩, ⟨tg2', it2', ifs2, 0⟩] scope pos) = true) :
    PI X tg' it' (liftI X.K it) ∧ BlkOk X.N X.env.scope scope own ∧ (∀ (s : Shared) (H : Hp) (C : Addr) (cl : List (Str × Addr)) (fp : List Addr), PG (X.blk s H scope (compEnvC scope cl C X.env) fp) tg' (liftG X.K c.N.length tg)) ∧
    (∀ (s : Shared) (H : Hp) (C : Addr) (cl : List (Str × Addr)) (fp : List Addr), PTs (X.blk s H scope (compEnvC scope cl C X.env) fp) ifs (liftC X.K cond)) ∧
    (∀ (s : Shared) (H : Hp) (C : Addr) (cl : List (Str × Addr)) (fp : List Addr), PI (X.blk s H scope (compEnvC scope cl C X.env) fp) tg2' it2' (liftI X.K it2)) ∧
    (∀ (s : Shared) (H : Hp) (C : Addr) (cl : List (Str × Addr)) (fp : List Addr), PG (X.blk s H scope (compEnvC scope cl C X.env) fp) tg2' (liftG X.K c.N.length tg2)) ∧
    (∀ (s : Shared) (H : Hp) (C : Addr) (cl : List (Str × Addr)) (fp : List Addr), PTs (X.blk s H scope (compEnvC scope cl C X.env) fp) ifs2 (liftC X.K cond2)) ∧
    (∀ (s : Shared) (H : Hp) (C : Addr) (cl : List (Str × Addr)) (fp : List Addr), PE (X.blk s H scope (compEnvC scope cl C X.env) fp) x (liftE X.K elt)) ∧ (∀ v, foldedSetIterable it' X.env v = pure v) ∧ (∀ env v, foldedSetIterable it2' env v = pure v) ∧ (∀ i ∈ slotsOf tg, i ∈ own.map (·.2)) ∧ (∀ i ∈ slotsOf tg2, i ∈ own.map (·.2)) := by
  simp only [mE_lc2, Bool.and_eq_true] at m
  obtain ⟨⟨⟨⟨⟨⟨⟨⟨⟨⟨⟨⟨⟨_, _⟩, m1⟩, m2⟩, m2'⟩, m3⟩, m4⟩, m4'⟩, m5⟩, m5'⟩, m6⟩, m6'⟩, m8⟩, m7⟩ := m
  have conds : ∀ (cond : E) (ihc : Sound cond) (nd : Need (gxOf X) cond) (ifs : List Expr), (match ifs with
      | [] => cond.isNil
      | [i] => !cond.isNil && matchE (c.blk scope) false cond i
      | _ => false) = true → ∀ (s : Shared) (H : Hp) (C : Addr) (cl : List (Str × Addr)) (fp : List Addr), PTs (X.blk s H scope (compEnvC scope cl C X.env) fp) ifs (liftC X.K cond) := fun cond ihc nd ifs m6 s H C cl fp => by
    unfold liftC
    match ifs, m6 with
    | [], m6 =>
      have m6 : cond.isNil = true := m6
      rw [m6]
      exact pts_nil
    | [i], m6 =>
      simp only [Bool.and_eq_true, Bool.not_eq_true'] at m6
      rw [m6.1]
      exact pts_one (ihc.get (xok_blk ok s H scope C cl fp) nd m6.2).pt
    | _ :: _ :: _, m6 => cases m6
  refine ⟨(iht.1 X c true it' ok nd.1 m1).2 tg', ?_, fun s H C cl fp => pg_of (xok_blk ok s H scope C cl fp) tg tg' m4, conds cond ihc nd.2.1 ifs m6, fun s H C cl fp => (iht2.1 _ (c.blk scope) true it2' (xok_blk ok s H scope C cl fp) nd.2.2.1 m8).2 tg2',
    fun s H C cl fp => pg_of (xok_blk ok s H scope C cl fp) tg2 tg2' m4', conds cond2 ihc2 nd.2.2.2.1 ifs2 m6', fun s H C cl fp => (ihe.get (xok_blk ok s H scope C cl fp) nd.2.2.2.2 m7).pe, fun v => set_of m2 v, fun env v => set_of m2' v,
    fun i hi => of_decide_eq_true (List.all_eq_true.mp m5 i hi), fun i hi => of_decide_eq_true (List.all_eq_true.mp m5' i hi)⟩
  rw [ok.N, ok.sc]
  exact blkOk_by m3
theorem sound_lc2 {own : List (Str × Nat)} {elt tg it cond tg2 it2 cond2 : E} (hm : (E.lc2 own elt tg it cond tg2 it2 cond2).monos) (ihe : Sound elt) (iht : Sound it) (ihc : Sound cond) (iht2 : Sound it2) (ihc2 : Sound cond2) : Sound (.lc2 own elt tg it cond tg2 it2 cond2) := by
  refine ⟨fun X c im x ok nd m => ?_, no_list fun c xs => rfl⟩
  have m0 := m
  rw [mE_lc2] at m
  split at m
  · simp only [Bool.and_eq_true, decide_eq_true_eq] at m
    obtain ⟨⟨⟨⟨⟨⟨⟨⟨⟨⟨⟨⟨⟨e0, e0'⟩, _⟩, _⟩, _⟩, _⟩, _⟩, _⟩, _⟩, _⟩, _⟩, _⟩, _⟩, _⟩ := m
    subst e0 e0'
    obtain ⟨p1, p2, p3, p4, p5, p6, p7, p8, p9, p10, p11, p12⟩ := lc2_parts ok ihe iht ihc iht2 ihc2 nd m0
    have hv : ∀ i ∈ slotsOf tg2, i ∈ own.map (·.2) := p12
    exact both hm (snd_plain hm (PE.impI (pe_lc2 ok.calm (by rw [ok.N]; exact ok.nd) p1 p2 hv p3 p4 p5 p6 p7 p8 p9 p10) fun σ H Q hl q => lc2_read hm p11 (by rw [hl, ok.N]) q) (fun _ => rfl) fun _ _ _ z => nomatch z)
  · cases m
theorem sound_r1 {a : E} (ma : a.monos) (iha : Sound a) : Sound (.r1 a) := by
  refine ⟨fun X c im x ok nd m => ⟨fun z => (nomatch z), fun tg => ?_⟩, no_list fun c xs => rfl⟩
  cases im with
  | false =>
    have z := rng_of m
    cases z
  | true =>
    cases x <;> try simp only [mE_r1, Bool.false_eq_true] at m
    rename_i g xs kws pos
    match g, xs, kws, m with
    | .Name y p, [x], [], m =>
      simp only [mE_r1, Bool.and_eq_true, decide_eq_true_eq, true_and] at m
      obtain ⟨⟨⟨rfl, g5⟩, ns⟩, m5⟩ := m
      obtain ⟨g1, g2, g3⟩ := gl_of ok g5
      have A := iha.get ok nd.2 m5
      refine PI.imp (pi_range1 g1 nd.1 (pa_cons A.pe pa_nil (star_of ns)) (star_of ns)) fun σ H R q => ?_
      obtain ⟨T, env, O, k, r, q⟩ := q
      refine lift1 ma k r q fun d v H1 e1 k1 hd q => ?_
      cases d with
      | int n =>
        obtain ⟨⟨z1, z2⟩, q⟩ := q
        have e : (n - 0).toNat = n.toNat := by rw [Int.sub_zero]
        refine ⟨n, by rw [show v = V.int n from hd], by omega, by omega, ?_⟩
        have w : ∀ O2, WalkD X.K T O2 H1 (rangeD 0 n) (Itr 0 n.toNat) := fun O2 => by
          rw [← e]
          exact walk_range (by omega)
        exact q _ H1 e1 k1.tape (w O) fun _ O2 _ _ => w O2
      | _ => exact q.elim
    | .Name _ _, [], _, m => simp [mE_r1] at m
    | .Name _ _, _ :: _ :: _, _, m => simp [mE_r1] at m
    | .Name _ _, [_], _ :: _, m => simp [mE_r1] at m
    | .BoolOp .., _, _, m | .NamedExpr .., _, _, m | .BinOp .., _, _, m | .UnaryOp .., _, _, m | .Lambda .., _, _, m | .IfExp .., _, _, m | .Dict .., _, _, m | .Set .., _, _, m | .ListComp .., _, _, m | .SetComp .., _, _, m | .DictComp .., _, _, m | .GeneratorExp .., _, _, m | .Await .., _, _, m | .Yield .., _, _, m | .YieldFrom .., _, _, m
    | .Compare .., _, _, m | .Call .., _, _, m | .FormattedValue .., _, _, m | .JoinedStr .., _, _, m | .Constant .., _, _, m | .Attribute .., _, _, m | .Subscript .., _, _, m | .Starred .., _, _, m | .List .., _, _, m | .Tuple .., _, _, m | .Slice .., _, _, m => simp [mE_r1] at m
theorem sound_r2 {a b : E} (ma : a.monos) (mb : b.monos) (iha : Sound a) (ihb : Sound b) : Sound (.r2 a b) := by
  refine ⟨fun X c im x ok nd m => ⟨fun z => (nomatch z), fun tg => ?_⟩, no_list fun c xs => rfl⟩
  cases im with
  | false =>
    have z := rng_of m
    cases z
  | true =>
    cases x <;> try simp only [mE_r2, Bool.false_eq_true] at m
    rename_i g xs kws pos
    match g, xs, kws, m with
    | .Name y p, [x, z], [], m =>
      simp only [mE_r2, Bool.and_eq_true, decide_eq_true_eq, true_and] at m
      obtain ⟨⟨⟨⟨⟨rfl, g5⟩, ns⟩, ns2⟩, m5⟩, m6⟩ := m
      obtain ⟨g1, g2, g3⟩ := gl_of ok g5
      have A := iha.get ok nd.2.1 m5
      have B := ihb.get ok nd.2.2 m6
      have hs : starEach [x, z] X.env = [(false, eval x X.env), (false, eval z X.env)] := by
        rw [star_of ns, star_of ns2]
        rfl
      refine PI.imp (pi_range2 g1 nd.1 (pa_cons A.pe (pa_cons B.pe pa_nil (star_of ns2)) (star_of ns)) hs (star_of ns2)) fun σ H R q => ?_
      obtain ⟨T, env, O, k, r, q⟩ := q
      refine lift1 ma k r.l q fun d v H1 e1 k1 hd q => ?_
      refine lift1 mb k1 (r.r.ext k e1) q fun d2 v2 H2 e2 k2 hd2 q => ?_
      cases d with
      | int i =>
        cases d2 with
        | int j =>
          obtain ⟨⟨z1, z2, z3, z4⟩, q⟩ := q
          refine ⟨i, j, by rw [show v = V.int i from hd, show v2 = V.int j from hd2], by omega, ?_⟩
          have w : ∀ O2, WalkD X.K T O2 H2 (rangeD i j) (Itr i (j - i).toNat) := fun O2 => walk_range (by omega)
          exact q _ H2 (e1.trans e2) k2.tape (w O) fun _ O2 _ _ => w O2
        | _ => exact q.elim
      | _ => exact q.elim
    | .Name _ _, [], _, m => simp [mE_r2] at m
    | .Name _ _, [_], _, m => simp [mE_r2] at m
    | .Name _ _, _ :: _ :: _ :: _, _, m => simp [mE_r2] at m
    | .Name _ _, [_, _], _ :: _, m => simp [mE_r2] at m
    | .BoolOp .., _, _, m | .NamedExpr .., _, _, m | .BinOp .., _, _, m | .UnaryOp .., _, _, m | .Lambda .., _, _, m | .IfExp .., _, _, m | .Dict .., _, _, m | .Set .., _, _, m | .ListComp .., _, _, m | .SetComp .., _, _, m | .DictComp .., _, _, m | .GeneratorExp .., _, _, m | .Await .., _, _, m | .Yield .., _, _, m | .YieldFrom .., _, _, m
    | .Compare .., _, _, m | .Call .., _, _, m | .FormattedValue .., _, _, m | .JoinedStr .., _, _, m | .Constant .., _, _, m | .Attribute .., _, _, m | .Subscript .., _, _, m | .Starred .., _, _, m | .List .., _, _, m | .Tuple .., _, _, m | .Slice .., _, _, m => simp [mE_r2] at m
theorem sound : ∀ e : E, e.monos → Sound e := by
  intro e
  induction e with
  | nil => exact fun _ => sound_nil
  | cons a b iha ihb => exact fun m => sound_cons m.1 m.2 (iha m.1) (ihb m.2)
  | var i => exact fun _ => sound_var
  | non => exact fun _ => sound_non
  | bl b => exact fun _ => sound_bl
  | int b => exact fun _ => sound_int
  | str b => exact fun _ => sound_str
  | glob x d => exact fun _ => sound_glob
  | bin o a b iha ihb => exact fun m => sound_bin m.1 m.2 (iha m.1) (ihb m.2)
  | neg a iha => exact fun m => sound_neg m (iha m)
  | cmp o a b iha ihb => exact fun m => sound_cmp m.1 m.2 (iha m.1) (ihb m.2)
  | chain o p a b c iha ihb ihc => exact fun m => sound_chain m.1 m.2.1 m.2.2 (iha m.1) (ihb m.2.1) (ihc m.2.2)
  | andd a b iha ihb => exact fun m => sound_andd m.1 m.2 (iha m.1) (ihb m.2)
  | orr a b iha ihb => exact fun m => sound_orr m.1 m.2 (iha m.1) (ihb m.2)
  | nott a iha => exact fun m => sound_nott m (iha m)
  | ite c a b ihc iha ihb => exact fun m => sound_ite m.1 m.2.1 m.2.2 (ihc m.1) (iha m.2.1) (ihb m.2.2)
  | tup es ih => exact fun m => sound_tup m (ih m)
  | lst es ih => exact fun m => sound_lst m (ih m)
  | ix a b iha ihb => exact fun m => sound_ix m.1 m.2 (iha m.1) (ihb m.2)
  | sl a l u iha ihl ihu => exact fun m => sound_sl m.1 m.2.1 m.2.2 (iha m.1) (ihl m.2.1) (ihu m.2.2)
  | call f sp es ih => exact fun m => sound_call m.1 m.2 (ih m.2)
  | bf f es ih => exact fun m => sound_bf m (ih m)
  | lenset a iha => exact fun m => sound_lenset m (iha m)
  | mt f o es iho ih => exact fun m => sound_mt m.1 m.2 (iho m.1) (ih m.2)
  | isin a ts iha => exact fun m => sound_isin m (iha m)
  | lc own elt tg it cond ihe _ iht ihc => exact fun m => sound_lc m (ihe m.2.2) (iht m.1) (ihc m.2.1)
  | lc2 own elt tg it cond tg2 it2 cond2 ihe _ iht ihc _ iht2 ihc2 => exact fun m => sound_lc2 m (ihe m.2.2.2.2) (iht m.1) (ihc m.2.1) (iht2 m.2.2.1) (ihc2 m.2.2.2.1)
  | r1 a iha => exact fun m => sound_r1 m (iha m)
  | r2 a b iha ihb => exact fun m => sound_r2 m.1 m.2 (iha m.1) (ihb m.2)
  | raw l s v f => exact fun hm => ⟨fun X c im x ok nd m => by
      have m : (notComp x && l c x) = true := by
        simpa only [mE_raw] using m
      rw [Bool.and_eq_true] at m
      obtain ⟨h1, h2, h3⟩ := nd X c x rfl ok m.2
      exact both hm ⟨h1, h2, fun op vs p e => absurd e (h3 op vs p)⟩, no_list fun c xs => rfl⟩
  | r3 a b c iha ihb ihc => exact fun m => sound_r3 m.1 m.2.1 m.2.2 (iha m.1) (ihb m.2.1) (ihc m.2.2)
end DL

set_option Elab.async false
set_option linter.all false
set_option maxRecDepth 100000
set_option maxHeartbeats 2000000
/-! DL14: the places of a body (RepS): what is its own, what is shared. -/
namespace DL
open PySem PySem.Spec PyProof.Rows L2

/-- an own list of own lists: the cells are as -/
structure NwAt (K : PySem.W.Frag) (T : Tape) (R : Hp) (W : List Addr) (H : Hp) (s : Option (Option V)) (rows : List (List D)) (as : List Addr) (p : Addr) (ps : List Addr) : Prop where
  eq : as = p :: ps
  val : s = some (some (V.ref p))
  top : H p = some (.lst (ps.map V.ref))
  size : ps.length ≤ 16777216
  nd : as.Nodup
  mem : ∀ a ∈ as, a ∈ W
  len : ps.length = rows.length
  row : ∀ (k : Nat) (q : Addr) (ds : List D), ps[k]? = some q → rows[k]? = some ds → ∃ xs, H q = some (.lst xs) ∧ xs.length ≤ 16777216 ∧ Dats K T R ds xs
theorem NwAt.has {K : PySem.W.Frag} {T : Tape} {R : Hp} {W : List Addr} {H : Hp} {s : Option (Option V)} {rows : List (List D)} {as : List Addr} {p : Addr} {ps : List Addr} (h : NwAt K T R W H s rows as p ps) {a : Addr} (ha : a ∈ as) : ∃ xs, H a = some (.lst xs) := by
  rw [h.eq] at ha
  rcases List.mem_cons.mp ha with rfl | ha
  · exact ⟨_, h.top⟩
  · obtain ⟨k, hk⟩ := List.getElem?_of_mem ha
    have hl := (List.getElem?_eq_some_iff.mp hk).1
    have := h.len
    obtain ⟨xs, h1, _⟩ := h.row k a _ hk (List.getElem?_eq_getElem (by omega))
    exact ⟨xs, h1⟩
theorem NwAt.move {K : PySem.W.Frag} {T : Tape} {R R' : Hp} {W W' : List Addr} {H H' : Hp} {s s' : Option (Option V)} {rows : List (List D)} {as : List Addr} {p : Addr} {ps : List Addr} (h : NwAt K T R W H s rows as p ps)
    (hs : s' = s) (hW : ∀ a ∈ as, a ∈ W') (hH : ∀ a ∈ as, ∀ xs, H a = some (.lst xs) → H' a = some (.lst xs)) (l : Le R R') : NwAt K T R' W' H' s' rows as p ps := by
  refine ⟨h.eq, hs.trans h.val, hH p (by rw [h.eq]; exact List.mem_cons_self) _ h.top, h.size, h.nd, hW, h.len, fun k q ds h1 h2 => ?_⟩
  obtain ⟨xs, a, b, c⟩ := h.row k q ds h1 h2
  exact ⟨xs, hH q (by rw [h.eq]; exact List.mem_cons_of_mem _ (List.mem_of_getElem? h1)) _ a, b, c.le l⟩
structure RepS (K : PySem.W.Frag) (T : Tape) (O W : List Addr) (σ : L2.St) (env : DEnv) (H : Hp) : Prop where
  ok : Ok T O H
  wl : ∀ a ∈ W, H a ≠ none
  nt : ∀ a ∈ W, a ∉ O
  len : env.length = σ.length
  sh : ∀ (i : Nat) (d : D), env[i]? = some (Sl.sh d) → ∃ v, σ[i]? = some (some v) ∧ Dat K T (res H (W ++ O)) d v
  ow : ∀ (i : Nat) (d : D), env[i]? = some (Sl.ow d) → ∃ ds p xs, d = D.lst ds ∧ σ[i]? = some (some (V.ref p)) ∧ p ∈ W ∧ H p = some (.lst xs) ∧ xs.length ≤ 16777216 ∧ Dats K T (res H (W ++ O)) ds xs
  inj : ∀ (i j : Nat) (d e : D) (p : Addr), env[i]? = some (Sl.ow d) → env[j]? = some (Sl.ow e) → σ[i]? = some (some (V.ref p)) → σ[j]? = some (some (V.ref p)) → i = j
  nw : ∀ (i : Nat) (rows : List (List D)) (as : List Addr), env[i]? = some (Sl.nw rows as) → ∃ p ps, NwAt K T (res H (W ++ O)) W H σ[i]? rows as p ps
  nn : ∀ (i j : Nat) (r s : List (List D)) (as bs : List Addr) (a : Addr), env[i]? = some (Sl.nw r as) → env[j]? = some (Sl.nw s bs) → a ∈ as → a ∈ bs → i = j
  nx : ∀ (i j : Nat) (r : List (List D)) (as : List Addr) (d : D) (p : Addr), env[i]? = some (Sl.nw r as) → env[j]? = some (Sl.ow d) → σ[j]? = some (some (V.ref p)) → p ∉ as
/-- what a body leaves as it is -/
structure Frm (T : Tape) (H : Hp) (W : List Addr) (H' : Hp) (W' : List Addr) : Prop where
  keep : ∀ b o, H b = some o → b ∉ W → b ∉ T.own → H' b = some o
  noW : ∀ b, H b ≠ none → b ∉ W → b ∉ W'
  live : ∀ b, H b ≠ none → H' b ≠ none
theorem Frm.trans {T : Tape} {H H1 H2 : Hp} {W W1 W2 : List Addr} (a : Frm T H W H1 W1) (b : Frm T H1 W1 H2 W2) : Frm T H W H2 W2 :=
  ⟨fun c o h h1 h2 => b.keep c o (a.keep c o h h1 h2) (a.noW c (by rw [h]; exact fun z => nomatch z) h1) h2, fun c h h1 => b.noW c (a.live c h) (a.noW c h h1), fun c h => b.live c (a.live c h)⟩
theorem Frm.ext {T : Tape} {H H1 : Hp} {W : List Addr} (e : Ext T H H1) (t : T.ok H1) : Frm T H W H1 W := ⟨fun b o h _ n => e b o h n, fun b _ n => n, fun b h => e.live t h⟩
theorem Frm.refl {T : Tape} {H : Hp} {W : List Addr} : Frm T H W H W := ⟨fun b o h _ n => h, fun b _ n => n, fun b h => h⟩

section
variable {K : PySem.W.Frag} {T : Tape} {O W : List Addr} {σ : L2.St} {env : DEnv} {H H1 : Hp}
theorem RepS.okW (r : RepS K T O W σ env H) : Ok T (W ++ O) H := ⟨r.ok.tape, fun a ha => List.mem_append_right _ (r.ok.sub a ha), fun a ha => (List.mem_append.mp ha).elim (r.wl a) (r.ok.live a)⟩
theorem RepS.ntT (r : RepS K T O W σ env H) : ∀ a ∈ W, a ∉ T.own := fun a ha z => r.nt a ha (r.ok.sub a z)
/-- the heap grows -/
theorem RepS.ext (r : RepS K T O W σ env H) (e : Ext T H H1) (t : T.ok H1) : RepS K T O W σ env H1 := by
  refine ⟨r.ok.ext e t, fun a ha => e.live t (r.wl a ha), r.nt, r.len, fun i d h => ?_, fun i d h => ?_, r.inj, fun i rows as h => ?_, r.nn, r.nx⟩
  · obtain ⟨v, h1, h2⟩ := r.sh i d h
    exact ⟨v, h1, h2.le (r.okW.res e)⟩
  · obtain ⟨ds, p, xs, h1, h2, h3, h4, h5, h6⟩ := r.ow i d h
    exact ⟨ds, p, xs, h1, h2, h3, e _ _ h4 (r.ntT p h3), h5, h6.le (r.okW.res e)⟩
  · obtain ⟨p, ps, n⟩ := r.nw i rows as h
    exact ⟨p, ps, n.move rfl n.mem (fun a ha xs g => e _ _ g (r.ntT a (n.mem a ha))) (r.okW.res e)⟩
/-- one more own list, not yet named -/
theorem RepS.new (r : RepS K T O W σ env H) (e : Ext T H H1) (t : T.ok H1) {p : Addr} (n : H p = none) {o : HO} (h : H1 p = some o) : RepS K T O (p :: W) σ env H1 := by
  have l : Le (res H (W ++ O)) (res H1 (p :: W ++ O)) := fun b u q => by
    obtain ⟨nb, q⟩ := res_some q
    have hne := ne_of_none q n
    refine res_of (fun z => ?_) (e b u q fun z => nb (r.okW.sub b z))
    rcases List.mem_cons.mp z with z | z
    · exact hne z
    · exact nb z
  refine ⟨r.ok.ext e t, fun a ha => ?_, fun a ha => ?_, r.len, fun i d h => ?_, fun i d h => ?_, r.inj, fun i rows as h => ?_, r.nn, r.nx⟩
  · rcases List.mem_cons.mp ha with rfl | ha
    · rw [h]; exact fun z => nomatch z
    · exact e.live t (r.wl a ha)
  · rcases List.mem_cons.mp ha with rfl | ha
    · exact r.ok.new n
    · exact r.nt a ha
  · obtain ⟨v, h1, h2⟩ := r.sh i d h
    exact ⟨v, h1, h2.le l⟩
  · obtain ⟨ds, p, xs, h1, h2, h3, h4, h5, h6⟩ := r.ow i d h
    exact ⟨ds, p, xs, h1, h2, List.mem_cons_of_mem _ h3, e _ _ h4 (r.ntT p h3), h5, h6.le l⟩
  · obtain ⟨p, ps, n⟩ := r.nw i rows as h
    exact ⟨p, ps, n.move rfl (fun a ha => List.mem_cons_of_mem _ (n.mem a ha)) (fun a ha xs g => e _ _ g (r.ntT a (n.mem a ha))) l⟩
theorem get_set {s : Sl} {i j : Nat} {x : Sl} (h : (env.set i s)[j]? = some x) : (j = i ∧ x = s ∧ i < env.length) ∨ (j ≠ i ∧ env[j]? = some x) := by
  by_cases e : i = j
  · subst e
    by_cases hi : i < env.length
    · rw [List.getElem?_set_self hi] at h
      cases h
      exact .inl ⟨rfl, rfl, hi⟩
    · rw [List.getElem?_eq_none (by simpa using hi)] at h
      cases h
  · rw [List.getElem?_set_ne e] at h
    exact .inr ⟨fun z => e z.symm, h⟩
theorem RepS.setSh (r : RepS K T O W σ env H) {i : Nat} {d : D} {v : V} (hd : Dat K T (res H (W ++ O)) d v) (hi : i < σ.length) : RepS K T O W (σ.set i (some v)) (env.set i (.sh d)) H := by
  refine ⟨r.ok, r.wl, r.nt, by rw [List.length_set, List.length_set]; exact r.len, fun j e h => ?_, fun j e h => ?_, fun j l d' e' p h1 h2 h3 h4 => ?_, fun j rows as h => ?_, fun j l a b as bs x h1 h2 h3 h4 => ?_, fun j l a as d' p h1 h2 h3 => ?_⟩
  · rcases get_set h with ⟨rfl, e1, _⟩ | ⟨ne, h⟩
    · cases e1
      exact ⟨v, List.getElem?_set_self hi, hd⟩
    · rw [List.getElem?_set_ne (Ne.symm ne)]
      exact r.sh j e h
  · rcases get_set h with ⟨_, e1, _⟩ | ⟨ne, h⟩
    · cases e1
    · rw [List.getElem?_set_ne (Ne.symm ne)]
      exact r.ow j e h
  · rcases get_set h1 with ⟨_, e1, _⟩ | ⟨ne, h1⟩
    · cases e1
    rcases get_set h2 with ⟨_, e1, _⟩ | ⟨ne2, h2⟩
    · cases e1
    rw [List.getElem?_set_ne (Ne.symm ne)] at h3
    rw [List.getElem?_set_ne (Ne.symm ne2)] at h4
    exact r.inj j l d' e' p h1 h2 h3 h4
  · rcases get_set h with ⟨_, e1, _⟩ | ⟨ne, h⟩
    · cases e1
    · rw [List.getElem?_set_ne (Ne.symm ne)]
      exact r.nw j rows as h
  · rcases get_set h1 with ⟨_, e1, _⟩ | ⟨ne, h1⟩
    · cases e1
    rcases get_set h2 with ⟨_, e1, _⟩ | ⟨ne2, h2⟩
    · cases e1
    exact r.nn j l a b as bs x h1 h2 h3 h4
  · rcases get_set h1 with ⟨_, e1, _⟩ | ⟨ne, h1⟩
    · cases e1
    rcases get_set h2 with ⟨_, e1, _⟩ | ⟨ne2, h2⟩
    · cases e1
    rw [List.getElem?_set_ne (Ne.symm ne2)] at h3
    exact r.nx j l a as d' p h1 h2 h3
/-- a new list gets a name; no other own list stands there -/
theorem RepS.setOw (r : RepS K T O W σ env H) {i : Nat} {ds : List D} {p : Addr} {xs : List V} (hp : p ∈ W) (no : ∀ (j : Nat) (d : D), env[j]? = some (Sl.ow d) → σ[j]? ≠ some (some (V.ref p))) (no2 : ∀ (j : Nat) (rows : List (List D)) (as : List Addr), env[j]? = some (Sl.nw rows as) → p ∉ as) (h : H p = some (.lst xs)) (z : xs.length ≤ 16777216) (hd : Dats K T (res H (W ++ O)) ds xs) (hi : i < σ.length) :
    RepS K T O W (σ.set i (some (.ref p))) (env.set i (.ow (.lst ds))) H := by
  refine ⟨r.ok, r.wl, r.nt, by rw [List.length_set, List.length_set]; exact r.len, fun j e h => ?_, fun j e h' => ?_, fun j l d' e' q h1 h2 h3 h4 => ?_, fun j rows as h => ?_, fun j l a b as bs x h1 h2 h3 h4 => ?_, fun j l a as d' q h1 h2 h3 => ?_⟩
  · rcases get_set h with ⟨rfl, e1, _⟩ | ⟨ne, h⟩
    · cases e1
    · rw [List.getElem?_set_ne (Ne.symm ne)]
      exact r.sh j e h
  · rcases get_set h' with ⟨rfl, e1, _⟩ | ⟨ne, h'⟩
    · cases e1
      exact ⟨ds, p, xs, rfl, List.getElem?_set_self hi, hp, h, z, hd⟩
    · rw [List.getElem?_set_ne (Ne.symm ne)]
      exact r.ow j e h'
  · rcases get_set h1 with ⟨e0, e1, _⟩ | ⟨ne, g1⟩
    · rcases get_set h2 with ⟨e2, _, _⟩ | ⟨ne2, g2⟩
      · rw [e0, e2]
      · rw [e0, List.getElem?_set_self hi] at h3
        cases h3
        rw [List.getElem?_set_ne (Ne.symm ne2)] at h4
        exact absurd h4 (no l e' g2)
    · rw [List.getElem?_set_ne (Ne.symm ne)] at h3
      rcases get_set h2 with ⟨e2, _, _⟩ | ⟨ne2, g2⟩
      · rw [e2, List.getElem?_set_self hi] at h4
        cases h4
        exact absurd h3 (no j d' g1)
      · rw [List.getElem?_set_ne (Ne.symm ne2)] at h4
        exact r.inj j l d' e' q g1 g2 h3 h4
  · rcases get_set h with ⟨_, e1, _⟩ | ⟨ne, h⟩
    · cases e1
    · rw [List.getElem?_set_ne (Ne.symm ne)]
      exact r.nw j rows as h
  · rcases get_set h1 with ⟨_, e1, _⟩ | ⟨ne, h1⟩
    · cases e1
    rcases get_set h2 with ⟨_, e1, _⟩ | ⟨ne2, h2⟩
    · cases e1
    exact r.nn j l a b as bs x h1 h2 h3 h4
  · rcases get_set h1 with ⟨_, e1, _⟩ | ⟨ne, g1⟩
    · cases e1
    rcases get_set h2 with ⟨rfl, _, _⟩ | ⟨ne2, h2⟩
    · rw [List.getElem?_set_self hi] at h3
      cases h3
      exact no2 j a as g1
    rw [List.getElem?_set_ne (Ne.symm ne2)] at h3
    exact r.nx j l a as d' q g1 h2 h3
/-- an own list is changed -/
theorem RepS.write (r : RepS K T O W σ env H) {i : Nat} {ds : List D} {p : Addr} {d : D} {xs : List V} (he : env[i]? = some (Sl.ow d)) (hs : σ[i]? = some (some (V.ref p))) (hp : p ∈ W) (z : xs.length ≤ 16777216) (hd : Dats K T (res H (W ++ O)) ds xs) :
    RepS K T O W σ (env.set i (.ow (.lst ds))) (upd H p (.lst xs)) ∧ Frm T H W (upd H p (.lst xs)) W := by
  have nT : p ∉ T.own := r.ntT p hp
  have er : res (upd H p (.lst xs)) (W ++ O) = res H (W ++ O) := by
    funext b
    unfold res
    by_cases hb : b ∈ W ++ O
    · rw [if_pos hb, if_pos hb]
    · rw [if_neg hb, if_neg hb, upd_ne fun z => hb (by rw [z]; exact List.mem_append_left _ hp)]
  have hk : ∀ b, b ≠ p → upd H p (.lst xs) b = H b := fun b hb => upd_ne hb
  have lv : ∀ b, H b ≠ none → upd H p (.lst xs) b ≠ none := fun b hb => by
    by_cases e : b = p
    · rw [e, upd_same]; exact fun z => nomatch z
    · rw [hk b e]; exact hb
  have tk : T.ok (upd H p (.lst xs)) := by
    have ok := r.ok.tape
    cases T with
    | no => trivial
    | st a c =>
      obtain ⟨e, m, ns, g, h1, h2⟩ := ok
      exact ⟨e, m, ns, g, by rw [hk a fun z => nT (by rw [← z]; simp [Tape.own])]; exact h1, by rw [hk c fun z => nT (by rw [← z]; simp [Tape.own])]; exact h2⟩
    | tp a c =>
      obtain ⟨e, m, m2, m3, ns, g, g2, h1, h2⟩ := ok
      exact ⟨e, m, m2, m3, ns, g, g2, by rw [hk a fun z => nT (by rw [← z]; simp [Tape.own])]; exact h1, by rw [hk c fun z => nT (by rw [← z]; simp [Tape.own])]; exact h2⟩
  have hi : i < env.length := (List.getElem?_eq_some_iff.mp he).1
  refine ⟨⟨⟨tk, r.ok.sub, fun a ha => lv a (r.ok.live a ha)⟩, fun a ha => lv a (r.wl a ha), r.nt, by rw [List.length_set]; exact r.len, fun j e h => ?_, fun j e h => ?_, fun j l d' e' q h1 h2 h3 h4 => ?_, fun j rows as h => ?_, fun j l a b as bs x h1 h2 h3 h4 => ?_, fun j l a as d' q h1 h2 h3 => ?_⟩, fun b o hb nb _ => ?_, fun b _ n => n, lv⟩
  · rcases get_set h with ⟨_, e1, _⟩ | ⟨ne, h⟩
    · cases e1
    · rw [er]
      exact r.sh j e h
  · rcases get_set h with ⟨rfl, e1, _⟩ | ⟨ne, h⟩
    · cases e1
      exact ⟨ds, p, xs, rfl, hs, hp, upd_same, z, by rw [er]; exact hd⟩
    · obtain ⟨ds2, p2, xs2, h1, h2, h3, h4, h5, h6⟩ := r.ow j e h
      refine ⟨ds2, p2, xs2, h1, h2, h3, ?_, h5, by rw [er]; exact h6⟩
      rw [hk p2 fun z => ne (r.inj j i e d p h he (by rw [h2, z]) hs)]
      exact h4
  · have a1 : ∃ d1, env[j]? = some (Sl.ow d1) := by
      rcases get_set h1 with ⟨rfl, _, _⟩ | ⟨ne, h1⟩
      · exact ⟨d, he⟩
      · exact ⟨d', h1⟩
    have a2 : ∃ d1, env[l]? = some (Sl.ow d1) := by
      rcases get_set h2 with ⟨rfl, _, _⟩ | ⟨ne, h2⟩
      · exact ⟨d, he⟩
      · exact ⟨e', h2⟩
    obtain ⟨d1, a1⟩ := a1
    obtain ⟨d2, a2⟩ := a2
    exact r.inj j l d1 d2 q a1 a2 h3 h4
  · rcases get_set h with ⟨_, e1, _⟩ | ⟨ne, h⟩
    · cases e1
    · obtain ⟨p', ps, n⟩ := r.nw j rows as h
      rw [er]
      exact ⟨p', ps, n.move rfl n.mem (fun a ha xs g => by rw [hk a fun z => r.nx j i rows as d p h he hs (by rw [← z]; exact ha)]; exact g) fun _ _ g => g⟩
  · rcases get_set h1 with ⟨_, e1, _⟩ | ⟨ne, h1⟩
    · cases e1
    rcases get_set h2 with ⟨_, e1, _⟩ | ⟨ne2, h2⟩
    · cases e1
    exact r.nn j l a b as bs x h1 h2 h3 h4
  · rcases get_set h1 with ⟨_, e1, _⟩ | ⟨ne, g1⟩
    · cases e1
    rcases get_set h2 with ⟨rfl, _, _⟩ | ⟨ne2, h2⟩
    · exact r.nx j l a as d q g1 he h3
    · exact r.nx j l a as d' q g1 h2 h3
  · rw [hk b fun z => nb (by rw [z]; exact hp)]
    exact hb
end

/-! ### names that are shared from now on -/
def cellAt (σ : L2.St) (env : DEnv) (i : Nat) : List Addr := match env[i]?, σ[i]? with
  | some (.ow _), some (some (.ref p)) => [p]
  | some (.nw _ as), _ => as
  | _, _ => []
def cells (σ : L2.St) (env : DEnv) (vs : List Nat) : List Addr := vs.flatMap (cellAt σ env)
def frzW (σ : L2.St) (env : DEnv) (vs : List Nat) (W : List Addr) : List Addr := W.filter fun a => decide (a ∉ cells σ env vs)
def frz1 : Sl → Sl
  | .ow d => .sh d
  | .nw rows _ => .sh (.lst (rows.map .lst))
  | s => s
theorem frz_map {env : DEnv} : ∀ {vs : List Nat} {j : Nat}, (frz env vs)[j]? = if j ∈ vs then (env[j]?).map frz1 else env[j]?
  | [], j => by simp [frz]
  | i :: is, j => by
    have ih := @frz_map env is
    by_cases e : i = j
    · subst e
      rw [if_pos List.mem_cons_self]
      have q := @ih i
      unfold frz
      cases h : (frz env is)[i]? with
      | none =>
        show (frz env is)[i]? = _
        rw [h] at q ⊢
        by_cases hm : i ∈ is
        · rw [if_pos hm] at q
          exact q
        · rw [if_neg hm] at q
          rw [← q]
          rfl
      | some s =>
        have hi : i < (frz env is).length := (List.getElem?_eq_some_iff.mp h).1
        rw [h] at q
        cases s with
        | ow d =>
          show ((frz env is).set i (.sh d))[i]? = _
          rw [List.getElem?_set_self hi]
          by_cases hm : i ∈ is
          · rw [if_pos hm] at q
            cases h2 : env[i]? with
            | none => rw [h2] at q; cases q
            | some t => rw [h2] at q; cases t <;> cases q
          · rw [if_neg hm] at q
            rw [← q]
            rfl
        | nw rows as =>
          show ((frz env is).set i (.sh (.lst (rows.map .lst))))[i]? = _
          rw [List.getElem?_set_self hi]
          by_cases hm : i ∈ is
          · rw [if_pos hm] at q
            cases h2 : env[i]? with
            | none => rw [h2] at q; cases q
            | some t => rw [h2] at q; cases t <;> cases q
          · rw [if_neg hm] at q
            rw [← q]
            rfl
        | sh d =>
          show (frz env is)[i]? = _
          rw [h]
          by_cases hm : i ∈ is
          · rw [if_pos hm] at q
            exact q
          · rw [if_neg hm] at q
            rw [← q]
            rfl
        | no =>
          show (frz env is)[i]? = _
          rw [h]
          by_cases hm : i ∈ is
          · rw [if_pos hm] at q
            exact q
          · rw [if_neg hm] at q
            rw [← q]
            rfl
    · have e2 : (j ∈ i :: is) ↔ j ∈ is := ⟨fun z => (List.mem_cons.mp z).elim (fun z => absurd z.symm e) id, List.mem_cons_of_mem _⟩
      have e3 : (frz env (i :: is))[j]? = (frz env is)[j]? := by
        rw [frz]
        split
        · rw [List.getElem?_set_ne e]
        · rw [List.getElem?_set_ne e]
        · rfl
      rw [e3, ih]
      by_cases hm : j ∈ is
      · rw [if_pos hm, if_pos (e2.mpr hm)]
      · rw [if_neg hm, if_neg fun z => hm (e2.mp z)]
theorem frz_get {env : DEnv} {vs : List Nat} {j : Nat} : (frz env vs)[j]? = if j ∈ vs then (match env[j]? with
    | some (.ow d) => some (.sh d)
    | some (.nw rows _) => some (.sh (.lst (rows.map .lst)))
    | s => s) else env[j]? := by
  rw [frz_map]
  by_cases hm : j ∈ vs
  · rw [if_pos hm, if_pos hm]
    cases h : env[j]? with
    | none => rfl
    | some s => cases s <;> rfl
  · rw [if_neg hm, if_neg hm]
theorem frz_length {env : DEnv} : ∀ {vs : List Nat}, (frz env vs).length = env.length
  | [] => rfl
  | i :: is => by
    unfold frz
    split
    · rw [List.length_set, frz_length]
    · rw [List.length_set, frz_length]
    · exact frz_length
theorem cell_mem {σ : L2.St} {env : DEnv} {vs : List Nat} {p : Addr} (h : p ∈ cells σ env vs) : ∃ i ∈ vs, (∃ d, env[i]? = some (Sl.ow d) ∧ σ[i]? = some (some (V.ref p))) ∨ ∃ rows as, env[i]? = some (Sl.nw rows as) ∧ p ∈ as := by
  unfold cells at h
  obtain ⟨i, hi, e⟩ := List.mem_flatMap.mp h
  refine ⟨i, hi, ?_⟩
  unfold cellAt at e
  split at e
  · rw [List.mem_singleton.mp e]
    exact .inl ⟨_, by assumption, by assumption⟩
  · exact .inr ⟨_, _, by assumption, e⟩
  · cases e
theorem mem_cell {σ : L2.St} {env : DEnv} {vs : List Nat} {p : Addr} {i : Nat} {d : D} (hi : i ∈ vs) (h1 : env[i]? = some (Sl.ow d)) (h2 : σ[i]? = some (some (V.ref p))) : p ∈ cells σ env vs :=
  List.mem_flatMap.mpr ⟨i, hi, by unfold cellAt; rw [h1, h2]; exact List.mem_cons_self⟩
theorem mem_cellN {σ : L2.St} {env : DEnv} {vs : List Nat} {a : Addr} {i : Nat} {rows : List (List D)} {as : List Addr} (hi : i ∈ vs) (h1 : env[i]? = some (Sl.nw rows as)) (h2 : a ∈ as) : a ∈ cells σ env vs :=
  List.mem_flatMap.mpr ⟨i, hi, by unfold cellAt; rw [h1]; exact h2⟩
section
variable {K : PySem.W.Frag} {T : Tape} {O W : List Addr} {σ : L2.St} {env : DEnv} {H H1 : Hp}
theorem frzW_sub {vs : List Nat} : ∀ a ∈ frzW σ env vs W, a ∈ W := fun a ha => (List.mem_filter.mp ha).1
theorem frzW_no {vs : List Nat} {a : Addr} (ha : a ∈ frzW σ env vs W) : a ∉ cells σ env vs := of_decide_eq_true (List.mem_filter.mp ha).2
theorem frzW_of {vs : List Nat} {a : Addr} (ha : a ∈ W) (n : a ∉ cells σ env vs) : a ∈ frzW σ env vs W := List.mem_filter.mpr ⟨ha, decide_eq_true n⟩
theorem res_frz {vs : List Nat} : Le (res H (W ++ O)) (res H (frzW σ env vs W ++ O)) := fun b o q => by
  obtain ⟨nb, q⟩ := res_some q
  refine res_of (fun z => ?_) q
  rcases List.mem_append.mp z with z | z
  · exact nb (List.mem_append_left _ (frzW_sub b z))
  · exact nb (List.mem_append_right _ z)
theorem rows_dats {K : PySem.W.Frag} {T : Tape} {R : Hp} : ∀ {ps : List Addr} {rows : List (List D)}, ps.length = rows.length → (∀ (k : Nat) (q : Addr) (ds : List D), ps[k]? = some q → rows[k]? = some ds → Dat K T R (.lst ds) (.ref q)) → Dats K T R (rows.map D.lst) (ps.map V.ref)
  | [], [], _, _ => rfl
  | [], r :: rs, h, _ => by cases h
  | p :: ps, [], h, _ => by cases h
  | p :: ps, r :: rs, h, g => ⟨V.ref p, ps.map V.ref, rfl, g 0 p r rfl rfl, rows_dats (Nat.succ.inj h) fun k q ds h1 h2 => g (k + 1) q ds h1 h2⟩
/-- what an expression reads, its own lists for once shared -/
theorem RepS.rp (r : RepS K T O W σ env H) (vs : List Nat) : Ok T (frzW σ env vs W ++ O) H ∧ Rp K T (frzW σ env vs W ++ O) σ env H vs := by
  refine ⟨⟨r.ok.tape, fun a ha => List.mem_append_right _ (r.ok.sub a ha), fun a ha => (List.mem_append.mp ha).elim (fun z => r.wl a (frzW_sub a z)) (r.ok.live a)⟩, ⟨fun i hi d e => ?_⟩⟩
  unfold rdv at e
  cases h : env[i]? with
  | none => rw [h] at e; cases e
  | some s =>
    rw [h] at e
    cases s with
    | no => cases e
    | sh d' =>
      cases e
      obtain ⟨v, h1, h2⟩ := r.sh i d h
      exact ⟨v, h1, h2.le res_frz⟩
    | ow d' =>
      cases e
      obtain ⟨ds, p, xs, rfl, h2, h3, h4, h5, h6⟩ := r.ow i d h
      refine ⟨.ref p, h2, p, xs, rfl, res_of (fun z => ?_) h4, h5, h6.le res_frz⟩
      rcases List.mem_append.mp z with z | z
      · exact frzW_no z (mem_cell hi h h2)
      · exact r.nt p h3 z
    | nw rows as =>
      cases e
      obtain ⟨p, ps, n⟩ := r.nw i rows as h
      have out : ∀ a ∈ as, a ∉ frzW σ env vs W ++ O := fun a ha z => by
        rcases List.mem_append.mp z with z | z
        · exact frzW_no z (mem_cellN hi h ha)
        · exact r.nt a (n.mem a ha) z
      have ia : ∀ q ∈ ps, q ∈ as := fun q hq => by rw [n.eq]; exact List.mem_cons_of_mem _ hq
      refine ⟨.ref p, n.val, p, ps.map V.ref, rfl, res_of (out p (by rw [n.eq]; exact List.mem_cons_self)) n.top, by rw [List.length_map]; exact n.size, ?_⟩
      refine rows_dats n.len fun k q ds h1 h2 => ?_
      obtain ⟨xs, a, b, c⟩ := n.row k q ds h1 h2
      exact ⟨q, xs, rfl, res_of (out q (ia q (List.mem_of_getElem? h1))) a, b, c.le res_frz⟩
theorem RepS.frz (r : RepS K T O W σ env H) (vs : List Nat) : RepS K T O (frzW σ env vs W) σ (frz env vs) H := by
  have key : ∀ (i : Nat) (d : D), (DL.frz env vs)[i]? = some (Sl.ow d) → i ∉ vs ∧ env[i]? = some (Sl.ow d) := fun i d h => by
    rw [frz_map] at h
    by_cases hi : i ∈ vs
    · rw [if_pos hi] at h
      cases q : env[i]? with
      | none => rw [q] at h; cases h
      | some s => rw [q] at h; cases s <;> cases h
    · rw [if_neg hi] at h
      exact ⟨hi, h⟩
  have keyN : ∀ (i : Nat) (rows : List (List D)) (as : List Addr), (DL.frz env vs)[i]? = some (Sl.nw rows as) → i ∉ vs ∧ env[i]? = some (Sl.nw rows as) := fun i rows as h => by
    rw [frz_map] at h
    by_cases hi : i ∈ vs
    · rw [if_pos hi] at h
      cases q : env[i]? with
      | none => rw [q] at h; cases h
      | some s => rw [q] at h; cases s <;> cases h
    · rw [if_neg hi] at h
      exact ⟨hi, h⟩
  refine ⟨r.ok, fun a ha => r.wl a (frzW_sub a ha), fun a ha => r.nt a (frzW_sub a ha), by rw [frz_length]; exact r.len, fun i d h => ?_, fun i d h => ?_, fun i j d e p h1 h2 h3 h4 => r.inj i j d e p (key i d h1).2 (key j e h2).2 h3 h4, fun i rows as h => ?_,
    fun i j a b as bs x h1 h2 h3 h4 => r.nn i j a b as bs x (keyN _ _ _ h1).2 (keyN _ _ _ h2).2 h3 h4, fun i j a as d p h1 h2 h3 => r.nx i j a as d p (keyN _ _ _ h1).2 (key _ _ h2).2 h3⟩
  · rw [frz_map] at h
    by_cases hi : i ∈ vs
    · rw [if_pos hi] at h
      refine (r.rp vs).2.at_ i hi d ?_
      unfold rdv
      cases q : env[i]? with
      | none => rw [q] at h; cases h
      | some s =>
        rw [q] at h
        cases s <;> cases h <;> rfl
    · rw [if_neg hi] at h
      obtain ⟨v, h1, h2⟩ := r.sh i d h
      exact ⟨v, h1, h2.le res_frz⟩
  · obtain ⟨hi, h⟩ := key i d h
    obtain ⟨ds, p, xs, h1, h2, h3, h4, h5, h6⟩ := r.ow i d h
    refine ⟨ds, p, xs, h1, h2, frzW_of h3 fun z => ?_, h4, h5, h6.le res_frz⟩
    obtain ⟨j, hj, ⟨e, a1, a2⟩ | ⟨rows, as, a1, a2⟩⟩ := cell_mem z
    · have := r.inj i j d e p h a1 h2 a2
      subst this
      exact hi hj
    · exact r.nx j i rows as d p a1 h h2 a2
  · obtain ⟨hi, h⟩ := keyN i rows as h
    obtain ⟨p, ps, n⟩ := r.nw i rows as h
    refine ⟨p, ps, n.move rfl (fun a ha => frzW_of (n.mem a ha) fun z => ?_) (fun _ _ _ g => g) res_frz⟩
    obtain ⟨j, hj, ⟨e, a1, a2⟩ | ⟨rows', bs, a1, a2⟩⟩ := cell_mem z
    · exact r.nx i j rows as e a h a1 a2 ha
    · have := r.nn i j rows rows' as bs a h a1 ha a2
      subst this
      exact hi hj
theorem Frm.frz {vs : List Nat} : Frm T H W H (frzW σ env vs W) := ⟨fun b o h _ _ => h, fun b _ n z => n (frzW_sub b z), fun b h => h⟩
/-- what stays own behind an expression -/
def aftW (σ : L2.St) (env : DEnv) (e : E) (d : D) (W : List Addr) : List Addr := if keeps e d then W else frzW σ env e.vars W
theorem RepS.aft (r : RepS K T O W σ env H) (e : E) (d : D) : RepS K T O (aftW σ env e d W) σ (aft e d env) H ∧ Frm T H W H (aftW σ env e d W) := by
  unfold DL.aft aftW
  cases keeps e d with
  | true => exact ⟨r, Frm.refl⟩
  | false => exact ⟨r.frz _, Frm.frz⟩
theorem RepS.wide (r : RepS K T O W σ env H) (vs : List Nat) (e : Ext T H H1) : ∀ b ∈ W ++ O, b ∈ frzW σ env vs W ++ O ∨ ∃ ys, H1 b = some (.lst ys) := fun b hb => by
  rcases List.mem_append.mp hb with hb | hb
  · by_cases hc : b ∈ cells σ env vs
    · obtain ⟨i, _, ⟨d, h1, h2⟩ | ⟨rows, as, h1, h2⟩⟩ := cell_mem hc
      rotate_left
      · obtain ⟨p, ps, n⟩ := r.nw i rows as h1
        obtain ⟨xs, g⟩ := n.has h2
        exact .inr ⟨xs, e _ _ g (r.ntT _ (n.mem b h2))⟩
      obtain ⟨ds, p, xs, _, q2, q3, q4, _⟩ := r.ow i d h1
      rw [h2] at q2
      cases q2
      exact .inr ⟨xs, e _ _ q4 (r.ntT _ q3)⟩
    · exact .inl (List.mem_append_left _ (frzW_of hb hc))
  · exact .inl (List.mem_append_right _ hb)
theorem RepS.wider (r : RepS K T O W σ env H) (vs : List Nat) : Wider (frzW σ env vs W ++ O) (W ++ O) H := r.wide vs Ext.refl
/-- the value behind an expression -/
theorem RepS.val (r : RepS K T O W σ env H) {e : E} {d : D} {v : V} (ex : Ext T H H1) (hd : Dat K T (res H1 (frzW σ env e.vars W ++ O)) d v) (hf : e.fresh = true → Fresh K T (frzW σ env e.vars W ++ O) H H1 d v) :
    Dat K T (res H1 (aftW σ env e d W ++ O)) d v ∧ (e.fresh = true → Fresh K T (aftW σ env e d W ++ O) H H1 d v) := by
  unfold aftW
  cases hk : keeps e d with
  | false => exact ⟨hd, hf⟩
  | true =>
    rw [if_pos rfl]
    unfold keeps at hk
    rw [Bool.or_eq_true] at hk
    have w := r.wide e.vars ex
    rcases hk with hk | hk
    · refine ⟨dat_wide w d v hk hd, fun z ds q => ?_⟩
      subst q
      simp [noMut] at hk
    · cases d with
      | lst ds =>
        simp only [Bool.and_eq_true] at hk
        obtain ⟨p, xs, rfl, n, g, z, hs⟩ := hf hk.1 ds rfl
        have hs2 : Dats K T (res H1 (p :: (W ++ O))) ds xs := by
          refine dats_wide (O := p :: (frzW σ env e.vars W ++ O)) (fun b hb => ?_) ds xs hk.2 hs
          rcases List.mem_cons.mp hb with rfl | hb
          · exact .inl List.mem_cons_self
          · rcases w b hb with w | w
            · exact .inl (List.mem_cons_of_mem _ w)
            · exact .inr w
        have np : p ∉ W ++ O := r.okW.new n
        refine ⟨⟨p, xs, rfl, res_of np g, z, hs2.le fun b o q => ?_⟩, fun _ ds' q => ?_⟩
        · obtain ⟨nb, q⟩ := res_some q
          exact res_of (fun z => nb (List.mem_cons_of_mem _ z)) q
        · cases q
          exact ⟨p, xs, rfl, n, g, z, hs2⟩
      | _ => cases hk
/-- a value gets a name -/
theorem RepS.put (r : RepS K T O W σ env H) {e : E} {d : D} {v : V} {i : Nat} (ex : Ext T H H1) (t : T.ok H1) (hd : Dat K T (res H1 (W ++ O)) d v) (hf : e.fresh = true → Fresh K T (W ++ O) H H1 d v) (hi : i < σ.length) :
    ∃ W', RepS K T O W' (σ.set i (some v)) (env.set i (newSl e d)) H1 ∧ Frm T H W H1 W' := by
  have plain : RepS K T O W (σ.set i (some v)) (env.set i (.sh d)) H1 ∧ Frm T H W H1 W := ⟨(r.ext ex t).setSh hd hi, Frm.ext ex t⟩
  unfold newSl
  cases d with
  | lst ds =>
    cases hfr : e.fresh with
    | false => exact ⟨W, plain⟩
    | true =>
      obtain ⟨p, xs, rfl, n, g, z, hs⟩ := hf hfr ds rfl
      have r2 := r.new ex t n g
      refine ⟨p :: W, r2.setOw List.mem_cons_self (fun j d' hj hs' => ?_) (fun j rows as hj ha => ?_) g z hs hi, fun b o hb _ nt => ex b o hb nt, fun b hb nb z => ?_, fun b hb => ex.live t hb⟩
      · obtain ⟨ds', p', xs', _, q2, q3, q4, _⟩ := r.ow j d' hj
        rw [hs'] at q2
        cases q2
        rw [n] at q4
        cases q4
      · obtain ⟨p', ps, m⟩ := r.nw j rows as hj
        obtain ⟨xs', g'⟩ := m.has ha
        rw [n] at g'
        cases g'
      · rcases List.mem_cons.mp z with rfl | z
        · exact hb n
        · exact nb z
  | _ => exact ⟨W, plain⟩
end
end DL

set_option Elab.async false
set_option linter.all false
set_option maxRecDepth 100000
set_option maxHeartbeats 2000000
/-! DL15: statements: the look (matchS), what they do (liftS). -/
namespace DL
open PySem PySem.Spec PyProof.Rows L2

def storeB (c : Ctx) (i : Nat) (x : Str) : Bool := decide (c.N[i]? = some x) && locB c.sc x && (c.fn x || decide (c.sc.names.lookup x = some .local))
def notTup : Expr → Bool
  | .Tuple _ _ _ => false
  | _ => true
def varB (c : Ctx) (i : Nat) (x : Str) : Bool := decide (c.N[i]? = some x) && visB c.sc x && (decide (x ≠ ("__debug__" : Str)) && decide (x ≠ ("__classdict__" : Str)))
/-! views of statements -/
def vAsg : Stmt → Option (Str × Pos × Expr × Pos)
  | .Assign [.Name x py] v pos => some (x, py, v, pos)
  | _ => none
def vAsg2 : Stmt → Option ((Str × Pos × Str × Pos) × (Nat × Pos) × (Expr × Expr) × (Nat × Pos × Pos))
  | .Assign [.Tuple [.Name x px, .Name y py] k p] (.Tuple [u, v] k2 p2) pos => some ((x, px, y, py), (k, p), (u, v), (k2, p2, pos))
  | _ => none
def vAsgT : Stmt → Option (List Expr × Nat × Pos × Expr × Pos)
  | .Assign [.Tuple ts k p] v pos => some (ts, k, p, v, pos)
  | _ => none
/-- x.m(y) -/
def vM1 : Expr → Option (Str × Pos × Str × Pos × Expr × Pos)
  | .Call (.Attribute (.Name x px) m ap) [y] [] cp => some (x, px, m, ap, y, cp)
  | _ => none
/-- x.m() -/
def vM0 : Expr → Option (Str × Pos × Str × Pos × Pos)
  | .Call (.Attribute (.Name x px) m ap) [] [] cp => some (x, px, m, ap, cp)
  | _ => none
def vExpr : Stmt → Option (Expr × Pos)
  | .Expr e pos => some (e, pos)
  | _ => none
def vSet : Stmt → Option (Str × Pos × Expr × Pos × Expr × Pos)
  | .Assign [.Subscript (.Name x px) y p] v pos => some (x, px, y, p, v, pos)
  | _ => none
theorem vAsg_eq {st : Stmt} {x py v pos} (h : vAsg st = some (x, py, v, pos)) : st = .Assign [.Name x py] v pos := by
  unfold vAsg at h
  split at h
  · cases h; rfl
  · cases h
theorem vAsg2_eq {st : Stmt} {x px y py k p u v k2 p2 pos} (h : vAsg2 st = some ((x, px, y, py), (k, p), (u, v), (k2, p2, pos))) : st = .Assign [.Tuple [.Name x px, .Name y py] k p] (.Tuple [u, v] k2 p2) pos := by
  unfold vAsg2 at h
  split at h
  · cases h; rfl
  · cases h
theorem vAsgT_eq {st : Stmt} {ts k p v pos} (h : vAsgT st = some (ts, k, p, v, pos)) : st = .Assign [.Tuple ts k p] v pos := by
  unfold vAsgT at h
  split at h
  · cases h; rfl
  · cases h
theorem vM1_eq {st : Expr} {x px m ap y cp} (h : vM1 st = some (x, px, m, ap, y, cp)) : st = .Call (.Attribute (.Name x px) m ap) [y] [] cp := by
  unfold vM1 at h
  split at h
  · cases h; rfl
  · cases h
theorem vM0_eq {st : Expr} {x px m ap cp} (h : vM0 st = some (x, px, m, ap, cp)) : st = .Call (.Attribute (.Name x px) m ap) [] [] cp := by
  unfold vM0 at h
  split at h
  · cases h; rfl
  · cases h
theorem vExpr_eq {st : Stmt} {e pos} (h : vExpr st = some (e, pos)) : st = .Expr e pos := by
  unfold vExpr at h
  split at h
  · cases h; rfl
  · cases h
theorem vSet_eq {st : Stmt} {x px y p v pos} (h : vSet st = some (x, px, y, p, v, pos)) : st = .Assign [.Subscript (.Name x px) y p] v pos := by
  unfold vSet at h
  split at h
  · cases h; rfl
  · cases h
def m1B (c : Ctx) (i : Nat) (nm : Str) : Option (Str × Pos × Str × Pos × Expr × Pos) → Bool
  | some (x, _, m, ap, y, cp) => decide (m = nm) && varB c i x && notStar y && (ap.endLine == cp.line)
  | none => false
def m0B (c : Ctx) (i : Nat) (nm : Str) : Option (Str × Pos × Str × Pos × Pos) → Bool
  | some (x, _, m, ap, cp) => decide (m = nm) && varB c i x && (ap.endLine == cp.line)
  | none => false
mutual
def matchS (c : Ctx) : S → Stmt → Bool
  | .nil, _ => false
  | .cons _ _, _ => false
  | .pass, st => match st with
    | .Pass _ => true
    | _ => false
  | .brk, st => match st with
    | .Break _ => true
    | _ => false
  | .cont, st => match st with
    | .Continue _ => true
    | _ => false
  | .asg i e, st => match vAsg st with
    | some (x, _, v, _) => storeB c i x && matchE c false e v
    | none => false
  | .asg2 i j a b, st => match vAsg2 st with
    | some ((x, px, y, py), _, (u, v), _) => decide (c.N[i]? = some x) && decide (c.N[j]? = some y) && decide (i ≠ j) && decide (x ≠ y) && decide (c.sc.names.lookup x = some .local) && decide (c.sc.names.lookup y = some .local) &&
      (py.line == px.line) && notStar u && notStar v && !(foldedForSure 8 u && foldedForSure 8 v) && !(constantsAlone 8 u && constantsAlone 8 v) && matchE c false a u && matchE c false b v
    | none => false
  | .asgT tg e, st => match vAsgT st with
    | some (ts, k, p, v, _) => matchT c tg (.Tuple ts k p) && notTup v && matchE c false e v
    | none => false
  | .app i e, st => match vExpr st with
    | some (x, _) => match vM1 x with
      | some (a, b, m, d, y, f) => m1B c i "append" (some (a, b, m, d, y, f)) && matchE c false e y
      | none => false
    | none => false
  | .ext i e, st => match vExpr st with
    | some (x, _) => match vM1 x with
      | some (a, b, m, d, y, f) => m1B c i "extend" (some (a, b, m, d, y, f)) && matchE c false e y
      | none => false
    | none => false
  | .pop i, st => match vExpr st with
    | some (x, _) => m0B c i "pop" (vM0 x)
    | none => false
  | .popA j i, st => match vAsg st with
    | some (x, _, v, _) => storeB c j x && m0B c i "pop" (vM0 v)
    | none => false
  | .popAt i e, st => match vExpr st with
    | some (x, _) => match vM1 x with
      | some (a, b, m, d, y, f) => m1B c i "pop" (some (a, b, m, d, y, f)) && matchE c false e y
      | none => false
    | none => false
  | .setI i k e, st => match vSet st with
    | some (x, _, y, _, v, _) => varB c i x && notSlice y && matchE c false k y && matchE c false e v
    | none => false
  | .ret e, st => match st with
    | .Return (some x) _ => matchE c false e x
    | _ => false
  | .retN, st => match st with
    | .Return none _ => true
    | _ => false
  | .iff t a b, st => match st with
    | .If x as bs _ => matchE c false t x && matchSs c a as && matchSs c b bs
    | _ => false
  | .for_ tg it body, st => match st with
    | .For x y bs [] _ => matchT c tg x && notSet y && matchE c true it y && matchSs c body bs
    | _ => false
  | .whl t body, st => match st with
    | .While x bs [] _ => matchE c false t x && matchSs c body bs
    | _ => false
  | .expr _, _ => false
  | .never, _ => true
  | .raw l _, st => l c st
def matchSs (c : Ctx) : S → List Stmt → Bool
  | .nil, xs => match xs with
    | [] => true
    | _ => false
  | .cons s r, xs => match xs with
    | x :: xs => matchS c s x && matchSs c r xs
    | _ => false
  | .pass, _ => false | .brk, _ => false | .cont, _ => false | .asg _ _, _ => false | .asg2 _ _ _ _, _ => false | .asgT _ _, _ => false | .app _ _, _ => false | .ext _ _, _ => false | .pop _, _ => false | .popA _ _, _ => false
  | .popAt _ _, _ => false | .setI _ _ _, _ => false | .ret _, _ => false | .retN, _ => false | .iff _ _ _, _ => false | .for_ _ _ _, _ => false | .whl _ _, _ => false | .expr _, _ => false | .never, _ => false | .raw _ _, _ => false
end
/-! ### what a statement does -/
def endsOf (K : PySem.W.Frag) (T : Tape) (O W : List Addr) (n : Nat) (H : Hp) (D : Ends) : DEnds where
  nx := fun env' => ∀ σ' H' W', RepS K T O W' σ' env' H' → σ'.length = n → Frm T H W H' W' → D.nx σ' H'
  rt := fun d => ∀ v H', (∀ b o, H b = some o → b ∉ W → b ∉ T.own → H' b = some o) → T.ok H' → Dat K T (res H' O) d v → D.rt v H'
  bk := fun env' => ∀ σ' H' W', RepS K T O W' σ' env' H' → σ'.length = n → Frm T H W H' W' → D.bk σ' H'
  ct := fun env' => ∀ σ' H' W', RepS K T O W' σ' env' H' → σ'.length = n → Frm T H W H' W' → D.ct σ' H'
def liftS (K : PySem.W.Frag) (n : Nat) (s : S) : TS := fun D σ H => ∃ (T : Tape) (O W : List Addr) (env : DEnv), RepS K T O W σ env H ∧ σ.length = n ∧ semS s (endsOf K T O W n H D) env
def NeedS (g : Gx) : S → Prop
  | .nil => True | .cons s r => NeedS g s ∧ NeedS g r
  | .pass => True | .brk => True | .cont => True
  | .asg _ e => Need g e
  | .asg2 _ _ a b => Need g a ∧ Need g b
  | .asgT _ e => Need g e
  | .app _ e => Need g e
  | .ext _ e => Need g e
  | .pop _ => True | .popA _ _ => True
  | .popAt _ e => Need g e
  | .setI _ k e => Need g k ∧ Need g e
  | .ret e => Need g e | .retN => True
  | .iff c a b => Need g c ∧ NeedS g a ∧ NeedS g b
  | .for_ _ it body => Need g it ∧ NeedS g body
  | .whl c body => Need g c ∧ NeedS g body
  | .expr e => Need g e
  | .never => True
  | .raw l s => ∀ (X : Cx) (c : Ctx) (st : Stmt), gxOf X = g → XOk X c → PassesOwn (model X.prog X.w) X.A X.env X.xe → X.env.scope.kind = .function → l c st = true → PS X st (liftS g.K c.N.length (.raw l s))
theorem PS.imp {X : Cx} {st : Stmt} {t t' : TS} (h : PS X st t) (i : ∀ D σ H, t' D σ H → t D σ H) : PS X st t' := ⟨fun pins s σ H D I q => h.run pins s σ H D I (i D σ H q)⟩
theorem PSs.imp {X : Cx} {st : List Stmt} {t t' : TS} (h : PSs X st t) (i : ∀ D σ H, t' D σ H → t D σ H) : PSs X st t' := ⟨fun pins s σ H D I q => h.run pins s σ H D I (i D σ H q)⟩
section
variable {K : PySem.W.Frag} {T : Tape} {O W W1 : List Addr} {σ : L2.St} {env : DEnv} {H H1 : Hp} {n : Nat} {D : Ends}
theorem ends_le (f : Frm T H W H1 W1) : (endsOf K T O W n H D).le (endsOf K T O W1 n H1 D) :=
  ⟨fun e h σ' H' W' r l g => h σ' H' W' r l (f.trans g), fun d h v H' k t hd => h v H' (fun b o q n1 n2 => k b o (f.keep b o q n1 n2) (f.noW b (by rw [q]; exact fun z => nomatch z) n1) n2) t hd,
    fun e h σ' H' W' r l g => h σ' H' W' r l (f.trans g), fun e h σ' H' W' r l g => h σ' H' W' r l (f.trans g)⟩
theorem RepS.eval {e : E} {P : DL.D → Prop} {R : VK} (r : RepS K T O W σ env H) (hm : e.monos) (h : semE e env P)
    (c : ∀ d v H1, Ext T H H1 → T.ok H1 → Dat K T (res H1 (aftW σ env e d W ++ O)) d v → (e.fresh = true → Fresh K T (aftW σ env e d W ++ O) H H1 d v) → P d → R v H1) : liftE K e σ H R := by
  obtain ⟨k, rp⟩ := r.rp e.vars
  refine ⟨T, env, _, k, rp, (sem_mono e hm).1 _ _ _ h fun d hp v H1 ex t hd hf => ?_⟩
  obtain ⟨h1, h2⟩ := r.val ex hd hf
  exact c d v H1 ex t h1 h2 hp
theorem RepS.test {e : E} {P : DL.D → Prop} {R : Bool → Hp → Prop} (r : RepS K T O W σ env H) (hm : e.monos) (h : semE e env P) (c : ∀ d, P d → ∃ b, d = .bl b ∧ ∀ H1, Ext T H H1 → T.ok H1 → R b H1) : liftT K e σ H R := by
  obtain ⟨k, rp⟩ := r.rp e.vars
  exact liftB hm k rp h fun d hp => by
    obtain ⟨b, e, q⟩ := c d hp
    exact ⟨b, e, fun H1 ex k1 => q H1 ex k1.tape⟩
theorem asg_read {i : Nat} {e : E} (hm : e.monos) (hi : i < n) (h : liftS K n (.asg i e) D σ H) : tAsg (liftE K e) (gName i) D σ H := by
  obtain ⟨T, O, W, env, r, l, h⟩ := h
  refine r.eval hm h fun d v H1 ex t hd hf hp => ?_
  obtain ⟨r2, f2⟩ := r.aft e d
  obtain ⟨W', r3, f3⟩ := r2.put (i := i) ex t hd hf (by rw [l]; exact hi)
  exact hp _ _ W' r3 (by rw [List.length_set]; exact l) (f2.trans f3)
theorem ret_read {e : E} (hm : e.monos) (h : liftS K n (.ret e) D σ H) : tRet (liftE K e) D σ H := by
  obtain ⟨T, O, W, env, r, l, h⟩ := h
  refine r.eval hm h fun d v H1 ex t hd hf hp => ?_
  exact hp v H1 (fun b o q _ nt => ex b o q nt) t (hd.le fun b o q => by
    obtain ⟨nb, q⟩ := res_some q
    exact res_of (fun z => nb (List.mem_append_right _ z)) q)
theorem seq_read {s r : S} (hs : s.monos) (hr : r.monos) (h : liftS K n (.cons s r) D σ H) : tSeq (liftS K n s) (liftS K n r) D σ H := by
  obtain ⟨T, O, W, env, rp, l, h⟩ := h
  refine ⟨T, O, W, env, rp, l, semS_mono s hs { endsOf K T O W n H D with nx := semS r (endsOf K T O W n H D) } (endsOf K T O W n H { D with nx := liftS K n r D }) ⟨fun e h σ' H' W' r' l' f => ⟨T, O, W', e, r', l', semS_mono r hr _ _ (ends_le f) e h⟩, fun d h => h, fun e h => h, fun e h => h⟩ env h⟩
theorem if_read {c : E} {a b : S} (hc : c.monos) (ha : a.monos) (hb : b.monos) (h : liftS K n (.iff c a b) D σ H) : tIfS (liftT K c) (liftS K n a) (liftS K n b) D σ H := by
  obtain ⟨T, O, W, env, r, l, h⟩ := h
  refine r.test hc h fun d hp => ?_
  cases d with
  | bl x =>
    refine ⟨x, rfl, fun H1 ex t => ?_⟩
    cases x with
    | true =>
      rw [if_pos rfl]
      exact ⟨T, O, W, env, r.ext ex t, l, semS_mono a ha _ _ (ends_le (Frm.ext ex t)) _ hp⟩
    | false =>
      rw [if_neg Bool.false_ne_true]
      exact ⟨T, O, W, env, r.ext ex t, l, semS_mono b hb _ _ (ends_le (Frm.ext ex t)) _ hp⟩
  | _ => exact hp.elim
theorem while_read {c : E} {body : S} (hc : c.monos) (hb : body.monos) (h : liftS K n (.whl c body) D σ H) : tWhile (liftT K c) (liftS K n body) D σ H := by
  obtain ⟨T, O, W, env, r, l, m, h⟩ := h
  refine ⟨fun m σ2 H2 => ∃ W2 env2, RepS K T O W2 σ2 env2 H2 ∧ σ2.length = n ∧ Frm T H W H2 W2 ∧ whlD (semE c) (semS body) (endsOf K T O W n H D) m env2, ⟨m, W, env, r, l, Frm.refl, h⟩, ?_⟩
  rintro m σ2 H2 ⟨W2, env2, r2, l2, f2, h⟩
  cases m with
  | zero => exact h.elim
  | succ m =>
    refine r2.test hc h fun d hp => ?_
    cases d with
    | bl x =>
      refine ⟨x, rfl, fun H1 ex t => ?_⟩
      cases x with
      | true =>
        rw [if_pos rfl]
        refine ⟨fun σ2 H2 => ∃ W2 env2, RepS K T O W2 σ2 env2 H2 ∧ σ2.length = n ∧ Frm T H W H2 W2 ∧ whlD (semE c) (semS body) (endsOf K T O W n H D) m env2, fun σ' H' q => ⟨m, Nat.lt_succ_self m, q⟩, T, O, W2, env2, r2.ext ex t, l2, ?_⟩
        have f3 := f2.trans (Frm.ext (W := W2) ex t)
        have le := ends_le (K := K) (O := O) (n := n) (D := D) f3
        exact semS_mono body hb { nx := whlD (semE c) (semS body) (endsOf K T O W n H D) m, rt := (endsOf K T O W n H D).rt, bk := (endsOf K T O W n H D).nx, ct := whlD (semE c) (semS body) (endsOf K T O W n H D) m }
          (endsOf K T O W2 n H1 { D with
            nx := fun σ2 H2 => ∃ W2 env2, RepS K T O W2 σ2 env2 H2 ∧ σ2.length = n ∧ Frm T H W H2 W2 ∧ whlD (semE c) (semS body) (endsOf K T O W n H D) m env2
            ct := fun σ2 H2 => ∃ W2 env2, RepS K T O W2 σ2 env2 H2 ∧ σ2.length = n ∧ Frm T H W H2 W2 ∧ whlD (semE c) (semS body) (endsOf K T O W n H D) m env2
            bk := D.nx })
          ⟨fun e h σ' H' W' r' l' f => ⟨W', e, r', l', f3.trans f, h⟩, le.rt, le.nx, fun e h σ' H' W' r' l' f => ⟨W', e, r', l', f3.trans f, h⟩⟩ _ hp
      | false =>
        rw [if_neg Bool.false_ne_true]
        exact hp σ2 H1 W2 (r2.ext ex t) l2 (f2.trans (Frm.ext ex t))
    | _ => exact hp.elim
theorem GInv.rs {K : PySem.W.Frag} {T : Tape} {O W : List Addr} {H : Hp} : GInv K T (W ++ O) H fun σ env => RepS K T O W σ env H := fun σ env i d v r hd hi => r.setSh hd hi
theorem for_read {tg it : E} {body : S} (hi : it.monos) (hb : body.monos) (h : liftS K n (.for_ tg it body) D σ H) : tFor (liftI K it) (liftG K n tg) (liftS K n body) D σ H := by
  obtain ⟨T, O, W, env, r, l, h⟩ := h
  obtain ⟨k, rp⟩ := r.rp it.vars
  refine ⟨T, env, _, k, rp, (sem_mono it hi).1 _ _ _ h fun w hw => dItems_mono hw fun items hw J H1 ex t wk1 wk2 => ?_⟩
  obtain ⟨r2, f2⟩ := r.aft it w
  have wk : WalkD K T (aftW σ env it w W ++ O) H1 items J := by
    unfold aftW
    cases hk : keeps it w with
    | false => exact wk1
    | true => exact wk2 hk _ (r.wider it.vars) r.okW.sub
  generalize aftW σ env it w W = W1 at r2 f2 wk
  have r3 := r2.ext ex t
  have f3 := f2.trans (Frm.ext (W := W1) ex t)
  obtain ⟨wz, wk⟩ := wk
  refine ⟨fun i m σ2 H2 => ∃ W2 env2, i + m = items.length ∧ RepS K T O W2 σ2 env2 H2 ∧ σ2.length = n ∧ Frm T H1 W1 H2 W2 ∧ forD (fun e1 d => bindT e1 tg d) (semS body) (endsOf K T O W n H D) (items.drop i) env2,
    ⟨items.length, W1, aft it w env, by omega, r3, l, Frm.refl, hw⟩, ?_⟩
  rintro i m σ2 H2 ⟨W2, env2, him, rr, l2, f4, hq⟩
  have lw : Le (res H1 (W1 ++ O)) (res H2 (W1 ++ O)) := fun b o q => by
    obtain ⟨nb, q⟩ := res_some q
    exact res_of nb (f4.keep b o q (fun z => nb (List.mem_append_left _ z)) fun z => nb (List.mem_append_right _ (r.ok.sub b z)))
  have lw2 : Le (res H1 (W1 ++ O)) (res H2 (W2 ++ O)) := fun b o q => by
    obtain ⟨nb, q⟩ := res_some q
    have n1 : b ∉ W1 := fun z => nb (List.mem_append_left _ z)
    have n2 : b ∉ O := fun z => nb (List.mem_append_right _ z)
    refine res_of (fun z => ?_) (f4.keep b o q n1 fun z => n2 (r.ok.sub b z))
    rcases List.mem_append.mp z with z | z
    · exact f4.noW b (by rw [q]; exact fun z => nomatch z) n1 z
    · exact n2 z
  by_cases hlt : i < items.length
  · obtain ⟨g, y⟩ := (wk H2 lw).1 i hlt
    refine .inr ⟨g, fun σ3 H3 => ∃ W3 env3, RepS K T O W3 σ3 env3 H3 ∧ σ3.length = n ∧ Frm T H1 W1 H3 W3 ∧ forD (fun e1 d => bindT e1 tg d) (semS body) (endsOf K T O W n H D) (items.drop (i + 1)) env3,
      fun σ3 H3 ⟨W3, env3, a, b, c, d⟩ => ⟨m - 1, by omega, W3, env3, by omega, a, b, c, d⟩, fun x H3 hy => ?_⟩
    obtain ⟨rfl, d, ed, hd⟩ := y x H3 hy
    have ed2 : items.drop i = d :: items.drop (i + 1) := by
      rw [List.drop_eq_getElem_cons hlt]
      rw [List.getElem?_eq_getElem hlt] at ed
      cases ed
      rfl
    rw [ed2] at hq
    refine ⟨T, W2 ++ O, env2, fun σ env => RepS K T O W2 σ env H3, d, GInv.rs, rr, hd.le lw2, l2, bindT_mono (show bindT env2 tg d _ from hq) fun e1 he σ' r' l' _ => ?_⟩
    have f5 := f3.trans f4
    have le := ends_le (K := K) (O := O) (n := n) (D := D) f5
    exact ⟨T, O, W2, e1, r', l', semS_mono body hb { nx := forD (fun e1 d => bindT e1 tg d) (semS body) (endsOf K T O W n H D) (items.drop (i + 1)), rt := (endsOf K T O W n H D).rt, bk := (endsOf K T O W n H D).nx, ct := forD (fun e1 d => bindT e1 tg d) (semS body) (endsOf K T O W n H D) (items.drop (i + 1)) }
      (endsOf K T O W2 n H3 { D with
        nx := fun σ3 H3 => ∃ W3 env3, RepS K T O W3 σ3 env3 H3 ∧ σ3.length = n ∧ Frm T H1 W1 H3 W3 ∧ forD (fun e1 d => bindT e1 tg d) (semS body) (endsOf K T O W n H D) (items.drop (i + 1)) env3
        ct := fun σ3 H3 => ∃ W3 env3, RepS K T O W3 σ3 env3 H3 ∧ σ3.length = n ∧ Frm T H1 W1 H3 W3 ∧ forD (fun e1 d => bindT e1 tg d) (semS body) (endsOf K T O W n H D) (items.drop (i + 1)) env3
        bk := D.nx })
      ⟨fun e h σ' H' W' r' l' f => ⟨W', e, r', l', f4.trans f, h⟩, le.rt, le.nx, fun e h σ' H' W' r' l' f => ⟨W', e, r', l', f4.trans f, h⟩⟩ _ he⟩
  · have ei : i = items.length := by omega
    subst ei
    refine .inl ⟨(wk H2 lw).2, ?_⟩
    rw [List.drop_length] at hq
    exact hq σ2 H2 W2 rr l2 (f3.trans f4)
end
end DL

set_option Elab.async false
set_option linter.all false
set_option maxRecDepth 100000
set_option maxHeartbeats 2000000
/-! DL16: statements that change lists; soundS; a def by its body. -/
namespace DL
open PySem PySem.Spec PyProof.Rows L2

section
variable {K : PySem.W.Frag} {T : Tape} {O W W1 : List Addr} {σ : L2.St} {env : DEnv} {H H1 : Hp} {n : Nat} {D : Ends}
theorem asgT_read {tg e : E} (hm : e.monos) (h : liftS K n (.asgT tg e) D σ H) : tAsg (liftE K e) (liftG K n tg) D σ H := by
  obtain ⟨T, O, W, env, r, l, h⟩ := h
  refine r.eval hm h fun d v H1 ex t hd hf hp => ?_
  obtain ⟨r2, f2⟩ := r.aft e d
  generalize aftW σ env e d W = W2 at r2 f2 hd
  exact ⟨T, _, _, fun σ env => RepS K T O W2 σ env H1, d, GInv.rs, r2.ext ex t, hd, l, bindT_mono hp fun e1 he σ' r' l' _ => he σ' H1 W2 r' l' (f2.trans (Frm.ext ex t))⟩
theorem own_get {i : Nat} {Q : List DL.D → Prop} (h : ownL env i Q) : ∃ ds, env[i]? = some (Sl.ow (.lst ds)) ∧ Q ds := by
  unfold ownL at h
  split at h
  · exact ⟨_, by assumption, h⟩
  · exact h.elim
theorem app_read {i : Nat} {e : E} (hm : e.monos) (h : liftS K n (.app i e) D σ H) : tDrop (tBM K "list" rAppend (tVar i) (tCons (liftE K e) tNil)) D σ H := by
  obtain ⟨T, O, W, env, r, l, h⟩ := h
  obtain ⟨ds0, he0, h⟩ := own_get h
  obtain ⟨ds, p, xs, e1, hs, hp, hx, hz, hd0⟩ := r.ow i _ he0
  refine ⟨.ref p, hs, .inl ⟨rfl, xs, SqL.of hx⟩, ?_⟩
  refine r.eval hm h fun d v H1 ex t hd hf hq => ?_
  obtain ⟨r2, f2⟩ := r.aft e d
  obtain ⟨ds2, he2, hlt, hq⟩ := own_get hq
  obtain ⟨ds3, p3, xs3, e3, hs3, hp3, hx3, hz3, hd3⟩ := (r2.ext ex t).ow i _ he2
  cases e3
  rw [hs] at hs3
  cases hs3
  have hl3 := hd3.length
  refine ⟨p, xs3, v, rfl, rfl, hx3, by rw [sizeLine_eq]; omega, ?_⟩
  obtain ⟨r4, f4⟩ := (r2.ext ex t).write (ds := ds2 ++ [d]) (xs := xs3 ++ [v]) he2 hs hp3 (by rw [List.length_append]; show xs3.length + 1 ≤ 16777216; omega) (hd3.append (Dats.one hd))
  exact hq σ _ _ r4 l ((f2.trans (Frm.ext ex t)).trans f4)
theorem ext_read {i : Nat} {e : E} (hm : e.monos) (h : liftS K n (.ext i e) D σ H) : tDrop (tBM K "list" rExtend (tVar i) (tCons (liftE K e) tNil)) D σ H := by
  obtain ⟨T, O, W, env, r, l, h⟩ := h
  obtain ⟨ds0, he0, h⟩ := own_get h
  obtain ⟨ds, p, xs, e1, hs, hp, hx, hz, hd0⟩ := r.ow i _ he0
  refine ⟨.ref p, hs, .inl ⟨rfl, xs, SqL.of hx⟩, ?_⟩
  obtain ⟨k, rp⟩ := r.rp e.vars
  refine ⟨T, env, _, k, rp, (sem_mono e hm).1 _ _ _ h fun d hq v H1 ex t hd hf => ?_⟩
  cases d with
  | lst es =>
    obtain ⟨q, ys, rfl, hy, hzy, hdy⟩ := dat_lst hd
    obtain ⟨r2, f2⟩ := r.aft e (.tup es)
    obtain ⟨ds2, he2, hlt, hq⟩ := own_get hq
    obtain ⟨ds3, p3, xs3, e3, hs3, hp3, hx3, hz3, hd3⟩ := (r2.ext ex t).ow i _ he2
    cases e3
    rw [hs] at hs3
    cases hs3
    have hl3 := hd3.length
    have hly := hdy.length
    have hdy2 : Dats K T (res H1 (aftW σ env e (.tup es) W ++ O)) es ys := by
      unfold aftW
      cases hk : keeps e (.tup es) with
      | false => exact hdy
      | true =>
        rw [if_pos rfl]
        simp only [keeps, noMut, Bool.or_false] at hk
        exact dats_wide (r.wide e.vars ex) _ _ hk hdy
    refine ⟨p, q, xs3, ys, rfl, rfl, hx3, res_le _ _ _ _ hy, by rw [sizeLine_eq]; omega, ?_⟩
    obtain ⟨r4, f4⟩ := (r2.ext ex t).write (ds := ds2 ++ es) (xs := xs3 ++ ys) he2 hs hp3 (by rw [List.length_append]; omega) (hd3.append hdy2)
    exact hq σ _ _ r4 l ((f2.trans (Frm.ext ex t)).trans f4)
  | _ => exact hq.elim
theorem pop_read {i : Nat} (h : liftS K n (.pop i) D σ H) : tDrop (tBM0 K "list" rPop (tVar i)) D σ H := by
  obtain ⟨T, O, W, env, r, l, h⟩ := h
  obtain ⟨ds0, he0, hne, h⟩ := own_get h
  obtain ⟨ds, p, xs, e1, hs, hp, hx, hz, hd0⟩ := r.ow i _ he0
  cases e1
  have hl := hd0.length
  have hpos : 0 < xs.length := by
    rw [hl]
    exact List.length_pos_iff.mpr hne
  refine ⟨.ref p, hs, .inl ⟨rfl, xs, SqL.of hx⟩, p, xs, xs[xs.length - 1], rfl, rfl, hx, List.getElem?_eq_getElem (by omega), ?_⟩
  obtain ⟨r4, f4⟩ := r.write (ds := ds0.dropLast) (xs := xs.dropLast) he0 hs hp (by rw [List.length_dropLast]; omega) hd0.dropLast
  exact h σ _ _ r4 l f4
theorem popA_read {j i : Nat} (hj : j < n) (h : liftS K n (.popA j i) D σ H) : tAsg (tBM0 K "list" rPop (tVar i)) (gName j) D σ H := by
  obtain ⟨T, O, W, env, r, l, h⟩ := h
  obtain ⟨ds0, he0, d, hd1, h⟩ := own_get h
  obtain ⟨ds, p, xs, e1, hs, hp, hx, hz, hd0⟩ := r.ow i _ he0
  cases e1
  have hl := hd0.length
  obtain ⟨v, hv, hdv⟩ := hd0.get hd1
  rw [← hl] at hv
  refine ⟨.ref p, hs, .inl ⟨rfl, xs, SqL.of hx⟩, p, xs, v, rfl, rfl, hx, hv, ?_⟩
  obtain ⟨r4, f4⟩ := r.write (ds := ds0.dropLast) (xs := xs.dropLast) he0 hs hp (by rw [List.length_dropLast]; omega) hd0.dropLast
  have hdv2 : Dat K T (res (upd H p (.lst xs.dropLast)) (W ++ O)) d v := hdv.le fun b o q => by
    obtain ⟨nb, q⟩ := res_some q
    exact res_of nb (by rw [upd_ne fun z => nb (by rw [z]; exact List.mem_append_left _ hp)]; exact q)
  exact h _ _ _ (r4.setSh hdv2 (by rw [l]; exact hj)) (by rw [List.length_set]; exact l) f4
theorem popAt_read {i : Nat} {e : E} (hm : e.monos) (h : liftS K n (.popAt i e) D σ H) : tDrop (tBM K "list" rPopAt (tVar i) (tCons (liftE K e) tNil)) D σ H := by
  obtain ⟨T, O, W, env, r, l, h⟩ := h
  obtain ⟨ds0, he0, h⟩ := own_get h
  obtain ⟨ds, p, xs, e1, hs, hp, hx, hz, hd0⟩ := r.ow i _ he0
  cases e1
  refine ⟨.ref p, hs, .inl ⟨rfl, xs, SqL.of hx⟩, ?_⟩
  refine r.eval hm h fun d v H1 ex t hd hf hq => ?_
  cases d with
  | int k =>
    obtain ⟨j, hj, hq⟩ := hq
    have hx1 := ex _ _ hx (r.ntT p hp)
    have hl := hd0.length
    rw [← hl] at hj
    obtain ⟨q1, q2, q3, q4⟩ := ixN_seq hj
    refine ⟨p, xs, k, j, xs[j], rfl, by rw [show v = V.int k from hd], hx1, by omega, by omega, q1, List.getElem?_eq_getElem q2, ?_⟩
    obtain ⟨r4, f4⟩ := (r.ext ex t).write (ds := ds0.eraseIdx j) (xs := xs.eraseIdx j) he0 hs hp (Nat.le_trans (len_erase _ _) hz) ((hd0.le (r.okW.res ex)).erase j)
    exact hq σ _ _ r4 l ((Frm.ext ex t).trans f4)
  | _ => exact hq.elim
theorem setI_read {i : Nat} {k e : E} (hk : k.monos) (hm : e.monos) (h : liftS K n (.setI i k e) D σ H) : tAsg (liftE K e) (gSub (tVar i) (liftE K k) rSetL) D σ H := by
  obtain ⟨T, O, W, env, r, l, h⟩ := h
  refine r.eval hm h fun d v H1 ex t hd hf hq => ?_
  obtain ⟨r2, f2⟩ := r.aft e d
  have r3 := r2.ext ex t
  obtain ⟨ds0, he0, hq⟩ := own_get hq
  obtain ⟨ds, p, xs, e1, hs, hp, hx, hz, hd0⟩ := r3.ow i _ he0
  cases e1
  refine ⟨.ref p, hs, ?_⟩
  generalize aftW σ env e d W = W2 at r2 f2 hd r3 hp hd0
  refine r3.eval hk hq fun x u H2 ex2 t2 hx2 _ hq => ?_
  cases x with
  | int m =>
    obtain ⟨j, hj, hq⟩ := hq
    have hl := hd0.length
    rw [← hl] at hj
    refine ⟨p, xs, m, j, rfl, hx2, ex2 _ _ hx (r3.ntT p hp), hj, ?_⟩
    obtain ⟨r4, f4⟩ := (r3.ext ex2 t2).write (ds := ds0.set j d) (xs := xs.set j v) he0 hs hp (by rw [List.length_set]; exact hz) (Dats.set (hd.le (r3.okW.res ex2)) j (hd0.le (r3.okW.res ex2)))
    exact hq σ _ _ r4 l (((f2.trans (Frm.ext ex t)).trans (Frm.ext ex2 t2)).trans f4)
  | _ => exact hq.elim
theorem aft_ow {e : E} {d d' : DL.D} {i : Nat} (h : (aft e d env)[i]? = some (Sl.ow d')) : env[i]? = some (Sl.ow d') := by
  unfold aft at h
  split at h
  · exact h
  · rw [frz_get] at h
    split at h
    · split at h
      · cases h
      · cases h
      · rename_i hn _
        exact absurd h (hn d')
    · exact h
theorem aft_nw {e : E} {d : DL.D} {i : Nat} {rows : List (List DL.D)} {as : List Addr} (h : (aft e d env)[i]? = some (Sl.nw rows as)) : env[i]? = some (Sl.nw rows as) := by
  unfold aft at h
  split at h
  · exact h
  · rw [frz_map] at h
    by_cases hi : i ∈ e.vars
    · rw [if_pos hi] at h
      cases q : env[i]? with
      | none => rw [q] at h; cases h
      | some s => rw [q] at h; cases s <;> cases h
    · rwa [if_neg hi] at h
theorem aftW_sub {e : E} {d : DL.D} : ∀ a ∈ aftW σ env e d W, a ∈ W := fun a ha => by
  unfold aftW at ha
  split at ha
  · exact ha
  · exact frzW_sub a ha
theorem res_sub {O1 O2 : List Addr} (h : ∀ a ∈ O2, a ∈ O1) : Le (res H O1) (res H O2) := fun b o q => by
  obtain ⟨nb, q⟩ := res_some q
  exact res_of (fun z => nb (h b z)) q
theorem asg2_read {i j : Nat} {a b : E} (ma : a.monos) (mb : b.monos) (hi : i < n) (hj : j < n) (hij : i ≠ j) (h : liftS K n (.asg2 i j a b) D σ H) : tPar i j (tCons (liftE K a) (tCons (liftE K b) tNil)) D σ H := by
  obtain ⟨T, O, W, env, r, l, h⟩ := h
  refine r.eval ma h fun x v H1 ex t hd hf h => ?_
  obtain ⟨r2, f2⟩ := r.aft a x
  generalize aftW σ env a x W = Wa at r2 f2 hd hf
  have hil : i < σ.length := by rw [l]; exact hi
  -- what is left, once the first one has its name
  have fin : ∀ (Wc : List Addr) (s : Sl), RepS K T O Wc σ (aft a x env) H1 → Frm T H W H1 Wc → newSl a x = s →
      (∀ y, RepS K T O (aftW σ (aft a x env) b y Wc) (σ.set i (some v)) ((aft b y (aft a x env)).set i s) H1) →
      liftE K b σ H1 fun w H2 => D.nx ((σ.set i (some v)).set j (some w)) H2 := fun Wc s rc fc es hc => by
    refine rc.eval mb h fun y w H2 ex2 t2 hd2 hf2 h => ?_
    have r5 := hc y
    obtain ⟨W', r6, f6⟩ := r5.put (i := j) ex2 t2 hd2 hf2 (by rw [List.length_set, l]; exact hj)
    have fb := (rc.aft b y).2
    rw [← es] at r6
    exact h _ _ W' r6 (by rw [List.length_set, List.length_set]; exact l) ((fc.trans fb).trans f6)
  have plain : newSl a x = .sh x → liftE K b σ H1 fun w H2 => D.nx ((σ.set i (some v)).set j (some w)) H2 := fun es =>
    fin Wa (.sh x) (r2.ext ex t) (f2.trans (Frm.ext ex t)) es fun y => by
      have r4 := ((r2.ext ex t).aft b y).1
      exact r4.setSh (hd.le (res_sub fun a ha => (List.mem_append.mp ha).elim (fun z => List.mem_append_left _ (aftW_sub a z)) (fun z => List.mem_append_right _ z))) hil
  have go : liftE K b σ H1 fun w H2 => D.nx ((σ.set i (some v)).set j (some w)) H2 := by
    cases x with
    | lst ds =>
      cases hfr : a.fresh with
      | false => exact plain (by simp [newSl, hfr])
      | true =>
        obtain ⟨p, xs, rfl, np, g, z, hs⟩ := hf hfr ds rfl
        have r3 := r2.new ex t np g
        have f3 : Frm T H Wa H1 (p :: Wa) := ⟨fun b o hb _ nt => ex b o hb nt, fun b hb nb z => (List.mem_cons.mp z).elim (fun z => hb (by rw [z]; exact np)) nb, fun b hb => ex.live t hb⟩
        refine fin (p :: Wa) (.ow (.lst ds)) r3 (f2.trans f3) (by simp [newSl, hfr]) fun y => ?_
        have r4 := (r3.aft b y).1
        have noname : ∀ (j : Nat) (d' : DL.D), (aft a (.lst ds) env)[j]? = some (Sl.ow d') → σ[j]? ≠ some (some (V.ref p)) := fun j d' hj hs' => by
          obtain ⟨ds', p', xs', _, q2, q3, q4, _⟩ := r2.ow j d' hj
          rw [hs'] at q2
          cases q2
          rw [np] at q4
          cases q4
        have noname2 : ∀ (j : Nat) (rows : List (List DL.D)) (as : List Addr), (aft a (.lst ds) env)[j]? = some (Sl.nw rows as) → p ∉ as := fun j rows as hj ha => by
          obtain ⟨p', ps, m⟩ := r2.nw j rows as hj
          obtain ⟨xs', g'⟩ := m.has ha
          rw [np] at g'
          cases g'
        have pin : p ∈ aftW σ (aft a (.lst ds) env) b y (p :: Wa) := by
          unfold aftW
          split
          · exact List.mem_cons_self
          · refine frzW_of List.mem_cons_self fun z => ?_
            obtain ⟨j, _, ⟨d', h1, h2⟩ | ⟨rows, as, h1, h2⟩⟩ := cell_mem z
            · exact noname j d' h1 h2
            · exact noname2 j rows as h1 h2
        exact r4.setOw pin (fun j d' h1 => noname j d' (aft_ow h1)) (fun j rows as h1 => noname2 j rows as (aft_nw h1)) g z (hs.le (res_sub fun a ha => by
          rcases List.mem_append.mp ha with ha | ha
          · have := aftW_sub a ha
            rcases List.mem_cons.mp this with q | q
            · exact List.mem_cons.mpr (.inl q)
            · exact List.mem_cons_of_mem _ (List.mem_append_left _ q)
          · exact List.mem_cons_of_mem _ (List.mem_append_right _ ha))) hil
    | _ => exact plain rfl
  obtain ⟨T', env', O', k', rp', q'⟩ := go
  exact ⟨T', env', O', k', rp', (sem_mono b mb).1 _ _ _ q' fun d hp w H2 e2 t2 hd2 hf2 => ⟨v, w, rfl, hp w H2 e2 t2 hd2 hf2⟩⟩
end
end DL

set_option Elab.async false
set_option linter.all false
set_option maxRecDepth 100000
set_option maxHeartbeats 2000000
/-! DL17: soundS: a statement that is looked at does what S means; a def by its body. -/
namespace DL
open PySem PySem.Spec PyProof.Rows L2

def SoundS (s : S) : Prop :=
  (∀ (X : Cx) (c : Ctx) (st : Stmt), XOk X c → PassesOwn (model X.prog X.w) X.A X.env X.xe → X.env.scope.kind = .function → NeedS (gxOf X) s → matchS c s st = true → PS X st (liftS X.K c.N.length s)) ∧
  (∀ (X : Cx) (c : Ctx) (sts : List Stmt), XOk X c → PassesOwn (model X.prog X.w) X.A X.env X.xe → X.env.scope.kind = .function → NeedS (gxOf X) s → matchSs c s sts = true → PSs X sts (liftS X.K c.N.length s))
theorem no_block {s : S} (h : ∀ c xs, matchSs c s xs = false) : ∀ (X : Cx) (c : Ctx) (sts : List Stmt), XOk X c → PassesOwn (model X.prog X.w) X.A X.env X.xe → X.env.scope.kind = .function → NeedS (gxOf X) s → matchSs c s sts = true → PSs X sts (liftS X.K c.N.length s) := fun X c xs _ _ _ _ m => by
  rw [h] at m
  cases m
/-- is the comprehension's list stored within its own frame -/
def swB (env : Env) (y : Str) (py : Pos) (scope : Scope) (pos : Pos) : Bool := env.blockKind == .function && env.kindOf y == some .local && py.line == pos.line && !(scope.names.any fun (n, k) => n == y && (k == .local || k == .cell))
theorem swaps_lc {elt : Expr} {gs : List Comprehension} {scope : Scope} {pos py : Pos} {y : Str} {l : Nat} {env : Env} : swapsWith (.ListComp elt gs scope pos) (some (.Name y py)) l env = pure (swB env y py scope pos) := rfl
theorem asg_ps {X : Cx} {c : Ctx} (ok : XOk X c) {i : Nat} {x : Str} {e : E} {v : Expr} {py pos : Pos} (hm : e.monos) (nd : Need (gxOf X) e) (h : storeB c i x = true) (m : matchE c false e v = true) : PS X (.Assign [.Name x py] v pos) (liftS X.K c.N.length (.asg i e)) := by
  unfold storeB at h
  simp only [Bool.and_eq_true, decide_eq_true_eq] at h
  obtain ⟨⟨h1, h2⟩, h3⟩ := h
  have hN : X.N[i]? = some x := by rw [ok.N]; exact h1
  have hnd : X.N.Nodup := by rw [ok.N]; exact ok.nd
  have hi : i < c.N.length := (List.getElem?_eq_some_iff.mp h1).1
  have S := (sound e hm).get ok nd m
  have plain : ∀ (hs : swapsWith v (some (.Name x py)) pos.line X.env = pure false), PS X (.Assign [.Name x py] v pos) (liftS X.K c.N.length (.asg i e)) := fun hs =>
    PS.imp (ps_set (i := i) hnd hN (loc_of ok h2) S.pe hs (fn_of_match ok h3)) fun D σ H q => asg_read hm hi q
  cases v with
  | ListComp elt gs scope p2 =>
    cases hsw : swB X.env x py scope p2 with
    | false => exact plain (by rw [swaps_lc, hsw])
    | true =>
      have hl : X.env.scope.names.lookup x = some .local := by
        unfold swB at hsw
        simp only [Bool.and_eq_true, beq_iff_eq] at hsw
        exact hsw.1.1.2
      cases e with
      | lc own elt' tg it cond =>
        have m0 := m
        rw [mE_lc] at m
        split at m
        · rename_i heq
          cases heq
          simp only [Bool.and_eq_true, decide_eq_true_eq] at m
          have e0 := m.1.1.1.1.1.1.1
          subst e0
          obtain ⟨p1, p2, p3, p4, p5, p6, p7⟩ := lc_parts ok hm (sound elt' hm.2.2) (sound it hm.1) (sound cond hm.2.1) nd m0
          refine PS.imp (ps_setLc (i := i) ok.calm hnd hN hl (by rw [swaps_lc, hsw]) p1 p2 p3 p4 p5 p6) fun D σ H q => ?_
          have hl : σ.length = c.N.length := by
            obtain ⟨_, _, _, _, _, l, _⟩ := q
            exact l
          exact lc_read hm p7 hl (asg_read hm hi q)
        · cases m
      | lc2 own elt' tg it cond tg2 it2 cond2 =>
        have m0 := m
        rw [mE_lc2] at m
        split at m
        · rename_i heq
          cases heq
          simp only [Bool.and_eq_true, decide_eq_true_eq] at m
          obtain ⟨⟨⟨⟨⟨⟨⟨⟨⟨⟨⟨⟨⟨e0, e0'⟩, _⟩, _⟩, _⟩, _⟩, _⟩, _⟩, _⟩, _⟩, _⟩, _⟩, _⟩, _⟩ := m
          subst e0 e0'
          obtain ⟨p1, p2, p3, p4, p5, p6, p7, p8, p9, p10, p11, p12⟩ := lc2_parts ok (sound elt' hm.2.2.2.2) (sound it hm.1) (sound cond hm.2.1) (sound it2 hm.2.2.1) (sound cond2 hm.2.2.2.1) nd m0
          have hv : ∀ i ∈ slotsOf tg2, i ∈ own.map (·.2) := p12
          refine PS.imp (ps_setLc2 (i := i) ok.calm hnd hN hl (by rw [swaps_lc, hsw]) p1 p2 hv p3 p4 p5 p6 p7 p8 p9 p10) fun D σ H q => ?_
          have hl : σ.length = c.N.length := by
            obtain ⟨_, _, _, _, _, l, _⟩ := q
            exact l
          exact lc2_read hm p11 hl (asg_read hm hi q)
        · cases m
      | isin a ts => rw [mE_isin] at m; split at m <;> first | contradiction | (rename_i heq; cases heq)
      | raw l sm vs f => rw [mE_raw] at m; cases m
      | _ => exact Bool.noConfusion (show false = true from m)
  | SetComp => cases e with
    | isin a ts => rw [mE_isin] at m; split at m <;> first | contradiction | (rename_i heq; cases heq)
    | raw l sm vs f => rw [mE_raw] at m; cases m
    | _ => exact Bool.noConfusion (show false = true from m)
  | DictComp => cases e with
    | isin a ts => rw [mE_isin] at m; split at m <;> first | contradiction | (rename_i heq; cases heq)
    | raw l sm vs f => rw [mE_raw] at m; cases m
    | _ => exact Bool.noConfusion (show false = true from m)
  | _ => exact plain rfl
theorem var_pe {X : Cx} {c : Ctx} (ok : XOk X c) {i : Nat} {x : Str} {pos : Pos} (h : varB c i x = true) : PE X (.Name x pos) (tVar i) := by
  unfold varB at h
  simp only [Bool.and_eq_true, decide_eq_true_eq] at h
  exact pe_var (by rw [ok.N]; exact h.1.1) (vis_of ok h.1.2) (by simpa using h.2.1) (by simpa using h.2.2)
theorem few_of {X : Cx} {y : Expr} {cp : Pos} (h : notStar y = true) : ((backTo cp (starEach [y] X.env)).all (fun x => !x.1) && (backToKw cp (keywordEach [] X.env)).all (fun x => x.1.isSome)
    && decide ([y].length + ([] : List Keyword).length + (if ([] : List Keyword).isEmpty then 0 else 1) < 30)) = true := by
  rw [star_of h]
  rfl

theorem swapped_of {X : Cx} {x y : Str} {px py p p2 : Pos} {k k2 : Nat} {u v : Expr} (hk : X.env.scope.kind = .function) (hx : X.env.scope.names.lookup x = some .local) (hy : X.env.scope.names.lookup y = some .local) (hn : x ≠ y) (hl : (py.line == px.line) = true)
    (nu : notStar u = true) (nv : notStar v = true) (h1 : (foldedForSure 8 u && foldedForSure 8 v) = false) (h2 : (constantsAlone 8 u && constantsAlone 8 v) = false) :
    swappedStores [.Tuple [.Name x px, .Name y py] k p] (.Tuple [u, v] k2 p2) X.env = pure (some [x, y]) := by
  have hb : X.env.blockKind = .function := by unfold Env.blockKind; rw [hk]; rfl
  have kx : X.env.kindOf x = some .local := hx
  have ky : X.env.kindOf y = some .local := hy
  have e1 : [x, y].eraseDups.length = 2 := by
    rw [List.eraseDups_cons]
    simp [hn.symm, List.eraseDups_cons]
  have hl' : py.line = px.line := by simpa using hl
  unfold swappedStores
  simp [hb, kx, ky, h1, h2, hl', e1, Expr.pos]
  rintro (z | z)
  · cases u <;> first | (cases nu; done) | (cases z; done)
  · cases v <;> first | (cases nv; done) | (cases z; done)
theorem pop_ps {X : Cx} {c : Ctx} (ok : XOk X c) {i : Nat} {e : Expr} (m : m0B c i "pop" (vM0 e) = true) : PE X e (tBM0 X.K "list" rPop (tVar i)) ∧ ∀ o l, swapsWith e o l X.env = pure false := by
  cases h : vM0 e with
  | none => rw [h] at m; cases m
  | some z =>
    obtain ⟨x, px, nm, ap, cp⟩ := z
    rw [h] at m
    cases vM0_eq h
    simp only [m0B, Bool.and_eq_true, decide_eq_true_eq] at m
    obtain ⟨⟨rfl, m2⟩, m3⟩ := m
    exact ⟨pe_bm0 PySem.F.plainAttrs_list PySem.F.slot_list_pop PySem.F.type_list_pop mt_pop (var_pe ok m2) rfl m3, fun _ _ => rfl⟩
theorem m1_parts {c : Ctx} {i : Nat} {nm x m : Str} {px ap cp : Pos} {y : Expr} (h : m1B c i nm (some (x, px, m, ap, y, cp)) = true) : m = nm ∧ varB c i x = true ∧ notStar y = true ∧ (ap.endLine == cp.line) = true := by
  simp only [m1B, Bool.and_eq_true, decide_eq_true_eq] at h
  exact ⟨h.1.1.1, h.1.1.2, h.1.2, h.2⟩

theorem soundS : ∀ s : S, s.monos → SoundS s := by
  intro s
  induction s with
  | nil =>
    refine fun _ => ⟨fun X c st _ _ _ _ m => (nomatch m), fun X c sts ok hp hk nd m => ?_⟩
    cases sts with
    | cons st sts => cases m
    | nil =>
      refine PSs.imp pss_nil fun D σ H q => ?_
      obtain ⟨T, O, W, env, r, l, q⟩ := q
      exact q σ H W r l Frm.refl
  | cons s r ihs ihr =>
    refine fun hm => ⟨fun X c st _ _ _ _ m => (nomatch m), fun X c sts ok hp hk nd m => ?_⟩
    cases sts with
    | nil => cases m
    | cons st sts =>
      have m : (matchS c s st && matchSs c r sts) = true := m
      rw [Bool.and_eq_true] at m
      exact PSs.imp (pss_cons ((ihs hm.1).1 X c st ok hp hk nd.1 m.1) ((ihr hm.2).2 X c sts ok hp hk nd.2 m.2)) fun D σ H q => seq_read hm.1 hm.2 q
  | pass =>
    refine fun _ => ⟨fun X c st ok hp hk nd m => ?_, no_block fun c xs => rfl⟩
    cases st <;> try (cases m; done)
    refine PS.imp ps_pass fun D σ H q => ?_
    obtain ⟨T, O, W, env, r, l, q⟩ := q
    exact q σ H W r l Frm.refl
  | brk =>
    refine fun _ => ⟨fun X c st ok hp hk nd m => ?_, no_block fun c xs => rfl⟩
    cases st <;> try (cases m; done)
    refine PS.imp ps_break fun D σ H q => ?_
    obtain ⟨T, O, W, env, r, l, q⟩ := q
    exact q σ H W r l Frm.refl
  | cont =>
    refine fun _ => ⟨fun X c st ok hp hk nd m => ?_, no_block fun c xs => rfl⟩
    cases st <;> try (cases m; done)
    refine PS.imp ps_continue fun D σ H q => ?_
    obtain ⟨T, O, W, env, r, l, q⟩ := q
    exact q σ H W r l Frm.refl
  | asg i e =>
    refine fun hm => ⟨fun X c st ok hp hk nd m => ?_, no_block fun c xs => rfl⟩
    simp only [matchS] at m
    split at m
    · rename_i h
      cases vAsg_eq h
      rw [Bool.and_eq_true] at m
      exact asg_ps ok hm nd m.1 m.2
    · cases m
  | asg2 i j a b =>
    refine fun hm => ⟨fun X c st ok hp hk nd m => ?_, no_block fun c xs => rfl⟩
    simp only [matchS] at m
    split at m
    · rename_i x px y py q1 u v q2 h
      obtain ⟨k, p⟩ := q1
      obtain ⟨k2, p2, pos⟩ := q2
      cases vAsg2_eq h
      simp only [Bool.and_eq_true, decide_eq_true_eq, Bool.not_eq_true'] at m
      obtain ⟨⟨⟨⟨⟨⟨⟨⟨⟨⟨⟨⟨m1, m2⟩, m3⟩, m4⟩, m5⟩, m6⟩, m7⟩, m8⟩, m9⟩, m10⟩, m11⟩, m12⟩, m13⟩ := m
      have A := (sound a hm.1).get ok nd.1 m12
      have B := (sound b hm.2).get ok nd.2 m13
      have hx : X.env.scope.names.lookup x = some .local := by rw [ok.sc]; exact m5
      have hy : X.env.scope.names.lookup y = some .local := by rw [ok.sc]; exact m6
      exact PS.imp (ps_par ok.calm (by rw [ok.N]; exact ok.nd) (by rw [ok.N]; exact m1) (by rw [ok.N]; exact m2) m3 hx hy (pa_cons A.pe (pa_cons B.pe pa_nil (star_of m9)) (star_of m8))
        (swapped_of hk hx hy m4 m7 m8 m9 m10 m11) rfl) fun D σ H q => asg2_read hm.1 hm.2 (List.getElem?_eq_some_iff.mp m1).1 (List.getElem?_eq_some_iff.mp m2).1 m3 q
    · cases m
  | asgT tg e =>
    refine fun hm => ⟨fun X c st ok hp hk nd m => ?_, no_block fun c xs => rfl⟩
    simp only [matchS] at m
    split at m
    · rename_i ts k p v pos h
      cases vAsgT_eq h
      simp only [Bool.and_eq_true] at m
      have A := (sound e hm).get ok nd m.2
      refine PS.imp (ps_asg A.pe (pg_of ok tg _ m.1.1) ?_ ?_ rfl) fun D σ H q => asgT_read hm q
      · cases v <;> rfl
      · have h2 := m.1.2
        cases v <;> first | rfl | cases h2
    · cases m
  | app i e =>
    refine fun hm => ⟨fun X c st ok hp hk nd m => ?_, no_block fun c xs => rfl⟩
    simp only [matchS] at m
    split at m
    · rename_i h
      cases vExpr_eq h
      split at m
      · rename_i h2
        cases vM1_eq h2
        rw [Bool.and_eq_true] at m
        obtain ⟨rfl, m2, m3, m4⟩ := m1_parts m.1
        have A := (sound e hm).get ok nd m.2
        exact PS.imp (ps_expr (pe_bm PySem.F.plainAttrs_list PySem.F.slot_list_append PySem.F.type_list_append mt_append (var_pe ok m2) (pa_cons A.pe pa_nil (star_of m3)) rfl (few_of m3) m4 (star_of m3) rfl) rfl) fun D σ H q => app_read hm q
      · cases m
    · cases m
  | ext i e =>
    refine fun hm => ⟨fun X c st ok hp hk nd m => ?_, no_block fun c xs => rfl⟩
    simp only [matchS] at m
    split at m
    · rename_i h
      cases vExpr_eq h
      split at m
      · rename_i h2
        cases vM1_eq h2
        rw [Bool.and_eq_true] at m
        obtain ⟨rfl, m2, m3, m4⟩ := m1_parts m.1
        have A := (sound e hm).get ok nd m.2
        exact PS.imp (ps_expr (pe_bm PySem.F.plainAttrs_list PySem.F.slot_list_extend PySem.F.type_list_extend mt_extend (var_pe ok m2) (pa_cons A.pe pa_nil (star_of m3)) rfl (few_of m3) m4 (star_of m3) rfl) rfl) fun D σ H q => ext_read hm q
      · cases m
    · cases m
  | pop i =>
    refine fun hm => ⟨fun X c st ok hp hk nd m => ?_, no_block fun c xs => rfl⟩
    simp only [matchS] at m
    split at m
    · rename_i h
      cases vExpr_eq h
      obtain ⟨p1, p2⟩ := pop_ps ok m
      exact PS.imp (ps_expr p1 (p2 _ _)) fun D σ H q => pop_read q
    · cases m
  | popA j i =>
    refine fun hm => ⟨fun X c st ok hp hk nd m => ?_, no_block fun c xs => rfl⟩
    simp only [matchS] at m
    split at m
    · rename_i h
      cases vAsg_eq h
      rw [Bool.and_eq_true] at m
      obtain ⟨p1, p2⟩ := pop_ps ok m.2
      have h := m.1
      unfold storeB at h
      simp only [Bool.and_eq_true, decide_eq_true_eq] at h
      obtain ⟨⟨h1, h2⟩, h3⟩ := h
      exact PS.imp (ps_set (i := j) (by rw [ok.N]; exact ok.nd) (by rw [ok.N]; exact h1) (loc_of ok h2) p1 (p2 _ _) (fn_of_match ok h3)) fun D σ H q => popA_read (List.getElem?_eq_some_iff.mp h1).1 q
    · cases m
  | popAt i e =>
    refine fun hm => ⟨fun X c st ok hp hk nd m => ?_, no_block fun c xs => rfl⟩
    simp only [matchS] at m
    split at m
    · rename_i h
      cases vExpr_eq h
      split at m
      · rename_i h2
        cases vM1_eq h2
        rw [Bool.and_eq_true] at m
        obtain ⟨rfl, m2, m3, m4⟩ := m1_parts m.1
        have A := (sound e hm).get ok nd m.2
        exact PS.imp (ps_expr (pe_bm PySem.F.plainAttrs_list PySem.F.slot_list_pop PySem.F.type_list_pop mt_popAt (var_pe ok m2) (pa_cons A.pe pa_nil (star_of m3)) rfl (few_of m3) m4 (star_of m3) rfl) rfl) fun D σ H q => popAt_read hm q
      · cases m
    · cases m
  | setI i k e =>
    refine fun hm => ⟨fun X c st ok hp hk nd m => ?_, no_block fun c xs => rfl⟩
    simp only [matchS] at m
    split at m
    · rename_i x px y p v pos h
      cases vSet_eq h
      simp only [Bool.and_eq_true] at m
      have A := (sound e hm.2).get ok nd.2 m.2
      have B := (sound k hm.1).get ok nd.1 m.1.2
      have ns := m.1.1.2
      refine PS.imp (ps_asg A.pe (pg_sub (var_pe ok m.1.1.1) B.pe set_list ?_) ?_ ?_ rfl) fun D σ H q => setI_read hm.1 hm.2 q
      · cases y <;> first | (intro _; rfl) | cases ns
      · cases v <;> rfl
      · cases v <;> rfl
    · cases m
  | ret e =>
    refine fun hm => ⟨fun X c st ok hp hk nd m => ?_, no_block fun c xs => rfl⟩
    cases st <;> try (cases m; done)
    rename_i v pos
    cases v with
    | none => cases m
    | some x => exact PS.imp (ps_ret ((sound e hm).get ok nd m).pe) fun D σ H q => ret_read hm q
  | retN =>
    refine fun _ => ⟨fun X c st ok hp hk nd m => ?_, no_block fun c xs => rfl⟩
    cases st <;> try (cases m; done)
    rename_i v pos
    cases v with
    | some x => cases m
    | none =>
      refine PS.imp ps_retN fun D σ H q => ?_
      obtain ⟨T, O, W, env, r, l, q⟩ := q
      exact q .non H (fun b o h _ _ => h) r.ok.tape rfl
  | iff t a b iha ihb =>
    refine fun hm => ⟨fun X c st ok hp hk nd m => ?_, no_block fun c xs => rfl⟩
    cases st <;> try (cases m; done)
    simp only [matchS, Bool.and_eq_true] at m
    exact PS.imp (ps_if ((sound t hm.1).get ok nd.1 m.1.1).pt ((iha hm.2.1).2 X c _ ok hp hk nd.2.1 m.1.2) ((ihb hm.2.2).2 X c _ ok hp hk nd.2.2 m.2)) fun D σ H q => if_read hm.1 hm.2.1 hm.2.2 q
  | for_ tg it body ih =>
    refine fun hm => ⟨fun X c st ok hp hk nd m => ?_, no_block fun c xs => rfl⟩
    cases st <;> try (cases m; done)
    rename_i x y bs os pos
    cases os with
    | cons o os => cases m
    | nil =>
      simp only [matchS, Bool.and_eq_true] at m
      obtain ⟨⟨⟨m1, m2⟩, m3⟩, m4⟩ := m
      exact PS.imp (ps_for hp ok.calm (((sound it hm.1).1 X c true y ok nd.1 m3).2 x) (pg_of ok tg x m1) ((ih hm.2).2 X c bs ok hp hk nd.2 m4) fun v => set_of m2 v) fun D σ H q => for_read hm.1 hm.2 q
  | whl t body ih =>
    refine fun hm => ⟨fun X c st ok hp hk nd m => ?_, no_block fun c xs => rfl⟩
    cases st <;> try (cases m; done)
    rename_i x bs os pos
    cases os with
    | cons o os => cases m
    | nil =>
      simp only [matchS, Bool.and_eq_true] at m
      exact PS.imp (ps_while hp ((sound t hm.1).get ok nd.1 m.1).pt ((ih hm.2).2 X c bs ok hp hk nd.2 m.2)) fun D σ H q => while_read hm.1 hm.2 q
  | expr e => exact fun hm => ⟨fun X c st ok hp hk nd m => (nomatch m), no_block fun c xs => rfl⟩
  | never =>
    refine fun _ => ⟨fun X c st ok hp hk nd m => ?_, no_block fun c xs => rfl⟩
    refine PS.imp ps_never fun D σ H q => ?_
    obtain ⟨T, O, W, env, r, l, q⟩ := q
    exact q.elim
  | raw l s => exact fun hm => ⟨fun X c st ok hp hk nd m => nd X c st rfl ok hp hk m, no_block fun c xs => rfl⟩
end DL

set_option Elab.async false
set_option linter.all false
set_option maxRecDepth 100000
set_option maxHeartbeats 2000000
/-! DL18: a def keeps its promise by what its body means. -/
namespace DL
open PySem PySem.Spec PyProof.Rows L2

def startD (n : Nat) (ds : List D) : DEnv := ds.map Sl.sh ++ List.replicate (n - ds.length) Sl.no
theorem start_rep {K : PySem.W.Frag} {T : Tape} {O : List Addr} {H : Hp} {N : List Str} {ds : List D} {vs : List V} (k : Ok T O H) (hd : Dats K T (res H O) ds vs) : RepS K T O [] (L2.start N vs) (startD N.length ds) H := by
  have hl := hd.length
  have hget : ∀ (i : Nat) (s : Sl), (startD N.length ds)[i]? = some s → s = .no ∨ ∃ d, ds[i]? = some d ∧ s = .sh d := fun i s h => by
    unfold startD at h
    by_cases hi : i < ds.length
    · rw [List.getElem?_append_left (by rw [List.length_map]; exact hi), List.getElem?_map] at h
      cases e : ds[i]? with
      | none => rw [e] at h; cases h
      | some d =>
        rw [e] at h
        cases h
        exact .inr ⟨d, rfl, rfl⟩
    · rw [List.getElem?_append_right (by rw [List.length_map]; omega)] at h
      exact .inl (List.eq_of_mem_replicate (List.mem_of_getElem? h))
  refine ⟨k, fun a z => (nomatch z), fun a z => (nomatch z), ?_, fun i d h => ?_, fun i d h => ?_, fun i j d e p h => ?_, fun i rows as h => ?_, fun i j r s as bs a h => ?_, fun i j r as d p h => ?_⟩
  · unfold startD L2.start
    rw [List.length_append, List.length_append, List.length_map, List.length_map, List.length_replicate, List.length_replicate, hl]
  · rcases hget i _ h with e | ⟨d', e1, e2⟩
    · cases e
    · cases e2
      obtain ⟨v, h1, h2⟩ := hd.get e1
      refine ⟨v, ?_, h2⟩
      unfold L2.start
      have hi : i < vs.length := (List.getElem?_eq_some_iff.mp h1).1
      rw [List.getElem?_append_left (by rw [List.length_map]; exact hi), List.getElem?_map, h1]
      rfl
  all_goals
    rcases hget i _ h with e | ⟨d', e1, e2⟩
    · cases e
    · cases e2
/-- what a body means, as a spec -/
def bodySpec (n : Nat) (b : S) : DSpec := fun ds Q => semS b { nx := fun _ => Q .non, rt := Q } (startD n ds)
theorem body_mono {n : Nat} {b : S} (hb : b.monos) : SpMono (bodySpec n b) := fun ds Q Q' h m => semS_mono b hb { nx := fun _ => Q .non, rt := Q } { nx := fun _ => Q' .non, rt := Q' } ⟨fun e h => m _ h, fun d h => m _ h, fun e h => h, fun e h => h⟩ _ h
theorem body_read {K : PySem.W.Frag} {N : List Str} {b : S} (hb : b.monos) {ds : List D} {vs : List V} {T : Tape} {O : List Addr} {H : Hp} {Q : VK} (hz : vs.length ≤ N.length) (k : Ok T O H) (hd : Dats K T (res H O) ds vs) (h : bodySpec N.length b ds (post K T O false H Q)) :
    liftS K N.length b { nx := fun _ H' => Q .non H', rt := Q } (L2.start N vs) H := by
  refine ⟨T, O, [], startD N.length ds, start_rep k hd, ?_, semS_mono b hb { nx := fun _ => post K T O false H Q .non, rt := post K T O false H Q } _ ⟨fun e h σ' H' W' r l f => ?_, fun d h v H' kp t hv => ?_, fun e h => h.elim, fun e h => h.elim⟩ _ h⟩
  · unfold L2.start
    rw [List.length_append, List.length_map, List.length_replicate]
    omega
  · exact h .non H' (fun a o e n => f.keep a o e (fun z => nomatch z) n) r.ok.tape rfl fun z => nomatch z
  · exact h v H' (fun a o e n => kp a o e (fun z => nomatch z) n) t hv fun z => nomatch z
section
variable {P : Program} {w : World} {K : PySem.W.Frag} {mg : Str → Option Value} {base : Heap}
theorem def_ok {x qual : Str} {params : Arguments} {body : List Stmt} {scope : Scope} {f : Addr} {fd : FuncData} {N ps : List Str} {k : Nat} {sp : DSpec} {b : S} (F : FunD K x qual params body scope [] [] f fd) (S : FnScope N ps scope) (hb : b.monos)
    (m : matchSs ⟨N, scope, fun _ => true⟩ b body = true) (len : ∀ ds Q, sp ds Q → ds.length = ps.length) (need : ∀ A, Room k A → NeedS ⟨P, w, K, mg, base, A⟩ b) (h : ∀ ds Q, sp ds Q → bodySpec N.length b ds Q) :
    FnOk P w K mg base CX0 (k + 1) f fd ps (spOf K sp) := by
  refine F.ok S (fun vs H Q E h => ?_) (fun cdv A outer s H vs Q E hr hs => ?_)
  · obtain ⟨T, O, ds, k, hd, q⟩ := h
    rw [hd.length]
    exact len ds _ q
  · obtain ⟨T, O, ds, k, hd, q⟩ := hs
    have hz : vs.length ≤ N.length := by
      rw [hd.length, len ds _ q]
      have e := congrArg List.length S.pre
      rw [List.length_take] at e
      omega
    exact ⟨_, PSs.nox ((soundS b hb).2 _ ⟨N, scope, fun _ => true⟩ body ⟨rfl, S.nd, rfl, rfl, by have := hr.un; show (A.deeper _).units + 65 < cLine; omega, fun _ _ => rfl⟩ PassesOwn.never S.kind (need _ hr) m), body_read hb hz k hd (h ds _ q)⟩
end
end DL

set_option Elab.async false
set_option linter.all false
set_option maxRecDepth 100000
set_option maxHeartbeats 2000000
/-! DL19: the source of numbers: the dict and the list. -/
namespace DL
open PySem PySem.Spec PyProof.Rows L2

def tapeD (c : Addr) (a b s : Int) : List (Key × V) := [(.inr "cells", .ref c), (.inr "at", .int a), (.inr "big", .int b), (.inr "seed", .int s)]
theorem s_ca : ¬ ("cells" : Str) = "at" := by decide +kernel
theorem s_cb : ¬ ("cells" : Str) = "big" := by decide +kernel
theorem s_cs : ¬ ("cells" : Str) = "seed" := by decide +kernel
theorem s_ab : ¬ ("at" : Str) = "big" := by decide +kernel
theorem s_as : ¬ ("at" : Str) = "seed" := by decide +kernel
theorem s_bs : ¬ ("big" : Str) = "seed" := by decide +kernel
theorem s_ca' : ¬ ("at" : Str) = "cells" := by decide +kernel
theorem s_cb' : ¬ ("big" : Str) = "cells" := by decide +kernel
theorem s_cs' : ¬ ("seed" : Str) = "cells" := by decide +kernel
theorem s_ab' : ¬ ("big" : Str) = "at" := by decide +kernel
theorem s_as' : ¬ ("seed" : Str) = "at" := by decide +kernel
theorem s_bs' : ¬ ("seed" : Str) = "big" := by decide +kernel
theorem k_ca : ¬ (Sum.inr ("cells" : Str) : Key) = .inr "at" := fun h => s_ca (Sum.inr.inj h)
theorem k_cb : ¬ (Sum.inr ("cells" : Str) : Key) = .inr "big" := fun h => s_cb (Sum.inr.inj h)
theorem k_cs : ¬ (Sum.inr ("cells" : Str) : Key) = .inr "seed" := fun h => s_cs (Sum.inr.inj h)
theorem k_ab : ¬ (Sum.inr ("at" : Str) : Key) = .inr "big" := fun h => s_ab (Sum.inr.inj h)
theorem k_as : ¬ (Sum.inr ("at" : Str) : Key) = .inr "seed" := fun h => s_as (Sum.inr.inj h)
theorem k_bs : ¬ (Sum.inr ("big" : Str) : Key) = .inr "seed" := fun h => s_bs (Sum.inr.inj h)
section
variable {c : Addr} {a b s x : Int}
theorem get_c : valV (tapeD c a b s) (.inr "cells" : Key) = some (.ref c) := valV_pos rfl
theorem get_a : valV (tapeD c a b s) (.inr "at" : Key) = some (.int a) := (valV_neg k_ca).trans (valV_pos rfl)
theorem get_b : valV (tapeD c a b s) (.inr "big" : Key) = some (.int b) := ((valV_neg k_cb).trans (valV_neg k_ab)).trans (valV_pos rfl)
theorem get_s : valV (tapeD c a b s) (.inr "seed" : Key) = some (.int s) := (((valV_neg k_cs).trans (valV_neg k_as)).trans (valV_neg k_bs)).trans (valV_pos rfl)
theorem put_a : putK (tapeD c a b s) (.inr "at" : Key) (.int x) = tapeD c x b s := by
  unfold tapeD putK
  simp [s_ca, s_ab', s_as']
theorem put_b : putK (tapeD c a b s) (.inr "big" : Key) (.int x) = tapeD c a x s := by
  unfold tapeD putK
  simp [s_cb, s_ab, s_bs']
theorem put_s : putK (tapeD c a b s) (.inr "seed" : Key) (.int x) = tapeD c a b x := by
  unfold tapeD putK
  simp [s_cs, s_as, s_bs]
theorem tape_len : (tapeD c a b s).length < sizeLine := by
  show 4 < sizeLine
  rw [sizeLine_eq]
  decide
end
theorem merge_tape {c : Addr} {a b s : Int} : mergeK [] (tapeD c a b s) = tapeD c a b s := by
  unfold tapeD mergeK
  simp [putK, s_ca, s_cb, s_cs, s_ab, s_as, s_bs]
/-- the next number: any below a bound (the list's taker takes any bound, and gives 0 where it is not positive) -/
def spNum (k : Bool) : DSpec := fun ds Q => ∃ m : Int, ds = [.tape k, .int m] ∧ ((k = true → 0 < m) ∧ m < 1073741824) ∧ (∀ r : Int, 0 ≤ r → r < m → Q (.int r)) ∧ (m ≤ 0 → Q (.int 0))
theorem spNum_mono (k : Bool) : SpMono (spNum k) := fun ds Q Q' ⟨m, e, h1, h, h2⟩ q => ⟨m, e, h1, fun r a b => q _ (h r a b), fun a => q _ (h2 a)⟩
/-- a drawn item of a list or a tuple -/
def spPick (k : Bool) : DSpec := fun ds Q => ∃ (row : D) (xs : List D), ds = [.tape k, row] ∧ (row = .lst xs ∨ row = .tup xs) ∧ xs ≠ [] ∧ xs.length < 1073741824 ∧ ∀ x ∈ xs, Q x
theorem spPick_mono (k : Bool) : SpMono (spPick k) := fun ds Q Q' ⟨row, xs, e, h1, h2, h3, h⟩ q => ⟨row, xs, e, h1, h2, h3, fun x hx => q _ (h x hx)⟩
def bPick (k : Bool) (nm : Str) : S := .cons (.ret (.ix (.var 1) (.call nm (spNum k) (.cons (.var 0) (.cons (.bf .len (.cons (.var 1) .nil)) .nil))))) .nil
theorem pick_ok (k : Bool) (nm : Str) : ∀ ds Q, spPick k ds Q → bodySpec 2 (bPick k nm) ds Q := by
  rintro ds Q ⟨row, xs, rfl, hr, hne, hl, h⟩
  have hpos : 0 < xs.length := List.length_pos_iff.mpr hne
  have key : ∀ r : Int, 0 ≤ r → r < (xs.length : Int) → ∃ d, L2.atI xs r = some d ∧ Q d := fun r h0 h1 => by
    obtain ⟨j, rfl⟩ := Int.eq_ofNat_of_zero_le h0
    have hj : j < xs.length := by omega
    exact ⟨xs[j], atI_nat (List.getElem?_eq_getElem hj), h _ (List.getElem_mem hj)⟩
  have z : (xs.length : Int) ≤ 0 → ∃ d, L2.atI xs 0 = some d ∧ Q d := fun h => by omega
  rcases hr with rfl | rfl
  · show ∃ m : Int, ([D.tape k, .int xs.length] : List D) = [.tape k, .int m] ∧ ((k = true → 0 < m) ∧ m < 1073741824) ∧ (∀ r : Int, 0 ≤ r → r < m → ∃ d, L2.atI xs r = some d ∧ Q d) ∧ (m ≤ 0 → ∃ d, L2.atI xs 0 = some d ∧ Q d)
    exact ⟨_, rfl, ⟨fun _ => by omega, by omega⟩, key, z⟩
  · show ∃ m : Int, ([D.tape k, .int xs.length] : List D) = [.tape k, .int m] ∧ ((k = true → 0 < m) ∧ m < 1073741824) ∧ (∀ r : Int, 0 ≤ r → r < m → ∃ d, L2.atI xs r = some d ∧ Q d) ∧ (m ≤ 0 → ∃ d, L2.atI xs 0 = some d ∧ Q d)
    exact ⟨_, rfl, ⟨fun _ => by omega, by omega⟩, key, z⟩
end DL

set_option Elab.async false
set_option linter.all false
set_option maxRecDepth 100000
set_option maxHeartbeats 2000000
/-! DL20: the law: its source of numbers is made, then its body runs. -/
namespace DL
open PySem PySem.Spec PyProof.Rows L2

/-- the source of numbers is made of the script -/
def spNew (k : Bool) (K : PySem.W.Frag) : Sp := fun vs H Q _ => ∃ (a : Addr) (ns : List Int), vs = [.ref a] ∧ SqL K H a (ns.map V.int) ∧ ns.length ≤ 63 ∧ ∀ (T : Tape) (H' : Hp), Same H H' → T.ok H' → T.kd = some k → Q T.at H'
def spLaw (K : PySem.W.Frag) : Sp := fun vs H Q _ => ∃ (a : Addr) (ns : List Int), vs = [.ref a] ∧ SqL K H a (ns.map V.int) ∧ ns.length ≤ 63 ∧ ∀ H', Q (.bl true) H'
def vLaw : Expr → Option (Str × Pos × Str × Pos × Pos)
  | .Call (.Name f p) [.Name s p2] [] pos => some (f, p, s, p2, pos)
  | _ => none
theorem vLaw_eq {e : Expr} {f p s p2 pos} (h : vLaw e = some (f, p, s, p2, pos)) : e = .Call (.Name f p) [.Name s p2] [] pos := by
  unfold vLaw at h
  split at h
  · cases h; rfl
  · cases h
def lawB (c : Ctx) (nm : Str) (st : Stmt) : Bool := match vAsg st with
  | some (x, _, v, _) => (match vLaw v with
    | some (f, _, s, _, _) => storeB c 1 x && decide (f = nm) && glB c.sc f && varB c 0 s
    | none => false)
  | none => false
def lawEnv (k : Bool) (n : Nat) : DEnv := .no :: .sh (.tape k) :: List.replicate (n - 2) .no
/-- the law's first statement, then the rest -/
def matchLaw (c : Ctx) (nm : Str) (b : S) : List Stmt → Bool
  | st :: r => lawB c nm st && matchSs c b r
  | [] => false
section
variable {P : Program} {w : World} {K : PySem.W.Frag} {mg : Str → Option Value} {base : Heap}
theorem law_ok {x qual nm : Str} {params : Arguments} {body : List Stmt} {scope : Scope} {f fT : Addr} {fd fdT : FuncData} {N : List Str} {k kT : Nat} {kd : Bool} {b : S} (F : FunD K x qual params body scope [] [] f fd) (S : FnScope N ["script"] scope) (hb : b.monos) (hN : 2 ≤ N.length)
    (gT : mg nm = some (.ref fT)) (FT : FnOk P w K mg base CX0 kT fT fdT ["script"] (spNew kd K)) (hk : PySem.W.keepIn K (.ref fT) = true) (bT : Binds K fdT ["script"] []) (hT : kT ≤ k)
    (m : matchLaw ⟨N, scope, fun _ => true⟩ nm b body = true) (need : ∀ A, Room k A → NeedS ⟨P, w, K, mg, base, A⟩ b)
    (h : semS b { nx := fun _ => False, rt := fun d => d = .bl true } (lawEnv kd N.length)) : FnOk P w K mg base CX0 (k + 1) f fd ["script"] (spLaw K) := by
  refine F.ok S (fun vs H Q E h => ?_) (fun cdv A outer s H vs Q E hr hs => ?_)
  · obtain ⟨a, ns, rfl, _⟩ := h
    rfl
  · obtain ⟨a, ns, rfl, hS, hl, q⟩ := hs
    cases body with
    | nil => cases m
    | cons st r =>
      have m : (lawB ⟨N, scope, fun _ => true⟩ nm st && matchSs ⟨N, scope, fun _ => true⟩ b r) = true := m
      rw [Bool.and_eq_true] at m
      obtain ⟨m1, m2⟩ := m
      have ok : XOk (cxOf CX0 P w K mg base N qual scope f cdv A outer s H E).nox ⟨N, scope, fun _ => true⟩ := ⟨rfl, S.nd, rfl, rfl, by have := hr.un; show (A.deeper _).units + 65 < cLine; omega, fun _ _ => rfl⟩
      unfold lawB at m1
      split at m1
      · rename_i y py v pos h1
        cases vAsg_eq h1
        split at m1
        · rename_i f' p s' p2 pos2 h2
          cases vLaw_eq h2
          simp only [Bool.and_eq_true, decide_eq_true_eq] at m1
          obtain ⟨⟨⟨ms, rfl⟩, mg1⟩, mv⟩ := m1
          have g := gl_of ok mg1
          have sb := ms
          unfold storeB at sb
          simp only [Bool.and_eq_true, decide_eq_true_eq] at sb
          have S1 := ps_set (X := (cxOf CX0 P w K mg base N qual scope f cdv A outer s H E).nox) (i := 1) (pos := pos) (pos' := py) S.nd sb.1.1 (loc_of ok sb.1.2)
            (pe_call (pos := pos2) (p := p) FT (hr.mono hT) g.1 gT hk bT .nil pass0 (pa_cons (var_pe (pos := p2) ok mv) pa_nil) g.2.1) rfl (fn_of_match ok sb.2)
          refine ⟨_, PSs.nox (pss_cons S1 ((soundS b hb).2 _ ⟨N, scope, fun _ => true⟩ r ok PassesOwn.never S.kind (need _ hr) m2)), ?_⟩
          have s0 : (L2.start N [V.ref a])[0]? = some (some (V.ref a)) := rfl
          refine ⟨.ref a, s0, a, ns, rfl, hS, hl, fun T H' sm tk kd' => ?_⟩
          have hlen : (L2.start N [V.ref a]).length = N.length := by
            unfold L2.start
            rw [List.length_append, List.length_map, List.length_replicate]
            show 1 + (N.length - 1) = N.length
            omega
          refine ⟨T, T.own, [], lawEnv kd N.length, ⟨⟨tk, fun a ha => ha, tapeLive tk⟩, fun a z => (nomatch z), fun a z => (nomatch z), ?_, fun i d e => ?_, fun i d e => ?_, fun i j d e' p' e => ?_, fun i rows as e => ?_, fun i j r s as bs a e => ?_, fun i j r as d p e => ?_⟩, by rw [List.length_set]; exact hlen, ?_⟩
          · rw [List.length_set, hlen]
            show (List.replicate (N.length - 2) Sl.no).length + 1 + 1 = _
            rw [List.length_replicate]
            omega
          · match i, e with
            | 0, e => cases e
            | 1, e =>
              cases e
              exact ⟨T.at, List.getElem?_set_self (by rw [hlen]; omega), rfl, kd'⟩
            | i + 2, e =>
              have e : (List.replicate (N.length - 2) Sl.no)[i]? = some (Sl.sh d) := e
              cases List.eq_of_mem_replicate (List.mem_of_getElem? e)
          · match i, e with
            | 0, e => cases e
            | 1, e => cases e
            | i + 2, e =>
              have e : (List.replicate (N.length - 2) Sl.no)[i]? = some _ := e
              cases List.eq_of_mem_replicate (List.mem_of_getElem? e)
          · match i, e with
            | 0, e => cases e
            | 1, e => cases e
            | i + 2, e =>
              have e : (List.replicate (N.length - 2) Sl.no)[i]? = some _ := e
              cases List.eq_of_mem_replicate (List.mem_of_getElem? e)
          · match i, e with
            | 0, e => cases e
            | 1, e => cases e
            | i + 2, e =>
              have e : (List.replicate (N.length - 2) Sl.no)[i]? = some _ := e
              cases List.eq_of_mem_replicate (List.mem_of_getElem? e)
          · match i, e with
            | 0, e => cases e
            | 1, e => cases e
            | i + 2, e =>
              have e : (List.replicate (N.length - 2) Sl.no)[i]? = some _ := e
              cases List.eq_of_mem_replicate (List.mem_of_getElem? e)
          · match i, e with
            | 0, e => cases e
            | 1, e => cases e
            | i + 2, e =>
              have e : (List.replicate (N.length - 2) Sl.no)[i]? = some _ := e
              cases List.eq_of_mem_replicate (List.mem_of_getElem? e)
          · refine semS_mono b hb { nx := fun _ => False, rt := fun d => d = .bl true } _ ⟨fun e h => h.elim, fun d h v H2 kp t hv => ?_, fun e h => h.elim, fun e h => h.elim⟩ _ h
            cases h
            have e : v = .bl true := hv
            subst e
            exact q H2
        · cases m1
      · cases m1
end
end DL

set_option Elab.async false
set_option linter.all false
set_option maxRecDepth 100000
set_option maxHeartbeats 2000000
/-! DL21: rules for what bodies mean: loops by an invariant, comprehensions as filter and map, slices. -/
namespace DL
open PySem PySem.Spec PyProof.Rows L2

/-- a for by its invariant -/
theorem forD_inv {bind : DEnv → D → (DEnv → Prop) → Prop} {body : DEnds → DEnv → Prop} {en : DEnds} (mb : ∀ e d Q Q', bind e d Q → (∀ e, Q e → Q' e) → bind e d Q') (my : ∀ a b : DEnds, a.le b → ∀ e, body a e → body b e)
    (I : Nat → DEnv → Prop) {items : List D} (step : ∀ k d env, items[k]? = some d → I k env → bind env d fun e1 => body { nx := I (k + 1), rt := en.rt, bk := en.nx, ct := I (k + 1) } e1) (done : ∀ env, I items.length env → en.nx env) :
    ∀ (k : Nat) (env : DEnv), k ≤ items.length → I k env → forD bind body en (items.drop k) env := by
  intro k
  induction h : items.length - k generalizing k with
  | zero =>
    intro env hk hi
    have e : k = items.length := by omega
    subst e
    rw [List.drop_length]
    exact done _ hi
  | succ m ih =>
    intro env hk hi
    have hlt : k < items.length := by omega
    rw [List.drop_eq_getElem_cons hlt]
    refine mb _ _ _ _ (step k _ env (List.getElem?_eq_getElem hlt) hi) fun e1 h1 => ?_
    exact my { nx := I (k + 1), rt := en.rt, bk := en.nx, ct := I (k + 1) } { nx := forD bind body en (items.drop (k + 1)), rt := en.rt, bk := en.nx, ct := forD bind body en (items.drop (k + 1)) }
      ⟨fun e he => ih (k + 1) (by omega) e hlt he, fun d h => h, fun e h => h, fun e he => ih (k + 1) (by omega) e hlt he⟩ _ h1
/-- the same for a body of the small language -/
theorem for_inv {tg : E} {body : S} {en : DEnds} (hb : body.monos) (I : Nat → DEnv → Prop) {items : List D} {env : DEnv}
    (start : I 0 env) (step : ∀ k d env, items[k]? = some d → I k env → bindT env tg d fun e1 => semS body { nx := I (k + 1), rt := en.rt, bk := en.nx, ct := I (k + 1) } e1) (done : ∀ env, I items.length env → en.nx env) :
    forD (fun e1 d => bindT e1 tg d) (semS body) en items env := by
  have h := forD_inv (bind := fun e1 d => bindT e1 tg d) (body := semS body) (en := en) (fun e d Q Q' h m => bindT_mono h m) (semS_mono body hb) I step done 0 env (Nat.zero_le _) start
  rwa [List.drop_zero] at h
/-- a comprehension as filter and map -/
theorem lcD_pure {α : Type} {bind : D → (DEnv → Prop) → Prop} {cond : DEnv → (Bool → Prop) → Prop} {elt : DEnv → (D → Prop) → Prop} {g f : α → D} {p : α → Bool} : ∀ {xs : List α} {Q : List D → Prop},
    (∀ x ∈ xs, ∀ (Qt : D → Prop) (Qf : Prop), (p x = true → Qt (f x)) → (p x = false → Qf) → bind (g x) fun e1 => cond e1 fun b => match b with
      | true => elt e1 Qt
      | false => Qf) → Q ((xs.filter p).map f) → lcD bind cond elt (xs.map g) Q
  | [], Q, _, hq => hq
  | x :: xs, Q, h, hq => by
    refine h x List.mem_cons_self (fun y => lcD bind cond elt (xs.map g) fun ys => Q (y :: ys)) (lcD bind cond elt (xs.map g) Q) (fun e => ?_) (fun e => ?_)
    · refine lcD_pure (fun x hx => h x (List.mem_cons_of_mem _ hx)) ?_
      rw [List.filter_cons_of_pos e] at hq
      exact hq
    · refine lcD_pure (fun x hx => h x (List.mem_cons_of_mem _ hx)) ?_
      rw [List.filter_cons_of_neg (by simp [e])] at hq
      exact hq
/-- a comprehension without a test -/
theorem lcD_map {α : Type} {bind : D → (DEnv → Prop) → Prop} {cond : DEnv → (Bool → Prop) → Prop} {elt : DEnv → (D → Prop) → Prop} {g f : α → D} {xs : List α} {Q : List D → Prop}
    (h : ∀ x ∈ xs, ∀ (Qt : D → Prop) (Qf : Prop), Qt (f x) → bind (g x) fun e1 => cond e1 fun b => match b with
      | true => elt e1 Qt
      | false => Qf) (hq : Q (xs.map f)) : lcD bind cond elt (xs.map g) Q :=
  lcD_pure (p := fun _ => true) (fun x hx Qt Qf h1 _ => h x hx Qt Qf (h1 rfl)) (by rw [List.filter_eq_self.mpr (fun _ _ => rfl)]; exact hq)
/-- a comprehension whose items are drawn: each has P -/
theorem lcD_all {bind : D → (DEnv → Prop) → Prop} {cond : DEnv → (Bool → Prop) → Prop} {elt : DEnv → (D → Prop) → Prop} (P : D → Prop) : ∀ {ds : List D} {Q : List D → Prop},
    (∀ x ∈ ds, ∀ (Qt : D → Prop) (Qf : Prop), (∀ y, P y → Qt y) → bind x fun e1 => cond e1 fun b => match b with
      | true => elt e1 Qt
      | false => Qf) → (∀ ys : List D, ys.length = ds.length → (∀ y ∈ ys, P y) → Q ys) → lcD bind cond elt ds Q
  | [], Q, _, hq => hq [] rfl (fun y hy => nomatch hy)
  | x :: xs, Q, h, hq => by
    refine h x List.mem_cons_self (fun y => lcD bind cond elt xs fun ys => Q (y :: ys)) (lcD bind cond elt xs Q) (fun y hy => ?_)
    refine lcD_all P (fun x hx => h x (List.mem_cons_of_mem _ hx)) fun ys hl hys => hq (y :: ys) (by rw [List.length_cons, List.length_cons, hl]) fun z hz => ?_
    rcases List.mem_cons.mp hz with rfl | hz
    · exact hy
    · exact hys z hz

theorem sIx_nn (n d : Nat) (k : Int) (h : 0 ≤ k) : HT.sIx n d (some k) = min k.toNat n := by
  obtain ⟨j, rfl⟩ := Int.eq_ofNat_of_zero_le h
  rw [show ((j : Int)).toNat = j from Int.toNat_natCast j]
  exact HT.sIx_nat n d j
theorem cut_take {α : Type} (xs : List α) (k : Int) (h : 0 ≤ k) : cutL xs none (some k) = xs.take k.toNat := by
  unfold cutL
  rw [HT.sIx_none, sIx_nn _ _ _ h, List.drop_zero, Nat.sub_zero]
  by_cases hk : k.toNat ≤ xs.length
  · rw [Nat.min_eq_left hk]
  · rw [Nat.min_eq_right (by omega), List.take_of_length_le (Nat.le_refl _), List.take_of_length_le (by omega)]
theorem cut_drop {α : Type} (xs : List α) (k : Int) (h : 0 ≤ k) : cutL xs (some k) none = xs.drop k.toNat := by
  unfold cutL
  rw [HT.sIx_none, sIx_nn _ _ _ h]
  by_cases hk : k.toNat ≤ xs.length
  · rw [Nat.min_eq_left hk, List.take_of_length_le (by rw [List.length_drop]; exact Nat.le_refl _)]
  · rw [Nat.min_eq_right (show xs.length ≤ k.toNat by omega), List.drop_eq_nil_of_le (show xs.length ≤ k.toNat by omega)]
    simp
theorem cut_mid {α : Type} (xs : List α) (j k : Int) (hj : 0 ≤ j) (hk : 0 ≤ k) : cutL xs (some j) (some k) = (xs.take k.toNat).drop j.toNat := by
  unfold cutL
  rw [sIx_nn _ _ _ hj, sIx_nn _ _ _ hk, List.drop_take]
  by_cases h1 : j.toNat ≤ xs.length
  · rw [Nat.min_eq_left h1]
    by_cases h2 : k.toNat ≤ xs.length
    · rw [Nat.min_eq_left h2]
    · rw [Nat.min_eq_right (show xs.length ≤ k.toNat by omega), List.take_of_length_le (by rw [List.length_drop]; exact Nat.le_refl _), List.take_of_length_le (by rw [List.length_drop]; omega)]
  · rw [Nat.min_eq_right (show xs.length ≤ j.toNat by omega), List.drop_eq_nil_of_le (show xs.length ≤ j.toNat by omega)]
    simp
theorem cut_all {α : Type} (xs : List α) : cutL xs none none = xs := cutL_whole ⟨rfl, rfl⟩
theorem cutL_map {α β : Type} (f : α → β) (xs : List α) (lo hi : Option Int) : cutL (xs.map f) lo hi = (cutL xs lo hi).map f := by
  unfold cutL
  rw [List.length_map, List.map_take, List.map_drop]
theorem atI_map {α β : Type} (f : α → β) (xs : List α) (i : Int) : L2.atI (xs.map f) i = (L2.atI xs i).map f := by
  unfold L2.atI
  rw [List.length_map]
  cases ixN xs.length i with
  | none => rfl
  | some j => simp
theorem atI_lt {α : Type} {xs : List α} {j : Nat} (h : j < xs.length) : L2.atI xs (j : Int) = some xs[j] := atI_nat (List.getElem?_eq_getElem h)
theorem rangeD_zero (n : Nat) : rangeD 0 (n : Int) = (List.range n).map fun (i : Nat) => D.int i := by
  unfold rangeD
  simp
theorem noMuts_iff : ∀ {ds : List D}, noMuts ds = true ↔ ∀ d ∈ ds, noMut d = true
  | [] => by simp [noMuts]
  | d :: ds => by simp [noMuts, noMuts_iff]
theorem eqDs_map {α : Type} [DecidableEq α] {f : α → D} (h : ∀ a b, eqD (f a) (f b) = decide (a = b)) : ∀ xs ys : List α, eqDs (xs.map f) (ys.map f) = decide (xs = ys)
  | [], [] => by simp [eqDs]
  | [], y :: ys => by simp [eqDs]
  | x :: xs, [] => by simp [eqDs]
  | x :: xs, y :: ys => by
    simp only [List.map_cons, eqDs, h, eqDs_map h xs ys, List.cons.injEq]
    by_cases e : x = y <;> by_cases e2 : xs = ys <;> simp [e, e2]
theorem any_map {α : Type} [DecidableEq α] {f : α → D} (h : ∀ a b, eqD (f a) (f b) = decide (a = b)) (xs : List α) (a : α) : ((xs.map f).any fun z => eqD z (f a)) = decide (a ∈ xs) := by
  rw [List.any_map, Bool.eq_iff_iff, List.any_eq_true, decide_eq_true_eq]
  constructor
  · rintro ⟨x, hx, e⟩
    rw [Function.comp_apply, h, decide_eq_true_eq] at e
    rw [← e]
    exact hx
  · intro ha
    exact ⟨a, ha, by rw [Function.comp_apply, h, decide_eq_true_eq]⟩
theorem eqD_int (a b : Int) : eqD (.int a) (.int b) = decide (a = b) := by simp [eqD]; rfl
theorem eqD_str (a b : Str) : eqD (.str a) (.str b) = decide (a = b) := by
  simp only [eqD]
  by_cases e : a = b <;> simp [e]
theorem shal_all {n : Nat} {α : Type} {f : α → D} (xs : List α) (h : ∀ a, shal n (f a) = true) : (xs.map f).all (shal n) = true := by
  rw [List.all_map, List.all_eq_true]
  exact fun x _ => h x
theorem noMuts_map {α : Type} {f : α → D} (xs : List α) (h : ∀ a, noMut (f a) = true) : noMuts (xs.map f) = true := noMuts_iff.mpr fun d hd => by
  obtain ⟨a, _, rfl⟩ := List.mem_map.mp hd
  exact h a
@[simp] theorem dBin_ai {i j : Int} {Q : D → Prop} : dBin .Add (.int i) (.int j) Q = Q (.int (i + j)) := rfl
@[simp] theorem dBin_as {a b : Str} {Q : D → Prop} : dBin .Add (.str a) (.str b) Q = (a.cps.size + b.cps.size ≤ 16777216 ∧ Q (.str (a ++ b))) := rfl
@[simp] theorem dBin_at {a b : List D} {Q : D → Prop} : dBin .Add (.tup a) (.tup b) Q = (a.length + b.length ≤ 16777216 ∧ Q (.tup (a ++ b))) := rfl
@[simp] theorem dBin_al {a b : List D} {Q : D → Prop} : dBin .Add (.lst a) (.lst b) Q = (a.length + b.length ≤ 16777216 ∧ Q (.lst (a ++ b))) := rfl
@[simp] theorem dBin_si {i j : Int} {Q : D → Prop} : dBin .Sub (.int i) (.int j) Q = Q (.int (i - j)) := rfl
@[simp] theorem dBin_mi {i j : Int} {Q : D → Prop} : dBin .Mult (.int i) (.int j) Q = (CMul i j ∧ Q (.int (i * j))) := rfl
@[simp] theorem dBin_ml {xs : List D} {k : Int} {Q : D → Prop} : dBin .Mult (.lst xs) (.int k) Q = ((-1000000000 ≤ k ∧ k ≤ 1000000000 ∧ xs.length * k.toNat ≤ 16777216) ∧ Q (.lst (List.replicate k.toNat xs).flatten)) := rfl
@[simp] theorem dBin_fi {i j : Int} {Q : D → Prop} : dBin .FloorDiv (.int i) (.int j) Q = ((0 < j ∧ j < 1073741824) ∧ Q (.int (i / j))) := rfl
@[simp] theorem dBin_oi {i j : Int} {Q : D → Prop} : dBin .Mod (.int i) (.int j) Q = (0 < j ∧ Q (.int (i % j))) := rfl
@[simp] theorem dCmp_eq {a b : D} {Q : D → Prop} : dCmp .Eq a b Q = ((shal 8 a = true ∧ shal 8 b = true) ∧ Q (.bl (eqD a b))) := rfl
@[simp] theorem dCmp_ne {a b : D} {Q : D → Prop} : dCmp .NotEq a b Q = ((shal 8 a = true ∧ shal 8 b = true) ∧ Q (.bl (!eqD a b))) := rfl
@[simp] theorem dCmp_lt {i j : Int} {Q : D → Prop} : dCmp .Lt (.int i) (.int j) Q = Q (.bl (decide (i < j))) := rfl
@[simp] theorem dCmp_le {i j : Int} {Q : D → Prop} : dCmp .LtE (.int i) (.int j) Q = Q (.bl (decide (i ≤ j))) := rfl
@[simp] theorem dCmp_gt {i j : Int} {Q : D → Prop} : dCmp .Gt (.int i) (.int j) Q = Q (.bl (decide (j < i))) := rfl
@[simp] theorem dCmp_ge {i j : Int} {Q : D → Prop} : dCmp .GtE (.int i) (.int j) Q = Q (.bl (decide (j ≤ i))) := rfl
@[simp] theorem dCmp_lts {i j : Str} {Q : D → Prop} : dCmp .Lt (.str i) (.str j) Q = Q (.bl (decide (i.cps.toList < j.cps.toList))) := rfl
@[simp] theorem dCmp_les {i j : Str} {Q : D → Prop} : dCmp .LtE (.str i) (.str j) Q = Q (.bl (!decide (j.cps.toList < i.cps.toList))) := rfl
@[simp] theorem dCmp_is {a : D} {Q : D → Prop} : dCmp .Is a .non Q = Q (.bl (isNon a)) := rfl
@[simp] theorem dCmp_isnot {a : D} {Q : D → Prop} : dCmp .IsNot a .non Q = Q (.bl (!isNon a)) := rfl
@[simp] theorem dCmp_isb {a b : Bool} {Q : D → Prop} : dCmp .Is (.bl a) (.bl b) Q = Q (.bl (a == b)) := rfl
@[simp] theorem dCmp_isnotb {a b : Bool} {Q : D → Prop} : dCmp .IsNot (.bl a) (.bl b) Q = Q (.bl (!(a == b))) := rfl
@[simp] theorem inOk_iff {a : D} {ds : List D} : inOk a ds ↔ (shal 8 a = true ∧ ds.all (shal 8) = true) ∨ (isDic a = true ∧ ds.all isTup = true) := Iff.rfl
@[simp] theorem isDic_non : isDic .non = false := rfl
@[simp] theorem isDic_bl {b : Bool} : isDic (.bl b) = false := rfl
@[simp] theorem isDic_int {b : Int} : isDic (.int b) = false := rfl
@[simp] theorem isDic_str {b : Str} : isDic (.str b) = false := rfl
@[simp] theorem isDic_tup {b : List D} : isDic (.tup b) = false := rfl
@[simp] theorem isDic_lst {b : List D} : isDic (.lst b) = false := rfl
@[simp] theorem isTup_tup {b : List D} : isTup (.tup b) = true := rfl
@[simp] theorem dCmp_int {a : D} {ds : List D} {Q : D → Prop} : dCmp .In a (.tup ds) Q = (inOk a ds ∧ Q (.bl (ds.any fun z => eqD z a))) := rfl
@[simp] theorem dCmp_inl {a : D} {ds : List D} {Q : D → Prop} : dCmp .In a (.lst ds) Q = (inOk a ds ∧ Q (.bl (ds.any fun z => eqD z a))) := rfl
@[simp] theorem dCmp_nit {a : D} {ds : List D} {Q : D → Prop} : dCmp .NotIn a (.tup ds) Q = (inOk a ds ∧ Q (.bl (!ds.any fun z => eqD z a))) := rfl
@[simp] theorem dCmp_nil {a : D} {ds : List D} {Q : D → Prop} : dCmp .NotIn a (.lst ds) Q = (inOk a ds ∧ Q (.bl (!ds.any fun z => eqD z a))) := rfl
@[simp] theorem dCmp_ins {a b : Str} {Q : D → Prop} : dCmp .In (.str a) (.str b) Q = (∃ c, a = sgn c ∧ Q (.bl (decide (c ∈ b.cps.toList)))) := rfl
@[simp] theorem dCmp_nis {a b : Str} {Q : D → Prop} : dCmp .NotIn (.str a) (.str b) Q = (∃ c, a = sgn c ∧ Q (.bl (!decide (c ∈ b.cps.toList)))) := rfl
@[simp] theorem dIx_t {ds : List D} {i : Int} {Q : D → Prop} : dIx (.tup ds) (.int i) Q = (∃ d, L2.atI ds i = some d ∧ Q d) := rfl
@[simp] theorem dIx_l {ds : List D} {i : Int} {Q : D → Prop} : dIx (.lst ds) (.int i) Q = (∃ d, L2.atI ds i = some d ∧ Q d) := rfl
@[simp] theorem dIx_s {s : Str} {i : Int} {Q : D → Prop} : dIx (.str s) (.int i) Q = (∃ c, L2.atI s.cps.toList i = some c ∧ Q (.str (sgn c))) := rfl
@[simp] theorem dSl_t {ds : List D} {l h : Option Int} {Q : D → Prop} : dSl (.tup ds) l h Q = Q (.tup (cutL ds l h)) := rfl
@[simp] theorem dSl_l {ds : List D} {l h : Option Int} {Q : D → Prop} : dSl (.lst ds) l h Q = Q (.lst (cutL ds l h)) := rfl
@[simp] theorem dSl_s {s : Str} {l h : Option Int} {Q : D → Prop} : dSl (.str s) l h Q = Q (.str (strS (cutL s.cps.toList l h))) := rfl
@[simp] theorem dBf_lens {s : Str} {Q : D → Prop} : dBf .len [.str s] Q = Q (.int s.cps.size) := rfl
@[simp] theorem dBf_lent {ds : List D} {Q : D → Prop} : dBf .len [.tup ds] Q = Q (.int ds.length) := rfl
@[simp] theorem dBf_lenl {ds : List D} {Q : D → Prop} : dBf .len [.lst ds] Q = Q (.int ds.length) := rfl
@[simp] theorem dBf_abs {i : Int} {Q : D → Prop} : dBf .abs [.int i] Q = Q (.int (if i < 0 then -i else i)) := rfl
@[simp] theorem dBf_int {i : Int} {Q : D → Prop} : dBf .int [.int i] Q = Q (.int i) := rfl
@[simp] theorem dBf_all {ds : List D} {Q : D → Prop} : dBf .all [.lst ds] Q = (∃ bs : List Bool, ds = bs.map D.bl ∧ Q (.bl (bs.all id))) := rfl
@[simp] theorem dBf_any {ds : List D} {Q : D → Prop} : dBf .any [.lst ds] Q = (∃ bs : List Bool, ds = bs.map D.bl ∧ Q (.bl (bs.any id))) := rfl
@[simp] theorem dBf_sum {ds : List D} {Q : D → Prop} : dBf .sum [.lst ds] Q = (∃ ns : List Int, ds = ns.map D.int ∧ Q (.int ns.sum)) := rfl
@[simp] theorem dBf_max {ds : List D} {Q : D → Prop} : dBf .max [.lst ds] Q = (∃ ns : List Int, ds = ns.map D.int ∧ ns ≠ [] ∧ Q (.int (maxI ns))) := rfl
@[simp] theorem dBf_min {ds : List D} {Q : D → Prop} : dBf .min [.lst ds] Q = (∃ ns : List Int, ds = ns.map D.int ∧ ns ≠ [] ∧ Q (.int (minI ns))) := rfl
@[simp] theorem dBf_max2 {i j : Int} {Q : D → Prop} : dBf .max [.int i, .int j] Q = Q (.int (if j > i then j else i)) := rfl
@[simp] theorem dBf_min2 {i j : Int} {Q : D → Prop} : dBf .min [.int i, .int j] Q = Q (.int (if j < i then j else i)) := rfl
@[simp] theorem dBf_max3 {i j k : Int} {Q : D → Prop} : dBf .max [.int i, .int j, .int k] Q = Q (.int (max (max i j) k)) := rfl
@[simp] theorem dBf_min3 {i j k : Int} {Q : D → Prop} : dBf .min [.int i, .int j, .int k] Q = Q (.int (min (min i j) k)) := rfl
@[simp] theorem dBf_str {i : Int} {Q : D → Prop} : dBf .str [.int i] Q = ((-1000000000 ≤ i ∧ i ≤ 1000000000) ∧ Q (.str (numS i))) := rfl
@[simp] theorem dMt_joinl {s : Str} {ds : List D} {Q : D → Prop} : dMt .join (.str s) [.lst ds] Q = (∃ xs : List Str, ds = xs.map D.str ∧ (xs.map fun x => x.cps.size).sum + xs.length * s.cps.size ≤ 16777216 ∧ Q (.str (joinS s xs))) := rfl
@[simp] theorem dMt_joint {s : Str} {ds : List D} {Q : D → Prop} : dMt .join (.str s) [.tup ds] Q = (∃ xs : List Str, ds = xs.map D.str ∧ (xs.map fun x => x.cps.size).sum + xs.length * s.cps.size ≤ 16777216 ∧ Q (.str (joinS s xs))) := rfl
@[simp] theorem dMt_idx {ds : List D} {a : D} {Q : D → Prop} : dMt .index (.lst ds) [a] Q = ((shal 8 a = true ∧ ds.all (shal 8) = true) ∧ ((ds.any fun z => eqD z a) = true ∧ Q (.int (ds.findIdx fun z => eqD z a)))) := rfl
@[simp] theorem mtOk_join {s : Str} : mtOk .join (.str s) = True := rfl
@[simp] theorem mtOk_index {ds : List D} : mtOk .index (.lst ds) = True := rfl
@[simp] theorem dBf_sorted {ds : List D} {Q : D → Prop} : dBf .sorted [.lst ds] Q = (∃ ns : List Int, ds = ns.map D.int ∧ Q (.lst ((sortI ns).map D.int))) := rfl
@[simp] theorem dBf_tl {ds : List D} {Q : D → Prop} : dBf .tuple [.lst ds] Q = Q (.tup ds) := rfl
@[simp] theorem dBf_tt {ds : List D} {Q : D → Prop} : dBf .tuple [.tup ds] Q = Q (.tup ds) := rfl
@[simp] theorem dBf_ll {ds : List D} {Q : D → Prop} : dBf .list [.lst ds] Q = Q (.lst ds) := rfl
@[simp] theorem dBf_lt {ds : List D} {Q : D → Prop} : dBf .list [.tup ds] Q = Q (.lst ds) := rfl
@[simp] theorem dBf_ord {s : Str} {Q : D → Prop} : dBf .ord [.str s] Q = (∃ c, s = sgn c ∧ Q (.int c)) := rfl
@[simp] theorem dItems_l {ds : List D} {Q : List D → Prop} : dItems (.lst ds) Q = Q ds := rfl
@[simp] theorem dItems_t {ds : List D} {Q : List D → Prop} : dItems (.tup ds) Q = Q ds := rfl
@[simp] theorem dItems_s {s : Str} {Q : List D → Prop} : dItems (.str s) Q = Q (s.cps.toList.map fun c => .str (sgn c)) := rfl
@[simp] theorem partD_n {t : (D → Prop) → Prop} {Q : Option Int → Prop} : partD true t Q = Q none := rfl
@[simp] theorem partD_s {t : (D → Prop) → Prop} {Q : Option Int → Prop} : partD false t Q = t fun d => match d with
    | .int i => Q (some i)
    | _ => False := rfl
@[simp] theorem condD_n {t : (D → Prop) → Prop} {Q : Bool → Prop} : condD true t Q = Q true := rfl
@[simp] theorem condD_s {t : (D → Prop) → Prop} {Q : Bool → Prop} : condD false t Q = t fun d => match d with
    | .bl b => Q b
    | _ => False := rfl
@[simp] theorem bindT_v {env : DEnv} {i : Nat} {d : D} {Q : DEnv → Prop} : bindT env (.var i) d Q = Q (env.set i (.sh d)) := rfl
@[simp] theorem bindT_t {env : DEnv} {es : E} {ds : List D} {Q : DEnv → Prop} : bindT env (.tup es) (.tup ds) Q = bindTs env es ds Q := rfl
@[simp] theorem bindTs_n {env : DEnv} {Q : DEnv → Prop} : bindTs env .nil [] Q = Q env := rfl
@[simp] theorem bindTs_c {env : DEnv} {i : Nat} {r : E} {d : D} {ds : List D} {Q : DEnv → Prop} : bindTs env (.cons (.var i) r) (d :: ds) Q = bindTs (env.set i (.sh d)) r ds Q := rfl
@[simp] theorem isNil_cons {a b} : E.isNil (.cons a b) = false := rfl
@[simp] theorem isNil_var {i} : E.isNil (.var i) = false := rfl
@[simp] theorem isNil_non : E.isNil .non = false := rfl
@[simp] theorem isNil_bl {b} : E.isNil (.bl b) = false := rfl
@[simp] theorem isNil_int {i} : E.isNil (.int i) = false := rfl
@[simp] theorem isNil_str {s} : E.isNil (.str s) = false := rfl
@[simp] theorem isNil_glob {x d} : E.isNil (.glob x d) = false := rfl
@[simp] theorem isNil_bin {o a b} : E.isNil (.bin o a b) = false := rfl
@[simp] theorem isNil_neg {a} : E.isNil (.neg a) = false := rfl
@[simp] theorem isNil_cmp {o a b} : E.isNil (.cmp o a b) = false := rfl
@[simp] theorem isNil_chain {o p a b c} : E.isNil (.chain o p a b c) = false := rfl
@[simp] theorem isNil_andd {a b} : E.isNil (.andd a b) = false := rfl
@[simp] theorem isNil_orr {a b} : E.isNil (.orr a b) = false := rfl
@[simp] theorem isNil_nott {a} : E.isNil (.nott a) = false := rfl
@[simp] theorem isNil_ite {c a b} : E.isNil (.ite c a b) = false := rfl
@[simp] theorem isNil_tup {es} : E.isNil (.tup es) = false := rfl
@[simp] theorem isNil_lst {es} : E.isNil (.lst es) = false := rfl
@[simp] theorem isNil_ix {a b} : E.isNil (.ix a b) = false := rfl
@[simp] theorem isNil_sl {a lo hi} : E.isNil (.sl a lo hi) = false := rfl
@[simp] theorem isNil_call {f sp es} : E.isNil (.call f sp es) = false := rfl
@[simp] theorem isNil_bf {f es} : E.isNil (.bf f es) = false := rfl
@[simp] theorem isNil_lenset {a} : E.isNil (.lenset a) = false := rfl
@[simp] theorem isNil_mt {m o es} : E.isNil (.mt m o es) = false := rfl
@[simp] theorem isNil_isin {a ts} : E.isNil (.isin a ts) = false := rfl
@[simp] theorem isNil_lc {w a b c d} : E.isNil (.lc w a b c d) = false := rfl
@[simp] theorem isNil_lc2 {w a b c d e f g} : E.isNil (.lc2 w a b c d e f g) = false := rfl
@[simp] theorem isNil_r1 {a} : E.isNil (.r1 a) = false := rfl
@[simp] theorem isNil_r2 {a b} : E.isNil (.r2 a b) = false := rfl
@[simp] theorem isNil_r3 {a b c} : E.isNil (.r3 a b c) = false := rfl
@[simp] theorem isNil_nil : E.isNil .nil = true := rfl
@[simp] theorem atI_0 {α : Type} {x0 : α} {r : List α} : L2.atI (x0 :: r) 0 = some x0 := atI_nat (j := 0) rfl
@[simp] theorem atI_1 {α : Type} {x0 x1 : α} {r : List α} : L2.atI (x0 :: x1 :: r) 1 = some x1 := atI_nat (j := 1) rfl
@[simp] theorem atI_2 {α : Type} {x0 x1 x2 : α} {r : List α} : L2.atI (x0 :: x1 :: x2 :: r) 2 = some x2 := atI_nat (j := 2) rfl
@[simp] theorem atI_3 {α : Type} {x0 x1 x2 x3 : α} {r : List α} : L2.atI (x0 :: x1 :: x2 :: x3 :: r) 3 = some x3 := atI_nat (j := 3) rfl
@[simp] theorem atI_4 {α : Type} {x0 x1 x2 x3 x4 : α} {r : List α} : L2.atI (x0 :: x1 :: x2 :: x3 :: x4 :: r) 4 = some x4 := atI_nat (j := 4) rfl
@[simp] theorem atI_5 {α : Type} {x0 x1 x2 x3 x4 x5 : α} {r : List α} : L2.atI (x0 :: x1 :: x2 :: x3 :: x4 :: x5 :: r) 5 = some x5 := atI_nat (j := 5) rfl
@[simp] theorem ownL_ow {env : DEnv} {i : Nat} {Q : List D → Prop} {ds : List D} (h : env[i]? = some (Sl.ow (.lst ds))) : ownL env i Q = Q ds := by
  unfold ownL
  rw [h]
@[simp] theorem noMut_non : noMut .non = true := rfl
@[simp] theorem noMut_bl {b : Bool} : noMut (.bl b) = true := rfl
@[simp] theorem noMut_int {b : Int} : noMut (.int b) = true := rfl
@[simp] theorem noMut_str {b : Str} : noMut (.str b) = true := rfl
@[simp] theorem noMut_lst {b : List D} : noMut (.lst b) = false := rfl
@[simp] theorem noMut_tape {b : Bool} : noMut (.tape b) = true := rfl
@[simp] theorem noMut_tup {b : List D} : noMut (.tup b) = noMuts b := by simp [noMut]
@[simp] theorem noMuts_nil : noMuts [] = true := rfl
@[simp] theorem noMuts_cons {d : D} {b : List D} : noMuts (d :: b) = (noMut d && noMuts b) := by simp [noMuts]
@[simp] theorem shal_non  {n : Nat} : shal n .non = true := by cases n <;> rfl
@[simp] theorem shal_bl {b : Bool} {n : Nat} : shal n (.bl b) = true := by cases n <;> rfl
@[simp] theorem shal_int {b : Int} {n : Nat} : shal n (.int b) = true := by cases n <;> rfl
@[simp] theorem shal_str {b : Str} {n : Nat} : shal n (.str b) = true := by cases n <;> rfl
@[simp] theorem shal_tup {ds : List D} {n : Nat} : shal (n + 1) (.tup ds) = ds.all (shal n) := by simp [shal]
@[simp] theorem shal_lst {ds : List D} {n : Nat} : shal (n + 1) (.lst ds) = ds.all (shal n) := by simp [shal]
theorem keeps_noMut {e : E} {d : D} (h : noMut d = true) : keeps e d = true := by
  unfold keeps
  rw [h]
  rfl
theorem keeps_fresh {e : E} {ds : List D} (h : e.fresh = true) (h2 : noMuts ds = true) : keeps e (.lst ds) = true := by
  show (noMut (D.lst ds) || (e.fresh && noMuts ds)) = true
  rw [h, h2]
  rfl
theorem aft_keeps {e : E} {d : D} {env : DEnv} (h : keeps e d = true) : aft e d env = env := by
  unfold aft
  rw [h]
  rfl
@[simp] theorem lenvS {s : Sl} {env : DEnv} : rdv (s :: env) 0 = s.val := rfl
@[simp] theorem lenvC {s : Sl} {env : DEnv} {i : Nat} : rdv (s :: env) (i + 1) = rdv env i := rfl
@[simp] theorem val_sh {d : D} : (Sl.sh d).val = some d := rfl
@[simp] theorem val_ow {d : D} : (Sl.ow d).val = some d := rfl
end DL

set_option Elab.async false
set_option linter.all false
set_option maxRecDepth 100000
set_option maxHeartbeats 2000000
/-! DL22: ranges and further rules. -/
namespace DL
open PySem PySem.Spec PyProof.Rows L2
theorem range_row (n i : Nat) (p : Nat → Bool) (h : i < n) : ((List.range n).filter fun j => decide (i < j) && p j) = (List.range' (i + 1) (n - (i + 1))).filter p := by
  have e : List.range n = List.range (i + 1) ++ List.range' (i + 1) (n - (i + 1)) := by
    have := List.range'_append (s := 0) (m := i + 1) (n := n - (i + 1)) (step := 1)
    rw [List.range_eq_range', List.range_eq_range', show n = (i + 1) + (n - (i + 1)) by omega, ← this]
    simp
  rw [e, List.filter_append]
  rw [List.filter_eq_nil_iff.mpr (by intro a ha; simp at ha ⊢; omega), List.nil_append]
  apply List.filter_congr
  intro x hx
  rw [List.mem_range'_1] at hx
  simp; omega
theorem rangeD_get {n : Nat} {k : Nat} {d : D} (h : (rangeD 0 (n : Int))[k]? = some d) : k < n ∧ d = .int k := by
  rw [rangeD_zero, List.getElem?_map] at h
  cases e : (List.range n)[k]? with
  | none => rw [e] at h; exact absurd h (by simp)
  | some j =>
    rw [e] at h
    obtain ⟨h1, h2⟩ := List.getElem?_eq_some_iff.mp e
    simp at h1 h2 h
    exact ⟨h1, by rw [← h, h2]⟩
@[simp] theorem noMuts_rangeD {a b : Int} : noMuts (rangeD a b) = true := by
  unfold rangeD
  exact noMuts_map _ fun _ => rfl
theorem rangeD_len {n : Nat} : (rangeD 0 (n : Int)).length = n := by simp [rangeD]
theorem rangeD_nat (a b : Nat) : rangeD (a : Int) (b : Int) = (List.range' a (b - a)).map fun (i : Nat) => D.int i := by
  unfold rangeD
  rw [show ((b : Int) - (a : Int)).toNat = b - a by omega, List.range'_eq_map_range, List.map_map]
  apply List.map_congr_left
  intro x _
  simp

/-! ### statement by statement -/
theorem sem_le {e : E} (m : e.monos) {env : DEnv} {Q Q' : D → Prop} (h : semE e env Q) (q : ∀ d, Q d → Q' d) : semE e env Q' := (sem_mono e m).1 env Q Q' h q
theorem aft_nm {e : E} {d : D} {env : DEnv} (h : noMut d = true) : aft e d env = env := aft_keeps (keeps_noMut h)
theorem newSl_nm {e : E} {d : D} (h : noMut d = true) : newSl e d = .sh d := by
  cases d with
  | lst ds => exact absurd h (by simp)
  | _ => rfl
section
variable {e c tg it : E} {r a b body : S} {en : DEnds} {env : DEnv} {i j : Nat}
/-- a name is set to something unchanging -/
theorem st_sh (P : D → Prop) (m : e.monos) (he : semE e env P) (nm : ∀ d, P d → noMut d = true) (nx : ∀ d, P d → semS r en (env.set i (.sh d))) : semS (.cons (.asg i e) r) en env := by
  show semE e env fun d => semS r en ((aft e d env).set i (newSl e d))
  exact sem_le m he fun d h => by
    rw [aft_nm (nm d h), newSl_nm (nm d h)]
    exact nx d h
/-- a name is set to a new list of unchanging things -/
theorem st_ow (P : List D → Prop) (m : e.monos) (hf : e.fresh = true) (he : semE e env fun d => ∃ ds, d = .lst ds ∧ P ds) (nm : ∀ ds, P ds → noMuts ds = true) (nx : ∀ ds, P ds → semS r en (env.set i (.ow (.lst ds)))) : semS (.cons (.asg i e) r) en env := by
  show semE e env fun d => semS r en ((aft e d env).set i (newSl e d))
  exact sem_le m he fun d h => by
    obtain ⟨ds, rfl, h⟩ := h
    rw [aft_keeps (keeps_fresh hf (nm _ h)), show newSl e (.lst ds) = .ow (.lst ds) from if_pos hf]
    exact nx ds h
/-- a name is set to any list -/
theorem st_ls (P : List D → Prop) (m : e.monos) (hf : e.fresh = false) (he : semE e env fun d => ∃ ds, d = .lst ds ∧ P ds) (nx : ∀ ds, P ds → semS r en ((frz env e.vars).set i (.sh (.lst ds)))) : semS (.cons (.asg i e) r) en env := by
  show semE e env fun d => semS r en ((aft e d env).set i (newSl e d))
  exact sem_le m he fun d h => by
    obtain ⟨ds, rfl, h⟩ := h
    have e1 : keeps e (.lst ds) = false := by
      show (noMut (.lst ds) || (e.fresh && noMuts ds)) = false
      rw [hf]
      rfl
    have e2 : aft e (.lst ds) env = frz env e.vars := by
      unfold aft
      rw [e1]
      rfl
    rw [e2, show newSl e (.lst ds) = .sh (.lst ds) from if_neg (by rw [hf]; exact Bool.false_ne_true)]
    exact nx ds h
/-- a new list of changing things: owned, and what its expression names is shared -/
theorem st_owf (P : List D → Prop) (m : e.monos) (hf : e.fresh = true) (he : semE e env fun d => ∃ ds, d = .lst ds ∧ P ds) (nx : ∀ ds, P ds → semS r en ((aft e (.lst ds) env).set i (.ow (.lst ds)))) : semS (.cons (.asg i e) r) en env := by
  show semE e env fun d => semS r en ((aft e d env).set i (newSl e d))
  exact sem_le m he fun d h => by
    obtain ⟨ds, rfl, h⟩ := h
    rw [show newSl e (.lst ds) = .ow (.lst ds) from if_pos hf]
    exact nx ds h
/-- an if -/
theorem st_if (P : Bool → Prop) (m : c.monos) (he : semE c env fun d => ∃ b, d = .bl b ∧ P b) (t : P true → semS a { en with nx := semS r en } env) (f : P false → semS b { en with nx := semS r en } env) : semS (.cons (.iff c a b) r) en env := by
  show semE c env fun d => match d with
    | .bl true => semS a { en with nx := semS r en } env
    | .bl false => semS b { en with nx := semS r en } env
    | _ => False
  exact sem_le m he fun d h => by
    obtain ⟨x, rfl, h⟩ := h
    cases x with
    | true => exact t h
    | false => exact f h
/-- an if whose two roads meet again -/
theorem st_ifJ (P : Bool → Prop) (J : DEnv → Prop) (m : c.monos) (ma : a.monos) (mb : b.monos) (he : semE c env fun d => ∃ b, d = .bl b ∧ P b) (t : P true → semS a { en with nx := J } env) (f : P false → semS b { en with nx := J } env) (nx : ∀ env, J env → semS r en env) : semS (.cons (.iff c a b) r) en env :=
  st_if P m he (fun h => semS_mono a ma { en with nx := J } { en with nx := semS r en } ⟨nx, fun _ h => h, fun _ h => h, fun _ h => h⟩ _ (t h)) (fun h => semS_mono b mb { en with nx := J } { en with nx := semS r en } ⟨nx, fun _ h => h, fun _ h => h, fun _ h => h⟩ _ (f h))
/-- an if whose test is false: nothing happens -/
theorem st_no (m : c.monos) (he : semE c env fun d => d = .bl false) : semS r en env → semS (.cons (.iff c a .nil) r) en env := fun h => by
  refine st_if (fun b => b = false) m (sem_le m he fun d e => ⟨false, e, rfl⟩) (fun e => ?_) (fun _ => h)
  cases e
/-- a for over what is walked, by an invariant; what is walked is unchanging inside -/
theorem st_for (P : List D → Prop) (m : it.monos) (hf : it.fresh = true) (he : semE it env fun d => ∃ ds, d = .lst ds ∧ P ds) (nm : ∀ ds, P ds → noMuts ds = true) (hb : body.monos) (I : List D → Nat → DEnv → Prop)
    (start : ∀ ds, P ds → I ds 0 env)
    (step : ∀ ds, P ds → ∀ k d env, ds[k]? = some d → I ds k env → bindT env tg d fun e1 => semS body { nx := I ds (k + 1), rt := en.rt, bk := semS r en, ct := I ds (k + 1) } e1)
    (done : ∀ ds, P ds → ∀ env, I ds ds.length env → semS r en env) : semS (.cons (.for_ tg it body) r) en env := by
  show semE it env fun w => dItems w fun items => forD (fun e1 d => bindT e1 tg d) (semS body) { en with nx := semS r en } items (aft it w env)
  exact sem_le m he fun d h => by
    obtain ⟨ds, rfl, h⟩ := h
    rw [aft_keeps (keeps_fresh hf (nm _ h))]
    exact for_inv hb (I ds) (start ds h) (step ds h) (done ds h)
/-- a for over something that is not new -/
theorem st_for' {env' : DEnv} (P : List D → Prop) (m : it.monos) (he : semE it env fun d => dItems d fun ds => P ds ∧ aft it d env = env') (hb : body.monos) (I : List D → Nat → DEnv → Prop)
    (start : ∀ ds, P ds → I ds 0 env')
    (step : ∀ ds, P ds → ∀ k d env, ds[k]? = some d → I ds k env → bindT env tg d fun e1 => semS body { nx := I ds (k + 1), rt := en.rt, bk := semS r en, ct := I ds (k + 1) } e1)
    (done : ∀ ds, P ds → ∀ env, I ds ds.length env → semS r en env) : semS (.cons (.for_ tg it body) r) en env := by
  show semE it env fun w => dItems w fun items => forD (fun e1 d => bindT e1 tg d) (semS body) { en with nx := semS r en } items (aft it w env)
  exact sem_le m he fun d h => dItems_mono h fun ds ⟨h, e⟩ => by
    rw [e]
    exact for_inv hb (I ds) (start ds h) (step ds h) (done ds h)
/-- an append -/
theorem st_app {ds : List D} (P : D → Prop) (m : e.monos) (ho : env[i]? = some (.ow (.lst ds))) (he : semE e env P) (nm : ∀ d, P d → noMut d = true) (hl : ds.length < 16777216) (nx : ∀ d, P d → semS r en (env.set i (.ow (.lst (ds ++ [d]))))) : semS (.cons (.app i e) r) en env := by
  show ownL env i fun _ => semE e env fun d => ownL (aft e d env) i fun ds => ds.length < 16777216 ∧ semS r en ((aft e d env).set i (.ow (.lst (ds ++ [d]))))
  rw [ownL_ow ho]
  exact sem_le m he fun d h => by
    rw [aft_nm (nm d h), ownL_ow ho]
    exact ⟨hl, nx d h⟩
end
theorem spNum_iff {m : Int} {Q : D → Prop} : spNum true [.tape true, .int m] Q ↔ (0 < m ∧ m < 1073741824) ∧ ∀ r : Int, 0 ≤ r → r < m → Q (.int r) := by
  constructor
  · rintro ⟨m', e, ⟨h1, h2⟩, h, _⟩
    cases e
    exact ⟨⟨h1 rfl, h2⟩, h⟩
  · rintro ⟨⟨h1, h2⟩, h⟩
    exact ⟨m, rfl, ⟨fun _ => h1, h2⟩, h, fun z => by omega⟩
theorem spTake_iff {m : Int} {Q : D → Prop} : spNum false [.tape false, .int m] Q ↔ m < 1073741824 ∧ (∀ r : Int, 0 ≤ r → r < m → Q (.int r)) ∧ (m ≤ 0 → Q (.int 0)) := by
  constructor
  · rintro ⟨m', e, ⟨h1, h2⟩, h, h3⟩
    cases e
    exact ⟨h2, h, h3⟩
  · rintro ⟨h2, h, h3⟩
    exact ⟨m, rfl, ⟨(fun z => (nomatch z)), h2⟩, h, h3⟩
theorem spPick_lst {k : Bool} {xs : List D} {Q : D → Prop} (h : (xs ≠ [] ∧ xs.length < 1073741824) ∧ ∀ x ∈ xs, Q x) : spPick k [.tape k, .lst xs] Q := ⟨_, _, rfl, .inl rfl, h.1.1, h.1.2, h.2⟩
theorem spPick_tup {k : Bool} {xs : List D} {Q : D → Prop} (h : (xs ≠ [] ∧ xs.length < 1073741824) ∧ ∀ x ∈ xs, Q x) : spPick k [.tape k, .tup xs] Q := ⟨_, _, rfl, .inr rfl, h.1.1, h.1.2, h.2⟩
theorem all_map {α : Type} {f : α → D} : ∀ {ys : List D}, (∀ y ∈ ys, ∃ w, y = f w) → ∃ ws : List α, ys = ws.map f
  | [], _ => ⟨[], rfl⟩
  | y :: ys, h => by
    obtain ⟨w, rfl⟩ := h y List.mem_cons_self
    obtain ⟨ws, rfl⟩ := all_map (fun z hz => h z (List.mem_cons_of_mem _ hz))
    exact ⟨w :: ws, rfl⟩
theorem eqDs_refl : ∀ {ds : List D}, (∀ d ∈ ds, eqD d d = true) → eqDs ds ds = true
  | [], _ => by simp [eqDs]
  | d :: ds, h => by
    simp only [eqDs]
    rw [h d List.mem_cons_self, eqDs_refl (fun z hz => h z (List.mem_cons_of_mem _ hz))]
    rfl
theorem eqD_refl : ∀ (n : Nat) {d : D}, shal n d = true → eqD d d = true
  | 0, d, h => by cases d <;> first | (simp [eqD]; done) | cases h
  | n + 1, d, h => by
    cases d with
    | tup ds =>
      rw [shal_tup, List.all_eq_true] at h
      simp only [eqD]
      exact eqDs_refl fun d hd => eqD_refl n (h d hd)
    | lst ds =>
      rw [shal_lst, List.all_eq_true] at h
      simp only [eqD]
      exact eqDs_refl fun d hd => eqD_refl n (h d hd)
    | _ => first | (simp [eqD]; done) | cases h
end DL

set_option Elab.async false
set_option linter.all false
set_option maxRecDepth 100000
set_option maxHeartbeats 2000000
/-! DL23: what the makers of the source of numbers and the takers from it do. -/
namespace DL
open PySem PySem.Spec PyProof.Rows L2

def dg (x : Str) : TE := tDGet (tVar 0) (tC (.str x))
def rInt1 : List V → Hp → VK → Prop := fun xs H Q => (∃ i, xs = [V.int i] ∧ Q (V.int i) H) ∨ ∃ k, xs = [V.bl k] ∧ Q (V.int (if k = true then 1 else 0)) H
def rLen1 (K : PySem.W.Frag) : List V → Hp → VK → Prop := fun xs H Q => ∃ x n, xs = [x] ∧ LenV K x H n ∧ Q (V.int ↑n) H
def rMod1 : R2 := rI (fun x j => 0 < j) fun i j => V.int (i % j)
def rDiv1 : R2 := rI CDiv fun i j => V.int (i / j)
def rMul1 : R2 := rI CMul fun i j => V.int (i * j)
def rAdd1 : R2 := rI0 fun i j => V.int (i + j)
def putA : TS := sDPut (tVar 0) (tC (.str "at")) (tOp rAdd1 (dg "at") (tC (.int 1)))
def putB : TS := sDPut (tVar 0) (tC (.str "big")) (tVar 2)
def putB2 : TS := sDPut (tVar 0) (tC (.str "big")) (tOp rDiv1 (dg "big") (tVar 1))
def seed1 : TE := tOp rMod1 (tCB rInt1 (tCons (tOp rAdd1 (tOp rAdd1 (tOp rMul1 (dg "seed") (tC (.int 48271))) (tOp rMul1 (tVar 2) (tC (.int 16807)))) (tC (.int 11))) tNil)) (tC (.int 2147483647))
def seed2 : TE := tOp rMod1 (tCB rInt1 (tCons (tOp rAdd1 (tOp rMul1 (dg "seed") (tC (.int 48271))) (tC (.int 11))) tNil)) (tC (.int 2147483647))
def out1 : TE := tOp rMod1 (tCB rInt1 (tCons (dg "big") tNil)) (tVar 1)
def out2 : TE := tOp rMod1 (tCB rInt1 (tCons (tOp rDiv1 (dg "seed") (tC (.int 7))) tNil)) (tVar 1)
def nx1 (K : PySem.W.Frag) : TS := tIfS (tAnd (tB (tEqI (dg "big") (tC (.int 0)))) (tB (tLt (dg "at") (tCB (rLen1 K) (tCons (dg "cells") tNil)))))
  (tSeq (tAsg (tOp (rIxL K) (dg "cells") (dg "at")) (gName 2)) (tSeq putA (tSeq (tIfS (tB (tGe (tVar 2) (tOp (rI CPow fun i j => V.int (i ^ j.toNat)) (tC (.int 10)) (tC (.int 18))))) putB tNext)
    (sDPut (tVar 0) (tC (.str "seed")) seed1)))) tNext
def nx2 : TS := tSeq (tIfS (tB (tGt (dg "big") (tC (.int 0)))) (tSeq (tAsg out1 (gName 3)) (tSeq putB2 (tRet (tVar 3)))) tNext) (tSeq (sDPut (tVar 0) (tC (.str "seed")) seed2) (tRet out2))
def nxAll (K : PySem.W.Frag) : TS := tSeq (nx1 K) nx2

structure Tp (p c : Addr) (ns : List Int) (H0 H : Hp) (a b s : Int) : Prop where
  ext : ∀ x o, H0 x = some o → x ∉ [p, c] → H x = some o
  a0 : 0 ≤ a
  b0 : 0 ≤ b
  hp : H p = some (.dK (tapeD c a b s))
  hc : H c = some (.lst (ns.map V.int))
  ne : p ≠ c
section
variable {p c : Addr} {ns : List Int} {H0 H : Hp} {a b s x m : Int} {σ : L2.St} {Q : VK}
theorem ite_dec {p : Prop} [Decidable p] {A B : Prop} (h : p → A) (h' : ¬ p → B) : if decide p = true then A else B := by
  by_cases q : p
  · rw [if_pos (decide_eq_true q)]
    exact h q
  · rw [if_neg (by rw [decide_eq_false q]; exact Bool.false_ne_true)]
    exact h' q
theorem upd_self {H : Hp} {a : Addr} {o : HO} : upd H a o a = some o := by simp [upd]
theorem upd_ne {H : Hp} {a b : Addr} {o : HO} (h : b ≠ a) : upd H a o b = H b := by simp [upd, h]
theorem Tp.put (t : Tp p c ns H0 H a b s) {a' b' s' : Int} (ha : 0 ≤ a') (hb : 0 ≤ b') : Tp p c ns H0 (upd H p (.dK (tapeD c a' b' s'))) a' b' s' :=
  ⟨fun y o e n => by rw [upd_ne (fun z => n (by rw [z]; exact List.mem_cons_self))]; exact t.ext y o e n, ha, hb, upd_self, by rw [upd_ne (Ne.symm t.ne)]; exact t.hc, t.ne⟩
theorem dput (y : Str) (v : V) (t : Tp p c ns H0 H a b s) : DPut H p (.str y) v (upd H p (.dK (putK (tapeD c a b s) (.inr y) v))) := DPut.k (k := .inr y) t.hp tape_len
theorem dg_a (h0 : σ[0]? = some (some (.ref p))) (t : Tp p c ns H0 H a b s) (q : Q (.int a) H) : dg "at" σ H Q := ⟨_, h0, p, _, rfl, by rw [← get_a (c := c) (a := a) (b := b) (s := s)]; exact DGet.k (k := .inr "at") t.hp, q⟩
theorem dg_b (h0 : σ[0]? = some (some (.ref p))) (t : Tp p c ns H0 H a b s) (q : Q (.int b) H) : dg "big" σ H Q := ⟨_, h0, p, _, rfl, by rw [← get_b (c := c) (a := a) (b := b) (s := s)]; exact DGet.k (k := .inr "big") t.hp, q⟩
theorem dg_s (h0 : σ[0]? = some (some (.ref p))) (t : Tp p c ns H0 H a b s) (q : Q (.int s) H) : dg "seed" σ H Q := ⟨_, h0, p, _, rfl, by rw [← get_s (c := c) (a := a) (b := b) (s := s)]; exact DGet.k (k := .inr "seed") t.hp, q⟩
theorem dg_c (h0 : σ[0]? = some (some (.ref p))) (t : Tp p c ns H0 H a b s) (q : Q (.ref c) H) : dg "cells" σ H Q := ⟨_, h0, p, _, rfl, by rw [← get_c (c := c) (a := a) (b := b) (s := s)]; exact DGet.k (k := .inr "cells") t.hp, q⟩
theorem cmul_r {i j : Int} (h1 : -(2 ^ 64) < j) (h2 : j < 2 ^ 64) : CMul i j := .inr ⟨h1, h2⟩
theorem seed1_ok {v : Int} (h0 : σ[0]? = some (some (.ref p))) (h2 : σ[2]? = some (some (.int v))) (t : Tp p c ns H0 H a b s) (q : ∀ z, Q (.int z) H) : seed1 σ H Q :=
  dg_s h0 t ⟨_, _, rfl, rfl, cmul_r (by decide) (by decide), _, h2, ⟨_, _, rfl, rfl, cmul_r (by decide) (by decide), ⟨_, _, rfl, rfl, ⟨_, _, rfl, rfl, .inl ⟨_, rfl, ⟨_, _, rfl, rfl, (show (0 : Int) < 2147483647 by decide), q _⟩⟩⟩⟩⟩⟩
theorem seed2_ok (h0 : σ[0]? = some (some (.ref p))) (t : Tp p c ns H0 H a b s) (q : ∀ z, Q (.int z) H) : seed2 σ H Q :=
  dg_s h0 t ⟨_, _, rfl, rfl, cmul_r (by decide) (by decide), ⟨_, _, rfl, rfl, .inl ⟨_, rfl, ⟨_, _, rfl, rfl, (show (0 : Int) < 2147483647 by decide), q _⟩⟩⟩⟩
theorem out1_ok (h0 : σ[0]? = some (some (.ref p))) (h1 : σ[1]? = some (some (.int m))) (hm : 0 < m) (t : Tp p c ns H0 H a b s) (q : ∀ z, 0 ≤ z → z < m → Q (.int z) H) : out1 σ H Q :=
  dg_b h0 t (.inl ⟨_, rfl, _, h1, _, _, rfl, rfl, hm, q _ (Int.emod_nonneg _ (by omega)) (Int.emod_lt_of_pos _ hm)⟩)
theorem out2_ok (h0 : σ[0]? = some (some (.ref p))) (h1 : σ[1]? = some (some (.int m))) (hm : 0 < m) (t : Tp p c ns H0 H a b s) (q : ∀ z, 0 ≤ z → z < m → Q (.int z) H) : out2 σ H Q :=
  dg_s h0 t ⟨_, _, rfl, rfl, ⟨by decide, by decide⟩, .inl ⟨_, rfl, _, h1, _, _, rfl, rfl, hm, q _ (Int.emod_nonneg _ (by omega)) (Int.emod_lt_of_pos _ hm)⟩⟩
theorem nx2_ok {D : Ends} (h0 : σ[0]? = some (some (.ref p))) (h1 : σ[1]? = some (some (.int m))) (h3 : 3 < σ.length) (hm : 0 < m) (hm2 : m < 1073741824) (t : Tp p c ns H0 H a b s)
    (q : ∀ z H', 0 ≤ z → z < m → (∃ a b s, Tp p c ns H0 H' a b s) → D.rt (.int z) H') : nx2 D σ H := by
  show dg "big" σ H _
  refine dg_b h0 t ⟨_, _, rfl, rfl, _, rfl, ?_⟩
  have tail : ∀ (σ : L2.St), σ[0]? = some (some (.ref p)) → σ[1]? = some (some (.int m)) → (tSeq (sDPut (tVar 0) (tC (.str "seed")) seed2) (tRet out2)) D σ H := fun σ h0 h1 => by
    show seed2 σ H _
    refine seed2_ok h0 t fun z => ?_
    refine ⟨_, h0, p, _, rfl, dput _ _ t, ?_⟩
    rw [put_s]
    show out2 σ _ _
    exact out2_ok h0 h1 hm (t.put t.a0 t.b0) fun r hr hr2 => q r _ hr hr2 ⟨_, _, _, t.put t.a0 t.b0⟩
  refine ite_dec (p := (0 : Int) < b) (fun hb => ?_) (fun hb => ?_)
  · show out1 σ H _
    refine out1_ok h0 h1 hm t fun z z0 z1 => ?_
    have e0 : (σ.set 3 (some (V.int z)))[0]? = some (some (.ref p)) := by rw [List.getElem?_set_ne (by decide)]; exact h0
    have e1 : (σ.set 3 (some (V.int z)))[1]? = some (some (.int m)) := by rw [List.getElem?_set_ne (by decide)]; exact h1
    have e3 : (σ.set 3 (some (V.int z)))[3]? = some (some (.int z)) := List.getElem?_set_self h3
    show dg "big" (σ.set 3 (some (V.int z))) H _
    refine dg_b e0 t ⟨_, e1, _, _, rfl, rfl, ⟨hm, hm2⟩, _, e0, p, _, rfl, dput _ _ t, ?_⟩
    rw [put_b]
    exact ⟨_, e3, q z _ z0 z1 ⟨_, _, _, t.put t.a0 (Int.ediv_nonneg t.b0 (by omega))⟩⟩
  · exact tail σ h0 h1
theorem nx_ok {K : PySem.W.Frag} {D : Ends} (h0 : σ[0]? = some (some (.ref p))) (h1 : σ[1]? = some (some (.int m))) (h3 : σ.length = 4) (hm : 0 < m) (hm2 : m < 1073741824) (t : Tp p c ns H0 H a b s)
    (q : ∀ z H', 0 ≤ z → z < m → (∃ a b s, Tp p c ns H0 H' a b s) → D.rt (.int z) H') : nxAll K D σ H := by
  show dg "big" σ H _
  refine dg_b h0 t ⟨_, _, rfl, rfl, _, rfl, ?_⟩
  have no : nx2 D σ H := nx2_ok h0 h1 (by omega) hm hm2 t q
  refine ite_dec (p := b = (0 : Int)) (fun hb => ?_) (fun hb => no)
  · show dg "at" σ H _
    refine dg_a h0 t ?_
    show dg "cells" σ H _
    refine dg_c h0 t ⟨_, _, rfl, .inl ⟨_, SqL.of t.hc, rfl⟩, _, _, rfl, rfl, _, rfl, ?_⟩
    refine ite_dec (p := a < ((ns.map V.int).length : Int)) (fun ha => ?_) (fun ha => no)
    · show dg "cells" σ H _
      refine dg_c h0 t ?_
      show dg "at" σ H _
      obtain ⟨j, e⟩ := Int.eq_ofNat_of_zero_le t.a0
      rw [List.length_map] at ha
      have hj : j < ns.length := by omega
      refine dg_a h0 t ⟨_, _, _, .int ns[j], rfl, rfl, SqL.of t.hc, by rw [e]; exact atI_nat (by rw [List.getElem?_map, List.getElem?_eq_getElem hj]; rfl), ?_⟩
      have e0 : (σ.set 2 (some (V.int ns[j])))[0]? = some (some (.ref p)) := by rw [List.getElem?_set_ne (by decide)]; exact h0
      have e1 : (σ.set 2 (some (V.int ns[j])))[1]? = some (some (.int m)) := by rw [List.getElem?_set_ne (by decide)]; exact h1
      have e2 : (σ.set 2 (some (V.int ns[j])))[2]? = some (some (.int ns[j])) := List.getElem?_set_self (by omega)
      have el : (σ.set 2 (some (V.int ns[j]))).length = 4 := by rw [List.length_set]; exact h3
      show dg "at" (σ.set 2 (some (V.int ns[j]))) H _
      refine dg_a e0 t ⟨_, _, rfl, rfl, _, e0, p, _, rfl, dput _ _ t, ?_⟩
      rw [put_a]
      have t1 := t.put (s' := s) (show 0 ≤ a + 1 by have := t.a0; omega) t.b0
      have fin : ∀ {H : Hp} {a b s : Int}, Tp p c ns H0 H a b s → (sDPut (tVar 0) (tC (.str "seed")) seed1) { D with nx := nx2 D } (σ.set 2 (some (V.int ns[j]))) H := fun {H a b s} t => by
        show seed1 _ _ _
        refine seed1_ok e0 e2 t fun z => ⟨_, e0, p, _, rfl, dput _ _ t, ?_⟩
        rw [put_s]
        exact nx2_ok e0 e1 (by omega) hm hm2 (t.put t.a0 t.b0) q
      refine ⟨_, e2, _, _, rfl, rfl, ⟨by decide, by decide, by decide⟩, _, _, rfl, rfl, _, rfl, ?_⟩
      refine ite_dec (p := ((10 : Int) ^ (18 : Int).toNat) ≤ ns[j]) (fun hc => ?_) (fun hc => fin t1)
      · refine ⟨_, e2, _, e0, p, _, rfl, dput _ _ t1, ?_⟩
        rw [put_b]
        have h10 : (0 : Int) ≤ (10 : Int) ^ (18 : Int).toNat := by decide
        exact fin (t1.put t1.a0 (by omega))
/-- the taker's promise -/
theorem next_sem {K : PySem.W.Frag} {T : Tape} {O : List Addr} {H : Hp} {Q : VK} {m : Int} {N : List Str} (hN : N.length = 4) (ok : Ok T O H) (hk : T.kd = some true) (hm : 0 < m) (hm2 : m < 1073741824) (q : ∀ r : Int, 0 ≤ r → r < m → post K T O false H Q (.int r)) :
    nxAll K { nx := fun _ H' => Q .non H', rt := Q } (L2.start N [T.at, .int m]) H := by
  cases T with
  | no => cases hk
  | st p c => cases hk
  | tp p c =>
    obtain ⟨ne, a, b, s, ns, a0, b0, hp, hc⟩ := ok.tape
    refine nx_ok (p := p) (c := c) (ns := ns) (H0 := H) (m := m) rfl rfl ?_ hm hm2 ⟨fun x o e _ => e, a0, b0, hp, hc, ne⟩ fun z H' z0 z1 ⟨a, b, s, t⟩ => ?_
    · unfold L2.start
      rw [List.length_append, List.length_map, List.length_replicate, hN]
      rfl
    · exact q z z0 z1 _ H' (fun x o e n => t.ext x o e n) ⟨ne, a, b, s, ns, t.a0, t.b0, t.hp, t.hc⟩ rfl fun z => nomatch z
end

/-! ### the dict is made -/
def rAbs1 : List V → Hp → VK → Prop := fun xs H Q => ∃ i, xs = [V.int i] ∧ Q (V.int (if i < 0 then -i else i)) H
def absI (i : Int) : Int := if i < 0 then -i else i
def lcCells (K : PySem.W.Frag) : TE := tLc (iList K (tVar 0)) (gName 1) tYes (tCB rAbs1 (tCons (tCB rInt1 (tCons (tVar 1) tNil)) tNil)) [1]
def tMake (K : PySem.W.Frag) (s : Int) : TS := tRet (tDisp [(tC (.str "cells"), lcCells K), (tC (.str "at"), tC (.int 0)), (tC (.str "big"), tC (.int 0)), (tC (.str "seed"), tC (.int s))])
theorem same_upd {H : Hp} {D : Addr} {o : HO} (h : H D = none) : Same H (upd H D o) := fun b u e => by
  rw [upd_ne (fun z => by rw [z, h] at e; cases e)]
  exact e
theorem same_upd2 {H : Hp} {D : Addr} {o o' : HO} (h : H D = none) : Same H (upd H D o') := same_upd h
theorem upd_upd {H : Hp} {D : Addr} {o o' : HO} : upd (upd H D o) D o' = upd H D o' := by
  funext x
  by_cases h : x = D
  · rw [h, upd_self, upd_self]
  · rw [upd_ne h, upd_ne h, upd_ne h]
theorem lcCells_ok {K : PySem.W.Frag} {a : Addr} {ns : List Int} {H : Hp} {Q : VK} {r : L2.St} (hr : r = [none]) (h : SqL K H a (ns.map V.int)) (hl : ns.length ≤ 63)
    (q : ∀ D, H D = none → Q (.ref D) (upd H D (.lst ((ns.map absI).map V.int)))) : lcCells K (some (.ref a) :: r) H Q := by
  subst hr
  refine ⟨_, rfl, a, rfl, ⟨_, h⟩, fun D hD => ⟨fun i m H' => i + m = ns.length ∧ H' = upd H D (.lst (((ns.take i).map absI).map V.int)), ⟨ns.length, by omega, rfl⟩, ?_⟩⟩
  rintro i m H' ⟨hi, rfl⟩
  have hS := (same_upd (o := .lst (((ns.take i).map absI).map V.int)) hD).seq h
  cases m with
  | zero =>
    refine .inl ⟨⟨_, hS, by rw [List.length_map]; omega⟩, ?_⟩
    have e := q D hD
    rw [← List.take_length (l := ns)] at e
    rw [show i = ns.length by omega]
    exact e
  | succ m =>
    have hlt : i < ns.length := by omega
    refine .inr ⟨⟨_, .int ns[i], hS, by rw [List.getElem?_map, List.getElem?_eq_getElem hlt]; rfl⟩, fun H' => i + 1 + m = ns.length ∧ H' = upd H D (.lst (((ns.take (i + 1)).map absI).map V.int)), fun H' h => ⟨m, by omega, h⟩, ?_⟩
    rintro x H' ⟨rfl, hx⟩
    have ex := hx _ hS
    rw [List.getElem?_map, List.getElem?_eq_getElem hlt] at ex
    obtain rfl : V.int ns[i] = x := Option.some.inj ex
    refine ⟨rfl, ?_⟩
    refine ⟨_, rfl, .inl ⟨_, rfl, _, rfl, _, upd_self, ?_, by omega, ?_⟩⟩
    · rw [List.length_map, List.length_map, List.length_take, sizeLine_eq]
      omega
    · rw [upd_upd, List.take_succ_eq_append_getElem hlt, List.map_append, List.map_append]
      rfl
theorem make_sem {K : PySem.W.Frag} {N : List Str} {vs : List V} {H : Hp} {Q : VK} {E : XK} {s : Int} (hN : N.length = 2) (h : spNew true K vs H Q E) : tMake K s { nx := fun _ H' => Q .non H', rt := Q } (L2.start N vs) H := by
  obtain ⟨a, ns, rfl, hS, hl, q⟩ := h
  intro p hp
  have e0 : L2.start N [V.ref a] = [some (.ref a), none] := by
    unfold L2.start
    rw [hN]
    rfl
  rw [e0]
  have s1 := same_upd (o := .dK []) hp
  simp only [tPairs, tC]
  refine lcCells_ok rfl (s1.seq hS) hl fun c hc => ?_
  have ne : p ≠ c := fun z => by
    rw [← z, upd_self] at hc
    cases hc
  refine ⟨by rw [upd_ne ne]; exact upd_self, tapeD c 0 0 s, rfl, by show 4 ≤ 15; decide, ?_⟩
  rw [merge_tape]
  refine q (.tp p c) _ (fun b o e => ?_) ⟨ne, 0, 0, s, ns.map absI, Int.le_refl _, Int.le_refl _, upd_self, ?_⟩ rfl
  · have n1 : b ≠ p := fun z => by rw [z, hp] at e; cases e
    have n2 : b ≠ c := fun z => by rw [z] at e; rw [s1 c o e] at hc; cases hc
    rw [upd_ne n1, upd_ne n2, upd_ne n1]
    exact e
  · rw [upd_ne (Ne.symm ne)]
    exact upd_self
end DL

set_option Elab.async false
set_option linter.all false
set_option maxRecDepth 100000
set_option maxHeartbeats 2000000
/-! DL24: the list as the source of numbers. -/
namespace DL
open PySem PySem.Spec PyProof.Rows L2

def ixl (K : PySem.W.Frag) (a b : TE) : TE := tOp (rIxL K) a b
def tk1 : TS := tIfS (tB (tLt (tVar 1) (tC (.int 2)))) (tRet (tC (.int 0))) tNext
def tk2 (K : PySem.W.Frag) : TS := tAsg (ixl K (tVar 0) (tC (.int 1))) (gName 2)
def tk3 (K : PySem.W.Frag) : TS := tAsg (tOp rMod1 (tCB rInt1 (tCons (ixl K (tVar 0) (tC (.int 0))) tNil)) (tCB (rLen1 K) (tCons (tVar 2) tNil))) (gName 3)
def tk4 (K : PySem.W.Frag) : TS := tAsg (ixl K (tVar 2) (tVar 3)) (gName 4)
def tk5 : TS := tIfS (tB (tGe (tVar 4) (tC (.int 1000000000000000000)))) (tSeq (tAsg (tOp rDiv1 (tVar 4) (tVar 1)) (gSub (tVar 2) (tVar 3) rSetL)) (tRet (tOp rMod1 (tCB rInt1 (tCons (tVar 4) tNil)) (tVar 1)))) tNext
def tk6 (K : PySem.W.Frag) : TS := tAsg (tOp rAdd1 (ixl K (tVar 0) (tC (.int 0))) (tC (.int 1))) (gSub (tVar 0) (tC (.int 0)) rSetL)
def tkm (K : PySem.W.Frag) (v : TE) (a b c : Int) : TS := tAsg (tOp rMod1 (tCB rInt1 (tCons (tOp rAdd1 (tOp rMul1 v (tC (.int a))) (tOp rMul1 (ixl K (tVar 0) (tC (.int 0))) (tC (.int b)))) tNil)) (tC (.int c))) (gName 5)
def tk9 : TS := tRet (tOp rMod1 (tCB rInt1 (tCons (tOp rDiv1 (tVar 5) (tC (.int 7))) tNil)) (tVar 1))
def tkAll (K : PySem.W.Frag) : TS := tSeq tk1 (tSeq (tk2 K) (tSeq (tk3 K) (tSeq (tk4 K) (tSeq tk5 (tSeq (tk6 K) (tSeq (tkm K (tVar 4) 48271 69621 2147483647) (tSeq (tkm K (tVar 5) 16807 7919 1000000007) tk9)))))))

structure St (p c : Addr) (H0 H : Hp) (n : Int) (ns : List Int) : Prop where
  ext : ∀ x o, H0 x = some o → x ∉ [p, c] → H x = some o
  hp : H p = some (.lst [.int n, .ref c])
  hc : H c = some (.lst (ns.map V.int))
  ne : p ≠ c
  nn : ns ≠ []
section
variable {K : PySem.W.Frag} {p c : Addr} {ns : List Int} {H0 H : Hp} {n m : Int} {σ : L2.St} {Q : VK}
theorem St.putN (t : St p c H0 H n ns) {n' : Int} : St p c H0 (upd H p (.lst [.int n', .ref c])) n' ns :=
  ⟨fun y o e z => by rw [upd_ne (fun q => z (by rw [q]; exact List.mem_cons_self))]; exact t.ext y o e z, upd_self, by rw [upd_ne (Ne.symm t.ne)]; exact t.hc, t.ne, t.nn⟩
theorem St.putC (t : St p c H0 H n ns) {ns' : List Int} (h : ns' ≠ []) : St p c H0 (upd H c (.lst (ns'.map V.int))) n ns' :=
  ⟨fun y o e z => by rw [upd_ne (fun q => z (by rw [q]; exact List.mem_cons_of_mem _ List.mem_cons_self))]; exact t.ext y o e z, by rw [upd_ne t.ne]; exact t.hp, upd_self, t.ne, h⟩
theorem ix0 (h0 : σ[0]? = some (some (.ref p))) (t : St p c H0 H n ns) (q : Q (.int n) H) : ixl K (tVar 0) (tC (.int 0)) σ H Q := ⟨_, h0, p, _, 0, _, rfl, rfl, SqL.of t.hp, atI_nat (j := 0) rfl, q⟩
theorem ix1 (h0 : σ[0]? = some (some (.ref p))) (t : St p c H0 H n ns) (q : Q (.ref c) H) : ixl K (tVar 0) (tC (.int 1)) σ H Q := ⟨_, h0, p, _, 1, _, rfl, rfl, SqL.of t.hp, atI_nat (j := 1) rfl, q⟩
theorem set_other {σ : L2.St} {i j : Nat} {v w : Option V} (h : σ[i]? = some w) (n : j ≠ i) : (σ.set j v)[i]? = some w := by rw [List.getElem?_set_ne n]; exact h
theorem tkm_ok {v : TE} {x a b c' : Int} {D : Ends} (ha : -(2 ^ 64) < a ∧ a < 2 ^ 64) (hb : -(2 ^ 64) < b ∧ b < 2 ^ 64) (hc : 0 < c') (h0 : σ[0]? = some (some (.ref p))) (t : St p c H0 H n ns) (hv : ∀ Q : VK, Q (.int x) H → v σ H Q) (q : ∀ z, D.nx (σ.set 5 (some (.int z))) H) : tkm K v a b c' D σ H := by
  show v σ H _
  refine hv _ ⟨_, _, rfl, rfl, cmul_r ha.1 ha.2, ?_⟩
  show ixl K (tVar 0) (tC (.int 0)) σ H _
  refine ix0 h0 t ⟨_, _, rfl, rfl, cmul_r hb.1 hb.2, _, _, rfl, rfl, .inl ⟨_, rfl, _, _, rfl, rfl, hc, q _⟩⟩
theorem tk_ok {D : Ends} (h0 : σ[0]? = some (some (.ref p))) (h1 : σ[1]? = some (some (.int m))) (hl : σ.length = 6) (hm2 : m < 1073741824) (t : St p c H0 H n ns)
    (q : ∀ z H', (0 ≤ z ∧ z < m ∨ m ≤ 0 ∧ z = 0) → (∃ n ns, St p c H0 H' n ns) → D.rt (.int z) H') : tkAll K D σ H := by
  refine ⟨_, h1, _, _, rfl, rfl, _, rfl, ?_⟩
  refine ite_dec (p := m < (2 : Int)) (fun hm => ?_) (fun hm => ?_)
  · refine q 0 H ?_ ⟨_, _, t⟩
    omega
  · show ixl K (tVar 0) (tC (.int 1)) σ H _
    refine ix1 h0 t ?_
    have a0 := set_other (v := some (V.ref c)) h0 (show 2 ≠ 0 by decide)
    have a1 := set_other (v := some (V.ref c)) h1 (show 2 ≠ 1 by decide)
    have a2 : (σ.set 2 (some (V.ref c)))[2]? = some (some (.ref c)) := List.getElem?_set_self (by omega)
    have al : (σ.set 2 (some (V.ref c))).length = 6 := by rw [List.length_set]; exact hl
    show tSeq (tk3 K) _ _ (σ.set 2 (some (V.ref c))) H
    revert a0 a1 a2 al
    generalize σ.set 2 (some (V.ref c)) = σ2
    intro a0 a1 a2 al
    show ixl K (tVar 0) (tC (.int 0)) σ2 H _
    have hn : 0 < ns.length := List.length_pos_iff.mpr t.nn
    refine ix0 a0 t (.inl ⟨_, rfl, _, a2, _, _, rfl, .inl ⟨_, SqL.of t.hc, rfl⟩, _, _, rfl, rfl, by rw [List.length_map]; show (0 : Int) < _; omega, ?_⟩)
    have e0 := Int.emod_nonneg n (show ((ns.map V.int).length : Int) ≠ 0 by rw [List.length_map]; omega)
    have e1 := Int.emod_lt_of_pos n (show (0 : Int) < ((ns.map V.int).length : Int) by rw [List.length_map]; omega)
    show tSeq (tk4 K) _ _ (σ2.set 3 (some (V.int (n % ((ns.map V.int).length : Int))))) H
    revert e0 e1
    generalize n % ((ns.map V.int).length : Int) = r
    intro e0 e1
    obtain ⟨j, rfl⟩ := Int.eq_ofNat_of_zero_le e0
    rw [List.length_map] at e1
    have hj : j < ns.length := by omega
    have b0 := set_other (v := some (V.int j)) a0 (show 3 ≠ 0 by decide)
    have b1 := set_other (v := some (V.int j)) a1 (show 3 ≠ 1 by decide)
    have b2 := set_other (v := some (V.int j)) a2 (show 3 ≠ 2 by decide)
    have b3 : (σ2.set 3 (some (V.int j)))[3]? = some (some (.int j)) := List.getElem?_set_self (by omega)
    have bl : (σ2.set 3 (some (V.int j))).length = 6 := by rw [List.length_set]; exact al
    show tSeq (tk4 K) _ _ (σ2.set 3 (some (V.int j))) H
    revert b0 b1 b2 b3 bl
    generalize σ2.set 3 (some (V.int j)) = σ3
    intro b0 b1 b2 b3 bl
    refine ⟨_, b2, _, b3, c, _, _, .int ns[j], rfl, rfl, SqL.of t.hc, atI_nat (by rw [List.getElem?_map, List.getElem?_eq_getElem hj]; rfl), ?_⟩
    have c0 := set_other (v := some (V.int ns[j])) b0 (show 4 ≠ 0 by decide)
    have c1 := set_other (v := some (V.int ns[j])) b1 (show 4 ≠ 1 by decide)
    have c2 := set_other (v := some (V.int ns[j])) b2 (show 4 ≠ 2 by decide)
    have c3 := set_other (v := some (V.int ns[j])) b3 (show 4 ≠ 3 by decide)
    have c4 : (σ3.set 4 (some (V.int ns[j])))[4]? = some (some (.int ns[j])) := List.getElem?_set_self (by omega)
    have cl : (σ3.set 4 (some (V.int ns[j]))).length = 6 := by rw [List.length_set]; exact bl
    show tSeq tk5 _ _ (σ3.set 4 (some (V.int ns[j]))) H
    revert c0 c1 c2 c3 c4 cl
    generalize σ3.set 4 (some (V.int ns[j])) = σ4
    intro c0 c1 c2 c3 c4 cl
    refine ⟨_, c4, _, _, rfl, rfl, _, rfl, ?_⟩
    refine ite_dec (p := (1000000000000000000 : Int) ≤ ns[j]) (fun hg => ?_) (fun hg => ?_)
    · refine ⟨_, c4, _, c1, _, _, rfl, rfl, ⟨by omega, hm2⟩, _, c2, _, c3, c, _, _, j, rfl, rfl, t.hc, by rw [List.length_map]; unfold ixN; rw [if_pos (by omega), if_pos (by omega)]; rfl, ?_⟩
      refine ⟨_, c4, .inl ⟨_, rfl, _, c1, _, _, rfl, rfl, by show (0 : Int) < m; omega, ?_⟩⟩
      refine q _ _ (.inl ⟨Int.emod_nonneg _ (by omega), Int.emod_lt_of_pos _ (by omega)⟩) ⟨n, ns.set j (ns[j] / m), ?_⟩
      have e : (ns.map V.int).set j (V.int (ns[j] / m)) = (ns.set j (ns[j] / m)).map V.int := by rw [List.map_set]
      rw [e]
      exact t.putC (fun z => t.nn (by have := congrArg List.length z; rw [List.length_set] at this; exact List.eq_nil_of_length_eq_zero this))
    · show ixl K (tVar 0) (tC (.int 0)) σ4 H _
      refine ix0 c0 t ⟨_, _, rfl, rfl, _, c0, p, _, 0, 0, rfl, rfl, t.hp, rfl, ?_⟩
      have t1 := t.putN (n' := n + 1)
      show tSeq (tkm K (tVar 4) 48271 69621 2147483647) _ _ σ4 (upd H p (.lst [.int (n + 1), .ref c]))
      revert t1
      generalize upd H p (.lst [.int (n + 1), .ref c]) = H1
      generalize n + 1 = n1
      intro t1
      refine tkm_ok (by decide) (by decide) (by decide) c0 t1 (x := ns[j]) (fun Q q => ⟨_, c4, q⟩) fun z => ?_
      have d0 := set_other (v := some (V.int z)) c0 (show 5 ≠ 0 by decide)
      have d1 := set_other (v := some (V.int z)) c1 (show 5 ≠ 1 by decide)
      have d5 : (σ4.set 5 (some (V.int z)))[5]? = some (some (.int z)) := List.getElem?_set_self (by omega)
      have dl : (σ4.set 5 (some (V.int z))).length = 6 := by rw [List.length_set]; exact cl
      show tSeq (tkm K (tVar 5) 16807 7919 1000000007) _ _ (σ4.set 5 (some (V.int z))) H1
      revert d0 d1 d5 dl
      generalize σ4.set 5 (some (V.int z)) = σ5
      intro d0 d1 d5 dl
      refine tkm_ok (by decide) (by decide) (by decide) d0 t1 (x := z) (fun Q q => ⟨_, d5, q⟩) fun z => ?_
      have f1 := set_other (v := some (V.int z)) d1 (show 5 ≠ 1 by decide)
      have f5 : (σ5.set 5 (some (V.int z)))[5]? = some (some (.int z)) := List.getElem?_set_self (by omega)
      refine ⟨_, f5, _, _, rfl, rfl, ⟨by decide, by decide⟩, .inl ⟨_, rfl, _, f1, _, _, rfl, rfl, by show (0 : Int) < m; omega, ?_⟩⟩
      exact q _ _ (.inl ⟨Int.emod_nonneg _ (by omega), Int.emod_lt_of_pos _ (by omega)⟩) ⟨_, _, t1⟩
/-- the taker's promise -/
theorem take_sem {T : Tape} {O : List Addr} {N : List Str} (hN : N.length = 6) (ok : Ok T O H) (hk : T.kd = some false) (hm2 : m < 1073741824) (q : ∀ r : Int, 0 ≤ r → r < m → post K T O false H Q (.int r)) (q0 : m ≤ 0 → post K T O false H Q (.int 0)) :
    tkAll K { nx := fun _ H' => Q .non H', rt := Q } (L2.start N [T.at, .int m]) H := by
  cases T with
  | no => cases hk
  | tp p c => cases hk
  | st p c =>
    obtain ⟨ne, n, ns, nn, hp, hc⟩ := ok.tape
    refine tk_ok (p := p) (c := c) (ns := ns) (H0 := H) (m := m) rfl rfl ?_ hm2 ⟨fun x o e _ => e, hp, hc, ne, nn⟩ fun z H' hz ⟨n, ns, t⟩ => ?_
    · unfold L2.start
      rw [List.length_append, List.length_map, List.length_replicate, hN]
      rfl
    · rcases hz with ⟨z0, z1⟩ | ⟨z0, rfl⟩
      · exact q z z0 z1 _ H' (fun x o e n => t.ext x o e n) ⟨ne, n, ns, t.nn, t.hp, t.hc⟩ rfl fun z => nomatch z
      · exact q0 z0 _ H' (fun x o e n => t.ext x o e n) ⟨ne, n, ns, t.nn, t.hp, t.hc⟩ rfl fun z => nomatch z
end

/-! ### the list is made -/
def lcSt (K : PySem.W.Frag) : TE := tLc (iList K (tSl (rSlL K) (tVar 0) tNoPart (tPart (tC (.int 63))))) (gName 2) tYes (tCB rAbs1 (tCons (tVar 2) tNil)) [2]
def stAll (K : PySem.W.Frag) : TS := tSeq (tAsg (lcSt K) (gName 1)) (tSeq (tIfS (tB (tEqI (tCB (rLen1 K) (tCons (tVar 1) tNil)) (tC (.int 0)))) (tAsg (tLst (tCons (tC (.int 0)) tNil)) (gName 1)) tNext) (tRet (tLst (tCons (tC (.int 0)) (tCons (tVar 1) tNil)))))
theorem lcSt_ok {K : PySem.W.Frag} {a : Addr} {ns : List Int} {H : Hp} {Q : VK} (h : SqL K H a (ns.map V.int)) (hl : ns.length ≤ 63)
    (q : ∀ D H', Same H H' → H D = none → H' D = some (.lst (((cutL ns none (some 63)).map absI).map V.int)) → Q (.ref D) H') : lcSt K [some (.ref a), none, none] H Q := by
  have hcut : (cutL ns none (some 63)).length ≤ 63 := Nat.le_trans (by unfold cutL; rw [List.length_take, List.length_drop]; omega) hl
  revert q hcut
  generalize hns : cutL ns none (some 63) = ms
  intro q hcut
  refine ⟨_, rfl, _, rfl, a, _, rfl, h, fun b hb => ?_⟩
  have e1 : cutV (ns.map V.int) none (some 63) = ms.map V.int := by
    show cutL (ns.map V.int) none (some 63) = _
    rw [cutL_map, hns]
  rw [e1]
  have s1 := same_upd (o := .lst (ms.map V.int)) hb
  have h1 : SqL K (upd H b (.lst (ms.map V.int))) b (ms.map V.int) := SqL.of upd_self
  refine ⟨b, rfl, ⟨_, h1⟩, fun D hD => ?_⟩
  have hDH : H D = none := s1.free hD
  revert s1 h1 hD
  generalize upd H b (.lst (ms.map V.int)) = G
  intro s1 h1 hD
  refine ⟨fun i m H' => i + m = ms.length ∧ H' = upd G D (.lst (((ms.take i).map absI).map V.int)), ⟨ms.length, by omega, rfl⟩, ?_⟩
  rintro i m H' ⟨hi, rfl⟩
  have hS := (same_upd (o := .lst (((ms.take i).map absI).map V.int)) hD).seq h1
  cases m with
  | zero =>
    refine .inl ⟨⟨_, hS, by rw [List.length_map]; omega⟩, ?_⟩
    rw [show i = ms.length by omega, List.take_length]
    exact q D _ (s1.trans (same_upd hD)) hDH upd_self
  | succ m =>
    have hlt : i < ms.length := by omega
    refine .inr ⟨⟨_, .int ms[i], hS, by rw [List.getElem?_map, List.getElem?_eq_getElem hlt]; rfl⟩, fun H' => i + 1 + m = ms.length ∧ H' = upd G D (.lst (((ms.take (i + 1)).map absI).map V.int)), fun H' h => ⟨m, by omega, h⟩, ?_⟩
    rintro x H' ⟨rfl, hx⟩
    have ex := hx _ hS
    rw [List.getElem?_map, List.getElem?_eq_getElem hlt] at ex
    obtain rfl : V.int ms[i] = x := Option.some.inj ex
    refine ⟨rfl, ?_⟩
    refine ⟨_, rfl, _, rfl, _, upd_self, ?_, by omega, ?_⟩
    · rw [List.length_map, List.length_map, List.length_take, sizeLine_eq]
      omega
    · rw [upd_upd, List.take_succ_eq_append_getElem hlt, List.map_append, List.map_append]
      rfl
theorem state_sem {K : PySem.W.Frag} {N : List Str} {vs : List V} {H : Hp} {Q : VK} {E : XK} (hN : N.length = 3) (h : spNew false K vs H Q E) : stAll K { nx := fun _ H' => Q .non H', rt := Q } (L2.start N vs) H := by
  obtain ⟨a, ns, rfl, hS, hl, q⟩ := h
  have e0 : L2.start N [V.ref a] = [some (.ref a), none, none] := by
    unfold L2.start
    rw [hN]
    rfl
  rw [e0]
  unfold stAll
  show lcSt K [some (V.ref a), none, none] H (fun x H1 => gName 1 x [some (V.ref a), none, none] H1 _)
  refine lcSt_ok hS hl fun D H1 s1 hD eD => ?_
  have fin : ∀ (D : Addr) (H1 : Hp) (ms : List Int), Same H H1 → ms ≠ [] → H1 D = some (.lst (ms.map V.int)) → tRet (tLst (tCons (tC (.int 0)) (tCons (tVar 1) tNil))) { nx := fun _ H' => Q .non H', rt := Q } [some (.ref a), some (.ref D), none] H1 := fun D H1 ms s1 hne eD => by
    refine ⟨_, rfl, (show 2 ≤ sizeLine by rw [sizeLine_eq]; decide), fun p hp => ?_⟩
    have ne : p ≠ D := fun z => by
      rw [z, eD] at hp
      cases hp
    exact q (.st p D) _ (s1.trans (same_upd hp)) ⟨ne, 0, ms, hne, upd_self, by rw [upd_ne (Ne.symm ne)]; exact eD⟩ rfl
  refine ⟨_, rfl, _, _, rfl, .inl ⟨_, SqL.of eD, rfl⟩, _, _, rfl, rfl, _, rfl, ?_⟩
  revert eD
  generalize (cutL ns none (some 63)).map absI = ms
  intro eD
  refine ite_dec (p := (((ms.map V.int).length : Int) = 0)) (fun h0 => ?_) (fun h0 => ?_)
  · refine ⟨(show 1 ≤ sizeLine by rw [sizeLine_eq]; decide), fun p hp => ?_⟩
    exact fin p _ [0] (s1.trans (same_upd hp)) (by decide) upd_self
  · exact fin D H1 ms s1 (fun z => h0 (by rw [z]; rfl)) eD
end DL

set_option Elab.async false
set_option linter.all false
set_option maxRecDepth 100000
set_option maxHeartbeats 2000000
/-! DL25: what the small language means, as equations for simp; further expressions. -/
namespace DL
open PySem PySem.Spec PyProof.Rows L2

def bif2 (x : D) (A B : Prop) : Prop := match x with
  | .bl true => A
  | .bl false => B
  | _ => False
def bool1 (x : D) (k : Bool → Prop) : Prop := match x with
  | .bl b => k b
  | _ => False
def int1 (x : D) (k : Int → Prop) : Prop := match x with
  | .int b => k b
  | _ => False
def lset1 (x : D) (Q : D → Prop) : Prop := match x with
  | .tup ds => ∃ ks : List Key, (ds = ks.map keyD ∧ ks.length ≤ 4000) ∧ Q (.int (ddK ks).length)
  | .lst ds => ∃ ks : List Key, (ds = ks.map keyD ∧ ks.length ≤ 4000) ∧ Q (.int (ddK ks).length)
  | _ => False
@[simp] theorem lset1_t {ds : List D} {Q : D → Prop} : lset1 (.tup ds) Q = ∃ ks : List Key, (ds = ks.map keyD ∧ ks.length ≤ 4000) ∧ Q (.int (ddK ks).length) := rfl
@[simp] theorem lset1_l {ds : List D} {Q : D → Prop} : lset1 (.lst ds) Q = ∃ ks : List Key, (ds = ks.map keyD ∧ ks.length ≤ 4000) ∧ Q (.int (ddK ks).length) := rfl
def optP (o : Option D) (k : D → Prop) : Prop := match o with
  | some d => k d
  | none => False
@[simp] theorem bif2_bl {b : Bool} {A B : Prop} : bif2 (.bl b) A B = (if b = true then A else B) := by cases b <;> simp [bif2]
@[simp] theorem bool1_bl {b : Bool} {k : Bool → Prop} : bool1 (.bl b) k = k b := rfl
@[simp] theorem int1_int {b : Int} {k : Int → Prop} : int1 (.int b) k = k b := rfl
@[simp] theorem optP_some {d : D} {k : D → Prop} : optP (some d) k = k d := rfl
theorem bif2_T {x : D} {A B : Prop} (h : x = .bl true) (a : A) : bif2 x A B := by rw [h]; exact a
theorem bif2_F {x : D} {A B : Prop} (h : x = .bl false) (a : B) : bif2 x A B := by rw [h]; exact a
section
variable {env : DEnv} {Q : D → Prop} {R : List D → Prop} {a b c d e es tg it cond elt : E} {en : DEnds} {r s t : S} {i j : Nat}
@[simp] theorem sem_var : semE (.var i) env Q = optP (rdv env i) Q := rfl
@[simp] theorem sem_non : semE .non env Q = Q .non := rfl
@[simp] theorem sem_bl {b : Bool} : semE (.bl b) env Q = Q (.bl b) := rfl
@[simp] theorem sem_int {b : Int} : semE (.int b) env Q = Q (.int b) := rfl
@[simp] theorem sem_str {b : Str} : semE (.str b) env Q = Q (.str b) := rfl
@[simp] theorem sem_glob {x : Str} {d : D} : semE (.glob x d) env Q = Q d := rfl
@[simp] theorem sem_bin {o : Operator} : semE (.bin o a b) env Q = semE a env fun x => semE b env fun y => dBin o x y Q := rfl
@[simp] theorem sem_neg : semE (.neg a) env Q = semE a env fun x => int1 x fun i => Q (.int (-i)) := rfl
@[simp] theorem sem_cmp {o : CmpOp} : semE (.cmp o a b) env Q = semE a env fun x => semE b env fun y => dCmp o x y Q := rfl
@[simp] theorem sem_chain {o p : CmpOp} : semE (.chain o p a b c) env Q = semE a env fun x => semE b env fun y => dCmp o x y fun r => bif2 r (semE c env fun z => dCmp p y z Q) (Q (.bl false)) := rfl
@[simp] theorem sem_andd : semE (.andd a b) env Q = semE a env fun x => bif2 x (semE b env Q) (Q (.bl false)) := rfl
@[simp] theorem sem_orr : semE (.orr a b) env Q = semE a env fun x => bif2 x (Q (.bl true)) (semE b env Q) := rfl
@[simp] theorem sem_nott : semE (.nott a) env Q = semE a env fun x => bool1 x fun b => Q (.bl (!b)) := rfl
@[simp] theorem sem_ite : semE (.ite c a b) env Q = semE c env fun x => bif2 x (semE a env Q) (semE b env Q) := rfl
@[simp] theorem sem_tup : semE (.tup es) env Q = semEs es env fun ds => Q (.tup ds) := rfl
@[simp] theorem sem_lst : semE (.lst es) env Q = semEs es env fun ds => Q (.lst ds) := rfl
@[simp] theorem sem_ix : semE (.ix a b) env Q = semE a env fun x => semE b env fun y => dIx x y Q := rfl
@[simp] theorem sem_sl : semE (.sl a b c) env Q = semE a env fun x => partD b.isNil (semE b env) fun l => partD c.isNil (semE c env) fun h => dSl x l h Q := rfl
@[simp] theorem sem_call {f : Str} {sp : DSpec} : semE (.call f sp es) env Q = semEs es env fun ds => sp ds Q := rfl
@[simp] theorem sem_bf {f : Bf} : semE (.bf f es) env Q = semEs es env fun ds => dBf f ds Q := rfl
@[simp] theorem sem_mt {m : Mf} : semE (.mt m a es) env Q = semE a env fun x => mtOk m x ∧ semEs es env fun ds => dMt m x ds Q := rfl
@[simp] theorem sem_lc2 {own : List (Str × Nat)} {tg2 it2 cond2 : E} : semE (.lc2 own elt tg it cond tg2 it2 cond2) env Q = semE it env fun w => dItems w fun items => items.length ≤ 4000 ∧ lc2D (fun d => bindT (wipeD env (own.map (·.2))) tg d) (fun e1 Qb => condD cond.isNil (semE cond e1) Qb)
      (fun e1 Q1 => semE it2 e1 fun w2 => dItems w2 fun items2 => items2.length ≤ 4000 ∧ lcD (fun d => bindT (wipeD e1 (slotsOf tg2)) tg2 d) (fun e2 Qb => condD cond2.isNil (semE cond2 e2) Qb) (semE elt) items2 Q1) items fun ds => Q (.lst ds) := rfl
@[simp] theorem sem_isin {ts : List Ty} : semE (.isin a ts) env Q = semE a env fun x => notTape x ∧ Q (.bl (ts.any (isTy x))) := rfl
@[simp] theorem sem_lc {own : List (Str × Nat)} : semE (.lc own elt tg it cond) env Q = semE it env fun w => dItems w fun items => lcD (fun d => bindT (wipeD env (own.map (·.2))) tg d) (fun e1 Qb => condD cond.isNil (semE cond e1) Qb) (semE elt) items fun ds => Q (.lst ds) := rfl
@[simp] theorem sem_r1 : semE (.r1 a) env Q = semE a env fun x => int1 x fun n => (n ≤ 16777216 ∧ -16777216 ≤ n) ∧ Q (.lst (rangeD 0 n)) := rfl
@[simp] theorem sem_r2 : semE (.r2 a b) env Q = semE a env fun x => semE b env fun y => int1 x fun i => int1 y fun j => (-8000000 ≤ i ∧ i ≤ 8000000 ∧ -8000000 ≤ j ∧ j ≤ 8000000) ∧ Q (.lst (rangeD i j)) := by
  show (semE a env fun x => semE b env fun y => _) = _
  congr 1
  funext x
  congr 1
  funext y
  cases x <;> cases y <;> rfl
@[simp] theorem sem_lenset : semE (.lenset a) env Q = semE a env fun x => lset1 x Q := by
  rfl
@[simp] theorem sem_r3 : semE (.r3 a b c) env Q = semE a env fun x => semE b env fun y => semE c env fun z => int1 x fun i => int1 y fun j => int1 z fun k => k = -1 ∧ (-8000000 ≤ i ∧ i ≤ 8000000 ∧ -8000000 ≤ j ∧ j ≤ 8000000) ∧ Q (.lst (rangeDn i j)) := by
  show (semE a env fun x => semE b env fun y => semE c env fun z => _) = _
  congr 1
  funext x
  congr 1
  funext y
  congr 1
  funext z
  cases x <;> cases y <;> cases z <;> try rfl
  rename_i i j k
  by_cases h : k = -1
  · subst h
    simp [int1]
  · simp only [int1, h, false_and]
    split
    · rename_i e
      cases e
      exact absurd rfl h
    · rfl
@[simp] theorem sem_raw {l : Ctx → Expr → Bool} {sm : DEnv → (D → Prop) → Prop} {vs : List Nat} {f : Bool} : semE (.raw l sm vs f) env Q = sm env Q := rfl
@[simp] theorem sems_nil : semEs .nil env R = R [] := rfl
@[simp] theorem sems_cons : semEs (.cons a b) env R = semE a env fun d => semEs b env fun ds => R (d :: ds) := rfl
@[simp] theorem partD_i {t : (D → Prop) → Prop} {P : Option Int → Prop} : partD false t P = t fun d => int1 d fun i => P (some i) := rfl
@[simp] theorem condD_b {t : (D → Prop) → Prop} {P : Bool → Prop} : condD false t P = t fun d => bool1 d P := rfl
/-! statements -/
@[simp] theorem semS_nil : semS .nil en env = en.nx env := rfl
@[simp] theorem semS_cons : semS (.cons s r) en env = semS s { en with nx := semS r en } env := rfl
@[simp] theorem semS_pass : semS .pass en env = en.nx env := rfl
@[simp] theorem semS_brk : semS .brk en env = en.bk env := rfl
@[simp] theorem semS_cont : semS .cont en env = en.ct env := rfl
@[simp] theorem semS_ret : semS (.ret e) en env = semE e env en.rt := rfl
@[simp] theorem semS_retN : semS .retN en env = en.rt .non := rfl
@[simp] theorem semS_iff : semS (.iff c s t) en env = semE c env fun d => bif2 d (semS s en env) (semS t en env) := rfl
@[simp] theorem semS_asg : semS (.asg i e) en env = semE e env fun d => en.nx ((aft e d env).set i (newSl e d)) := rfl
@[simp] theorem semS_asgT : semS (.asgT tg e) en env = semE e env fun d => bindT (aft e d env) tg d en.nx := rfl
@[simp] theorem semS_raw {l : Ctx → Stmt → Bool} {sm : DEnds → DEnv → Prop} : semS (.raw l sm) en env = sm en env := rfl
@[simp] theorem ownL_z {ds : List D} {P : List D → Prop} : ownL (.ow (.lst ds) :: env) 0 P = P ds := rfl
@[simp] theorem ownL_s {x : Sl} {P : List D → Prop} : ownL (x :: env) (i + 1) P = ownL env i P := rfl
end
@[simp] theorem sgn_len (c : Nat) : (sgn c).cps.size = 1 := rfl
theorem sgn_lt (a b : Nat) : ((sgn a).cps.toList < (sgn b).cps.toList) ↔ a < b := by
  constructor
  · intro h
    cases h with
    | rel h => exact h
    | cons h => cases h
  · exact fun h => .rel h

@[simp high] theorem dCmp_sle {a b : Nat} {Q : D → Prop} : dCmp .LtE (.str (sgn a)) (.str (sgn b)) Q = Q (.bl (decide (a ≤ b))) := by
  rw [dCmp_les]
  congr 2
  rw [Bool.eq_iff_iff]
  simp only [Bool.not_eq_true', decide_eq_false_iff_not, decide_eq_true_eq, sgn_lt]
  omega
@[simp high] theorem dCmp_slt {a b : Nat} {Q : D → Prop} : dCmp .Lt (.str (sgn a)) (.str (sgn b)) Q = Q (.bl (decide (a < b))) := by
  rw [dCmp_lts]
  congr 2
  rw [Bool.eq_iff_iff]
  simp only [decide_eq_true_eq, sgn_lt]
theorem ofs {x : String} {c : Nat} (h : decide (Str.ofString x = sgn c) = true) : Str.ofString x = sgn c := of_decide_eq_true h
theorem all_bls {α : Type} (f : α → Bool) (xs : List α) {Q : D → Prop} (h : Q (.bl (xs.all f))) : ∃ bs : List Bool, xs.map (fun x => D.bl (f x)) = bs.map D.bl ∧ Q (.bl (bs.all id)) := by
  refine ⟨xs.map f, by rw [List.map_map]; rfl, ?_⟩
  rw [List.all_map]
  exact h
theorem strS_list (l : List Nat) : (strS l).cps.toList = l := by simp [strS]
theorem size_list (s : Str) : s.cps.size = s.cps.toList.length := by simp
@[simp] theorem eqD_i {a b : Int} : eqD (.int a) (.int b) = decide (a = b) := eqD_int a b
@[simp] theorem eqD_s {a b : Str} : eqD (.str a) (.str b) = decide (a = b) := eqD_str a b
@[simp] theorem eqD_b {a b : Bool} : eqD (.bl a) (.bl b) = (a == b) := by simp [eqD]
@[simp] theorem eqD_t {a b : List D} : eqD (.tup a) (.tup b) = eqDs a b := by simp [eqD]
@[simp] theorem eqD_l {a b : List D} : eqD (.lst a) (.lst b) = eqDs a b := by simp [eqD]
@[simp] theorem eqDs_n : eqDs [] [] = true := by simp [eqDs]
@[simp] theorem eqDs_cn {a : D} {as : List D} : eqDs (a :: as) [] = false := by simp [eqDs]
@[simp] theorem eqDs_nc {a : D} {as : List D} : eqDs [] (a :: as) = false := by simp [eqDs]
@[simp] theorem eqDs_cc {a b : D} {as bs : List D} : eqDs (a :: as) (b :: bs) = (eqD a b && eqDs as bs) := by simp [eqDs]
@[simp] theorem aft_non {e : E}  {env : DEnv} : aft e .non env = env := aft_nm rfl
@[simp] theorem newSl_non {e : E}  : newSl e .non = .sh .non := rfl
@[simp] theorem aft_bl {e : E} {b : Bool} {env : DEnv} : aft e (.bl b) env = env := aft_nm rfl
@[simp] theorem newSl_bl {e : E} {b : Bool} : newSl e (.bl b) = .sh (.bl b) := rfl
@[simp] theorem aft_int {e : E} {b : Int} {env : DEnv} : aft e (.int b) env = env := aft_nm rfl
@[simp] theorem newSl_int {e : E} {b : Int} : newSl e (.int b) = .sh (.int b) := rfl
@[simp] theorem aft_str {e : E} {b : Str} {env : DEnv} : aft e (.str b) env = env := aft_nm rfl
@[simp] theorem newSl_str {e : E} {b : Str} : newSl e (.str b) = .sh (.str b) := rfl
@[simp] theorem aft_tape {e : E} {b : Bool} {env : DEnv} : aft e (.tape b) env = env := aft_nm rfl
@[simp] theorem newSl_tape {e : E} {b : Bool} : newSl e (.tape b) = .sh (.tape b) := rfl
@[simp] theorem aft_tup {e : E} {ds : List D} {env : DEnv} (h : noMuts ds = true) : aft e (.tup ds) env = env := aft_nm (by rw [noMut_tup]; exact h)
@[simp] theorem newSl_tup {e : E} {ds : List D} : newSl e (.tup ds) = .sh (.tup ds) := rfl
@[simp] theorem nt_non  : notTape .non = True := rfl
@[simp] theorem nt_bl {b : Bool} : notTape (.bl b) = True := rfl
@[simp] theorem nt_int {b : Int} : notTape (.int b) = True := rfl
@[simp] theorem nt_str {b : Str} : notTape (.str b) = True := rfl
@[simp] theorem nt_tup {b : List D} : notTape (.tup b) = True := rfl
@[simp] theorem nt_lst {b : List D} : notTape (.lst b) = True := rfl
@[simp] theorem nt_dic {b c : List D} : notTape (.dic b c) = True := rfl
@[simp] theorem pick_l {k : Bool} {xs : List D} {Q : D → Prop} : spPick k [.tape k, .lst xs] Q ↔ (xs ≠ [] ∧ xs.length < 1073741824) ∧ ∀ x ∈ xs, Q x := by
  constructor
  · rintro ⟨row, ys, e, h, h1, h2, h3⟩
    rcases h with rfl | rfl
    · cases e
      exact ⟨⟨h1, h2⟩, h3⟩
    · cases e
  · exact fun h => spPick_lst h
@[simp] theorem pick_t {k : Bool} {xs : List D} {Q : D → Prop} : spPick k [.tape k, .tup xs] Q ↔ (xs ≠ [] ∧ xs.length < 1073741824) ∧ ∀ x ∈ xs, Q x := by
  constructor
  · rintro ⟨row, ys, e, h, h1, h2, h3⟩
    rcases h with rfl | rfl
    · cases e
    · cases e
      exact ⟨⟨h1, h2⟩, h3⟩
  · exact fun h => spPick_tup h
theorem cutL_mem {α : Type} {xs : List α} {lo hi : Option Int} {x : α} (h : x ∈ cutL xs lo hi) : x ∈ xs := List.mem_of_mem_drop (List.mem_of_mem_take h)
@[simp] theorem dBin_mt {xs : List D} {k : Int} {Q : D → Prop} : dBin .Mult (.tup xs) (.int k) Q = ((-1000 ≤ k ∧ k ≤ 1000 ∧ xs.length ≤ 1000) ∧ Q (.tup (List.replicate k.toNat xs).flatten)) := rfl
@[simp] theorem dBin_ms {x : Str} {k : Int} {Q : D → Prop} : dBin .Mult (.str x) (.int k) Q = ((-1000000000 ≤ k ∧ k ≤ 1000000000 ∧ x.cps.size * k.toNat ≤ 16777216) ∧ Q (.str (repS x k.toNat))) := rfl
@[simp] theorem semS_asg2 {i j : Nat} {a b : E} {en : DEnds} {env : DEnv} : semS (.asg2 i j a b) en env = semE a env fun x => semE b (aft a x env) fun y => en.nx (((aft b y (aft a x env)).set i (newSl a x)).set j (newSl b y)) := rfl
theorem not_ty {d : D} {t : Ty} (h : ¬ isTy d t = true) : isTy d t = false := by simpa using h
theorem aft_or (e : E) (d : D) (env : DEnv) : aft e d env = env ∨ aft e d env = frz env e.vars := by
  unfold aft
  split
  · exact .inl rfl
  · exact .inr rfl
/-- two names at once, to unchanging things -/
theorem st_par {i j : Nat} {a b : E} {r : S} {en : DEnds} {env : DEnv} (P Q : D → Prop) (ma : a.monos) (mb : b.monos) (ha : semE a env P) (hb : semE b env Q) (na : ∀ d, P d → noMut d = true) (nb : ∀ d, Q d → noMut d = true)
    (nx : ∀ x y, P x → Q y → semS r en ((env.set i (.sh x)).set j (.sh y))) : semS (.cons (.asg2 i j a b) r) en env := by
  show semE a env fun x => semE b (aft a x env) fun y => semS r en (((aft b y (aft a x env)).set i (newSl a x)).set j (newSl b y))
  exact sem_le ma ha fun x hx => by
    rw [aft_nm (na x hx), newSl_nm (na x hx)]
    exact sem_le mb hb fun y hy => by
      rw [aft_nm (nb y hy), newSl_nm (nb y hy)]
      exact nx x y hx hy
/-- a name is set to anything that is not new; nothing owned is named by it -/
theorem st_nf {i : Nat} {e : E} {r : S} {en : DEnds} {env : DEnv} (P : D → Prop) (m : e.monos) (hf : e.fresh = false) (hz : frz env e.vars = env) (he : semE e env P) (nx : ∀ d, P d → semS r en (env.set i (.sh d))) : semS (.cons (.asg i e) r) en env := by
  show semE e env fun d => semS r en ((aft e d env).set i (newSl e d))
  exact sem_le m he fun d h => by
    have e1 : aft e d env = env := by
      rcases aft_or e d env with z | z
      · exact z
      · rw [z, hz]
    have e2 : newSl e d = .sh d := by
      cases d with
      | lst ds => exact if_neg (by rw [hf]; exact Bool.false_ne_true)
      | _ => rfl
    rw [e1, e2]
    exact nx d h
/-! ### further expressions -/
theorem rawNeed {X : Cx} {e : E} {x : Expr} (hm : e.monos) (h : PE X x (liftE X.K e)) (he : ∀ whole, isTrue x X.env whole = (do let v ← whole; standAt x.pos; holding [v] (truthy v))) (hb : ∀ op vs p, x ≠ .BoolOp op vs p) :
    PE X x (liftE X.K e) ∧ PT X x (liftT X.K e) ∧ ∀ op vs p, x ≠ .BoolOp op vs p := ⟨h, PT.of hm h he, hb⟩

/-- {} -/
def lookDnil : Expr → Bool
  | .Dict [] [] _ => true
  | _ => false
def dnil : E := .raw (fun _ x => lookDnil x) (fun _ Q => Q (.dic [] [])) [] false
@[simp] theorem dnil_monos : dnil.monos := fun _ _ _ h m => m _ h
@[simp] theorem sem_dnil {env : DEnv} {Q : D → Prop} : semE dnil env Q = Q (.dic [] []) := rfl
@[simp] theorem dnil_vars : dnil.vars = [] := rfl
@[simp] theorem dnil_fresh : dnil.fresh = false := rfl
@[simp] theorem dnil_isNil : dnil.isNil = false := rfl
@[simp] theorem dnil_need {g : Gx} : Need g dnil := by
  intro X c x hg ok m
  have m : lookDnil x = true := m
  unfold lookDnil at m
  split at m
  · subst hg
    refine rawNeed dnil_monos (PE.imp pe_dnewK fun σ H Q q p hp => ?_) (fun _ => rfl) fun _ _ _ z => nomatch z
    obtain ⟨T, env, O, k, r, q⟩ := q
    have q : post X.K T O false H Q (.dic [] []) := q
    have s := same_upd (o := .dK []) hp
    have hO : p ∉ O := fun z => k.live p z hp
    refine q _ _ (fun a o h _ => s a o h) (tapeLe s k.tape) ⟨p, [], rfl, ?_, rfl, rfl⟩ fun z => nomatch z
    exact res_of hO upd_self
  · cases m
end DL

set_option Elab.async false
set_option linter.all false
set_option maxRecDepth 100000
set_option maxHeartbeats 2000000
/-! DL27: rules that look at what the names hold alone. -/
namespace DL
open PySem PySem.Spec PyProof.Rows L2

theorem rdv_set_ne {env : DEnv} {i j : Nat} {s : Sl} (h : i ≠ j) : rdv (env.set i s) j = rdv env j := by
  unfold rdv
  rw [List.getElem?_set_ne h]
theorem rdv_set_eq {env : DEnv} {i : Nat} {s : Sl} (h : i < env.length) : rdv (env.set i s) i = s.val := by
  unfold rdv
  rw [List.getElem?_set_self h]
theorem frz_rdv {env : DEnv} {vs : List Nat} {j : Nat} : rdv (frz env vs) j = rdv env j := by
  unfold rdv
  rw [frz_get]
  by_cases h : j ∈ vs
  · rw [if_pos h]
    cases h : env[j]? with
    | none => rfl
    | some s => cases s <;> rfl
  · rw [if_neg h]
theorem aft_rdv {e : E} {d : D} {env : DEnv} {j : Nat} : rdv (aft e d env) j = rdv env j := by
  rcases aft_or e d env with h | h
  · rw [h]
  · rw [h, frz_rdv]
theorem aft_len {e : E} {d : D} {env : DEnv} : (aft e d env).length = env.length := by
  rcases aft_or e d env with h | h
  · rw [h]
  · rw [h, frz_length]
theorem newSl_val (e : E) (d : D) : (newSl e d).val = some d := by
  cases d with
  | lst ds =>
    show (if e.fresh then Sl.ow (.lst ds) else .sh (.lst ds)).val = _
    split <;> rfl
  | _ => rfl
/-- the same places, read -/
structure Rds (env env' : DEnv) : Prop where
  len : env'.length = env.length
  rd : ∀ j, rdv env' j = rdv env j
theorem Rds.refl (env : DEnv) : Rds env env := ⟨rfl, fun _ => rfl⟩
theorem Rds.trans {a b c : DEnv} (x : Rds a b) (y : Rds b c) : Rds a c := ⟨y.len.trans x.len, fun j => (y.rd j).trans (x.rd j)⟩
theorem Rds.aft {e : E} {d : D} {env : DEnv} : Rds env (aft e d env) := ⟨aft_len, fun _ => aft_rdv⟩
/-- but one place -/
structure RdsB (i : Nat) (d : D) (env env' : DEnv) : Prop where
  len : env'.length = env.length
  rd : ∀ j, i ≠ j → rdv env' j = rdv env j
  at_ : i < env.length → rdv env' i = some d
section
variable {e c tg it : E} {r a b body : S} {en : DEnds} {env : DEnv} {i j : Nat}
theorem st_asgR (P : D → Prop) (m : e.monos) (he : semE e env P) (nx : ∀ d, P d → ∀ env', RdsB i d env env' → semS r en env') : semS (.cons (.asg i e) r) en env := by
  show semE e env fun d => semS r en ((aft e d env).set i (newSl e d))
  exact sem_le m he fun d h => nx d h _ ⟨by rw [List.length_set, aft_len], fun j hj => by rw [rdv_set_ne hj, aft_rdv], fun hi => by rw [rdv_set_eq (by rw [aft_len]; exact hi), newSl_val]⟩
/-- two at once -/
theorem st_parR {j : Nat} {x y : E} (P Q : D → Prop) (mx : x.monos) (my : y.monos) (hx : semE x env P) (hy : ∀ env', Rds env env' → semE y env' Q) (hij : i ≠ j)
    (nx : ∀ d d', P d → Q d' → ∀ env', env'.length = env.length → (∀ k, i ≠ k → j ≠ k → rdv env' k = rdv env k) → (i < env.length → rdv env' i = some d) → (j < env.length → rdv env' j = some d') → semS r en env') : semS (.cons (.asg2 i j x y) r) en env := by
  show semE x env fun d => semE y (aft x d env) fun d' => semS r en (((aft y d' (aft x d env)).set i (newSl x d)).set j (newSl y d'))
  exact sem_le mx hx fun d h => sem_le my (hy _ Rds.aft) fun d' h' => nx d d' h h' _ (by rw [List.length_set, List.length_set, aft_len, aft_len]) (fun k h1 h2 => by rw [rdv_set_ne h2, rdv_set_ne h1, aft_rdv, aft_rdv])
    (fun hi => by rw [rdv_set_ne (Ne.symm hij), rdv_set_eq (by rw [aft_len, aft_len]; exact hi), newSl_val]) (fun hj => by rw [rdv_set_eq (by rw [List.length_set, aft_len, aft_len]; exact hj), newSl_val])
/-- a for, by what is read -/
theorem st_forR (P : List D → Prop) (m : it.monos) (he : semE it env fun d => dItems d P) (hb : body.monos) (I : List D → Nat → DEnv → Prop)
    (start : ∀ ds, P ds → ∀ env', Rds env env' → I ds 0 env')
    (step : ∀ ds, P ds → ∀ k d env, ds[k]? = some d → I ds k env → bindT env tg d fun e1 => semS body { nx := I ds (k + 1), rt := en.rt, bk := semS r en, ct := I ds (k + 1) } e1)
    (done : ∀ ds, P ds → ∀ env, I ds ds.length env → semS r en env) : semS (.cons (.for_ tg it body) r) en env := by
  show semE it env fun w => dItems w fun items => forD (fun e1 d => bindT e1 tg d) (semS body) { en with nx := semS r en } items (aft it w env)
  exact sem_le m he fun d h => dItems_mono h fun ds h => for_inv hb (I ds) (start ds h _ Rds.aft) (step ds h) (done ds h)
/-- each item is looked at: nothing happens -/
theorem st_eachR (P : D → Prop) (m : it.monos) (he : semE it env fun d => dItems d fun ds => ∀ d ∈ ds, P d) (hb : body.monos)
    (step : ∀ d, P d → ∀ env', env'.length = env.length → (∀ j, i ≠ j → rdv env' j = rdv env j) → (i < env.length → rdv env' i = some d) → ∀ nx : DEnv → Prop, (∀ e2, e2.length = env.length → (∀ j, i ≠ j → rdv e2 j = rdv env j) → nx e2) → semS body { nx := nx, rt := en.rt, bk := semS r en, ct := nx } env')
    (done : ∀ env', env'.length = env.length → (∀ j, i ≠ j → rdv env' j = rdv env j) → semS r en env') : semS (.cons (.for_ (.var i) it body) r) en env := by
  refine st_forR (fun ds => ∀ d ∈ ds, P d) m he hb (fun _ _ e => e.length = env.length ∧ ∀ j, i ≠ j → rdv e j = rdv env j) (fun ds _ e h => ⟨h.len, fun j _ => h.rd j⟩) (fun ds h k d e hd ⟨h1, h2⟩ => ?_) (fun ds _ e ⟨h1, h2⟩ => done e h1 h2)
  show semS body _ (e.set i (.sh d))
  exact step d (h d (List.mem_of_getElem? hd)) _ (by rw [List.length_set]; exact h1) (fun j hj => by rw [rdv_set_ne hj]; exact h2 j hj) (fun hi => rdv_set_eq (by rw [h1]; exact hi)) _ fun e2 h3 h4 => ⟨h3, h4⟩
end
theorem semS_forT {tg it : E} {body : S} {en : DEnds} {env : DEnv} : semS (.for_ tg it body) en env = semE it env fun w => dItems w fun items => forD (fun e1 d => bindT e1 tg d) (semS body) en items (aft it w env) := rfl
theorem semS_whlT {c : E} {body : S} {en : DEnds} {env : DEnv} : semS (.whl c body) en env = ∃ n, whlD (semE c) (semS body) en n env := rfl
@[simp] theorem noMuts_rangeDn {a b : Int} : noMuts (rangeDn a b) = true := by
  unfold rangeDn
  exact noMuts_map _ fun _ => rfl
@[simp] theorem aft_r1 {a : E} {x y : Int} {env : DEnv} : aft (.r1 a) (.lst (rangeD x y)) env = env := aft_keeps (keeps_fresh rfl noMuts_rangeD)
@[simp] theorem aft_r2 {a b : E} {x y : Int} {env : DEnv} : aft (.r2 a b) (.lst (rangeD x y)) env = env := aft_keeps (keeps_fresh rfl noMuts_rangeD)
@[simp] theorem aft_r3 {a b c : E} {x y : Int} {env : DEnv} : aft (.r3 a b c) (.lst (rangeDn x y)) env = env := aft_keeps (keeps_fresh rfl noMuts_rangeDn)
/-- a test of all items, then two ways -/
theorem all_if {α : Type} (f : α → Bool) (xs : List α) {A B : Prop} (hF : xs.all f = false → A) (hT : xs.all f = true → B) : ∃ bs : List Bool, xs.map (fun x => D.bl (f x)) = bs.map D.bl ∧ if false ∈ bs then A else B := by
  refine ⟨xs.map f, by rw [List.map_map]; rfl, ?_⟩
  split
  · rename_i h
    refine hF ?_
    obtain ⟨x, hx, e⟩ := List.mem_map.mp h
    rw [← Bool.not_eq_true, List.all_eq_true]
    intro z
    rw [z x hx] at e
    cases e
  · rename_i h
    refine hT (List.all_eq_true.mpr fun x hx => ?_)
    cases e : f x with
    | true => rfl
    | false => exact absurd (List.mem_map.mpr ⟨x, hx, e⟩) h
theorem all_false {α : Type} {p : α → Bool} {xs : List α} {a : α} (h : a ∈ xs) (hp : p a = false) : xs.all p = false := by
  rw [← Bool.not_eq_true, List.all_eq_true]
  intro z
  rw [z a h] at hp
  cases hp
/-- a loop over places that may end with False: all places pass or one does not -/
theorem for_all {tg : E} {body : S} {en : DEnds} (hb : body.monos) {n : Nat} {p : Nat → Bool} (I : DEnv → Prop) {env : DEnv} (start : I env)
    (step : ∀ k env, k < n → I env → bindT env tg (.int k) fun e1 => semS body { nx := fun e => I e ∧ p k = true, rt := fun d => d = .bl false ∧ p k = false, bk := fun _ => False, ct := fun e => I e ∧ p k = true } e1)
    (bad : (List.range n).all p = false → en.rt (.bl false)) (done : (List.range n).all p = true → ∀ env, I env → en.nx env) : forD (fun e1 d => bindT e1 tg d) (semS body) en (rangeD 0 (n : Int)) env := by
  refine for_inv hb (fun k e => I e ∧ ∀ j, j < k → p j = true) ⟨start, fun j h => by omega⟩ (fun k d env hd ⟨h1, h2⟩ => ?_) (fun env ⟨h1, h2⟩ => ?_)
  · obtain ⟨hk, rfl⟩ := rangeD_get hd
    refine bindT_mono (step k env hk h1) fun e1 h => semS_mono body hb { nx := fun e => I e ∧ p k = true, rt := fun d => d = .bl false ∧ p k = false, bk := fun _ => False, ct := fun e => I e ∧ p k = true } { nx := fun e => I e ∧ ∀ j, j < k + 1 → p j = true, rt := en.rt, bk := en.nx, ct := fun e => I e ∧ ∀ j, j < k + 1 → p j = true } ⟨fun e ⟨h3, h4⟩ => ⟨h3, fun j hj => ?_⟩, fun d ⟨h3, h4⟩ => ?_, fun e h => h.elim, fun e ⟨h3, h4⟩ => ⟨h3, fun j hj => ?_⟩⟩ _ h
    · by_cases e : j = k
      · rw [e]; exact h4
      · exact h2 j (by omega)
    · rw [h3]
      exact bad (all_false (List.mem_range.mpr hk) h4)
    · by_cases e : j = k
      · rw [e]; exact h4
      · exact h2 j (by omega)
  · rw [rangeD_len] at h2
    exact done (List.all_eq_true.mpr fun j hj => h2 j (List.mem_range.mp hj)) env h1
@[simp] theorem isTy_non_int  : isTy .non .int = false := rfl
@[simp] theorem isTy_non_bool  : isTy .non .bool = false := rfl
@[simp] theorem isTy_non_str  : isTy .non .str = false := rfl
@[simp] theorem isTy_non_tuple  : isTy .non .tuple = false := rfl
@[simp] theorem isTy_non_list  : isTy .non .list = false := rfl
@[simp] theorem isTy_non_dict  : isTy .non .dict = false := rfl
@[simp] theorem isTy_bl_int {b : Bool} : isTy (.bl b) .int = true := rfl
@[simp] theorem isTy_bl_bool {b : Bool} : isTy (.bl b) .bool = true := rfl
@[simp] theorem isTy_bl_str {b : Bool} : isTy (.bl b) .str = false := rfl
@[simp] theorem isTy_bl_tuple {b : Bool} : isTy (.bl b) .tuple = false := rfl
@[simp] theorem isTy_bl_list {b : Bool} : isTy (.bl b) .list = false := rfl
@[simp] theorem isTy_bl_dict {b : Bool} : isTy (.bl b) .dict = false := rfl
@[simp] theorem isTy_int_int {i : Int} : isTy (.int i) .int = true := rfl
@[simp] theorem isTy_int_bool {i : Int} : isTy (.int i) .bool = false := rfl
@[simp] theorem isTy_int_str {i : Int} : isTy (.int i) .str = false := rfl
@[simp] theorem isTy_int_tuple {i : Int} : isTy (.int i) .tuple = false := rfl
@[simp] theorem isTy_int_list {i : Int} : isTy (.int i) .list = false := rfl
@[simp] theorem isTy_int_dict {i : Int} : isTy (.int i) .dict = false := rfl
@[simp] theorem isTy_str_int {s : Str} : isTy (.str s) .int = false := rfl
@[simp] theorem isTy_str_bool {s : Str} : isTy (.str s) .bool = false := rfl
@[simp] theorem isTy_str_str {s : Str} : isTy (.str s) .str = true := rfl
@[simp] theorem isTy_str_tuple {s : Str} : isTy (.str s) .tuple = false := rfl
@[simp] theorem isTy_str_list {s : Str} : isTy (.str s) .list = false := rfl
@[simp] theorem isTy_str_dict {s : Str} : isTy (.str s) .dict = false := rfl
@[simp] theorem isTy_tup_int {ds : List D} : isTy (.tup ds) .int = false := rfl
@[simp] theorem isTy_tup_bool {ds : List D} : isTy (.tup ds) .bool = false := rfl
@[simp] theorem isTy_tup_str {ds : List D} : isTy (.tup ds) .str = false := rfl
@[simp] theorem isTy_tup_tuple {ds : List D} : isTy (.tup ds) .tuple = true := rfl
@[simp] theorem isTy_tup_list {ds : List D} : isTy (.tup ds) .list = false := rfl
@[simp] theorem isTy_tup_dict {ds : List D} : isTy (.tup ds) .dict = false := rfl
@[simp] theorem isTy_lst_int {ds : List D} : isTy (.lst ds) .int = false := rfl
@[simp] theorem isTy_lst_bool {ds : List D} : isTy (.lst ds) .bool = false := rfl
@[simp] theorem isTy_lst_str {ds : List D} : isTy (.lst ds) .str = false := rfl
@[simp] theorem isTy_lst_tuple {ds : List D} : isTy (.lst ds) .tuple = false := rfl
@[simp] theorem isTy_lst_list {ds : List D} : isTy (.lst ds) .list = true := rfl
@[simp] theorem isTy_lst_dict {ds : List D} : isTy (.lst ds) .dict = false := rfl
@[simp] theorem isTy_dic_int {ds es : List D} : isTy (.dic ds es) .int = false := rfl
@[simp] theorem isTy_dic_bool {ds es : List D} : isTy (.dic ds es) .bool = false := rfl
@[simp] theorem isTy_dic_str {ds es : List D} : isTy (.dic ds es) .str = false := rfl
@[simp] theorem isTy_dic_tuple {ds es : List D} : isTy (.dic ds es) .tuple = false := rfl
@[simp] theorem isTy_dic_list {ds es : List D} : isTy (.dic ds es) .list = false := rfl
@[simp] theorem isTy_dic_dict {ds es : List D} : isTy (.dic ds es) .dict = true := rfl
@[simp] theorem isNon_non : isNon .non = true := rfl
@[simp] theorem isNon_bl {b : Bool} : isNon (.bl b) = false := rfl
@[simp] theorem isNon_int {b : Int} : isNon (.int b) = false := rfl
@[simp] theorem isNon_str {b : Str} : isNon (.str b) = false := rfl
@[simp] theorem isNon_tup {b : List D} : isNon (.tup b) = false := rfl
@[simp] theorem isNon_lst {b : List D} : isNon (.lst b) = false := rfl
/-- every item passes -/
theorem lcD_true {bind : D → (DEnv → Prop) → Prop} {cond : DEnv → (Bool → Prop) → Prop} {elt : DEnv → (D → Prop) → Prop} {ds : List D} {Q : List D → Prop}
    (h : ∀ x ∈ ds, ∀ (Qt : D → Prop) (Qf : Prop), Qt (.bl true) → bind x fun e1 => cond e1 fun b => match b with
      | true => elt e1 Qt
      | false => Qf) (hq : Q ((List.replicate ds.length true).map D.bl)) : lcD bind cond elt ds Q := by
  rw [show ds = ds.map id by simp]
  refine lcD_map (g := id) (f := fun _ => .bl true) h ?_
  rw [List.map_const', ← List.map_replicate]
  exact hq
theorem rep_no (n : Nat) : ¬ false ∈ List.replicate n true := fun h => Bool.noConfusion (List.eq_of_mem_replicate h)
theorem rep_all (n : Nat) : (List.replicate n true).all id = true := List.all_eq_true.mpr fun x hx => List.eq_of_mem_replicate hx
theorem cut_neg1 {α : Type} (xs : List α) : cutL xs none (some (-1)) = xs.take (xs.length - 1) := by
  unfold cutL
  have e : HT.sIx xs.length xs.length (some (-1)) = xs.length - 1 := by
    unfold HT.sIx
    simp
    omega
  rw [e, HT.sIx_none, List.drop_zero, Nat.sub_zero]
section
variable {e c tg it k : E} {r a b body : S} {en : DEnds} {env : DEnv} {i j : Nat}
/-- a for over something that holds nothing of the names -/
theorem st_forN (P : List D → Prop) (m : it.monos) (he : semE it env fun d => keeps it d = true ∧ dItems d P) (hb : body.monos) (I : List D → Nat → DEnv → Prop)
    (start : ∀ ds, P ds → I ds 0 env)
    (step : ∀ ds, P ds → ∀ k d env, ds[k]? = some d → I ds k env → bindT env tg d fun e1 => semS body { nx := I ds (k + 1), rt := en.rt, bk := semS r en, ct := I ds (k + 1) } e1)
    (done : ∀ ds, P ds → ∀ env, I ds ds.length env → semS r en env) : semS (.cons (.for_ tg it body) r) en env := by
  show semE it env fun w => dItems w fun items => forD (fun e1 d => bindT e1 tg d) (semS body) { en with nx := semS r en } items (aft it w env)
  exact sem_le m he fun d ⟨hk, h⟩ => by
    rw [aft_keeps hk]
    exact dItems_mono h fun ds h => for_inv hb (I ds) (start ds h) (step ds h) (done ds h)
/-- xs[k] = e -/
theorem st_setI {ds : List D} (P : D → Prop) (R : Nat → Prop) (m : e.monos) (mk : k.monos) (ho : env[i]? = some (.ow (.lst ds))) (he : semE e env P) (nm : ∀ d, P d → noMut d = true) (hk : semE k env fun x => ∃ n : Int, x = .int n ∧ ∃ j, ixN ds.length n = some j ∧ R j)
    (nx : ∀ d j, P d → R j → semS r en (env.set i (.ow (.lst (ds.set j d))))) : semS (.cons (.setI i k e) r) en env := by
  show semE e env fun d => ownL (aft e d env) i fun ds => semE k (aft e d env) fun x => match x with
    | .int n => ∃ j, ixN ds.length n = some j ∧ semS r en ((aft e d env).set i (.ow (.lst (ds.set j d))))
    | _ => False
  exact sem_le m he fun d h => by
    rw [aft_nm (nm d h), ownL_ow ho]
    exact sem_le mk hk fun x ⟨n, e, j, hj, hr⟩ => by
      subst e
      exact ⟨j, hj, nx d j h hr⟩
theorem keeps_noMut' {e : E} {d : D} (h : noMut d = true) : keeps e d = true := keeps_noMut h
theorem ixN_lt {n j : Nat} (h : j < n) : ixN n (j : Int) = some j := by
  unfold ixN
  simp
  omega
end
end DL

set_option Elab.async false
set_option linter.all false
set_option maxRecDepth 100000
set_option maxHeartbeats 4000000
/-! DL26: chains of comparisons of any length. -/
namespace DL
open PySem PySem.Spec PyProof.Rows L2

def chD (env : DEnv) : List CmpOp → List E → D → (D → Prop) → Prop
  | [o], [b], x, Q => semE b env fun y => dCmp o x y Q
  | o :: os, b :: bs, x, Q => semE b env fun y => dCmp o x y fun c => bif2 c (chD env os bs y Q) (Q (.bl false))
  | _, _, _, _ => False
def matchL (c : Ctx) : List E → List Expr → Bool
  | [], [] => true
  | b :: bs, z :: zs => notSet z && matchE c false b z && matchL c bs zs
  | _, _ => false
def varsL (bs : List E) : List Nat := (bs.map E.vars).flatten
def lookCh (c : Ctx) (os : List CmpOp) (a : E) (bs : List E) (x : Expr) : Bool := match x with
  | .Compare y ops zs _ => decide (ops = os) && decide (2 ≤ os.length) && decide (os.length = bs.length) && matchE c false a y && matchL c bs zs
  | _ => false
def eChain (os : List CmpOp) (a : E) (bs : List E) : E := .raw (fun c x => lookCh c os a bs x) (fun env Q => semE a env fun x => chD env os bs x Q) (a.vars ++ varsL bs) false
@[simp] def monosL (bs : List E) : Prop := ∀ b ∈ bs, b.monos
@[simp] def needL (g : Gx) (bs : List E) : Prop := ∀ b ∈ bs, Need g b
theorem bif2_mono {c : D} {A B A' B' : Prop} (h : bif2 c A B) (ha : A → A') (hb : B → B') : bif2 c A' B' := by
  cases c with
  | bl b => cases b with
    | true => exact ha h
    | false => exact hb h
  | _ => exact h.elim
theorem chD_mono {env : DEnv} : ∀ {os : List CmpOp} {bs : List E} {x : D} {Q Q' : D → Prop}, monosL bs → chD env os bs x Q → (∀ d, Q d → Q' d) → chD env os bs x Q'
  | [], bs, x, Q, Q', hm, h, m => by cases bs <;> exact h.elim
  | [o], [], x, Q, Q', hm, h, m => h.elim
  | [o], [b], x, Q, Q', hm, h, m => (sem_mono b (hm b List.mem_cons_self)).1 _ _ _ h fun y h => dCmp_mono h m
  | [o], b :: b2 :: bs, x, Q, Q', hm, h, m => (sem_mono b (hm b List.mem_cons_self)).1 _ _ _ h fun y h => dCmp_mono h fun c h => bif2_mono h (fun z => z.elim) (m _)
  | o :: o2 :: os, [], x, Q, Q', hm, h, m => h.elim
  | o :: o2 :: os, b :: bs, x, Q, Q', hm, h, m => (sem_mono b (hm b List.mem_cons_self)).1 _ _ _ h fun y h => dCmp_mono h fun c h => bif2_mono h (fun z => chD_mono (fun b hb => hm b (List.mem_cons_of_mem _ hb)) z m) (m _)
theorem eChain_monos {os : List CmpOp} {a : E} {bs : List E} : (eChain os a bs).monos ↔ ∀ (env : DEnv) (Q Q' : D → Prop), (semE a env fun x => chD env os bs x Q) → (∀ d, Q d → Q' d) → semE a env fun x => chD env os bs x Q' := Iff.rfl
@[simp] theorem eChain_mono {os : List CmpOp} {a : E} {bs : List E} (ma : a.monos) (mb : monosL bs) : (eChain os a bs).monos := fun env Q Q' h m => (sem_mono a ma).1 _ _ _ h fun x h => chD_mono mb h m
theorem lastMarks_of {c : Ctx} : ∀ {os : List CmpOp} {bs : List E} {zs : List Expr}, matchL c bs zs = true → lastMarks os zs = false
  | os, [], [], _ => by cases os with
    | nil => rfl
    | cons o os => cases os <;> rfl
  | os, [], z :: zs, h => by cases h
  | os, b :: bs, [], h => by cases h
  | [], b :: bs, z :: zs, h => rfl
  | [o], [b], [z], h => by
    simp only [matchL, Bool.and_eq_true] at h
    exact mark_of h.1.1
  | [o], b :: bs, z :: z2 :: zs, h => by cases bs <;> first | (simp [matchL] at h; done) | rfl
  | [o], b :: b2 :: bs, [z], h => by simp [matchL] at h
  | o :: o2 :: os, b :: bs, z :: zs, h => by
    simp only [matchL, Bool.and_eq_true] at h
    exact lastMarks_of (os := o2 :: os) h.2
section
variable {X : Cx} {c : Ctx}
/-- one link: what the right one is, then how they compare -/
theorem link1 (ok : XOk X c) {o : CmpOp} {b : E} {z : Expr} (mb : b.monos) (nb : Need (gxOf X) b) (m : matchE c false b z = true) {pins : List (Addr × Obj)} {s : Shared} {σ : L2.St} {H : Hp} {x : V} {v : Value} {d : D} {T : Tape} {O : List Addr} {env : DEnv} {P : D → D → Prop}
    (I : Inv X pins σ H s) (r : RelV x v) (k : Ok T O H) (hd : Dat X.K T (res H O) d x) (rp : Rp X.K T O σ env H b.vars) (q : semE b env fun y => dCmp o d y (P y)) :
    wpAny (model X.prog X.w) X.A (eval z X.env) (fun u s1 => wpAny (model X.prog X.w) X.A (compareOp o v u) (fun cv s2 => ∃ (y : D) (w : V) (e : D) (H2 : Hp), Inv X pins σ H2 s2 ∧ RelV w u ∧ Ext T H H2 ∧ Ok T O H2 ∧ Dat X.K T (res H2 O) y w ∧ (∀ b : Bool, e = .bl b → cv = .bool b) ∧ P y e) X.xe s1) X.xe s := by
  have S := (sound b mb).get ok nb m
  refine thn (S.pe.run pins s σ H (fun w H1 => ∃ y, Ext T H H1 ∧ Ok T O H1 ∧ Dat X.K T (res H1 O) y w ∧ dCmp o d y (P y)) I (lift1 mb k rp q fun y w H1 e1 k1 hy q => ⟨y, e1, k1, hy, q⟩)) ?_
  rintro u s1 ⟨w, H1, I1, r1, y, e1, k1, hy, q⟩
  refine thn (op_cmp ok.hu o pins s1 σ H1 x w v u (fun cv H2 => ∃ e, Ext T H1 H2 ∧ Ok T O H2 ∧ Dat X.K T (res H2 O) e cv ∧ P y e) I1 r r1 ⟨T, O, d, y, k1, hd.le (k.res e1), hy, dCmp_mono q fun e q cv H2 e2 t2 he _ => ⟨e, e2, k1.ext e2 t2, he, q⟩⟩) ?_
  rintro cv s2 ⟨cw, H2, I2, r2, e, e2, k2, he, q⟩
  refine ⟨y, w, e, H2, I2, r1, e1.trans e2, k2, hy.le (k1.res e2), fun b eb => ?_, q⟩
  subst eb
  have : cw = V.bl b := he
  subst this
  exact r2
theorem chN_pe (ok : XOk X c) {pos : Pos} : ∀ (os : List CmpOp) (bs : List E) (zs : List Expr), matchL c bs zs = true → monosL bs → needL (gxOf X) bs → os.length = bs.length → bs ≠ [] → ∀ {pins : List (Addr × Obj)} {s : Shared} {σ : L2.St} {H : Hp} {x : V} {v : Value} {d : D} {T : Tape} {O : List Addr} {env : DEnv} {Q : VK},
    Inv X pins σ H s → RelV x v → Ok T O H → Dat X.K T (res H O) d x → Rp X.K T O σ env H (varsL bs) → chD env os bs d (post X.K T O false H Q) → wpAny (model X.prog X.w) X.A (compareChain pos v os (evalEach zs X.env)) (EP X pins σ Q) X.xe s
  | [o], [b], [z], m, hm, hn, _, _, pins, s, σ, H, x, v, d, T, O, env, Q, I, r, k, hd, rp, q => by
    simp only [matchL, Bool.and_eq_true] at m
    have S := (sound b (hm b List.mem_cons_self)).get ok (hn b List.mem_cons_self) m.1.2
    have rp' : Rp X.K T O σ env H b.vars := rp.sub fun i hi => by simpa [varsL] using hi
    refine chain_last (thn (S.pe.run pins s σ H (fun w H1 => ∃ y, Ext T H H1 ∧ Ok T O H1 ∧ Dat X.K T (res H1 O) y w ∧ dCmp o d y (post X.K T O false H Q)) I (lift1 (hm b List.mem_cons_self) k rp' q fun y w H1 e1 k1 hy q => ⟨y, e1, k1, hy, q⟩)) ?_)
    rintro u s1 ⟨w, H1, I1, r1, y, e1, k1, hy, q⟩
    exact op_cmp ok.hu o pins s1 σ H1 x w v u Q I1 r r1 ⟨T, O, d, y, k1, hd.le (k.res e1), hy, dCmp_mono q fun e q => (post.ext e1 k1.tape q).up⟩
  | o :: o2 :: os, b :: b2 :: bs, z :: z2 :: zs, m, hm, hn, hl, _, pins, s, σ, H, x, v, d, T, O, env, Q, I, r, k, hd, rp, q => by
    simp only [matchL, Bool.and_eq_true] at m
    have q : semE b env fun y => dCmp o d y fun e => bif2 e (chD env (o2 :: os) (b2 :: bs) y (post X.K T O false H Q)) (post X.K T O false H Q (.bl false)) := q
    have rpb : Rp X.K T O σ env H b.vars := rp.sub fun i hi => by simp [varsL]; exact .inl hi
    have rpr : Rp X.K T O σ env H (varsL (b2 :: bs)) := rp.sub fun i hi => by simp [varsL] at hi ⊢; exact .inr hi
    refine chain_link (wpAny_mono (link1 (P := fun y e => bif2 e (chD env (o2 :: os) (b2 :: bs) y (post X.K T O false H Q)) (post X.K T O false H Q (.bl false))) ok (hm b List.mem_cons_self) (hn b List.mem_cons_self) m.1.2 I r k hd rpb q) (fun u s1 h => wpAny_mono h (fun cv s2 h => ?_) fun _ _ e => e) fun _ _ e => e)
    obtain ⟨y, w, e, H2, I2, r2, e2, k2, hy, hb, q⟩ := h
    cases e with
    | bl t =>
      rw [hb t rfl]
      refine wpAny_truthy_bool ?_
      cases t with
      | false => exact ite_ff ⟨.bl false, H2, I2, rfl, post.bl k2 (post.ext e2 k2.tape q)⟩
      | true =>
        refine ite_tt (chN_pe ok (o2 :: os) (b2 :: bs) (z2 :: zs) (by simp only [matchL, Bool.and_eq_true]; exact m.2) (fun b hb => hm b (List.mem_cons_of_mem _ hb)) (fun b hb => hn b (List.mem_cons_of_mem _ hb)) (by simpa using hl) (by simp) I2 r2 k2 hy (rpr.ext k e2) (chD_mono (fun b hb => hm b (List.mem_cons_of_mem _ hb)) q fun d q => post.ext e2 k2.tape q))
    | _ => exact q.elim
  | [], _, _, _, _, _, hl, hn, _, _, _, _, _, _, _, _, _, _, _, _, _, _, _, _, _ => by
    exact absurd (List.eq_nil_of_length_eq_zero hl.symm) hn
  | [_], [], _, _, _, _, hl, _, _, _, _, _, _, _, _, _, _, _, _, _, _, _, _, _, _ => by cases hl
  | [_], _ :: _ :: _, _, _, _, _, hl, _, _, _, _, _, _, _, _, _, _, _, _, _, _, _, _, _, _ => by simp at hl
  | [_], [_], [], m, _, _, _, _, _, _, _, _, _, _, _, _, _, _, _, _, _, _, _, _, _ => by cases m
  | [_], [_], _ :: _ :: _, m, _, _, _, _, _, _, _, _, _, _, _, _, _, _, _, _, _, _, _, _, _ => by simp [matchL] at m
  | _ :: _ :: _, [], _, _, _, _, hl, _, _, _, _, _, _, _, _, _, _, _, _, _, _, _, _, _, _ => by cases hl
  | _ :: _ :: _, [_], _, _, _, _, hl, _, _, _, _, _, _, _, _, _, _, _, _, _, _, _, _, _, _ => by simp at hl
  | _ :: _ :: _, _ :: _ :: _, [], m, _, _, _, _, _, _, _, _, _, _, _, _, _, _, _, _, _, _, _, _, _ => by cases m
  | _ :: _ :: _, _ :: _ :: _, [_], m, _, _, _, _, _, _, _, _, _, _, _, _, _, _, _, _, _, _, _, _, _ => by simp [matchL] at m
theorem chN_pt (ok : XOk X c) {pos : Pos} : ∀ (os : List CmpOp) (bs : List E) (zs : List Expr), matchL c bs zs = true → monosL bs → needL (gxOf X) bs → os.length = bs.length → bs ≠ [] → ∀ {pins : List (Addr × Obj)} {s : Shared} {σ : L2.St} {H : Hp} {x : V} {v : Value} {d : D} {T : Tape} {O : List Addr} {env : DEnv} {Q : Bool → Hp → Prop},
    Inv X pins σ H s → RelV x v → Ok T O H → Dat X.K T (res H O) d x → Rp X.K T O σ env H (varsL bs) → chD env os bs d (postB T H Q) → wpAny (model X.prog X.w) X.A (testChain pos v os (evalEach zs X.env)) (fun b s1 => ∃ H1, Inv X pins σ H1 s1 ∧ Q b H1) X.xe s
  | [o], [b], [z], m, hm, hn, _, _, pins, s, σ, H, x, v, d, T, O, env, Q, I, r, k, hd, rp, q => by
    simp only [matchL, Bool.and_eq_true] at m
    have rp' : Rp X.K T O σ env H b.vars := rp.sub fun i hi => by simpa [varsL] using hi
    have q : semE b env fun y => dCmp o d y (postB T H Q) := q
    refine test_last (wpAny_mono (link1 (P := fun y e => postB T H Q e) ok (hm b List.mem_cons_self) (hn b List.mem_cons_self) m.1.2 I r k hd rp' q) (fun u s1 h => wpAny_mono h (fun cv s2 h => ?_) fun _ _ e => e) fun _ _ e => e)
    obtain ⟨y, w, e, H2, I2, r2, e2, k2, hy, hb, q⟩ := h
    cases e with
    | bl t =>
      rw [hb t rfl]
      exact wpAny_truthy_bool ⟨H2, I2, (show ∀ H2, Ext T H H2 → T.ok H2 → Q t H2 from q) H2 e2 k2.tape⟩
    | _ => exact q.elim
  | o :: o2 :: os, b :: b2 :: bs, z :: z2 :: zs, m, hm, hn, hl, _, pins, s, σ, H, x, v, d, T, O, env, Q, I, r, k, hd, rp, q => by
    simp only [matchL, Bool.and_eq_true] at m
    have q : semE b env fun y => dCmp o d y fun e => bif2 e (chD env (o2 :: os) (b2 :: bs) y (postB T H Q)) (postB T H Q (.bl false)) := q
    have rpb : Rp X.K T O σ env H b.vars := rp.sub fun i hi => by simp [varsL]; exact .inl hi
    have rpr : Rp X.K T O σ env H (varsL (b2 :: bs)) := rp.sub fun i hi => by simp [varsL] at hi ⊢; exact .inr hi
    refine test_link (wpAny_mono (link1 (P := fun y e => bif2 e (chD env (o2 :: os) (b2 :: bs) y (postB T H Q)) (postB T H Q (.bl false))) ok (hm b List.mem_cons_self) (hn b List.mem_cons_self) m.1.2 I r k hd rpb q) (fun u s1 h => wpAny_mono h (fun cv s2 h => ?_) fun _ _ e => e) fun _ _ e => e)
    obtain ⟨y, w, e, H2, I2, r2, e2, k2, hy, hb, q⟩ := h
    cases e with
    | bl t =>
      rw [hb t rfl]
      refine wpAny_truthy_bool ?_
      cases t with
      | false => exact ite_ff ⟨H2, I2, (show ∀ H2, Ext T H H2 → T.ok H2 → Q false H2 from q) H2 e2 k2.tape⟩
      | true =>
        refine ite_tt (chN_pt ok (o2 :: os) (b2 :: bs) (z2 :: zs) (by simp only [matchL, Bool.and_eq_true]; exact m.2) (fun b hb => hm b (List.mem_cons_of_mem _ hb)) (fun b hb => hn b (List.mem_cons_of_mem _ hb)) (by simpa using hl) (by simp) I2 r2 k2 hy (rpr.ext k e2) (chD_mono (fun b hb => hm b (List.mem_cons_of_mem _ hb)) q fun d q => q.ext e2))
    | _ => exact q.elim
  | [], _, _, _, _, _, hl, hn, _, _, _, _, _, _, _, _, _, _, _, _, _, _, _, _, _ => by
    exact absurd (List.eq_nil_of_length_eq_zero hl.symm) hn
  | [_], [], _, _, _, _, hl, _, _, _, _, _, _, _, _, _, _, _, _, _, _, _, _, _, _ => by cases hl
  | [_], _ :: _ :: _, _, _, _, _, hl, _, _, _, _, _, _, _, _, _, _, _, _, _, _, _, _, _, _ => by simp at hl
  | [_], [_], [], m, _, _, _, _, _, _, _, _, _, _, _, _, _, _, _, _, _, _, _, _, _ => by cases m
  | [_], [_], _ :: _ :: _, m, _, _, _, _, _, _, _, _, _, _, _, _, _, _, _, _, _, _, _, _, _ => by simp [matchL] at m
  | _ :: _ :: _, [], _, _, _, _, hl, _, _, _, _, _, _, _, _, _, _, _, _, _, _, _, _, _, _ => by cases hl
  | _ :: _ :: _, [_], _, _, _, _, hl, _, _, _, _, _, _, _, _, _, _, _, _, _, _, _, _, _, _ => by simp at hl
  | _ :: _ :: _, _ :: _ :: _, [], m, _, _, _, _, _, _, _, _, _, _, _, _, _, _, _, _, _, _, _, _, _ => by cases m
  | _ :: _ :: _, _ :: _ :: _, [_], m, _, _, _, _, _, _, _, _, _, _, _, _, _, _, _, _, _, _, _, _, _ => by simp [matchL] at m
end
@[simp] theorem eChain_need {g : Gx} {os : List CmpOp} {a : E} {bs : List E} (ma : a.monos) (mb : monosL bs) (na : Need g a) (nb : needL g bs) : Need g (eChain os a bs) := by
  intro X c x hg ok m
  replace m : lookCh c os a bs x = true := m
  subst hg
  unfold lookCh at m
  split at m
  · rename_i y ops zs pos
    simp only [Bool.and_eq_true, decide_eq_true_eq] at m
    obtain ⟨⟨⟨⟨rfl, h2⟩, h3⟩, m1⟩, m2⟩ := m
    have A := (sound a ma).get ok na m1
    have hz : ∀ {bs : List E} {zs : List Expr}, matchL c bs zs = true → bs.length = zs.length := fun {bs} => by
      induction bs with
      | nil => intro zs h; cases zs with
        | nil => rfl
        | cons z zs => cases h
      | cons b bs ih => intro zs h; cases zs with
        | nil => cases h
        | cons z zs =>
          simp only [matchL, Bool.and_eq_true] at h
          simp [ih h.2]
    have hl := hz m2
    have hm := lastMarks_of (os := ops) m2
    match ops, zs, bs, h2, h3, hl with
    | o1 :: o2 :: ops, z1 :: z2 :: zs, b1 :: b2 :: bs, h2, h3, hl =>
      refine ⟨⟨fun pins s σ H Q I q => ?_⟩, ⟨fun pins s σ H Q I q => ?_⟩, fun _ _ _ z => nomatch z⟩
      · obtain ⟨T, env, O, k, r, q⟩ := q
        have rl : Rp X.K T O σ env H a.vars := r.sub fun i hi => List.mem_append_left _ hi
        have rr : Rp X.K T O σ env H (varsL (b1 :: b2 :: bs)) := r.sub fun i hi => List.mem_append_right _ hi
        refine Compare_chain (thn (A.pe.run pins s σ H (fun v H1 => ∃ d, Ext T H H1 ∧ Ok T O H1 ∧ Dat X.K T (res H1 O) d v ∧ chD env (o1 :: o2 :: ops) (b1 :: b2 :: bs) d (post X.K T O false H Q)) I (lift1 ma k rl q fun d v H1 e1 k1 hd q => ⟨d, e1, k1, hd, q⟩)) ?_) hm
        rintro v s1 ⟨x, H1, I1, r1, d, e1, k1, hd, q⟩
        exact chN_pe ok (o1 :: o2 :: ops) (b1 :: b2 :: bs) (z1 :: z2 :: zs) m2 mb nb h3 (by simp) I1 r1 k1 hd (rr.ext k e1) (chD_mono mb q fun d q => post.ext e1 k1.tape q)
      · obtain ⟨T, env, O, k, r, q⟩ := q
        have rl : Rp X.K T O σ env H a.vars := r.sub fun i hi => List.mem_append_left _ hi
        have rr : Rp X.K T O σ env H (varsL (b1 :: b2 :: bs)) := r.sub fun i hi => List.mem_append_right _ hi
        refine isTrue_chain (thn (A.pe.run pins s σ H (fun v H1 => ∃ d, Ext T H H1 ∧ Ok T O H1 ∧ Dat X.K T (res H1 O) d v ∧ chD env (o1 :: o2 :: ops) (b1 :: b2 :: bs) d (postB T H Q)) I (lift1 ma k rl q fun d v H1 e1 k1 hd q => ⟨d, e1, k1, hd, q⟩)) ?_) hm
        rintro v s1 ⟨x, H1, I1, r1, d, e1, k1, hd, q⟩
        exact chN_pt ok (o1 :: o2 :: ops) (b1 :: b2 :: bs) (z1 :: z2 :: zs) m2 mb nb h3 (by simp) I1 r1 k1 hd (rr.ext k e1) (chD_mono mb q fun d q => q.ext e1)
    | [], _, _, h2, _, _ => simp at h2
    | [_], _, _, h2, _, _ => simp at h2
    | _ :: _ :: _, _, [], _, h3, _ => simp at h3
    | _ :: _ :: _, _, [_], _, h3, _ => simp at h3
    | _ :: _ :: _, [], _ :: _ :: _, _, _, hl => simp at hl
    | _ :: _ :: _, [_], _ :: _ :: _, _, _, hl => simp at hl
  · cases m
@[simp] theorem sem_eChain {os : List CmpOp} {a : E} {bs : List E} {env : DEnv} {Q : D → Prop} : semE (eChain os a bs) env Q = semE a env fun x => chD env os bs x Q := rfl
@[simp] theorem chD_1 {o : CmpOp} {b : E} {env : DEnv} {x : D} {Q : D → Prop} : chD env [o] [b] x Q = semE b env fun y => dCmp o x y Q := rfl
@[simp] theorem chD_2 {o o2 : CmpOp} {os : List CmpOp} {b : E} {bs : List E} {env : DEnv} {x : D} {Q : D → Prop} : chD env (o :: o2 :: os) (b :: bs) x Q = semE b env fun y => dCmp o x y fun c => bif2 c (chD env (o2 :: os) bs y Q) (Q (.bl false)) := by
  cases bs <;> rfl
@[simp] theorem eChain_isNil {os : List CmpOp} {a : E} {bs : List E} : (eChain os a bs).isNil = false := rfl
end DL

set_option Elab.async false
set_option linter.all false
set_option maxRecDepth 100000
set_option maxHeartbeats 4000000
/-! DL28: name = [L.pop(e) for k in range(n)]: a list taken out of another one. -/
namespace DL
open PySem PySem.Spec PyProof.Rows L2

def wenv (env : DEnv) (own : List Nat) (j : Nat) (ds : List D) : DEnv := (wipeD env own).set j (.ow (.lst ds))
def popK (ds : List D) (x : D) (k : D → List D → Prop) : Prop := match x with
  | .int i => ∃ r d, ixN ds.length i = some r ∧ ds[r]? = some d ∧ k d (ds.eraseIdx r)
  | _ => False
def shufD (env : DEnv) (own : List Nat) (j : Nat) (e : E) : Nat → List D → (List D → List D → Prop) → Prop
  | 0, ds, R => R ds []
  | m + 1, ds, R => semE e (wenv env own j ds) fun x => popK ds x fun d rest => shufD env own j e m rest fun es ys => R es (d :: ys)
theorem popK_mono {ds : List D} {x : D} {k k' : D → List D → Prop} (h : popK ds x k) (m : ∀ d r, k d r → k' d r) : popK ds x k' := by
  cases x with
  | int i =>
    obtain ⟨r, d, h1, h2, h3⟩ := h
    exact ⟨r, d, h1, h2, m _ _ h3⟩
  | _ => exact h.elim
theorem shufD_mono {env : DEnv} {own : List Nat} {j : Nat} {e : E} (me : e.monos) : ∀ {m : Nat} {ds : List D} {R R' : List D → List D → Prop}, shufD env own j e m ds R → (∀ a b, R a b → R' a b) → shufD env own j e m ds R'
  | 0, ds, R, R', h, i => i _ _ h
  | m + 1, ds, R, R', h, i => (sem_mono e me).1 _ _ _ h fun x h => popK_mono h fun d r h => shufD_mono me h fun a b h => i _ _ h
def lookEl (c : Ctx) (j : Nat) (e : E) : Expr → Bool := fun x => match vM1 x with
  | some (a, b, m, d, y, f) => m1B c j "pop" (some (a, b, m, d, y, f)) && matchE c false e y
  | none => false
def hole (j : Nat) (e : E) : E := .raw (fun c x => lookEl c j e x) (fun _ _ => False) [] false
def lookShuf (c : Ctx) (i j : Nat) (own : List (Str × Nat)) (k : Nat) (e n : E) (st : Stmt) : Bool := match vAsg st with
  | some (x, _, v, _) => storeB c i x && matchE c false (.lc own (hole j e) (.var k) (.r1 n) .nil) v && !(own.map (·.2)).contains j && decide (j < c.N.length)
  | none => false
def shuf (i j : Nat) (own : List (Str × Nat)) (k : Nat) (e n : E) : S := .raw (fun c st => lookShuf c i j own k e n st)
  (fun en env => ownL env j fun ds => semE n env fun x => int1 x fun m => m ≤ 4000 ∧ -4000 ≤ m ∧ shufD env (own.map (·.2)) j e m.toNat ds fun rest ys => en.nx ((env.set j (.ow (.lst rest))).set i (.ow (.lst ys))))
theorem int1_mono {x : D} {k k' : Int → Prop} (h : int1 x k) (m : ∀ i, k i → k' i) : int1 x k' := by
  cases x with
  | int i => exact m _ h
  | _ => exact h.elim
@[simp] theorem shuf_mono {i j : Nat} {own : List (Str × Nat)} {k : Nat} {e n : E} (me : e.monos) (mn : n.monos) : (shuf i j own k e n).monos := fun a b l env h => by
  exact ownL_mono h fun ds h => (sem_mono n mn).1 _ _ _ h fun x h => int1_mono h fun m h => ⟨h.1, h.2.1, shufD_mono me h.2.2 fun es ys h => l.1 _ h⟩
section
variable {K : PySem.W.Frag} {T : Tape} {O W : List Addr} {σ σ' : L2.St} {env env' : DEnv} {H H1 : Hp}
theorem RepS.see (r : RepS K T O W σ env H) (hl : env'.length = σ'.length) (h : ∀ (i : Nat) (d : DL.D), env'[i]? = some (Sl.sh d) → env[i]? = some (Sl.sh d) ∧ σ'[i]? = σ[i]?) (h2 : ∀ (i : Nat) (d : DL.D), env'[i]? = some (Sl.ow d) → env[i]? = some (Sl.ow d) ∧ σ'[i]? = σ[i]?)
    (h3 : ∀ (i : Nat) (rows : List (List DL.D)) (as : List Addr), env'[i]? = some (Sl.nw rows as) → env[i]? = some (Sl.nw rows as) ∧ σ'[i]? = σ[i]?) : RepS K T O W σ' env' H := by
  refine ⟨r.ok, r.wl, r.nt, hl, fun i d q => ?_, fun i d q => ?_, fun i j d e p a b c f => ?_, fun i rows as q => ?_, fun i j a b as bs x q1 q2 => ?_, fun i j a as d p q1 q2 q3 => ?_⟩
  · obtain ⟨a, b⟩ := h i d q
    rw [b]
    exact r.sh i d a
  · obtain ⟨a, b⟩ := h2 i d q
    rw [b]
    exact r.ow i d a
  · obtain ⟨a1, a2⟩ := h2 i d a
    obtain ⟨b1, b2⟩ := h2 j e b
    rw [a2] at c
    rw [b2] at f
    exact r.inj i j d e p a1 b1 c f
  · obtain ⟨a, b⟩ := h3 i rows as q
    rw [b]
    exact r.nw i rows as a
  · exact r.nn i j a b as bs x (h3 _ _ _ q1).1 (h3 _ _ _ q2).1
  · obtain ⟨b1, b2⟩ := h2 j d q2
    rw [b2] at q3
    exact r.nx i j a as d p (h3 _ _ _ q1).1 b1 q3
theorem wipeD_length : ∀ {vs : List Nat}, (wipeD env vs).length = env.length
  | [] => rfl
  | v :: vs => by unfold wipeD; rw [List.length_set, wipeD_length]
theorem wipeD_at {i : Nat} : ∀ {vs : List Nat}, (wipeD env vs)[i]? = if i ∈ vs then (env[i]?).map (fun _ => Sl.no) else env[i]?
  | [] => by simp [wipeD]
  | v :: vs => by
    unfold wipeD
    by_cases e : v = i
    · subst e
      rw [if_pos List.mem_cons_self]
      have hl : (wipeD env vs).length = env.length := wipeD_length
      by_cases hv : v < env.length
      · rw [List.getElem?_set_self (by omega), List.getElem?_eq_getElem hv]
        rfl
      · rw [List.getElem?_eq_none (by rw [List.length_set]; omega), List.getElem?_eq_none (by omega)]
        rfl
    · rw [List.getElem?_set_ne e, wipeD_at]
      by_cases h : i ∈ vs
      · rw [if_pos h, if_pos (List.mem_cons_of_mem _ h)]
      · rw [if_neg h, if_neg (by simp [h]; exact fun z => e z.symm)]
theorem set_len {α : Type} {l : List α} {x y : α} : (l ++ [x]).set l.length y = l ++ [y] := by
  induction l with
  | nil => rfl
  | cons a l ih => simpa using ih
theorem set_in {α : Type} {l : List α} {x y : α} {j : Nat} (h : j < l.length) : (l ++ [x]).set j y = l.set j y ++ [x] := by
  rw [List.set_append, if_pos h]
theorem shuf_read {n i j k : Nat} {own : List (Str × Nat)} {e c : E} {D : Ends} (me : e.monos) (mc : c.monos) (hk : k ∈ own.map (·.2)) (hj : j ∉ own.map (·.2)) (hi : i < n) (hjn : j < n) (h : liftS K n (shuf i j own k e c) D σ H) :
    tAsg (tLc (liftI K (.r1 c)) (liftG K n (.var k)) (liftC K .nil) (tBM K "list" rPopAt (tVar j) (tCons (liftE K e) tNil)) (own.map (·.2))) (gName i) D σ H := by
  obtain ⟨T, O, W, env, r, l, h⟩ := h
  obtain ⟨ds0, he0, h⟩ := own_get h
  have hle : env.length = n := r.len.trans l
  obtain ⟨k0, rp0⟩ := r.rp c.vars
  refine ⟨T, env, _, k0, rp0, (sem_mono c mc).1 _ _ _ h fun x hx => ?_⟩
  cases x with
  | int mm =>
    obtain ⟨b1, b2, hx⟩ := hx
    refine ⟨⟨by omega, by omega⟩, fun J H1 ex t _ wk ad hD => ?_⟩
    have keepsR : keeps (.r1 c) (.lst (rangeD 0 mm)) = true := keeps_fresh rfl noMuts_rangeD
    have r1 := r.ext ex t
    have wk := wk keepsR (W ++ O) (r.wider _) r.okW.sub
    generalize hcnt : mm.toNat = cnt at hx
    have hlen : (rangeD 0 mm).length = cnt := by rw [← hcnt]; simp [rangeD]
    obtain ⟨_, wk⟩ := wk
    rw [hlen] at wk
    have hc4 : cnt ≤ 4000 := by omega
    have nW : ad ∉ W ++ O := r1.okW.new hD
    have nT : ad ∉ T.own := fun z => nW (r1.okW.sub _ z)
    -- what holds at each turn
    refine ⟨fun q m H2 => ∃ ds ys, q + m = cnt ∧ ys.length = q ∧ RepS K T O (ad :: W) (σ ++ [some (.ref ad)]) (env.set j (.ow (.lst ds)) ++ [.ow (.lst ys)]) H2 ∧ Frm T H1 W H2 (ad :: W) ∧
      shufD env (own.map (·.2)) j e m ds (fun rest zs => (endsOf K T O W n H D).nx ((env.set j (.ow (.lst rest))).set i (.ow (.lst (ys ++ zs))))), ⟨cnt, ds0, [], by omega, rfl, ?_, ?_, hx⟩, ?_⟩
    · have hjl : env.set j (.ow (.lst ds0)) = env := by
        apply List.ext_getElem?
        intro b
        by_cases hb : j = b
        · subst hb; rw [List.getElem?_set_self (by omega), he0]
        · rw [List.getElem?_set_ne hb]
      rw [hjl]
      have r2 : RepS K T O (ad :: W) σ env (upd H1 ad (.lst [])) := r1.new (Ext.upd hD) (tapeLe (le_upd hD) t) hD upd_same
      have r3 : RepS K T O (ad :: W) (σ ++ [none]) (env ++ [.no]) (upd H1 ad (.lst [])) := r2.see (by simp [r.len]) (fun b d hb => ?_) (fun b d hb => ?_) fun b rows as hb => ?_
      · have := r3.setOw (i := n) (ds := []) (p := ad) (xs := []) List.mem_cons_self (fun b d hb hs => ?_) (fun b rows as hb ha => ?_) upd_same (Nat.zero_le _) rfl (by simp [l])
        · rw [← l, set_len, l, ← hle, set_len] at this
          exact this
        · have hb2 : env[b]? = some (Sl.ow d) := by
            by_cases hb' : b < env.length
            · rwa [List.getElem?_append_left hb'] at hb
            · rw [List.getElem?_append_right (by omega)] at hb
              have : b - env.length = 0 := by
                by_cases z : b - env.length = 0
                · exact z
                · rw [List.getElem?_eq_none (by simp; omega)] at hb
                  cases hb
              rw [this] at hb
              cases hb
          obtain ⟨ds', p', xs', _, q2, q3, q4, _⟩ := r1.ow b d hb2
          have hbl : b < env.length := (List.getElem?_eq_some_iff.mp hb2).1
          rw [List.getElem?_append_left (by omega), q2] at hs
          cases hs
          rw [hD] at q4
          cases q4
        · have hb2 : env[b]? = some (Sl.nw rows as) := by
            by_cases hb' : b < env.length
            · rwa [List.getElem?_append_left hb'] at hb
            · rw [List.getElem?_append_right (by omega)] at hb
              have : b - env.length = 0 := by
                by_cases z : b - env.length = 0
                · exact z
                · rw [List.getElem?_eq_none (by simp; omega)] at hb
                  cases hb
              rw [this] at hb
              cases hb
          obtain ⟨p', ps, m⟩ := r1.nw b rows as hb2
          obtain ⟨xs', g'⟩ := m.has ha
          rw [hD] at g'
          cases g'
      all_goals
        by_cases hb' : b < env.length
        · rw [List.getElem?_append_left hb'] at hb
          exact ⟨hb, by rw [List.getElem?_append_left (by omega)]⟩
        · rw [List.getElem?_append_right (by omega)] at hb
          by_cases z : b - env.length = 0
          · rw [z] at hb
            cases hb
          · rw [List.getElem?_eq_none (by simp; omega)] at hb
            cases hb
    · exact ⟨fun b o hb _ _ => by
        rw [upd_ne fun z => by rw [z, hD] at hb; cases hb]
        exact hb, fun b hb nb z => by
        rcases List.mem_cons.mp z with rfl | z
        · exact hb hD
        · exact nb z, fun b hb => by
        by_cases z : b = ad
        · rw [z, upd_same]; exact fun z => nomatch z
        · rw [upd_ne z]; exact hb⟩
    rintro q m H2 ⟨ds, ys, hqm, hyl, R, F, hS⟩
    have lw : Le (res H1 (W ++ O)) (res H2 (W ++ O)) := fun b o g => by
      obtain ⟨nb, g⟩ := res_some g
      exact res_of nb (F.keep b o g (fun z => nb (List.mem_append_left _ z)) fun z => nb (r.okW.sub _ z))
    cases m with
    | zero =>
      have eq : q = cnt := by omega
      subst eq
      refine .inl ⟨(wk H2 lw).2, ?_⟩
      have hS : (endsOf K T O W n H D).nx ((env.set j (.ow (.lst ds))).set i (.ow (.lst (ys ++ [])))) := hS
      rw [List.append_nil] at hS
      have r3 : RepS K T O (ad :: W) σ (env.set j (.ow (.lst ds))) H2 := R.see (by rw [List.length_set]; exact r.len) (fun b d hb => ?_) (fun b d hb => ?_) fun b rows as hb => ?_
      · have hlast : (env.set j (.ow (.lst ds)) ++ [Sl.ow (.lst ys)])[n]? = some (Sl.ow (.lst ys)) := by
          rw [List.getElem?_append_right (by rw [List.length_set]; omega), List.length_set, hle, Nat.sub_self]
          rfl
        have slast : (σ ++ [some (V.ref ad)])[n]? = some (some (V.ref ad)) := by
          rw [List.getElem?_append_right (by omega), l, Nat.sub_self]
          rfl
        obtain ⟨ys', p', acc, e1, g2, g3, g4, g5, g6⟩ := R.ow n _ hlast
        cases e1
        rw [slast] at g2
        cases g2
        have r4 := r3.setOw (i := i) (ds := ys) (p := ad) (xs := acc) List.mem_cons_self (fun b d hb hs => ?_) (fun b rows as hb ha => ?_) g4 g5 g6 (by omega)
        · exact hS _ _ _ r4 (by rw [List.length_set]; exact l) ((Frm.ext ex t).trans F)
        · have hbl : b < env.length := by
            have := (List.getElem?_eq_some_iff.mp hb).1
            rwa [List.length_set] at this
          have := R.inj b n d _ ad (by rw [List.getElem?_append_left (by rw [List.length_set]; exact hbl)]; exact hb) hlast (by rw [List.getElem?_append_left (by omega)]; exact hs) slast
          omega
        · have hbl : b < env.length := by
            have := (List.getElem?_eq_some_iff.mp hb).1
            rwa [List.length_set] at this
          exact R.nx b n rows as _ ad (by rw [List.getElem?_append_left (by rw [List.length_set]; exact hbl)]; exact hb) hlast slast ha
      all_goals
        have hbl : b < env.length := by
          have := (List.getElem?_eq_some_iff.mp hb).1
          rwa [List.length_set] at this
        exact ⟨by rw [List.getElem?_append_left (by rw [List.length_set]; exact hbl)]; exact hb, by rw [List.getElem?_append_left (by omega)]⟩
    | succ m =>
      obtain ⟨g, y⟩ := (wk H2 lw).1 q (by omega)
      refine .inr ⟨g, fun H3 => ∃ ds ys, q + 1 + m = cnt ∧ ys.length = q + 1 ∧ RepS K T O (ad :: W) (σ ++ [some (.ref ad)]) (env.set j (.ow (.lst ds)) ++ [.ow (.lst ys)]) H3 ∧ Frm T H1 W H3 (ad :: W) ∧
        shufD env (own.map (·.2)) j e m ds (fun rest zs => (endsOf K T O W n H D).nx ((env.set j (.ow (.lst rest))).set i (.ow (.lst (ys ++ zs))))), fun H3 h => ⟨m, by omega, h⟩, fun x H3 hy => ?_⟩
      obtain ⟨rfl, d0, _, hd0⟩ := y x H3 hy
      refine ⟨T, W ++ O, wipeD env (own.map (·.2)), fun _ _ => True, d0, fun _ _ _ _ _ _ _ _ => trivial, trivial, hd0.le lw, by rw [wipe_length]; exact l, ?_⟩
      show ∀ σ' : L2.St, True → σ'.length = n → (∀ b : Nat, b ∉ slotsOf (.var k) → σ'[b]? = (wipe σ (own.map (·.2)))[b]?) → _
      intro σ2 _ l2 f2
      have f3 : ∀ b : Nat, b ∉ own.map (·.2) → σ2[b]? = σ[b]? := fun b hb => by
        rw [f2 b (by simp [slotsOf]; exact fun z => hb (by rw [z]; exact hk)), wipe_get, if_neg hb]
      refine ⟨wipe_same (by rw [l2, l]) fun b hb => f2 b (by simp [slotsOf]; exact fun z => hb (by rw [z]; exact hk)), ?_⟩
      change tBM K "list" rPopAt (tVar j) (tCons (liftE K e) tNil) σ2 H3 _
      have r3 : RepS K T O (ad :: W) σ2 (wenv env (own.map (·.2)) j ds) H3 := R.see (by rw [wenv, List.length_set, wipeD_length, l2, hle]) (fun b d hb => ?_) (fun b d hb => ?_) fun b rows as hb => ?_
      · obtain ⟨ds', p, xs, e1, hs, hp, hx', hz, hd1⟩ := r3.ow j (.lst ds) (by rw [wenv, List.getElem?_set_self (by rw [wipeD_length]; omega)])
        cases e1
        refine ⟨.ref p, hs, .inl ⟨rfl, xs, SqL.of hx'⟩, ?_⟩
        refine r3.eval me hS fun d v H4 ex4 t4 hd4 _ hq => ?_
        cases d with
        | int kk =>
          obtain ⟨rr, dd, hj2, hdd, hq⟩ := hq
          have hx4 := ex4 _ _ hx' (r3.ntT p hp)
          have hl := hd1.length
          rw [← hl] at hj2
          obtain ⟨q1, q2, q3, q4⟩ := ixN_seq hj2
          have R4 := R.ext ex4 t4
          have hjs : (env.set j (Sl.ow (.lst ds)) ++ [Sl.ow (.lst ys)])[j]? = some (Sl.ow (.lst ds)) := by
            rw [List.getElem?_append_left (by rw [List.length_set]; omega), List.getElem?_set_self (by omega)]
          have hjv : (σ ++ [some (V.ref ad)])[j]? = some (some (V.ref p)) := by
            rw [List.getElem?_append_left (by omega), ← f3 j hj]
            exact hs
          obtain ⟨ds5, p5, xs5, e5, hs5, hp5, hx5, hz5, hd5⟩ := R4.ow j _ hjs
          cases e5
          rw [hjv] at hs5
          cases hs5
          rw [hx4] at hx5
          cases hx5
          refine ⟨p, xs, kk, rr, xs[rr], rfl, by rw [show v = V.int kk from hd4], hx4, by omega, by omega, q1, List.getElem?_eq_getElem q2, ?_⟩
          obtain ⟨R5, F5⟩ := R4.write (ds := ds.eraseIdx rr) (xs := xs.eraseIdx rr) hjs hjv hp (Nat.le_trans (len_erase _ _) hz) (hd5.erase rr)
          have hlast : ((env.set j (.ow (.lst ds)) ++ [Sl.ow (.lst ys)]).set j (.ow (.lst (ds.eraseIdx rr))))[n]? = some (Sl.ow (.lst ys)) := by
            rw [List.getElem?_set_ne (by omega), List.getElem?_append_right (by rw [List.length_set]; omega), List.length_set, hle, Nat.sub_self]
            rfl
          have slast : (σ ++ [some (V.ref ad)])[n]? = some (some (V.ref ad)) := by
            rw [List.getElem?_append_right (by omega), l, Nat.sub_self]
            rfl
          obtain ⟨ys', p', acc, e1, g2, g3, g4, g5, g6⟩ := R5.ow n _ hlast
          cases e1
          rw [slast] at g2
          cases g2
          have gl := g6.length
          obtain ⟨y0, hy0, hdy⟩ := hd5.get hdd
          rw [List.getElem?_eq_getElem q2] at hy0
          cases hy0
          have hdy2 : Dat K T (res (upd H4 p (.lst (xs.eraseIdx rr))) (ad :: W ++ O)) dd xs[rr] := hdy.le fun b o g => by
            obtain ⟨nb, g⟩ := res_some g
            exact res_of nb (by rw [upd_ne fun z => nb (by rw [z]; exact List.mem_append_left _ hp)]; exact g)
          obtain ⟨R6, F6⟩ := R5.write (i := n) (ds := ys ++ [dd]) (xs := acc ++ [xs[rr]]) hlast slast List.mem_cons_self (by rw [List.length_append]; show acc.length + 1 ≤ 16777216; omega) (g6.append (Dats.one hdy2))
          refine ⟨acc, g4, by rw [sizeLine_eq]; omega, ds.eraseIdx rr, ys ++ [dd], by omega, by rw [List.length_append, hyl]; rfl, ?_, ((F.trans (Frm.ext ex4 t4)).trans F5).trans F6, shufD_mono me hq fun a b h => ?_⟩
          · have e1 : ((env.set j (Sl.ow (.lst ds)) ++ [Sl.ow (.lst ys)]).set j (.ow (.lst (ds.eraseIdx rr)))).set n (.ow (.lst (ys ++ [dd]))) = env.set j (Sl.ow (.lst (ds.eraseIdx rr))) ++ [.ow (.lst (ys ++ [dd]))] := by
              rw [set_in (by rw [List.length_set]; omega), List.set_set]
              have : n = (env.set j (Sl.ow (.lst (ds.eraseIdx rr)))).length := by rw [List.length_set]; exact hle.symm
              rw [this, set_len]
            rw [e1] at R6
            exact R6
          · rw [List.append_assoc]
            exact h
        | _ => exact hq.elim
      all_goals
        by_cases hb' : b = j
        · subst hb'
          rw [wenv, List.getElem?_set_self (by rw [wipeD_length]; omega)] at hb
          first
          | cases hb; done
          | exact ⟨by rw [List.getElem?_append_left (by rw [List.length_set]; omega), List.getElem?_set_self (by omega)]; exact hb, by rw [f3 b hj, List.getElem?_append_left (by omega)]⟩
        · rw [wenv, List.getElem?_set_ne (Ne.symm hb'), wipeD_at] at hb
          by_cases ho : b ∈ own.map (·.2)
          · rw [if_pos ho] at hb
            cases hq : env[b]? with
            | none => rw [hq] at hb; cases hb
            | some z => rw [hq] at hb; cases hb
          · rw [if_neg ho] at hb
            have hbl : b < env.length := (List.getElem?_eq_some_iff.mp hb).1
            exact ⟨by rw [List.getElem?_append_left (by rw [List.length_set]; omega), List.getElem?_set_ne (Ne.symm hb')]; exact hb, by rw [f3 b ho, List.getElem?_append_left (by omega)]⟩
  | _ => exact hx.elim
end
theorem hole_mono {j : Nat} {e : E} : (hole j e).monos := fun _ _ _ h _ => h.elim
theorem hole_need {g : Gx} {j : Nat} {e : E} : Need g (hole j e) := by
  intro X c x hg ok m
  replace m : lookEl c j e x = true := m
  subst hg
  unfold lookEl at m
  split at m
  · rename_i h
    cases vM1_eq h
    refine rawNeed hole_mono ⟨fun pins s σ H Q I q => ?_⟩ (fun _ => rfl) fun _ _ _ z => nomatch z
    obtain ⟨T, env, O, k, r, q⟩ := q
    exact q.elim
  · cases m
@[simp] theorem shuf_need {g : Gx} {i j k : Nat} {own : List (Str × Nat)} {e n : E} (me : e.monos) (mn : n.monos) (ne : Need g e) (nn : Need g (.r1 n)) : NeedS g (shuf i j own k e n) := by
  intro X c st hg ok hp hkf m
  replace m : lookShuf c i j own k e n st = true := m
  subst hg
  unfold lookShuf at m
  cases h : vAsg st with
  | none => rw [h] at m; cases m
  | some z =>
    obtain ⟨x, py, v, pos⟩ := z
    rw [h] at m
    cases vAsg_eq h
    simp only [Bool.and_eq_true, Bool.not_eq_true', decide_eq_true_eq] at m
    obtain ⟨⟨⟨m1, m2⟩, m3⟩, m4⟩ := m
    unfold storeB at m1
    simp only [Bool.and_eq_true, decide_eq_true_eq] at m1
    obtain ⟨⟨h1, h2⟩, h3⟩ := m1
    have hN : X.N[i]? = some x := by rw [ok.N]; exact h1
    have hnd : X.N.Nodup := by rw [ok.N]; exact ok.nd
    have hi : i < c.N.length := (List.getElem?_eq_some_iff.mp h1).1
    have hj : j ∉ own.map (·.2) := fun z => by
      rw [List.contains_iff_mem.mpr z] at m3
      cases m3
    have m0 := m2
    rw [mE_lc] at m2
    split at m2
    · rename_i elt tg' it' ifs ia scope pos2
      simp only [Bool.and_eq_true, decide_eq_true_eq] at m2
      have e0 := m2.1.1.1.1.1.1.1
      subst e0
      have hmm : (E.lc own (hole j e) (.var k) (.r1 n) .nil).monos := ⟨mn, trivial, hole_mono⟩
      obtain ⟨p1, p2, p3, p4, p5, p6, p7⟩ := lc_parts ok hmm (sound _ hole_mono) (sound _ mn) (sound .nil trivial) ⟨nn, trivial, hole_need⟩ m0
      have hko : k ∈ own.map (·.2) := p7 k (by simp [slotsOf])
      have q5 : ∀ (s : Shared) (H : Hp) (C : Addr) (cl : List (Str × Addr)) (fp : List Addr), PE (X.blk s H scope (compEnvC scope cl C X.env) fp) elt (tBM X.K "list" rPopAt (tVar j) (tCons (liftE X.K e) tNil)) := fun s H C cl fp => by
        have okb := xok_blk ok s H scope C cl fp
        have mm := m2.2
        rw [show matchE (c.blk scope) false (hole j e) elt = (notComp elt && lookEl (c.blk scope) j e elt) from rfl, Bool.and_eq_true] at mm
        replace mm := mm.2
        unfold lookEl at mm
        split at mm
        · rename_i h2
          cases vM1_eq h2
          rw [Bool.and_eq_true] at mm
          obtain ⟨rfl, m2, m3, m4⟩ := m1_parts mm.1
          have A := (sound e me).get okb ne mm.2
          exact pe_bm PySem.F.plainAttrs_list PySem.F.slot_list_pop PySem.F.type_list_pop mt_popAt (var_pe okb m2) (pa_cons A.pe pa_nil (star_of m3)) rfl (few_of m3) m4 (star_of m3) rfl
        · cases mm
      have rd : ∀ D σ H, liftS X.K c.N.length (shuf i j own k e n) D σ H → tAsg (tLc (liftI X.K (.r1 n)) (liftG X.K c.N.length (.var k)) (liftC X.K .nil) (tBM X.K "list" rPopAt (tVar j) (tCons (liftE X.K e) tNil)) (own.map (·.2))) (gName i) D σ H :=
        fun D σ H q => shuf_read me mn hko hj hi m4 q
      cases hsw : swB X.env x py scope pos2 with
      | true =>
        have hl : X.env.scope.names.lookup x = some .local := by
          unfold swB at hsw
          simp only [Bool.and_eq_true, beq_iff_eq] at hsw
          exact hsw.1.1.2
        exact PS.imp (ps_setLc (i := i) ok.calm hnd hN hl (by rw [swaps_lc, hsw]) p1 p2 p3 p4 q5 p6) rd
      | false => exact PS.imp (ps_set (i := i) hnd hN (loc_of ok h2) (pe_lc ok.calm hnd p1 p2 p3 p4 q5 p6) (by rw [swaps_lc, hsw]) (fn_of_match ok h3)) rd
    · cases m2
@[simp] theorem semS_shuf {i j k : Nat} {own : List (Str × Nat)} {e n : E} {en : DEnds} {env : DEnv} : semS (shuf i j own k e n) en env = ownL env j fun ds => semE n env fun x => int1 x fun m => m ≤ 4000 ∧ -4000 ≤ m ∧ shufD env (own.map (·.2)) j e m.toNat ds fun rest ys => en.nx ((env.set j (.ow (.lst rest))).set i (.ow (.lst ys))) := rfl
/-- drawn out whole: any order of what was there -/
theorem shufD_perm {env : DEnv} {own : List Nat} {j : Nat} {e : E} (me : e.monos) (hj : j < env.length) (he : ∀ ds : List D, ds ≠ [] → semE e (wenv env own j ds) fun x => ∃ r : Nat, r < ds.length ∧ x = .int r) : ∀ (m : Nat) {ds : List D} {R : List D → List D → Prop}, ds.length = m → (∀ ys : List D, ys.Perm ds → R [] ys) → shufD env own j e m ds R
  | 0, ds, R, hl, h => by
    have : ds = [] := List.eq_nil_of_length_eq_zero hl
    subst this
    exact h [] .nil
  | m + 1, ds, R, hl, h => (sem_mono e me).1 _ _ _ (he ds fun z => by rw [z] at hl; cases hl) fun x ⟨r, hr, hx⟩ => by
    subst hx
    refine ⟨r, ds[r], ?_, List.getElem?_eq_getElem hr, shufD_perm me hj he m (by rw [List.length_eraseIdx, if_pos hr]; omega) fun ys hp => h _ ?_⟩
    · rw [ixN_lt hr]
    · refine (hp.cons _).trans ?_
      rw [List.eraseIdx_eq_take_drop_succ]
      conv => rhs; rw [← List.take_append_drop r ds, List.drop_eq_getElem_cons hr]
      exact List.perm_middle.symm
end DL

set_option Elab.async false
set_option linter.all false
set_option maxRecDepth 100000
set_option maxHeartbeats 4000000
/-! DL29: L[a], L[b] = (L[b], L[a]) with names a, b; a dict display of one pair. -/
namespace DL
open PySem PySem.Spec PyProof.Rows L2

def lookSwp (c : Ctx) (i ia ib : Nat) : Stmt → Bool
  | .Assign [.Tuple [.Subscript (.Name x1 _) (.Name a1 _) _, .Subscript (.Name x2 _) (.Name b1 _) _] _ _] (.Tuple [.Subscript (.Name x3 _) (.Name b2 _) _, .Subscript (.Name x4 _) (.Name a2 _) _] _ _) _ =>
    varB c i x1 && varB c i x2 && varB c i x3 && varB c i x4 && varB c ia a1 && varB c ia a2 && varB c ib b1 && varB c ib b2
  | _ => false
def swp (i ia ib : Nat) : S := .raw (fun c st => lookSwp c i ia ib st) (fun en env => ownL env i fun ds => ∃ m n p q d e, rdv env ia = some (.int m) ∧ rdv env ib = some (.int n) ∧ ixN ds.length m = some p ∧ ixN ds.length n = some q ∧ ds[p]? = some d ∧ ds[q]? = some e ∧
  en.nx (env.set i (.ow (.lst ((ds.set p e).set q d)))))
@[simp] theorem swp_mono {i ia ib : Nat} : (swp i ia ib).monos := fun a b l env h => ownL_mono h fun ds ⟨m, n, p, q, d, e, h1, h2, h3, h4, h5, h6, h7⟩ => ⟨m, n, p, q, d, e, h1, h2, h3, h4, h5, h6, l.1 _ h7⟩
section
variable {K : PySem.W.Frag} {T : Tape} {O W : List Addr} {σ : L2.St} {env : DEnv} {H : Hp}
theorem RepS.int (r : RepS K T O W σ env H) {i : Nat} {m : Int} (h : rdv env i = some (.int m)) : σ[i]? = some (some (V.int m)) := by
  unfold rdv at h
  cases q : env[i]? with
  | none => rw [q] at h; cases h
  | some s =>
    rw [q] at h
    cases s with
    | no => cases h
    | sh d =>
      cases h
      obtain ⟨v, h1, h2⟩ := r.sh i _ q
      rw [h1, dat_int h2]
    | ow d =>
      cases h
      obtain ⟨ds, _, _, e, _⟩ := r.ow i _ q
      cases e
    | nw rows as => cases h
theorem atI_ix {xs : List V} {m : Int} {p : Nat} {v : V} (h : ixN xs.length m = some p) (hv : xs[p]? = some v) : atI xs m = some v := by
  obtain ⟨q1, q2, q3, q4⟩ := ixN_seq h
  unfold atI
  rw [h]
  exact hv
theorem swp_read {n i ia ib : Nat} {D : Ends} (h : liftS K n (swp i ia ib) D σ H) : tAsg (tTup (tCons (tOp (rIxL K) (tVar i) (tVar ib)) (tCons (tOp (rIxL K) (tVar i) (tVar ia)) tNil))) (gTup K 2 (gCons (gSub (tVar i) (tVar ia) rSetL) (gCons (gSub (tVar i) (tVar ib) rSetL) gNil))) D σ H := by
  obtain ⟨T, O, W, env, r, l, h⟩ := h
  obtain ⟨ds, he0, h⟩ := own_get h
  obtain ⟨m, nn, p, q, d, e, h1, h2, h3, h4, h5, h6, h⟩ := h
  obtain ⟨ds1, a, xs, e1, hs, hp, hx, hz, hd0⟩ := r.ow i _ he0
  cases e1
  have hl := hd0.length
  have s1 := r.int h1
  have s2 := r.int h2
  obtain ⟨vd, q5, d5⟩ := hd0.get h5
  obtain ⟨ve, q6, d6⟩ := hd0.get h6
  rw [← hl] at h3 h4
  refine ⟨.ref a, hs, .int nn, s2, ⟨a, xs, nn, ve, rfl, rfl, SqL.of hx, atI_ix h4 q6, .ref a, hs, .int m, s1, ⟨a, xs, m, vd, rfl, rfl, SqL.of hx, atI_ix h3 q5, by show 2 ≤ sizeLine; rw [sizeLine_eq]; omega, fun b hb => ?_⟩⟩⟩
  have ne : a ≠ b := fun z => by rw [z, hb] at hx; cases hx
  have hx1 : upd H b (.tup [ve, vd]) a = some (.lst xs) := by rw [upd_ne ne]; exact hx
  refine ⟨b, [ve, vd], rfl, .inl (.inl upd_same), rfl, ve, [vd], rfl, ⟨.ref a, hs, .int m, s1, ⟨a, xs, m, p, rfl, rfl, hx1, h3, vd, [], rfl, ⟨.ref a, hs, .int nn, s2, ⟨a, xs.set p ve, nn, q, rfl, rfl, upd_same, by rw [List.length_set]; exact h4, rfl, ?_⟩⟩⟩⟩⟩
  have ex : Ext T H (upd H b (.tup [ve, vd])) := Ext.upd hb
  have t : T.ok (upd H b (.tup [ve, vd])) := tapeLe (le_upd hb) r.ok.tape
  have r1 := r.ext ex t
  have le := r.okW.res ex
  obtain ⟨r2, f2⟩ := r1.write (ds := ds.set p e) (xs := xs.set p ve) he0 hs hp (by rw [List.length_set]; exact hz) (Dats.set (d6.le le) p (hd0.le le))
  have le2 : Le (res (upd H b (.tup [ve, vd])) (W ++ O)) (res (upd (upd H b (.tup [ve, vd])) a (.lst (xs.set p ve))) (W ++ O)) := fun c o g => by
    obtain ⟨nb, g⟩ := res_some g
    exact res_of nb (by rw [upd_ne fun z => nb (by rw [z]; exact List.mem_append_left _ hp)]; exact g)
  have hi : i < env.length := (List.getElem?_eq_some_iff.mp he0).1
  obtain ⟨r3, f3⟩ := r2.write (i := i) (ds := (ds.set p e).set q d) (xs := (xs.set p ve).set q vd) (List.getElem?_set_self hi) hs hp (by rw [List.length_set, List.length_set]; exact hz)
    (Dats.set ((d5.le le).le le2) q ((Dats.set (d6.le le) p (hd0.le le)).le le2))
  rw [List.set_set] at r3
  exact h _ _ _ r3 l (((Frm.ext ex t).trans f2).trans f3)
end
theorem sw_none {a b c d e f : Expr} {e1 e2 : Expr} {k k2 : Nat} {p1 p2 p3 p4 p5 p6 : Pos} {env : Env} : swappedStores [.Tuple [.Subscript a b p1, .Subscript c d p2] k p3] (.Tuple [.Subscript e1 e2 p4, .Subscript e f p5] k2 p6) env = pure none := by
  unfold swappedStores
  cases h : (env.blockKind != .function) <;> simp [h]
@[simp] theorem swp_need {g : Gx} {i ia ib : Nat} : NeedS g (swp i ia ib) := by
  intro X c st hg ok hp hk m
  replace m : lookSwp c i ia ib st = true := m
  subst hg
  unfold lookSwp at m
  split at m
  · simp only [Bool.and_eq_true] at m
    obtain ⟨⟨⟨⟨⟨⟨⟨m1, m2⟩, m3⟩, m4⟩, m5⟩, m6⟩, m7⟩, m8⟩ := m
    refine PS.imp (ps_asg (pe_tup (pa_cons (pe_ix ix_list (var_pe ok m3) (var_pe ok m8) (fun _ _ => rfl)) (pa_cons (pe_ix ix_list (var_pe ok m4) (var_pe ok m6) (fun _ _ => rfl)) pa_nil)))
      (pg_tup ok.calm (pgs_cons (pg_sub (var_pe ok m1) (var_pe ok m5) set_list) (pgs_cons (pg_sub (var_pe ok m2) (var_pe ok m7) set_list) pgs_nil))) rfl sw_none) fun D σ H q => swp_read q
  · cases m
@[simp] theorem semS_swp {i ia ib : Nat} {en : DEnds} {env : DEnv} : semS (swp i ia ib) en env = ownL env i fun ds => ∃ m n p q d e, rdv env ia = some (.int m) ∧ rdv env ib = some (.int n) ∧ ixN ds.length m = some p ∧ ixN ds.length n = some q ∧ ds[p]? = some d ∧ ds[q]? = some e ∧
  en.nx (env.set i (.ow (.lst ((ds.set p e).set q d)))) := rfl
theorem tape_keep {T : Tape} {H H' : Hp} (ok : T.ok H) (hk : ∀ b ∈ T.own, H' b = H b) : T.ok H' := by
  cases T with
  | no => trivial
  | st a c =>
    obtain ⟨e, m, ns, g, h1, h2⟩ := ok
    exact ⟨e, m, ns, g, by rw [hk a (by simp [Tape.own])]; exact h1, by rw [hk c (by simp [Tape.own])]; exact h2⟩
  | tp a c =>
    obtain ⟨e, m, m2, m3, ns, g, g2, h1, h2⟩ := ok
    exact ⟨e, m, m2, m3, ns, g, g2, by rw [hk a (by simp [Tape.own])]; exact h1, by rw [hk c (by simp [Tape.own])]; exact h2⟩
/-- {k: v} -/
def lookDic1 (c : Ctx) (k v : E) : Expr → Bool
  | .Dict [some x] [y] _ => matchE c false k x && matchE c false v y
  | _ => false
def key1 (x : D) (Q : D → Prop) : Prop := match x with
  | .int _ => Q x
  | .str _ => Q x
  | _ => False
theorem key1_mono {x : D} {Q Q' : D → Prop} (h : key1 x Q) (m : ∀ d, Q d → Q' d) : key1 x Q' := by
  cases x with
  | int i => exact m _ h
  | str s => exact m _ h
  | _ => exact h.elim
def dic1 (k v : E) : E := .raw (fun c x => lookDic1 c k v x) (fun env Q => semE k env fun x => semE v env fun y => key1 x fun x => Q (.dic [x] [y])) (k.vars ++ v.vars) false
@[simp] theorem dic1_mono {k v : E} (mk : k.monos) (mv : v.monos) : (dic1 k v).monos := fun env Q Q' h m => (sem_mono k mk).1 _ _ _ h fun x h => (sem_mono v mv).1 _ _ _ h fun y h => key1_mono h fun x h => m _ h
@[simp] theorem sem_dic1 {k v : E} {env : DEnv} {Q : D → Prop} : semE (dic1 k v) env Q = semE k env fun x => semE v env fun y => key1 x fun x => Q (.dic [x] [y]) := rfl
@[simp] theorem key1_i {i : Int} {Q : D → Prop} : key1 (.int i) Q = Q (.int i) := rfl
@[simp] theorem key1_s {i : Str} {Q : D → Prop} : key1 (.str i) Q = Q (.str i) := rfl
@[simp] theorem dic1_isNil {k v : E} : (dic1 k v).isNil = false := rfl
theorem key_of {K : PySem.W.Frag} {T : Tape} {H : Hp} {x : D} {v : V} {Q : D → Prop} (h : Dat K T H x v) (q : key1 x Q) : ∃ k : Key, v = kV k ∧ Q x := by
  cases x with
  | int i => exact ⟨.inl i, dat_int h, q⟩
  | str s => exact ⟨.inr s, (dat_str h).1, q⟩
  | _ => exact q.elim
@[simp] theorem dic1_need {g : Gx} {k v : E} (mk : k.monos) (mv : v.monos) (nk : Need g k) (nv : Need g v) : Need g (dic1 k v) := by
  intro X c x hg ok m
  replace m : lookDic1 c k v x = true := m
  subst hg
  unfold lookDic1 at m
  split at m
  · rename_i x y pos
    simp only [Bool.and_eq_true] at m
    have A := (sound k mk).get ok nk m.1
    have B := (sound v mv).get ok nv m.2
    refine rawNeed (dic1_mono mk mv) (PE.imp (pe_disp (pps_cons A.pe B.pe pps_nil) rfl rfl (by simp) (by simp)) fun σ H Q q p hp => ?_) (fun _ => rfl) fun _ _ _ z => nomatch z
    obtain ⟨T, env, O, k0, r, q⟩ := q
    have e0 : Ext T H (upd H p (.dK [])) := Ext.upd hp
    have t0 : T.ok (upd H p (.dK [])) := tapeLe (le_upd hp) k0.tape
    have hO : p ∉ O := fun z => k0.live p z hp
    have k1 : Ok T (p :: O) (upd H p (.dK [])) := ⟨t0, fun a ha => List.mem_cons_of_mem _ (k0.sub a ha), fun a ha => by
      rcases List.mem_cons.mp ha with rfl | ha
      · rw [upd_same]; exact fun z => nomatch z
      · exact e0.live t0 (k0.live a ha)⟩
    have l0 : Le (res H O) (res (upd H p (.dK [])) (p :: O)) := fun b o g => by
      obtain ⟨nb, g⟩ := res_some g
      have ne : b ≠ p := fun z => by rw [z, hp] at g; cases g
      exact res_of (fun z => (List.mem_cons.mp z).elim ne nb) (by rw [upd_ne ne]; exact g)
    have r1 : Rp X.K T (p :: O) σ env (upd H p (.dK [])) (k.vars ++ v.vars) := ⟨fun j hj d e => by
      obtain ⟨u, g1, g2⟩ := r.at_ j hj d e
      exact ⟨u, g1, g2.le l0⟩⟩
    refine lift1 mk k1 r1.l q fun x v2 H2 e2 k2 d2 q => ?_
    refine lift1 mv k2 (r1.r.ext k1 e2) q fun y w H3 e3 k3 d3 q => ?_
    have hpT : p ∉ T.own := fun z => hO (k0.sub p z)
    have hp3 : H3 p = some (.dK []) := e3 _ _ (e2 _ _ upd_same hpT) hpT
    obtain ⟨kk, rfl, q⟩ := key_of d2 q
    refine ⟨hp3, [(kk, w)], rfl, by simp, ?_⟩
    have e4 : Ext T H (upd H3 p (.dK (mergeK [] [(kk, w)]))) := fun b o h nt => by
      rw [upd_ne (fun z => by rw [z, hp] at h; cases h)]
      exact ((e0.trans e2).trans e3) b o h nt
    have lp : Le (res H3 (p :: O)) (res (upd H3 p (.dK (mergeK [] [(kk, w)]))) O) := fun b o g => by
      obtain ⟨nb, g⟩ := res_some g
      exact res_of (fun z => nb (List.mem_cons_of_mem _ z)) (by rw [upd_ne fun z => nb (by rw [z]; exact List.mem_cons_self)]; exact g)
    have t4 : T.ok (upd H3 p (.dK (mergeK [] [(kk, w)]))) := tape_keep k3.tape fun b hb => upd_ne fun z => hpT (by rw [← z]; exact hb)
    have q : post X.K T O false H Q (.dic [_] [_]) := q
    exact q _ _ e4 t4 ⟨p, [(kk, w)], rfl, res_of hO upd_same, ⟨_, _, rfl, (d2.le (k2.res e3)).le lp, rfl⟩, ⟨_, _, rfl, d3.le lp, rfl⟩⟩ fun z => nomatch z
  · cases m
end DL

set_option Elab.async false
set_option linter.all false
set_option maxRecDepth 100000
set_option maxHeartbeats 4000000
/-! DL30: sorted(a tuple of ints), list(range(n)). -/
namespace DL
open PySem PySem.Spec PyProof.Rows L2

section
variable {prog : Program} {w : World} {A : Around} {E : Value → Shared → Prop} {s : Shared}
theorem collect_tupT {l : Addr} {vs : List Value} {Q : List Value → Shared → Prop} (hl : IsTup s.heap l vs.toArray)
    (h : Q vs { s with heap := (s.heap.push (seqObj "list" #[] 0)).update s.heap.objs.size (Obj.mapSeq (· ++ vs.toArray)) }) (hsz : vs.length ≤ sizeLine) :
    wpAny (model prog w) A (collect (.ref l)) Q E s := by
  obtain ⟨o, ho, hc, n, hd⟩ := id hl
  unfold collect
  refine wpAny_bind (wpAny_runValue (codeAny_builtin entry_proto_collect' ?_))
  show wpAny _ _ (do again (.builtin "list.__iadd__" ⟨[← newList [], .ref l], []⟩)) _ _ s
  refine wpAny_bind (wpAny_newList (wpAny_pure ⟨Code.quiet_builtin _ (by decide +kernel), codeAny_builtin entry_list_iadd' ?_⟩))
  show wpAny _ _ (Builtin.List.listExtendWith (.ref s.heap.objs.size) (.ref l) (.ref s.heap.objs.size)) _ _ { s with heap := s.heap.push (seqObj "list" #[] 0) }
  unfold Builtin.List.listExtendWith
  have ho' : (s.heap.push (seqObj "list" #[] 0)).get? l = some o := Heap.get?_push_of_some _ ho
  refine wpAny_bind (wpAny_typeOf (T := "tuple") ⟨o, ho', hc⟩ ?_)
  have ht : (Value.type "tuple" == Value.type "tuple") = true := by rfl
  rw [if_pos (by rw [ht]; simp)]
  refine wpAny_bind (listItems_at ho' hd ?_)
  refine wpAny_bind (listItems_at (xs := #[]) (n := 0) (Heap.get?_push_size _ rfl) rfl ?_)
  rw [if_neg (by simp)]
  refine wpAny_bind (listUpdate_at (xs := #[]) (n := 0) (Heap.get?_push_size _ rfl) rfl ?_ (Nat.zero_le _) (by show (#[] ++ vs.toArray).size ≤ sizeLine + 1; simp only [Array.size_append, List.size_toArray, List.length_nil]; omega))
  refine wpAny_pure ?_
  show wpAny (model prog w) A (do
      let o ← load s.heap.objs.size
      match o.data with
      | .seq xs _ => pure xs.toList
      | _ => unsupported "internal:collect") Q E { s with heap := (s.heap.push (seqObj "list" #[] 0)).update s.heap.objs.size (Obj.mapSeq (· ++ vs.toArray)) }
  refine wpAny_bind (wpAny_load (get?_update_seq (Heap.get?_push_size _ rfl) _) ?_)
  show wpAny _ _ (pure ((#[] : Array Value) ++ vs.toArray).toList) Q E _
  rw [show ((#[] : Array Value) ++ vs.toArray).toList = vs by simp]
  exact wpAny_pure h
theorem sorted_ordT {l : Addr} {vs : List Value} {ltv : Value → Value → Bool} {Q : Value → Shared → Prop} (O : SrtO.Swo ltv) (hl : IsTup s.heap l vs.toArray) (hz : vs.length ≤ sizeLine)
    (hS : 2 ≤ vs.length → ∀ (h₁ : Heap) (a : Addr), h₁.get? a = some (seqObj "list" vs.toArray 0) → (∀ b o, s.heap.get? b = some o → b ≠ a ∧ h₁.get? b = some o) → SrtO.SortableO prog w A.in1.in1 { s with heap := h₁ } a vs ltv)
    (h : ∀ out : List Value, SrtO.Srtd ltv out → SrtO.Stb ltv out vs → Q (.ref (s.heap.objs.size + 1)) { s with heap := sortedAll s.heap vs out.toArray }) :
    wpAny (model prog w) A (call (.builtin "sorted") [.ref l]) Q E s := by
  refine Calls.call_function_entry kind_sorted plain_sorted entry_sorted (args_sorted1 _) ?_
  unfold Builtin.«sorted»
  refine wpAny_bind (m := checkCount "sorted" 1 1 _) (wpAny_pure ?_)
  refine wpAny_bind (collect_tupT hl ?_ hz)
  refine wpAny_bind (wpAny_newList ?_ hz)
  have hsz : ((s.heap.push (seqObj "list" #[] 0)).update s.heap.objs.size (Obj.mapSeq (· ++ vs.toArray))).objs.size = s.heap.objs.size + 1 := by
    rw [Heap.size_update, size_push']
  have hoL : (((s.heap.push (seqObj "list" #[] 0)).update s.heap.objs.size (Obj.mapSeq (· ++ vs.toArray))).push (seqObj "list" vs.toArray 0)).get? (s.heap.objs.size + 1) = some (seqObj "list" vs.toArray 0) := by
    rw [← hsz]; exact Heap.get?_push_size _ rfl
  have keep : ∀ b o, s.heap.get? b = some o → b ≠ s.heap.objs.size + 1 ∧ (((s.heap.push (seqObj "list" #[] 0)).update s.heap.objs.size (Obj.mapSeq (· ++ vs.toArray))).push (seqObj "list" vs.toArray 0)).get? b = some o := fun b o q => by
    have hlt : b < s.heap.objs.size := Heap.lt_size q
    refine ⟨Nat.ne_of_lt (Nat.lt_succ_of_lt hlt), Heap.get?_push_of_some _ ?_⟩
    rw [Heap.get?_update_ne _ _ _ _ (Nat.ne_of_lt hlt)]
    exact Heap.get?_push_of_some _ q
  show wpAny _ _ _ _ _ { s with heap := ((s.heap.push (seqObj "list" #[] 0)).update s.heap.objs.size (Obj.mapSeq (· ++ vs.toArray))).push (seqObj "list" vs.toArray 0) }
  rw [hsz]
  refine wpAny_bind (wpAny_holding (wpAny_call_entry slot_list_sort ⟨_, hoL, rfl⟩ entry_list_sort (SrtO.list_sort_ord O hoL hz (fun h2 => hS h2 _ _ hoL keep) fun out hs hb => ⟨_, rfl, ?_⟩) (args_list_sort _)))
  exact wpAny_pure ⟨_, rfl, h out hs hb⟩
end
def rSortTI (K : PySem.W.Frag) : List V → Hp → VK → Prop := fun vs H Q => ∃ (a : Addr) (ns : List Int), vs = [V.ref a] ∧ SqT K H a (ns.map V.int) ∧
  ∀ (ns' : List Int) (p : Addr), ns'.Perm ns → ns'.Pairwise (· ≤ ·) → H p = none → Q (.ref p) (upd H p (.lst (ns'.map V.int)))
theorem cr_sortTI {X : Cx} : CallR X (.builtin "sorted") (rSortTI X.K) := by
  intro pins s σ H vs us Q I r h
  obtain ⟨a, ns, rfl, hs, q⟩ := h
  obtain ⟨its, rv, hl, hz⟩ := I.tuple hs
  rw [Vals.ref1 r]
  have hi := rv.ints
  refine sorted_ordT SrtO.swo_int hl (by rw [← rv.length]; exact hz) (fun h2 h₁ a' _ _ => SrtO.ints_sortable hi h2) fun out h1 h2 => ?_
  obtain ⟨k1, k2, k3⟩ := SrtO.ints_out hi h1 h2
  obtain ⟨ep, he'⟩ := PyProof.Rows.sortedAll_at s.heap its out.toArray
  have hlen : ((out.map SrtO.iv).map V.int).length ≤ sizeLine := by
    rw [List.length_map, k2.length_eq]
    rw [List.length_map] at hz
    exact hz
  exact ⟨.ref _, upd H (s.heap.objs.size + 1) (.lst ((out.map SrtO.iv).map V.int)), I.laid (t' := s.toks) (fun _ _ => PyProof.Rows.sortedAll_old) (Nat.le_succ _) ⟨hlen, out, ep, vals_of_ints k1, he'⟩, rfl, q _ _ k2 k3 (I.hok.fresh (Nat.le_succ _))⟩
/-- sorted of a tuple -/
def srt1 (x : D) (Q : D → Prop) : Prop := match x with
  | .tup ds => ∃ ns : List Int, ds = ns.map D.int ∧ Q (.lst ((sortI ns).map D.int))
  | _ => False
theorem srt1_mono {x : D} {Q Q' : D → Prop} (h : srt1 x Q) (m : ∀ d, Q d → Q' d) : srt1 x Q' := by
  cases x with
  | tup ds =>
    obtain ⟨ns, e, h⟩ := h
    exact ⟨ns, e, m _ h⟩
  | _ => exact h.elim
def lookSrt (c : Ctx) (a : E) : Expr → Bool
  | .Call (.Name x _) [y] [] _ => decide (x = ("sorted" : Str)) && glB c.sc x && notStar y && matchE c false a y
  | _ => false
def srt (a : E) : E := .raw (fun c x => lookSrt c a x) (fun env Q => semE a env fun x => srt1 x Q) a.vars true
@[simp] theorem srt_mono {a : E} (ma : a.monos) : (srt a).monos := fun env Q Q' h m => (sem_mono a ma).1 _ _ _ h fun x h => srt1_mono h m
@[simp] theorem sem_srt {a : E} {env : DEnv} {Q : D → Prop} : semE (srt a) env Q = semE a env fun x => srt1 x Q := rfl
@[simp] theorem srt1_t {ds : List D} {Q : D → Prop} : srt1 (.tup ds) Q = ∃ ns : List Int, ds = ns.map D.int ∧ Q (.lst ((sortI ns).map D.int)) := rfl
@[simp] theorem srt_isNil {a : E} : (srt a).isNil = false := rfl
@[simp] theorem srt_fresh {a : E} : (srt a).fresh = true := rfl
@[simp] theorem srt_vars {a : E} : (srt a).vars = a.vars := rfl
theorem srt_need {g : Gx} {a : E} (ma : a.monos) (na : Need g a) (hs : NoG g "sorted") : Need g (srt a) := by
  intro X c x hg ok m
  replace m : lookSrt c a x = true := m
  subst hg
  unfold lookSrt at m
  split at m
  · rename_i f p y pos
    simp only [Bool.and_eq_true, decide_eq_true_eq] at m
    obtain ⟨⟨⟨rfl, g5⟩, ns⟩, m5⟩ := m
    obtain ⟨g1, g2, g3⟩ := gl_of ok g5
    have A := (sound a ma).get ok na m5
    refine rawNeed (srt_mono ma) (PE.imp (pe_callB cr_sortTI g1 hs (by decide +kernel) (pa_cons A.pe pa_nil (star_of ns)) (by decide) (by decide) (star_of ns)) fun σ H Q q => ?_) (fun _ => rfl) fun _ _ _ z => nomatch z
    obtain ⟨T, env, O, k, r, q⟩ := q
    refine lift1 ma k r q fun d v H1 e1 k1 hd q => ?_
    cases d with
    | tup ds =>
      obtain ⟨ns, rfl, q⟩ := q
      obtain ⟨a, xs, rfl, hq, z, hs⟩ := dat_tup hd
      cases hs.ints
      refine ⟨_, ns, rfl, SqT.le (res_le _ _) hq, fun ns' p h1 h2 hp => ?_⟩
      cases sortI_eq h1 h2
      refine post.lst k1 (post.ext e1 k1.tape q) (Dats.of_ints _) ?_ hp
      have e := h1.length_eq
      rw [List.length_map] at z ⊢
      omega
    | _ => exact q.elim
  · cases m
/-- list(range(n)) -/
def lookLrg (c : Ctx) (a : E) : Expr → Bool
  | .Call (.Name x _) [.Call (.Name z _) [y] [] _] [] _ => decide (x = ("list" : Str)) && decide (z = ("range" : Str)) && glB c.sc x && glB c.sc z && notStar y && matchE c false a y
  | _ => false
def lrg (a : E) : E := .raw (fun c x => lookLrg c a x) (fun env Q => semE a env fun x => int1 x fun n => (n ≤ 16777216 ∧ -16777216 ≤ n) ∧ Q (.lst (rangeD 0 n))) a.vars true
@[simp] theorem lrg_mono {a : E} (ma : a.monos) : (lrg a).monos := fun env Q Q' h m => (sem_mono a ma).1 _ _ _ h fun x h => int1_mono h fun n h => ⟨h.1, m _ h.2⟩
@[simp] theorem sem_lrg {a : E} {env : DEnv} {Q : D → Prop} : semE (lrg a) env Q = semE a env fun x => int1 x fun n => (n ≤ 16777216 ∧ -16777216 ≤ n) ∧ Q (.lst (rangeD 0 n)) := rfl
@[simp] theorem lrg_isNil {a : E} : (lrg a).isNil = false := rfl
@[simp] theorem lrg_fresh {a : E} : (lrg a).fresh = true := rfl
@[simp] theorem lrg_vars {a : E} : (lrg a).vars = a.vars := rfl
theorem lrg_need {g : Gx} {a : E} (ma : a.monos) (na : Need g a) (hs : NoG g "list") (hr : NoG g "range") : Need g (lrg a) := by
  intro X c x hg ok m
  replace m : lookLrg c a x = true := m
  subst hg
  unfold lookLrg at m
  split at m
  · rename_i f p z p2 y p3 p4
    simp only [Bool.and_eq_true, decide_eq_true_eq] at m
    obtain ⟨⟨⟨⟨⟨rfl, rfl⟩, g5⟩, g6⟩, ns⟩, m5⟩ := m
    obtain ⟨g1, g2, g3⟩ := gl_of ok g5
    obtain ⟨h1, h2, h3⟩ := gl_of ok g6
    have A := (sound a ma).get ok na m5
    refine rawNeed (lrg_mono ma) (PE.imp (pe_listRg ok.calm g1 hs (prg_1 h1 hr A.pe (star_of ns)) rfl) fun σ H Q q => ?_) (fun _ => rfl) fun _ _ _ z => nomatch z
    obtain ⟨T, env, O, k, r, q⟩ := q
    refine lift1 ma k r q fun d v H1 e1 k1 hd q => ?_
    cases d with
    | int n =>
      obtain ⟨⟨z1, z2⟩, q⟩ := q
      refine ⟨n, by rw [show v = V.int n from hd], ⟨by omega, by omega, by omega, by omega, by omega⟩, fun p hp => ?_⟩
      have e : rangeD 0 n = ((List.range (n - 0).toNat).map fun i => (0 : Int) + (i : Nat)).map D.int := by
        unfold rangeD
        rw [List.map_map]
        rfl
      have e2 : rgV 0 n = ((List.range (n - 0).toNat).map fun i => (0 : Int) + (i : Nat)).map V.int := by
        unfold rgV
        rw [List.map_map]
        rfl
      rw [e] at q
      rw [e2]
      exact post.lst k1 (post.ext e1 k1.tape q) (Dats.of_ints _) (by simp; omega) hp
    | _ => exact q.elim
  · cases m
end DL

set_option Elab.async false
set_option linter.all false
set_option maxRecDepth 100000
set_option maxHeartbeats 4000000
/-! DL31: a, b, c = (x, y, z) with unchanging things. -/
namespace DL
open PySem PySem.Spec PyProof.Rows L2

def lookA3 (c : Ctx) (i j l : Nat) (a b d : E) : Stmt → Bool
  | .Assign [.Tuple [.Name x px, .Name y py, .Name z pz] _ _] (.Tuple [u, v, w] _ _) _ =>
    decide (c.N[i]? = some x) && decide (c.N[j]? = some y) && decide (c.N[l]? = some z) && decide (i ≠ j) && decide (i ≠ l) && decide (j ≠ l) && decide (x ≠ y) && decide (x ≠ z) && decide (y ≠ z) &&
    decide (c.sc.names.lookup x = some .local) && decide (c.sc.names.lookup y = some .local) && decide (c.sc.names.lookup z = some .local) && (py.line == px.line) && (pz.line == px.line) &&
    notStar u && notStar v && notStar w && !(foldedForSure 8 u && (foldedForSure 8 v && foldedForSure 8 w)) && !(constantsAlone 8 u && (constantsAlone 8 v && constantsAlone 8 w)) && matchE c false a u && matchE c false b v && matchE c false d w
  | _ => false
def asg3 (i j l : Nat) (a b d : E) : S := .raw (fun c st => lookA3 c i j l a b d st)
  (fun en env => semE a env fun x => noMut x = true ∧ semE b env fun y => noMut y = true ∧ semE d env fun z => noMut z = true ∧ en.nx (((env.set i (.sh x)).set j (.sh y)).set l (.sh z)))
@[simp] theorem asg3_mono {i j l : Nat} {a b d : E} (ma : a.monos) (mb : b.monos) (md : d.monos) : (asg3 i j l a b d).monos := fun p q le env h =>
  (sem_mono a ma).1 _ _ _ h fun x h => ⟨h.1, (sem_mono b mb).1 _ _ _ h.2 fun y h => ⟨h.1, (sem_mono d md).1 _ _ _ h.2 fun z h => ⟨h.1, le.1 _ h.2⟩⟩⟩
@[simp] theorem semS_asg3 {i j l : Nat} {a b d : E} {en : DEnds} {env : DEnv} : semS (asg3 i j l a b d) en env = semE a env fun x => noMut x = true ∧ semE b env fun y => noMut y = true ∧ semE d env fun z => noMut z = true ∧ en.nx (((env.set i (.sh x)).set j (.sh y)).set l (.sh z)) := rfl
section
variable {K : PySem.W.Frag} {T : Tape} {O W : List Addr} {σ : L2.St} {env : DEnv} {H : Hp}
theorem aftW_nm {e : E} {d : D} (h : noMut d = true) : aftW σ env e d W = W := by
  unfold aftW
  rw [if_pos (keeps_noMut h)]
theorem asg3_read {n i j l : Nat} {a b d : E} {D : Ends} (ma : a.monos) (mb : b.monos) (md : d.monos) (hi : i < n) (hj : j < n) (hl : l < n) (h : liftS K n (asg3 i j l a b d) D σ H) :
    tPar3 i j l (tCons (liftE K a) (tCons (liftE K b) (tCons (liftE K d) tNil))) D σ H := by
  obtain ⟨T, O, W, env, r, le, h⟩ := h
  refine r.eval ma h fun x v H1 ex1 t1 hd1 _ h => ?_
  rw [aftW_nm h.1] at hd1
  have r1 := r.ext ex1 t1
  refine r1.eval mb h.2 fun y w H2 ex2 t2 hd2 _ h => ?_
  rw [aftW_nm h.1] at hd2
  have r2 := r1.ext ex2 t2
  refine r2.eval md h.2 fun z u H3 ex3 t3 hd3 _ h => ?_
  rw [aftW_nm h.1] at hd3
  have r3 := r2.ext ex3 t3
  refine ⟨v, w, u, rfl, ?_⟩
  have d1 := (hd1.le (r1.okW.res ex2)).le (r2.okW.res ex3)
  have d2 := hd2.le (r2.okW.res ex3)
  have q1 := r3.setSh (i := i) d1 (by rw [le]; exact hi)
  have q2 := q1.setSh (i := j) d2 (by rw [List.length_set, le]; exact hj)
  have q3 := q2.setSh (i := l) hd3 (by rw [List.length_set, List.length_set, le]; exact hl)
  exact h.2 _ _ _ q3 (by rw [List.length_set, List.length_set, List.length_set]; exact le) (((Frm.ext ex1 t1).trans (Frm.ext ex2 t2)).trans (Frm.ext ex3 t3))
end
theorem swapped_of3 {X : Cx} {x y z : Str} {px py pz p p2 : Pos} {k k2 : Nat} {u v w : Expr} (hk : X.env.scope.kind = .function) (hx : X.env.scope.names.lookup x = some .local) (hy : X.env.scope.names.lookup y = some .local) (hz : X.env.scope.names.lookup z = some .local)
    (h12 : x ≠ y) (h13 : x ≠ z) (h23 : y ≠ z) (hl : (py.line == px.line) = true) (hl2 : (pz.line == px.line) = true)
    (nu : notStar u = true) (nv : notStar v = true) (nw : notStar w = true) (h1 : (foldedForSure 8 u && (foldedForSure 8 v && foldedForSure 8 w)) = false) (h2 : (constantsAlone 8 u && (constantsAlone 8 v && constantsAlone 8 w)) = false) :
    swappedStores [.Tuple [.Name x px, .Name y py, .Name z pz] k p] (.Tuple [u, v, w] k2 p2) X.env = pure (some [x, y, z]) := by
  have hb : X.env.blockKind = .function := by unfold Env.blockKind; rw [hk]; rfl
  have kx : X.env.kindOf x = some .local := hx
  have ky : X.env.kindOf y = some .local := hy
  have kz : X.env.kindOf z = some .local := hz
  have e1 : [x, y, z].eraseDups.length = 3 := by
    rw [List.eraseDups_cons]
    simp [h12.symm, h13.symm, h23.symm, List.eraseDups_cons]
  have hl' : py.line = px.line := by simpa using hl
  have hl2' : pz.line = px.line := by simpa using hl2
  have h1' : [u, v, w].all (foldedForSure 8) = false := by simpa [List.all_cons, Bool.and_assoc] using h1
  have h2' : [u, v, w].all (constantsAlone 8) = false := by simpa [List.all_cons, Bool.and_assoc] using h2
  unfold swappedStores
  simp only [h1', h2', hb]
  simp [kx, ky, kz, hl', hl2', e1, Expr.pos]
  rintro (q | q | q)
  · cases u <;> first | (cases nu; done) | (cases q; done)
  · cases v <;> first | (cases nv; done) | (cases q; done)
  · cases w <;> first | (cases nw; done) | (cases q; done)
@[simp] theorem asg3_need {g : Gx} {i j l : Nat} {a b d : E} (ma : a.monos) (mb : b.monos) (md : d.monos) (na : Need g a) (nb : Need g b) (nd : Need g d) : NeedS g (asg3 i j l a b d) := by
  intro X c st hg ok hp hk m
  replace m : lookA3 c i j l a b d st = true := m
  subst hg
  unfold lookA3 at m
  split at m
  · simp only [Bool.and_eq_true, decide_eq_true_eq, Bool.not_eq_true'] at m
    obtain ⟨⟨⟨⟨⟨⟨⟨⟨⟨⟨⟨⟨⟨⟨⟨⟨⟨⟨⟨⟨⟨m1, m2⟩, m3⟩, m4⟩, m5⟩, m6⟩, m7⟩, m8⟩, m9⟩, m10⟩, m11⟩, m12⟩, m13⟩, m14⟩, m15⟩, m16⟩, m17⟩, m18⟩, m19⟩, m20⟩, m21⟩, m22⟩ := m
    have A := (sound a ma).get ok na m20
    have B := (sound b mb).get ok nb m21
    have C := (sound d md).get ok nd m22
    have hx := m10
    have hy := m11
    have hz := m12
    rw [← ok.sc] at hx hy hz
    exact PS.imp (ps_par3 ok.calm (by rw [ok.N]; exact ok.nd) (by rw [ok.N]; exact m1) (by rw [ok.N]; exact m2) (by rw [ok.N]; exact m3) m4 m5 m6 hx hy hz (pa_cons A.pe (pa_cons B.pe (pa_cons C.pe pa_nil (star_of m17)) (star_of m16)) (star_of m15))
      (swapped_of3 hk hx hy hz m7 m8 m9 m13 m14 m15 m16 m17 m18 m19) rfl) fun D σ H q => asg3_read ma mb md (List.getElem?_eq_some_iff.mp m1).1 (List.getElem?_eq_some_iff.mp m2).1 (List.getElem?_eq_some_iff.mp m3).1 q
  · cases m
end DL

set_option Elab.async false
set_option linter.all false
set_option maxRecDepth 100000
set_option maxHeartbeats 4000000
/-! DL32: name = [L.pop(e) for k in range(n) if c]. -/
namespace DL
open PySem PySem.Spec PyProof.Rows L2

def shufCD (env : DEnv) (own : List Nat) (j : Nat) (e c : E) : Nat → List D → (List D → List D → Prop) → Prop
  | 0, ds, R => R ds []
  | m + 1, ds, R => semE c (wenv env own j ds) fun b => bool1 b fun b => if b = true then semE e (wenv env own j ds) fun x => popK ds x fun d rest => shufCD env own j e c m rest fun es ys => R es (d :: ys) else shufCD env own j e c m ds R
theorem bool1_mono {x : D} {k k' : Bool → Prop} (h : bool1 x k) (m : ∀ i, k i → k' i) : bool1 x k' := by
  cases x with
  | bl i => exact m _ h
  | _ => exact h.elim
theorem shufCD_mono {env : DEnv} {own : List Nat} {j : Nat} {e c : E} (me : e.monos) (mc : c.monos) : ∀ {m : Nat} {ds : List D} {R R' : List D → List D → Prop}, shufCD env own j e c m ds R → (∀ a b, R a b → R' a b) → shufCD env own j e c m ds R'
  | 0, ds, R, R', h, i => i _ _ h
  | m + 1, ds, R, R', h, i => (sem_mono c mc).1 _ _ _ h fun b h => bool1_mono h fun b h => by
    cases b with
    | true =>
      rw [if_pos rfl] at h ⊢
      exact (sem_mono e me).1 _ _ _ h fun x h => popK_mono h fun d r h => shufCD_mono me mc h fun a b h => i _ _ h
    | false =>
      rw [if_neg Bool.false_ne_true] at h ⊢
      exact shufCD_mono me mc h i
def lookShufC (c : Ctx) (i j : Nat) (own : List (Str × Nat)) (k : Nat) (e n t : E) (st : Stmt) : Bool := match vAsg st with
  | some (x, _, v, _) => storeB c i x && matchE c false (.lc own (hole j e) (.var k) (.r1 n) t) v && !(own.map (·.2)).contains j && decide (j < c.N.length) && !t.isNil
  | none => false
def shufC (i j : Nat) (own : List (Str × Nat)) (k : Nat) (e n t : E) : S := .raw (fun c st => lookShufC c i j own k e n t st)
  (fun en env => ownL env j fun ds => semE n env fun x => int1 x fun m => m ≤ 4000 ∧ -4000 ≤ m ∧ shufCD env (own.map (·.2)) j e t m.toNat ds fun rest ys => en.nx ((env.set j (.ow (.lst rest))).set i (.ow (.lst ys))))
theorem shufC_mono {i j : Nat} {own : List (Str × Nat)} {k : Nat} {e n t : E} (me : e.monos) (mn : n.monos) (mt : t.monos) : (shufC i j own k e n t).monos := fun a b l env h => by
  exact ownL_mono h fun ds h => (sem_mono n mn).1 _ _ _ h fun x h => int1_mono h fun m h => ⟨h.1, h.2.1, shufCD_mono me mt h.2.2 fun es ys h => l.1 _ h⟩
section
variable {K : PySem.W.Frag} {T : Tape} {O W : List Addr} {σ σ' : L2.St} {env env' : DEnv} {H H1 : Hp}
theorem shufC_read {n i j k : Nat} {own : List (Str × Nat)} {e c tt : E} {D : Ends} (me : e.monos) (mc : c.monos) (mt : tt.monos) (hnil : tt.isNil = false) (hk : k ∈ own.map (·.2)) (hj : j ∉ own.map (·.2)) (hi : i < n) (hjn : j < n) (h : liftS K n (shufC i j own k e c tt) D σ H) :
    tAsg (tLc (liftI K (.r1 c)) (liftG K n (.var k)) (liftC K tt) (tBM K "list" rPopAt (tVar j) (tCons (liftE K e) tNil)) (own.map (·.2))) (gName i) D σ H := by
  obtain ⟨T, O, W, env, r, l, h⟩ := h
  obtain ⟨ds0, he0, h⟩ := own_get h
  have hle : env.length = n := r.len.trans l
  obtain ⟨k0, rp0⟩ := r.rp c.vars
  refine ⟨T, env, _, k0, rp0, (sem_mono c mc).1 _ _ _ h fun x hx => ?_⟩
  cases x with
  | int mm =>
    obtain ⟨b1, b2, hx⟩ := hx
    refine ⟨⟨by omega, by omega⟩, fun J H1 ex t _ wk ad hD => ?_⟩
    have keepsR : keeps (.r1 c) (.lst (rangeD 0 mm)) = true := keeps_fresh rfl noMuts_rangeD
    have r1 := r.ext ex t
    have wk := wk keepsR (W ++ O) (r.wider _) r.okW.sub
    generalize hcnt : mm.toNat = cnt at hx
    have hlen : (rangeD 0 mm).length = cnt := by rw [← hcnt]; simp [rangeD]
    obtain ⟨_, wk⟩ := wk
    rw [hlen] at wk
    have hc4 : cnt ≤ 4000 := by omega
    have nW : ad ∉ W ++ O := r1.okW.new hD
    have nT : ad ∉ T.own := fun z => nW (r1.okW.sub _ z)
    -- what holds at each turn
    refine ⟨fun q m H2 => ∃ ds ys, q + m = cnt ∧ ys.length ≤ q ∧ RepS K T O (ad :: W) (σ ++ [some (.ref ad)]) (env.set j (.ow (.lst ds)) ++ [.ow (.lst ys)]) H2 ∧ Frm T H1 W H2 (ad :: W) ∧
      shufCD env (own.map (·.2)) j e tt m ds (fun rest zs => (endsOf K T O W n H D).nx ((env.set j (.ow (.lst rest))).set i (.ow (.lst (ys ++ zs))))), ⟨cnt, ds0, [], by omega, Nat.le_refl _, ?_, ?_, hx⟩, ?_⟩
    · have hjl : env.set j (.ow (.lst ds0)) = env := by
        apply List.ext_getElem?
        intro b
        by_cases hb : j = b
        · subst hb; rw [List.getElem?_set_self (by omega), he0]
        · rw [List.getElem?_set_ne hb]
      rw [hjl]
      have r2 : RepS K T O (ad :: W) σ env (upd H1 ad (.lst [])) := r1.new (Ext.upd hD) (tapeLe (le_upd hD) t) hD upd_same
      have r3 : RepS K T O (ad :: W) (σ ++ [none]) (env ++ [.no]) (upd H1 ad (.lst [])) := r2.see (by simp [r.len]) (fun b d hb => ?_) (fun b d hb => ?_) fun b rows as hb => ?_
      · have := r3.setOw (i := n) (ds := []) (p := ad) (xs := []) List.mem_cons_self (fun b d hb hs => ?_) (fun b rows as hb ha => ?_) upd_same (Nat.zero_le _) rfl (by simp [l])
        · rw [← l, set_len, l, ← hle, set_len] at this
          exact this
        · have hb2 : env[b]? = some (Sl.ow d) := by
            by_cases hb' : b < env.length
            · rwa [List.getElem?_append_left hb'] at hb
            · rw [List.getElem?_append_right (by omega)] at hb
              have : b - env.length = 0 := by
                by_cases z : b - env.length = 0
                · exact z
                · rw [List.getElem?_eq_none (by simp; omega)] at hb
                  cases hb
              rw [this] at hb
              cases hb
          obtain ⟨ds', p', xs', _, q2, q3, q4, _⟩ := r1.ow b d hb2
          have hbl : b < env.length := (List.getElem?_eq_some_iff.mp hb2).1
          rw [List.getElem?_append_left (by omega), q2] at hs
          cases hs
          rw [hD] at q4
          cases q4
        · have hb2 : env[b]? = some (Sl.nw rows as) := by
            by_cases hb' : b < env.length
            · rwa [List.getElem?_append_left hb'] at hb
            · rw [List.getElem?_append_right (by omega)] at hb
              have : b - env.length = 0 := by
                by_cases z : b - env.length = 0
                · exact z
                · rw [List.getElem?_eq_none (by simp; omega)] at hb
                  cases hb
              rw [this] at hb
              cases hb
          obtain ⟨p', ps, m⟩ := r1.nw b rows as hb2
          obtain ⟨xs', g'⟩ := m.has ha
          rw [hD] at g'
          cases g'
      all_goals
        by_cases hb' : b < env.length
        · rw [List.getElem?_append_left hb'] at hb
          exact ⟨hb, by rw [List.getElem?_append_left (by omega)]⟩
        · rw [List.getElem?_append_right (by omega)] at hb
          by_cases z : b - env.length = 0
          · rw [z] at hb
            cases hb
          · rw [List.getElem?_eq_none (by simp; omega)] at hb
            cases hb
    · exact ⟨fun b o hb _ _ => by
        rw [upd_ne fun z => by rw [z, hD] at hb; cases hb]
        exact hb, fun b hb nb z => by
        rcases List.mem_cons.mp z with rfl | z
        · exact hb hD
        · exact nb z, fun b hb => by
        by_cases z : b = ad
        · rw [z, upd_same]; exact fun z => nomatch z
        · rw [upd_ne z]; exact hb⟩
    rintro q m H2 ⟨ds, ys, hqm, hyl, R, F, hS⟩
    have lw : Le (res H1 (W ++ O)) (res H2 (W ++ O)) := fun b o g => by
      obtain ⟨nb, g⟩ := res_some g
      exact res_of nb (F.keep b o g (fun z => nb (List.mem_append_left _ z)) fun z => nb (r.okW.sub _ z))
    cases m with
    | zero =>
      have eq : q = cnt := by omega
      subst eq
      refine .inl ⟨(wk H2 lw).2, ?_⟩
      have hS : (endsOf K T O W n H D).nx ((env.set j (.ow (.lst ds))).set i (.ow (.lst (ys ++ [])))) := hS
      rw [List.append_nil] at hS
      have r3 : RepS K T O (ad :: W) σ (env.set j (.ow (.lst ds))) H2 := R.see (by rw [List.length_set]; exact r.len) (fun b d hb => ?_) (fun b d hb => ?_) fun b rows as hb => ?_
      · have hlast : (env.set j (.ow (.lst ds)) ++ [Sl.ow (.lst ys)])[n]? = some (Sl.ow (.lst ys)) := by
          rw [List.getElem?_append_right (by rw [List.length_set]; omega), List.length_set, hle, Nat.sub_self]
          rfl
        have slast : (σ ++ [some (V.ref ad)])[n]? = some (some (V.ref ad)) := by
          rw [List.getElem?_append_right (by omega), l, Nat.sub_self]
          rfl
        obtain ⟨ys', p', acc, e1, g2, g3, g4, g5, g6⟩ := R.ow n _ hlast
        cases e1
        rw [slast] at g2
        cases g2
        have r4 := r3.setOw (i := i) (ds := ys) (p := ad) (xs := acc) List.mem_cons_self (fun b d hb hs => ?_) (fun b rows as hb ha => ?_) g4 g5 g6 (by omega)
        · exact hS _ _ _ r4 (by rw [List.length_set]; exact l) ((Frm.ext ex t).trans F)
        · have hbl : b < env.length := by
            have := (List.getElem?_eq_some_iff.mp hb).1
            rwa [List.length_set] at this
          have := R.inj b n d _ ad (by rw [List.getElem?_append_left (by rw [List.length_set]; exact hbl)]; exact hb) hlast (by rw [List.getElem?_append_left (by omega)]; exact hs) slast
          omega
        · have hbl : b < env.length := by
            have := (List.getElem?_eq_some_iff.mp hb).1
            rwa [List.length_set] at this
          exact R.nx b n rows as _ ad (by rw [List.getElem?_append_left (by rw [List.length_set]; exact hbl)]; exact hb) hlast slast ha
      all_goals
        have hbl : b < env.length := by
          have := (List.getElem?_eq_some_iff.mp hb).1
          rwa [List.length_set] at this
        exact ⟨by rw [List.getElem?_append_left (by rw [List.length_set]; exact hbl)]; exact hb, by rw [List.getElem?_append_left (by omega)]⟩
    | succ m =>
      obtain ⟨g, y⟩ := (wk H2 lw).1 q (by omega)
      refine .inr ⟨g, fun H3 => ∃ ds ys, q + 1 + m = cnt ∧ ys.length ≤ q + 1 ∧ RepS K T O (ad :: W) (σ ++ [some (.ref ad)]) (env.set j (.ow (.lst ds)) ++ [.ow (.lst ys)]) H3 ∧ Frm T H1 W H3 (ad :: W) ∧
        shufCD env (own.map (·.2)) j e tt m ds (fun rest zs => (endsOf K T O W n H D).nx ((env.set j (.ow (.lst rest))).set i (.ow (.lst (ys ++ zs))))), fun H3 h => ⟨m, by omega, h⟩, fun x H3 hy => ?_⟩
      obtain ⟨rfl, d0, _, hd0⟩ := y x H3 hy
      refine ⟨T, W ++ O, wipeD env (own.map (·.2)), fun _ _ => True, d0, fun _ _ _ _ _ _ _ _ => trivial, trivial, hd0.le lw, by rw [wipe_length]; exact l, ?_⟩
      show ∀ σ' : L2.St, True → σ'.length = n → (∀ b : Nat, b ∉ slotsOf (.var k) → σ'[b]? = (wipe σ (own.map (·.2)))[b]?) → _
      intro σ2 _ l2 f2
      have f3 : ∀ b : Nat, b ∉ own.map (·.2) → σ2[b]? = σ[b]? := fun b hb => by
        rw [f2 b (by simp [slotsOf]; exact fun z => hb (by rw [z]; exact hk)), wipe_get, if_neg hb]
      refine ⟨wipe_same (by rw [l2, l]) fun b hb => f2 b (by simp [slotsOf]; exact fun z => hb (by rw [z]; exact hk)), ?_⟩
      have r3 : RepS K T O (ad :: W) σ2 (wenv env (own.map (·.2)) j ds) H3 := R.see (by rw [wenv, List.length_set, wipeD_length, l2, hle]) (fun b d hb => ?_) (fun b d hb => ?_) fun b rows as hb => ?_
      · unfold liftC
        rw [hnil]
        change liftT K tt σ2 H3 _
        refine r3.test mt hS fun dd hd => ?_
        cases dd with
        | bl t =>
          refine ⟨t, rfl, fun H3' exc tc => ?_⟩
          have hd : (if t = true then semE e (wenv env (own.map (·.2)) j ds) fun x => popK ds x fun d rest => shufCD env (own.map (·.2)) j e tt m rest fun es zs => (endsOf K T O W n H D).nx ((env.set j (.ow (.lst es))).set i (.ow (.lst (ys ++ (d :: zs))))) else shufCD env (own.map (·.2)) j e tt m ds fun rest zs => (endsOf K T O W n H D).nx ((env.set j (.ow (.lst rest))).set i (.ow (.lst (ys ++ zs))))) := hd
          have r4 := r3.ext exc tc
          have RR := R.ext exc tc
          have FF := F.trans (Frm.ext exc tc)
          cases t with
          | false =>
            rw [if_neg Bool.false_ne_true] at hd ⊢
            exact ⟨ds, ys, by omega, by omega, RR, FF, hd⟩
          | true =>
            rw [if_pos rfl] at hd ⊢
            change tBM K "list" rPopAt (tVar j) (tCons (liftE K e) tNil) σ2 H3' _
            have hS := hd
            obtain ⟨ds', p, xs, e1, hs, hp, hx', hz, hd1⟩ := r4.ow j (.lst ds) (by rw [wenv, List.getElem?_set_self (by rw [wipeD_length]; omega)])
            cases e1
            refine ⟨.ref p, hs, .inl ⟨rfl, xs, SqL.of hx'⟩, ?_⟩
            refine r4.eval me hS fun d v H4 ex4 t4 hd4 _ hq => ?_
            cases d with
            | int kk =>
              obtain ⟨rr, dd, hj2, hdd, hq⟩ := hq
              have hx4 := ex4 _ _ hx' (r4.ntT p hp)
              have hl := hd1.length
              rw [← hl] at hj2
              obtain ⟨q1, q2, q3, q4⟩ := ixN_seq hj2
              have R4 := RR.ext ex4 t4
              have hjs : (env.set j (Sl.ow (.lst ds)) ++ [Sl.ow (.lst ys)])[j]? = some (Sl.ow (.lst ds)) := by
                rw [List.getElem?_append_left (by rw [List.length_set]; omega), List.getElem?_set_self (by omega)]
              have hjv : (σ ++ [some (V.ref ad)])[j]? = some (some (V.ref p)) := by
                rw [List.getElem?_append_left (by omega), ← f3 j hj]
                exact hs
              obtain ⟨ds5, p5, xs5, e5, hs5, hp5, hx5, hz5, hd5⟩ := R4.ow j _ hjs
              cases e5
              rw [hjv] at hs5
              cases hs5
              rw [hx4] at hx5
              cases hx5
              refine ⟨p, xs, kk, rr, xs[rr], rfl, by rw [show v = V.int kk from hd4], hx4, by omega, by omega, q1, List.getElem?_eq_getElem q2, ?_⟩
              obtain ⟨R5, F5⟩ := R4.write (ds := ds.eraseIdx rr) (xs := xs.eraseIdx rr) hjs hjv hp (Nat.le_trans (len_erase _ _) hz) (hd5.erase rr)
              have hlast : ((env.set j (.ow (.lst ds)) ++ [Sl.ow (.lst ys)]).set j (.ow (.lst (ds.eraseIdx rr))))[n]? = some (Sl.ow (.lst ys)) := by
                rw [List.getElem?_set_ne (by omega), List.getElem?_append_right (by rw [List.length_set]; omega), List.length_set, hle, Nat.sub_self]
                rfl
              have slast : (σ ++ [some (V.ref ad)])[n]? = some (some (V.ref ad)) := by
                rw [List.getElem?_append_right (by omega), l, Nat.sub_self]
                rfl
              obtain ⟨ys', p', acc, e1, g2, g3, g4, g5, g6⟩ := R5.ow n _ hlast
              cases e1
              rw [slast] at g2
              cases g2
              have gl := g6.length
              obtain ⟨y0, hy0, hdy⟩ := hd5.get hdd
              rw [List.getElem?_eq_getElem q2] at hy0
              cases hy0
              have hdy2 : Dat K T (res (upd H4 p (.lst (xs.eraseIdx rr))) (ad :: W ++ O)) dd xs[rr] := hdy.le fun b o g => by
                obtain ⟨nb, g⟩ := res_some g
                exact res_of nb (by rw [upd_ne fun z => nb (by rw [z]; exact List.mem_append_left _ hp)]; exact g)
              obtain ⟨R6, F6⟩ := R5.write (i := n) (ds := ys ++ [dd]) (xs := acc ++ [xs[rr]]) hlast slast List.mem_cons_self (by rw [List.length_append]; show acc.length + 1 ≤ 16777216; omega) (g6.append (Dats.one hdy2))
              refine ⟨acc, g4, by rw [sizeLine_eq]; omega, ds.eraseIdx rr, ys ++ [dd], by omega, by rw [List.length_append]; simp; omega, ?_, ((FF.trans (Frm.ext ex4 t4)).trans F5).trans F6, shufCD_mono me mt hq fun a b h => ?_⟩
              · have e1 : ((env.set j (Sl.ow (.lst ds)) ++ [Sl.ow (.lst ys)]).set j (.ow (.lst (ds.eraseIdx rr)))).set n (.ow (.lst (ys ++ [dd]))) = env.set j (Sl.ow (.lst (ds.eraseIdx rr))) ++ [.ow (.lst (ys ++ [dd]))] := by
                  rw [set_in (by rw [List.length_set]; omega), List.set_set]
                  have : n = (env.set j (Sl.ow (.lst (ds.eraseIdx rr)))).length := by rw [List.length_set]; exact hle.symm
                  rw [this, set_len]
                rw [e1] at R6
                exact R6
              · rw [List.append_assoc]
                exact h
            | _ => exact hq.elim
        | _ => exact hd.elim
      all_goals
        by_cases hb' : b = j
        · subst hb'
          rw [wenv, List.getElem?_set_self (by rw [wipeD_length]; omega)] at hb
          first
          | cases hb; done
          | exact ⟨by rw [List.getElem?_append_left (by rw [List.length_set]; omega), List.getElem?_set_self (by omega)]; exact hb, by rw [f3 b hj, List.getElem?_append_left (by omega)]⟩
        · rw [wenv, List.getElem?_set_ne (Ne.symm hb'), wipeD_at] at hb
          by_cases ho : b ∈ own.map (·.2)
          · rw [if_pos ho] at hb
            cases hq : env[b]? with
            | none => rw [hq] at hb; cases hb
            | some z => rw [hq] at hb; cases hb
          · rw [if_neg ho] at hb
            have hbl : b < env.length := (List.getElem?_eq_some_iff.mp hb).1
            exact ⟨by rw [List.getElem?_append_left (by rw [List.length_set]; omega), List.getElem?_set_ne (Ne.symm hb')]; exact hb, by rw [f3 b ho, List.getElem?_append_left (by omega)]⟩
  | _ => exact hx.elim
end
theorem shufC_need {g : Gx} {i j k : Nat} {own : List (Str × Nat)} {e n t : E} (me : e.monos) (mn : n.monos) (mt : t.monos) (ne : Need g e) (nn : Need g (.r1 n)) (nt : Need g t) : NeedS g (shufC i j own k e n t) := by
  intro X c st hg ok hp hkf m
  replace m : lookShufC c i j own k e n t st = true := m
  subst hg
  unfold lookShufC at m
  cases h : vAsg st with
  | none => rw [h] at m; cases m
  | some z =>
    obtain ⟨x, py, v, pos⟩ := z
    rw [h] at m
    cases vAsg_eq h
    simp only [Bool.and_eq_true, Bool.not_eq_true', decide_eq_true_eq] at m
    obtain ⟨⟨⟨⟨m1, m2⟩, m3⟩, m4⟩, m6⟩ := m
    unfold storeB at m1
    simp only [Bool.and_eq_true, decide_eq_true_eq] at m1
    obtain ⟨⟨h1, h2⟩, h3⟩ := m1
    have hN : X.N[i]? = some x := by rw [ok.N]; exact h1
    have hnd : X.N.Nodup := by rw [ok.N]; exact ok.nd
    have hi : i < c.N.length := (List.getElem?_eq_some_iff.mp h1).1
    have hj : j ∉ own.map (·.2) := fun z => by
      rw [List.contains_iff_mem.mpr z] at m3
      cases m3
    have m0 := m2
    rw [mE_lc] at m2
    split at m2
    · rename_i elt tg' it' ifs ia scope pos2
      simp only [Bool.and_eq_true, decide_eq_true_eq] at m2
      have e0 := m2.1.1.1.1.1.1.1
      subst e0
      have hmm : (E.lc own (hole j e) (.var k) (.r1 n) t).monos := ⟨mn, mt, hole_mono⟩
      obtain ⟨p1, p2, p3, p4, p5, p6, p7⟩ := lc_parts ok hmm (sound _ hole_mono) (sound _ mn) (sound t mt) ⟨nn, nt, hole_need⟩ m0
      have hko : k ∈ own.map (·.2) := p7 k (by simp [slotsOf])
      have q5 : ∀ (s : Shared) (H : Hp) (C : Addr) (cl : List (Str × Addr)) (fp : List Addr), PE (X.blk s H scope (compEnvC scope cl C X.env) fp) elt (tBM X.K "list" rPopAt (tVar j) (tCons (liftE X.K e) tNil)) := fun s H C cl fp => by
        have okb := xok_blk ok s H scope C cl fp
        have mm := m2.2
        rw [show matchE (c.blk scope) false (hole j e) elt = (notComp elt && lookEl (c.blk scope) j e elt) from rfl, Bool.and_eq_true] at mm
        replace mm := mm.2
        unfold lookEl at mm
        split at mm
        · rename_i h2
          cases vM1_eq h2
          rw [Bool.and_eq_true] at mm
          obtain ⟨rfl, m2, m3, m4⟩ := m1_parts mm.1
          have A := (sound e me).get okb ne mm.2
          exact pe_bm PySem.F.plainAttrs_list PySem.F.slot_list_pop PySem.F.type_list_pop mt_popAt (var_pe okb m2) (pa_cons A.pe pa_nil (star_of m3)) rfl (few_of m3) m4 (star_of m3) rfl
        · cases mm
      have rd : ∀ D σ H, liftS X.K c.N.length (shufC i j own k e n t) D σ H → tAsg (tLc (liftI X.K (.r1 n)) (liftG X.K c.N.length (.var k)) (liftC X.K t) (tBM X.K "list" rPopAt (tVar j) (tCons (liftE X.K e) tNil)) (own.map (·.2))) (gName i) D σ H :=
        fun D σ H q => shufC_read me mn mt m6 hko hj hi m4 q
      cases hsw : swB X.env x py scope pos2 with
      | true =>
        have hl : X.env.scope.names.lookup x = some .local := by
          unfold swB at hsw
          simp only [Bool.and_eq_true, beq_iff_eq] at hsw
          exact hsw.1.1.2
        exact PS.imp (ps_setLc (i := i) ok.calm hnd hN hl (by rw [swaps_lc, hsw]) p1 p2 p3 p4 q5 p6) rd
      | false => exact PS.imp (ps_set (i := i) hnd hN (loc_of ok h2) (pe_lc ok.calm hnd p1 p2 p3 p4 q5 p6) (by rw [swaps_lc, hsw]) (fn_of_match ok h3)) rd
    · cases m2
@[simp] theorem semS_shufC {i j k : Nat} {own : List (Str × Nat)} {e n t : E} {en : DEnds} {env : DEnv} : semS (shufC i j own k e n t) en env = ownL env j fun ds => semE n env fun x => int1 x fun m => m ≤ 4000 ∧ -4000 ≤ m ∧ shufCD env (own.map (·.2)) j e t m.toNat ds fun rest ys => en.nx ((env.set j (.ow (.lst rest))).set i (.ow (.lst ys))) := rfl
end DL

set_option Elab.async false
set_option linter.all false
set_option maxRecDepth 100000
set_option maxHeartbeats 4000000
/-! DL33: max(xs, default=d), min(xs, default=d). -/
namespace DL
open PySem PySem.Spec PyProof.Rows L2

section
variable {prog : Program} {w : World} {A : Around} {E : Value → Shared → Prop} {s : Shared}
theorem call_function_treeK {id : String} {b : Builtin} {args : List Value} {kw : List (Str × Value)} {Q : Value → Shared → Prop} (hk : builtinKind id = none) (hp : plainId id = true)
    (hb : entryFor table id = some b) (ha : argsOk id ⟨args, kw⟩)
    (hc : wpAny (model prog w) A.in1 (b ⟨args, kw⟩) (fun fin s' => match fin with
      | .done f => (match (Except.ok f : Result) with | .ok (.ret v) => Q v s' | .ok _ => False | .error e => E e s')
      | .again c' => c'.quiet = true ∧ codeAny (model prog w) A c' (fun r s' => match r with | .ok (.ret v) => Q v s' | .ok _ => False | .error e => E e s') s') E s) :
    wpAny (model prog w) A (call (.builtin id) args kw) Q E s := by
  refine wpAny_call (codeAny_call_builtin hp hb ?_)
  simp only [checkBuiltinCall, hk]
  cases h1 : Manifest.signature? id with
  | none => exact wpAny_pure hc
  | some sig =>
    simp only [argsOk, h1] at ha
    have h2 : Bind.checkArgs id sig ⟨args, kw⟩ = pure () := ha
    show wpAny _ A.in1 (Bind.checkArgs id sig ⟨args, kw⟩) _ _ s
    rw [h2]
    exact wpAny_pure hc
end
section
variable {prog : Program} {w : World} {A : Around} {R : Result → Shared → Prop} {I : Addr} {fp wr : List Addr} {n : Nat} {P : Nat → Value → Prop} {St : Nat → Heap → Prop}
/-- the loop of max with what is told of nothing -/
theorem max_loopD (W : Walks prog w A.in1 I fp wr n P St) (bt : Nat → Nat → Bool) (hcmp : CmpOf prog w A.in1 .Gt P bt) (S : Addr) (hSf : S ∉ fp) (kw : List (Str × Value)) :
    ∀ (k j : Nat) (s : Shared) (vb : Value) (c : Nat), n - (j + 1) = k → j + 1 ≤ n → St (j + 1) s.heap → P (argBest bt j) vb →
    s.heap.get? S = some { cls := .type "list", dict := none, data := .seq #[vb, vb] c, slots := #[] } →
    (∀ v h' tk, P (argBest bt (n - 1)) v → (∀ b o, b ∉ wr → b ≠ S → s.heap.get? b = some o → h'.get? b = some o) → R (.ok (.ret v)) { s with heap := h', toks := tk }) →
    codeAny (model prog w) A (.builtin "max.loop" ⟨[.ref I, .none, .ref S], kw⟩) R s := by
  have hw : S ∉ wr := fun h => hSf (W.sub _ h)
  have nm : (toString "max" ++ toString ".loop" : String) = "max.loop" := by decide
  intro k
  induction k with
  | zero =>
    intro j s vb c hk hj hst hPb hS hR
    have hin : j + 1 = n := by omega
    refine codeAny_builtin F.entry_max_loop ?_
    rw [Around.under_plainId F.plain_max_loop _]
    show wpAny _ A.in1 (seqItems? (.ref S) >>= _) _ _ s
    refine wpAny_bind (wpAny_seqItems hS rfl ?_)
    show wpAny _ A.in1 (tryCatch (pyNext (.ref I)) _ >>= _) _ _ s
    refine wpAny_bind (wpAny_tryCatch (W.done s _ _ (hin ▸ hst) fun h' tk hk' => ?_))
    have hS' := hk' S _ hw hS
    show wpAny _ A.in1 (updateSeq S (fun _ => #[]) >>= _) _ _ _
    refine wpAny_bind ?_
    refine wpAny_updateSeq hS' rfl (wpAny_bind (wpAny_letGo (wpAny_pure ?_)))
    exact hR vb _ tk (by rw [← hin]; exact hPb) fun b o h1 h2 e => (Heap.get?_update_other _ _ (Ne.symm h2)).trans (hk' b o h1 e)
  | succ k ih =>
    intro j s vb c hk hj hst hPb hS hR
    have hlt : j + 1 < n := by omega
    refine codeAny_builtin F.entry_max_loop ?_
    rw [Around.under_plainId F.plain_max_loop _]
    show wpAny _ A.in1 (seqItems? (.ref S) >>= _) _ _ s
    refine wpAny_bind (wpAny_seqItems hS rfl ?_)
    show wpAny _ A.in1 (tryCatch (pyNext (.ref I)) _ >>= _) _ _ s
    refine wpAny_bind (wpAny_tryCatch (W.item (j + 1) s _ _ hlt hst fun v h' tk hP hst' hk' => ?_))
    have hS' := hk' S _ hw hS
    show wpAny _ A.in1 (tryCatch (holding [v, v] (richCompare .Gt v vb >>= _)) _ >>= _) _ _ _
    refine wpAny_bind (wpAny_tryCatch (wpAny_holding (wpAny_bind (hcmp (j + 1) (argBest bt j) v vb _ _ _ hP hPb ?_))))
    refine wpAny_bind (wpAny_holding (wpAny_truthy_bool ?_))
    refine wpAny_bind (wpAny_letGo (wpAny_pure ?_))
    cases hb : bt (j + 1) (argBest bt j) with
    | true =>
      simp only [if_true]
      refine wpAny_bind ?_
      refine wpAny_updateSeq hS' rfl (wpAny_bind (wpAny_letGo ?_))
      rw [nm]
      refine wpAny_pure ⟨plainId_quiet F.plain_max_loop _, ih (j + 1) _ v _ (by omega) hlt (W.frame _ _ _ hst' fun b h1 o e => ?_) (by simp only [argBest, hb, if_true]; exact hP) (Heap.get?_update_self _ hS' rfl)
        fun v' h2 tk2 hP' hk2 => ?_⟩
      · exact (Heap.get?_update_other _ _ (fun h : S = b => hSf (by rw [h]; exact h1))).trans e
      · exact hR v' h2 tk2 hP' fun b o h1 h3 e => hk2 b o h1 h3 ((Heap.get?_update_other _ _ (Ne.symm h3)).trans (hk' b o h1 e))
    | false =>
      simp only [Bool.false_eq_true, if_false]
      refine wpAny_bind (wpAny_letGo ?_)
      rw [nm]
      refine wpAny_pure ⟨plainId_quiet F.plain_max_loop _, ih (j + 1) _ vb c (by omega) hlt hst' (by simp only [argBest, hb, Bool.false_eq_true, if_false]; exact hPb) hS' fun v' h2 tk2 hP' hk2 => ?_⟩
      exact hR v' h2 tk2 hP' fun b o h1 h3 e => hk2 b o h1 h3 (hk' b o h1 e)
/-- from the beginning -/
theorem max_firstD (W : Walks prog w A.in1 I fp wr n P St) (bt : Nat → Nat → Bool) (hcmp : CmpOf prog w A.in1 .Gt P bt) (S : Addr) (hSf : S ∉ fp) {s : Shared} {c : Nat} {dk : Str} {dv : Value} (hst : St 0 s.heap)
    (hS : s.heap.get? S = some { cls := .type "list", dict := none, data := .seq #[] c, slots := #[] })
    (h0 : n = 0 → ∀ h' tk, (∀ b o, b ∉ wr → b ≠ S → s.heap.get? b = some o → h'.get? b = some o) → R (.ok (.ret dv)) { s with heap := h', toks := tk })
    (hR : 0 < n → ∀ v h' tk, P (argBest bt (n - 1)) v → (∀ b o, b ∉ wr → b ≠ S → s.heap.get? b = some o → h'.get? b = some o) → R (.ok (.ret v)) { s with heap := h', toks := tk }) :
    codeAny (model prog w) A (.builtin "max.loop" ⟨[.ref I, .none, .ref S], [(dk, dv)]⟩) R s := by
  have hw : S ∉ wr := fun h => hSf (W.sub _ h)
  have nm : (toString "max" ++ toString ".loop" : String) = "max.loop" := by decide
  refine codeAny_builtin F.entry_max_loop ?_
  rw [Around.under_plainId F.plain_max_loop _]
  show wpAny _ A.in1 (seqItems? (.ref S) >>= _) _ _ s
  refine wpAny_bind (wpAny_seqItems hS rfl ?_)
  show wpAny _ A.in1 (tryCatch (pyNext (.ref I)) _ >>= _) _ _ s
  by_cases hn : n = 0
  · refine wpAny_bind (wpAny_tryCatch (W.done s _ _ (hn ▸ hst) fun h' tk hk' => ?_))
    show wpAny _ A.in1 (rule _ >>= _) _ _ _
    refine wpAny_bind (wpAny_rule ?_)
    exact wpAny_pure (h0 hn h' tk fun b o h1 h2 e => hk' b o h1 e)
  · refine wpAny_bind (wpAny_tryCatch (W.item 0 s _ _ (Nat.pos_of_ne_zero hn) hst fun v h' tk hP hst' hk' => ?_))
    have hS' := hk' S _ hw hS
    show wpAny _ A.in1 (updateSeq S (fun _ => #[v, v]) >>= _) _ _ _
    refine wpAny_bind ?_
    refine wpAny_updateSeq hS' rfl ?_
    rw [nm]
    refine wpAny_pure ⟨plainId_quiet F.plain_max_loop _, max_loopD W bt hcmp S hSf _ _ 0 _ v _ rfl (Nat.pos_of_ne_zero hn) (W.frame _ _ _ hst' fun b h1 o e => ?_) hP (Heap.get?_update_self _ hS' rfl) fun v' h2 tk2 hP' hk2 => ?_⟩
    · exact (Heap.get?_update_other _ _ (fun h : S = b => hSf (by rw [h]; exact h1))).trans e
    · exact hR (Nat.pos_of_ne_zero hn) v' h2 tk2 hP' fun b o h1 h3 e => hk2 b o h1 h3 ((Heap.get?_update_other _ _ (Ne.symm h3)).trans (hk' b o h1 e))
end
section
variable {prog : Program} {w : World} {A : Around} {E : Value → Shared → Prop} {s : Shared}
theorem args_maxD (a d : Value) : argsOk "max" ⟨[a], [("default", d)]⟩ := by unfold argsOk; kernel_rfl
theorem call_maxD {x dv : Value} {Q : Value → Shared → Prop}
    (h : wpAny (model prog w) A.in1 (pyIter x) (fun it s₂ => ∃ I fp wr n P St bt, it = .ref I ∧ Walks prog w A.in1 I fp wr n P St ∧ St 0 s₂.heap ∧ (∀ b ∈ fp, b < s₂.heap.objs.size) ∧ CmpOf prog w A.in1 .Gt P bt ∧
      (n = 0 → ∀ h' tk, (∀ b o, b ∉ wr → s₂.heap.get? b = some o → h'.get? b = some o) → Q dv { s₂ with heap := h', toks := tk }) ∧
      (0 < n → ∀ v h' tk, P (argBest bt (n - 1)) v → (∀ b o, b ∉ wr → s₂.heap.get? b = some o → h'.get? b = some o) → Q v { s₂ with heap := h', toks := tk })) E s) :
    wpAny (model prog w) A (call (.builtin "max") [x] [("default", dv)]) Q E s := by
  have nm : (toString "max" ++ toString ".loop" : String) = "max.loop" := by decide
  refine call_function_treeK F.kind_max F.plain_max F.entry_max (args_maxD _ _) ?_
  show wpAny _ A.in1 (Builtin.Builtins.bindParams "max" ["key", "default"] 0 ⟨[], [("default", dv)]⟩ >>= _) _ _ s
  refine wpAny_bind (wpAny_of_eq (show Builtin.Builtins.bindParams "max" ["key", "default"] 0 ⟨[], [("default", dv)]⟩ = pure [none, some dv] from rfl) ?_)
  refine wpAny_bind (wpAny_pure ?_)
  refine wpAny_bind (wpAny_mono h (fun it s₂ h₂ => ?_) fun _ _ e => e)
  obtain ⟨I, fp, wr, n, P, St, bt, rfl, W, hst, hfp, hcmp, hQ0, hQ⟩ := h₂
  refine wpAny_bind (wpAny_newObj_type ?_)
  have hSf : s₂.heap.objs.size ∉ fp := fun hm => Nat.lt_irrefl _ (hfp _ hm)
  rw [nm]
  refine wpAny_pure ⟨plainId_quiet F.plain_max_loop _, max_firstD W bt hcmp s₂.heap.objs.size hSf (W.frame _ _ _ hst fun b _ o e => Heap.get?_push_of_some _ e) (Heap.get?_push_size _ rfl) (fun h0 h' tk hk => ?_) fun hp v h' tk hP hk => ?_⟩
  · exact hQ0 h0 h' tk fun b o h1 e => hk b o h1 (Nat.ne_of_lt (Heap.lt_size e)) (Heap.get?_push_of_some _ e)
  · exact hQ hp v h' tk hP fun b o h1 e => hk b o h1 (Nat.ne_of_lt (Heap.lt_size e)) (Heap.get?_push_of_some _ e)
theorem max_intsD {xs : Array (Int × Tok)} {l : Addr} {dv : Value} {Q : Value → Shared → Prop} (hh : A.handled = none) (hl : s.heap.IsList l (intItems xs))
    (h0 : xs.size = 0 → ∀ h' tk, (∀ b o, s.heap.get? b = some o → h'.get? b = some o) → Q dv { s with heap := h', toks := tk })
    (h : 0 < xs.size → ∀ v h' tk, (intItems xs)[argBest (fun i j => decide (numAt xs i > numAt xs j)) (xs.size - 1)]? = some v → (∀ b o, s.heap.get? b = some o → h'.get? b = some o) → Q v { s with heap := h', toks := tk }) :
    wpAny (model prog w) A (call (.builtin "max") [.ref l] [("default", dv)]) Q E s := by
  refine call_maxD (iter_intList hl fun s₂ e st hfp hlI => ?_)
  subst e
  refine ⟨_, _, _, _, _, _, _, rfl, Walks.list (A := A.in1) hh _ l hlI (intItems xs), st, hfp, CmpOf.ints_gt (numAt xs) (fun _ _ => intItems_at), fun hz h' tk hk => ?_, fun hp v h' tk hP hk => ?_⟩
  · exact h0 (by simpa [intItems] using hz) h' tk (old_kept hk)
  · exact h (by simpa [intItems] using hp) v h' tk (by simpa [intItems] using hP) (old_kept hk)
theorem max_rawD {l : Addr} {its : List Value} {ns : List Int} {dv : Value} {Q : Value → Shared → Prop} (hh : A.handled = none) (hl : s.heap.IsList l its.toArray) (hi : IntsAre its ns)
    (h0 : ns = [] → ∀ h' tk, (∀ b o, s.heap.get? b = some o → h'.get? b = some o) → Q dv { s with heap := h', toks := tk })
    (h : ∀ h' tk M t', (∀ b o, s.heap.get? b = some o → h'.get? b = some o) → M ∈ ns → (∀ a, a ∈ ns → a ≤ M) → Q (.int M t') { s with heap := h', toks := tk }) : wpAny (model prog w) A (call (.builtin "max") [.ref l] [("default", dv)]) Q E s := by
  obtain ⟨xs, e⟩ := hi.allInts.items
  have hn : numsOf (intItems xs).toList = ns := by rw [← e]; exact hi.numsOf
  rw [nums_intItems] at hn
  subst hn
  rw [e] at hl
  refine max_intsD hh hl (fun hz h' tk hk => h0 ?_ h' tk hk) fun hp v h' tk hv hk => ?_
  · rw [List.eq_nil_iff_length_eq_zero]
    simpa using hz
  obtain ⟨t, rfl⟩ := intItems_at hv
  obtain ⟨h1, h2⟩ := argBest_gt (numAt xs) (xs.size - 1)
  refine h h' tk _ t hk ?_ fun a ha => ?_
  · rw [numAt_eq]; exact PySem.getD_mem (by rw [List.length_map, Array.length_toList]; omega)
  · obtain ⟨j, hj, rfl⟩ := mem_getD ha
    rw [List.length_map, Array.length_toList] at hj
    rw [← numAt_eq]; exact h2 j (by omega)
end
def rmaxD (K : PySem.W.Frag) : List V → List V → Hp → VK → Prop := fun vs zs H Q => ∃ (a : Addr) (ns : List Int) (d : V), vs = [V.ref a] ∧ zs = [d] ∧ SqL K H a (ns.map V.int) ∧ (ns = [] → Q d H) ∧ ∀ m, m ∈ ns → (∀ y, y ∈ ns → y ≤ m) → Q (.int m) H
theorem cr_maxD {X : Cx} (hc : X.calm = true) : CallRK X (.builtin "max") [Str.ofString "default"] (rmaxD X.K) := by
  intro pins s σ H vs zs us ws Q I r rz h
  obtain ⟨a, ns, d, rfl, rfl, hs, q0, q⟩ := h
  obtain ⟨its, rv, hl, _⟩ := I.list hs
  rw [Vals.ref1 r]
  obtain ⟨w1, rfl, e1⟩ := vals1 rz
  exact max_rawD (I.ok.hd hc) hl.isList rv.ints (fun h0 h' tk hk => ⟨d, H, I.kept hk, e1, q0 h0⟩) fun h' tk m t' hk h1 h2 => ⟨.int _, H, I.kept hk, ⟨_, rfl⟩, q m h1 h2⟩
section
variable {prog : Program} {w : World} {A : Around} {R : Result → Shared → Prop} {I : Addr} {fp wr : List Addr} {n : Nat} {P : Nat → Value → Prop} {St : Nat → Heap → Prop}
/-- the loop of min with what is told of nothing -/
theorem min_loopD (W : Walks prog w A.in1 I fp wr n P St) (bt : Nat → Nat → Bool) (hcmp : CmpOf prog w A.in1 .Lt P bt) (S : Addr) (hSf : S ∉ fp) (kw : List (Str × Value)) :
    ∀ (k j : Nat) (s : Shared) (vb : Value) (c : Nat), n - (j + 1) = k → j + 1 ≤ n → St (j + 1) s.heap → P (argBest bt j) vb →
    s.heap.get? S = some { cls := .type "list", dict := none, data := .seq #[vb, vb] c, slots := #[] } →
    (∀ v h' tk, P (argBest bt (n - 1)) v → (∀ b o, b ∉ wr → b ≠ S → s.heap.get? b = some o → h'.get? b = some o) → R (.ok (.ret v)) { s with heap := h', toks := tk }) →
    codeAny (model prog w) A (.builtin "min.loop" ⟨[.ref I, .none, .ref S], kw⟩) R s := by
  have hw : S ∉ wr := fun h => hSf (W.sub _ h)
  have nm : (toString "min" ++ toString ".loop" : String) = "min.loop" := by decide
  intro k
  induction k with
  | zero =>
    intro j s vb c hk hj hst hPb hS hR
    have hin : j + 1 = n := by omega
    refine codeAny_builtin F.entry_min_loop ?_
    rw [Around.under_plainId F.plain_min_loop _]
    show wpAny _ A.in1 (seqItems? (.ref S) >>= _) _ _ s
    refine wpAny_bind (wpAny_seqItems hS rfl ?_)
    show wpAny _ A.in1 (tryCatch (pyNext (.ref I)) _ >>= _) _ _ s
    refine wpAny_bind (wpAny_tryCatch (W.done s _ _ (hin ▸ hst) fun h' tk hk' => ?_))
    have hS' := hk' S _ hw hS
    show wpAny _ A.in1 (updateSeq S (fun _ => #[]) >>= _) _ _ _
    refine wpAny_bind ?_
    refine wpAny_updateSeq hS' rfl (wpAny_bind (wpAny_letGo (wpAny_pure ?_)))
    exact hR vb _ tk (by rw [← hin]; exact hPb) fun b o h1 h2 e => (Heap.get?_update_other _ _ (Ne.symm h2)).trans (hk' b o h1 e)
  | succ k ih =>
    intro j s vb c hk hj hst hPb hS hR
    have hlt : j + 1 < n := by omega
    refine codeAny_builtin F.entry_min_loop ?_
    rw [Around.under_plainId F.plain_min_loop _]
    show wpAny _ A.in1 (seqItems? (.ref S) >>= _) _ _ s
    refine wpAny_bind (wpAny_seqItems hS rfl ?_)
    show wpAny _ A.in1 (tryCatch (pyNext (.ref I)) _ >>= _) _ _ s
    refine wpAny_bind (wpAny_tryCatch (W.item (j + 1) s _ _ hlt hst fun v h' tk hP hst' hk' => ?_))
    have hS' := hk' S _ hw hS
    show wpAny _ A.in1 (tryCatch (holding [v, v] (richCompare .Lt v vb >>= _)) _ >>= _) _ _ _
    refine wpAny_bind (wpAny_tryCatch (wpAny_holding (wpAny_bind (hcmp (j + 1) (argBest bt j) v vb _ _ _ hP hPb ?_))))
    refine wpAny_bind (wpAny_holding (wpAny_truthy_bool ?_))
    refine wpAny_bind (wpAny_letGo (wpAny_pure ?_))
    cases hb : bt (j + 1) (argBest bt j) with
    | true =>
      simp only [if_true]
      refine wpAny_bind ?_
      refine wpAny_updateSeq hS' rfl (wpAny_bind (wpAny_letGo ?_))
      rw [nm]
      refine wpAny_pure ⟨plainId_quiet F.plain_min_loop _, ih (j + 1) _ v _ (by omega) hlt (W.frame _ _ _ hst' fun b h1 o e => ?_) (by simp only [argBest, hb, if_true]; exact hP) (Heap.get?_update_self _ hS' rfl)
        fun v' h2 tk2 hP' hk2 => ?_⟩
      · exact (Heap.get?_update_other _ _ (fun h : S = b => hSf (by rw [h]; exact h1))).trans e
      · exact hR v' h2 tk2 hP' fun b o h1 h3 e => hk2 b o h1 h3 ((Heap.get?_update_other _ _ (Ne.symm h3)).trans (hk' b o h1 e))
    | false =>
      simp only [Bool.false_eq_true, if_false]
      refine wpAny_bind (wpAny_letGo ?_)
      rw [nm]
      refine wpAny_pure ⟨plainId_quiet F.plain_min_loop _, ih (j + 1) _ vb c (by omega) hlt hst' (by simp only [argBest, hb, Bool.false_eq_true, if_false]; exact hPb) hS' fun v' h2 tk2 hP' hk2 => ?_⟩
      exact hR v' h2 tk2 hP' fun b o h1 h3 e => hk2 b o h1 h3 (hk' b o h1 e)
/-- from the beginning -/
theorem min_firstD (W : Walks prog w A.in1 I fp wr n P St) (bt : Nat → Nat → Bool) (hcmp : CmpOf prog w A.in1 .Lt P bt) (S : Addr) (hSf : S ∉ fp) {s : Shared} {c : Nat} {dk : Str} {dv : Value} (hst : St 0 s.heap)
    (hS : s.heap.get? S = some { cls := .type "list", dict := none, data := .seq #[] c, slots := #[] })
    (h0 : n = 0 → ∀ h' tk, (∀ b o, b ∉ wr → b ≠ S → s.heap.get? b = some o → h'.get? b = some o) → R (.ok (.ret dv)) { s with heap := h', toks := tk })
    (hR : 0 < n → ∀ v h' tk, P (argBest bt (n - 1)) v → (∀ b o, b ∉ wr → b ≠ S → s.heap.get? b = some o → h'.get? b = some o) → R (.ok (.ret v)) { s with heap := h', toks := tk }) :
    codeAny (model prog w) A (.builtin "min.loop" ⟨[.ref I, .none, .ref S], [(dk, dv)]⟩) R s := by
  have hw : S ∉ wr := fun h => hSf (W.sub _ h)
  have nm : (toString "min" ++ toString ".loop" : String) = "min.loop" := by decide
  refine codeAny_builtin F.entry_min_loop ?_
  rw [Around.under_plainId F.plain_min_loop _]
  show wpAny _ A.in1 (seqItems? (.ref S) >>= _) _ _ s
  refine wpAny_bind (wpAny_seqItems hS rfl ?_)
  show wpAny _ A.in1 (tryCatch (pyNext (.ref I)) _ >>= _) _ _ s
  by_cases hn : n = 0
  · refine wpAny_bind (wpAny_tryCatch (W.done s _ _ (hn ▸ hst) fun h' tk hk' => ?_))
    show wpAny _ A.in1 (rule _ >>= _) _ _ _
    refine wpAny_bind (wpAny_rule ?_)
    exact wpAny_pure (h0 hn h' tk fun b o h1 h2 e => hk' b o h1 e)
  · refine wpAny_bind (wpAny_tryCatch (W.item 0 s _ _ (Nat.pos_of_ne_zero hn) hst fun v h' tk hP hst' hk' => ?_))
    have hS' := hk' S _ hw hS
    show wpAny _ A.in1 (updateSeq S (fun _ => #[v, v]) >>= _) _ _ _
    refine wpAny_bind ?_
    refine wpAny_updateSeq hS' rfl ?_
    rw [nm]
    refine wpAny_pure ⟨plainId_quiet F.plain_min_loop _, min_loopD W bt hcmp S hSf _ _ 0 _ v _ rfl (Nat.pos_of_ne_zero hn) (W.frame _ _ _ hst' fun b h1 o e => ?_) hP (Heap.get?_update_self _ hS' rfl) fun v' h2 tk2 hP' hk2 => ?_⟩
    · exact (Heap.get?_update_other _ _ (fun h : S = b => hSf (by rw [h]; exact h1))).trans e
    · exact hR (Nat.pos_of_ne_zero hn) v' h2 tk2 hP' fun b o h1 h3 e => hk2 b o h1 h3 ((Heap.get?_update_other _ _ (Ne.symm h3)).trans (hk' b o h1 e))
end
section
variable {prog : Program} {w : World} {A : Around} {E : Value → Shared → Prop} {s : Shared}
theorem args_minD (a d : Value) : argsOk "min" ⟨[a], [("default", d)]⟩ := by unfold argsOk; kernel_rfl
theorem call_minD {x dv : Value} {Q : Value → Shared → Prop}
    (h : wpAny (model prog w) A.in1 (pyIter x) (fun it s₂ => ∃ I fp wr n P St bt, it = .ref I ∧ Walks prog w A.in1 I fp wr n P St ∧ St 0 s₂.heap ∧ (∀ b ∈ fp, b < s₂.heap.objs.size) ∧ CmpOf prog w A.in1 .Lt P bt ∧
      (n = 0 → ∀ h' tk, (∀ b o, b ∉ wr → s₂.heap.get? b = some o → h'.get? b = some o) → Q dv { s₂ with heap := h', toks := tk }) ∧
      (0 < n → ∀ v h' tk, P (argBest bt (n - 1)) v → (∀ b o, b ∉ wr → s₂.heap.get? b = some o → h'.get? b = some o) → Q v { s₂ with heap := h', toks := tk })) E s) :
    wpAny (model prog w) A (call (.builtin "min") [x] [("default", dv)]) Q E s := by
  have nm : (toString "min" ++ toString ".loop" : String) = "min.loop" := by decide
  refine call_function_treeK F.kind_min F.plain_min F.entry_min (args_minD _ _) ?_
  show wpAny _ A.in1 (Builtin.Builtins.bindParams "min" ["key", "default"] 0 ⟨[], [("default", dv)]⟩ >>= _) _ _ s
  refine wpAny_bind (wpAny_of_eq (show Builtin.Builtins.bindParams "min" ["key", "default"] 0 ⟨[], [("default", dv)]⟩ = pure [none, some dv] from rfl) ?_)
  refine wpAny_bind (wpAny_pure ?_)
  refine wpAny_bind (wpAny_mono h (fun it s₂ h₂ => ?_) fun _ _ e => e)
  obtain ⟨I, fp, wr, n, P, St, bt, rfl, W, hst, hfp, hcmp, hQ0, hQ⟩ := h₂
  refine wpAny_bind (wpAny_newObj_type ?_)
  have hSf : s₂.heap.objs.size ∉ fp := fun hm => Nat.lt_irrefl _ (hfp _ hm)
  rw [nm]
  refine wpAny_pure ⟨plainId_quiet F.plain_min_loop _, min_firstD W bt hcmp s₂.heap.objs.size hSf (W.frame _ _ _ hst fun b _ o e => Heap.get?_push_of_some _ e) (Heap.get?_push_size _ rfl) (fun h0 h' tk hk => ?_) fun hp v h' tk hP hk => ?_⟩
  · exact hQ0 h0 h' tk fun b o h1 e => hk b o h1 (Nat.ne_of_lt (Heap.lt_size e)) (Heap.get?_push_of_some _ e)
  · exact hQ hp v h' tk hP fun b o h1 e => hk b o h1 (Nat.ne_of_lt (Heap.lt_size e)) (Heap.get?_push_of_some _ e)
theorem min_intsD {xs : Array (Int × Tok)} {l : Addr} {dv : Value} {Q : Value → Shared → Prop} (hh : A.handled = none) (hl : s.heap.IsList l (intItems xs))
    (h0 : xs.size = 0 → ∀ h' tk, (∀ b o, s.heap.get? b = some o → h'.get? b = some o) → Q dv { s with heap := h', toks := tk })
    (h : 0 < xs.size → ∀ v h' tk, (intItems xs)[argBest (fun i j => decide (numAt xs i < numAt xs j)) (xs.size - 1)]? = some v → (∀ b o, s.heap.get? b = some o → h'.get? b = some o) → Q v { s with heap := h', toks := tk }) :
    wpAny (model prog w) A (call (.builtin "min") [.ref l] [("default", dv)]) Q E s := by
  refine call_minD (iter_intList hl fun s₂ e st hfp hlI => ?_)
  subst e
  refine ⟨_, _, _, _, _, _, _, rfl, Walks.list (A := A.in1) hh _ l hlI (intItems xs), st, hfp, CmpOf.ints_lt (numAt xs) (fun _ _ => intItems_at), fun hz h' tk hk => ?_, fun hp v h' tk hP hk => ?_⟩
  · exact h0 (by simpa [intItems] using hz) h' tk (old_kept hk)
  · exact h (by simpa [intItems] using hp) v h' tk (by simpa [intItems] using hP) (old_kept hk)
theorem min_rawD {l : Addr} {its : List Value} {ns : List Int} {dv : Value} {Q : Value → Shared → Prop} (hh : A.handled = none) (hl : s.heap.IsList l its.toArray) (hi : IntsAre its ns)
    (h0 : ns = [] → ∀ h' tk, (∀ b o, s.heap.get? b = some o → h'.get? b = some o) → Q dv { s with heap := h', toks := tk })
    (h : ∀ h' tk M t', (∀ b o, s.heap.get? b = some o → h'.get? b = some o) → M ∈ ns → (∀ a, a ∈ ns → M ≤ a) → Q (.int M t') { s with heap := h', toks := tk }) : wpAny (model prog w) A (call (.builtin "min") [.ref l] [("default", dv)]) Q E s := by
  obtain ⟨xs, e⟩ := hi.allInts.items
  have hn : numsOf (intItems xs).toList = ns := by rw [← e]; exact hi.numsOf
  rw [nums_intItems] at hn
  subst hn
  rw [e] at hl
  refine min_intsD hh hl (fun hz h' tk hk => h0 ?_ h' tk hk) fun hp v h' tk hv hk => ?_
  · rw [List.eq_nil_iff_length_eq_zero]
    simpa using hz
  obtain ⟨t, rfl⟩ := intItems_at hv
  obtain ⟨h1, h2⟩ := argBest_lt (numAt xs) (xs.size - 1)
  refine h h' tk _ t hk ?_ fun a ha => ?_
  · rw [numAt_eq]; exact PySem.getD_mem (by rw [List.length_map, Array.length_toList]; omega)
  · obtain ⟨j, hj, rfl⟩ := mem_getD ha
    rw [List.length_map, Array.length_toList] at hj
    rw [← numAt_eq]; exact h2 j (by omega)
end
def rminD (K : PySem.W.Frag) : List V → List V → Hp → VK → Prop := fun vs zs H Q => ∃ (a : Addr) (ns : List Int) (d : V), vs = [V.ref a] ∧ zs = [d] ∧ SqL K H a (ns.map V.int) ∧ (ns = [] → Q d H) ∧ ∀ m, m ∈ ns → (∀ y, y ∈ ns → m ≤ y) → Q (.int m) H
theorem cr_minD {X : Cx} (hc : X.calm = true) : CallRK X (.builtin "min") [Str.ofString "default"] (rminD X.K) := by
  intro pins s σ H vs zs us ws Q I r rz h
  obtain ⟨a, ns, d, rfl, rfl, hs, q0, q⟩ := h
  obtain ⟨its, rv, hl, _⟩ := I.list hs
  rw [Vals.ref1 r]
  obtain ⟨w1, rfl, e1⟩ := vals1 rz
  exact min_rawD (I.ok.hd hc) hl.isList rv.ints (fun h0 h' tk hk => ⟨d, H, I.kept hk, e1, q0 h0⟩) fun h' tk m t' hk h1 h2 => ⟨.int _, H, I.kept hk, ⟨_, rfl⟩, q m h1 h2⟩

/-! ### the expression -/
def mxF (b : Bool) : Str := if b then "max" else "min"
def mxI (b : Bool) (ns : List Int) : Int := if b then maxI ns else minI ns
/-- what is told of a list, y of an empty one -/
def mx1 (b : Bool) (x y : D) (Q : D → Prop) : Prop := match x with
  | .lst ds => (y = .non ∨ ∃ i, y = .int i) ∧ ∃ ns : List Int, ds = ns.map D.int ∧ Q (if ns = [] then y else .int (mxI b ns))
  | _ => False
theorem mx1_mono {b : Bool} {x y : D} {Q Q' : D → Prop} (h : mx1 b x y Q) (m : ∀ d, Q d → Q' d) : mx1 b x y Q' := by
  cases x with
  | lst ds =>
    obtain ⟨hy, ns, e, h⟩ := h
    exact ⟨hy, ns, e, m _ h⟩
  | _ => exact h.elim
@[simp] theorem mx1_l {b : Bool} {ds : List D} {y : D} {Q : D → Prop} : mx1 b (.lst ds) y Q = ((y = .non ∨ ∃ i, y = .int i) ∧ ∃ ns : List Int, ds = ns.map D.int ∧ Q (if ns = [] then y else .int (mxI b ns))) := rfl
def lookMx (c : Ctx) (b : Bool) (a d : E) : Expr → Bool
  | .Call (.Name x _) [y] [⟨some k, z, _⟩] _ => decide (x = mxF b) && decide (k = ("default" : Str)) && glB c.sc x && notStar y && matchE c false a y && matchE c false d z
  | _ => false
def mxd (b : Bool) (a d : E) : E := .raw (fun c x => lookMx c b a d x) (fun env Q => semE a env fun x => semE d env fun y => mx1 b x y Q) (a.vars ++ d.vars) false
@[simp] theorem mxd_mono {b : Bool} {a d : E} (ma : a.monos) (md : d.monos) : (mxd b a d).monos := fun env Q Q' h m => (sem_mono a ma).1 _ _ _ h fun x h => (sem_mono d md).1 _ _ _ h fun y h => mx1_mono h m
@[simp] theorem sem_mxd {b : Bool} {a d : E} {env : DEnv} {Q : D → Prop} : semE (mxd b a d) env Q = semE a env fun x => semE d env fun y => mx1 b x y Q := rfl
@[simp] theorem mxd_isNil {b : Bool} {a d : E} : (mxd b a d).isNil = false := rfl
@[simp] theorem mxd_fresh {b : Bool} {a d : E} : (mxd b a d).fresh = false := rfl
@[simp] theorem mxd_vars {b : Bool} {a d : E} : (mxd b a d).vars = a.vars ++ d.vars := rfl
theorem mxI_of {b : Bool} {ns : List Int} {m : Int} (h1 : m ∈ ns) (h2 : ∀ y, y ∈ ns → if b then y ≤ m else m ≤ y) : (if ns = [] then D.non else .int (mxI b ns)) = .int m ∧ ns ≠ [] ∧ mxI b ns = m := by
  have hn : ns ≠ [] := fun z => by rw [z] at h1; cases h1
  have e : mxI b ns = m := by
    cases b with
    | true =>
      obtain ⟨a, c⟩ := maxI_mem hn
      exact Int.le_antisymm (h2 _ a) (c m h1)
    | false =>
      obtain ⟨a, c⟩ := minI_mem hn
      exact Int.le_antisymm (c m h1) (h2 _ a)
  rw [if_neg hn, e]
  exact ⟨rfl, hn, rfl⟩
theorem mxd_need {g : Gx} {b : Bool} {a d : E} (ma : a.monos) (md : d.monos) (na : Need g a) (nd : Need g d) (hs : NoG g (mxF b)) : Need g (mxd b a d) := by
  intro X c x hg ok m
  replace m : lookMx c b a d x = true := m
  subst hg
  unfold lookMx at m
  split at m
  · rename_i f p y k z p3 pos
    simp only [Bool.and_eq_true, decide_eq_true_eq] at m
    obtain ⟨⟨⟨⟨⟨rfl, rfl⟩, g5⟩, ns⟩, m5⟩, m6⟩ := m
    obtain ⟨g1, g2, g3⟩ := gl_of ok g5
    have A := (sound a ma).get ok na m5
    have B := (sound d md).get ok nd m6
    have key : ∀ (r : List V → List V → Hp → VK → Prop) (hr : ∀ vs zs H Q, (∃ (a : Addr) (ns : List Int) (d : V), vs = [V.ref a] ∧ zs = [d] ∧ SqL X.K H a (ns.map V.int) ∧ (ns = [] → Q d H) ∧ ∀ m, m ∈ ns → (∀ y, y ∈ ns → if b then y ≤ m else m ≤ y) → Q (.int m) H) → r vs zs H Q)
        (σ : L2.St) (H : Hp) (Q : VK), liftE X.K (mxd b a d) σ H Q → tCKw r (tCons (liftE X.K a) tNil) (tCons (liftE X.K d) tNil) σ H Q := fun r hr σ H Q q => by
      obtain ⟨T, env, O, k, rp, q⟩ := q
      refine lift1 ma k rp.l q fun x v H1 e1 k1 hd q1 => ?_
      refine lift1 md k1 (rp.r.ext k e1) q1 fun y w H2 e2 k2 hd2 q2 => ?_
      clear q q1
      refine hr _ _ _ _ ?_
      cases x with
      | lst ds =>
        obtain ⟨hy, ns, rfl, q⟩ := q2
        have q := post.ext (fr := false) (e1.trans e2) k2.tape q
        obtain ⟨a, xs, rfl, hq, z, hs⟩ := dat_lst (hd.le (k1.res e2))
        cases hs.ints
        refine ⟨a, ns, w, rfl, rfl, SqL.of (res_le _ _ _ _ hq), fun h0 => ?_, fun m h1 h2 => ?_⟩
        · rw [if_pos h0] at q
          rcases hy with rfl | ⟨i, rfl⟩
          · cases (show w = .non from hd2)
            exact post.non k2 q
          · cases dat_int hd2
            exact post.int k2 q
        · obtain ⟨_, hn, e⟩ := mxI_of (b := b) h1 h2
          rw [if_neg hn, e] at q
          exact post.int k2 q
      | _ => exact q2.elim
    cases b with
    | true => exact rawNeed (mxd_mono ma md) (PE.imp (pe_callBK (cr_maxD ok.calm) g1 hs (by decide +kernel) (pa_cons A.pe pa_nil (star_of ns)) (pk_cons B.pe pk_nil) (by decide) (by decide) (by rw [star_of ns]; rfl) (by rw [star_of ns]; rfl)) (key _ fun vs zs H Q ⟨a, ns, d, h1, h2, h3, h4, h5⟩ => ⟨a, ns, d, h1, h2, h3, h4, fun m a b => h5 m a fun y hy => b y hy⟩)) (fun _ => rfl) fun _ _ _ z => nomatch z
    | false => exact rawNeed (mxd_mono ma md) (PE.imp (pe_callBK (cr_minD ok.calm) g1 hs (by decide +kernel) (pa_cons A.pe pa_nil (star_of ns)) (pk_cons B.pe pk_nil) (by decide) (by decide) (by rw [star_of ns]; rfl) (by rw [star_of ns]; rfl)) (key _ fun vs zs H Q ⟨a, ns, d, h1, h2, h3, h4, h5⟩ => ⟨a, ns, d, h1, h2, h3, h4, fun m a b => h5 m a fun y hy => b y hy⟩)) (fun _ => rfl) fun _ _ _ z => nomatch z
  · cases m
end DL

set_option Elab.async false
set_option linter.all false
set_option maxRecDepth 100000
set_option maxHeartbeats 4000000
/-! DL34: a, b = (x, y) where one of the names is read by a comprehension. -/
namespace DL
open PySem PySem.Spec PyProof.Rows L2

def cellB (c : Ctx) : List Expr → Bool
  | [.Name x _, .Name y _] => !(decide (c.sc.names.lookup x = some .local) && decide (c.sc.names.lookup y = some .local))
  | _ => false
def lookU (c : Ctx) (tg e : E) (st : Stmt) : Bool := match vAsgT st with
  | some (ts, k, p, v, _) => cellB c ts && matchT c tg (.Tuple ts k p) && matchE c false e v
  | none => false
def asgU (tg e : E) : S := .raw (fun c st => lookU c tg e st) (fun en env => semS (.asgT tg e) en env)
@[simp] theorem asgU_mono {tg e : E} (me : e.monos) : (asgU tg e).monos := fun p q le env h => semS_mono (.asgT tg e) me p q le env h
@[simp] theorem semS_asgU {tg e : E} {en : DEnds} {env : DEnv} : semS (asgU tg e) en env = semS (.asgT tg e) en env := rfl
theorem swapped_no {X : Cx} {x y : Str} {px py p : Pos} {k : Nat} {v : Expr} (h : ¬ (X.env.scope.names.lookup x = some .local ∧ X.env.scope.names.lookup y = some .local)) :
    swappedStores [.Tuple [.Name x px, .Name y py] k p] v X.env = pure none := by
  have kx : X.env.kindOf x = X.env.scope.names.lookup x := rfl
  have ky : X.env.kindOf y = X.env.scope.names.lookup y := rfl
  cases v <;> try rfl
  rename_i vs k2 p2
  have hl : ([Expr.Name x px, Expr.Name y py].filterMap fun
    | .Name id pos => if X.env.kindOf id == some .local && pos.line == px.line then some id else none
    | _ => none).length ≠ 2 := by
    rw [List.filterMap_cons, List.filterMap_cons, List.filterMap_nil]
    simp only [kx, ky]
    by_cases hx : X.env.scope.names.lookup x = some .local
    · have hy : ¬ X.env.scope.names.lookup y = some .local := fun z => h ⟨hx, z⟩
      rw [show (X.env.scope.names.lookup y == some .local) = false by simpa using hy]
      simp
      split <;> simp
    · rw [show (X.env.scope.names.lookup x == some .local) = false by simpa using hx]
      simp
      split <;> simp
  unfold swappedStores
  simp only []
  generalize hg : ([Expr.Name x px, Expr.Name y py].filterMap fun
    | .Name id pos => if X.env.kindOf id == some .local && pos.line == px.line then some id else none
    | _ => none) = l at hl
  have e : (l.length != [Expr.Name x px, Expr.Name y py].length) = true := by simpa using hl
  show (if _ then _ else _) = _
  split
  · rfl
  · show (if _ then _ else _) = _
    split
    · rfl
    · show (if (([Expr.Name x px, Expr.Name y py].filterMap fun
        | .Name id pos => if X.env.kindOf id == some .local && pos.line == px.line then some id else none
        | _ => none).length != [Expr.Name x px, Expr.Name y py].length || _) = true then _ else _) = _
      rw [hg, e, Bool.true_or, if_pos rfl]
@[simp] theorem asgU_need {g : Gx} {tg e : E} (me : e.monos) (ne : Need g e) : NeedS g (asgU tg e) := by
  intro X c st hg ok hp hk m
  replace m : lookU c tg e st = true := m
  subst hg
  unfold lookU at m
  split at m
  · rename_i ts k p v pos h
    cases vAsgT_eq h
    simp only [Bool.and_eq_true] at m
    obtain ⟨⟨m1, m2⟩, m3⟩ := m
    have A := (sound e me).get ok ne m3
    refine PS.imp (ps_asg A.pe (pg_of ok tg _ m2) ?_ ?_ rfl) fun D σ H q => asgT_read me q
    · cases v <;> rfl
    · unfold cellB at m1
      split at m1
      · rename_i x px y py
        refine swapped_no fun z => ?_
        rw [← ok.sc] at m1
        rw [decide_eq_true z.1, decide_eq_true z.2] at m1
        cases m1
      · cases m1
  · cases m
/-- two names, by what is read -/
theorem st_parU {i j : Nat} {x y : E} {r : S} {en : DEnds} {env : DEnv} (P Q : D → Prop) (mx : x.monos) (my : y.monos) (hx : semE x env P) (hy : semE y env Q) (hij : i ≠ j)
    (nx : ∀ d d', P d → Q d' → ∀ env', env'.length = env.length → (∀ k, i ≠ k → j ≠ k → rdv env' k = rdv env k) → (i < env.length → rdv env' i = some d) → (j < env.length → rdv env' j = some d') → semS r en env') :
    semS (.cons (asgU (.tup (.cons (.var i) (.cons (.var j) .nil))) (.tup (.cons x (.cons y .nil)))) r) en env := by
  show semE (.tup (.cons x (.cons y .nil))) env fun d => bindT (aft (.tup (.cons x (.cons y .nil))) d env) (.tup (.cons (.var i) (.cons (.var j) .nil))) d (semS r en)
  simp only [sem_tup, sems_cons, sems_nil]
  refine sem_le mx hx fun d h => sem_le my hy fun d' h' => ?_
  show semS r en (((aft _ (.tup [d, d']) env).set i (.sh d)).set j (.sh d'))
  exact nx d d' h h' _ (by rw [List.length_set, List.length_set, aft_len]) (fun k h1 h2 => by rw [rdv_set_ne h2, rdv_set_ne h1, aft_rdv]) (fun hi => by rw [rdv_set_ne (Ne.symm hij), rdv_set_eq (by rw [aft_len]; exact hi)]; rfl) (fun hj => by rw [rdv_set_eq (by rw [List.length_set, aft_len]; exact hj)]; rfl)
end DL

set_option Elab.async false
set_option linter.all false
set_option maxRecDepth 100000
set_option maxHeartbeats 4000000
/-! DL35: sorted(set(xs)) of a list or a tuple of texts, or of ints. -/
namespace DL
open PySem PySem.Spec PyProof.Rows L2

section
variable {P : Program} {w : World} {K : Type} [DecidableEq K]
/-- a member of a set, k its key -/
def GoodG (knd : KeyKind P w K) (e : Int × Value) (k : K) : Prop := knd.is k e.2 = true ∧ e.1 = knd.hash k ∧ e.2.scannable = true
/-- the set at a, its members the keys ks; its table rises and can be walked -/
def SetG (knd : KeyKind P w K) (kf : Value → K) (h : Heap) (a : Addr) (ks : List K) : Prop :=
  ∃ o es ep t, h.get? a = some o ∧ o.ExactSet ∧ o.data = .set es ep t ∧ (∀ e ∈ es.toList, ∃ k, GoodG knd e k) ∧ (es.toList.map fun e => kf e.2).Nodup ∧ (∀ k, k ∈ (es.toList.map fun e => kf e.2) ↔ k ∈ ks) ∧
    es.size < scanBound ∧ t.fits es.size = true ∧ es.size ≤ ks.length ∧ Ris t.place.toList ∧ (w.params.followText "set-order" = true ∨ t.led = true)
variable {knd : KeyKind P w K} {kf : Value → K}
theorem SetG.at {h h' : Heap} {a : Addr} {ks : List K} (R : SetG knd kf h a ks) (k : ∀ o, h.get? a = some o → h'.get? a = some o) : SetG knd kf h' a ks := by
  obtain ⟨o, es, ep, t, ho, r⟩ := R
  exact ⟨o, es, ep, t, k o ho, r⟩
section
variable {A : Around} {E : Value → Shared → Prop} {s : Shared} {a : Addr} {ks : List K}
theorem setG_tail {g : Bool → Sem Unit} (hg : ∀ (b : Bool) (s₁ : Shared) (Q' : Unit → Shared → Prop), Q' () s₁ → wpAny (model P w) A (g b) Q' E s₁)
    {o : Obj} {es : Array (Int × Value)} {ep : Nat} {t : SetTable} (ho : s.heap.get? a = some o) (hex : o.ExactSet) (hd : o.data = .set es ep t)
    {es1 : Array (Int × Value)} {t2 : SetTable} {ks' : List K} (g1 : ∀ e ∈ es1.toList, ∃ k, GoodG knd e k) (nd1 : (es1.toList.map fun e => kf e.2).Nodup) (m1 : ∀ k, k ∈ (es1.toList.map fun e => kf e.2) ↔ k ∈ ks')
    (hb1 : es1.size < scanBound) (hf2 : t2.fits es1.size = true) (hn1 : es1.size ≤ ks'.length) (hr : Ris t2.place.toList) (hl : w.params.followText "set-order" = true ∨ t2.led = true) {wasDummy : Bool} {R : Option Bool → Shared → Prop}
    (hR : ∀ h', Heap.SameBut a s.heap h' → SetG knd kf h' a ks' → R (some true) { s with heap := h' }) :
    wpAny (model P w) A (do
        storeSet a es1 t2
        if (!wasDummy && t2.tooFull) = true then do
            g (relayAll t2 es1 (SetTable.grown es1.size)).2.2
            storeSet a (relayAll t2 es1 (SetTable.grown es1.size)).1 (relayAll t2 es1 (SetTable.grown es1.size)).2.1
            pure (some true)
          else pure (some true)) R E s := by
  refine wpAny_bind (wpAny_storeSet_of ho hd ?_ (fits_of_scanBound hb1))
  have ho1 := store_at (es' := es1) (t' := t2) ho hd
  have sb1 := Heap.SameBut.update s.heap a (Obj.putSet es1 t2)
  split
  · have pm := relayAll_perm t2 es1 (SetTable.grown es1.size)
    have hf3 := relayAll_fits t2 es1 (SetTable.grown es1.size)
    have hr3 := relayAll_ris t2 es1 (SetTable.grown es1.size)
    have hl3 := relayAll_led t2 es1 (SetTable.grown es1.size)
    generalize relayAll t2 es1 (SetTable.grown es1.size) = Z at pm hf3 hr3 hl3 ⊢
    obtain ⟨es2, t3, gave⟩ := Z
    dsimp only at pm hf3 hr3 hl3 ⊢
    have hsz : es2.size = es1.size := by rw [← Array.length_toList, pm.length_eq, Array.length_toList]
    have hb2 : es2.size < scanBound := by rw [hsz]; exact hb1
    refine wpAny_bind (hg _ _ _ ?_)
    refine wpAny_bind (wpAny_storeSet_of ho1 rfl ?_ (fits_of_scanBound hb2))
    have ho2 := store_at (es' := es2) (t' := t3) ho1 rfl
    refine wpAny_pure (hR _ (sb1.trans (Heap.SameBut.update _ a _)) ?_)
    exact ⟨_, es2, _, t3, ho2, hex, rfl, fun e he => g1 e (pm.mem_iff.mp he), (pm.map fun e => kf e.2).nodup_iff.mpr nd1, fun k => (pm.map fun e => kf e.2).mem_iff.trans (m1 k), hb2, hf3, by rw [hsz]; exact hn1, hr3,
      hl.imp id fun z => by rw [hl3]; exact z⟩
  · exact wpAny_pure (hR _ sb1 ⟨_, es1, _, t2, ho1, hex, rfl, g1, nd1, m1, hb1, hf2, hn1, hr, hl⟩)
theorem setG_add {k : K} {v : Value} {Q : Bool → Shared → Prop} (hkf : ∀ k v, knd.is k v = true → kf v = k) (hkey : knd.is k v = true) (hsc : v.scannable = true) (R : SetG knd kf s.heap a ks) (room : ks.length + 1 < scanBound)
    (hQ : ∀ b h', Heap.SameBut a s.heap h' → SetG knd kf h' a (ks ++ [k]) → Q b { s with heap := h' }) :
    wpAny (model P w) A (setAddHashed a v (knd.hash k)) Q E s := by
  obtain ⟨o, es, ep, t, ho, hex, hd, g, nd, hm, hb, hf, hn, hr, hl⟩ := R
  have hel : ElemsOf knd es.toList := fun e he => by
    obtain ⟨k, h1, h2, h3⟩ := g e he
    exact ⟨⟨k, h1, h2⟩, h3⟩
  unfold setAddHashed setAddHashedIn
  refine wpAny_holding (wpAny_bind (wpAny_setState_of ho hd hf ?_))
  dsimp only
  rw [byScan_of hsc hb hel]
  simp only [↓reduceIte]
  unfold setAddByScan
  refine wpAny_bind ?_
  refine wpAny_bind (wpAny_rule ?_)
  refine wpAny_bind (wpAny_setScan_of hkey ho hd hf hel ?_)
  cases hfi : List.findIdx? (fun e => knd.is k e.2) es.toList with
  | some j =>
    dsimp only
    obtain ⟨hj, pj, _⟩ := List.findIdx?_eq_some_iff_getElem.mp hfi
    have hSk : k ∈ ks := (hm k).1 (List.mem_map.mpr ⟨es.toList[j], List.getElem_mem hj, hkf _ _ pj⟩)
    refine wpAny_pure (wpAny_pure ?_)
    exact hQ _ s.heap (Heap.SameBut.refl a s.heap) ⟨o, es, ep, t, ho, hex, hd, g, nd, fun i => by
      rw [List.mem_append, List.mem_singleton, hm i]
      exact ⟨.inl, fun z => z.elim id fun e => e ▸ hSk⟩, hb, hf, by rw [List.length_append]; omega, hr, hl⟩
  | none =>
    dsimp only
    have hnk : k ∉ es.toList.map fun e => kf e.2 := fun z => by
      obtain ⟨e, he, q⟩ := List.mem_map.mp z
      obtain ⟨k0, h1, _⟩ := g e he
      have c := List.findIdx?_eq_none_iff.mp hfi e he
      rw [hkf _ _ h1] at q
      rw [← q, h1] at c
      cases c
    have hgw : ∀ (b : Bool) {s₁ : Shared} {Q' : Unit → Shared → Prop}, Q' () s₁ → wpAny (model P w) A (match b with | true => rule "set.scan.the-table-gave-way" | false => pure ()) Q' E s₁ :=
      fun b s₁ Q' q => by cases b <;> first | exact wpAny_pure q | exact wpAny_rule q
    have pm := layNew_perm t es (knd.hash k) v
    have hf1 := layNew_fits t es (knd.hash k) v
    have hr1 := layNew_ris t es (knd.hash k) v hr
    have hl1 := layNew_led t es (knd.hash k) v
    generalize layNew t es (knd.hash k) v = Z at pm hf1 hr1 hl1 ⊢
    obtain ⟨es1, t1, wasDummy, gave⟩ := Z
    dsimp only at pm hf1 hr1 hl1 ⊢
    rw [Array.toList_push] at pm
    have pc : es1.toList.Perm ((knd.hash k, v) :: es.toList) := pm.trans (List.perm_append_singleton _ _)
    have pk : (es1.toList.map fun e => kf e.2).Perm (k :: es.toList.map fun e => kf e.2) := by
      have q := pc.map fun e => kf e.2
      rw [List.map_cons] at q
      have e : kf ((knd.hash k, v) : Int × Value).2 = k := hkf _ _ hkey
      rw [e] at q
      exact q
    have g1 : ∀ e ∈ es1.toList, ∃ k, GoodG knd e k := fun e he => by
      rcases List.mem_cons.mp (pc.mem_iff.mp he) with z | z
      · rw [z]; exact ⟨k, hkey, rfl, hsc⟩
      · exact g e z
    have nd1 : (es1.toList.map fun e => kf e.2).Nodup := pk.nodup_iff.mpr (List.nodup_cons.mpr ⟨hnk, nd⟩)
    have m1 : ∀ i, i ∈ (es1.toList.map fun e => kf e.2) ↔ i ∈ ks ++ [k] := fun i => by
      rw [pk.mem_iff, List.mem_cons, hm i, List.mem_append, List.mem_singleton]
      exact Or.comm
    have hsz : es1.size = es.size + 1 := by rw [← Array.length_toList, pc.length_eq, List.length_cons, Array.length_toList]
    have hn1 : es1.size ≤ (ks ++ [k]).length := by rw [List.length_append, hsz]; simp; exact hn
    have hb1 : es1.size < scanBound := by rw [hsz]; omega
    have hled : w.params.followText "set-order" = true ∨ t1.led = true := hl.imp id fun z => by rw [hl1]; exact z
    refine wpAny_bind (hgw _ ?_)
    split
    · refine wpAny_bind ?_
      rw [hashByValue_scannable 8 hsc]
      refine wpAny_pure ?_
      refine setG_tail (knd := knd) (kf := kf) ?_ ho hex hd g1 nd1 m1 hb1 ?_ hn1 ?_ ?_ ?_
      · intro b s₁ Q' q; cases b <;> first | exact wpAny_pure q | exact wpAny_rule q
      · first | (split <;> first | exact hf1 | exact SetTable.fits_plain_off hf1) | exact hf1
      · first | (split <;> exact hr1) | exact hr1
      · first | (split <;> exact hled) | exact hled
      · intro h' sb r; dsimp only; exact wpAny_pure (hQ _ h' sb r)
    · refine wpAny_bind (wpAny_pure ?_)
      simp only [↓reduceIte]
      refine setG_tail (knd := knd) (kf := kf) ?_ ho hex hd g1 nd1 m1 hb1 hf1 hn1 hr1 hled ?_
      · intro b s₁ Q' q; cases b <;> first | exact wpAny_pure q | exact wpAny_rule q
      · intro h' sb r; dsimp only; exact wpAny_pure (hQ _ h' sb r)
end
/-- an empty set -/
theorem setG_new {h : Heap} : SetG knd kf (h.push { cls := .type "set", dict := none, data := .set #[] 0 (.fresh 0 0 (!w.params.followText "set-order")) }) h.objs.size [] :=
  ⟨_, #[], 0, _, Heap.get?_push_size _ rfl, ⟨rfl, rfl, rfl⟩, rfl, (fun e he => by simp at he), (by simp), (fun k => by simp), (by decide), (by rfl), Nat.le_refl _, List.Pairwise.nil, by
    show _ ∨ (!w.params.followText "set-order") = true
    cases w.params.followText "set-order"
    · exact .inr rfl
    · exact .inl rfl⟩
end
end DL

set_option Elab.async false
set_option linter.all false
set_option maxRecDepth 100000
set_option maxHeartbeats 4000000
/-! DL36: set(xs), whose members can be walked; sorted of it. -/
namespace DL
open PySem PySem.Spec PyProof.Rows L2

def newG (w : World) : Obj := { cls := .type "set", dict := none, data := .set #[] 0 (.fresh 0 0 (!w.params.followText "set-order")) }
section
variable {P : Program} {w : World} {K : Type} [DecidableEq K] {knd : KeyKind P w K} {kf : Value → K}
theorem setG_at {h : Heap} {a : Addr} {ks : List K} (ho : h.get? a = some (newG w)) : SetG knd kf h a (ks.take 0) :=
  ⟨_, #[], 0, _, ho, ⟨rfl, rfl, rfl⟩, rfl, (fun e he => by simp at he), (by simp), (fun k => by simp), (by decide), (by rfl), Nat.le_refl _, List.Pairwise.nil, by
    show _ ∨ (!w.params.followText "set-order") = true
    cases w.params.followText "set-order"
    · exact .inr rfl
    · exact .inl rfl⟩
end
section
variable {prog : Program} {w : World} {K : Type} [DecidableEq K] {knd : KeyKind prog w K} {kf : Value → K}
section
variable {A : Around} {R : Result → Shared → Prop} {It : Addr} {fp wr : List Addr} {G : Array GenState → Array GenState → Prop} {n : Nat} {P : Nat → Value → Prop} {St : Nat → Shared → Prop}
theorem set_loopG (hkf : ∀ k v, knd.is k v = true → kf v = k) (W : WalksS prog w A.in1 It fp wr G n P St) (T : Addr) (hT : T ∉ fp) (ks : List K) (hz : ks.length = n) (hb : n + 1 < scanBound)
    (hv : ∀ i v, P i v → ∃ k, ks[i]? = some k ∧ knd.is k v = true ∧ v.scannable = true) :
    ∀ (j i : Nat) (st : Shared), n - i = j → i ≤ n → St i st →
      SetG knd kf st.heap T (ks.take i) →
      (∀ st', Moved (T :: wr) G st st' → SetG knd kf st'.heap T (ks.take n) → R (.ok (.ret .none)) st') →
      codeAny (model prog w) A (.builtin "set.update.loop" ⟨[.ref T, .ref It], []⟩) R st := by
  have hTw : T ∉ wr := fun h => hT (W.sub _ h)
  have sub1 : ∀ b ∈ wr, b ∈ T :: wr := fun b hb => List.mem_cons_of_mem _ hb
  intro j
  induction j with
  | zero =>
    intro i st hk hi hst hS hR
    obtain rfl : i = n := by omega
    refine codeAny_builtin PyProof.Rows.F.entry_set_update_loop ?_
    rw [Around.under_plainId PyProof.Rows.F.plain_set_update_loop _]
    show wpAny _ A.in1 (pyNext (.ref It) >>= _) _ _ st
    refine wpAny_bind (W.done st _ _ hst fun st' hm => ?_)
    show wpAny _ A.in1 (ret Value.none) _ _ st'
    exact wpAny_pure (hR st' (hm.mono sub1) (hS.at fun o e => hm.heap T o hTw e))
  | succ j ih =>
    intro i st hk hi hst hS hR
    have hlt : i < n := by omega
    refine codeAny_builtin PyProof.Rows.F.entry_set_update_loop ?_
    rw [Around.under_plainId PyProof.Rows.F.plain_set_update_loop _]
    show wpAny _ A.in1 (pyNext (.ref It) >>= _) _ _ st
    refine wpAny_bind (W.item i st _ _ hlt hst fun v st' hP hst' hm => ?_)
    obtain ⟨k, ek, hkey, hsc⟩ := hv i v hP
    have hS1 : SetG knd kf st'.heap T (ks.take i) := hS.at fun o e => hm.heap T o hTw e
    show wpAny _ A.in1 (holding [v] (setAdd T v) >>= _) _ _ st'
    refine wpAny_bind (wpAny_holding ?_)
    unfold setAdd
    refine wpAny_holding (wpAny_bind (knd.pyHash hkey ?_))
    have room : (ks.take i).length + 1 < scanBound := by
      rw [List.length_take]
      omega
    have eT : ks.take (i + 1) = ks.take i ++ [k] := by
      obtain ⟨h1, h2⟩ := List.getElem?_eq_some_iff.mp ek
      rw [List.take_succ_eq_append_getElem h1, h2]
    refine setG_add (s := { st' with toks := st'.toks + 1 }) hkf hkey hsc hS1 room fun _ h' hsb hS2 => ?_
    rw [← eT] at hS2
    have hS3 := hS2
    refine wpAny_pure ⟨plainId_quiet PyProof.Rows.F.plain_set_update_loop _, ih (i + 1) _ (by omega) hlt (W.frame _ st' _ _ hst' (Nat.le_succ _) fun b hb o e => ?_) hS3 fun st2 hm2 hS4 => ?_⟩
    · rw [hsb.2 b (fun h : b = T => hT (by rw [← h]; exact hb))]
      exact e
    · refine hR st2 (Moved.trans W.gtrans ((hm.mono sub1).then_heap (Nat.le_succ _) fun b o hb e => ?_) hm2) hS4
      rw [hsb.2 b (fun h : b = T => hb (by rw [h]; exact List.mem_cons_self))]
      exact e
end
set_option maxHeartbeats 8000000 in
theorem call_setGT {A : Around} {E : Value → Shared → Prop} {st : Shared} {src : Addr} {vs : Array Value} (ks : List K) {Q : Value → Shared → Prop} (hkf : ∀ k v, knd.is k v = true → kf v = k) (free : A.handled = none) (hsrc : st.heap.IsTuple src vs) (hz : ks.length = vs.size) (hb : ks.length + 1 < scanBound)
    (hv : ∀ (i : Nat) (v : Value), vs[i]? = some v → ∃ k, ks[i]? = some k ∧ knd.is k v = true ∧ v.scannable = true)
    (h : ∀ (hp : Heap) (tk : Nat), SetG knd kf hp st.heap.objs.size ks → (∀ b o, b < st.heap.objs.size → st.heap.get? b = some o → hp.get? b = some o) → Q (.ref st.heap.objs.size) { st with heap := hp, toks := tk }) :
    wpAny (model prog w) A (call (.type "set") [.ref src]) Q E st := by
  obtain ⟨c, tl, hmro⟩ := PySem.F.called_set.mro
  have cs1 := PySem.F.called_set.made
  have cs2 := PySem.F.called_set.sub
  refine wpAny_call (codeAny_of_tree ?_)
  show wpAny (model prog w) _ (callAny (.type "set") _) _ _ st
  refine wpAny_pure ⟨Code.quiet_builtin _ (by decide +kernel), codeAny_builtin PySem.F.entry_type_call ?_⟩
  rw [Around.under_plain (weight_type_call_type "set" [.ref src] []) rfl]
  have cs3 := PySem.F.called_set.notType
  have cs4 := PySem.F.called_set.canCreate
  have cs5 := PySem.F.typeCall_set_1 (.ref src)
  repeat (any_goals (first | assumption | wp_step))
  refine codeAny_mono (code_set_led1 (.ref src) (E := E) (Q₁ := fun obj s1 => obj = .ref st.heap.objs.size ∧ s1 = { st with heap := st.heap.push (newG w) }) ⟨rfl, rfl⟩) fun r s1 hr => ?_
  cases r with
  | error e => exact hr
  | ok fl =>
    cases fl with
    | ret obj =>
      obtain ⟨rfl, rfl⟩ := hr
      have gS : (st.heap.push (newG w)).get? st.heap.objs.size = some (newG w) := Heap.get?_push_size _ rfl
      have tS : Shared.TypeIs { st with heap := st.heap.push (newG w) } (.ref st.heap.objs.size) "set" := ⟨_, gS, rfl⟩
      have cs6 := PySem.F.called_set.init.lookup
      have cs7 := PySem.F.called_set.init.bind (.ref st.heap.objs.size)
      repeat (any_goals (first | assumption | wp_step))
      refine codeAny_mono (codeAny_call_builtin (R := wants (fun r s2 => r = .none ∧ ∃ hp tk, s2 = { st with heap := hp, toks := tk } ∧ SetG knd kf hp st.heap.objs.size ks ∧
          (∀ b o, b < st.heap.objs.size → st.heap.get? b = some o → hp.get? b = some o)) E) PySem.F.called_set.init.plain PySem.F.entry_set_init (check_set_init_1 tS ?_)) fun r2 s2 hr2 => ?_
      · obtain ⟨ol, hol, hcl, nl, hdl⟩ := hsrc
        obtain ⟨oc, od, oa, os⟩ := ol
        simp only at hcl hdl
        subst hcl; subst hdl
        have hol2 : (st.heap.push (newG w)).get? src = some { cls := .type "tuple", dict := od, data := .seq vs nl, slots := os } := Heap.get?_push_of_some _ hol
        have sb1 := PySem.F.sub_tuple_set
        have sb2 := PySem.F.sub_tuple_frozenset
        have neD : (Value.type "tuple" == Value.type "dict") = false := by decide
        have hl1 : (st.heap.push (newG w)).IsTuple src vs := ⟨_, hol2, rfl, nl, rfl⟩
        unfold Builtin.«set.__init__» noKeywords Builtin.Frozenset.updateFrom
        generalize hPI : pyIter = PI
        wp_walk
        subst hPI
        refine wpAny_pyIter_tuple hl1 (wpAny_bind (wpAny_runValue ?_))
        have ltS : src < st.heap.objs.size := Heap.lt_size hol
        have fr3 : A.in1.in1.in1.handled = none := by simp [free]
        have szN : (st.heap.push (newG w)).objs.size = st.heap.objs.size + 1 := Heap.size_push ..
        have neI : src ≠ (st.heap.push (newG w)).objs.size := by rw [szN]; exact Nat.ne_of_lt (Nat.lt_succ_of_lt ltS)
        have notF : st.heap.objs.size ∉ [(st.heap.push (newG w)).objs.size, src] := by
          rw [szN]
          simp only [List.mem_cons, List.not_mem_nil, or_false, not_or]
          exact ⟨Nat.ne_of_lt (Nat.lt_succ_self _), Nat.ne_of_gt ltS⟩
        refine set_loopG hkf ((Walks.tuple fr3 _ src neI vs).toS) st.heap.objs.size notF ks hz (by omega) hv (vs.size - 0) 0 _ (by omega) (Nat.zero_le _) ⟨⟨_, Heap.get?_push_size _ rfl, rfl, rfl⟩, (hl1.push _)⟩ ?hS0 ?hR
        case hS0 =>
          have hget : ((st.heap.push (newG w)).push { cls := .type "tuple_iterator", data := .fields #[.ref src, .int 0 0] }).get? st.heap.objs.size = some (newG w) := Heap.get?_push_of_some _ gS
          exact setG_at hget
        case hR =>
          intro s3 hm hS3
          obtain ⟨h3, g3, d3, t3, o3⟩ := s3
          have eg : g3 = st.gens := hm.gens
          have ed : d3 = st.drawn := hm.drawn
          have eo : o3 = st.os := hm.os
          subst eg; subst ed; subst eo
          refine wpAny_pure ?_
          show wpAny (model prog w) _ (ret Value.none) _ _ _
          rw [← hz, List.take_length] at hS3
          refine wpAny_pure ⟨rfl, h3, t3, rfl, hS3, fun b o hb e => ?_⟩
          refine hm.heap b o ?_ (Heap.get?_push_of_some _ (Heap.get?_push_of_some _ e))
          rw [szN]
          simp only [List.mem_cons, List.not_mem_nil, or_false, not_or]
          exact ⟨Nat.ne_of_lt hb, Nat.ne_of_lt (Nat.lt_succ_of_lt hb)⟩
      · cases r2 with
        | error e => exact hr2
        | ok fl2 =>
          cases fl2 with
          | ret r =>
            obtain ⟨rfl, hp, tk, rfl, hS3, keep⟩ := hr2
            repeat (any_goals (first | assumption | wp_step))
            exact h _ _ hS3 keep
          | _ => exact hr2.elim
    | _ => exact hr.elim
set_option maxHeartbeats 8000000 in
theorem call_setGL {A : Around} {E : Value → Shared → Prop} {st : Shared} {src : Addr} {vs : Array Value} (ks : List K) {Q : Value → Shared → Prop} (hkf : ∀ k v, knd.is k v = true → kf v = k) (free : A.handled = none) (hsrc : st.heap.IsList src vs) (hz : ks.length = vs.size) (hb : ks.length + 1 < scanBound)
    (hv : ∀ (i : Nat) (v : Value), vs[i]? = some v → ∃ k, ks[i]? = some k ∧ knd.is k v = true ∧ v.scannable = true)
    (h : ∀ (hp : Heap) (tk : Nat), SetG knd kf hp st.heap.objs.size ks → (∀ b o, b < st.heap.objs.size → st.heap.get? b = some o → hp.get? b = some o) → Q (.ref st.heap.objs.size) { st with heap := hp, toks := tk }) :
    wpAny (model prog w) A (call (.type "set") [.ref src]) Q E st := by
  obtain ⟨c, tl, hmro⟩ := PySem.F.called_set.mro
  have cs1 := PySem.F.called_set.made
  have cs2 := PySem.F.called_set.sub
  refine wpAny_call (codeAny_of_tree ?_)
  show wpAny (model prog w) _ (callAny (.type "set") _) _ _ st
  refine wpAny_pure ⟨Code.quiet_builtin _ (by decide +kernel), codeAny_builtin PySem.F.entry_type_call ?_⟩
  rw [Around.under_plain (weight_type_call_type "set" [.ref src] []) rfl]
  have cs3 := PySem.F.called_set.notType
  have cs4 := PySem.F.called_set.canCreate
  have cs5 := PySem.F.typeCall_set_1 (.ref src)
  repeat (any_goals (first | assumption | wp_step))
  refine codeAny_mono (code_set_led1 (.ref src) (E := E) (Q₁ := fun obj s1 => obj = .ref st.heap.objs.size ∧ s1 = { st with heap := st.heap.push (newG w) }) ⟨rfl, rfl⟩) fun r s1 hr => ?_
  cases r with
  | error e => exact hr
  | ok fl =>
    cases fl with
    | ret obj =>
      obtain ⟨rfl, rfl⟩ := hr
      have gS : (st.heap.push (newG w)).get? st.heap.objs.size = some (newG w) := Heap.get?_push_size _ rfl
      have tS : Shared.TypeIs { st with heap := st.heap.push (newG w) } (.ref st.heap.objs.size) "set" := ⟨_, gS, rfl⟩
      have cs6 := PySem.F.called_set.init.lookup
      have cs7 := PySem.F.called_set.init.bind (.ref st.heap.objs.size)
      repeat (any_goals (first | assumption | wp_step))
      refine codeAny_mono (codeAny_call_builtin (R := wants (fun r s2 => r = .none ∧ ∃ hp tk, s2 = { st with heap := hp, toks := tk } ∧ SetG knd kf hp st.heap.objs.size ks ∧
          (∀ b o, b < st.heap.objs.size → st.heap.get? b = some o → hp.get? b = some o)) E) PySem.F.called_set.init.plain PySem.F.entry_set_init (check_set_init_1 tS ?_)) fun r2 s2 hr2 => ?_
      · obtain ⟨ol, hol, hcl, nl, hdl⟩ := hsrc
        obtain ⟨oc, od, oa, os⟩ := ol
        simp only at hcl hdl
        subst hcl; subst hdl
        have hol2 : (st.heap.push (newG w)).get? src = some { cls := .type "list", dict := od, data := .seq vs nl, slots := os } := Heap.get?_push_of_some _ hol
        have sb1 := PySem.F.sub_list_set
        have sb2 := PySem.F.sub_list_frozenset
        have neD : (Value.type "list" == Value.type "dict") = false := by decide
        have hl1 : (st.heap.push (newG w)).IsList src vs := ⟨_, hol2, rfl, nl, rfl⟩
        unfold Builtin.«set.__init__» noKeywords Builtin.Frozenset.updateFrom
        generalize hPI : pyIter = PI
        wp_walk
        subst hPI
        refine wpAny_pyIter_list hl1 (wpAny_bind (wpAny_runValue ?_))
        have ltS : src < st.heap.objs.size := Heap.lt_size hol
        have fr3 : A.in1.in1.in1.handled = none := by simp [free]
        have szN : (st.heap.push (newG w)).objs.size = st.heap.objs.size + 1 := Heap.size_push ..
        have neI : src ≠ (st.heap.push (newG w)).objs.size := by rw [szN]; exact Nat.ne_of_lt (Nat.lt_succ_of_lt ltS)
        have notF : st.heap.objs.size ∉ [(st.heap.push (newG w)).objs.size, src] := by
          rw [szN]
          simp only [List.mem_cons, List.not_mem_nil, or_false, not_or]
          exact ⟨Nat.ne_of_lt (Nat.lt_succ_self _), Nat.ne_of_gt ltS⟩
        refine set_loopG hkf ((Walks.list fr3 _ src neI vs).toS) st.heap.objs.size notF ks hz (by omega) hv (vs.size - 0) 0 _ (by omega) (Nat.zero_le _) ⟨⟨_, Heap.get?_push_size _ rfl, rfl, rfl⟩, (hl1.push _)⟩ ?hS0 ?hR
        case hS0 =>
          have hget : ((st.heap.push (newG w)).push { cls := .type "list_iterator", data := .fields #[.ref src, .int 0 0] }).get? st.heap.objs.size = some (newG w) := Heap.get?_push_of_some _ gS
          exact setG_at hget
        case hR =>
          intro s3 hm hS3
          obtain ⟨h3, g3, d3, t3, o3⟩ := s3
          have eg : g3 = st.gens := hm.gens
          have ed : d3 = st.drawn := hm.drawn
          have eo : o3 = st.os := hm.os
          subst eg; subst ed; subst eo
          refine wpAny_pure ?_
          show wpAny (model prog w) _ (ret Value.none) _ _ _
          rw [← hz, List.take_length] at hS3
          refine wpAny_pure ⟨rfl, h3, t3, rfl, hS3, fun b o hb e => ?_⟩
          refine hm.heap b o ?_ (Heap.get?_push_of_some _ (Heap.get?_push_of_some _ e))
          rw [szN]
          simp only [List.mem_cons, List.not_mem_nil, or_false, not_or]
          exact ⟨Nat.ne_of_lt hb, Nat.ne_of_lt (Nat.lt_succ_of_lt hb)⟩
      · cases r2 with
        | error e => exact hr2
        | ok fl2 =>
          cases fl2 with
          | ret r =>
            obtain ⟨rfl, hp, tk, rfl, hS3, keep⟩ := hr2
            repeat (any_goals (first | assumption | wp_step))
            exact h _ _ hS3 keep
          | _ => exact hr2.elim
    | _ => exact hr.elim
end
end DL

set_option Elab.async false
set_option linter.all false
set_option maxRecDepth 100000
set_option maxHeartbeats 4000000
/-! DL37: sorted(set(xs)) of texts alone or of ints alone; xs[::-1]. -/
namespace DL
open PySem PySem.Spec PyProof.Rows L2

def kfM : Value → Key
  | .int i _ => .inl i
  | .str x _ => .inr x
  | _ => .inl 0
theorem kfM_ok {P : Program} {w : World} (k : Key) (v : Value) (h : (mixKind P w).is k v = true) : kfM v = k := by
  rcases keyIs_shape h with ⟨i, t, rfl, rfl⟩ | ⟨x, t, rfl, rfl⟩ <;> rfl
def unL : Key → Int
  | .inl i => i
  | .inr _ => 0
def unR : Key → Str
  | .inl _ => ""
  | .inr x => x
section
variable {P : Program} {w : World} {A : Around} {E : Value → Shared → Prop} {s : Shared} {a : Addr} {ks : List Key}
/-- the members are gathered -/
theorem setG_out {Q : List Value → Shared → Prop} (R : SetG (mixKind P w) kfM s.heap a ks) (hh : A.handled = none)
    (hQ : ∀ s' out, (∀ b o, s.heap.get? b = some o → s'.heap.get? b = some o) → s.heap.objs.size ≤ s'.heap.objs.size → s'.gens = s.gens → s'.os = s.os → (∀ v ∈ out, ∃ k, (mixKind P w).is k v = true) → (out.map kfM).Nodup → (∀ k, k ∈ out.map kfM ↔ k ∈ ks) → out.length ≤ ks.length → Q out s') :
    wpAny (model P w) A (collect (.ref a)) Q E s := by
  obtain ⟨o, es, ep, t, ho, hex, hd, g, nd, hm, hb, hf, hn, hr, hl⟩ := R
  refine collect_set hh ⟨o, ho, hex.1, hd⟩ hf hb hr hl fun s1 vs k1 hz g1 o1 pm => ?_
  have pk : (vs.map kfM).Perm (es.toList.map fun e => kfM e.2) := by
    have q := pm.map kfM
    rw [List.map_map] at q
    exact q
  refine hQ s1 vs k1 hz g1 o1 (fun v hv => ?_) (pk.nodup_iff.mpr nd) (fun k => pk.mem_iff.trans (hm k)) ?_
  · obtain ⟨e, he, q⟩ := List.mem_map.mp (pm.mem_iff.mp hv)
    obtain ⟨k, h1, _⟩ := g e he
    exact ⟨k, by rw [← q]; exact h1⟩
  · rw [pm.length_eq, List.length_map, Array.length_toList]
    exact hn
theorem strs_of_vals : ∀ (l : List Value), (∀ v ∈ l, ∃ k tk, v = Value.str k tk) → StrsAre l ((l.map kfM).map unR)
  | [], _ => .nil
  | v :: l, h => by
    obtain ⟨k, tk, rfl⟩ := h v List.mem_cons_self
    exact .cons k tk (strs_of_vals l fun u hu => h u (List.mem_cons_of_mem _ hu))
theorem ints_of_vals : ∀ (l : List Value), (∀ v ∈ l, ∃ k tk, v = Value.int k tk) → IntsAre l ((l.map kfM).map unL)
  | [], _ => .nil
  | v :: l, h => by
    obtain ⟨k, tk, rfl⟩ := h v List.mem_cons_self
    exact .cons k tk (ints_of_vals l fun u hu => h u (List.mem_cons_of_mem _ hu))
theorem sort_strsL {a : Addr} {vs : List Value} {ss : List Str} {n : Nat} {R : PySem.Fin → Shared → Prop} (ho : s.heap.get? a = some (seqObj "list" vs.toArray n)) (hS : StrsAre vs ss) (hL : vs.length ≤ sizeLine)
    (h : ∀ (out : Array Value) (ss' : List Str), StrsAre out.toList ss' → ss'.Perm ss → sortedS ss' = true → R (.done (.ret .none)) { s with heap := sortedHeap s.heap a vs out }) :
    wpAny (model P w) A (Builtin.«list.sort» ⟨[.ref a], []⟩) R E s := by
  refine list_sort_treeKAny strKind_oneLt ho hS.keysOf (fun v₁ v₂ rest e => keyKind_strs (by rw [← e]; exact hS)) hL fun st' hp hs => ?_
  obtain ⟨ss', h1, h2, h3⟩ := sorted_out_str hS hp hs
  exact h _ ss' h1 h2 h3
/-- what sorted lays of the members -/
theorem sorted_setG {Q : Value → Shared → Prop} (R : SetG (mixKind P w) kfM s.heap a ks) (hh : A.handled = none) (hz : ks.length ≤ 4000) (hk : (∃ xs : List Str, ks = xs.map Sum.inr) ∨ ∃ ns : List Int, ks = ns.map Sum.inl)
    (hQ : ∀ (s' : Shared) (p : Addr) (out : Array Value) (c : Nat) (ys : List V), (∀ b o, s.heap.get? b = some o → s'.heap.get? b = some o) → s'.gens = s.gens → s'.os = s.os → s.heap.objs.size ≤ p →
      s'.heap.get? p = some (seqObj "list" out c) → Vals ys out.toList → ((∃ xs zs : List Str, ks = xs.map Sum.inr ∧ ys = zs.map V.str ∧ zs.Nodup ∧ (∀ x, x ∈ zs ↔ x ∈ xs) ∧ zs.length ≤ ks.length ∧ sortedS zs = true) ∨
        ∃ xs zs : List Int, ks = xs.map Sum.inl ∧ ys = zs.map V.int ∧ zs.Pairwise (· < ·) ∧ (∀ x, x ∈ zs ↔ x ∈ xs) ∧ zs.length ≤ ks.length) → Q (.ref p) s') :
    wpAny (model P w) A (call (.builtin "sorted") [.ref a]) Q E s := by
  refine Calls.call_function_entry kind_sorted plain_sorted entry_sorted (args_sorted1 _) ?_
  unfold Builtin.«sorted»
  refine wpAny_bind (m := checkCount "sorted" 1 1 _) (wpAny_pure ?_)
  refine wpAny_bind (setG_out (A := A.in1) R hh fun s1 vs k1 hz1 g1 o1 hv nd hm hn => ?_)
  have hL : vs.length ≤ sizeLine := by rw [sizeLine_eq]; omega
  refine wpAny_bind (wpAny_newList ?_ hL)
  have hoL : (s1.heap.push (seqObj "list" vs.toArray 0)).get? s1.heap.objs.size = some (seqObj "list" vs.toArray 0) := Heap.get?_push_size _ rfl
  have keep : ∀ (out : Array Value) b u, s.heap.get? b = some u → (sortedHeap (s1.heap.push (seqObj "list" vs.toArray 0)) s1.heap.objs.size vs out).get? b = some u := fun out b u e => by
    have q := k1 b u e
    have hlt := Heap.lt_size q
    rw [sortedHeap_old (Nat.ne_of_lt hlt) (by rw [size_push']; exact Nat.lt_succ_of_lt hlt)]
    exact Heap.get?_push_of_some _ q
  rcases hk with ⟨xs, rfl⟩ | ⟨ns, rfl⟩
  · have hI : StrsAre vs ((vs.map kfM).map unR) := strs_of_vals vs fun v hv' => by
      obtain ⟨k, hk⟩ := hv v hv'
      have hkk : k ∈ xs.map Sum.inr := (hm k).1 (List.mem_map.mpr ⟨v, hv', kfM_ok k v hk⟩)
      obtain ⟨x, _, rfl⟩ := List.mem_map.mp hkk
      rcases keyIs_shape (show keyIs (Sum.inr x) v = true from hk) with ⟨i, t, e, _⟩ | ⟨y, t, _, e⟩
      · cases e
      · exact ⟨y, t, e⟩
    have e2 : ((vs.map kfM).map unR).map Sum.inr = vs.map kfM := by
      rw [List.map_map]
      conv => rhs; rw [← List.map_id (vs.map kfM)]
      refine List.map_congr_left fun k hk => ?_
      obtain ⟨x, _, rfl⟩ := List.mem_map.mp ((hm k).1 hk)
      rfl
    have mem2 : ∀ x, x ∈ (vs.map kfM).map unR ↔ x ∈ xs := fun x => by
      constructor
      · intro h
        have : (Sum.inr x : Key) ∈ xs.map Sum.inr := (hm _).1 (by rw [← e2]; exact List.mem_map.mpr ⟨x, h, rfl⟩)
        obtain ⟨y, hy, e⟩ := List.mem_map.mp this
        cases e
        exact hy
      · intro h
        have := (hm (Sum.inr x)).2 (List.mem_map.mpr ⟨x, h, rfl⟩)
        exact List.mem_map.mpr ⟨_, this, rfl⟩
    have nd2 : ((vs.map kfM).map unR).Nodup := by
      rw [← e2] at nd
      unfold List.Nodup at nd ⊢
      rw [List.pairwise_map] at nd
      exact nd.imp fun h z => h (by rw [z])
    refine wpAny_bind (wpAny_holding (wpAny_call_entry slot_list_sort ⟨_, hoL, rfl⟩ entry_list_sort (sort_strsL hoL hI hL fun out ss' a1 a2 a3 => ⟨_, rfl, ?_⟩) (args_list_sort _)))
    obtain ⟨c, hc⟩ := sortedHeap_at (vs := vs) (out := out) hoL
    refine wpAny_pure ⟨_, rfl, hQ _ s1.heap.objs.size out c (ss'.map V.str) (keep out) g1 o1 hz1 hc (vals_of_strs a1) (.inl ⟨xs, ss', rfl, rfl, a2.nodup_iff.mpr nd2, fun x => a2.mem_iff.trans (mem2 x), ?_, a3⟩)⟩
    rw [a2.length_eq, List.length_map, List.length_map]
    exact hn
  · have hI : IntsAre vs ((vs.map kfM).map unL) := ints_of_vals vs fun v hv' => by
      obtain ⟨k, hk⟩ := hv v hv'
      have hkk : k ∈ ns.map Sum.inl := (hm k).1 (List.mem_map.mpr ⟨v, hv', kfM_ok k v hk⟩)
      obtain ⟨x, _, rfl⟩ := List.mem_map.mp hkk
      rcases keyIs_shape (show keyIs (Sum.inl x) v = true from hk) with ⟨i, t, _, e⟩ | ⟨y, t, e, _⟩
      · exact ⟨i, t, e⟩
      · cases e
    have e2 : ((vs.map kfM).map unL).map Sum.inl = vs.map kfM := by
      rw [List.map_map]
      conv => rhs; rw [← List.map_id (vs.map kfM)]
      refine List.map_congr_left fun k hk => ?_
      obtain ⟨x, _, rfl⟩ := List.mem_map.mp ((hm k).1 hk)
      rfl
    have mem2 : ∀ x, x ∈ (vs.map kfM).map unL ↔ x ∈ ns := fun x => by
      constructor
      · intro h
        have : (Sum.inl x : Key) ∈ ns.map Sum.inl := (hm _).1 (by rw [← e2]; exact List.mem_map.mpr ⟨x, h, rfl⟩)
        obtain ⟨y, hy, e⟩ := List.mem_map.mp this
        cases e
        exact hy
      · intro h
        have := (hm (Sum.inl x)).2 (List.mem_map.mpr ⟨x, h, rfl⟩)
        exact List.mem_map.mpr ⟨_, this, rfl⟩
    have nd2 : ((vs.map kfM).map unL).Nodup := by
      rw [← e2] at nd
      unfold List.Nodup at nd ⊢
      rw [List.pairwise_map] at nd
      exact nd.imp fun h z => h (by rw [z])
    refine wpAny_bind (wpAny_holding (wpAny_call_entry slot_list_sort ⟨_, hoL, rfl⟩ entry_list_sort (list_sort_treeAny hoL hI hL fun out ns' a1 a2 a3 => ⟨_, rfl, ?_⟩) (args_list_sort _)))
    obtain ⟨c, hc⟩ := sortedHeap_at (vs := vs) (out := out) hoL
    refine wpAny_pure ⟨_, rfl, hQ _ s1.heap.objs.size out c (ns'.map V.int) (keep out) g1 o1 hz1 hc (vals_of_ints a1) (.inr ⟨ns, ns', rfl, rfl, lt_of_le_nodup ns' a3 (a2.nodup_iff.mpr nd2), fun x => a2.mem_iff.trans (mem2 x), ?_⟩)⟩
    rw [a2.length_eq, List.length_map, List.length_map]
    exact hn
end
def outS (ks : List Key) (ys : List V) : Prop := (∃ xs zs : List Str, ks = xs.map Sum.inr ∧ ys = zs.map V.str ∧ zs.Nodup ∧ (∀ x, x ∈ zs ↔ x ∈ xs) ∧ zs.length ≤ ks.length ∧ sortedS zs = true) ∨
  ∃ xs zs : List Int, ks = xs.map Sum.inl ∧ ys = zs.map V.int ∧ zs.Pairwise (· < ·) ∧ (∀ x, x ∈ zs ↔ x ∈ xs) ∧ zs.length ≤ ks.length
def tSortSet (K : PySem.W.Frag) (ta : TE) : TE := fun σ H Q => ta σ H fun x H1 => ∃ (l : Addr) (ks : List Key), x = .ref l ∧ (SqL K H1 l (ks.map kV) ∨ SqT K H1 l (ks.map kV)) ∧ ks.length ≤ 4000 ∧ ((∃ xs : List Str, ks = xs.map Sum.inr) ∨ ∃ ns : List Int, ks = ns.map Sum.inl) ∧
  ∀ ys p, outS ks ys → H1 p = none → Q (.ref p) (upd H1 p (.lst ys))
theorem pe_sortSet {X : Cx} {a : Expr} {ta : TE} {p p2 q pos : Pos} (hc : X.calm = true) (g1 : Gl X "sorted") (m1 : X.mg "sorted" = none) (g2 : Gl X "set") (m2 : X.mg "set" = none) (ha : PE X a ta)
    (na : starEach [a] X.env = (false, eval a X.env) :: starEach [] X.env) : PE X (.Call (.Name "sorted" p) [.Call (.Name "set" p2) [a] [] q] [] pos) (tSortSet X.K ta) := by
  refine ⟨fun pins st σ H Q I h => ?_⟩
  refine Call_ (ld_blt I g1 m1 (by decide +kernel : bootBuiltins ("sorted" : Str) = some (.builtin "sorted")) ?_)
  refine PyProof.Rows.callWith_builtin1 (PyProof.Rows.args_cons ?_ rfl) rfl rfl
  refine Call_ (ld_blt I g2 m2 boot_set ?_)
  refine PyProof.Rows.callWith_type1 (PyProof.Rows.args_cons (thn (ha.run pins st σ H _ I h) fun v s1 ⟨x, H1, I1, r1, q1⟩ => PyProof.Rows.args_nil ?_) na) na rfl
  obtain ⟨l, ks, rfl, hq, hz, hks, q1⟩ := q1
  cases r1
  have hb : ks.length + 1 < scanBound := by
    unfold scanBound
    omega
  have fin : ∀ (hp : Heap) (tk : Nat), SetG (mixKind X.prog X.w) kfM hp s1.heap.objs.size ks → (∀ b o, b < s1.heap.objs.size → s1.heap.get? b = some o → hp.get? b = some o) →
      wpAny (model X.prog X.w) X.A (spliced (backTo pos (starEach [] X.env))) (fun vs s2 => wpAny (model X.prog X.w) X.A (call (.builtin "sorted") (Value.ref s1.heap.objs.size :: vs)) (EP X pins σ Q) X.xe s2) X.xe { s1 with heap := hp, toks := tk } := fun hp tk hS hk => by
    refine PyProof.Rows.args_nil ?_
    have I2 : Inv X pins σ H1 { s1 with heap := hp, toks := tk } := I1.kept fun b o e => hk b o (Heap.lt_size e) e
    refine sorted_setG (s := { s1 with heap := hp, toks := tk }) hS (I2.ok.hd hc) hz hks fun s' p out c ys k g o hp' hg hv ho => ?_
    have hlen : ys.length ≤ sizeLine := by
      rw [sizeLine_eq]
      rcases ho with ⟨_, zs, _, rfl, _, _, hl, _⟩ | ⟨_, zs, _, rfl, _, _, hl⟩ <;> rw [List.length_map] <;> omega
    have hn : H1 p = none := I2.hok.fresh hp'
    have J : Inv X pins σ (upd H1 p (.lst ys)) { ({ s1 with heap := hp, toks := tk } : Shared) with heap := s'.heap, gens := s'.gens, drawn := s'.drawn, toks := s'.toks } :=
      I2.call (ch := []) (Un.laid k hp' hn) (I2.hok.laid k hp' ⟨hlen, out.toList, c, hv, hg⟩) (by rw [g]; exact I2.bare) (fun _ z => nomatch z)
    have e : s' = { ({ s1 with heap := hp, toks := tk } : Shared) with heap := s'.heap, gens := s'.gens, drawn := s'.drawn, toks := s'.toks } := by
      cases s'
      cases o
      rfl
    rw [e]
    exact ⟨.ref p, _, J, rfl, q1 ys p ho hn⟩
  rcases hq with hq | hq
  · obtain ⟨its, r, pl, _⟩ := I1.list hq
    obtain ⟨e1, e2⟩ := vals_keys (P := X.prog) (w := X.w) r
    exact call_setGL (knd := mixKind X.prog X.w) (kf := kfM) ks kfM_ok (I1.ok.hd hc) pl.isList (by rw [e1, List.size_toArray]) hb (fun i v hv => e2 i v (by simpa using hv)) fun hp tk hS hk => fin hp tk hS hk
  · obtain ⟨its, r, pl, _⟩ := I1.tuple hq
    obtain ⟨e1, e2⟩ := vals_keys (P := X.prog) (w := X.w) r
    exact call_setGT (knd := mixKind X.prog X.w) (kf := kfM) ks kfM_ok (I1.ok.hd hc) pl (by rw [e1, List.size_toArray]) hb (fun i v hv => e2 i v (by simpa using hv)) fun hp tk hS hk => fin hp tk hS hk
/-! ### the expression -/
def ssetL (ds : List D) (Q : D → Prop) : Prop := ds.length ≤ 4000 ∧
  ((∃ xs : List Str, ds = xs.map D.str ∧ ∀ zs : List Str, zs.Nodup → (∀ x, x ∈ zs ↔ x ∈ xs) → zs.length ≤ xs.length → sortedS zs = true → Q (.lst (zs.map D.str))) ∨
    ∃ xs : List Int, ds = xs.map D.int ∧ ∀ zs : List Int, zs.Pairwise (· < ·) → (∀ x, x ∈ zs ↔ x ∈ xs) → zs.length ≤ xs.length → Q (.lst (zs.map D.int)))
def sset1 (x : D) (Q : D → Prop) : Prop := match x with
  | .lst ds => ssetL ds Q
  | .tup ds => ssetL ds Q
  | _ => False
theorem ssetL_mono {ds : List D} {Q Q' : D → Prop} (h : ssetL ds Q) (m : ∀ d, Q d → Q' d) : ssetL ds Q' := ⟨h.1, h.2.imp (fun ⟨xs, e, h⟩ => ⟨xs, e, fun zs a b c d => m _ (h zs a b c d)⟩) fun ⟨xs, e, h⟩ => ⟨xs, e, fun zs a b c => m _ (h zs a b c)⟩⟩
theorem sset1_mono {x : D} {Q Q' : D → Prop} (h : sset1 x Q) (m : ∀ d, Q d → Q' d) : sset1 x Q' := by
  cases x with
  | lst ds => exact ssetL_mono h m
  | tup ds => exact ssetL_mono h m
  | _ => exact h.elim
@[simp] theorem sset1_l {ds : List D} {Q : D → Prop} : sset1 (.lst ds) Q = ssetL ds Q := rfl
@[simp] theorem sset1_t {ds : List D} {Q : D → Prop} : sset1 (.tup ds) Q = ssetL ds Q := rfl
def lookSS (c : Ctx) (a : E) : Expr → Bool
  | .Call (.Name x _) [.Call (.Name z _) [y] [] _] [] _ => decide (x = ("sorted" : Str)) && decide (z = ("set" : Str)) && glB c.sc x && glB c.sc z && notStar y && matchE c false a y
  | _ => false
def sset (a : E) : E := .raw (fun c x => lookSS c a x) (fun env Q => semE a env fun x => sset1 x Q) a.vars true
@[simp] theorem sset_mono {a : E} (ma : a.monos) : (sset a).monos := fun env Q Q' h m => (sem_mono a ma).1 _ _ _ h fun x h => sset1_mono h m
@[simp] theorem sem_sset {a : E} {env : DEnv} {Q : D → Prop} : semE (sset a) env Q = semE a env fun x => sset1 x Q := rfl
@[simp] theorem sset_isNil {a : E} : (sset a).isNil = false := rfl
@[simp] theorem sset_fresh {a : E} : (sset a).fresh = true := rfl
@[simp] theorem sset_vars {a : E} : (sset a).vars = a.vars := rfl
theorem dats_strs_ok {K : PySem.W.Frag} {T : Tape} {H : Hp} : ∀ {us : List Str} {ws : List V}, Dats K T H (us.map D.str) ws → ∀ z ∈ us, z.cps.size ≤ 16777216 ∧ PyData.strOk z = true
  | [], _, _, z, hz => by cases hz
  | u :: us, _, h, z, hz => by
    obtain ⟨v, r, rfl, h1, h2⟩ := h
    rcases List.mem_cons.mp hz with rfl | hz
    · exact ⟨h1.2.1, h1.2.2⟩
    · exact dats_strs_ok h2 z hz
theorem sset_need {g : Gx} {a : E} (ma : a.monos) (na : Need g a) (hs : NoG g "sorted") (hr : NoG g "set") : Need g (sset a) := by
  intro X c x hg ok m
  replace m : lookSS c a x = true := m
  subst hg
  unfold lookSS at m
  split at m
  · rename_i f p z p2 y p3 p4
    simp only [Bool.and_eq_true, decide_eq_true_eq] at m
    obtain ⟨⟨⟨⟨⟨rfl, rfl⟩, g5⟩, g6⟩, ns⟩, m5⟩ := m
    obtain ⟨g1, g2, g3⟩ := gl_of ok g5
    obtain ⟨h1, h2, h3⟩ := gl_of ok g6
    have A := (sound a ma).get ok na m5
    refine rawNeed (sset_mono ma) (PE.imp (pe_sortSet ok.calm g1 hs h1 hr A.pe (star_of ns)) fun σ H Q q => ?_) (fun _ => rfl) fun _ _ _ z => nomatch z
    obtain ⟨T, env, O, k, r, q⟩ := q
    refine lift1 ma k r q fun d v H1 e1 k1 hd q => ?_
    have key : ∀ ds l (xs : List V), (SqL X.K H1 l xs ∨ SqT X.K H1 l xs) → Dats X.K T (res H1 O) ds xs → ssetL ds (post X.K T O true H Q) → ∃ (l' : Addr) (ks : List Key), V.ref l = .ref l' ∧ (SqL X.K H1 l' (ks.map kV) ∨ SqT X.K H1 l' (ks.map kV)) ∧ ks.length ≤ 4000 ∧ ((∃ xs : List Str, ks = xs.map Sum.inr) ∨ ∃ ns : List Int, ks = ns.map Sum.inl) ∧
        ∀ ys p, outS ks ys → H1 p = none → Q (.ref p) (upd H1 p (.lst ys)) := fun ds l xs hq hs ⟨hz, q⟩ => by
      rcases q with ⟨us, rfl, q⟩ | ⟨us, rfl, q⟩
      · have e := dats_keys (ks := us.map Sum.inr) (by rw [List.map_map]; exact hs)
        subst e
        rw [List.length_map] at hz
        refine ⟨l, _, rfl, hq, by rw [List.length_map]; exact hz, .inl ⟨us, rfl⟩, fun ys p ho hp => ?_⟩
        rcases ho with ⟨xs', zs, e, rfl, z1, z2, z3, z4⟩ | ⟨xs', zs, e, rfl, z1, z2, z3⟩
        · have e' : us = xs' := by
            have := congrArg (List.map unR) e
            rw [List.map_map, List.map_map] at this
            simpa [unR, Function.comp_def] using this
          subst e'
          rw [List.length_map] at z3
          have sok : ∀ z ∈ zs, z.cps.size ≤ 16777216 ∧ PyData.strOk z = true := fun z hz' => dats_strs_ok hs z ((z2 z).1 hz')
          have dz : ∀ zs : List Str, (∀ z ∈ zs, z.cps.size ≤ 16777216 ∧ PyData.strOk z = true) → Dats X.K T (res H1 O) (zs.map D.str) (zs.map V.str) := fun zs => by
            induction zs with
            | nil => exact fun _ => rfl
            | cons z zs ih => exact fun h => ⟨_, _, rfl, ⟨rfl, (h z List.mem_cons_self).1, (h z List.mem_cons_self).2⟩, ih fun y hy => h y (List.mem_cons_of_mem _ hy)⟩
          exact post.lst k1 (post.ext e1 k1.tape (q zs z1 z2 z3 z4)) (dz zs sok) (by rw [List.length_map]; omega) hp
        · have ez : us = [] := by
            cases us with
            | nil => rfl
            | cons u us =>
              cases xs' with
              | nil => cases e
              | cons b bs => cases e
          subst ez
          have e0 : xs' = [] := by
            cases xs' with
            | nil => rfl
            | cons b bs => cases e
          subst e0
          have zz : zs = [] := by
            cases zs with
            | nil => rfl
            | cons b bs => exact absurd ((z2 b).1 List.mem_cons_self) (by simp)
          subst zz
          exact post.lst k1 (post.ext e1 k1.tape (q [] .nil (fun _ => Iff.rfl) (Nat.le_refl _) rfl)) rfl (by simp) hp
      · have e := dats_keys (ks := us.map Sum.inl) (by rw [List.map_map]; exact hs)
        subst e
        rw [List.length_map] at hz
        refine ⟨l, _, rfl, hq, by rw [List.length_map]; exact hz, .inr ⟨us, rfl⟩, fun ys p ho hp => ?_⟩
        rcases ho with ⟨xs', zs, e, rfl, z1, z2, z3, z4⟩ | ⟨xs', zs, e, rfl, z1, z2, z3⟩
        · have ez : us = [] := by
            cases us with
            | nil => rfl
            | cons u us =>
              cases xs' with
              | nil => cases e
              | cons b bs => cases e
          subst ez
          have e0 : xs' = [] := by
            cases xs' with
            | nil => rfl
            | cons b bs => cases e
          subst e0
          have zz : zs = [] := by
            cases zs with
            | nil => rfl
            | cons b bs => exact absurd ((z2 b).1 List.mem_cons_self) (by simp)
          subst zz
          exact post.lst k1 (post.ext e1 k1.tape (q [] .nil (fun _ => Iff.rfl) (Nat.le_refl _))) rfl (by simp) hp
        · have e' : us = xs' := by
            have := congrArg (List.map unL) e
            rw [List.map_map, List.map_map] at this
            simpa [unL, Function.comp_def] using this
          subst e'
          rw [List.length_map] at z3
          exact post.lst k1 (post.ext e1 k1.tape (q zs z1 z2 z3)) (Dats.of_ints _) (by rw [List.length_map]; omega) hp
    cases d with
    | tup ds =>
      obtain ⟨p, xs, rfl, q2, z, hs⟩ := dat_tup hd
      exact key ds p xs (.inr (SqT.le (res_le _ _) q2)) hs q
    | lst ds =>
      obtain ⟨p, xs, rfl, q2, z, hs⟩ := dat_lst hd
      exact key ds p xs (.inl (SqL.of (res_le _ _ _ _ q2))) hs q
    | _ => exact q.elim
  · cases m
end DL

set_option Elab.async false
set_option linter.all false
set_option maxRecDepth 100000
set_option maxHeartbeats 4000000
/-! DL38: xs[::-1] of a list or a tuple. -/
namespace DL
open PySem PySem.Spec PyProof.Rows L2

theorem fm_congr {α β : Type} {f g : α → Option β} : ∀ {l : List α}, (∀ m ∈ l, f m = g m) → l.filterMap f = l.filterMap g
  | [], _ => rfl
  | a :: l, h => by
    rw [List.filterMap_cons, List.filterMap_cons, h a List.mem_cons_self, fm_congr fun m hm => h m (List.mem_cons_of_mem _ hm)]
section
variable {prog : Program} {w : World} {A : Around} {E : Value → Shared → Prop} {s : Shared}
theorem adjust_rev (n : Nat) : Builtin.Slice.sliceAdjust none none (-1) (n : Int) = ((n : Int) - 1, -1) := by
  first
  | rfl
  | simp [Builtin.Slice.sliceAdjust]
theorem places_rev (n : Nat) : Builtin.Slice.slicePlaces ((n : Int) - 1) (-1) (-1) = n := by
  unfold Builtin.Slice.slicePlaces
  have h1 : ¬ ((-1 : Int) > 0) := by omega
  simp only [h1, if_false]
  split <;> simp <;> omega
theorem applied_rev {sl : Addr} {vs : Value} {n : Nat} {Q : Int × Int × Nat → Shared → Prop} (hs : s.heap.IsSliceOf sl .none .none vs) (ps : IsPart vs (some (-1)))
    (h : Q ((n : Int) - 1, -1, n) s) : wpAny (model prog w) A (Builtin.Slice.sliceApplied (.ref sl) (pure (n : Int))) Q E s := by
  obtain ⟨os, hos, hcs, hds⟩ := id hs
  unfold Builtin.Slice.sliceApplied Builtin.Slice.sliceFields
  refine wpAny_bind (wpAny_bind (wpAny_field hos hds (x := .none) rfl (wpAny_bind (wpAny_field hos hds (x := .none) rfl (wpAny_bind (wpAny_field hos hds (x := vs) rfl (wpAny_pure ?_)))))))
  refine wpAny_bind (HT.slicePart_ ps ?_)
  show wpAny _ _ (if ((-1 : Int) == 0) = true then _ else _) _ _ s
  rw [if_neg (by decide)]
  refine wpAny_bind (HT.slicePart_ .none (wpAny_bind (HT.slicePart_ .none (wpAny_bind (wpAny_pure ?_)))))
  show wpAny _ _ (match Builtin.Slice.sliceAdjust none none (-1) (n : Int) with | (lo, hi) => pure (lo, (-1 : Int), Builtin.Slice.slicePlaces lo hi (-1))) _ _ s
  rw [adjust_rev]
  show wpAny _ _ (pure ((n : Int) - 1, (-1 : Int), Builtin.Slice.slicePlaces ((n : Int) - 1) (-1) (-1))) _ _ s
  rw [places_rev]
  exact wpAny_pure h
theorem pick_rev (xs : Array Value) : ((List.range xs.size).filterMap fun (m : Nat) => xs[(((xs.size : Int) - 1) + (m : Int) * (-1)).toNat]?).toArray = xs.toList.reverse.toArray := by
  congr 1
  have e : ((List.range xs.size).filterMap fun (m : Nat) => xs[(((xs.size : Int) - 1) + (m : Int) * (-1)).toNat]?) = ((List.range xs.size).map fun k => xs.size - 1 - k).filterMap (xs[·]?) := by
    rw [List.filterMap_map]
    refine fm_congr fun m hm => ?_
    have := List.mem_range.mp hm
    show xs[(((xs.size : Int) - 1) + (m : Int) * (-1)).toNat]? = xs[xs.size - 1 - m]?
    rw [show (((xs.size : Int) - 1) + (m : Int) * (-1)).toNat = xs.size - 1 - m by omega]
  rw [e, PySem.W.krv_range, List.filterMap_reverse, PySem.W.krv_all]
theorem getItem_tuple_rev {t sl : Addr} {items : Array Value} {vs : Value} {Q : Value → Shared → Prop} (ht : IsTup s.heap t items) (hs : s.heap.IsSliceOf sl .none .none vs) (ps : IsPart vs (some (-1)))
    (h : Q (.ref s.heap.objs.size) { s with heap := s.heap.push { cls := .type "tuple", data := .seq items.toList.reverse.toArray } })
    (hsz : items.size ≤ sizeLine) : wpAny (model prog w) A (getItem (.ref t) (.ref sl)) Q E s := by
  have htake : sizeOk (.seq items.toList.reverse.toArray) := by
    show items.toList.reverse.toArray.size ≤ sizeLine
    rw [List.size_toArray, List.length_reverse, Array.length_toList]
    omega
  obtain ⟨os, hos, hcs, hds⟩ := id hs
  have hTs : s.TypeIs (.ref sl) "slice" := ⟨os, hos, hcs⟩
  unfold getItem
  try with_reducible refine wpAny_holding ?_
  first | refine wpAny_bind (wpAny_pure ?_) | skip
  refine wpAny_bind (wpAny_sequenceKey ht.typeIs (by decide) ?_)
  refine wpAny_bind (wpAny_callSpecial?_slot (name := Str.ofString "__getitem__") ht.typeIs PyProof.Rows.slot_tuple_getitem
    (wpAny_call_entry PyProof.Rows.slot_tuple_getitem ht.typeIs entry_tuple_getitem ?_ (args_tuple_getitem _ _)))
  show wpAny _ _ (Builtin.Tuple.tupleItemsOf (.ref t) >>= _) _ _ s
  refine wpAny_bind (tupleItemsOf_ ht ?_)
  refine wpAny_bind (wpAny_typeOf hTs ?_)
  rw [if_pos (by decide)]
  refine wpAny_bind (applied_rev hs ps ?_)
  have hno : ¬ (((((items.size : Nat) : Int) - 1) == 0 && (-1 : Int) == 1 && items.size == items.size) = true) := by
    intro q
    rw [Bool.and_eq_true, Bool.and_eq_true] at q
    exact absurd q.1.2 (by decide)
  show wpAny _ _ (if ((((items.size : Nat) : Int) - 1) == 0 && (-1 : Int) == 1 && items.size == items.size) = true then _ else _) _ _ s
  rw [if_neg hno, pick_rev]
  first
    | exact wpAny_bind (m := Builtin.Tuple.tupleExact _) (wpAny_newObj_type (wpAny_pure ⟨_, rfl, wpAny_pure h⟩) htake)
    | exact wpAny_bind (m := Builtin.Tuple.tupleExact _) (wpAny_newObj_type (wpAny_bind (wpAny_pure (wpAny_pure ⟨_, rfl, wpAny_pure h⟩))) htake)
    | exact wpAny_bind (wpAny_bind (m := Builtin.Tuple.tupleExact _) (wpAny_newObj_type (wpAny_pure (wpAny_pure ⟨_, rfl, wpAny_pure h⟩)) htake))
    | exact wpAny_bind (wpAny_bind (m := Builtin.Tuple.tupleExact _) (wpAny_newObj_type (wpAny_pure ⟨_, rfl, wpAny_pure h⟩) htake))
end
def tRevA (K : PySem.W.Frag) (te : TE) : TE := fun σ H Q => te σ H fun x H1 => ∃ a xs, x = .ref a ∧ ((SqL K H1 a xs ∧ ∀ p, H1 p = none → Q (.ref p) (upd H1 p (.lst xs.reverse))) ∨ (SqT K H1 a xs ∧ ∀ p, H1 p = none → Q (.ref p) (upd H1 p (.tup xs.reverse))))
theorem pe_revAny {X : Cx} {e : Expr} {te : TE} {k : Nat} {p1 p2 p3 pos : Pos} (he : PE X e te) : PE X (.Subscript e (.Slice none none (some (.UnaryOp .USub (.Constant (.int 1) k p1) p2)) p3) pos) (tRevA X.K te) := by
  refine ⟨fun pins s σ H Q I h => ?_⟩
  refine Subscript_ (thn (he.run pins s σ H _ I h) fun v s1 ⟨x, H1, I1, r1, q1⟩ => ?_)
  obtain ⟨a, xs, ex, hx⟩ := q1
  subst ex
  cases r1
  have hst : PO X (some (.UnaryOp .USub (.Constant (.int 1) k p1) p2)) (tPart (tUn (rU fun i => .int (-i)) (tC (.int 1)))) := po_some (pe_un un_neg pe_int)
  refine wpAny_Slice (thn (po_none.run pins s1 σ H1 (fun o H2 => o = none ∧ H2 = H1) I1 ⟨rfl, rfl⟩) fun vl s2 ⟨l, H2, I2, pl, el, e2⟩ => ?_)
  subst el e2
  refine thn (po_none.run pins s2 σ H2 (fun o H3 => o = none ∧ H3 = H2) I2 ⟨rfl, rfl⟩) fun vu s3 ⟨u, H3, I3, pu, eu, e3⟩ => ?_
  subst eu e3
  refine thn (hst.run pins s3 σ H3 (fun o H4 => o = some (-1) ∧ H4 = H3) I3 ⟨1, rfl, -1, rfl, rfl, rfl⟩) fun vs s4 ⟨o, H4, I4, ps, eo, e4⟩ => ?_
  subst eo e4
  have I5 : Inv X pins σ H4 { s4 with heap := s4.heap.push { cls := .type "slice", data := .fields #[vl, vu, vs] } } := I4.kept (t' := s4.toks) fun b ob q => Heap.get?_push_of_some _ q
  show wpAny (model X.prog X.w) X.A (subscriptTail e (.Slice none none (some (.UnaryOp .USub (.Constant (.int 1) k p1) p2)) p3) (.ref a) (.ref s4.heap.objs.size)) (EP X pins σ Q) X.xe { s4 with heap := s4.heap.push { cls := .type "slice", data := .fields #[vl, vu, vs] } }
  rcases hx with ⟨hx, q⟩ | ⟨hx, q⟩
  · obtain ⟨its, r, ht, hz⟩ := I5.list hx
    have hlen := r.length
    refine tail_any (ops := [.ref a, .ref s4.heap.objs.size]) ht.isList.typeIs (PySem.slot_list_getitem.lookup) ?_ (by with_unfolding_all rfl)
    refine wpAny_getItem_list_slice ht.isList (Heap.IsSliceOf.new _ vl vu vs) pl pu ps (by decide) ?_ (by rw [List.size_toArray]; omega)
    rw [PySem.W.krv_pick]
    refine ⟨.ref _, _, I5.laid (t' := s4.toks) (o := .lst xs.reverse) (fun b ob q => Heap.get?_push_of_some _ q) (Nat.le_refl _) ?_, rfl, q _ (I5.hok.fresh (Nat.le_refl _))⟩
    exact ⟨by rw [List.length_reverse]; exact hz, _, 0, r.reverse, Heap.get?_push_size _ rfl⟩
  · obtain ⟨its, r, ht, hz⟩ := I5.tuple hx
    have hlen := r.length
    cases pl
    cases pu
    refine tail_any (ops := [.ref a, .ref s4.heap.objs.size]) ht.typeIs (PyProof.Rows.slot_tuple_getitem.lookup) ?_ (by with_unfolding_all rfl)
    refine getItem_tuple_rev ht (Heap.IsSliceOf.new _ _ _ vs) ps ?_ (by rw [List.size_toArray]; omega)
    refine ⟨.ref _, _, I5.laid (t' := s4.toks) (o := .tup xs.reverse) (fun b ob q => Heap.get?_push_of_some _ q) (Nat.le_refl _) ?_, rfl, q _ (I5.hok.fresh (Nat.le_refl _))⟩
    exact ⟨by rw [List.length_reverse]; exact hz, _, r.reverse, IsTup.new _ _⟩
theorem Dats.rev {K : PySem.W.Frag} {T : Tape} {H : Hp} : ∀ {ds : List D} {xs : List V}, Dats K T H ds xs → Dats K T H ds.reverse xs.reverse
  | [], xs, h => by
    have e : xs = [] := h
    subst e
    exact rfl
  | d :: ds, xs, h => by
    obtain ⟨v, r, rfl, h1, h2⟩ := h
    rw [List.reverse_cons, List.reverse_cons]
    exact (Dats.rev h2).append (Dats.one h1)
def rev1 (x : D) (Q : D → Prop) : Prop := match x with
  | .lst ds => Q (.lst ds.reverse)
  | .tup ds => Q (.tup ds.reverse)
  | _ => False
@[simp] theorem rev1_l {ds : List D} {Q : D → Prop} : rev1 (.lst ds) Q = Q (.lst ds.reverse) := rfl
@[simp] theorem rev1_t {ds : List D} {Q : D → Prop} : rev1 (.tup ds) Q = Q (.tup ds.reverse) := rfl
theorem rev1_mono {x : D} {Q Q' : D → Prop} (h : rev1 x Q) (m : ∀ d, Q d → Q' d) : rev1 x Q' := by
  cases x with
  | lst ds => exact m _ h
  | tup ds => exact m _ h
  | _ => exact h.elim
def lookRev (c : Ctx) (a : E) : Expr → Bool
  | .Subscript y (.Slice none none (some (.UnaryOp .USub (.Constant (.int 1) _ _) _)) _) _ => matchE c false a y
  | _ => false
def rev (a : E) : E := .raw (fun c x => lookRev c a x) (fun env Q => semE a env fun x => rev1 x Q) a.vars true
@[simp] theorem rev_mono {a : E} (ma : a.monos) : (rev a).monos := fun env Q Q' h m => (sem_mono a ma).1 _ _ _ h fun x h => rev1_mono h m
@[simp] theorem sem_rev {a : E} {env : DEnv} {Q : D → Prop} : semE (rev a) env Q = semE a env fun x => rev1 x Q := rfl
@[simp] theorem rev_isNil {a : E} : (rev a).isNil = false := rfl
@[simp] theorem rev_fresh {a : E} : (rev a).fresh = true := rfl
@[simp] theorem rev_vars {a : E} : (rev a).vars = a.vars := rfl
theorem rev_need {g : Gx} {a : E} (ma : a.monos) (na : Need g a) : Need g (rev a) := by
  intro X c x hg ok m
  replace m : lookRev c a x = true := m
  subst hg
  unfold lookRev at m
  split at m
  · have A := (sound a ma).get ok na m
    refine rawNeed (rev_mono ma) (PE.imp (pe_revAny A.pe) fun σ H Q q => ?_) (fun _ => rfl) fun _ _ _ z => nomatch z
    obtain ⟨T, env, O, k, r, q⟩ := q
    refine lift1 ma k r q fun d v H1 e1 k1 hd q => ?_
    cases d with
    | tup ds =>
      obtain ⟨p, xs, rfl, q2, z, hs⟩ := dat_tup hd
      exact ⟨p, xs, rfl, .inr ⟨SqT.le (res_le _ _) q2, fun p hp => post.tup k1 (post.ext e1 k1.tape q) hs.rev (by rw [List.length_reverse]; exact z) hp⟩⟩
    | lst ds =>
      obtain ⟨p, xs, rfl, q2, z, hs⟩ := dat_lst hd
      exact ⟨p, xs, rfl, .inl ⟨SqL.of (res_le _ _ _ _ q2), fun p hp => post.lst k1 (post.ext e1 k1.tape q) hs.rev (by rw [List.length_reverse]; exact z) hp⟩⟩
    | _ => exact q.elim
  · cases m
/-- tuple(range(..)) -/
def lookTrg (c : Ctx) (a : E) : Expr → Bool
  | .Call (.Name x _) [.Call (.Name z _) [y] [] _] [] _ => decide (x = ("tuple" : Str)) && decide (z = ("range" : Str)) && glB c.sc x && glB c.sc z && notStar y && matchE c false a y
  | _ => false
def trg (a : E) : E := .raw (fun c x => lookTrg c a x) (fun env Q => semE a env fun x => int1 x fun n => (n ≤ 16777216 ∧ -16777216 ≤ n) ∧ Q (.tup (rangeD 0 n))) a.vars false
@[simp] theorem trg_mono {a : E} (ma : a.monos) : (trg a).monos := fun env Q Q' h m => (sem_mono a ma).1 _ _ _ h fun x h => int1_mono h fun n h => ⟨h.1, m _ h.2⟩
@[simp] theorem sem_trg {a : E} {env : DEnv} {Q : D → Prop} : semE (trg a) env Q = semE a env fun x => int1 x fun n => (n ≤ 16777216 ∧ -16777216 ≤ n) ∧ Q (.tup (rangeD 0 n)) := rfl
@[simp] theorem trg_isNil {a : E} : (trg a).isNil = false := rfl
@[simp] theorem trg_fresh {a : E} : (trg a).fresh = false := rfl
@[simp] theorem trg_vars {a : E} : (trg a).vars = a.vars := rfl
theorem trg_need {g : Gx} {a : E} (ma : a.monos) (na : Need g a) (hs : NoG g "tuple") (hr : NoG g "range") : Need g (trg a) := by
  intro X c x hg ok m
  replace m : lookTrg c a x = true := m
  subst hg
  unfold lookTrg at m
  split at m
  · rename_i f p z p2 y p3 p4
    simp only [Bool.and_eq_true, decide_eq_true_eq] at m
    obtain ⟨⟨⟨⟨⟨rfl, rfl⟩, g5⟩, g6⟩, ns⟩, m5⟩ := m
    obtain ⟨g1, g2, g3⟩ := gl_of ok g5
    obtain ⟨h1, h2, h3⟩ := gl_of ok g6
    have A := (sound a ma).get ok na m5
    refine rawNeed (trg_mono ma) (PE.imp (pe_tupRg ok.calm g1 hs (prg_1 h1 hr A.pe (star_of ns)) rfl) fun σ H Q q => ?_) (fun _ => rfl) fun _ _ _ z => nomatch z
    obtain ⟨T, env, O, k, r, q⟩ := q
    refine lift1 ma k r q fun d v H1 e1 k1 hd q => ?_
    cases d with
    | int n =>
      obtain ⟨⟨z1, z2⟩, q⟩ := q
      refine ⟨n, by rw [show v = V.int n from hd], ⟨by omega, by omega, by omega, by omega, by omega⟩, fun p hp => ?_⟩
      have e : rangeD 0 n = ((List.range (n - 0).toNat).map fun i => (0 : Int) + (i : Nat)).map D.int := by
        unfold rangeD
        rw [List.map_map]
        rfl
      have e2 : rgV 0 n = ((List.range (n - 0).toNat).map fun i => (0 : Int) + (i : Nat)).map V.int := by
        unfold rgV
        rw [List.map_map]
        rfl
      rw [e] at q
      rw [e2]
      exact post.tup k1 (post.ext e1 k1.tape q) (Dats.of_ints _) (by simp; omega) hp
    | _ => exact q.elim
  · cases m
end DL

set_option Elab.async false
set_option linter.all false
set_option maxRecDepth 100000
set_option maxHeartbeats 4000000
/-! DL39: min(a list of tuples of ints). -/
namespace DL
open PySem PySem.Spec PyProof.Rows L2

/-- the first difference decides -/
abbrev ltL (a b : List Int) : Bool := PySem.W.listLt a b
theorem ltL_nn : ltL [] [] = false := rfl
theorem ltL_nc (y : Int) (ys : List Int) : ltL [] (y :: ys) = true := rfl
theorem ltL_cn (y : Int) (ys : List Int) : ltL (y :: ys) [] = false := rfl
theorem ltL_cc (x y : Int) (xs ys : List Int) : ltL (x :: xs) (y :: ys) = if x = y then ltL xs ys else decide (x < y) := rfl
theorem ltL_irr : ∀ a : List Int, ltL a a = false
  | [] => rfl
  | x :: xs => by rw [ltL_cc, if_pos rfl, ltL_irr xs]
theorem ltL_tr : ∀ {a b c : List Int}, ltL a b = true → ltL b c = true → ltL a c = true
  | [], [], c, h, _ => by cases h
  | [], y :: ys, [], _, h => by cases h
  | [], y :: ys, z :: zs, _, _ => rfl
  | x :: xs, [], c, h, _ => by cases h
  | x :: xs, y :: ys, [], _, h => by cases h
  | x :: xs, y :: ys, z :: zs, h1, h2 => by
    rw [ltL_cc] at h1 h2 ⊢
    by_cases c1 : x = y
    · by_cases c2 : y = z
      · rw [if_pos c1] at h1
        rw [if_pos c2] at h2
        rw [if_pos (c1.trans c2)]
        exact ltL_tr h1 h2
      · rw [if_neg c2] at h2
        rw [c1, if_neg c2]
        exact h2
    · rw [if_neg c1, decide_eq_true_eq] at h1
      by_cases c2 : y = z
      · rw [← c2, if_neg c1]
        exact decide_eq_true h1
      · rw [if_neg c2, decide_eq_true_eq] at h2
        rw [if_neg (by omega)]
        exact decide_eq_true (by omega)
theorem minOf_low (x : W.Tup Int) (xs : List (W.Tup Int)) : ∀ y ∈ x :: xs, ltL y.items (W.minOf x xs).items = false := by
  have key : ∀ (l : List (W.Tup Int)) (acc : W.Tup Int) (P : W.Tup Int → Prop), (∀ z, P z → ltL z.items acc.items = false) → ∀ z, (P z ∨ z ∈ l ∨ z = acc) → ltL z.items (l.foldl (fun a y => if W.DatumOrd.lt y a = true then y else a) acc).items = false := by
    intro l
    induction l with
    | nil =>
      intro acc P hP z hz
      rcases hz with hz | hz | rfl
      · exact hP z hz
      · cases hz
      · exact ltL_irr _
    | cons y l ih =>
      intro acc P hP z hz
      rw [List.foldl_cons]
      by_cases c : W.DatumOrd.lt y acc = true
      · rw [if_pos c]
        have c' : ltL y.items acc.items = true := c
        refine ih y (fun u => P u ∨ u = acc) (fun u hu => ?_) z ?_
        · rcases hu with hu | rfl
          · cases q : ltL u.items y.items with
            | false => rfl
            | true => exact absurd (hP u hu) (by rw [ltL_tr q c']; decide)
          · cases q : ltL u.items y.items with
            | false => rfl
            | true => exact absurd (ltL_tr q c') (by rw [ltL_irr]; decide)
        · rcases hz with hz | hz | rfl
          · exact .inl (.inl hz)
          · rcases List.mem_cons.mp hz with rfl | hz
            · exact .inr (.inr rfl)
            · exact .inr (.inl hz)
          · exact .inl (.inr rfl)
      · rw [if_neg c]
        have c' : ltL y.items acc.items = false := by
          cases q : ltL y.items acc.items with
          | false => rfl
          | true => exact absurd q c
        refine ih acc (fun u => P u ∨ u = y) (fun u hu => ?_) z ?_
        · rcases hu with hu | rfl
          · exact hP u hu
          · exact c'
        · rcases hz with hz | hz | rfl
          · exact .inl (.inl hz)
          · rcases List.mem_cons.mp hz with rfl | hz
            · exact .inl (.inr rfl)
            · exact .inr (.inl hz)
          · exact .inr (.inr rfl)
  intro y hy
  rcases List.mem_cons.mp hy with rfl | hy
  · exact key xs y (fun _ => False) (fun _ h => h.elim) y (.inr (.inr rfl))
  · exact key xs x (fun _ => False) (fun _ h => h.elim) y (.inr (.inl hy))
def pyT (l : List Int) : PyData := .tuple (l.map PyData.int)
def rMinT (K : PySem.W.Frag) : List V → Hp → VK → Prop := fun vs H Q => ∃ (a : Addr) (ws : List V) (x : List Int) (xs : List (List Int)), vs = [V.ref a] ∧ SqL K H a ws ∧ DpAll K H ws ((x :: xs).map pyT) ∧
  ∀ (i : Nat) (v : V) (m : List Int), ws[i]? = some v → (x :: xs)[i]? = some m → (∀ y ∈ x :: xs, ltL y m = false) → Q v H
theorem cr_minT {X : Cx} (hc : X.calm = true) (hu : X.A.units + 65 < cLine) : CallR X (.builtin "min") (rMinT X.K) := by
  intro pins s σ H vs us Q I r h
  obtain ⟨a, ws, x, xs, rfl, hs, hd, q⟩ := h
  obtain ⟨its, rv, hl, _⟩ := I.list hs
  rw [Vals.ref1 r]
  obtain ⟨as, hr⟩ := Dp.readsAll I _ _ _ hd rv
  have HA : W.HoldAll s.heap its.toArray.toList (W.Tup.mk x :: xs.map W.Tup.mk) := ⟨as, by
    have e : (W.Tup.mk x :: xs.map W.Tup.mk).map W.Datum.toD = (x :: xs).map pyT := by
      rw [List.map_cons, List.map_cons, List.map_map]
      rfl
    rw [e]
    simpa using hr⟩
  refine W.min_list_datum (I.ok.hd hc) hl.isList HA (by show X.A.units + 1 + 1 < cLine; omega) fun i v h' tk hi Hv hk => ?_
  have hi' : its[i]? = some v := by simpa using hi
  obtain ⟨y, hy, Hy⟩ := HA.at (i := i) (v := v) (by simpa using hi')
  obtain ⟨as1, r1⟩ := Hv
  obtain ⟨as2, r2⟩ := Hy.keeps hk
  have ey := (reads_det (fun b o e _ => e) r1 r2).1
  have em : y = W.minOf (W.Tup.mk x) (xs.map W.Tup.mk) := by
    have := W.Datum.eqv y (W.minOf (W.Tup.mk x) (xs.map W.Tup.mk))
    rw [ey, W.Datum.eqv, decide_eq_true rfl] at this
    exact of_decide_eq_true this.symm
  have hlt : i < ws.length := by
    rw [rv.length]
    exact (List.getElem?_eq_some_iff.mp hi').1
  obtain ⟨u, hu', ru⟩ := rv.get (i := i) (x := ws[i]) (List.getElem?_eq_getElem hlt)
  rw [hi'] at hu'
  cases hu'
  refine ⟨ws[i], H, I.kept hk, ru, q i ws[i] y.items (List.getElem?_eq_getElem hlt) ?_ ?_⟩
  · have e : (W.Tup.mk x :: xs.map W.Tup.mk) = (x :: xs).map W.Tup.mk := rfl
    rw [e, List.getElem?_map] at hy
    cases q : (x :: xs)[i]? with
    | none => rw [q] at hy; cases hy
    | some z =>
      rw [q] at hy
      cases hy
      rfl
  · intro z hz
    rw [em]
    exact minOf_low _ _ (W.Tup.mk z) (by
      rcases List.mem_cons.mp hz with rfl | hz
      · exact List.mem_cons_self
      · exact List.mem_cons_of_mem _ (List.mem_map.mpr ⟨z, hz, rfl⟩))
/-- min of a list of tuples of ints -/
def tD (l : List Int) : D := .tup (l.map D.int)
def mnT1 (x : D) (Q : D → Prop) : Prop := match x with
  | .lst ds => ∃ (x : List Int) (xs : List (List Int)), ds = (x :: xs).map tD ∧ ∀ m ∈ x :: xs, (∀ y ∈ x :: xs, ltL y m = false) → Q (tD m)
  | _ => False
theorem mnT1_mono {x : D} {Q Q' : D → Prop} (h : mnT1 x Q) (m : ∀ d, Q d → Q' d) : mnT1 x Q' := by
  cases x with
  | lst ds =>
    obtain ⟨x, xs, e, h⟩ := h
    exact ⟨x, xs, e, fun z h1 h2 => m _ (h z h1 h2)⟩
  | _ => exact h.elim
def lookMnT (c : Ctx) (a : E) : Expr → Bool
  | .Call (.Name x _) [y] [] _ => decide (x = ("min" : Str)) && glB c.sc x && notStar y && matchE c false a y
  | _ => false
def mnT (a : E) : E := .raw (fun c x => lookMnT c a x) (fun env Q => semE a env fun x => mnT1 x Q) a.vars false
@[simp] theorem mnT_mono {a : E} (ma : a.monos) : (mnT a).monos := fun env Q Q' h m => (sem_mono a ma).1 _ _ _ h fun x h => mnT1_mono h m
@[simp] theorem sem_mnT {a : E} {env : DEnv} {Q : D → Prop} : semE (mnT a) env Q = semE a env fun x => mnT1 x Q := rfl
@[simp] theorem mnT1_l {ds : List D} {Q : D → Prop} : mnT1 (.lst ds) Q = ∃ (x : List Int) (xs : List (List Int)), ds = (x :: xs).map tD ∧ ∀ m ∈ x :: xs, (∀ y ∈ x :: xs, ltL y m = false) → Q (tD m) := rfl
@[simp] theorem mnT_isNil {a : E} : (mnT a).isNil = false := rfl
@[simp] theorem mnT_fresh {a : E} : (mnT a).fresh = false := rfl
@[simp] theorem mnT_vars {a : E} : (mnT a).vars = a.vars := rfl
theorem shal_tD (n : Nat) (l : List Int) : shal (n + 1) (tD l) = true := by
  unfold tD
  rw [shal_tup, List.all_eq_true]
  intro d hd
  obtain ⟨i, _, rfl⟩ := List.mem_map.mp hd
  cases n <;> rfl
theorem pys_int : ∀ l : List Int, D.pys (l.map D.int) = l.map PyData.int
  | [] => by simp [D.pys]
  | i :: l => by simp [D.pys, D.py, pys_int l]
theorem pys_tD : ∀ xs : List (List Int), D.pys (xs.map tD) = xs.map pyT
  | [] => by simp [D.pys]
  | x :: xs => by
    rw [List.map_cons, List.map_cons, ← pys_tD xs]
    simp only [D.pys]
    congr 1
    unfold tD pyT
    simp only [D.py]
    rw [pys_int]
theorem mnT_need {g : Gx} {a : E} (ma : a.monos) (na : Need g a) (hs : NoG g "min") : Need g (mnT a) := by
  intro X c x hg ok m
  replace m : lookMnT c a x = true := m
  subst hg
  unfold lookMnT at m
  split at m
  · rename_i f p y pos
    simp only [Bool.and_eq_true, decide_eq_true_eq] at m
    obtain ⟨⟨⟨rfl, g5⟩, ns⟩, m5⟩ := m
    obtain ⟨g1, g2, g3⟩ := gl_of ok g5
    have A := (sound a ma).get ok na m5
    refine rawNeed (mnT_mono ma) (PE.imp (pe_callB (cr_minT ok.calm ok.hu) g1 hs (by decide +kernel) (pa_cons A.pe pa_nil (star_of ns)) (by decide) (by decide) (star_of ns)) fun σ H Q q => ?_) (fun _ => rfl) fun _ _ _ z => nomatch z
    obtain ⟨T, env, O, k, r, q⟩ := q
    refine lift1 ma k r q fun d v H1 e1 k1 hd q => ?_
    cases d with
    | lst ds =>
      obtain ⟨x, xs, rfl, q⟩ := q
      obtain ⟨a, ws, rfl, hq, z, hs⟩ := dat_lst hd
      obtain ⟨d1, _, _⟩ := dats_dp (res_le _ _) _ 9 _ (fun d hd => by
        obtain ⟨l, _, rfl⟩ := List.mem_map.mp hd
        exact shal_tD 8 l) hs
      rw [pys_tD] at d1
      refine ⟨_, ws, x, xs, rfl, SqL.of (res_le _ _ _ _ hq), d1, fun i v m h1 h2 h3 => ?_⟩
      obtain ⟨d, hd1, hd2⟩ := hs.get' h1
      rw [List.getElem?_map, h2] at hd1
      cases hd1
      exact post.here k1 (post.ext e1 k1.tape (q m (List.mem_of_getElem? h2) h3)) hd2 fun _ ds e => by cases e
    | _ => exact q.elim
  · cases m
end DL

set_option Elab.async false
set_option linter.all false
set_option maxRecDepth 100000
set_option maxHeartbeats 4000000
/-! DL40: L.append(M.pop(e)). -/
namespace DL
open PySem PySem.Spec PyProof.Rows L2

def popPut (i j : Nat) (en : DEnds) (env : DEnv) (ds : List D) (x : D) : Prop := match x with
  | .int k => ∃ m d, ixN ds.length k = some m ∧ ds[m]? = some d ∧ ownL (env.set j (.ow (.lst (ds.eraseIdx m)))) i fun es => es.length < 16777216 ∧ en.nx ((env.set j (.ow (.lst (ds.eraseIdx m)))).set i (.ow (.lst (es ++ [d]))))
  | _ => False
def semAP (i j : Nat) (e : E) (en : DEnds) (env : DEnv) : Prop := ownL env i fun _ => ownL env j fun ds => semE e env fun x => popPut i j en env ds x
theorem popPut_mono {i j : Nat} {en en' : DEnds} (le : ∀ e, en.nx e → en'.nx e) {env : DEnv} {ds : List D} {x : D} (h : popPut i j en env ds x) : popPut i j en' env ds x := by
  cases x with
  | int k =>
    obtain ⟨m, d, h1, h2, h3⟩ := h
    exact ⟨m, d, h1, h2, ownL_mono h3 fun es ⟨h4, h5⟩ => ⟨h4, le _ h5⟩⟩
  | _ => exact h.elim
def lookAP (c : Ctx) (i j : Nat) (e : E) (st : Stmt) : Bool := match vExpr st with
  | some (x, _) => match vM1 x with
    | some (a, b, m, d, y, f) => m1B c i "append" (some (a, b, m, d, y, f)) && (match vM1 y with
      | some (a2, b2, m2, d2, y2, f2) => m1B c j "pop" (some (a2, b2, m2, d2, y2, f2)) && matchE c false e y2
      | none => false)
    | none => false
  | none => false
def appPop (i j : Nat) (e : E) : S := .raw (fun c st => lookAP c i j e st) (fun en env => semAP i j e en env)
@[simp] theorem appPop_mono {i j : Nat} {e : E} (me : e.monos) : (appPop i j e).monos := fun p q le env h => ownL_mono h fun _ h => ownL_mono h fun ds h => (sem_mono e me).1 _ _ _ h fun x h => popPut_mono (fun e => le.1 e) h
@[simp] theorem semS_appPop {i j : Nat} {e : E} {en : DEnds} {env : DEnv} : semS (appPop i j e) en env = semAP i j e en env := rfl
section
variable {K : PySem.W.Frag} {T : Tape} {O W W1 : List Addr} {σ : L2.St} {env : DEnv} {H H1 : Hp} {n : Nat} {D : Ends}
theorem appPop_read {i j : Nat} {e : E} (hm : e.monos) (h : liftS K n (appPop i j e) D σ H) : tDrop (tBM K "list" rAppend (tVar i) (tCons (tBM K "list" rPopAt (tVar j) (tCons (liftE K e) tNil)) tNil)) D σ H := by
  obtain ⟨T, O, W, env, r, l, h⟩ := h
  replace h : semAP i j e _ env := h
  obtain ⟨ds0, he0, h⟩ := own_get h
  obtain ⟨dsj, hej, h⟩ := own_get h
  obtain ⟨ds, p, xs, e1, hs, hp, hx, hz, hd0⟩ := r.ow i _ he0
  obtain ⟨ds', q, ys, e2, hsj, hpj, hxj, hzj, hdj⟩ := r.ow j _ hej
  cases e2
  refine ⟨.ref p, hs, .inl ⟨rfl, xs, SqL.of hx⟩, ?_⟩
  refine ⟨.ref q, hsj, .inl ⟨rfl, ys, SqL.of hxj⟩, ?_⟩
  refine r.eval hm h fun d v H1 ex t hd hf hq => ?_
  cases d with
  | int k =>
    obtain ⟨m, dd, hm1, hm2, hq⟩ := hq
    have hx1 := ex _ _ hxj (r.ntT q hpj)
    have hl := hdj.length
    rw [← hl] at hm1
    obtain ⟨q1, q2, q3, q4⟩ := ixN_seq hm1
    refine ⟨q, ys, k, m, ys[m], rfl, by rw [show v = V.int k from hd], hx1, by omega, by omega, q1, List.getElem?_eq_getElem q2, ?_⟩
    have hdj1 := hdj.le (r.okW.res ex)
    obtain ⟨r4, f4⟩ := (r.ext ex t).write (ds := dsj.eraseIdx m) (xs := ys.eraseIdx m) hej hsj hpj (Nat.le_trans (len_erase _ _) hzj) (hdj1.erase m)
    obtain ⟨u, hu, hdv⟩ := hdj1.get hm2
    rw [List.getElem?_eq_getElem q2] at hu
    cases hu
    have hdv2 : Dat K T (res (upd H1 q (.lst (ys.eraseIdx m))) (W ++ O)) dd ys[m] := hdv.le fun b o z => by
      obtain ⟨nb, z⟩ := res_some z
      exact res_of nb (by rw [upd_ne fun z => nb (by rw [z]; exact List.mem_append_left _ hpj)]; exact z)
    obtain ⟨es, hei, hlt, hq⟩ := own_get hq
    obtain ⟨ds3, p3, xs3, e3, hs3, hp3, hx3, hz3, hd3⟩ := r4.ow i _ hei
    cases e3
    rw [hs] at hs3
    cases hs3
    have hl3 := hd3.length
    refine ⟨p, xs3, ys[m], rfl, rfl, hx3, by rw [sizeLine_eq]; omega, ?_⟩
    obtain ⟨r5, f5⟩ := r4.write (ds := es ++ [dd]) (xs := xs3 ++ [ys[m]]) hei hs hp3 (by rw [List.length_append]; show xs3.length + 1 ≤ 16777216; omega) (hd3.append (Dats.one hdv2))
    exact hq σ _ _ r5 l (((Frm.ext ex t).trans f4).trans f5)
  | _ => exact hq.elim
end
@[simp] theorem appPop_need {g : Gx} {i j : Nat} {e : E} (me : e.monos) (ne : Need g e) : NeedS g (appPop i j e) := by
  intro X c st hg ok hp hk m
  replace m : lookAP c i j e st = true := m
  subst hg
  unfold lookAP at m
  split at m
  · rename_i h
    cases vExpr_eq h
    split at m
    · rename_i h2
      cases vM1_eq h2
      rw [Bool.and_eq_true] at m
      obtain ⟨mo, m⟩ := m
      split at m
      · rename_i h3
        cases vM1_eq h3
        rw [Bool.and_eq_true] at m
        obtain ⟨rfl, m2, m3, m4⟩ := m1_parts mo
        obtain ⟨rfl, n2, n3, n4⟩ := m1_parts m.1
        have A := (sound e me).get ok ne m.2
        exact PS.imp (ps_expr (pe_bm PySem.F.plainAttrs_list PySem.F.slot_list_append PySem.F.type_list_append mt_append (var_pe ok m2) (pa_cons (pe_bm PySem.F.plainAttrs_list PySem.F.slot_list_pop PySem.F.type_list_pop mt_popAt (var_pe ok n2) (pa_cons A.pe pa_nil (star_of n3)) rfl (few_of n3) n4 (star_of n3) rfl) pa_nil (star_of m3)) rfl (few_of m3) m4 (star_of m3) rfl) rfl) fun D σ H q => appPop_read me q
      · cases m
    · cases m
  · cases m
end DL

set_option Elab.async false
set_option linter.all false
set_option maxRecDepth 100000
set_option maxHeartbeats 4000000
/-! DL41: sorted(a list of pairs of ints), sorted(set(a list of pairs)), xs.count(x) of texts. -/
namespace DL
open PySem PySem.Spec PyProof.Rows L2

def cd (p : Nat × Nat) : Nat := p.1 * 64 + p.2
def prI (p : Nat × Nat) : List Int := [(p.1 : Int), (p.2 : Int)]
def pqD (p : Nat × Nat) : D := .tup ((prI p).map D.int)
def Sm (ps : List (Nat × Nat)) : Prop := ps.length < 64 ∧ ∀ p ∈ ps, p.1 < 64 ∧ p.2 < 64
theorem prI_inj {p q : Nat × Nat} (h : prI p = prI q) : p = q := by
  unfold prI at h
  injection h with h1 h2
  injection h2 with h2 _
  exact Prod.ext (by omega) (by omega)
theorem prI_bd {p : Nat × Nat} (h : p.1 < 64 ∧ p.2 < 64) : (prI p).length = 2 ∧ TS.Bd 64 (prI p) := ⟨rfl, fun m hm => by
  rcases List.mem_cons.mp hm with rfl | hm
  · omega
  · rcases List.mem_cons.mp hm with rfl | hm
    · omega
    · cases hm⟩
theorem prI_code (p : Nat × Nat) : TS.code 64 (prI p) = (cd p : Nat) := by
  unfold prI cd
  rw [L2.code_pair]
  omega
section
variable {K : PySem.W.Frag} {T : Tape} {H : Hp}
theorem dat_pr {p : Nat × Nat} {v : V} (h : Dat K T H (pqD p) v) : ∃ t, v = V.ref t ∧ SqT K H t ((prI p).map V.int) := by
  obtain ⟨a, xs, rfl, hq, z, hs⟩ := dat_tup (ds := (prI p).map D.int) h
  cases hs.ints
  exact ⟨a, rfl, hq⟩
theorem dat_prU {p : Nat × Nat} {v : V} (h : Dat K T H (pqD p) v) : TupI K H v (prI p) := by
  obtain ⟨t, rfl, hq⟩ := dat_pr h
  exact ⟨t, rfl, hq⟩
theorem dats_prs : ∀ {ps : List (Nat × Nat)} {ws : List V}, Dats K T H (ps.map pqD) ws → ∃ ks : List (Addr × List Int), ws = ks.map (fun p => V.ref p.1) ∧ ks.map (·.2) = ps.map prI ∧ ∀ k ∈ ks, SqT K H k.1 (k.2.map V.int) ∧ ∃ p ∈ ps, k.2 = prI p ∧ Dat K T H (pqD p) (V.ref k.1)
  | [], ws, h => ⟨[], h, rfl, fun k hk => by cases hk⟩
  | p :: ps, ws, h => by
    obtain ⟨v, r, rfl, h1, h2⟩ := h
    obtain ⟨ks, rfl, e, g⟩ := dats_prs h2
    obtain ⟨t, rfl, hq⟩ := dat_pr h1
    refine ⟨(t, prI p) :: ks, rfl, by rw [List.map_cons, List.map_cons, e], fun k hk => ?_⟩
    rcases List.mem_cons.mp hk with rfl | hk
    · exact ⟨hq, p, List.mem_cons_self, rfl, h1⟩
    · obtain ⟨g1, q, hq1, g2⟩ := g k hk
      exact ⟨g1, q, List.mem_cons_of_mem _ hq1, g2⟩
theorem dats_permP {ws ys : List V} (h : ws.Perm ys) : ∀ ps : List (Nat × Nat), Dats K T H (ps.map pqD) ws → ∃ zs : List (Nat × Nat), zs.Perm ps ∧ Dats K T H (zs.map pqD) ys := by
  induction h with
  | nil => exact fun ps h => ⟨ps, List.Perm.refl _, h⟩
  | cons x hp ih =>
    intro ps h
    cases ps with
    | nil => exact absurd (show _ :: _ = [] from h) (fun z => nomatch z)
    | cons p ps =>
      obtain ⟨v, r, e, h1, h2⟩ := h
      cases e
      obtain ⟨zs, z1, z2⟩ := ih ps h2
      exact ⟨p :: zs, z1.cons p, _, _, rfl, h1, z2⟩
  | swap x y l =>
    intro ps h
    cases ps with
    | nil => exact absurd (show _ :: _ = [] from h) (fun z => nomatch z)
    | cons p ps =>
      obtain ⟨v, r, e, h1, h2⟩ := h
      cases e
      cases ps with
      | nil => exact absurd (show _ :: _ = [] from h2) (fun z => nomatch z)
      | cons q ps =>
        obtain ⟨v, r, e, h3, h4⟩ := h2
        cases e
        exact ⟨q :: p :: ps, List.Perm.swap p q ps, _, _, rfl, h3, _, _, rfl, h1, h4⟩
  | trans h1 h2 ih1 ih2 =>
    intro ps h
    obtain ⟨zs, z1, z2⟩ := ih1 ps h
    obtain ⟨ys, y1, y2⟩ := ih2 zs z2
    exact ⟨ys, y1.trans z1, y2⟩
theorem dats_memP : ∀ {ps : List (Nat × Nat)} {ws : List V}, Dats K T H (ps.map pqD) ws → (∀ p ∈ ps, ∃ v ∈ ws, Dat K T H (pqD p) v) ∧ ∀ v ∈ ws, ∃ p ∈ ps, Dat K T H (pqD p) v
  | [], ws, h => by
    have : ws = [] := h
    subst this
    exact ⟨fun p hp => (by cases hp), fun p hp => (by cases hp)⟩
  | p :: ps, ws, h => by
    obtain ⟨v, r, rfl, h1, h2⟩ := h
    obtain ⟨g1, g2⟩ := dats_memP h2
    refine ⟨fun q hq => ?_, fun u hu => ?_⟩
    · rcases List.mem_cons.mp hq with rfl | hq
      · exact ⟨v, List.mem_cons_self, h1⟩
      · obtain ⟨u, hu, hd⟩ := g1 q hq
        exact ⟨u, List.mem_cons_of_mem _ hu, hd⟩
    · rcases List.mem_cons.mp hu with rfl | hu
      · exact ⟨p, List.mem_cons_self, h1⟩
      · obtain ⟨q, hq, hd⟩ := g2 u hu
        exact ⟨q, List.mem_cons_of_mem _ hq, hd⟩
theorem dats_pairW : ∀ {zs : List (Nat × Nat)} {ys : List V}, Dats K T H (zs.map pqD) ys → ys.Pairwise (fun x y => ∀ n m, TupI K H x n → TupI K H y m → TS.code 64 n ≤ TS.code 64 m) → zs.Pairwise fun p q => cd p ≤ cd q
  | [], ys, _, _ => .nil
  | p :: zs, ys, h, hp => by
    obtain ⟨v, r, rfl, h1, h2⟩ := h
    obtain ⟨hp1, hp2⟩ := List.pairwise_cons.mp hp
    refine List.pairwise_cons.mpr ⟨fun q hq => ?_, dats_pairW h2 hp2⟩
    obtain ⟨u, hu, hd⟩ := (dats_memP h2).1 q hq
    have := hp1 u hu _ _ (dat_prU h1) (dat_prU hd)
    rw [prI_code, prI_code] at this
    omega
end
/-! ### sorted of a list of pairs -/
def srtP1 (x : D) (Q : D → Prop) : Prop := match x with
  | .lst ds => ∃ ps : List (Nat × Nat), ds = ps.map pqD ∧ Sm ps ∧ ∀ zs : List (Nat × Nat), zs.Perm ps → zs.Pairwise (fun p q => cd p ≤ cd q) → Q (.lst (zs.map pqD))
  | _ => False
theorem srtP1_mono {x : D} {Q Q' : D → Prop} (h : srtP1 x Q) (m : ∀ d, Q d → Q' d) : srtP1 x Q' := by
  cases x with
  | lst ds =>
    obtain ⟨x, e, e2, h⟩ := h
    exact ⟨x, e, e2, fun z h1 h2 => m _ (h z h1 h2)⟩
  | _ => exact h.elim
def srtP (a : E) : E := .raw (fun c x => lookSrt c a x) (fun env Q => semE a env fun x => srtP1 x Q) a.vars true
@[simp] theorem srtP_mono {a : E} (ma : a.monos) : (srtP a).monos := fun env Q Q' h m => (sem_mono a ma).1 _ _ _ h fun x h => srtP1_mono h m
@[simp] theorem sem_srtP {a : E} {env : DEnv} {Q : D → Prop} : semE (srtP a) env Q = semE a env fun x => srtP1 x Q := rfl
@[simp] theorem srtP1_l {ds : List D} {Q : D → Prop} : srtP1 (.lst ds) Q = ∃ ps : List (Nat × Nat), ds = ps.map pqD ∧ Sm ps ∧ ∀ zs : List (Nat × Nat), zs.Perm ps → zs.Pairwise (fun p q => cd p ≤ cd q) → Q (.lst (zs.map pqD)) := rfl
@[simp] theorem srtP_isNil {a : E} : (srtP a).isNil = false := rfl
@[simp] theorem srtP_fresh {a : E} : (srtP a).fresh = true := rfl
@[simp] theorem srtP_vars {a : E} : (srtP a).vars = a.vars := rfl
theorem srtP_need {g : Gx} {a : E} (ma : a.monos) (na : Need g a) (hs : NoG g "sorted") : Need g (srtP a) := by
  intro X c x hg ok m
  replace m : lookSrt c a x = true := m
  subst hg
  unfold lookSrt at m
  split at m
  · rename_i f p y pos
    simp only [Bool.and_eq_true, decide_eq_true_eq] at m
    obtain ⟨⟨⟨rfl, g5⟩, ns⟩, m5⟩ := m
    obtain ⟨g1, g2, g3⟩ := gl_of ok g5
    have A := (sound a ma).get ok na m5
    refine rawNeed (srtP_mono ma) (PE.imp (pe_callB (cr_sortT (d := 2) (B := 64) (by decide)) g1 hs (by decide +kernel) (pa_cons A.pe pa_nil (star_of ns)) (by decide) (by decide) (star_of ns)) fun σ H Q q => ?_) (fun _ => rfl) fun _ _ _ z => nomatch z
    obtain ⟨T, env, O, k, r, q⟩ := q
    refine lift1 ma k r q fun d v H1 e1 k1 hd q => ?_
    cases d with
    | lst ds =>
      obtain ⟨ps, rfl, ⟨hz, hb⟩, q⟩ := q
      obtain ⟨a, ws, rfl, hq, z, hs⟩ := dat_lst hd
      have hl := hs.length
      rw [List.length_map] at hl
      refine ⟨_, ws, rfl, SqL.of (res_le _ _ _ _ hq), by omega, fun x hx => ?_, fun ys p hp hw hn => ?_⟩
      · obtain ⟨p, hp, hd⟩ := (dats_memP hs).2 x hx
        exact ⟨prI p, dat_prU (Dat.le (res_le _ _) _ _ hd), (prI_bd (hb p hp)).1, (prI_bd (hb p hp)).2⟩
      · obtain ⟨zs, z1, z2⟩ := dats_permP hp.symm ps hs
        refine post.lst k1 (post.ext e1 k1.tape (q zs z1 ?_)) z2 ?_ hn
        · exact dats_pairW (Dats.le (res_le _ _) _ _ z2) hw
        · rw [hp.length_eq]
          exact z
    | _ => exact q.elim
  · cases m
/-! ### sorted(set(a list of pairs)) -/
def ssP1 (x : D) (Q : D → Prop) : Prop := match x with
  | .lst ds => ∃ ps : List (Nat × Nat), ds = ps.map pqD ∧ Sm ps ∧ ∀ zs : List (Nat × Nat), zs.Nodup → (∀ p, p ∈ zs ↔ p ∈ ps) → zs.Pairwise (fun p q => cd p ≤ cd q) → Q (.lst (zs.map pqD))
  | _ => False
theorem ssP1_mono {x : D} {Q Q' : D → Prop} (h : ssP1 x Q) (m : ∀ d, Q d → Q' d) : ssP1 x Q' := by
  cases x with
  | lst ds =>
    obtain ⟨x, e, e2, h⟩ := h
    exact ⟨x, e, e2, fun z h1 h2 h3 => m _ (h z h1 h2 h3)⟩
  | _ => exact h.elim
def ssP (a : E) : E := .raw (fun c x => lookSS c a x) (fun env Q => semE a env fun x => ssP1 x Q) a.vars true
@[simp] theorem ssP_mono {a : E} (ma : a.monos) : (ssP a).monos := fun env Q Q' h m => (sem_mono a ma).1 _ _ _ h fun x h => ssP1_mono h m
@[simp] theorem sem_ssP {a : E} {env : DEnv} {Q : D → Prop} : semE (ssP a) env Q = semE a env fun x => ssP1 x Q := rfl
@[simp] theorem ssP1_l {ds : List D} {Q : D → Prop} : ssP1 (.lst ds) Q = ∃ ps : List (Nat × Nat), ds = ps.map pqD ∧ Sm ps ∧ ∀ zs : List (Nat × Nat), zs.Nodup → (∀ p, p ∈ zs ↔ p ∈ ps) → zs.Pairwise (fun p q => cd p ≤ cd q) → Q (.lst (zs.map pqD)) := rfl
@[simp] theorem ssP_isNil {a : E} : (ssP a).isNil = false := rfl
@[simp] theorem ssP_fresh {a : E} : (ssP a).fresh = true := rfl
@[simp] theorem ssP_vars {a : E} : (ssP a).vars = a.vars := rfl
theorem dats_of_ks {K : PySem.W.Frag} {T : Tape} {H : Hp} {ps : List (Nat × Nat)} : ∀ {ks : List (Addr × List Int)}, (∀ k ∈ ks, ∃ p ∈ ps, k.2 = prI p ∧ Dat K T H (pqD p) (V.ref k.1)) → ∃ zs : List (Nat × Nat), ks.map (·.2) = zs.map prI ∧ (∀ p ∈ zs, p ∈ ps) ∧ Dats K T H (zs.map pqD) (ks.map fun p => V.ref p.1)
  | [], _ => ⟨[], rfl, fun p hp => (by cases hp), rfl⟩
  | k :: ks, h => by
    obtain ⟨zs, z1, z2, z3⟩ := dats_of_ks fun u hu => h u (List.mem_cons_of_mem _ hu)
    obtain ⟨p, hp, e, hd⟩ := h k List.mem_cons_self
    refine ⟨p :: zs, by rw [List.map_cons, List.map_cons, z1, e], fun q hq => ?_, _, _, rfl, hd, z3⟩
    rcases List.mem_cons.mp hq with rfl | hq
    · exact hp
    · exact z2 q hq
theorem pairW_ks : ∀ {ks : List (Addr × List Int)} {zs : List (Nat × Nat)}, ks.map (·.2) = zs.map prI → ks.Pairwise (fun q r => TS.code 64 q.2 ≤ TS.code 64 r.2) → zs.Pairwise fun p q => cd p ≤ cd q := by
  intro ks zs e h
  have h1 : (ks.map (·.2)).Pairwise (fun a b => TS.code 64 a ≤ TS.code 64 b) := List.pairwise_map.mpr h
  rw [e, List.pairwise_map] at h1
  refine h1.imp fun {a b} h => ?_
  rw [prI_code, prI_code] at h
  omega
theorem ssP_need {g : Gx} {a : E} (ma : a.monos) (na : Need g a) (hs : NoG g "sorted") (hr : NoG g "set") : Need g (ssP a) := by
  intro X c x hg ok m
  replace m : lookSS c a x = true := m
  subst hg
  unfold lookSS at m
  split at m
  · rename_i f p z p2 y p3 p4
    simp only [Bool.and_eq_true, decide_eq_true_eq] at m
    obtain ⟨⟨⟨⟨⟨rfl, rfl⟩, g5⟩, g6⟩, ns⟩, m5⟩ := m
    obtain ⟨g1, g2, g3⟩ := gl_of ok g5
    obtain ⟨h1, h2, h3⟩ := gl_of ok g6
    have A := (sound a ma).get ok na m5
    have S := pe_callTy (p := p2) (pos := p3) (cr_setOfT ok.calm (Nat.lt_of_succ_lt ok.hu)) h1 hr boot_set (pa_cons A.pe pa_nil (star_of ns)) (by decide) (by decide) (star_of ns)
    refine rawNeed (ssP_mono ma) (PE.imp (pe_callB (cr_sortedT ok.calm) g1 hs (by decide +kernel) (pa_cons S pa_nil rfl) (by decide) (by decide) rfl) fun σ H Q q => ?_) (fun _ => rfl) fun _ _ _ z => nomatch z
    obtain ⟨T, env, O, k, r, q⟩ := q
    refine lift1 ma k r q fun d v H1 e1 k1 hd q => ?_
    cases d with
    | lst ds =>
      obtain ⟨ps, rfl, ⟨hz, hb⟩, q⟩ := q
      obtain ⟨a, ws, rfl, hq, z, hs⟩ := dat_lst hd
      obtain ⟨ks, rfl, ek, hk⟩ := dats_prs hs
      have hl : ks.length = ps.length := by
        have := congrArg List.length ek
        rwa [List.length_map, List.length_map] at this
      refine ⟨a, ks, rfl, SqL.of (res_le _ _ _ _ hq), fun p hp => SqT.le (res_le _ _) (hk p hp).1, by omega, fun b L hn hL1 hL2 => ?_⟩
      have k2 : Ok T O (upd H1 b (SetTO X.prog X.w b L)) := k1.ext (Ext.upd hn) (tapeLe (le_upd hn) k1.tape)
      refine ⟨b, L, 2, 64, rfl, upd_same, fun p hp => SqT.le (le_upd hn) (SqT.le (res_le _ _) (hk p (hL1 p hp)).1), by decide, fun p hp => ?_, fun L' p hp hnd h64 hw hn2 => ?_⟩
      · obtain ⟨u, hu, e, _⟩ := (hk p (hL1 p hp)).2
        rw [e]
        exact prI_bd (hb u hu)
      · have el : Le (res H1 O) (res (upd H1 b (SetTO X.prog X.w b L)) O) := k1.res (Ext.upd hn)
        obtain ⟨zs, z1, z2, z3⟩ := dats_of_ks (K := X.K) (T := T) (H := res (upd H1 b (SetTO X.prog X.w b L)) O) (ps := ps) (ks := L') fun u hu => by
          obtain ⟨p, hp', e, hd⟩ := (hk u (hL1 u (hp.mem_iff.mp hu))).2
          exact ⟨p, hp', e, Dat.le el _ _ hd⟩
        refine post.lst k2 (post.ext (e1.trans (Ext.upd hn)) k2.tape (q zs ?_ (fun p => ⟨z2 p, fun hp' => ?_⟩) (pairW_ks z1 hw))) z3 ?_ hn2
        · rw [z1] at hnd
          unfold List.Nodup at hnd ⊢
          rw [List.pairwise_map] at hnd
          exact hnd.imp fun h e => h (by rw [e])
        · have : prI p ∈ ks.map (·.2) := by rw [ek]; exact List.mem_map.mpr ⟨p, hp', rfl⟩
          obtain ⟨u, hu, e⟩ := List.mem_map.mp this
          have h2 := hL2 u hu
          rw [e] at h2
          have h3 : prI p ∈ L'.map (·.2) := (hp.map _).mem_iff.mpr h2
          rw [z1] at h3
          obtain ⟨w, hw', e'⟩ := List.mem_map.mp h3
          exact prI_inj e' ▸ hw'
        · rw [List.length_map]
          omega
    | _ => exact q.elim
  · cases m
/-! ### xs.count(x) of texts -/
def eqs (k : Str) (v : Value) : Bool := match v with
  | .str n _ => n == k
  | _ => false
theorem eqs_gives {k : Str} {t : Tok} : ∀ {us : List Value} {ns : List Str}, StrsAre us ns → ∀ y ∈ us, MeetsSeq.EqGives y (.str k t) (eqs k y)
  | _, _, .nil => fun y hy => by cases hy
  | _, _, .cons n t' h => fun y hy => by
    rcases List.mem_cons.mp hy with e | e
    · rw [e, show eqs k (.str n t') = (n == k) from rfl, ← SeqAt.str_beq]
      exact SeqRoads2.EqGives.str n k t' t
    · exact eqs_gives h y e
theorem eqs_count {k : Str} : ∀ {us : List Value} {ns : List Str}, StrsAre us ns → us.countP (eqs k) = ns.count k
  | _, _, .nil => rfl
  | _, _, .cons n t h => by
    have ih := eqs_count (k := k) h
    rw [List.countP_cons, List.count_cons, ih] <;> rfl
def rCntS (K : PySem.W.Frag) : V → List V → Hp → VK → Prop := fun x xs H Q => ∃ (p : Addr) (ns : List Str) (k : Str), x = .ref p ∧ xs = [.str k] ∧ SqL K H p (ns.map V.str) ∧ Q (.int (ns.count k : Nat)) H
theorem mt_scount {X : Cx} : MtR X "list.count" (rCntS X.K) := by
  intro pins s σ H x xs v us Q I rx rxs h
  obtain ⟨p, ns, k, rfl, rfl, hs, q⟩ := h
  cases rx
  obtain ⟨u, rfl, ru⟩ := rxs.one
  obtain ⟨t, rfl⟩ := ru
  obtain ⟨its, rv, ⟨⟨cls, dd, data, sl⟩, n, ho, hc, hdn, hd⟩, hlen⟩ := I.list hs
  simp only at hc hd
  subst hc hd
  have hi := rv.strs
  refine call_meets PySem.F.slot_list_count ⟨_, ho, rfl⟩ PySem.F.entry_list_count (PySem.F.args_list_count_2 _ _)
    (SeqAt.list_countAt p its.toArray n dd sl (.str k t) (eqs k)) ⟨ho, fun y hy => (eqs_gives hi y (by simpa using hy)).at _ _, ?_⟩
  have ec : its.toArray.toList.countP (eqs k) = ns.count k := eqs_count hi
  refine ⟨.int (ns.count k : Nat), H, I.tok _, ⟨s.toks, ?_⟩, q⟩
  show Value.int ((its.toArray.toList.countP (eqs k) : Nat) : Int) s.toks = Value.int ((ns.count k : Nat) : Int) s.toks
  rw [ec]
def cnt1 (x y : D) (Q : D → Prop) : Prop := match x, y with
  | .lst ds, .str k => ∃ ns : List Str, ds = ns.map D.str ∧ Q (.int ((ns.count k : Nat) : Int))
  | _, _ => False
theorem cnt1_mono {x y : D} {Q Q' : D → Prop} (h : cnt1 x y Q) (m : ∀ d, Q d → Q' d) : cnt1 x y Q' := by
  unfold cnt1 at h ⊢
  split at h
  · obtain ⟨ns, e, h⟩ := h
    exact ⟨ns, e, m _ h⟩
  · exact h.elim
def cntO (x : D) : Prop := match x with
  | .lst _ => True
  | _ => False
@[simp] theorem cntO_l {ds : List D} : cntO (.lst ds) = True := rfl
def lookCnt (c : Ctx) (o a : E) : Expr → Bool
  | .Call (.Attribute y nm ap) [x] [] cp => decide (nm = ("count" : Str)) && notCall0 y && (ap.endLine == cp.line) && notStar x && matchE c false o y && matchE c false a x
  | _ => false
def cnt (o a : E) : E := .raw (fun c x => lookCnt c o a x) (fun env Q => semE o env fun x => cntO x ∧ semE a env fun y => cnt1 x y Q) (o.vars ++ a.vars) false
@[simp] theorem cnt_mono {o a : E} (mo : o.monos) (ma : a.monos) : (cnt o a).monos := fun env Q Q' h m => (sem_mono o mo).1 _ _ _ h fun x h => ⟨h.1, (sem_mono a ma).1 _ _ _ h.2 fun y h => cnt1_mono h m⟩
@[simp] theorem sem_cnt {o a : E} {env : DEnv} {Q : D → Prop} : semE (cnt o a) env Q = semE o env fun x => cntO x ∧ semE a env fun y => cnt1 x y Q := rfl
@[simp] theorem cnt1_ls {ds : List D} {k : Str} {Q : D → Prop} : cnt1 (.lst ds) (.str k) Q = ∃ ns : List Str, ds = ns.map D.str ∧ Q (.int ((ns.count k : Nat) : Int)) := rfl
@[simp] theorem cnt_isNil {o a : E} : (cnt o a).isNil = false := rfl
@[simp] theorem cnt_fresh {o a : E} : (cnt o a).fresh = false := rfl
@[simp] theorem cnt_vars {o a : E} : (cnt o a).vars = o.vars ++ a.vars := rfl
theorem cnt_need {g : Gx} {o a : E} (mo : o.monos) (ma : a.monos) (no : Need g o) (na : Need g a) : Need g (cnt o a) := by
  intro X c x hg ok m
  replace m : lookCnt c o a x = true := m
  subst hg
  unfold lookCnt at m
  split at m
  · rename_i f y nm ap x cp
    simp only [Bool.and_eq_true, decide_eq_true_eq] at m
    obtain ⟨⟨⟨⟨⟨rfl, h2⟩, h3⟩, st⟩, m1⟩, m2⟩ := m
    have O' := (sound o mo).get ok no m1
    have A := (sound a ma).get ok na m2
    refine rawNeed (cnt_mono mo ma) (PE.imp (pe_bmx O'.pe (pa_cons A.pe pa_nil (star_of st)) (base_of h2 _) (few_one st) h3 (star_of st) rfl) fun σ H Q q => ?_) (fun _ => rfl) fun _ _ _ z => nomatch z
    obtain ⟨T, env, O, k, r, q⟩ := q
    refine lift1 mo k r.l q fun d v H1 e1 k1 d1 ⟨qo, q0⟩ => ?_
    have r1 := r.r.ext k e1
    cases d with
    | lst ds =>
      obtain ⟨p, ys, rfl, q2, z2, d2⟩ := dat_lst d1
      refine ⟨_, _, _, PySem.F.plainAttrs_list, PySem.F.slot_list_count, PySem.F.type_list_count, mt_scount, .inl ⟨rfl, ys, SqL.of (res_le _ _ _ _ q2)⟩, lift1 ma k1 r1 q0 fun d w H2 e2 k2 hd q => ?_⟩
      clear q0
      cases d with
      | str t =>
        obtain ⟨ns, rfl, q⟩ := q
        obtain ⟨rfl, _, _⟩ := dat_str hd
        obtain ⟨rfl, _⟩ := d2.strs
        have q3 := k1.res e2 _ _ q2
        exact ⟨p, ns, t, rfl, rfl, SqL.of (res_le _ _ _ _ q3), post.int k2 (post.ext e2 k2.tape (post.ext e1 k1.tape q))⟩
      | _ => exact q.elim
    | _ => exact qo.elim
  · cases m
end DL

set_option Elab.async false
set_option linter.all false
set_option maxRecDepth 100000
set_option maxHeartbeats 4000000
/-! DL42: a module's dict of texts and ints, read by a text; a hook with a check of one's own. -/
namespace DL
open PySem PySem.Spec PyProof.Rows L2

section
variable {X : Cx} {d : Addr} {es : Array DictEntry} {n : Nat}
theorem ix_kd (D : KDict X.K X.w d es n) : IxR X (fun x y H Q => ∃ (z : Str) (u0 : Value) (v0 : V), x = .ref d ∧ y = .str z ∧ PySem.W.nsIn X.K d z = some (some u0) ∧ RelV v0 u0 ∧ Q v0 H) := by
  intro value slice pins s σ H x y v u Q I rx ry h hs
  obtain ⟨z, u0, v0, rfl, rfl, e, r, q⟩ := h
  cases rx
  obtain ⟨t, rfl⟩ := ry
  refine tail_any (kd_type D I) slot_dict_getitem.lookup ?_ hs
  exact wpAny_getItem_of (PySem.strKind_is X.prog X.w z t) (PySem.W.mapOf_K (prog := X.prog) I.kIn D.at_ D.lit) (PySem.W.find_K D.at_ e) ⟨v0, H, I.tok _, r, q⟩
end
def HasDk (g : Gx) (x : Str) (kvs : List (Str × Int)) : Prop := ∃ (a : Addr) (es : Array DictEntry) (n : Nat), g.mg x = some (.ref a) ∧ KDict g.K g.w a es n ∧ ∀ q ∈ kvs, ∃ u, PySem.W.nsIn g.K a q.1 = some (some u) ∧ RelV (.int q.2) u
def gdx1 (kvs : List (Str × Int)) (x : D) (Q : D → Prop) : Prop := match x with
  | .str s => ∃ i, (s, i) ∈ kvs ∧ Q (.int i)
  | _ => False
theorem gdx1_mono {kvs : List (Str × Int)} {x : D} {Q Q' : D → Prop} (h : gdx1 kvs x Q) (m : ∀ d, Q d → Q' d) : gdx1 kvs x Q' := by
  cases x with
  | str s =>
    obtain ⟨i, e, h⟩ := h
    exact ⟨i, e, m _ h⟩
  | _ => exact h.elim
def lookGdx (c : Ctx) (nm : Str) (a : E) : Expr → Bool
  | .Subscript (.Name x _) y _ => decide (x = nm) && glB c.sc x && notSlice y && matchE c false a y
  | _ => false
/-- nm[a], nm the module's dict kvs -/
def gdx (nm : Str) (kvs : List (Str × Int)) (a : E) : E := .raw (fun c x => lookGdx c nm a x) (fun env Q => semE a env fun x => gdx1 kvs x Q) a.vars false
@[simp] theorem gdx_mono {nm : Str} {kvs : List (Str × Int)} {a : E} (ma : a.monos) : (gdx nm kvs a).monos := fun env Q Q' h m => (sem_mono a ma).1 _ _ _ h fun x h => gdx1_mono h m
@[simp] theorem sem_gdx {nm : Str} {kvs : List (Str × Int)} {a : E} {env : DEnv} {Q : D → Prop} : semE (gdx nm kvs a) env Q = semE a env fun x => gdx1 kvs x Q := rfl
@[simp] theorem gdx1_s {kvs : List (Str × Int)} {s : Str} {Q : D → Prop} : gdx1 kvs (.str s) Q = ∃ i, (s, i) ∈ kvs ∧ Q (.int i) := rfl
@[simp] theorem gdx_isNil {nm : Str} {kvs : List (Str × Int)} {a : E} : (gdx nm kvs a).isNil = false := rfl
@[simp] theorem gdx_fresh {nm : Str} {kvs : List (Str × Int)} {a : E} : (gdx nm kvs a).fresh = false := rfl
@[simp] theorem gdx_vars {nm : Str} {kvs : List (Str × Int)} {a : E} : (gdx nm kvs a).vars = a.vars := rfl
theorem gdx_need {g : Gx} {nm : Str} {kvs : List (Str × Int)} {a : E} (ma : a.monos) (na : Need g a) (hd : HasDk g nm kvs) : Need g (gdx nm kvs a) := by
  intro X c x hg ok m
  replace m : lookGdx c nm a x = true := m
  subst hg
  unfold lookGdx at m
  split at m
  · rename_i f x p y pos
    simp only [Bool.and_eq_true, decide_eq_true_eq] at m
    obtain ⟨⟨⟨rfl, g5⟩, ns⟩, m5⟩ := m
    obtain ⟨g1, g2, g3⟩ := gl_of ok g5
    have A := (sound a ma).get ok na m5
    obtain ⟨ad, es, n, e1, e2, e3⟩ := hd
    refine rawNeed (gdx_mono ma) (PE.imp (pe_ix (ix_kd (X := X) e2) (pe_glob (v := .ref ad) g1 e1 rfl g2) A.pe (plain_of ns)) fun σ H Q q => ?_) (fun _ => rfl) fun _ _ _ z => nomatch z
    obtain ⟨T, env, O, k, r, q⟩ := q
    refine lift1 ma k r q fun d v H1 e1 k1 hd q => ?_
    cases d with
    | str s =>
      obtain ⟨i, hi, q⟩ := q
      obtain ⟨rfl, _, _⟩ := dat_str hd
      obtain ⟨u, hu, hr⟩ := e3 _ hi
      exact ⟨s, u, _, rfl, rfl, hu, hr, post.int k1 (post.ext e1 k1.tape q)⟩
    | _ => exact q.elim
  · cases m
/-! ### a hook with a check -/
abbrev AlX : Type := He.AlT × Bool
def obsX (fa : List He.Fa) (fn : List He.DefD) (ts : List He.Tab) (ck : PySem.W.Frag → Bool) (K : PySem.W.Frag) : AlX := (He.obsT fa fn ts K, ck K)
def valX (fn : List He.DefD) (ts : List He.Tab) (w : World) : AlX := (He.valT fn ts w, true)
def obsXG (n : Nat) (fa : List He.Fa) (fn : List He.DefD) (ts : List He.Tab) (ck : PySem.W.Frag → Bool) (g : Addr → Option Obj) : AlX := obsX fa fn ts ck (He.frG g (He.asD g n))
def SaysX (fa : List He.Fa) (fn : List He.DefD) (ts : List He.Tab) (ck : PySem.W.Frag → Bool) (w : World) (K : PySem.W.Frag) : Prop := obsX fa fn ts ck K = valX fn ts w
def hookX (n : Nat) (fa : List He.Fa) (fn : List He.DefD) (ts : List He.Tab) (ck : PySem.W.Frag → Bool) : PySem.W.Hook where
  α := AlX
  obs := fun s => obsXG n fa fn ts ck s.heap.get?
  val := fun w => valX fn ts w
  says := fun w h => ∃ K : PySem.W.Frag, K.In h ∧ SaysX fa fn ts ck w K
  of := fun _ _ e => ⟨_, He.frG_in, e⟩
  keeps := fun _ _ _ ⟨K, hK, c⟩ k => ⟨K, PySem.W.Frag.In.keeps hK k, c⟩
theorem obsXG_eq {n : Nat} {fa : List He.Fa} {fn : List He.DefD} {ts : List He.Tab} {ck : PySem.W.Frag → Bool} {g : Addr → Option Obj} {s : Shared} (h : ∀ a, g a = s.heap.get? a) : obsXG n fa fn ts ck g = (hookX n fa fn ts ck).obs s := by
  have e : g = s.heap.get? := funext h
  rw [e] <;> rfl
section
variable {fa : List He.Fa} {fn : List He.DefD} {ts : List He.Tab} {ck : PySem.W.Frag → Bool} {w : World} {K : PySem.W.Frag}
theorem SaysX.t (c : SaysX fa fn ts ck w K) : He.SaysT fa fn ts w K := congrArg (fun z : AlX => z.1) c
theorem SaysX.chk (c : SaysX fa fn ts ck w K) : ck K = true := congrArg (fun z : AlX => z.2) c
end
def ckTup (x : Str) (vs : List He.Dv) (K : PySem.W.Frag) : Bool := He.tupB K x vs
def ckDic (x : Str) (kvs : List (Str × Int)) (K : PySem.W.Frag) : Bool := He.valsB K (He.ga K x) (kvs.map fun q => (q.1, He.Dv.int q.2))
theorem ckDic_ok {x : Str} {kvs : List (Str × Int)} {g : Gx} {es : Array DictEntry} {n : Nat} (hm : g.mg x = some (.ref (He.ga g.K x))) (hd : KDict g.K g.w (He.ga g.K x) es n) (h : ckDic x kvs g.K = true) : HasDk g x kvs :=
  ⟨_, es, n, hm, hd, fun q hq => He.valsB_ok h (q := (q.1, He.Dv.int q.2)) (List.mem_map.mpr ⟨q, hq, rfl⟩)⟩
/-- a tuple of texts of the module -/
theorem ckTup_ok {x : Str} {ss : List Str} {g : Gx} (hm : g.mg x = some (.ref (He.ga g.K x))) (h : ckTup x (ss.map He.Dv.str) g.K = true) (hs : ∀ s ∈ ss, s.cps.size ≤ 16777216 ∧ PyData.strOk s = true) (hl : ss.length ≤ 16777216) : HasGl g x (.tup (ss.map D.str)) := by
  refine ⟨.ref (He.ga g.K x), .ref (He.ga g.K x), hm, rfl, fun T H => ?_⟩
  have e : (ss.map He.Dv.str).map (He.Dv.v g.K) = ss.map V.str := by
    rw [List.map_map]
    rfl
  have q := He.tupB_ok h H
  rw [e] at q
  refine ⟨_, ss.map V.str, rfl, q, by rw [List.length_map]; exact hl, ?_⟩
  have dz : ∀ zs : List Str, (∀ z ∈ zs, z.cps.size ≤ 16777216 ∧ PyData.strOk z = true) → Dats g.K T H (zs.map D.str) (zs.map V.str) := fun zs => by
    induction zs with
    | nil => exact fun _ => rfl
    | cons z zs ih => exact fun h => ⟨_, _, rfl, ⟨rfl, (h z List.mem_cons_self).1, (h z List.mem_cons_self).2⟩, ih fun y hy => h y (List.mem_cons_of_mem _ hy)⟩
  exact dz ss hs
end DL

set_option Elab.async false
set_option linter.all false
set_option maxRecDepth 100000
set_option maxHeartbeats 4000000
/-! DL43: while by a number that goes down; a pair to two names. -/
namespace DL
open PySem PySem.Spec PyProof.Rows L2
/-- while, by what is read: a number goes down -/
theorem whlD_up {c : E} {body : S} (mc : c.monos) (mb : body.monos) {en : DEnds} : ∀ (n : Nat) (e : DEnv), whlD (semE c) (semS body) en n e → whlD (semE c) (semS body) en (n + 1) e
  | 0, e, h => h.elim
  | n + 1, e, h => testD_mono h (fun h => semS_mono body mb { nx := whlD (semE c) (semS body) en n, rt := en.rt, bk := en.nx, ct := whlD (semE c) (semS body) en n } { nx := whlD (semE c) (semS body) en (n + 1), rt := en.rt, bk := en.nx, ct := whlD (semE c) (semS body) en (n + 1) }
      ⟨fun e h => whlD_up mc mb n e h, fun _ h => h, fun _ h => h, fun e h => whlD_up mc mb n e h⟩ _ h) (fun h => h) fun Q Q' h m => (sem_mono c mc).1 _ _ _ h m
theorem whlD_le {c : E} {body : S} (mc : c.monos) (mb : body.monos) {en : DEnds} {n m : Nat} (h : n ≤ m) {e : DEnv} (q : whlD (semE c) (semS body) en n e) : whlD (semE c) (semS body) en m e := by
  induction h with
  | refl => exact q
  | step _ ih => exact whlD_up mc mb _ _ ih
theorem st_whlR {c : E} {body r : S} {en : DEnds} {env : DEnv} (mc : c.monos) (mb : body.monos) (I : Nat → DEnv → Prop) (n : Nat) (start : I n env)
    (step : ∀ m e, I m e → semE c e fun d => ∃ b, d = .bl b ∧ (b = true → 0 < m ∧ semS body { nx := fun e2 => ∃ m', m' < m ∧ I m' e2, rt := en.rt, bk := semS r en, ct := fun e2 => ∃ m', m' < m ∧ I m' e2 } e) ∧ (b = false → semS r en e)) : semS (.cons (.whl c body) r) en env := by
  show ∃ n, whlD (semE c) (semS body) { en with nx := semS r en } n env
  have key : ∀ m e, I m e → whlD (semE c) (semS body) { en with nx := semS r en } (m + 1) e := by
    intro m
    induction m using Nat.strongRecOn with
    | ind m ih =>
      intro e he
      show testD _ _ _
      refine sem_le mc (step m e he) ?_
      rintro _ ⟨b, rfl, h1, h2⟩
      cases b with
      | true =>
        obtain ⟨hm, hb⟩ := h1 rfl
        have up : ∀ e2, (∃ m', m' < m ∧ I m' e2) → whlD (semE c) (semS body) { en with nx := semS r en } m e2 := fun e2 ⟨m', hlt, hi⟩ => whlD_le mc mb (by omega) (ih m' hlt e2 hi)
        exact semS_mono body mb { nx := fun e2 => ∃ m', m' < m ∧ I m' e2, rt := en.rt, bk := semS r en, ct := fun e2 => ∃ m', m' < m ∧ I m' e2 } { nx := whlD (semE c) (semS body) { en with nx := semS r en } m, rt := en.rt, bk := semS r en, ct := whlD (semE c) (semS body) { en with nx := semS r en } m } ⟨up, fun _ h => h, fun _ h => h, up⟩ _ hb
      | false => exact h2 rfl
  exact ⟨n + 1, key n env start⟩
section
variable {e : E} {r : S} {en : DEnds} {env : DEnv} {i j : Nat}
theorem st_tupR (P : D → D → Prop) (m : e.monos) (he : semE e env fun d => ∃ x y, d = .tup [x, y] ∧ P x y) (hij : i ≠ j)
    (nx : ∀ x y, P x y → ∀ env', env'.length = env.length → (∀ k, i ≠ k → j ≠ k → rdv env' k = rdv env k) → (i < env.length → rdv env' i = some x) → (j < env.length → rdv env' j = some y) → semS r en env') : semS (.cons (.asgT (.tup (.cons (.var i) (.cons (.var j) .nil))) e) r) en env := by
  show semE e env fun d => bindT (aft e d env) _ d _
  refine sem_le m he ?_
  rintro _ ⟨x, y, rfl, h⟩
  simp
  exact nx x y h _ (by rw [List.length_set, List.length_set, aft_len]) (fun k h1 h2 => by rw [rdv_set_ne h2, rdv_set_ne h1, aft_rdv]) (fun hi => by rw [rdv_set_ne (Ne.symm hij), rdv_set_eq (by rw [aft_len]; exact hi)]; rfl) (fun hj => by rw [rdv_set_eq (by rw [List.length_set, aft_len]; exact hj)]; rfl)
end
end DL

set_option Elab.async false
set_option linter.all false
set_option maxRecDepth 100000
set_option maxHeartbeats 4000000
/-! DL44: a, b = (x, y) where x and y are constants. -/
namespace DL
open PySem PySem.Spec PyProof.Rows L2

def nameB : List Expr → Bool
  | [.Name _ _, .Name _ _] => true
  | _ => false
def foldB : Expr → Bool
  | .Tuple [u, v] _ _ => foldedForSure 8 u && foldedForSure 8 v
  | _ => false
def lookC (c : Ctx) (tg e : E) (st : Stmt) : Bool := match vAsgT st with
  | some (ts, k, p, v, _) => nameB ts && foldB v && matchT c tg (.Tuple ts k p) && matchE c false e v
  | none => false
def asgC (tg e : E) : S := .raw (fun c st => lookC c tg e st) (fun en env => semS (.asgT tg e) en env)
@[simp] theorem asgC_mono {tg e : E} (me : e.monos) : (asgC tg e).monos := fun p q le env h => semS_mono (.asgT tg e) me p q le env h
@[simp] theorem semS_asgC {tg e : E} {en : DEnds} {env : DEnv} : semS (asgC tg e) en env = semS (.asgT tg e) en env := rfl
theorem swapped_const {X : Cx} {x y : Str} {px py p p2 : Pos} {k k2 : Nat} {u v : Expr} (h : (foldedForSure 8 u && foldedForSure 8 v) = true) :
    swappedStores [.Tuple [.Name x px, .Name y py] k p] (.Tuple [u, v] k2 p2) X.env = pure none := by
  have h2 : [u, v].all (foldedForSure 8) = true := by simpa [List.all_cons] using h
  unfold swappedStores
  simp only []
  show (if _ then _ else _) = _
  split
  · rfl
  · show (if _ then _ else _) = _
    split
    · rfl
    · show (if _ then _ else _) = _
      split
      · rfl
      · first | rfl | (show (if [u, v].all (foldedForSure 8) = true then _ else _) = _; rw [if_pos h2])
@[simp] theorem asgC_need {g : Gx} {tg e : E} (me : e.monos) (ne : Need g e) : NeedS g (asgC tg e) := by
  intro X c st hg ok hp hk m
  replace m : lookC c tg e st = true := m
  subst hg
  unfold lookC at m
  split at m
  · rename_i ts k p v pos h
    cases vAsgT_eq h
    simp only [Bool.and_eq_true] at m
    obtain ⟨⟨⟨m0, m1⟩, m2⟩, m3⟩ := m
    have A := (sound e me).get ok ne m3
    refine PS.imp (ps_asg A.pe (pg_of ok tg _ m2) ?_ ?_ rfl) fun D σ H q => asgT_read me q
    · cases v <;> rfl
    · unfold nameB at m0
      split at m0
      · unfold foldB at m1
        split at m1
        · exact swapped_const m1
        · cases m1
      · cases m0
  · cases m
/-- two names, by what is read -/
theorem st_parC {i j : Nat} {x y : E} {r : S} {en : DEnds} {env : DEnv} (P Q : D → Prop) (mx : x.monos) (my : y.monos) (hx : semE x env P) (hy : semE y env Q) (hij : i ≠ j)
    (nx : ∀ d d', P d → Q d' → ∀ env', env'.length = env.length → (∀ k, i ≠ k → j ≠ k → rdv env' k = rdv env k) → (i < env.length → rdv env' i = some d) → (j < env.length → rdv env' j = some d') → semS r en env') :
    semS (.cons (asgC (.tup (.cons (.var i) (.cons (.var j) .nil))) (.tup (.cons x (.cons y .nil)))) r) en env := by
  exact st_parU P Q mx my hx hy hij nx
end DL

set_option Elab.async false
set_option linter.all false
set_option maxRecDepth 100000
set_option maxHeartbeats 4000000
/-! DL45: sum of a tuple; tuple(range(a, b)); NAME.index(x) of a module's tuple of texts; {"a": "b", "c": "d"}[x]. -/
namespace DL
open PySem PySem.Spec PyProof.Rows L2

/-! ### sum of a tuple of ints -/
def rSumT (K : PySem.W.Frag) : List V → Hp → VK → Prop := fun vs H Q => ∃ (a : Addr) (ns : List Int), vs = [V.ref a] ∧ SqT K H a (ns.map V.int) ∧ Q (.int ns.sum) H
theorem cr_sumT {X : Cx} (hc : X.calm = true) : CallR X (.builtin "sum") (rSumT X.K) := by
  intro pins s σ H vs us Q I r h
  obtain ⟨a, ns, rfl, hs, q⟩ := h
  obtain ⟨its, rv, hl, _⟩ := I.tuple hs
  rw [Vals.ref1 r]
  have hi := rv.ints
  obtain ⟨xs, e⟩ := hi.allInts.items
  have hn : numsOf (intItems xs).toList = ns := by rw [← e]; exact hi.numsOf
  rw [nums_intItems] at hn
  rw [e] at hl
  refine PySem.W.ktm_sumG (I.ok.hd hc) hl fun h' tk t' hk => ?_
  refine ⟨.int _, H, I.kept hk, ⟨_, rfl⟩, ?_⟩
  rw [preSum_eq, List.take_of_length_le (by simp), hn]
  exact q
def sumT1 (x : D) (Q : D → Prop) : Prop := match x with
  | .tup ds => ∃ ns : List Int, ds = ns.map D.int ∧ Q (.int ns.sum)
  | _ => False
theorem sumT1_mono {x : D} {Q Q' : D → Prop} (h : sumT1 x Q) (m : ∀ d, Q d → Q' d) : sumT1 x Q' := by
  cases x with
  | tup ds =>
    obtain ⟨ns, e, h⟩ := h
    exact ⟨ns, e, m _ h⟩
  | _ => exact h.elim
def lookSumT (c : Ctx) (a : E) : Expr → Bool
  | .Call (.Name x _) [y] [] _ => decide (x = ("sum" : Str)) && glB c.sc x && notStar y && matchE c false a y
  | _ => false
def sumT (a : E) : E := .raw (fun c x => lookSumT c a x) (fun env Q => semE a env fun x => sumT1 x Q) a.vars false
@[simp] theorem sumT_mono {a : E} (ma : a.monos) : (sumT a).monos := fun env Q Q' h m => (sem_mono a ma).1 _ _ _ h fun x h => sumT1_mono h m
@[simp] theorem sem_sumT {a : E} {env : DEnv} {Q : D → Prop} : semE (sumT a) env Q = semE a env fun x => sumT1 x Q := rfl
@[simp] theorem sumT1_t {ds : List D} {Q : D → Prop} : sumT1 (.tup ds) Q = ∃ ns : List Int, ds = ns.map D.int ∧ Q (.int ns.sum) := rfl
@[simp] theorem sumT_isNil {a : E} : (sumT a).isNil = false := rfl
@[simp] theorem sumT_fresh {a : E} : (sumT a).fresh = false := rfl
@[simp] theorem sumT_vars {a : E} : (sumT a).vars = a.vars := rfl
theorem sumT_need {g : Gx} {a : E} (ma : a.monos) (na : Need g a) (hs : NoG g "sum") : Need g (sumT a) := by
  intro X c x hg ok m
  replace m : lookSumT c a x = true := m
  subst hg
  unfold lookSumT at m
  split at m
  · rename_i f p y pos
    simp only [Bool.and_eq_true, decide_eq_true_eq] at m
    obtain ⟨⟨⟨rfl, g5⟩, ns⟩, m5⟩ := m
    obtain ⟨g1, g2, g3⟩ := gl_of ok g5
    have A := (sound a ma).get ok na m5
    refine rawNeed (sumT_mono ma) (PE.imp (pe_callB (cr_sumT ok.calm) g1 hs (by decide +kernel) (pa_cons A.pe pa_nil (star_of ns)) (by decide) (by decide) (star_of ns)) fun σ H Q q => ?_) (fun _ => rfl) fun _ _ _ z => nomatch z
    obtain ⟨T, env, O, k, r, q⟩ := q
    refine lift1 ma k r q fun d v H1 e1 k1 hd q => ?_
    cases d with
    | tup ds =>
      obtain ⟨ns, rfl, q⟩ := q
      obtain ⟨a, xs, rfl, hq, z, hs⟩ := dat_tup hd
      cases hs.ints
      exact ⟨_, ns, rfl, SqT.le (res_le _ _) hq, post.int k1 (post.ext e1 k1.tape q)⟩
    | _ => exact q.elim
  · cases m
/-! ### tuple(range(a, b)) -/
def lookTrg2 (c : Ctx) (a b : E) : Expr → Bool
  | .Call (.Name x _) [.Call (.Name z _) [y, w] [] _] [] _ => decide (x = ("tuple" : Str)) && decide (z = ("range" : Str)) && glB c.sc x && glB c.sc z && notStar y && notStar w && matchE c false a y && matchE c false b w
  | _ => false
def trg2 (a b : E) : E := .raw (fun c x => lookTrg2 c a b x) (fun env Q => semE a env fun x => semE b env fun y => int1 x fun m => int1 y fun n => ((0 ≤ m ∧ m ≤ 1000000) ∧ n ≤ 1000000 ∧ -1000000 ≤ n) ∧ Q (.tup (rangeD m n))) (a.vars ++ b.vars) false
@[simp] theorem trg2_mono {a b : E} (ma : a.monos) (mb : b.monos) : (trg2 a b).monos := fun env Q Q' h m => (sem_mono a ma).1 _ _ _ h fun x h => (sem_mono b mb).1 _ _ _ h fun y h => int1_mono h fun m' h => int1_mono h fun n h => ⟨h.1, m _ h.2⟩
@[simp] theorem sem_trg2 {a b : E} {env : DEnv} {Q : D → Prop} : semE (trg2 a b) env Q = semE a env fun x => semE b env fun y => int1 x fun m => int1 y fun n => ((0 ≤ m ∧ m ≤ 1000000) ∧ n ≤ 1000000 ∧ -1000000 ≤ n) ∧ Q (.tup (rangeD m n)) := rfl
@[simp] theorem trg2_isNil {a b : E} : (trg2 a b).isNil = false := rfl
@[simp] theorem trg2_fresh {a b : E} : (trg2 a b).fresh = false := rfl
@[simp] theorem trg2_vars {a b : E} : (trg2 a b).vars = a.vars ++ b.vars := rfl
theorem trg2_need {g : Gx} {a b : E} (ma : a.monos) (mb : b.monos) (na : Need g a) (nb : Need g b) (hs : NoG g "tuple") (hr : NoG g "range") : Need g (trg2 a b) := by
  intro X c x hg ok m
  replace m : lookTrg2 c a b x = true := m
  subst hg
  unfold lookTrg2 at m
  split at m
  · rename_i f p z p2 y w p3 p4
    simp only [Bool.and_eq_true, decide_eq_true_eq] at m
    obtain ⟨⟨⟨⟨⟨⟨⟨rfl, rfl⟩, g5⟩, g6⟩, ns⟩, nw⟩, m5⟩, m6⟩ := m
    obtain ⟨g1, g2, g3⟩ := gl_of ok g5
    obtain ⟨h1, h2, h3⟩ := gl_of ok g6
    have A := (sound a ma).get ok na m5
    have B := (sound b mb).get ok nb m6
    refine rawNeed (trg2_mono ma mb) (PE.imp (pe_tupRg ok.calm g1 hs (prg_2 h1 hr A.pe B.pe (star_of ns) (star_of nw) (by cases w <;> first | rfl | cases nw)) rfl) fun σ H Q q => ?_) (fun _ => rfl) fun _ _ _ z => nomatch z
    obtain ⟨T, env, O, k, r, q⟩ := q
    refine lift1 ma k r.l q fun d v H1 e1 k1 hd q => ?_
    refine lift1 mb k1 (r.r.ext k e1) q fun d2 v2 H2 e2 k2 hd2 q => ?_
    cases d with
    | int i =>
      cases d2 with
      | int n =>
        obtain ⟨⟨⟨z1, z2⟩, z3, z4⟩, q⟩ := q
        refine ⟨i, n, by rw [show v = V.int i from hd], by rw [show v2 = V.int n from hd2], ⟨by omega, by omega, by omega, by omega, by omega⟩, fun p hp => ?_⟩
        have e : rangeD i n = ((List.range (n - i).toNat).map fun k => (i : Int) + (k : Nat)).map D.int := by
          unfold rangeD
          rw [List.map_map]
          rfl
        have e2' : rgV i n = ((List.range (n - i).toNat).map fun k => (i : Int) + (k : Nat)).map V.int := by
          unfold rgV
          rw [List.map_map]
          rfl
        rw [e] at q
        rw [e2']
        exact post.tup k2 (post.ext e2 k2.tape (post.ext e1 k1.tape q)) (Dats.of_ints _) (by simp; omega) hp
      | _ => exact q.elim
    | _ => exact q.elim
  · cases m
/-! ### NAME.index(x) -/
def HasTx (g : Gx) (x : Str) (ss : List Str) : Prop := ∃ a : Addr, g.mg x = some (.ref a) ∧ (∃ o, g.K.lookup a = some o ∧ o.cls = .type "tuple" ∧ o.dict = none) ∧ ∀ H : Hp, SqT g.K H a (ss.map V.str)
def gix1 (ss : List Str) (x : D) (Q : D → Prop) : Prop := match x with
  | .str s => ∃ j : Nat, (ss[j]? = some s ∧ ∀ m < j, ss[m]? ≠ some s) ∧ Q (.int j)
  | _ => False
theorem gix1_mono {ss : List Str} {x : D} {Q Q' : D → Prop} (h : gix1 ss x Q) (m : ∀ d, Q d → Q' d) : gix1 ss x Q' := by
  cases x with
  | str s =>
    obtain ⟨j, e, h⟩ := h
    exact ⟨j, e, m _ h⟩
  | _ => exact h.elim
def lookGix (c : Ctx) (nm : Str) (a : E) : Expr → Bool
  | .Call (.Attribute (.Name x _) at_ ap) [y] [] cp => decide (x = nm) && decide (at_ = ("index" : Str)) && glB c.sc x && (ap.endLine == cp.line) && notStar y && matchE c false a y
  | _ => false
def gix (nm : Str) (ss : List Str) (a : E) : E := .raw (fun c x => lookGix c nm a x) (fun env Q => semE a env fun x => gix1 ss x Q) a.vars false
@[simp] theorem gix_mono {nm : Str} {ss : List Str} {a : E} (ma : a.monos) : (gix nm ss a).monos := fun env Q Q' h m => (sem_mono a ma).1 _ _ _ h fun x h => gix1_mono h m
@[simp] theorem sem_gix {nm : Str} {ss : List Str} {a : E} {env : DEnv} {Q : D → Prop} : semE (gix nm ss a) env Q = semE a env fun x => gix1 ss x Q := rfl
@[simp] theorem gix1_s {ss : List Str} {s : Str} {Q : D → Prop} : gix1 ss (.str s) Q = ∃ j : Nat, (ss[j]? = some s ∧ ∀ m < j, ss[m]? ≠ some s) ∧ Q (.int j) := rfl
@[simp] theorem gix_isNil {nm : Str} {ss : List Str} {a : E} : (gix nm ss a).isNil = false := rfl
@[simp] theorem gix_fresh {nm : Str} {ss : List Str} {a : E} : (gix nm ss a).fresh = false := rfl
@[simp] theorem gix_vars {nm : Str} {ss : List Str} {a : E} : (gix nm ss a).vars = a.vars := rfl
theorem gix_need {g : Gx} {nm : Str} {ss : List Str} {a : E} (ma : a.monos) (na : Need g a) (hd : HasTx g nm ss) : Need g (gix nm ss a) := by
  intro X c x hg ok m
  replace m : lookGix c nm a x = true := m
  subst hg
  unfold lookGix at m
  split at m
  · rename_i f x p at_ ap y cp
    simp only [Bool.and_eq_true, decide_eq_true_eq] at m
    obtain ⟨⟨⟨⟨⟨rfl, rfl⟩, g5⟩, h3⟩, st⟩, m5⟩ := m
    obtain ⟨g1, g2, g3⟩ := gl_of ok g5
    have A := (sound a ma).get ok na m5
    obtain ⟨ad, e1, e2, e3⟩ := hd
    refine rawNeed (gix_mono ma) (PE.imp (pe_bmx (pe_glob (v := .ref ad) g1 e1 rfl g2) (pa_cons A.pe pa_nil (star_of st)) (base_of (by rfl) _) (few_one st) h3 (star_of st) rfl) fun σ H Q q => ?_) (fun _ => rfl) fun _ _ _ z => nomatch z
    obtain ⟨T, env, O, k, r, q⟩ := q
    refine ⟨_, _, _, PySem.F.plainAttrs_tuple, PySem.F.slot_tuple_index, PySem.F.type_tuple_index, mt_tup_index, .inr (.inl ⟨rfl, e2⟩), lift1 ma k r q fun d w H2 e2 k2 hd q => ?_⟩
    cases d with
    | str t =>
      obtain ⟨j, ⟨hj, hn⟩, q⟩ := q
      obtain ⟨rfl, _, _⟩ := dat_str hd
      exact ⟨ad, ss, t, j, rfl, rfl, e3 H2, hj, hn, post.int k2 (post.ext e2 k2.tape q)⟩
    | _ => exact q.elim
  · cases m
def ckTx (x : Str) (K : PySem.W.Frag) : Bool := match K.lookup (He.ga K x) with
  | some ⟨.type c, none, _, _⟩ => decide (c = "tuple")
  | _ => false
theorem ckTx_ok {x : Str} {ss : List Str} {g : Gx} (hm : g.mg x = some (.ref (He.ga g.K x))) (h : ckTup x (ss.map He.Dv.str) g.K = true) (h2 : ckTx x g.K = true) : HasTx g x ss := by
  refine ⟨_, hm, ?_, fun H => ?_⟩
  · unfold ckTx at h2
    cases q : g.K.lookup (He.ga g.K x) with
    | none => rw [q] at h2; cases h2
    | some o =>
      obtain ⟨oc, od, dt, sl⟩ := o
      rw [q] at h2
      cases oc with
      | type c =>
        cases od with
        | none => exact ⟨_, rfl, congrArg Value.type (of_decide_eq_true h2), rfl⟩
        | some b => cases h2
      | _ => cases od <;> cases h2
  · have e : (ss.map He.Dv.str).map (He.Dv.v g.K) = ss.map V.str := by
      rw [List.map_map]
      rfl
    have q := He.tupB_ok h H
    rw [e] at q
    exact q
/-! ### {"a": "b", "c": "d"}[x] -/
def dsel1 (a b c d : Str) (x : D) (Q : D → Prop) : Prop := match x with
  | .str s => (s = a ∧ Q (.str b)) ∨ (s = c ∧ Q (.str d))
  | _ => False
theorem dsel1_mono {a b c d : Str} {x : D} {Q Q' : D → Prop} (h : dsel1 a b c d x Q) (m : ∀ d, Q d → Q' d) : dsel1 a b c d x Q' := by
  cases x with
  | str s => exact h.imp (fun h => ⟨h.1, m _ h.2⟩) fun h => ⟨h.1, m _ h.2⟩
  | _ => exact h.elim
def strC (s : Str) : Expr → Bool
  | .Constant (.str z) _ _ => decide (z = s) && decide (s.cps.size ≤ 16777216) && PyData.strOk s
  | _ => false
def lookDsel (cx : Ctx) (a b c d : Str) (e : E) : Expr → Bool
  | .Subscript (.Dict [some x1, some x2] [y1, y2] _) y _ => decide (a ≠ c) && strC a x1 && strC c x2 && strC b y1 && strC d y2 && notSlice y && matchE cx false e y
  | _ => false
def dsel (a b c d : Str) (e : E) : E := .raw (fun cx x => lookDsel cx a b c d e x) (fun env Q => semE e env fun x => dsel1 a b c d x Q) e.vars false
@[simp] theorem dsel_mono {a b c d : Str} {e : E} (me : e.monos) : (dsel a b c d e).monos := fun env Q Q' h m => (sem_mono e me).1 _ _ _ h fun x h => dsel1_mono h m
@[simp] theorem sem_dsel {a b c d : Str} {e : E} {env : DEnv} {Q : D → Prop} : semE (dsel a b c d e) env Q = semE e env fun x => dsel1 a b c d x Q := rfl
@[simp] theorem dsel1_s {a b c d s : Str} {Q : D → Prop} : dsel1 a b c d (.str s) Q = ((s = a ∧ Q (.str b)) ∨ (s = c ∧ Q (.str d))) := rfl
@[simp] theorem dsel_isNil {a b c d : Str} {e : E} : (dsel a b c d e).isNil = false := rfl
@[simp] theorem dsel_fresh {a b c d : Str} {e : E} : (dsel a b c d e).fresh = false := rfl
@[simp] theorem dsel_vars {a b c d : Str} {e : E} : (dsel a b c d e).vars = e.vars := rfl
theorem strC_pe {X : Cx} {s : Str} {x : Expr} (m : strC s x = true) : PE X x (tC (.str s)) ∧ s.cps.size ≤ 16777216 ∧ PyData.strOk s = true := by
  unfold strC at m
  split at m
  · simp only [Bool.and_eq_true, decide_eq_true_eq] at m
    obtain ⟨⟨rfl, h1⟩, h2⟩ := m
    exact ⟨pe_str, h1, h2⟩
  · cases m
theorem dsel_need {g : Gx} {a b c d : Str} {e : E} (me : e.monos) (ne : Need g e) : Need g (dsel a b c d e) := by
  intro X cx x hg ok m
  replace m : lookDsel cx a b c d e x = true := m
  subst hg
  unfold lookDsel at m
  split at m
  · rename_i f x1 x2 y1 y2 p y p2
    simp only [Bool.and_eq_true, decide_eq_true_eq] at m
    obtain ⟨⟨⟨⟨⟨⟨hac, ma⟩, mc⟩, mb⟩, md⟩, ns⟩, m5⟩ := m
    have E' := (sound e me).get ok ne m5
    have pa := strC_pe (X := X) ma
    have pb := strC_pe (X := X) mb
    have pc := strC_pe (X := X) mc
    have pd := strC_pe (X := X) md
    refine rawNeed (dsel_mono me) (PE.imp (pe_dget (Nat.lt_of_le_of_lt (by omega) ok.hu) (pe_disp (pps_cons pa.1 pb.1 (pps_cons pc.1 pd.1 pps_nil)) rfl rfl (by simp) (by simp)) E'.pe (plain_of ns)) fun σ H Q q p hp => ?_) (fun _ => rfl) fun _ _ _ z => nomatch z
    obtain ⟨T, env, O, k, r, q⟩ := q
    refine ⟨upd_same, [(.inr a, .str b), (.inr c, .str d)], rfl, by simp, ?_⟩
    obtain ⟨u, hu⟩ : ∃ u, u = HO.dK (mergeK [] [(.inr a, .str b), (.inr c, .str d)]) := ⟨_, rfl⟩
    rw [← hu, upd_upd]
    have e1 : Ext T H (upd H p u) := Ext.upd hp
    have t1 := tapeLe (le_upd (o := u) hp) k.tape
    have k1 : Ok T O (upd H p u) := k.ext e1 t1
    refine lift1 me k1 (r.ext k e1) q fun x v H2 e2 k2 hd q => ?_
    have hpT : p ∉ T.own := fun z => k.live p (k.sub p z) hp
    have hp2 : H2 p = some u := e2 _ _ upd_same hpT
    cases x with
    | str s =>
      obtain ⟨rfl, _, _⟩ := dat_str hd
      rw [hu] at hp2
      have g := DGet.k (k := .inr s) hp2
      rcases q with ⟨rfl, q⟩ | ⟨rfl, q⟩
      · refine ⟨p, .str b, rfl, ?_, post.str k2 (post.ext e2 k2.tape (post.ext e1 t1 q)) pb.2.1 pb.2.2⟩
        have ev : valV (mergeK [] [(.inr s, V.str b), (.inr c, .str d)]) (.inr s : Key) = some (.str b) := by
          have h1 : ¬ ((.inr s : Key) = .inr c) := fun z => hac (Sum.inr.inj z)
          simp [mergeK, putK, valV, h1]
        rw [ev] at g
        exact g
      · refine ⟨p, .str d, rfl, ?_, post.str k2 (post.ext e2 k2.tape (post.ext e1 t1 q)) pd.2.1 pd.2.2⟩
        have ev : valV (mergeK [] [(.inr a, V.str b), (.inr s, .str d)]) (.inr s : Key) = some (.str d) := by
          have h1 : ¬ ((.inr a : Key) = .inr s) := fun z => hac (Sum.inr.inj z)
          simp [mergeK, putK, valV, h1]
        rw [ev] at g
        exact g
    | _ => exact q.elim
  · cases m
end DL

set_option Elab.async false
set_option linter.all false
set_option maxRecDepth 100000
set_option maxHeartbeats 4000000
/-! DL46: own lists of own lists: name = [a list for ..], name[a][b] = e, name[a].append(e), name[a].pop(e). -/
namespace DL
open PySem PySem.Spec PyProof.Rows L2

section
variable {K : PySem.W.Frag} {T : Tape} {O W : List Addr} {σ σ' : L2.St} {env env' : DEnv} {H H1 : Hp} {vs : List Nat}
theorem lift1F {a : E} {P : D → Prop} {R : VK} (ha : a.monos) (k : Ok T O H) (r : Rp K T O σ env H a.vars) (h : semE a env P)
    (c : ∀ d v H1, Ext T H H1 → Ok T O H1 → Dat K T (res H1 O) d v → (a.fresh = true → Fresh K T O H H1 d v) → P d → R v H1) : liftE K a σ H R :=
  ⟨T, env, O, k, r, (sem_mono a ha).1 _ _ _ h fun d hp v H1 e t hd hf => c d v H1 e (k.ext e t) hd hf hp⟩
/-- a turn: the rows so far stand in own cells -/
structure TurnN (K : PySem.W.Frag) (T : Tape) (O : List Addr) (H' : Hp) (ad : Addr) (n : Nat) (rows : List (List DL.D)) (ps : List Addr) (H2 : Hp) : Prop where
  t : Turn1 K T O H' ad n (rows.map DL.D.lst) H2
  acc : H2 ad = some (.lst (ps.map V.ref))
  nd : ps.Nodup
  new : ∀ q ∈ ps, H' q = none ∧ H2 q ≠ none
theorem TurnN.go {ad : Addr} {n : Nat} {rows : List (List DL.D)} {ps : List Addr} {H' H2 H3 : Hp} (k : Ok T O H') (hD : H' ad = none) (t : TurnN K T O H' ad n rows ps H2) (e : Ext T H2 H3) (t3 : T.ok H3) : TurnN K T O H' ad n rows ps H3 :=
  ⟨t.t.go k hD e t3, e _ _ t.acc (notTapeD k hD), t.nd, fun q hq => ⟨(t.new q hq).1, e.live t3 (t.new q hq).2⟩⟩
def lcOfN (own : List (Str × Nat)) (elt tg cond : E) (env : DEnv) : List D → (List D → Prop) → Prop :=
  lcD (fun d => bindT (wipeD env (own.map (·.2))) tg d) (fun e1 Qb => condD cond.isNil (semE cond e1) Qb) (fun e1 Q => semE elt e1 fun y => ∃ ds, y = .lst ds ∧ noMuts ds = true ∧ Q y)
theorem lcOfN_mono {own : List (Str × Nat)} {elt tg cond : E} {env : DEnv} {ds : List D} {Q Q' : List D → Prop} (mc : cond.monos) (me : elt.monos) (h : lcOfN own elt tg cond env ds Q) (m : ∀ e, Q e → Q' e) : lcOfN own elt tg cond env ds Q' :=
  lcD_mono (bind := fun d => bindT (wipeD env (List.map (fun x : Str × Nat => x.2) own)) tg d) (cond := fun e1 Qb => condD cond.isNil (semE cond e1) Qb) (elt := fun e1 Q => semE elt e1 fun y => ∃ ds, y = .lst ds ∧ noMuts ds = true ∧ Q y)
    (fun d Q Q' h m => bindT_mono h m) (fun e Q Q' h m => condD_mono h m ((sem_mono cond mc).1 e)) (fun e Q Q' h m => (sem_mono elt me).1 _ _ _ h fun y ⟨ds, a, b, c⟩ => ⟨ds, a, b, m _ c⟩) (ds := ds) (Q := Q) (Q' := Q') h m
theorem lcOfN_cons {own : List (Str × Nat)} {elt tg cond : E} {env : DEnv} {d : D} {ds : List D} {Q : List D → Prop} (h : lcOfN own elt tg cond env (d :: ds) Q) : bindT (wipeD env (own.map (·.2))) tg d fun e1 => condD cond.isNil (semE cond e1) fun b => match b with
    | true => semE elt e1 fun y => ∃ ds', y = .lst ds' ∧ noMuts ds' = true ∧ lcOfN own elt tg cond env ds fun ys => Q (y :: ys)
    | false => lcOfN own elt tg cond env ds Q := h
theorem lcN_read {own : List (Str × Nat)} {elt tg it cond : E} {n : Nat} (hm : (E.lc own elt tg it cond).monos) (hs : ∀ i ∈ slotsOf tg, i ∈ own.map (·.2)) (hfr : elt.fresh = true) {F : List D → Prop} {Q : VK} (hl : σ.length = n)
    (k : Ok T O H) (r : Rp K T O σ env H (E.lc own elt tg it cond).vars) (h : semE it env fun w => dItems w fun items => lcOfN own elt tg cond env items F)
    (fin : ∀ (rows : List (List D)) (ad : Addr) (ps : List Addr) (H2 : Hp), F (rows.map .lst) → (∀ ds ∈ rows, noMuts ds = true) → Ext T H H2 → T.ok H2 → H ad = none → (∀ q ∈ ps, H q = none) → (ad :: ps).Nodup → H2 ad = some (.lst (ps.map V.ref)) →
      ps.length ≤ 16777216 → Dats K T (res H2 (ad :: O)) (rows.map .lst) (ps.map V.ref) → Q (.ref ad) H2) :
    tLc (liftI K it) (liftG K n tg) (liftC K cond) (liftE K elt) (own.map (·.2)) σ H Q := by
  refine ⟨T, env, O, k, r.l, (sem_mono it hm.1).1 _ _ _ h fun w hw => dItems_mono hw fun items hw J H1 ex t wk _ ad hD => ?_⟩
  have k1 : Ok T O H1 := k.ext ex t
  obtain ⟨hz, wk⟩ := wk
  have back : ∀ a, H1 a = none → H a = none := fun a ha => by
    cases q : H a with
    | none => rfl
    | some o => exact absurd ha (ex.live t (by rw [q]; exact fun z => nomatch z))
  refine ⟨fun i m H2 => ∃ rows ps, i + m = items.length ∧ TurnN K T O H1 ad i rows ps H2 ∧ (∀ ds ∈ rows, noMuts ds = true) ∧ lcOfN own elt tg cond env (items.drop i) fun zs => F (rows.map .lst ++ zs), ⟨items.length, [], [], by omega, ?_, fun ds hd => (nomatch hd), hw⟩, ?_⟩
  · exact ⟨⟨tapeLe (le_upd hD) t, Ext.upd hD, [], upd_same, Nat.le_refl _, rfl⟩, upd_same, List.nodup_nil, fun q hq => nomatch hq⟩
  rintro i m H2 ⟨rows, ps, him, tn, nms, hq⟩
  have lw : Le (res H1 O) (res H2 O) := fun b o q => by
    obtain ⟨nb, q⟩ := res_some q
    exact res_of nb (tn.t.ext b o q fun z => nb (k1.sub b z))
  by_cases hi : i < items.length
  · obtain ⟨g, y⟩ := (wk H2 lw).1 i hi
    refine .inr ⟨g, fun H3 => ∃ rows ps, TurnN K T O H1 ad (i + 1) rows ps H3 ∧ (∀ ds ∈ rows, noMuts ds = true) ∧ lcOfN own elt tg cond env (items.drop (i + 1)) fun zs => F (rows.map .lst ++ zs),
      fun H3 ⟨rows, ps, a, b, c⟩ => ⟨m - 1, by omega, rows, ps, by omega, a, b, c⟩, fun x H3 hy => ?_⟩
    obtain ⟨rfl, d, ed, hd⟩ := y x H3 hy
    have ed2 : items.drop i = d :: items.drop (i + 1) := by
      rw [List.drop_eq_getElem_cons hi]
      rw [List.getElem?_eq_getElem hi] at ed
      cases ed
      rfl
    rw [ed2] at hq
    have kD := tn.t.okD k1
    have rp : Rp K T (ad :: O) (wipe σ (own.map (·.2))) (wipeD env (own.map (·.2))) H3 (tg.vars ++ (cond.vars ++ elt.vars)) := ⟨fun j hj d' e => by
      obtain ⟨nj, e⟩ := wipeD_get e
      obtain ⟨v, q, z⟩ := r.at_ j (List.mem_append_right _ hj) d' e
      refine ⟨v, by rw [wipe_get, if_neg nj]; exact q, z.le ?_⟩
      exact (k.res ex).trans (tn.t.le k1 hD)⟩
    refine ⟨T, ad :: O, _, fun σ env => Rp K T (ad :: O) σ env H3 (tg.vars ++ (cond.vars ++ elt.vars)), d, GInv.rp _, rp, hd.le (tn.t.le k1 hD), by rw [wipe_length]; exact hl, bindT_mono (lcOfN_cons hq) fun e1 he σ2 r2 l2 f2 => ⟨?_, ?_⟩⟩
    · exact wipe_same (by rw [l2, hl]) fun j hj => f2 j fun z => hj (hs j z)
    -- the condition
    have goB : ∀ (b : Bool) (H4 : Hp), Ext T H3 H4 → T.ok H4 → (match b with
        | true => semE elt e1 fun y => ∃ ds', y = .lst ds' ∧ noMuts ds' = true ∧ lcOfN own elt tg cond env (items.drop (i + 1)) fun zs => F (rows.map .lst ++ (y :: zs))
        | false => lcOfN own elt tg cond env (items.drop (i + 1)) fun zs => F (rows.map .lst ++ zs)) →
        (if b = true then liftE K elt σ2 H4 fun y H4 => ∃ acc, H4 ad = some (.lst acc) ∧ acc.length < sizeLine ∧ (∃ rows ps, TurnN K T O H1 ad (i + 1) rows ps (upd H4 ad (.lst (acc ++ [y]))) ∧ (∀ ds ∈ rows, noMuts ds = true) ∧ lcOfN own elt tg cond env (items.drop (i + 1)) fun zs => F (rows.map .lst ++ zs))
        else ∃ rows ps, TurnN K T O H1 ad (i + 1) rows ps H4 ∧ (∀ ds ∈ rows, noMuts ds = true) ∧ lcOfN own elt tg cond env (items.drop (i + 1)) fun zs => F (rows.map .lst ++ zs)) := fun b H4 e4 t4 hb => by
      have tn4 := tn.go k1 hD e4 t4
      cases b with
      | true =>
        rw [if_pos rfl]
        refine lift1F hm.2.2 (tn4.t.okD k1) ((r2.ext kD e4).r.r) hb fun y v H5 e5 k5 hy hf hp => ?_
        obtain ⟨ds', rfl, nm, hp⟩ := hp
        obtain ⟨q, xs, rfl, hqn, hq5, hqz, hqd⟩ := hf hfr ds' rfl
        have tn5 := tn4.go k1 hD e5 k5.tape
        obtain ⟨acc, q1, q2, q3⟩ := tn5.t.add k1 hD hy
        rw [tn5.acc] at q1
        cases q1
        have neq : q ≠ ad := fun z => by
          rw [z, tn4.acc] at hqn
          cases hqn
        have hq1 : H1 q = none := by
          cases w : H1 q with
          | none => rfl
          | some o => exact absurd hqn (tn4.t.ext.live tn4.t.ok (by rw [w]; exact fun z => nomatch z))
        refine ⟨_, tn5.acc, Nat.lt_of_le_of_lt q2 (by rw [sizeLine_eq]; omega), rows ++ [ds'], ps ++ [q], ⟨?_, ?_, ?_, fun a ha => ?_⟩, fun ds hds => ?_, lcOfN_mono hm.2.1 hm.2.2 hp fun zs h => ?_⟩
        · rw [List.map_append]
          exact q3
        · rw [upd_same, List.map_append]
          rfl
        · refine List.nodup_append.mpr ⟨tn.nd, by simp, fun a ha b hb e => ?_⟩
          rw [List.mem_singleton.mp hb] at e
          rw [e] at ha
          exact (tn4.new q ha).2 hqn
        · rcases List.mem_append.mp ha with ha | ha
          · have := tn5.new a ha
            refine ⟨this.1, ?_⟩
            by_cases z : a = ad
            · rw [z, upd_same]; exact fun z => nomatch z
            · rw [upd_ne z]; exact this.2
          · rw [List.mem_singleton.mp ha]
            exact ⟨hq1, by rw [upd_ne neq, hq5]; exact fun z => nomatch z⟩
        · rcases List.mem_append.mp hds with hds | hds
          · exact nms ds hds
          · rw [List.mem_singleton.mp hds]; exact nm
        · rw [List.map_append, List.append_assoc]
          exact h
      | false =>
        rw [if_neg Bool.false_ne_true]
        obtain ⟨acc, q1, q2, q3⟩ := tn4.t.at_
        exact ⟨rows, ps, ⟨⟨tn4.t.ok, tn4.t.ext, acc, q1, Nat.le_succ_of_le q2, q3⟩, tn4.acc, tn4.nd, tn4.new⟩, nms, hb⟩
    unfold liftC
    cases hc : cond.isNil with
    | true =>
      rw [hc] at he
      exact goB true H3 Ext.refl kD.tape he
    | false =>
      rw [hc] at he
      refine liftB hm.2.1 kD r2.r.l he fun d hd => ?_
      cases d with
      | bl b => exact ⟨b, rfl, fun H4 e4 k4 => goB b H4 e4 k4.tape hd⟩
      | _ => exact hd.elim
  · have ei : i = items.length := by omega
    subst ei
    refine .inl ⟨(wk H2 lw).2, ?_⟩
    rw [List.drop_length] at hq
    have hq : F (rows.map .lst ++ []) := hq
    rw [List.append_nil] at hq
    obtain ⟨acc, q1, q2, q3⟩ := tn.t.at_
    rw [tn.acc] at q1
    cases q1
    rw [List.length_map] at q2
    refine fin rows ad ps H2 hq nms (ex.trans tn.t.ext) tn.t.ok (back ad hD) (fun q hq => back q (tn.new q hq).1) (List.nodup_cons.mpr ⟨fun z => ?_, tn.nd⟩) tn.acc (by omega) q3
    obtain ⟨kk, hk⟩ := List.getElem?_of_mem z
    obtain ⟨d, _, hd⟩ := q3.get' (i := kk) (v := .ref ad) (by rw [List.getElem?_map, hk]; rfl)
    obtain ⟨j, hj⟩ := List.getElem?_of_mem (List.mem_of_getElem? ‹_›)
    have hr := List.mem_of_getElem? ‹(rows.map D.lst)[kk]? = some d›
    obtain ⟨ds, _, rfl⟩ := List.mem_map.mp hr
    obtain ⟨p, xs, e, g, _⟩ := dat_lst hd
    cases e
    exact (res_some g).1 List.mem_cons_self
/-- many new own cells, not yet named -/
theorem RepS.news (r : RepS K T O W σ env H) (e : Ext T H H1) (t : T.ok H1) {as : List Addr} (n : ∀ a ∈ as, H a = none) (h : ∀ a ∈ as, H1 a ≠ none) : RepS K T O (as ++ W) σ env H1 := by
  have l : Le (res H (W ++ O)) (res H1 (as ++ W ++ O)) := fun b u q => by
    obtain ⟨nb, q⟩ := res_some q
    refine res_of (fun z => ?_) (e b u q fun z => nb (r.okW.sub b z))
    rw [List.append_assoc] at z
    rcases List.mem_append.mp z with z | z
    · exact ne_of_none q (n b z) rfl
    · exact nb z
  refine ⟨r.ok.ext e t, fun a ha => ?_, fun a ha => ?_, r.len, fun i d h => ?_, fun i d h => ?_, r.inj, fun i rows as' h => ?_, r.nn, r.nx⟩
  · rcases List.mem_append.mp ha with ha | ha
    · exact h a ha
    · exact e.live t (r.wl a ha)
  · rcases List.mem_append.mp ha with ha | ha
    · exact r.ok.new (n a ha)
    · exact r.nt a ha
  · obtain ⟨v, h1, h2⟩ := r.sh i d h
    exact ⟨v, h1, h2.le l⟩
  · obtain ⟨ds, p, xs, h1, h2, h3, h4, h5, h6⟩ := r.ow i d h
    exact ⟨ds, p, xs, h1, h2, List.mem_append_right _ h3, e _ _ h4 (r.ntT p h3), h5, h6.le l⟩
  · obtain ⟨p, ps, n⟩ := r.nw i rows as' h
    exact ⟨p, ps, n.move rfl (fun a ha => List.mem_append_right _ (n.mem a ha)) (fun a ha xs g => e _ _ g (r.ntT a (n.mem a ha))) l⟩
/-- own cells get a name -/
theorem RepS.setNw (r : RepS K T O W σ env H) {i : Nat} {rows : List (List DL.D)} {as ps : List Addr} {p : Addr} (hi : i < σ.length) (hn : NwAt K T (res H (W ++ O)) W H (some (some (.ref p))) rows as p ps)
    (no : ∀ (j : Nat) (d : DL.D) (q : Addr), env[j]? = some (Sl.ow d) → σ[j]? = some (some (V.ref q)) → q ∉ as) (no2 : ∀ (j : Nat) (rows : List (List DL.D)) (bs : List Addr), env[j]? = some (Sl.nw rows bs) → ∀ a ∈ bs, a ∉ as) :
    RepS K T O W (σ.set i (some (.ref p))) (env.set i (.nw rows as)) H := by
  refine ⟨r.ok, r.wl, r.nt, by rw [List.length_set, List.length_set]; exact r.len, fun j e h => ?_, fun j e h => ?_, fun j l d' e' q h1 h2 h3 h4 => ?_, fun j rows' as' h => ?_, fun j l a b as' bs x h1 h2 h3 h4 => ?_, fun j l a as' d' q h1 h2 h3 => ?_⟩
  · rcases get_set h with ⟨_, e1, _⟩ | ⟨ne, h⟩
    · cases e1
    · rw [List.getElem?_set_ne (Ne.symm ne)]
      exact r.sh j e h
  · rcases get_set h with ⟨_, e1, _⟩ | ⟨ne, h⟩
    · cases e1
    · rw [List.getElem?_set_ne (Ne.symm ne)]
      exact r.ow j e h
  · rcases get_set h1 with ⟨_, e1, _⟩ | ⟨ne, h1⟩
    · cases e1
    rcases get_set h2 with ⟨_, e1, _⟩ | ⟨ne2, h2⟩
    · cases e1
    rw [List.getElem?_set_ne (Ne.symm ne)] at h3
    rw [List.getElem?_set_ne (Ne.symm ne2)] at h4
    exact r.inj j l d' e' q h1 h2 h3 h4
  · rcases get_set h with ⟨rfl, e1, _⟩ | ⟨ne, h⟩
    · cases e1
      rw [List.getElem?_set_self hi]
      exact ⟨p, ps, hn⟩
    · rw [List.getElem?_set_ne (Ne.symm ne)]
      exact r.nw j rows' as' h
  · rcases get_set h1 with ⟨e0, e1, _⟩ | ⟨ne, g1⟩
    · rcases get_set h2 with ⟨e2, _, _⟩ | ⟨ne2, g2⟩
      · rw [e0, e2]
      · cases e1
        exact absurd h3 (no2 l b bs g2 x h4)
    · rcases get_set h2 with ⟨e2, e1, _⟩ | ⟨ne2, g2⟩
      · cases e1
        exact absurd h4 (no2 j a as' g1 x h3)
      · exact r.nn j l a b as' bs x g1 g2 h3 h4
  · rcases get_set h2 with ⟨_, e1, _⟩ | ⟨ne2, g2⟩
    · cases e1
    rw [List.getElem?_set_ne (Ne.symm ne2)] at h3
    rcases get_set h1 with ⟨_, e1, _⟩ | ⟨ne, g1⟩
    · cases e1
      exact no l d' q g2 h3
    · exact r.nx j l a as' d' q g1 g2 h3
/-- a row is changed -/
theorem RepS.writeN (r : RepS K T O W σ env H) {i j : Nat} {rows : List (List DL.D)} {as ps : List Addr} {p q : Addr} {ds : List DL.D} {xs : List V} (he : env[i]? = some (Sl.nw rows as)) (n : NwAt K T (res H (W ++ O)) W H σ[i]? rows as p ps)
    (hq : ps[j]? = some q) (z : xs.length ≤ 16777216) (hd : Dats K T (res H (W ++ O)) ds xs) :
    RepS K T O W σ (env.set i (.nw (rows.set j ds) as)) (upd H q (.lst xs)) ∧ Frm T H W (upd H q (.lst xs)) W := by
  have qa : q ∈ as := by rw [n.eq]; exact List.mem_cons_of_mem _ (List.mem_of_getElem? hq)
  have hp : q ∈ W := n.mem q qa
  have nT : q ∉ T.own := r.ntT q hp
  have er : res (upd H q (.lst xs)) (W ++ O) = res H (W ++ O) := by
    funext b
    unfold res
    by_cases hb : b ∈ W ++ O
    · rw [if_pos hb, if_pos hb]
    · rw [if_neg hb, if_neg hb, upd_ne fun z => hb (by rw [z]; exact List.mem_append_left _ hp)]
  have hk : ∀ b, b ≠ q → upd H q (.lst xs) b = H b := fun b hb => upd_ne hb
  have lv : ∀ b, H b ≠ none → upd H q (.lst xs) b ≠ none := fun b hb => by
    by_cases e : b = q
    · rw [e, upd_same]; exact fun z => nomatch z
    · rw [hk b e]; exact hb
  have tk : T.ok (upd H q (.lst xs)) := tape_keep r.ok.tape fun b hb => hk b fun z => nT (by rw [← z]; exact hb)
  have hi : i < env.length := (List.getElem?_eq_some_iff.mp he).1
  have pq : p ≠ q := fun e => by
    have := n.nd
    rw [n.eq] at this
    exact (List.nodup_cons.mp this).1 (by rw [e]; exact List.mem_of_getElem? hq)
  have psn : ps.Nodup := by
    have := n.nd
    rw [n.eq] at this
    exact (List.nodup_cons.mp this).2
  refine ⟨⟨⟨tk, r.ok.sub, fun a ha => lv a (r.ok.live a ha)⟩, fun a ha => lv a (r.wl a ha), r.nt, by rw [List.length_set]; exact r.len, fun j e h => ?_, fun j e h => ?_, fun j l d' e' q' h1 h2 h3 h4 => ?_, fun j' rows' as' h => ?_, fun j l a b as' bs x h1 h2 h3 h4 => ?_, fun j l a as' d' q' h1 h2 h3 => ?_⟩, fun b o hb nb _ => ?_, fun b _ n => n, lv⟩
  · rcases get_set h with ⟨_, e1, _⟩ | ⟨ne, h⟩
    · cases e1
    · rw [er]
      exact r.sh j e h
  · rcases get_set h with ⟨_, e1, _⟩ | ⟨ne, h⟩
    · cases e1
    · obtain ⟨ds2, p2, xs2, h1, h2, h3, h4, h5, h6⟩ := r.ow j e h
      refine ⟨ds2, p2, xs2, h1, h2, h3, ?_, h5, by rw [er]; exact h6⟩
      rw [hk p2 fun z => r.nx i j rows as e p2 he h h2 (by rw [z]; exact qa)]
      exact h4
  · rcases get_set h1 with ⟨_, e1, _⟩ | ⟨ne, h1⟩
    · cases e1
    rcases get_set h2 with ⟨_, e1, _⟩ | ⟨ne2, h2⟩
    · cases e1
    exact r.inj j l d' e' q' h1 h2 h3 h4
  · rcases get_set h with ⟨rfl, e1, _⟩ | ⟨ne, h⟩
    · cases e1
      rw [er]
      refine ⟨p, ps, n.eq, n.val, by rw [hk p pq]; exact n.top, n.size, n.nd, n.mem, by rw [List.length_set]; exact n.len, fun k q' ds' h1 h2 => ?_⟩
      by_cases e : j = k
      · subst e
        rw [hq] at h1
        cases h1
        have hj : j < rows.length := by
          have := (List.getElem?_eq_some_iff.mp h2).1
          rwa [List.length_set] at this
        rw [List.getElem?_set_self hj] at h2
        cases h2
        exact ⟨xs, upd_same, z, hd⟩
      · rw [List.getElem?_set_ne e] at h2
        obtain ⟨xs', a, b, c⟩ := n.row k q' ds' h1 h2
        refine ⟨xs', ?_, b, c⟩
        rw [hk q' fun z => e ?_]
        · exact a
        · rw [z] at h1
          exact ((List.getElem?_inj (List.getElem?_eq_some_iff.mp hq).1 psn).mp (hq.trans h1.symm))
    · obtain ⟨p', ps', n'⟩ := r.nw j' rows' as' h
      rw [er]
      exact ⟨p', ps', n'.move rfl n'.mem (fun a ha xs' g => by rw [hk a fun z => ne (r.nn j' i rows' rows as' as a h he ha (by rw [z]; exact qa))]; exact g) fun _ _ g => g⟩
  · have key : ∀ {R : List (List DL.D)} {j : Nat} {a : List (List DL.D)} {as' : List Addr}, (env.set i (Sl.nw R as))[j]? = some (Sl.nw a as') → ∃ a', env[j]? = some (Sl.nw a' as') := fun h => by
      rcases get_set h with ⟨rfl, e1, _⟩ | ⟨_, h⟩
      · cases e1
        exact ⟨rows, he⟩
      · exact ⟨_, h⟩
    obtain ⟨a', g1⟩ := key h1
    obtain ⟨b', g2⟩ := key h2
    exact r.nn j l a' b' as' bs x g1 g2 h3 h4
  · rcases get_set h2 with ⟨_, e1, _⟩ | ⟨ne2, g2⟩
    · cases e1
    rcases get_set h1 with ⟨rfl, e1, _⟩ | ⟨ne, g1⟩
    · cases e1
      exact r.nx j l rows as d' q' he g2 h3
    · exact r.nx j l a as' d' q' g1 g2 h3
  · rw [hk b fun z => nb (by rw [z]; exact hp)]
    exact hb
end
end DL

set_option Elab.async false
set_option linter.all false
set_option maxRecDepth 100000
set_option maxHeartbeats 4000000
/-! DL47: the statements about own lists of own lists. -/
namespace DL
open PySem PySem.Spec PyProof.Rows L2

def nstL (env : DEnv) (i : Nat) (Q : List (List D) → List Addr → Prop) : Prop := match env[i]? with
  | some (.nw rows as) => Q rows as
  | _ => False
theorem nst_get {env : DEnv} {i : Nat} {Q : List (List D) → List Addr → Prop} (h : nstL env i Q) : ∃ rows as, env[i]? = some (Sl.nw rows as) ∧ Q rows as := by
  unfold nstL at h
  split at h
  · exact ⟨_, _, by assumption, h⟩
  · exact h.elim
theorem nst_of {env : DEnv} {i : Nat} {rows : List (List D)} {as : List Addr} {Q : List (List D) → List Addr → Prop} (h : env[i]? = some (Sl.nw rows as)) (q : Q rows as) : nstL env i Q := by
  unfold nstL
  rw [h]
  exact q
theorem nstL_mono {env : DEnv} {i : Nat} {Q Q' : List (List D) → List Addr → Prop} (h : nstL env i Q) (m : ∀ r a, Q r a → Q' r a) : nstL env i Q' := by
  obtain ⟨rows, as, e, q⟩ := nst_get h
  exact nst_of e (m _ _ q)
def nrow (rows : List (List D)) (x : D) (k : Nat → List D → Prop) : Prop := match x with
  | .int m => ∃ j ds, ixN rows.length m = some j ∧ rows[j]? = some ds ∧ k j ds
  | _ => False
theorem nrow_mono {rows : List (List D)} {x : D} {k k' : Nat → List D → Prop} (h : nrow rows x k) (m : ∀ j ds, k j ds → k' j ds) : nrow rows x k' := by
  cases x with
  | int i =>
    obtain ⟨j, ds, h1, h2, h3⟩ := h
    exact ⟨j, ds, h1, h2, m _ _ h3⟩
  | _ => exact h.elim
def nix (ds : List D) (x : D) (k : Nat → Prop) : Prop := match x with
  | .int m => ∃ j, ixN ds.length m = some j ∧ k j
  | _ => False
theorem nix_mono {ds : List D} {x : D} {k k' : Nat → Prop} (h : nix ds x k) (m : ∀ j, k j → k' j) : nix ds x k' := by
  cases x with
  | int i =>
    obtain ⟨j, h1, h3⟩ := h
    exact ⟨j, h1, m _ h3⟩
  | _ => exact h.elim
/-! name = [a list for ..] -/
def lookNlc (c : Ctx) (i : Nat) (own : List (Str × Nat)) (elt tg it cond : E) (st : Stmt) : Bool := match vAsg st with
  | some (x, _, v, _) => storeB c i x && matchE c false (.lc own elt tg it cond) v && elt.fresh
  | none => false
def semNlc (i : Nat) (own : List (Str × Nat)) (elt tg it cond : E) (en : DEnds) (env : DEnv) : Prop :=
  semE it env fun w => dItems w fun items => lcOfN own elt tg cond env items fun ds => ∀ rows as, ds = rows.map D.lst → en.nx (env.set i (.nw rows as))
def nlc (i : Nat) (own : List (Str × Nat)) (elt tg it cond : E) : S := .raw (fun c st => lookNlc c i own elt tg it cond st) (fun en env => semNlc i own elt tg it cond en env)
@[simp] theorem nlc_mono {i : Nat} {own : List (Str × Nat)} {elt tg it cond : E} (mi : it.monos) (mc : cond.monos) (me : elt.monos) : (nlc i own elt tg it cond).monos := fun p q le env h =>
  (sem_mono it mi).1 _ _ _ h fun w h => dItems_mono h fun items h => lcOfN_mono mc me h fun ds h rows as e => le.1 _ (h rows as e)
@[simp] theorem semS_nlc {i : Nat} {own : List (Str × Nat)} {elt tg it cond : E} {en : DEnds} {env : DEnv} : semS (nlc i own elt tg it cond) en env = semNlc i own elt tg it cond en env := rfl
theorem map_lst_inj : ∀ {a b : List (List D)}, a.map D.lst = b.map D.lst → a = b
  | [], [], _ => rfl
  | [], _ :: _, h => by cases h
  | _ :: _, [], h => by cases h
  | a :: as, b :: bs, h => by
    injection h with h1 h2
    injection h1 with h1
    rw [h1, map_lst_inj h2]
theorem st_nlc {i : Nat} {own : List (Str × Nat)} {elt tg it cond : E} {r : S} {en : DEnds} {env : DEnv} (P : List (List D) → Prop) (mi : it.monos) (mc : cond.monos) (me : elt.monos)
    (h : semE it env fun w => dItems w fun items => lcOfN own elt tg cond env items fun ds => ∃ rows, ds = rows.map D.lst ∧ P rows) (nx : ∀ rows as, P rows → semS r en (env.set i (.nw rows as))) : semS (.cons (nlc i own elt tg it cond) r) en env := by
  show semNlc i own elt tg it cond { en with nx := semS r en } env
  exact (sem_mono it mi).1 _ _ _ h fun w h => dItems_mono h fun items h => lcOfN_mono mc me h fun ds ⟨rows, e, p⟩ rows' as e' => by
    rw [e] at e'
    rw [← map_lst_inj e']
    exact nx rows as p
section
variable {K : PySem.W.Frag} {T : Tape} {O W : List Addr} {σ : L2.St} {env : DEnv} {H H1 : Hp} {n : Nat} {D : Ends}
theorem nlc_read {i : Nat} {own : List (Str × Nat)} {elt tg it cond : E} (hm : (E.lc own elt tg it cond).monos) (hs : ∀ i ∈ slotsOf tg, i ∈ own.map (·.2)) (hfr : elt.fresh = true) (hi : i < n) (h : liftS K n (nlc i own elt tg it cond) D σ H) :
    tAsg (tLc (liftI K it) (liftG K n tg) (liftC K cond) (liftE K elt) (own.map (·.2))) (gName i) D σ H := by
  obtain ⟨T, O, W, env, r, l, h⟩ := h
  obtain ⟨k, rp⟩ := r.rp (E.lc own elt tg it cond).vars
  refine lcN_read hm hs hfr l k rp h fun rows ad ps H2 hF nms ex t n1 n2 nd top size dats => ?_
  have n3 : ∀ a ∈ ad :: ps, H a = none := fun a ha => by
    rcases List.mem_cons.mp ha with rfl | ha
    · exact n1
    · exact n2 a ha
  have hlen : ps.length = rows.length := by
    have := dats.length
    rwa [List.length_map, List.length_map] at this
  have rowA : ∀ (kk : Nat) (q : Addr) (ds : List DL.D), ps[kk]? = some q → rows[kk]? = some ds → ∃ xs, H2 q = some (.lst xs) ∧ xs.length ≤ 16777216 ∧ Dats K T (res H2 (ad :: (frzW σ env (E.lc own elt tg it cond).vars W ++ O))) ds xs := fun kk q ds h1 h2 => by
    obtain ⟨v, hv, hd⟩ := dats.get (i := kk) (d := .lst ds) (by rw [List.getElem?_map, h2]; rfl)
    rw [List.getElem?_map, h1] at hv
    cases hv
    obtain ⟨p, xs, e, g, z, hd⟩ := dat_lst hd
    cases e
    exact ⟨xs, (res_some g).2, z, hd⟩
  have lives : ∀ a ∈ ad :: ps, ∃ ys, H2 a = some (.lst ys) := fun a ha => by
    rcases List.mem_cons.mp ha with rfl | ha
    · exact ⟨_, top⟩
    · obtain ⟨kk, hk⟩ := List.getElem?_of_mem ha
      have hl := (List.getElem?_eq_some_iff.mp hk).1
      obtain ⟨xs, g, _⟩ := rowA kk a _ hk (List.getElem?_eq_getElem (by omega))
      exact ⟨xs, g⟩
  have r1 : RepS K T O (ad :: ps ++ W) σ env H2 := r.news ex t n3 fun a ha => by
    obtain ⟨ys, g⟩ := lives a ha
    rw [g]
    exact fun z => nomatch z
  have wd : ∀ b ∈ ad :: ps ++ W ++ O, b ∈ ad :: (frzW σ env (E.lc own elt tg it cond).vars W ++ O) ∨ ∃ ys, H2 b = some (.lst ys) := fun b hb => by
    rw [List.append_assoc] at hb
    rcases List.mem_append.mp hb with hb | hb
    · exact .inr (lives b hb)
    · rcases r.wide (E.lc own elt tg it cond).vars ex b hb with g | g
      · exact .inl (List.mem_cons_of_mem _ g)
      · exact .inr g
  have nw : NwAt K T (res H2 (ad :: ps ++ W ++ O)) (ad :: ps ++ W) H2 (some (some (.ref ad))) rows (ad :: ps) ad ps := by
    refine ⟨rfl, rfl, top, size, nd, fun a ha => List.mem_append_left _ ha, hlen, fun kk q ds h1 h2 => ?_⟩
    obtain ⟨xs, g, z, hd⟩ := rowA kk q ds h1 h2
    exact ⟨xs, g, z, dats_wide wd ds xs (nms ds (List.mem_of_getElem? h2)) hd⟩
  have r2 := r1.setNw (i := i) (by rw [l]; exact hi) nw (fun j d q h1 h2 hq => by
    obtain ⟨ds', p', xs', _, q2, q3, q4, _⟩ := r.ow j d h1
    rw [h2] at q2
    cases q2
    rw [n3 q hq] at q4
    cases q4) (fun j rows' bs h1 a ha hq => by
    obtain ⟨p', ps', m⟩ := r.nw j rows' bs h1
    obtain ⟨xs', g'⟩ := m.has ha
    rw [n3 a hq] at g'
    cases g')
  refine hF rows (ad :: ps) rfl _ H2 _ r2 (by rw [List.length_set]; exact l) ⟨fun b o hb _ nt => ex b o hb nt, fun b hb nb z => ?_, fun b hb => ex.live t hb⟩
  rcases List.mem_append.mp z with z | z
  · exact hb (n3 b z)
  · exact nb z
end
@[simp] theorem nlc_need {g : Gx} {i : Nat} {own : List (Str × Nat)} {elt tg it cond : E} (mi : it.monos) (mc : cond.monos) (me : elt.monos) (nd : Need g (.lc own elt tg it cond)) : NeedS g (nlc i own elt tg it cond) := by
  intro X c st hg ok hp hkf m
  replace m : lookNlc c i own elt tg it cond st = true := m
  subst hg
  unfold lookNlc at m
  cases h : vAsg st with
  | none => rw [h] at m; cases m
  | some z =>
    obtain ⟨x, py, v, pos⟩ := z
    rw [h] at m
    cases vAsg_eq h
    simp only [Bool.and_eq_true] at m
    obtain ⟨⟨m1, m2⟩, m3⟩ := m
    unfold storeB at m1
    simp only [Bool.and_eq_true, decide_eq_true_eq] at m1
    obtain ⟨⟨h1, h2⟩, h3⟩ := m1
    have hN : X.N[i]? = some x := by rw [ok.N]; exact h1
    have hnd : X.N.Nodup := by rw [ok.N]; exact ok.nd
    have hi : i < c.N.length := (List.getElem?_eq_some_iff.mp h1).1
    have hm : (E.lc own elt tg it cond).monos := ⟨mi, mc, me⟩
    have m0 := m2
    rw [mE_lc] at m2
    split at m2
    · rename_i elt' tg' it' ifs ia scope pos2
      simp only [Bool.and_eq_true, decide_eq_true_eq] at m2
      have e0 := m2.1.1.1.1.1.1.1
      subst e0
      obtain ⟨p1, p2, p3, p4, p5, p6, p7⟩ := lc_parts ok hm (sound elt me) (sound it mi) (sound cond mc) nd m0
      cases hsw : swB X.env x py scope pos2 with
      | false => exact PS.imp (ps_set (i := i) hnd hN (loc_of ok h2) (pe_lc ok.calm hnd p1 p2 p3 p4 p5 p6) (by rw [swaps_lc, hsw]) (fn_of_match ok h3)) fun D σ H q => nlc_read hm p7 m3 hi q
      | true =>
        have hl : X.env.scope.names.lookup x = some .local := by
          unfold swB at hsw
          simp only [Bool.and_eq_true, beq_iff_eq] at hsw
          exact hsw.1.1.2
        exact PS.imp (ps_setLc (i := i) ok.calm hnd hN hl (by rw [swaps_lc, hsw]) p1 p2 p3 p4 p5 p6) fun D σ H q => nlc_read hm p7 m3 hi q
    · cases m2
/-! name[a][b] = e -/
def lookNset (c : Ctx) (i : Nat) (a b e : E) : Stmt → Bool
  | .Assign [.Subscript (.Subscript (.Name x _) a' _) b' _] v _ => varB c i x && notSlice a' && notSlice b' && matchE c false a a' && matchE c false b b' && matchE c false e v
  | _ => false
def semNset (i : Nat) (a b e : E) (en : DEnds) (env : DEnv) : Prop := semE e env fun d => noMut d = true ∧ nstL env i fun rows as => semE a env fun x => nrow rows x fun j ds => semE b env fun y => nix ds y fun j2 => en.nx (env.set i (.nw (rows.set j (ds.set j2 d)) as))
def nset (i : Nat) (a b e : E) : S := .raw (fun c st => lookNset c i a b e st) (fun en env => semNset i a b e en env)
@[simp] theorem nset_mono {i : Nat} {a b e : E} (ma : a.monos) (mb : b.monos) (me : e.monos) : (nset i a b e).monos := fun p q le env h =>
  (sem_mono e me).1 _ _ _ h fun d h => ⟨h.1, nstL_mono h.2 fun r as h => (sem_mono a ma).1 _ _ _ h fun x h => nrow_mono h fun j ds h => (sem_mono b mb).1 _ _ _ h fun y h => nix_mono h fun j2 h => le.1 _ h⟩
@[simp] theorem semS_nset {i : Nat} {a b e : E} {en : DEnds} {env : DEnv} : semS (nset i a b e) en env = semNset i a b e en env := rfl
section
variable {K : PySem.W.Frag} {T : Tape} {O W : List Addr} {σ : L2.St} {env : DEnv} {H H1 : Hp} {n : Nat} {D : Ends}
theorem nset_read {i : Nat} {a b e : E} (ma : a.monos) (mb : b.monos) (me : e.monos) (h : liftS K n (nset i a b e) D σ H) : tAsg (liftE K e) (gSub (tOp (rIxL K) (tVar i) (liftE K a)) (liftE K b) rSetL) D σ H := by
  obtain ⟨T, O, W, env, r, l, h⟩ := h
  replace h : semNset i a b e _ env := h
  refine r.eval me h fun d v H1 ex t hd hf hq => ?_
  obtain ⟨nm, hq⟩ := hq
  obtain ⟨rows, as, he, hq⟩ := nst_get hq
  rw [aftW_nm nm] at hd
  have r1 := r.ext ex t
  obtain ⟨p, ps, nw⟩ := r1.nw i rows as he
  refine ⟨.ref p, nw.val, ?_⟩
  refine r1.eval ma hq fun x u H2 ex2 t2 hx2 _ hq => ?_
  cases x with
  | int m =>
    obtain ⟨j, ds, hj, hds, hq⟩ := hq
    have r2 := r1.ext ex2 t2
    have nw2 := nw.move (W' := W) (R' := res H2 (W ++ O)) (H' := H2) rfl nw.mem (fun a ha xs g => ex2 _ _ g (r.ntT a (nw.mem a ha))) (r1.okW.res ex2)
    have hjl := (List.getElem?_eq_some_iff.mp hds).1
    obtain ⟨q, hqj⟩ : ∃ q, ps[j]? = some q := ⟨_, List.getElem?_eq_getElem (by rw [nw.len]; exact hjl)⟩
    refine ⟨p, ps.map V.ref, m, .ref q, rfl, hx2, SqL.of nw2.top, atI_ix (by rw [List.length_map, nw.len]; exact hj) (by rw [List.getElem?_map, hqj]; rfl), ?_⟩
    refine r2.eval mb hq fun y w H3 ex3 t3 hy3 _ hq => ?_
    cases y with
    | int m2 =>
      obtain ⟨j2, hj2, hq⟩ := hq
      have r3 := r2.ext ex3 t3
      have nw3 := nw2.move (W' := W) (R' := res H3 (W ++ O)) (H' := H3) rfl nw.mem (fun a ha xs g => ex3 _ _ g (r.ntT a (nw.mem a ha))) (r2.okW.res ex3)
      obtain ⟨xs, hx, hz, hdx⟩ := nw3.row j q ds hqj hds
      refine ⟨q, xs, m2, j2, rfl, hy3, hx, by rw [hdx.length]; exact hj2, ?_⟩
      obtain ⟨r4, f4⟩ := r3.writeN (ds := ds.set j2 d) (xs := xs.set j2 v) he nw3 hqj (by rw [List.length_set]; exact hz) (Dats.set ((hd.le (r1.okW.res ex2)).le (r2.okW.res ex3)) j2 hdx)
      exact hq σ _ _ r4 l ((((Frm.ext ex t).trans (Frm.ext ex2 t2)).trans (Frm.ext ex3 t3)).trans f4)
    | _ => exact hq.elim
  | _ => exact hq.elim
end
@[simp] theorem nset_need {g : Gx} {i : Nat} {a b e : E} (ma : a.monos) (mb : b.monos) (me : e.monos) (na : Need g a) (nb : Need g b) (ne : Need g e) : NeedS g (nset i a b e) := by
  intro X c st hg ok hp hk m
  replace m : lookNset c i a b e st = true := m
  subst hg
  unfold lookNset at m
  split at m
  · rename_i x px a' p1 b' p2 v pos
    simp only [Bool.and_eq_true] at m
    obtain ⟨⟨⟨⟨⟨m1, m2⟩, m3⟩, m4⟩, m5⟩, m6⟩ := m
    have A := (sound a ma).get ok na m4
    have B := (sound b mb).get ok nb m5
    have E := (sound e me).get ok ne m6
    refine PS.imp (ps_asg E.pe (pg_sub (pe_ix ix_list (var_pe ok m1) A.pe (plain_of m2)) B.pe set_list ?_) ?_ ?_ rfl) fun D σ H q => nset_read ma mb me q
    · cases b' <;> first | (intro _; rfl) | cases m3
    · cases v <;> rfl
    · cases v <;> rfl
  · cases m
/-! name[a].append(e), name[a].pop(e) -/
def lookNm (c : Ctx) (i : Nat) (nm : Str) (a e : E) : Stmt → Bool
  | .Expr (.Call (.Attribute (.Subscript (.Name x _) a' _) m ap) [y] [] cp) _ => decide (m = nm) && varB c i x && notSlice a' && notStar y && (ap.endLine == cp.line) && matchE c false a a' && matchE c false e y
  | _ => false
def semNapp (i : Nat) (a e : E) (en : DEnds) (env : DEnv) : Prop := nstL env i fun rows as => semE a env fun x => nrow rows x fun j ds => semE e env fun d => noMut d = true ∧ ds.length < 16777216 ∧ en.nx (env.set i (.nw (rows.set j (ds ++ [d])) as))
def napp (i : Nat) (a e : E) : S := .raw (fun c st => lookNm c i "append" a e st) (fun en env => semNapp i a e en env)
@[simp] theorem napp_mono {i : Nat} {a e : E} (ma : a.monos) (me : e.monos) : (napp i a e).monos := fun p q le env h =>
  nstL_mono h fun r as h => (sem_mono a ma).1 _ _ _ h fun x h => nrow_mono h fun j ds h => (sem_mono e me).1 _ _ _ h fun d h => ⟨h.1, h.2.1, le.1 _ h.2.2⟩
@[simp] theorem semS_napp {i : Nat} {a e : E} {en : DEnds} {env : DEnv} : semS (napp i a e) en env = semNapp i a e en env := rfl
def semNpop (i : Nat) (a e : E) (en : DEnds) (env : DEnv) : Prop := nstL env i fun rows as => semE a env fun x => nrow rows x fun j ds => semE e env fun y => nix ds y fun j2 => en.nx (env.set i (.nw (rows.set j (ds.eraseIdx j2)) as))
def npop (i : Nat) (a e : E) : S := .raw (fun c st => lookNm c i "pop" a e st) (fun en env => semNpop i a e en env)
@[simp] theorem npop_mono {i : Nat} {a e : E} (ma : a.monos) (me : e.monos) : (npop i a e).monos := fun p q le env h =>
  nstL_mono h fun r as h => (sem_mono a ma).1 _ _ _ h fun x h => nrow_mono h fun j ds h => (sem_mono e me).1 _ _ _ h fun d h => nix_mono h fun j2 h => le.1 _ h
@[simp] theorem semS_npop {i : Nat} {a e : E} {en : DEnds} {env : DEnv} : semS (npop i a e) en env = semNpop i a e en env := rfl
section
variable {K : PySem.W.Frag} {T : Tape} {O W : List Addr} {σ : L2.St} {env : DEnv} {H H1 : Hp} {n : Nat} {D : Ends}
theorem napp_read {i : Nat} {a e : E} (ma : a.monos) (me : e.monos) (h : liftS K n (napp i a e) D σ H) : tDrop (tBM K "list" rAppend (tOp (rIxL K) (tVar i) (liftE K a)) (tCons (liftE K e) tNil)) D σ H := by
  obtain ⟨T, O, W, env, r, l, h⟩ := h
  replace h : semNapp i a e _ env := h
  obtain ⟨rows, as, he, h⟩ := nst_get h
  obtain ⟨p, ps, nw⟩ := r.nw i rows as he
  refine ⟨.ref p, nw.val, ?_⟩
  refine r.eval ma h fun x u H2 ex2 t2 hx2 _ hq => ?_
  cases x with
  | int m =>
    obtain ⟨j, ds, hj, hds, hq⟩ := hq
    have r2 := r.ext ex2 t2
    have nw2 := nw.move (W' := W) (R' := res H2 (W ++ O)) (H' := H2) rfl nw.mem (fun a ha xs g => ex2 _ _ g (r.ntT a (nw.mem a ha))) (r.okW.res ex2)
    have hjl := (List.getElem?_eq_some_iff.mp hds).1
    obtain ⟨q, hqj⟩ : ∃ q, ps[j]? = some q := ⟨_, List.getElem?_eq_getElem (by rw [nw.len]; exact hjl)⟩
    obtain ⟨xs2, hx2', _, _⟩ := nw2.row j q ds hqj hds
    refine ⟨p, ps.map V.ref, m, .ref q, rfl, hx2, SqL.of nw2.top, atI_ix (by rw [List.length_map, nw.len]; exact hj) (by rw [List.getElem?_map, hqj]; rfl), .inl ⟨rfl, xs2, SqL.of hx2'⟩, ?_⟩
    refine r2.eval me hq fun d v H3 ex3 t3 hd _ hq => ?_
    obtain ⟨nm, hlt, hq⟩ := hq
    rw [aftW_nm nm] at hd
    have r3 := r2.ext ex3 t3
    have nw3 := nw2.move (W' := W) (R' := res H3 (W ++ O)) (H' := H3) rfl nw.mem (fun a ha xs g => ex3 _ _ g (r.ntT a (nw.mem a ha))) (r2.okW.res ex3)
    obtain ⟨xs, hx, hz, hdx⟩ := nw3.row j q ds hqj hds
    have hl3 := hdx.length
    refine ⟨q, xs, v, rfl, rfl, hx, by rw [sizeLine_eq]; omega, ?_⟩
    obtain ⟨r4, f4⟩ := r3.writeN (ds := ds ++ [d]) (xs := xs ++ [v]) he nw3 hqj (by rw [List.length_append]; show xs.length + 1 ≤ 16777216; omega) (hdx.append (Dats.one hd))
    exact hq σ _ _ r4 l (((Frm.ext ex2 t2).trans (Frm.ext ex3 t3)).trans f4)
  | _ => exact hq.elim
theorem npop_read {i : Nat} {a e : E} (ma : a.monos) (me : e.monos) (h : liftS K n (npop i a e) D σ H) : tDrop (tBM K "list" rPopAt (tOp (rIxL K) (tVar i) (liftE K a)) (tCons (liftE K e) tNil)) D σ H := by
  obtain ⟨T, O, W, env, r, l, h⟩ := h
  replace h : semNpop i a e _ env := h
  obtain ⟨rows, as, he, h⟩ := nst_get h
  obtain ⟨p, ps, nw⟩ := r.nw i rows as he
  refine ⟨.ref p, nw.val, ?_⟩
  refine r.eval ma h fun x u H2 ex2 t2 hx2 _ hq => ?_
  cases x with
  | int m =>
    obtain ⟨j, ds, hj, hds, hq⟩ := hq
    have r2 := r.ext ex2 t2
    have nw2 := nw.move (W' := W) (R' := res H2 (W ++ O)) (H' := H2) rfl nw.mem (fun a ha xs g => ex2 _ _ g (r.ntT a (nw.mem a ha))) (r.okW.res ex2)
    have hjl := (List.getElem?_eq_some_iff.mp hds).1
    obtain ⟨q, hqj⟩ : ∃ q, ps[j]? = some q := ⟨_, List.getElem?_eq_getElem (by rw [nw.len]; exact hjl)⟩
    obtain ⟨xs2, hx2', _, _⟩ := nw2.row j q ds hqj hds
    refine ⟨p, ps.map V.ref, m, .ref q, rfl, hx2, SqL.of nw2.top, atI_ix (by rw [List.length_map, nw.len]; exact hj) (by rw [List.getElem?_map, hqj]; rfl), .inl ⟨rfl, xs2, SqL.of hx2'⟩, ?_⟩
    refine r2.eval me hq fun y v H3 ex3 t3 hd _ hq => ?_
    cases y with
    | int kk =>
      obtain ⟨j2, hj2, hq⟩ := hq
      have r3 := r2.ext ex3 t3
      have nw3 := nw2.move (W' := W) (R' := res H3 (W ++ O)) (H' := H3) rfl nw.mem (fun a ha xs g => ex3 _ _ g (r.ntT a (nw.mem a ha))) (r2.okW.res ex3)
      obtain ⟨xs, hx, hz, hdx⟩ := nw3.row j q ds hqj hds
      have hl3 := hdx.length
      rw [← hl3] at hj2
      obtain ⟨q1, q2, q3, q4⟩ := ixN_seq hj2
      refine ⟨q, xs, kk, j2, xs[j2], rfl, by rw [show v = V.int kk from hd], hx, by omega, by omega, q1, List.getElem?_eq_getElem q2, ?_⟩
      obtain ⟨r4, f4⟩ := r3.writeN (ds := ds.eraseIdx j2) (xs := xs.eraseIdx j2) he nw3 hqj (Nat.le_trans (len_erase _ _) hz) (hdx.erase j2)
      exact hq σ _ _ r4 l (((Frm.ext ex2 t2).trans (Frm.ext ex3 t3)).trans f4)
    | _ => exact hq.elim
  | _ => exact hq.elim
end
@[simp] theorem napp_need {g : Gx} {i : Nat} {a e : E} (ma : a.monos) (me : e.monos) (na : Need g a) (ne : Need g e) : NeedS g (napp i a e) := by
  intro X c st hg ok hp hk m
  replace m : lookNm c i "append" a e st = true := m
  subst hg
  unfold lookNm at m
  split at m
  · simp only [Bool.and_eq_true, decide_eq_true_eq] at m
    obtain ⟨⟨⟨⟨⟨⟨rfl, m1⟩, m2⟩, m3⟩, m4⟩, m5⟩, m6⟩ := m
    have A := (sound a ma).get ok na m5
    have B := (sound e me).get ok ne m6
    exact PS.imp (ps_expr (pe_bm PySem.F.plainAttrs_list PySem.F.slot_list_append PySem.F.type_list_append mt_append (pe_ix ix_list (var_pe ok m1) A.pe (plain_of m2)) (pa_cons B.pe pa_nil (star_of m3)) rfl (few_of m3) m4 (star_of m3) rfl) rfl) fun D σ H q => napp_read ma me q
  · cases m
@[simp] theorem npop_need {g : Gx} {i : Nat} {a e : E} (ma : a.monos) (me : e.monos) (na : Need g a) (ne : Need g e) : NeedS g (npop i a e) := by
  intro X c st hg ok hp hk m
  replace m : lookNm c i "pop" a e st = true := m
  subst hg
  unfold lookNm at m
  split at m
  · simp only [Bool.and_eq_true, decide_eq_true_eq] at m
    obtain ⟨⟨⟨⟨⟨⟨rfl, m1⟩, m2⟩, m3⟩, m4⟩, m5⟩, m6⟩ := m
    have A := (sound a ma).get ok na m5
    have B := (sound e me).get ok ne m6
    exact PS.imp (ps_expr (pe_bm PySem.F.plainAttrs_list PySem.F.slot_list_pop PySem.F.type_list_pop mt_popAt (pe_ix ix_list (var_pe ok m1) A.pe (plain_of m2)) (pa_cons B.pe pa_nil (star_of m3)) rfl (few_of m3) m4 (star_of m3) rfl) rfl) fun D σ H q => npop_read ma me q
  · cases m
end DL

set_option Elab.async false
set_option linter.all false
set_option maxRecDepth 100000
set_option maxHeartbeats 4000000
/-! FM: the small judges that many laws share: whole numbers, words, names, texts. -/
namespace FM
open PySem PySem.Spec PyProof.Rows L2 DL

def g_MOST_LETTERS : D := .int 16
def g_MOST_WORDS : D := .int 300
def g_MOST_NAMES : D := .int 40
def g_MOST_ERRORS : D := .int 60
def g_MOST_NODES : D := .int 120
@[simp] theorem gl_letters : g_MOST_LETTERS = .int 16 := rfl
@[simp] theorem gl_words : g_MOST_WORDS = .int 300 := rfl
@[simp] theorem gl_names : g_MOST_NAMES = .int 40 := rfl
@[simp] theorem gl_errors : g_MOST_ERRORS = .int 60 := rfl
@[simp] theorem gl_nodes : g_MOST_NODES = .int 120 := rfl
def isWhole : D → Int → Int → Bool
  | .int i, lo, hi => decide (lo ≤ i) && decide (i ≤ hi)
  | _, _, _ => false
def low (c : Nat) : Bool := decide (97 ≤ c) && decide (c ≤ 122)
def upp (c : Nat) : Bool := decide (65 ≤ c) && decide (c ≤ 90)
def dig (c : Nat) : Bool := decide (48 ≤ c) && decide (c ≤ 57)
def wordL (l : List Nat) : Bool := decide (1 ≤ l.length) && decide (l.length ≤ 16) && l.all low
def sigL : List Nat → Bool
  | [] => false
  | c :: r => decide (r.length ≤ 3) && upp c && r.all fun c => low c || dig c
def isWord : D → Bool
  | .str s => wordL s.cps.toList
  | _ => false
def isSig : D → Bool
  | .str s => sigL s.cps.toList
  | _ => false
def isText : D → Bool
  | .tup ds => decide (ds.length ≤ 300) && ds.all isWord
  | _ => false
def sp_is_whole : DSpec := fun ds Q => ∃ (d : D) (lo hi : Int), ds = [d, .int lo, .int hi] ∧ notTape d ∧ Q (.bl (isWhole d lo hi))
def sp_is_word : DSpec := fun ds Q => ∃ d : D, ds = [d] ∧ notTape d ∧ Q (.bl (isWord d))
def sp_is_siglum : DSpec := fun ds Q => ∃ d : D, ds = [d] ∧ notTape d ∧ Q (.bl (isSig d))
def sp_is_text : DSpec := fun ds Q => ∃ d : D, ds = [d] ∧ notTape d ∧ (∀ es, d = .tup es → ∀ e ∈ es, notTape e) ∧ Q (.bl (isText d))
theorem spm_is_whole : SpMono sp_is_whole := fun ds Q Q' ⟨d, lo, hi, e, h1, h⟩ m => ⟨d, lo, hi, e, h1, m _ h⟩
theorem spm_is_word : SpMono sp_is_word := fun ds Q Q' ⟨d, e, h1, h⟩ m => ⟨d, e, h1, m _ h⟩
theorem spm_is_siglum : SpMono sp_is_siglum := fun ds Q Q' ⟨d, e, h1, h⟩ m => ⟨d, e, h1, m _ h⟩
theorem spm_is_text : SpMono sp_is_text := fun ds Q Q' ⟨d, e, h1, h2, h⟩ m => ⟨d, e, h1, h2, m _ h⟩
def b_is_whole : S :=
(.cons (.ret (.andd (.isin (.var 0) [.int]) (.andd (.nott (.isin (.var 0) [.bool])) (.chain .LtE .LtE (.var 1) (.var 0) (.var 2)))))
.nil)
theorem mb_is_whole : b_is_whole.monos := by simp [b_is_whole, S.monos, E.monos]
def c_is_siglum_1 : E :=
(.lc [("sign", 1)] (.orr (.chain .LtE .LtE (.str "a") (.var 1) (.str "z")) (.chain .LtE .LtE (.str "0") (.var 1) (.str "9"))) (.var 1) (.sl (.var 0) (.int 1) .nil) .nil)
def b_is_siglum : S :=
(.cons (.iff (.orr (.nott (.isin (.var 0) [.str])) (.orr (.nott (.chain .LtE .LtE (.int 1) (.bf .len (.cons (.var 0) .nil)) (.int 4))) (.nott (.chain .LtE .LtE (.str "A") (.ix (.var 0) (.int 0)) (.str "Z")))))
(.cons (.ret (.bl false))
.nil)
.nil)
(.cons (.ret (.bf .all (.cons c_is_siglum_1 .nil)))
.nil))
theorem mb_is_siglum : b_is_siglum.monos := by simp [b_is_siglum, S.monos, E.monos, c_is_siglum_1]
def c_is_word_1 : E :=
(.lc [("sign", 1)] (.chain .LtE .LtE (.str "a") (.var 1) (.str "z")) (.var 1) (.var 0) .nil)
def b_is_word : S :=
(.cons (.iff (.orr (.nott (.isin (.var 0) [.str])) (.nott (.chain .LtE .LtE (.int 1) (.bf .len (.cons (.var 0) .nil)) (.glob "MOST_LETTERS" g_MOST_LETTERS))))
(.cons (.ret (.bl false))
.nil)
.nil)
(.cons (.ret (.bf .all (.cons c_is_word_1 .nil)))
.nil))
theorem mb_is_word : b_is_word.monos := by simp [b_is_word, S.monos, E.monos, c_is_word_1]
def c_is_text_1 : E :=
(.lc [("word", 1)] (.call "is_word" sp_is_word (.cons (.var 1) .nil)) (.var 1) (.var 0) .nil)
def b_is_text : S :=
(.cons (.ret (.andd (.isin (.var 0) [.tuple]) (.andd (.cmp .LtE (.bf .len (.cons (.var 0) .nil)) (.glob "MOST_WORDS" g_MOST_WORDS)) (.bf .all (.cons c_is_text_1 .nil)))))
.nil)
theorem mb_is_text : b_is_text.monos := by simp [b_is_text, S.monos, E.monos, c_is_text_1, spm_is_word]
theorem isTy_int (d : D) : isTy d .int = true ↔ (∃ i, d = .int i) ∨ ∃ b, d = .bl b := by cases d <;> simp [isTy]
theorem isTy_bool (d : D) : isTy d .bool = true ↔ ∃ b, d = .bl b := by cases d <;> simp [isTy]
theorem isTy_str (d : D) : isTy d .str = true ↔ ∃ s, d = .str s := by cases d <;> simp [isTy]
theorem isTy_tup (d : D) : isTy d .tuple = true ↔ ∃ s, d = .tup s := by cases d <;> simp [isTy]
theorem isTy_lst (d : D) : isTy d .list = true ↔ ∃ s, d = .lst s := by cases d <;> simp [isTy]
theorem is_whole_ok : ∀ ds Q, sp_is_whole ds Q → bodySpec 3 b_is_whole ds Q := by
  rintro ds Q ⟨d, lo, hi, rfl, nt, h⟩
  simp [bodySpec, b_is_whole, startD]
  refine ⟨nt, ?_⟩
  cases d <;> simp_all [isTy, isWhole]
  split <;> simp_all
theorem lit_a : (Str.ofString "a") = sgn 97 := by decide +kernel
theorem lit_z : (Str.ofString "z") = sgn 122 := by decide +kernel
theorem lit_A : (Str.ofString "A") = sgn 65 := by decide +kernel
theorem lit_Z : (Str.ofString "Z") = sgn 90 := by decide +kernel
theorem lit_0 : (Str.ofString "0") = sgn 48 := by decide +kernel
theorem lit_9 : (Str.ofString "9") = sgn 57 := by decide +kernel
theorem is_word_ok : ∀ ds Q, sp_is_word ds Q → bodySpec 2 b_is_word ds Q := by
  rintro ds Q ⟨d, rfl, nt, h⟩
  simp [bodySpec, b_is_word, startD, c_is_word_1, lit_a, lit_z]
  refine ⟨nt, ?_⟩
  cases d <;> simp_all [isTy, isWord]
  rename_i s
  rw [size_list]
  revert h
  generalize s.cps.toList = l
  intro h
  split
  · rename_i h1
    split
    · rename_i h2
      rw [show wordL l = l.all low by
        show (decide (1 ≤ l.length) && decide (l.length ≤ 16) && l.all low) = _
        rw [decide_eq_true (show 1 ≤ l.length by omega), decide_eq_true (show l.length ≤ 16 by omega)]
        rfl] at h
      refine lcD_map (f := fun c => .bl (low c)) (fun c _ Qt Qf h => ?_) (all_bls low l h)
      simp [wipeD]
      split <;> simp_all [low]
    · rename_i h2
      rw [show wordL l = false by
        show (decide (1 ≤ l.length) && decide (l.length ≤ 16) && l.all low) = _
        rw [decide_eq_false (show ¬ l.length ≤ 16 by omega), Bool.and_false]
        rfl] at h
      exact h
  · rw [show wordL l = false by
        show (decide (1 ≤ l.length) && decide (l.length ≤ 16) && l.all low) = _
        rw [decide_eq_false (show ¬ 1 ≤ l.length by omega)]
        rfl] at h
    exact h
theorem is_siglum_ok : ∀ ds Q, sp_is_siglum ds Q → bodySpec 2 b_is_siglum ds Q := by
  rintro ds Q ⟨d, rfl, nt, h⟩
  simp [bodySpec, b_is_siglum, startD, lit_A, lit_Z, c_is_siglum_1, lit_a, lit_z, lit_0, lit_9]
  refine ⟨nt, ?_⟩
  cases d <;> simp_all [isTy, isSig]
  rename_i s
  rw [size_list, strS_list]
  revert h
  generalize s.cps.toList = l
  intro h
  cases l with
  | nil => simpa [sigL] using h
  | cons c r =>
    rw [cut_drop _ _ (by decide)]
    simp
    split
    · rename_i h1
      split
      · rename_i h2
        have e0 : sigL (c :: r) = (decide (r.length ≤ 3) && upp c && r.all fun c => low c || dig c) := rfl
        rw [e0, decide_eq_true (show r.length ≤ 3 by omega), Bool.true_and] at h
        split
        · rename_i h3
          split
          · rename_i h4
            rw [show upp c = true by simp [upp]; omega, Bool.true_and] at h
            refine lcD_map (f := fun c => .bl (low c || dig c)) (fun c _ Qt Qf h => ?_) (all_bls (fun c => low c || dig c) r h)
            simp [wipeD]
            simp only [low, dig] at h
            repeat' split
            all_goals simp_all
          · rename_i h4
            rw [show upp c = false by simp [upp]; omega, Bool.false_and] at h
            exact h
        · rename_i h3
          rw [show upp c = false by simp [upp]; omega, Bool.false_and] at h
          exact h
      · rename_i h2
        have e0 : sigL (c :: r) = (decide (r.length ≤ 3) && upp c && r.all fun c => low c || dig c) := rfl
        rw [e0, decide_eq_false (show ¬ r.length ≤ 3 by omega), Bool.false_and, Bool.false_and] at h
        exact h
    · omega
theorem is_text_ok : ∀ ds Q, sp_is_text ds Q → bodySpec 2 b_is_text ds Q := by
  rintro ds Q ⟨d, rfl, nt, h2, h⟩
  simp [bodySpec, b_is_text, startD, c_is_text_1]
  refine ⟨nt, ?_⟩
  cases d <;> simp_all [isTy, isText]
  rename_i s
  split
  · rename_i h1
    rw [show decide (s.length ≤ 300) = true from decide_eq_true (by omega), Bool.true_and] at h
    rw [show s = s.map id by simp]
    refine lcD_map (f := fun c => .bl (isWord c)) (fun c hc Qt Qf h => ?_) (all_bls isWord s h)
    simp [wipeD]
    exact ⟨c, rfl, h2 c hc, h⟩
  · rename_i h1
    rw [show decide (s.length ≤ 300) = false from decide_eq_false (by omega), Bool.false_and] at h
    exact h
@[simp] theorem whole_iff {d : D} {lo hi : Int} {Q : D → Prop} : sp_is_whole [d, .int lo, .int hi] Q ↔ notTape d ∧ Q (.bl (isWhole d lo hi)) := ⟨fun ⟨_, _, _, e, h1, h⟩ => by cases e; exact ⟨h1, h⟩, fun ⟨h1, h⟩ => ⟨_, _, _, rfl, h1, h⟩⟩
@[simp] theorem word_iff {d : D} {Q : D → Prop} : sp_is_word [d] Q ↔ notTape d ∧ Q (.bl (isWord d)) := ⟨fun ⟨_, e, h1, h⟩ => by cases e; exact ⟨h1, h⟩, fun ⟨h1, h⟩ => ⟨_, rfl, h1, h⟩⟩
@[simp] theorem sig_iff {d : D} {Q : D → Prop} : sp_is_siglum [d] Q ↔ notTape d ∧ Q (.bl (isSig d)) := ⟨fun ⟨_, e, h1, h⟩ => by cases e; exact ⟨h1, h⟩, fun ⟨h1, h⟩ => ⟨_, rfl, h1, h⟩⟩
theorem shal_up : ∀ (n : Nat) {d : D}, shal n d = true → shal (n + 1) d = true
  | 0, d, h => by cases d <;> first | (simp; done) | cases h
  | n + 1, d, h => by
    cases d with
    | tup ds =>
      rw [shal_tup, List.all_eq_true] at h ⊢
      exact fun x hx => shal_up n (h x hx)
    | lst ds =>
      rw [shal_lst, List.all_eq_true] at h ⊢
      exact fun x hx => shal_up n (h x hx)
    | _ => first | (simp; done) | cases h
theorem shal_nt {n : Nat} {d : D} (h : shal n d = true) : notTape d := by
  cases d with
  | tape k => cases n <;> cases h
  | _ => trivial
/-- {} or without dicts, not deep -/
def good (d : D) : Prop := d = .dic [] [] ∨ shal 7 d = true
theorem good.nt {d : D} (h : good d) : notTape d := by
  rcases h with rfl | h
  · trivial
  · exact shal_nt h
theorem good.it {ds : List D} (h : good (.tup ds)) : ∀ d ∈ ds, shal 7 d = true := by
  rcases h with h | h
  · cases h
  · rw [shal_tup, List.all_eq_true] at h
    exact fun d hd => shal_up 6 (h d hd)
theorem good.s8 {ds : List D} (h : good (.tup ds)) : shal 8 (.tup ds) = true := by
  rcases h with h | h
  · cases h
  · exact shal_up 7 h
end FM

set_option Elab.async false
set_option linter.all false
set_option maxRecDepth 100000
set_option maxHeartbeats 4000000
/-! K41p: alignments and their costs. -/
namespace K41
open PySem PySem.Spec PyProof.Rows L2 DL FM

def gW (ws : List Str) (k : Nat) : Str := match ws[k]? with
  | some s => s
  | none => ""
theorem gW_at {ws : List Str} {k : Nat} (h : k < ws.length) : ws[k]? = some (gW ws k) := by
  unfold gW
  rw [List.getElem?_eq_getElem h]
theorem gW_get {ws : List Str} {k : Nat} (h : k < ws.length) : gW ws k = ws[k] := by
  unfold gW
  rw [List.getElem?_eq_getElem h]
theorem gW_rev {ws : List Str} {k : Nat} (h : k < ws.length) : gW ws.reverse (ws.length - 1 - k) = gW ws k := by
  rw [gW_get h, gW_get (by rw [List.length_reverse]; omega), List.getElem_reverse]
  congr 1
  omega
section
variable (bs ts : List Str)
def sc (i j : Nat) : Nat := if gW bs i = gW ts j then 0 else 3
def L : Nat → Nat → Nat
  | 0, j => 2 * j
  | i + 1, 0 => 2 * (i + 1)
  | i + 1, j + 1 => min (L i j + sc bs ts i j) (min (L i (j + 1) + 2) (L (i + 1) j + 2))
termination_by i j => (i, j)
def cst (s : Str) : Nat := if s = ("keep" : Str) then 0 else if s = ("change" : Str) then 3 else 2
def cost (ss : List Str) : Nat := (ss.map cst).sum
def stp (i j : Nat) (s : Str) : Option (Nat × Nat) :=
  if s = ("keep" : Str) then (if i < bs.length ∧ j < ts.length ∧ gW bs i = gW ts j then some (i + 1, j + 1) else none)
  else if s = ("change" : Str) then (if i < bs.length ∧ j < ts.length ∧ gW bs i ≠ gW ts j then some (i + 1, j + 1) else none)
  else if s = ("drop" : Str) then (if i < bs.length then some (i + 1, j) else none)
  else if s = ("add" : Str) then (if j < ts.length then some (i, j + 1) else none)
  else none
def go : List Str → Nat → Nat → Option (Nat × Nat)
  | [], i, j => some (i, j)
  | s :: ss, i, j => match stp bs ts i j s with
    | some p => go ss p.1 p.2
    | none => none
/-- no step climbs more than it costs -/
structure Stp (f : Nat → Nat → Int) : Prop where
  dn : ∀ i j, i < bs.length → j ≤ ts.length → f (i + 1) j ≤ f i j + 2
  rt : ∀ i j, i ≤ bs.length → j < ts.length → f i (j + 1) ≤ f i j + 2
  dg : ∀ i j, i < bs.length → j < ts.length → f (i + 1) (j + 1) ≤ f i j + (sc bs ts i j : Nat)
end
section
variable {bs ts : List Str}
theorem L0 (j : Nat) : L bs ts 0 j = 2 * j := by rw [L]
theorem Lz (i : Nat) : L bs ts i 0 = 2 * i := by
  cases i with
  | zero => rw [L]
  | succ i => rw [L]
theorem Ls (i j : Nat) : L bs ts (i + 1) (j + 1) = min (L bs ts i j + sc bs ts i j) (min (L bs ts i (j + 1) + 2) (L bs ts (i + 1) j + 2)) := by rw [L]
theorem L_stp : Stp bs ts (fun i j => (L bs ts i j : Nat)) := by
  refine ⟨fun i j hi hj => ?_, fun i j hi hj => ?_, fun i j hi hj => ?_⟩
  · cases j with
    | zero => simp only [Lz]; omega
    | succ j => simp only [Ls]; omega
  · cases i with
    | zero => simp only [L0]; omega
    | succ i => simp only [Ls]; omega
  · simp only [Ls]; omega
theorem L_le : ∀ i j, L bs ts i j ≤ 2 * (i + j) := by
  intro i
  induction i with
  | zero => intro j; rw [L0]; omega
  | succ i ih =>
    intro j
    cases j with
    | zero => rw [Lz]; omega
    | succ j =>
      have := ih (j + 1)
      rw [Ls]
      omega
theorem stp_some {i j : Nat} {s : Str} {p : Nat × Nat} (h : stp bs ts i j s = some p) :
    (s = "keep" ∧ i < bs.length ∧ j < ts.length ∧ gW bs i = gW ts j ∧ p = (i + 1, j + 1)) ∨ (s = "change" ∧ i < bs.length ∧ j < ts.length ∧ gW bs i ≠ gW ts j ∧ p = (i + 1, j + 1)) ∨
    (s = "drop" ∧ i < bs.length ∧ p = (i + 1, j)) ∨ (s = "add" ∧ j < ts.length ∧ p = (i, j + 1)) := by
  unfold stp at h
  split at h
  · split at h
    · rename_i h1 h2
      exact .inl ⟨h1, h2.1, h2.2.1, h2.2.2, (Option.some.inj h).symm⟩
    · cases h
  · split at h
    · split at h
      · rename_i h1 h2
        exact .inr (.inl ⟨h1, h2.1, h2.2.1, h2.2.2, (Option.some.inj h).symm⟩)
      · cases h
    · split at h
      · split at h
        · rename_i h1 h2
          exact .inr (.inr (.inl ⟨h1, h2, (Option.some.inj h).symm⟩))
        · cases h
      · split at h
        · split at h
          · rename_i h1 h2
            exact .inr (.inr (.inr ⟨h1, h2, (Option.some.inj h).symm⟩))
          · cases h
        · cases h
theorem cst_keep : cst "keep" = 0 := by decide
theorem cst_change : cst "change" = 3 := by decide
theorem cst_drop : cst "drop" = 2 := by decide
theorem cst_add : cst "add" = 2 := by decide
theorem stp_keep {i j : Nat} (hi : i < bs.length) (hj : j < ts.length) (h : gW bs i = gW ts j) : stp bs ts i j "keep" = some (i + 1, j + 1) := by
  unfold stp
  rw [if_pos rfl, if_pos ⟨hi, hj, h⟩]
theorem stp_change {i j : Nat} (hi : i < bs.length) (hj : j < ts.length) (h : gW bs i ≠ gW ts j) : stp bs ts i j "change" = some (i + 1, j + 1) := by
  unfold stp
  rw [if_neg (by decide), if_pos rfl, if_pos ⟨hi, hj, h⟩]
theorem stp_drop {i j : Nat} (hi : i < bs.length) : stp bs ts i j "drop" = some (i + 1, j) := by
  unfold stp
  rw [if_neg (by decide), if_neg (by decide), if_pos rfl, if_pos hi]
theorem stp_add {i j : Nat} (hj : j < ts.length) : stp bs ts i j "add" = some (i, j + 1) := by
  unfold stp
  rw [if_neg (by decide), if_neg (by decide), if_neg (by decide), if_pos rfl, if_pos hj]
theorem go_cons {s : Str} {ss : List Str} {i j : Nat} {p : Nat × Nat} (h : stp bs ts i j s = some p) : go bs ts (s :: ss) i j = go bs ts ss p.1 p.2 := by
  show (match stp bs ts i j s with
    | some p => go bs ts ss p.1 p.2
    | none => none) = _
  rw [h]
theorem go_none {s : Str} {ss : List Str} {i j : Nat} (h : stp bs ts i j s = none) : go bs ts (s :: ss) i j = none := by
  show (match stp bs ts i j s with
    | some p => go bs ts ss p.1 p.2
    | none => none) = _
  rw [h]
theorem go_app : ∀ {ss tt : List Str} {i j : Nat} {p : Nat × Nat}, go bs ts ss i j = some p → go bs ts (ss ++ tt) i j = go bs ts tt p.1 p.2
  | [], tt, i, j, p, h => by
    cases h
    rfl
  | s :: ss, tt, i, j, p, h => by
    cases q : stp bs ts i j s with
    | none =>
      rw [go_none q] at h
      cases h
    | some r =>
      rw [go_cons q] at h
      rw [List.cons_append, go_cons q]
      exact go_app h
/-- the costs are not below a floor's climb -/
theorem weak {f : Nat → Nat → Int} (hf : Stp bs ts f) : ∀ {ss : List Str} {i j : Nat} {p : Nat × Nat}, i ≤ bs.length → j ≤ ts.length → go bs ts ss i j = some p → f p.1 p.2 ≤ f i j + (cost ss : Nat)
  | [], i, j, p, _, _, h => by
    cases h
    simp [cost]
  | s :: ss, i, j, p, hi, hj, h => by
    have ec : cost (s :: ss) = cst s + cost ss := by unfold cost; rw [List.map_cons, List.sum_cons]
    cases q : stp bs ts i j s with
    | none =>
      rw [go_none q] at h
      cases h
    | some r =>
      rw [go_cons q] at h
      rw [ec]
      rcases stp_some q with ⟨rfl, h1, h2, h3, rfl⟩ | ⟨rfl, h1, h2, h3, rfl⟩ | ⟨rfl, h1, rfl⟩ | ⟨rfl, h1, rfl⟩
      · have := weak hf (i := i + 1) (j := j + 1) (by omega) (by omega) h
        have := hf.dg i j h1 h2
        unfold sc at this
        rw [if_pos h3] at this
        rw [cst_keep]
        omega
      · have := weak hf (i := i + 1) (j := j + 1) (by omega) (by omega) h
        have := hf.dg i j h1 h2
        unfold sc at this
        rw [if_neg h3] at this
        rw [cst_change]
        omega
      · have := weak hf (i := i + 1) (j := j) (by omega) (by omega) h
        have := hf.dn i j h1 hj
        rw [cst_drop]
        omega
      · have := weak hf (i := i) (j := j + 1) (by omega) (by omega) h
        have := hf.rt i j hi h1
        rw [cst_add]
        omega
theorem cost_snoc (ss : List Str) (s : Str) : cost (ss ++ [s]) = cost ss + cst s := by
  unfold cost
  rw [List.map_append, List.sum_append]
  simp
/-- a way of the least costs -/
theorem pathL : ∀ i j, i ≤ bs.length → j ≤ ts.length → ∃ ss, go bs ts ss 0 0 = some (i, j) ∧ cost ss = L bs ts i j := by
  intro i
  induction i with
  | zero =>
    intro j
    induction j with
    | zero => exact fun _ _ => ⟨[], rfl, by rw [L0]; rfl⟩
    | succ j ih =>
      intro h1 h2
      obtain ⟨ss, g, c⟩ := ih h1 (by omega)
      refine ⟨ss ++ [("add" : Str)], by rw [go_app g, go_cons (stp_add (show j < ts.length by omega))]; rfl, ?_⟩
      rw [cost_snoc, c, cst_add, L0, L0]
      omega
  | succ i ih =>
    intro j
    induction j with
    | zero =>
      intro h1 h2
      obtain ⟨ss, g, c⟩ := ih 0 (by omega) h2
      refine ⟨ss ++ [("drop" : Str)], by rw [go_app g, go_cons (stp_drop (show i < bs.length by omega))]; rfl, ?_⟩
      rw [cost_snoc, c, cst_drop, Lz, Lz]
      omega
    | succ j ih2 =>
      intro h1 h2
      have e := Ls (bs := bs) (ts := ts) i j
      by_cases c1 : L bs ts (i + 1) (j + 1) = L bs ts i j + sc bs ts i j
      · obtain ⟨ss, g, c⟩ := ih j (by omega) (by omega)
        by_cases w : gW bs i = gW ts j
        · refine ⟨ss ++ [("keep" : Str)], by rw [go_app g, go_cons (stp_keep (show i < bs.length by omega) (show j < ts.length by omega) w)]; rfl, ?_⟩
          rw [cost_snoc, c, cst_keep, c1]
          unfold sc
          rw [if_pos w]
        · refine ⟨ss ++ [("change" : Str)], by rw [go_app g, go_cons (stp_change (show i < bs.length by omega) (show j < ts.length by omega) w)]; rfl, ?_⟩
          rw [cost_snoc, c, cst_change, c1]
          unfold sc
          rw [if_neg w]
      · by_cases c2 : L bs ts (i + 1) (j + 1) = L bs ts i (j + 1) + 2
        · obtain ⟨ss, g, c⟩ := ih (j + 1) (by omega) h2
          refine ⟨ss ++ [("drop" : Str)], by rw [go_app g, go_cons (stp_drop (show i < bs.length by omega))]; rfl, ?_⟩
          rw [cost_snoc, c, cst_drop, c2]
        · obtain ⟨ss, g, c⟩ := ih2 h1 (by omega)
          refine ⟨ss ++ [("add" : Str)], by rw [go_app g, go_cons (stp_add (show j < ts.length by omega))]; rfl, ?_⟩
          rw [cost_snoc, c, cst_add]
          omega
end
section
variable (bs ts : List Str)
/-- the least costs to the ends -/
def R (i j : Nat) : Nat := L bs.reverse ts.reverse (bs.length - i) (ts.length - j)
def nxt (i j : Nat) : Str :=
  if i < bs.length ∧ j < ts.length ∧ R bs ts i j = R bs ts (i + 1) (j + 1) + sc bs ts i j then (if gW bs i = gW ts j then "keep" else "change")
  else if i < bs.length ∧ R bs ts i j = R bs ts (i + 1) j + 2 then "drop" else "add"
end
section
variable {bs ts : List Str}
theorem R_s {i j : Nat} (hi : i < bs.length) (hj : j < ts.length) : R bs ts i j = min (R bs ts (i + 1) (j + 1) + sc bs ts i j) (min (R bs ts (i + 1) j + 2) (R bs ts i (j + 1) + 2)) := by
  have e1 : bs.length - i = (bs.length - 1 - i) + 1 := by omega
  have e2 : ts.length - j = (ts.length - 1 - j) + 1 := by omega
  have e3 : bs.length - (i + 1) = bs.length - 1 - i := by omega
  have e4 : ts.length - (j + 1) = ts.length - 1 - j := by omega
  have es : sc bs.reverse ts.reverse (bs.length - 1 - i) (ts.length - 1 - j) = sc bs ts i j := by
    unfold sc
    rw [gW_rev hi, gW_rev hj]
  unfold R
  rw [e3, e4, e1, e2, Ls, es]
theorem R_e {i : Nat} (hi : i < bs.length) : R bs ts i ts.length = R bs ts (i + 1) ts.length + 2 := by
  unfold R
  rw [Nat.sub_self, Lz, Lz]
  omega
theorem R_f {j : Nat} (hj : j < ts.length) : R bs ts bs.length j = R bs ts bs.length (j + 1) + 2 := by
  unfold R
  rw [Nat.sub_self, L0, L0]
  omega
theorem R_end : R bs ts bs.length ts.length = 0 := by
  unfold R
  rw [Nat.sub_self, Nat.sub_self, L0]
theorem nxt_ok {i j : Nat} (hi : i ≤ bs.length) (hj : j ≤ ts.length) (h : i < bs.length ∨ j < ts.length) : ∃ p : Nat × Nat, stp bs ts i j (nxt bs ts i j) = some p ∧ R bs ts i j = R bs ts p.1 p.2 + cst (nxt bs ts i j) := by
  unfold nxt
  by_cases c1 : i < bs.length ∧ j < ts.length ∧ R bs ts i j = R bs ts (i + 1) (j + 1) + sc bs ts i j
  · rw [if_pos c1]
    obtain ⟨a, b, c⟩ := c1
    by_cases w : gW bs i = gW ts j
    · rw [if_pos w]
      refine ⟨_, stp_keep a b w, ?_⟩
      rw [c, cst_keep]
      unfold sc
      rw [if_pos w]
    · rw [if_neg w]
      refine ⟨_, stp_change a b w, ?_⟩
      rw [c, cst_change]
      unfold sc
      rw [if_neg w]
  · rw [if_neg c1]
    by_cases c2 : i < bs.length ∧ R bs ts i j = R bs ts (i + 1) j + 2
    · rw [if_pos c2]
      exact ⟨_, stp_drop c2.1, by rw [c2.2, cst_drop]⟩
    · rw [if_neg c2]
      have hj' : j < ts.length := by
        rcases Nat.lt_or_ge j ts.length with q | q
        · exact q
        · exfalso
          have e : j = ts.length := by omega
          subst e
          have hi' : i < bs.length := by omega
          exact c2 ⟨hi', R_e hi'⟩
      refine ⟨_, stp_add hj', ?_⟩
      rw [cst_add]
      by_cases q : i < bs.length
      · have e := R_s q hj'
        have n1 : ¬ R bs ts i j = R bs ts (i + 1) (j + 1) + sc bs ts i j := fun z => c1 ⟨q, hj', z⟩
        have n2 : ¬ R bs ts i j = R bs ts (i + 1) j + 2 := fun z => c2 ⟨q, z⟩
        show R bs ts i j = R bs ts i (j + 1) + 2
        omega
      · have e : i = bs.length := by omega
        subst e
        exact R_f hj'
theorem nxt_cases (bs ts : List Str) (i j : Nat) : nxt bs ts i j = "keep" ∨ nxt bs ts i j = "change" ∨ nxt bs ts i j = "drop" ∨ nxt bs ts i j = "add" := by
  unfold nxt
  split
  · split
    · exact .inl rfl
    · exact .inr (.inl rfl)
  · split
    · exact .inr (.inr (.inl rfl))
    · exact .inr (.inr (.inr rfl))
/-- a least alignment -/
structure Opt (bs ts : List Str) (ss : List Str) : Prop where
  al : go bs ts ss 0 0 = some (bs.length, ts.length)
  co : cost ss = L bs ts bs.length ts.length
theorem R_stp : Stp bs ts (fun i j => (R bs ts 0 0 : Nat) - (R bs ts i j : Nat)) := by
  refine ⟨fun i j hi hj => ?_, fun i j hi hj => ?_, fun i j hi hj => ?_⟩
  · show ((R bs ts 0 0 : Nat) : Int) - (R bs ts (i + 1) j : Nat) ≤ (R bs ts 0 0 : Nat) - (R bs ts i j : Nat) + 2
    by_cases q : j < ts.length
    · have := R_s hi q
      omega
    · have e : j = ts.length := by omega
      subst e
      have := R_e (bs := bs) (ts := ts) hi
      omega
  · show ((R bs ts 0 0 : Nat) : Int) - (R bs ts i (j + 1) : Nat) ≤ (R bs ts 0 0 : Nat) - (R bs ts i j : Nat) + 2
    by_cases q : i < bs.length
    · have := R_s q hj
      omega
    · have e : i = bs.length := by omega
      subst e
      have := R_f (bs := bs) (ts := ts) hj
      omega
  · show ((R bs ts 0 0 : Nat) : Int) - (R bs ts (i + 1) (j + 1) : Nat) ≤ (R bs ts 0 0 : Nat) - (R bs ts i j : Nat) + (sc bs ts i j : Nat)
    have := R_s hi hj
    omega
/-- both ways the same -/
theorem opt_of {ss : List Str} (h1 : go bs ts ss 0 0 = some (bs.length, ts.length)) (h2 : cost ss = R bs ts 0 0) : Opt bs ts ss := by
  refine ⟨h1, ?_⟩
  have a := weak L_stp (Nat.zero_le _) (Nat.zero_le _) h1
  obtain ⟨tt, g, c⟩ := pathL (bs := bs) (ts := ts) bs.length ts.length (Nat.le_refl _) (Nat.le_refl _)
  have b := weak R_stp (Nat.zero_le _) (Nat.zero_le _) g
  have b' : ((R bs ts 0 0 : Nat) : Int) - (R bs ts bs.length ts.length : Nat) ≤ (R bs ts 0 0 : Nat) - (R bs ts 0 0 : Nat) + (cost tt : Nat) := b
  have a' : ((L bs ts bs.length ts.length : Nat) : Int) ≤ (L bs ts 0 0 : Nat) + (cost ss : Nat) := a
  rw [R_end] at b'
  rw [L0] at a'
  omega
theorem least_cost {ss best : List Str} {f : Nat → Nat → Int} (hb : Opt bs ts best) (hs : go bs ts ss 0 0 = some (bs.length, ts.length)) (hf : Stp bs ts f) (e : f bs.length ts.length - f 0 0 = (cost ss : Nat)) : cost ss = cost best := by
  have a := weak hf (Nat.zero_le _) (Nat.zero_le _) hb.al
  have b := weak L_stp (Nat.zero_le _) (Nat.zero_le _) hs
  have a' : f bs.length ts.length ≤ f 0 0 + (cost best : Nat) := a
  have b' : ((L bs ts bs.length ts.length : Nat) : Int) ≤ (L bs ts 0 0 : Nat) + (cost ss : Nat) := b
  have c := hb.co
  rw [L0] at b'
  omega
end
end K41

set_option Elab.async false
set_option linter.all false
set_option maxRecDepth 100000
set_option maxHeartbeats 4000000
/-! K41m: the defs of k41 by data. -/
namespace K41
open PySem PySem.Spec PyProof.Rows L2 DL FM
open Classical

def g_COSTS : List (Str × Int) := [("keep", 0), ("change", 3), ("drop", 2), ("add", 2)]
def g_STEPS : D := .tup [.str "keep", .str "change", .str "drop", .str "add"]
@[simp] theorem gl_steps : g_STEPS = .tup [.str "keep", .str "change", .str "drop", .str "add"] := rfl
def isStep (s : Str) : Prop := s = "keep" ∨ s = "change" ∨ s = "drop" ∨ s = "add"
def tS (ws : List Str) : D := .tup (ws.map D.str)
def rowI (f : Nat → Nat → Int) (m i : Nat) : List D := (List.range (m + 1)).map fun j => D.int (f i j)
def tab (f : Nat → Nat → Int) (n m : Nat) : D := .tup ((List.range (n + 1)).map fun i => .tup (rowI f m i))
def tabL (f : Nat → Nat → Int) (n m : Nat) : D := .lst ((List.range (n + 1)).map fun i => .lst (rowI f m i))
def Li (bs ts : List Str) (i j : Nat) : Int := (L bs ts i j : Nat)
def Ri (bs ts : List Str) (i j : Nat) : Int := (R bs ts i j : Nat)
/-- an alignment, of a value of any kind -/
def alD (bs ts : List Str) : List D → Nat → Nat → Bool
  | [], i, j => decide (i = bs.length) && decide (j = ts.length)
  | .str s :: es, i, j => match stp bs ts i j s with
    | some p => alD bs ts es p.1 p.2
    | none => false
  | _ :: _, _, _ => false
def isAl (bs ts : List Str) : D → Bool
  | .tup es => alD bs ts es 0 0
  | _ => false
def rowB (m : Nat) (N : Int) : D → Bool
  | .tup es => decide (es.length = m + 1) && es.all fun x => isWhole x 0 N
  | _ => false
def num (d : D) (i j : Nat) : Int := match d with
  | .tup rows => (match rows[i]? with
    | some (.tup es) => (match es[j]? with
      | some (.int k) => k
      | _ => 0)
    | _ => 0)
  | _ => 0
def rowsB (bs ts : List Str) : D → Bool
  | .tup rows => decide (rows.length = bs.length + 1) && rows.all (rowB ts.length (2 * (bs.length + ts.length)))
  | _ => false
noncomputable def isFl (bs ts : List Str) (d : D) : Bool := rowsB bs ts d && decide (Stp bs ts (num d))
def toS : D → Option Str
  | .str s => some s
  | _ => none
def wrds : D → List Str
  | .tup es => es.filterMap toS
  | _ => []
noncomputable def accB (bs ts : List Str) (d f : D) : Bool := isAl bs ts d && (isFl bs ts f && decide (num f bs.length ts.length - num f 0 0 = (cost (wrds d) : Nat)))
def okA (d : D) : Prop := notTape d ∧ ∀ es, d = .tup es → es.length ≤ 100 ∧ ∀ e ∈ es, notTape e
def okF (d : D) : Prop := notTape d ∧ ∀ rows, d = .tup rows → rows.length ≤ 100 ∧ ∀ r ∈ rows, notTape r ∧ ∀ es, r = .tup es → es.length ≤ 100 ∧ ∀ e ∈ es, notTape e
def ok2 (bs ts : List Str) : Prop := bs.length ≤ 40 ∧ ts.length ≤ 40
def lowP (bs ts : List Str) (f : Nat → Nat → Int) : Prop := (∀ i j, i ≤ bs.length → j ≤ ts.length → 0 ≤ f i j ∧ f i j ≤ 2 * (bs.length + ts.length)) ∧ Stp bs ts f
def sp_levels : DSpec := fun ds Q => ∃ bs ts : List Str, ds = [tS bs, tS ts] ∧ ok2 bs ts ∧ Q (tab (Li bs ts) bs.length ts.length)
def sp_rest : DSpec := fun ds Q => ∃ bs ts : List Str, ds = [tS bs, tS ts] ∧ ok2 bs ts ∧ Q (tabL (Ri bs ts) bs.length ts.length)
def sp_next_step : DSpec := fun ds Q => ∃ (bs ts : List Str) (i j : Nat), ds = [tS bs, tS ts, tabL (Ri bs ts) bs.length ts.length, .int i, .int j] ∧ (ok2 bs ts ∧ i ≤ bs.length ∧ j ≤ ts.length ∧ (i < bs.length ∨ j < ts.length)) ∧ Q (.str (nxt bs ts i j))
def sp_aligned : DSpec := fun ds Q => ∃ bs ts : List Str, ds = [tS bs, tS ts] ∧ ok2 bs ts ∧ ∀ ss : List Str, Opt bs ts ss → ss.length ≤ bs.length + ts.length → Q (tS ss)
def sp_cost_of : DSpec := fun ds Q => ∃ ss : List Str, ds = [tS ss] ∧ (ss.length ≤ 100 ∧ ∀ s ∈ ss, isStep s) ∧ Q (.int (cost ss : Nat))
def sp_is_alignment : DSpec := fun ds Q => ∃ (bs ts : List Str) (d : D), ds = [tS bs, tS ts, d] ∧ (ok2 bs ts ∧ okA d) ∧ Q (.bl (isAl bs ts d))
def sp_is_floor : DSpec := fun ds Q => ∃ (bs ts : List Str) (d : D), ds = [tS bs, tS ts, d] ∧ (ok2 bs ts ∧ okF d) ∧ Q (.bl (isFl bs ts d))
def sp_accepts_least : DSpec := fun ds Q => ∃ (bs ts : List Str) (d f : D), ds = [tS bs, tS ts, d, f] ∧ (ok2 bs ts ∧ okA d ∧ okF f) ∧ Q (.bl (accB bs ts d f))
def sp_l_text : DSpec := fun ds Q => ∃ ws : List Str, ds = [.tape true, .lst (ws.map D.str)] ∧ (ws ≠ [] ∧ ws.length ≤ 10) ∧ ∀ bs : List Str, bs.length ≤ 13 → Q (tS bs)
def sp_l_walk : DSpec := fun ds Q => ∃ bs ts : List Str, ds = [.tape true, tS bs, tS ts] ∧ ok2 bs ts ∧ ∀ ss : List Str, ss.length ≤ bs.length + ts.length → Q (tS ss)
def sp_l_is : DSpec := fun ds Q => ∃ bs ts ss : List Str, ds = [tS bs, tS ts, tS ss] ∧ (ok2 bs ts ∧ ss.length ≤ 100) ∧ Q (.bl (decide (go bs ts ss 0 0 = some (bs.length, ts.length))))
def sp_l_bent : DSpec := fun ds Q => ∃ ss : List Str, ds = [.tape true, tS ss] ∧ ss.length ≤ 80 ∧ ∀ ss' : List Str, ss'.length ≤ ss.length + 1 → Q (tS ss')
def sp_l_is_floor : DSpec := fun ds Q => ∃ (bs ts : List Str) (f : Nat → Nat → Int), ds = [tS bs, tS ts, tab f bs.length ts.length] ∧ ok2 bs ts ∧ Q (.bl (decide (lowP bs ts f)))
def sp_l_floor : DSpec := fun ds Q => ∃ bs ts : List Str, ds = [.tape true, tS bs, tS ts] ∧ ok2 bs ts ∧ ∀ f : Nat → Nat → Int, Q (tab f bs.length ts.length)
def sp_l_told : DSpec := fun ds Q => ∃ a b : Bool, ds = [.bl a, .bl b] ∧ Q (.bl (a == b))
def sp_l_odd : DSpec := fun ds Q => ∃ bs ts : List Str, ds = [tS bs, tS ts] ∧ ok2 bs ts ∧ Q (.bl true)
theorem spm_levels : SpMono sp_levels := fun ds Q Q' ⟨a, b, e, h1, h⟩ m => ⟨a, b, e, h1, m _ h⟩
theorem spm_rest : SpMono sp_rest := fun ds Q Q' ⟨a, b, e, h1, h⟩ m => ⟨a, b, e, h1, m _ h⟩
theorem spm_next_step : SpMono sp_next_step := fun ds Q Q' ⟨a, b, i, j, e, h1, h⟩ m => ⟨a, b, i, j, e, h1, m _ h⟩
theorem spm_aligned : SpMono sp_aligned := fun ds Q Q' ⟨a, b, e, h1, h⟩ m => ⟨a, b, e, h1, fun ss p q => m _ (h ss p q)⟩
theorem spm_cost_of : SpMono sp_cost_of := fun ds Q Q' ⟨a, e, h1, h⟩ m => ⟨a, e, h1, m _ h⟩
theorem spm_is_alignment : SpMono sp_is_alignment := fun ds Q Q' ⟨a, b, c, e, h1, h⟩ m => ⟨a, b, c, e, h1, m _ h⟩
theorem spm_is_floor : SpMono sp_is_floor := fun ds Q Q' ⟨a, b, c, e, h1, h⟩ m => ⟨a, b, c, e, h1, m _ h⟩
theorem spm_accepts_least : SpMono sp_accepts_least := fun ds Q Q' ⟨a, b, c, d, e, h1, h⟩ m => ⟨a, b, c, d, e, h1, m _ h⟩
theorem spm_l_text : SpMono sp_l_text := fun ds Q Q' ⟨a, e, h1, h⟩ m => ⟨a, e, h1, fun ss p => m _ (h ss p)⟩
theorem spm_l_walk : SpMono sp_l_walk := fun ds Q Q' ⟨a, b, e, h1, h⟩ m => ⟨a, b, e, h1, fun ss p => m _ (h ss p)⟩
theorem spm_l_is : SpMono sp_l_is := fun ds Q Q' ⟨a, b, c, e, h1, h⟩ m => ⟨a, b, c, e, h1, m _ h⟩
theorem spm_l_bent : SpMono sp_l_bent := fun ds Q Q' ⟨a, e, h1, h⟩ m => ⟨a, e, h1, fun ss p => m _ (h ss p)⟩
theorem spm_l_is_floor : SpMono sp_l_is_floor := fun ds Q Q' ⟨a, b, c, e, h1, h⟩ m => ⟨a, b, c, e, h1, m _ h⟩
theorem spm_l_floor : SpMono sp_l_floor := fun ds Q Q' ⟨a, b, e, h1, h⟩ m => ⟨a, b, e, h1, fun f => m _ (h f)⟩
theorem spm_l_told : SpMono sp_l_told := fun ds Q Q' ⟨a, b, e, h⟩ m => ⟨a, b, e, m _ h⟩
theorem spm_l_odd : SpMono sp_l_odd := fun ds Q Q' ⟨a, b, e, h1, h⟩ m => ⟨a, b, e, h1, m _ h⟩
def c_levels_1 : E :=
(.lc [("row", 4)] (.bf .tuple (.cons (.var 4) .nil)) (.var 4) (.var 2) .nil)
def b_levels_1 : S :=
(.cons (.asg 6 (.bin .Add (.ix (.ix (.var 2) (.var 3)) (.var 5)) (.ite (.cmp .Eq (.ix (.var 0) (.var 3)) (.ix (.var 1) (.var 5))) (.int 0) (.int 3))))
(.cons (.app 4 (.bf .min (.cons (.var 6) (.cons (.bin .Add (.ix (.ix (.var 2) (.var 3)) (.bin .Add (.var 5) (.int 1))) (.int 2)) (.cons (.bin .Add (.ix (.var 4) (.var 5)) (.int 2)) .nil)))))
.nil))
def b_levels_2 : S :=
(.cons (.asg 4 (.lst (.cons (.bin .Mult (.int 2) (.bin .Add (.var 3) (.int 1))) .nil)))
(.cons (.for_ (.var 5) (.r1 (.bf .len (.cons (.var 1) .nil))) b_levels_1)
(.cons (.app 2 (.var 4))
.nil)))
def c_levels_2 : E :=
(.lc [("j", 5)] (.bin .Mult (.int 2) (.var 5)) (.var 5) (.r1 (.bin .Add (.bf .len (.cons (.var 1) .nil)) (.int 1))) .nil)
def b_levels : S :=
(.cons (.asg 2 (.lst (.cons c_levels_2 .nil)))
(.cons (.for_ (.var 3) (.r1 (.bf .len (.cons (.var 0) .nil))) b_levels_2)
(.cons (.ret (.bf .tuple (.cons c_levels_1 .nil)))
.nil)))
theorem mb_levels_1 : b_levels_1.monos := by simp [S.monos, E.monos, c_levels_1, b_levels_1, b_levels_2, c_levels_2]
theorem mb_levels_2 : b_levels_2.monos := by simp [S.monos, E.monos, c_levels_1, b_levels_1, b_levels_2, c_levels_2]
theorem mb_levels : b_levels.monos := by simp [S.monos, E.monos, b_levels, c_levels_1, b_levels_1, b_levels_2, c_levels_2]
def c_rest_1 : E :=
(.lc [("row", 3)] (.bf .list (.cons (rev (.var 3)) .nil)) (.var 3) (rev (.var 2)) .nil)
def b_rest : S :=
(.cons (.asg 2 (.call "levels" sp_levels (.cons (rev (.var 0)) (.cons (rev (.var 1)) .nil))))
(.cons (.ret c_rest_1)
.nil))
theorem mb_rest : b_rest.monos := by simp [S.monos, E.monos, b_rest, c_rest_1, spm_levels] <;> (repeat' first | exact rev_mono (by simp [E.monos, b_rest, c_rest_1, spm_levels]) | apply And.intro)
def b_next_step : S :=
(.cons (.iff (.andd (.cmp .Lt (.var 3) (.bf .len (.cons (.var 0) .nil))) (.cmp .Lt (.var 4) (.bf .len (.cons (.var 1) .nil))))
(.cons (.asg 5 (.ite (.cmp .Eq (.ix (.var 0) (.var 3)) (.ix (.var 1) (.var 4))) (.str "keep") (.str "change")))
(.cons (.iff (.cmp .Eq (.ix (.ix (.var 2) (.var 3)) (.var 4)) (.bin .Add (.ix (.ix (.var 2) (.bin .Add (.var 3) (.int 1))) (.bin .Add (.var 4) (.int 1))) (gdx "COSTS" g_COSTS (.var 5))))
(.cons (.ret (.var 5))
.nil)
.nil)
.nil))
.nil)
(.cons (.iff (.andd (.cmp .Lt (.var 3) (.bf .len (.cons (.var 0) .nil))) (.cmp .Eq (.ix (.ix (.var 2) (.var 3)) (.var 4)) (.bin .Add (.ix (.ix (.var 2) (.bin .Add (.var 3) (.int 1))) (.var 4)) (gdx "COSTS" g_COSTS (.str "drop")))))
(.cons (.ret (.str "drop"))
.nil)
.nil)
(.cons (.ret (.str "add"))
.nil)))
theorem mb_next_step : b_next_step.monos := by simp [S.monos, E.monos, b_next_step] <;> (repeat' first | exact gdx_mono (by simp [E.monos, b_next_step]) | apply And.intro)
def t_aligned_1 : E :=
(.orr (.cmp .Lt (.var 4) (.bf .len (.cons (.var 0) .nil))) (.cmp .Lt (.var 5) (.bf .len (.cons (.var 1) .nil))))
def b_aligned_1 : S :=
(.cons (.asg 6 (.call "next_step" sp_next_step (.cons (.var 0) (.cons (.var 1) (.cons (.var 2) (.cons (.var 4) (.cons (.var 5) .nil)))))))
(.cons (.app 3 (.var 6))
(.cons (.asg 4 (.bin .Add (.var 4) (.bf .int (.cons (.cmp .NotEq (.var 6) (.str "add")) .nil))))
(.cons (.asg 5 (.bin .Add (.var 5) (.bf .int (.cons (.cmp .NotEq (.var 6) (.str "drop")) .nil))))
.nil))))
def b_aligned : S :=
(.cons (.asg 2 (.call "rest" sp_rest (.cons (.var 0) (.cons (.var 1) .nil))))
(.cons (.asg 3 (.lst .nil))
(.cons (asgC (.tup (.cons (.var 4) (.cons (.var 5) .nil))) (.tup (.cons (.int 0) (.cons (.int 0) .nil))))
(.cons (.whl t_aligned_1 b_aligned_1)
(.cons (.ret (.bf .tuple (.cons (.var 3) .nil)))
.nil)))))
theorem mb_aligned_1 : b_aligned_1.monos := by simp [S.monos, E.monos, t_aligned_1, b_aligned_1, spm_next_step, spm_rest]
theorem mb_aligned : b_aligned.monos := by simp [S.monos, E.monos, b_aligned, t_aligned_1, b_aligned_1, spm_next_step, spm_rest] <;> (repeat' first | exact asgC_mono (by simp [E.monos, b_aligned, t_aligned_1, b_aligned_1, spm_next_step, spm_rest]) | apply And.intro)
def c_cost_of_1 : E :=
(.lc [("step", 1)] (gdx "COSTS" g_COSTS (.var 1)) (.var 1) (.var 0) .nil)
def b_cost_of : S :=
(.cons (.ret (.bf .sum (.cons c_cost_of_1 .nil)))
.nil)
theorem mb_cost_of : b_cost_of.monos := by simp [S.monos, E.monos, b_cost_of, c_cost_of_1] <;> (repeat' first | exact gdx_mono (by simp [E.monos, b_cost_of, c_cost_of_1]) | apply And.intro)
def b_is_alignment_1 : S :=
(.cons (.iff (.orr (.nott (.isin (.var 3) [.str])) (.cmp .NotIn (.var 3) (.glob "STEPS" g_STEPS)))
(.cons (.ret (.bl false))
.nil)
.nil)
(.cons (.iff (.orr (.andd (.cmp .NotEq (.var 3) (.str "add")) (.cmp .Eq (.var 4) (.bf .len (.cons (.var 0) .nil)))) (.andd (.cmp .NotEq (.var 3) (.str "drop")) (.cmp .Eq (.var 5) (.bf .len (.cons (.var 1) .nil)))))
(.cons (.ret (.bl false))
.nil)
.nil)
(.cons (.iff (.andd (.cmp .In (.var 3) (.tup (.cons (.str "keep") (.cons (.str "change") .nil)))) (.cmp .NotEq (.cmp .Eq (.var 3) (.str "keep")) (.cmp .Eq (.ix (.var 0) (.var 4)) (.ix (.var 1) (.var 5)))))
(.cons (.ret (.bl false))
.nil)
.nil)
(.cons (.asg 4 (.bin .Add (.var 4) (.bf .int (.cons (.cmp .NotEq (.var 3) (.str "add")) .nil))))
(.cons (.asg 5 (.bin .Add (.var 5) (.bf .int (.cons (.cmp .NotEq (.var 3) (.str "drop")) .nil))))
.nil)))))
def b_is_alignment : S :=
(.cons (.iff (.nott (.isin (.var 2) [.tuple]))
(.cons (.ret (.bl false))
.nil)
.nil)
(.cons (asgC (.tup (.cons (.var 4) (.cons (.var 5) .nil))) (.tup (.cons (.int 0) (.cons (.int 0) .nil))))
(.cons (.for_ (.var 3) (.var 2) b_is_alignment_1)
(.cons (.ret (.andd (.cmp .Eq (.var 4) (.bf .len (.cons (.var 0) .nil))) (.cmp .Eq (.var 5) (.bf .len (.cons (.var 1) .nil)))))
.nil))))
theorem mb_is_alignment_1 : b_is_alignment_1.monos := by simp [S.monos, E.monos, b_is_alignment_1]
theorem mb_is_alignment : b_is_alignment.monos := by simp [S.monos, E.monos, b_is_alignment, b_is_alignment_1] <;> (repeat' first | exact asgC_mono (by simp [E.monos, b_is_alignment, b_is_alignment_1]) | apply And.intro)
def b_is_floor_1 : S :=
(.cons (.iff (.andd (.cmp .Lt (.var 4) (.bf .len (.cons (.var 0) .nil))) (.cmp .Gt (.ix (.ix (.var 2) (.bin .Add (.var 4) (.int 1))) (.var 5)) (.bin .Add (.ix (.ix (.var 2) (.var 4)) (.var 5)) (.int 2))))
(.cons (.ret (.bl false))
.nil)
.nil)
(.cons (.iff (.andd (.cmp .Lt (.var 5) (.bf .len (.cons (.var 1) .nil))) (.cmp .Gt (.ix (.ix (.var 2) (.var 4)) (.bin .Add (.var 5) (.int 1))) (.bin .Add (.ix (.ix (.var 2) (.var 4)) (.var 5)) (.int 2))))
(.cons (.ret (.bl false))
.nil)
.nil)
(.cons (.iff (.andd (.cmp .Lt (.var 4) (.bf .len (.cons (.var 0) .nil))) (.cmp .Lt (.var 5) (.bf .len (.cons (.var 1) .nil))))
(.cons (.iff (.cmp .Gt (.ix (.ix (.var 2) (.bin .Add (.var 4) (.int 1))) (.bin .Add (.var 5) (.int 1))) (.bin .Add (.ix (.ix (.var 2) (.var 4)) (.var 5)) (.ite (.cmp .Eq (.ix (.var 0) (.var 4)) (.ix (.var 1) (.var 5))) (.int 0) (.int 3))))
(.cons (.ret (.bl false))
.nil)
.nil)
.nil)
.nil)
.nil)))
def b_is_floor_2 : S :=
(.cons (.for_ (.var 5) (.r1 (.bin .Add (.bf .len (.cons (.var 1) .nil)) (.int 1))) b_is_floor_1)
.nil)
def c_is_floor_1 : E :=
(.lc [("number", 6)] (.call "is_whole" sp_is_whole (.cons (.var 6) (.cons (.int 0) (.cons (.bin .Mult (.int 2) (.bin .Add (.bf .len (.cons (.var 0) .nil)) (.bf .len (.cons (.var 1) .nil)))) .nil)))) (.var 6) (.var 3) .nil)
def b_is_floor_3 : S :=
(.cons (.iff (.orr (.nott (.isin (.var 3) [.tuple])) (.cmp .NotEq (.bf .len (.cons (.var 3) .nil)) (.bin .Add (.bf .len (.cons (.var 1) .nil)) (.int 1))))
(.cons (.ret (.bl false))
.nil)
.nil)
(.cons (.iff (.nott (.bf .all (.cons c_is_floor_1 .nil)))
(.cons (.ret (.bl false))
.nil)
.nil)
.nil))
def b_is_floor : S :=
(.cons (.iff (.orr (.nott (.isin (.var 2) [.tuple])) (.cmp .NotEq (.bf .len (.cons (.var 2) .nil)) (.bin .Add (.bf .len (.cons (.var 0) .nil)) (.int 1))))
(.cons (.ret (.bl false))
.nil)
.nil)
(.cons (.for_ (.var 3) (.var 2) b_is_floor_3)
(.cons (.for_ (.var 4) (.r1 (.bin .Add (.bf .len (.cons (.var 0) .nil)) (.int 1))) b_is_floor_2)
(.cons (.ret (.bl true))
.nil))))
theorem mb_is_floor_1 : b_is_floor_1.monos := by simp [S.monos, E.monos, b_is_floor_1, b_is_floor_2, c_is_floor_1, b_is_floor_3, spm_is_whole]
theorem mb_is_floor_2 : b_is_floor_2.monos := by simp [S.monos, E.monos, b_is_floor_1, b_is_floor_2, c_is_floor_1, b_is_floor_3, spm_is_whole]
theorem mb_is_floor_3 : b_is_floor_3.monos := by simp [S.monos, E.monos, b_is_floor_1, b_is_floor_2, c_is_floor_1, b_is_floor_3, spm_is_whole]
theorem mb_is_floor : b_is_floor.monos := by simp [S.monos, E.monos, b_is_floor, b_is_floor_1, b_is_floor_2, c_is_floor_1, b_is_floor_3, spm_is_whole]
def b_accepts_least : S :=
(.cons (.iff (.orr (.nott (.call "is_alignment" sp_is_alignment (.cons (.var 0) (.cons (.var 1) (.cons (.var 2) .nil))))) (.nott (.call "is_floor" sp_is_floor (.cons (.var 0) (.cons (.var 1) (.cons (.var 3) .nil))))))
(.cons (.ret (.bl false))
.nil)
.nil)
(.cons (.ret (.cmp .Eq (.bin .Sub (.ix (.ix (.var 3) (.neg (.int 1))) (.neg (.int 1))) (.ix (.ix (.var 3) (.int 0)) (.int 0))) (.call "cost_of" sp_cost_of (.cons (.var 2) .nil))))
.nil))
theorem mb_accepts_least : b_accepts_least.monos := by simp [S.monos, E.monos, b_accepts_least, spm_cost_of, spm_is_floor, spm_is_alignment]
def c_l_text_1 : E :=
(.lc [("k", 2)] (.call "_law_pick" (spPick true) (.cons (.var 0) (.cons (.var 1) .nil))) (.var 2) (.r1 (.call "_law_next" (spNum true) (.cons (.var 0) (.cons (.int 14) .nil)))) .nil)
def b_l_text : S :=
(.cons (.ret (.bf .tuple (.cons c_l_text_1 .nil)))
.nil)
theorem mb_l_text : b_l_text.monos := by simp [S.monos, E.monos, b_l_text, c_l_text_1, spNum_mono, spPick_mono]
def b_l_walk_1 : S :=
(.cons (.asg 7 (.lst .nil))
(.cons (.iff (.cmp .Lt (.var 5) (.bf .len (.cons (.var 1) .nil)))
(.cons (.app 7 (.str "drop"))
.nil)
.nil)
(.cons (.iff (.cmp .Lt (.var 6) (.bf .len (.cons (.var 2) .nil)))
(.cons (.app 7 (.str "add"))
.nil)
.nil)
(.cons (.iff (.andd (.cmp .Lt (.var 5) (.bf .len (.cons (.var 1) .nil))) (.cmp .Lt (.var 6) (.bf .len (.cons (.var 2) .nil))))
(.cons (.asg 7 (.bin .Add (.var 7) (.bin .Mult (.lst (.cons (.ix (.lst (.cons (.str "change") (.cons (.str "keep") .nil))) (.bf .int (.cons (.cmp .Eq (.ix (.var 1) (.var 5)) (.ix (.var 2) (.var 6))) .nil))) .nil)) (.int 2))))
.nil)
.nil)
(.cons (.iff (.cmp .NotEq (.var 7) (.lst .nil))
(.cons (.asg 8 (.call "_law_pick" (spPick true) (.cons (.var 0) (.cons (.var 7) .nil))))
(.cons (.app 3 (.var 8))
(.cons (.asg 5 (.bin .Add (.var 5) (.bf .int (.cons (.cmp .NotEq (.var 8) (.str "add")) .nil))))
(.cons (.asg 6 (.bin .Add (.var 6) (.bf .int (.cons (.cmp .NotEq (.var 8) (.str "drop")) .nil))))
.nil))))
.nil)
.nil)))))
def b_l_walk : S :=
(.cons (.asg 3 (.lst .nil))
(.cons (asgC (.tup (.cons (.var 5) (.cons (.var 6) .nil))) (.tup (.cons (.int 0) (.cons (.int 0) .nil))))
(.cons (.for_ (.var 4) (.r1 (.bin .Add (.bf .len (.cons (.var 1) .nil)) (.bf .len (.cons (.var 2) .nil)))) b_l_walk_1)
(.cons (.ret (.bf .tuple (.cons (.var 3) .nil)))
.nil))))
theorem mb_l_walk_1 : b_l_walk_1.monos := by simp [S.monos, E.monos, b_l_walk_1, spPick_mono]
theorem mb_l_walk : b_l_walk.monos := by simp [S.monos, E.monos, b_l_walk, b_l_walk_1, spPick_mono] <;> (repeat' first | exact asgC_mono (by simp [E.monos, b_l_walk, b_l_walk_1, spPick_mono]) | apply And.intro)
def b_l_is_1 : S :=
(.cons (.iff (.cmp .NotIn (.var 3) (.tup (.cons (.str "keep") (.cons (.str "change") (.cons (.str "drop") (.cons (.str "add") .nil))))))
(.cons (.ret (.bl false))
.nil)
.nil)
(.cons (.iff (.cmp .In (.var 3) (.tup (.cons (.str "keep") (.cons (.str "change") .nil))))
(.cons (.iff (.orr (.cmp .GtE (.var 4) (.bf .len (.cons (.var 0) .nil))) (.orr (.cmp .GtE (.var 5) (.bf .len (.cons (.var 1) .nil))) (.cmp .NotEq (.cmp .Eq (.ix (.var 0) (.var 4)) (.ix (.var 1) (.var 5))) (.cmp .Eq (.var 3) (.str "keep")))))
(.cons (.ret (.bl false))
.nil)
.nil)
.nil)
.nil)
(.cons (.asg 4 (.bin .Add (.var 4) (.bf .int (.cons (.cmp .NotEq (.var 3) (.str "add")) .nil))))
(.cons (.asg 5 (.bin .Add (.var 5) (.bf .int (.cons (.cmp .NotEq (.var 3) (.str "drop")) .nil))))
.nil))))
def b_l_is : S :=
(.cons (asgC (.tup (.cons (.var 4) (.cons (.var 5) .nil))) (.tup (.cons (.int 0) (.cons (.int 0) .nil))))
(.cons (.for_ (.var 3) (.var 2) b_l_is_1)
(.cons (.ret (.andd (.cmp .Eq (.var 4) (.bf .len (.cons (.var 0) .nil))) (.cmp .Eq (.var 5) (.bf .len (.cons (.var 1) .nil)))))
.nil)))
theorem mb_l_is_1 : b_l_is_1.monos := by simp [S.monos, E.monos, b_l_is_1]
theorem mb_l_is : b_l_is.monos := by simp [S.monos, E.monos, b_l_is, b_l_is_1] <;> (repeat' first | exact asgC_mono (by simp [E.monos, b_l_is, b_l_is_1]) | apply And.intro)
def b_l_bent : S :=
(.cons (.asg 2 (.call "_law_next" (spNum true) (.cons (.var 0) (.cons (.bin .Add (.bf .len (.cons (.var 1) .nil)) (.int 1)) .nil))))
(.cons (.asg 3 (.call "_law_pick" (spPick true) (.cons (.var 0) (.cons (.lst (.cons (.str "keep") (.cons (.str "change") (.cons (.str "drop") (.cons (.str "add") (.cons (.str "take") .nil)))))) .nil))))
(.cons (.asg 4 (.call "_law_next" (spNum true) (.cons (.var 0) (.cons (.int 4) .nil))))
(.cons (.iff (.cmp .Eq (.var 4) (.int 0))
(.cons (.ret (.bin .Add (.sl (.var 1) .nil (.var 2)) (.sl (.var 1) (.bin .Add (.var 2) (.int 1)) .nil)))
.nil)
.nil)
(.cons (.iff (.cmp .Eq (.var 4) (.int 1))
(.cons (.ret (.bin .Add (.bin .Add (.sl (.var 1) .nil (.var 2)) (.tup (.cons (.var 3) .nil))) (.sl (.var 1) (.var 2) .nil)))
.nil)
.nil)
(.cons (.iff (.cmp .Eq (.var 4) (.int 2))
(.cons (.ret (.bin .Add (.bin .Add (.sl (.var 1) .nil (.var 2)) (.tup (.cons (.var 3) .nil))) (.sl (.var 1) (.bin .Add (.var 2) (.int 1)) .nil)))
.nil)
.nil)
(.cons (.ret (rev (.var 1)))
.nil)))))))
theorem mb_l_bent : b_l_bent.monos := by simp [S.monos, E.monos, b_l_bent, spNum_mono, spPick_mono] <;> (repeat' first | exact rev_mono (by simp [E.monos, b_l_bent, spNum_mono, spPick_mono]) | apply And.intro)
def b_l_is_floor_1 : S :=
(.cons (.iff (.orr (.cmp .Lt (.ix (.ix (.var 2) (.var 3)) (.var 4)) (.int 0)) (.cmp .Gt (.ix (.ix (.var 2) (.var 3)) (.var 4)) (.bin .Mult (.int 2) (.bin .Add (.bf .len (.cons (.var 0) .nil)) (.bf .len (.cons (.var 1) .nil))))))
(.cons (.ret (.bl false))
.nil)
.nil)
(.cons (.iff (.orr (.andd (.cmp .Gt (.var 3) (.int 0)) (.cmp .Gt (.bin .Sub (.ix (.ix (.var 2) (.var 3)) (.var 4)) (.ix (.ix (.var 2) (.bin .Sub (.var 3) (.int 1))) (.var 4))) (.int 2))) (.andd (.cmp .Gt (.var 4) (.int 0)) (.cmp .Gt (.bin .Sub (.ix (.ix (.var 2) (.var 3)) (.var 4)) (.ix (.ix (.var 2) (.var 3)) (.bin .Sub (.var 4) (.int 1)))) (.int 2))))
(.cons (.ret (.bl false))
.nil)
.nil)
(.cons (.iff (.andd (.cmp .Gt (.var 3) (.int 0)) (.andd (.cmp .Gt (.var 4) (.int 0)) (.cmp .Gt (.bin .Sub (.ix (.ix (.var 2) (.var 3)) (.var 4)) (.ix (.ix (.var 2) (.bin .Sub (.var 3) (.int 1))) (.bin .Sub (.var 4) (.int 1)))) (.ix (.lst (.cons (.int 3) (.cons (.int 0) .nil))) (.bf .int (.cons (.cmp .Eq (.ix (.var 0) (.bin .Sub (.var 3) (.int 1))) (.ix (.var 1) (.bin .Sub (.var 4) (.int 1)))) .nil))))))
(.cons (.ret (.bl false))
.nil)
.nil)
.nil)))
def b_l_is_floor_2 : S :=
(.cons (.for_ (.var 4) (.r1 (.bin .Add (.bf .len (.cons (.var 1) .nil)) (.int 1))) b_l_is_floor_1)
.nil)
def b_l_is_floor : S :=
(.cons (.for_ (.var 3) (.r1 (.bin .Add (.bf .len (.cons (.var 0) .nil)) (.int 1))) b_l_is_floor_2)
(.cons (.ret (.bl true))
.nil))
theorem mb_l_is_floor_1 : b_l_is_floor_1.monos := by simp [S.monos, E.monos, b_l_is_floor_1, b_l_is_floor_2]
theorem mb_l_is_floor_2 : b_l_is_floor_2.monos := by simp [S.monos, E.monos, b_l_is_floor_1, b_l_is_floor_2]
theorem mb_l_is_floor : b_l_is_floor.monos := by simp [S.monos, E.monos, b_l_is_floor, b_l_is_floor_1, b_l_is_floor_2]
def c_l_floor_1 : E :=
(.lc [("number", 6)] (.bin .Add (.var 6) (.var 5)) (.var 6) (.var 9) .nil)
def c_l_floor_2 : E :=
(.lc [("row", 9)] (.bf .tuple (.cons c_l_floor_1 .nil)) (.var 9) (.var 3) .nil)
def c_l_floor_3 : E :=
(.lc [("number", 6)] (.bf .max (.cons (.int 0) (.cons (.bin .Sub (.var 6) (.var 5)) .nil))) (.var 6) (.var 9) .nil)
def c_l_floor_4 : E :=
(.lc [("row", 9)] (.bf .tuple (.cons c_l_floor_3 .nil)) (.var 9) (.var 3) .nil)
def c_l_floor_5 : E :=
(.lc [("number", 6)] (.bf .min (.cons (.var 6) (.cons (.var 5) .nil))) (.var 6) (.var 9) .nil)
def c_l_floor_6 : E :=
(.lc [("row", 9)] (.bf .tuple (.cons c_l_floor_5 .nil)) (.var 9) (.var 3) .nil)
def b_l_floor : S :=
(.cons (.asg 3 (.call "levels" sp_levels (.cons (.var 1) (.cons (.var 2) .nil))))
(.cons (.asg 4 (.call "_law_next" (spNum true) (.cons (.var 0) (.cons (.int 5) .nil))))
(.cons (.asg 5 (.call "_law_next" (spNum true) (.cons (.var 0) (.cons (.int 5) .nil))))
(.cons (.iff (.cmp .Eq (.var 4) (.int 0))
(.cons (.ret (.var 3))
.nil)
.nil)
(.cons (.iff (.cmp .Eq (.var 4) (.int 1))
(.cons (.ret (.bf .tuple (.cons c_l_floor_6 .nil)))
.nil)
.nil)
(.cons (.iff (.cmp .Eq (.var 4) (.int 2))
(.cons (.ret (.bf .tuple (.cons c_l_floor_4 .nil)))
.nil)
.nil)
(.cons (.iff (.cmp .Eq (.var 4) (.int 3))
(.cons (.ret (.bf .tuple (.cons c_l_floor_2 .nil)))
.nil)
.nil)
(.cons (.asg2 7 8 (.call "_law_next" (spNum true) (.cons (.var 0) (.cons (.bf .len (.cons (.var 3) .nil)) .nil))) (.call "_law_next" (spNum true) (.cons (.var 0) (.cons (.bin .Add (.bf .len (.cons (.var 2) .nil)) (.int 1)) .nil))))
(.cons (.asg 6 (.call "_law_pick" (spPick true) (.cons (.var 0) (.cons (.lst (.cons (.bin .Add (.ix (.ix (.var 3) (.var 7)) (.var 8)) (.int 1)) (.cons (.bin .Add (.ix (.ix (.var 3) (.var 7)) (.var 8)) (.int 2)) (.cons (.bf .max (.cons (.int 0) (.cons (.bin .Sub (.ix (.ix (.var 3) (.var 7)) (.var 8)) (.int 1)) .nil))) (.cons (.int 0) .nil))))) .nil))))
(.cons (.ret (.bin .Add (.bin .Add (.sl (.var 3) .nil (.var 7)) (.tup (.cons (.bin .Add (.bin .Add (.sl (.ix (.var 3) (.var 7)) .nil (.var 8)) (.tup (.cons (.var 6) .nil))) (.sl (.ix (.var 3) (.var 7)) (.bin .Add (.var 8) (.int 1)) .nil)) .nil))) (.sl (.var 3) (.bin .Add (.var 7) (.int 1)) .nil)))
.nil))))))))))
theorem mb_l_floor : b_l_floor.monos := by simp [S.monos, E.monos, b_l_floor, c_l_floor_1, c_l_floor_2, c_l_floor_3, c_l_floor_4, c_l_floor_5, c_l_floor_6, spm_levels, spNum_mono, spPick_mono]
def b_l_told : S :=
(.cons (.ret (.andd (.isin (.var 0) [.bool]) (.cmp .Eq (.var 0) (.var 1))))
.nil)
theorem mb_l_told : b_l_told.monos := by simp [S.monos, E.monos, b_l_told]
def b_l_odd_1 : S :=
(.cons (.iff (.orr (.cmp .IsNot (.call "is_floor" sp_is_floor (.cons (.var 0) (.cons (.var 1) (.cons (.var 3) .nil)))) (.bl false)) (.cmp .IsNot (.call "accepts_least" sp_accepts_least (.cons (.var 0) (.cons (.var 1) (.cons (.var 5) (.cons (.var 3) .nil))))) (.bl false)))
(.cons (.ret (.bl false))
.nil)
.nil)
.nil)
def c_l_odd_1 : E :=
(.lc [("row", 7)] (.bf .list (.cons (.var 7) .nil)) (.var 7) (.var 6) .nil)
def b_l_odd_2 : S :=
(.cons (.iff (.orr (.cmp .IsNot (.call "is_alignment" sp_is_alignment (.cons (.var 0) (.cons (.var 1) (.cons (.var 3) .nil)))) (.bl false)) (.cmp .IsNot (.call "accepts_least" sp_accepts_least (.cons (.var 0) (.cons (.var 1) (.cons (.var 3) (.cons (.var 6) .nil))))) (.bl false)))
(.cons (.ret (.bl false))
.nil)
.nil)
.nil)
def b_l_odd : S :=
(.cons (.asg2 5 6 (.call "aligned" sp_aligned (.cons (.var 0) (.cons (.var 1) .nil))) (.call "levels" sp_levels (.cons (.var 0) (.cons (.var 1) .nil))))
(.cons (.asg 2 (.lst (.cons .non (.cons (.int 7) (.cons (.str "keep") (.cons (.lst .nil) (.cons (.bf .list (.cons (.var 5) .nil)) (.cons (.bin .Add (.var 5) (.tup (.cons (.int 1) .nil))) (.cons (.tup (.cons (.var 5) .nil)) (.cons dnil (.cons (.bin .Add (.var 5) (.tup (.cons .non .nil))) .nil)))))))))))
(.cons (.for_ (.var 3) (.var 2) b_l_odd_2)
(.cons (.asg 4 (.lst (.cons .non (.cons (.int 7) (.cons (.tup .nil) (.cons (.bf .list (.cons (.var 6) .nil)) (.cons (.sl (.var 6) .nil (.neg (.int 1))) (.cons (.bin .Add (.var 6) (.tup (.cons (.ix (.var 6) (.int 0)) .nil))) (.cons (.bf .tuple (.cons c_l_odd_1 .nil)) (.cons (.bin .Add (.sl (.var 6) .nil (.neg (.int 1))) (.tup (.cons (.sl (.ix (.var 6) (.neg (.int 1))) .nil (.neg (.int 1))) .nil))) .nil))))))))))
(.cons (.asg 4 (.bin .Add (.var 4) (.lst (.cons (.bin .Add (.sl (.var 6) .nil (.neg (.int 1))) (.tup (.cons (.bin .Add (.sl (.ix (.var 6) (.neg (.int 1))) .nil (.neg (.int 1))) (.tup (.cons (.bl true) .nil))) .nil))) (.cons (.bin .Add (.sl (.var 6) .nil (.neg (.int 1))) (.tup (.cons (.bin .Add (.sl (.ix (.var 6) (.neg (.int 1))) .nil (.neg (.int 1))) (.tup (.cons (.str "0") .nil))) .nil))) (.cons (.bin .Add (.sl (.var 6) .nil (.neg (.int 1))) (.tup (.cons (.bin .Add (.sl (.ix (.var 6) (.neg (.int 1))) .nil (.neg (.int 1))) (.tup (.cons (.neg (.int 1)) .nil))) .nil))) .nil))))))
(.cons (.for_ (.var 3) (.var 4) b_l_odd_1)
(.cons (.ret (.bl true))
.nil)))))))
theorem mb_l_odd_1 : b_l_odd_1.monos := by simp [S.monos, E.monos, b_l_odd_1, c_l_odd_1, b_l_odd_2, spm_accepts_least, spm_is_floor, spm_is_alignment, spm_aligned, spm_levels]
theorem mb_l_odd_2 : b_l_odd_2.monos := by simp [S.monos, E.monos, b_l_odd_1, c_l_odd_1, b_l_odd_2, spm_accepts_least, spm_is_floor, spm_is_alignment, spm_aligned, spm_levels]
theorem mb_l_odd : b_l_odd.monos := by simp [S.monos, E.monos, b_l_odd, b_l_odd_1, c_l_odd_1, b_l_odd_2, spm_accepts_least, spm_is_floor, spm_is_alignment, spm_aligned, spm_levels]
def b_law_1 : S :=
(.cons (.asg 8 (.call "_law_pick" (spPick true) (.cons (.var 1) (.cons (.lst (.cons (.var 4) (.cons (.call "_law_walk" sp_l_walk (.cons (.var 1) (.cons (.var 6) (.cons (.var 7) .nil)))) .nil))) .nil))))
(.cons (.iff (.cmp .Eq (.call "_law_next" (spNum true) (.cons (.var 1) (.cons (.int 2) .nil))) (.int 0))
(.cons (.asg 8 (.call "_law_bent" sp_l_bent (.cons (.var 1) (.cons (.var 8) .nil))))
.nil)
.nil)
(.cons (.asg 9 (.call "_law_floor" sp_l_floor (.cons (.var 1) (.cons (.var 6) (.cons (.var 7) .nil)))))
(.cons (.asg2 11 12 (.call "_law_is" sp_l_is (.cons (.var 6) (.cons (.var 7) (.cons (.var 8) .nil)))) (.call "_law_is_floor" sp_l_is_floor (.cons (.var 6) (.cons (.var 7) (.cons (.var 9) .nil)))))
(.cons (.iff (.orr (.nott (.call "_law_told" sp_l_told (.cons (.call "is_alignment" sp_is_alignment (.cons (.var 6) (.cons (.var 7) (.cons (.var 8) .nil)))) (.cons (.var 11) .nil)))) (.nott (.call "_law_told" sp_l_told (.cons (.call "is_floor" sp_is_floor (.cons (.var 6) (.cons (.var 7) (.cons (.var 9) .nil)))) (.cons (.var 12) .nil)))))
(.cons (.ret (.bl false))
.nil)
.nil)
(.cons (.asg 10 (.andd (.var 11) (.andd (.var 12) (.cmp .Eq (.bin .Sub (.ix (.ix (.var 9) (.neg (.int 1))) (.neg (.int 1))) (.ix (.ix (.var 9) (.int 0)) (.int 0))) (.call "cost_of" sp_cost_of (.cons (.var 8) .nil))))))
(.cons (.iff (.orr (.andd (.var 10) (.cmp .NotEq (.call "cost_of" sp_cost_of (.cons (.var 8) .nil)) (.call "cost_of" sp_cost_of (.cons (.var 4) .nil)))) (.nott (.call "_law_told" sp_l_told (.cons (.call "accepts_least" sp_accepts_least (.cons (.var 6) (.cons (.var 7) (.cons (.var 8) (.cons (.var 9) .nil))))) (.cons (.var 10) .nil)))))
(.cons (.ret (.bl false))
.nil)
.nil)
.nil)))))))
def b_law_2 : S :=
(.cons (.asg 3 (.sl (.lst (.cons (.str "a") (.cons (.str "b") (.cons (.str "c") .nil)))) .nil (.bin .Add (.int 1) (.call "_law_next" (spNum true) (.cons (.var 1) (.cons (.int 3) .nil))))))
(.cons (.asg2 6 7 (.call "_law_text" sp_l_text (.cons (.var 1) (.cons (.var 3) .nil))) (.call "_law_text" sp_l_text (.cons (.var 1) (.cons (.var 3) .nil))))
(.cons (.asg 4 (.call "aligned" sp_aligned (.cons (.var 6) (.cons (.var 7) .nil))))
(.cons (.iff (.orr (.cmp .IsNot (.call "accepts_least" sp_accepts_least (.cons (.var 6) (.cons (.var 7) (.cons (.var 4) (.cons (.call "levels" sp_levels (.cons (.var 6) (.cons (.var 7) .nil))) .nil))))) (.bl true)) (.nott (.call "_law_odd" sp_l_odd (.cons (.var 6) (.cons (.var 7) .nil)))))
(.cons (.ret (.bl false))
.nil)
.nil)
(.cons (.for_ (.var 5) (.r1 (.int 4)) b_law_1)
.nil)))))
def b_law : S :=
(.cons (.for_ (.var 2) (.r1 (.int 3)) b_law_2)
(.cons (.ret (.bl true))
.nil))
theorem mb_law_1 : b_law_1.monos := by simp [S.monos, E.monos, b_law_1, b_law_2, spm_l_told, spm_accepts_least, spm_cost_of, spm_is_floor, spm_is_alignment, spm_l_is, spm_l_is_floor, spm_l_floor, spm_l_bent, spm_l_walk, spm_l_odd, spm_levels, spm_aligned, spm_l_text, spNum_mono, spPick_mono]
theorem mb_law_2 : b_law_2.monos := by simp [S.monos, E.monos, b_law_1, b_law_2, spm_l_told, spm_accepts_least, spm_cost_of, spm_is_floor, spm_is_alignment, spm_l_is, spm_l_is_floor, spm_l_floor, spm_l_bent, spm_l_walk, spm_l_odd, spm_levels, spm_aligned, spm_l_text, spNum_mono, spPick_mono]
theorem mb_law : b_law.monos := by simp [S.monos, E.monos, b_law, b_law_1, b_law_2, spm_l_told, spm_accepts_least, spm_cost_of, spm_is_floor, spm_is_alignment, spm_l_is, spm_l_is_floor, spm_l_floor, spm_l_bent, spm_l_walk, spm_l_odd, spm_levels, spm_aligned, spm_l_text, spNum_mono, spPick_mono]
end K41

set_option Elab.async false
set_option linter.all false
set_option maxRecDepth 100000
set_option maxHeartbeats 4000000
/-! K41w: levels and rests. -/
namespace K41
open PySem PySem.Spec PyProof.Rows L2 DL FM
open Classical

@[simp] theorem dBf_it {Q : D → Prop} : dBf .int [.bl true] Q = Q (.int 1) := rfl
@[simp] theorem dBf_if {Q : D → Prop} : dBf .int [.bl false] Q = Q (.int 0) := rfl
theorem up_nat (i : Nat) : ((i : Int) + 1) = ((i + 1 : Nat) : Int) := by push_cast; rfl
theorem at_map {α : Type} {f : α → D} {xs : List α} {k : Nat} (h : k < xs.length) : L2.atI (xs.map f) (k : Int) = some (f xs[k]) := by
  unfold L2.atI
  rw [List.length_map, ixN_lt h]
  show (xs.map f)[k]? = _
  rw [List.getElem?_map, List.getElem?_eq_getElem h]
  rfl
theorem at_rng {f : Nat → D} {n k : Nat} (h : k < n) : L2.atI ((List.range n).map f) (k : Int) = some (f k) := by
  rw [at_map (by rw [List.length_range]; exact h), List.getElem_range]
theorem at_gW {ws : List Str} {k : Nat} (h : k < ws.length) : L2.atI (ws.map D.str) (k : Int) = some (.str (gW ws k)) := by
  rw [at_map h, gW_get h]
theorem tS_len (ws : List Str) (Q : D → Prop) : dBf .len [tS ws] Q = Q (.int ws.length) := by
  show Q (.int (ws.map D.str).length) = _
  rw [List.length_map]
theorem nm_I (f : Nat → Nat → Int) (m i : Nat) : noMuts (rowI f m i) = true := noMuts_map _ fun _ => rfl
theorem nm_tab (f : Nat → Nat → Int) (n m : Nat) : noMut (tab f n m) = true := noMuts_map _ fun i => nm_I f m i
theorem nm_tS (ws : List Str) : noMut (tS ws) = true := noMuts_map _ fun _ => rfl
theorem range_pre (f : Nat → Nat → Int) (i q : Nat) : (List.range (q + 1)).map (fun j => D.int (f i j)) = (List.range q).map (fun j => D.int (f i j)) ++ [D.int (f i q)] := by
  rw [List.range_succ, List.map_append]
  rfl
def rowsL (f : Nat → Nat → Int) (m k : Nat) : List D := (List.range k).map fun i => .lst (rowI f m i)
theorem rowsL_succ (f : Nat → Nat → Int) (m k : Nat) : rowsL f m (k + 1) = rowsL f m k ++ [.lst (rowI f m k)] := by
  unfold rowsL
  rw [List.range_succ, List.map_append]
  rfl
theorem min3 (a b c : Nat) : (min (min (a : Int) (b : Int)) (c : Int)) = ((min a (min b c) : Nat) : Int) := by omega
theorem levels_ok : ∀ ds Q, sp_levels ds Q → bodySpec 7 b_levels ds Q := by
  rintro ds Q ⟨bs, ts, rfl, ⟨hb, ht⟩, h⟩
  obtain ⟨f, hf⟩ : ∃ f, f = Li bs ts := ⟨_, rfl⟩
  rw [← hf] at h
  show semS b_levels _ [.sh (tS bs), .sh (tS ts), .no, .no, .no, .no, .no]
  have e0 : rowI f ts.length 0 = (List.range (ts.length + 1)).map fun j : Nat => D.int (2 * (j : Int)) := by
    rw [hf]
    unfold rowI Li
    refine List.map_congr_left fun j _ => ?_
    rw [L0]
    push_cast
    rfl
  show semE (.lst (.cons c_levels_2 .nil)) [.sh (tS bs), .sh (tS ts), .no, .no, .no, .no, .no] fun d => semS _ _ ((aft _ d _).set 2 (newSl _ d))
  simp only [sem_lst, sems_cons, sems_nil, c_levels_2, sem_lc, sem_r1, sem_bin, sem_bf, sem_var, sem_int]
  change optP (some (tS ts)) _
  simp only [optP_some, tS_len, dBin_ai]
  rw [up_nat]
  simp only [int1_int, dItems_l, rangeD_zero]
  refine ⟨by omega, lcD_map (f := fun j : Nat => D.int (2 * (j : Int))) (fun j hj Qt Qf hq => ?_) ?_⟩
  · simp [wipeD]
    refine ⟨?_, hq⟩
    have := List.mem_range.mp hj
    unfold CMul
    omega
  rw [← e0]
  change semS _ _ [.sh (tS bs), .sh (tS ts), .ow (.lst [.lst (rowI f ts.length 0)]), .no, .no, .no, .no]
  refine st_for (fun ds => ds = rangeD 0 (bs.length : Nat)) (by simp [E.monos]) rfl ?_ (by rintro _ rfl; simp) (by simp [S.monos, E.monos, b_levels_1, b_levels_2]) (fun _ k e => ∃ x y z w, e = [.sh (tS bs), .sh (tS ts), .ow (.lst (rowsL f ts.length (k + 1))), x, y, z, w]) ?_ ?_ ?_
  · simp [tS_len]
    omega
  · rintro _ rfl
    exact ⟨_, _, _, _, rfl⟩
  · rintro _ rfl k d e hd ⟨x, y, z, w, rfl⟩
    obtain ⟨hk, rfl⟩ := rangeD_get hd
    show semS b_levels_2 _ [.sh (tS bs), .sh (tS ts), .ow (.lst (rowsL f ts.length (k + 1))), .sh (.int k), y, z, w]
    have z0 : f (k + 1) 0 = 2 * ((k : Int) + 1) := by
      rw [hf]
      unfold Li
      rw [Lz]
      push_cast
      rfl
    refine st_ow (fun ds => ds = (List.range 1).map fun j => D.int (f (k + 1) j)) (by simp [E.monos]) rfl ?_ (by rintro _ rfl; rfl) ?_
    · simp [z0]
      unfold CMul
      omega
    rintro _ rfl
    show semS _ _ [.sh (tS bs), .sh (tS ts), .ow (.lst (rowsL f ts.length (k + 1))), .sh (.int k), .ow (.lst ((List.range 1).map fun j => D.int (f (k + 1) j))), z, w]
    refine st_for (fun ds => ds = rangeD 0 (ts.length : Nat)) (by simp [E.monos]) rfl ?_ (by rintro _ rfl; simp) (by simp [S.monos, E.monos, b_levels_1]) (fun _ q e => ∃ z w, e = [.sh (tS bs), .sh (tS ts), .ow (.lst (rowsL f ts.length (k + 1))), .sh (.int k), .ow (.lst ((List.range (q + 1)).map fun j => D.int (f (k + 1) j))), z, w]) ?_ ?_ ?_
    · simp [tS_len]
      omega
    · rintro _ rfl
      exact ⟨_, _, rfl⟩
    · rintro _ rfl q d e hd ⟨z, w, rfl⟩
      obtain ⟨hq, rfl⟩ := rangeD_get hd
      show semS b_levels_1 _ [.sh (tS bs), .sh (tS ts), .ow (.lst (rowsL f ts.length (k + 1))), .sh (.int k), .ow (.lst ((List.range (q + 1)).map fun j => D.int (f (k + 1) j))), .sh (.int q), w]
      have a1 : L2.atI (rowsL f ts.length (k + 1)) (k : Int) = some (.lst (rowI f ts.length k)) := at_rng (show k < k + 1 by omega)
      have a2 : L2.atI (rowI f ts.length k) (q : Int) = some (.int (f k q)) := at_rng (show q < ts.length + 1 by omega)
      have a3 : L2.atI (rowI f ts.length k) ((q : Int) + 1) = some (.int (f k (q + 1))) := by rw [up_nat]; exact at_rng (show q + 1 < ts.length + 1 by omega)
      have a4 : L2.atI ((List.range (q + 1)).map fun j => D.int (f (k + 1) j)) (q : Int) = some (.int (f (k + 1) q)) := at_rng (show q < q + 1 by omega)
      refine st_sh (fun d => d = .int (f k q + (sc bs ts k q : Nat))) (by simp [E.monos]) ?_ (by rintro _ rfl; rfl) ?_
      · simp [a1, a2, tS, at_gW hk, at_gW hq, shal]
        unfold sc
        by_cases c : gW bs k = gW ts q
        · simp [c]
        · simp [c]
      rintro _ rfl
      show semS _ _ [.sh (tS bs), .sh (tS ts), .ow (.lst (rowsL f ts.length (k + 1))), .sh (.int k), .ow (.lst ((List.range (q + 1)).map fun j => D.int (f (k + 1) j))), .sh (.int q), .sh (.int (f k q + (sc bs ts k q : Nat)))]
      refine st_app (fun d => d = .int (f (k + 1) (q + 1))) (by simp [E.monos]) rfl ?_ (by rintro _ rfl; rfl) (by simp; omega) ?_
      · simp [a1, a3, a4]
        rw [hf]
        unfold Li
        rw [Ls]
        omega
      rintro _ rfl
      refine ⟨.sh (.int q), .sh (.int (f k q + (sc bs ts k q : Nat))), ?_⟩
      rw [range_pre f (k + 1) (q + 1)]
      rfl
    · rintro _ rfl e ⟨z, w, rfl⟩
      rw [rangeD_len]
      show semS (.cons (.app 2 (.var 4)) .nil) _ [.sh (tS bs), .sh (tS ts), .ow (.lst (rowsL f ts.length (k + 1))), .sh (.int k), .ow (.lst (rowI f ts.length (k + 1))), z, w]
      show (rowsL f ts.length (k + 1)).length < 16777216 ∧ _
      refine ⟨by unfold rowsL; rw [List.length_map, List.length_range]; omega, ?_⟩
      exact ⟨.sh (.int k), .sh (.lst (rowI f ts.length (k + 1))), z, w, by rw [rowsL_succ f ts.length (k + 1)]; rfl⟩
  · rintro _ rfl e ⟨x, y, z, w, rfl⟩
    rw [rangeD_len]
    simp [c_levels_1]
    unfold rowsL
    refine lcD_map (f := fun i : Nat => D.tup (rowI f ts.length i)) (fun i hi Qt Qf hq => ?_) h
    simp [wipeD]
    exact hq
theorem rowI_rev {f g : Nat → Nat → Int} {m i k : Nat} (h : ∀ j, j ≤ m → f i (m - j) = g k j) : (rowI f m i).reverse = rowI g m k := by
  unfold rowI
  rw [← List.map_reverse]
  refine List.ext_getElem (by simp) fun j h1 h2 => ?_
  simp at h1 ⊢
  exact h j (by omega)
theorem tab_rev {f g : Nat → D} {n : Nat} (h : ∀ i, i ≤ n → f (n - i) = g i) : ((List.range (n + 1)).map f).reverse = (List.range (n + 1)).map g := by
  rw [← List.map_reverse]
  refine List.ext_getElem (by simp) fun j h1 h2 => ?_
  simp at h1 ⊢
  exact h j (by omega)
theorem rest_ok : ∀ ds Q, sp_rest ds Q → bodySpec 4 b_rest ds Q := by
  rintro ds Q ⟨bs, ts, rfl, ⟨hb, ht⟩, h⟩
  show semS b_rest _ [.sh (tS bs), .sh (tS ts), .no, .no]
  refine st_sh (fun d => d = tab (Li bs.reverse ts.reverse) bs.length ts.length) (by simp [E.monos, spm_levels] <;> (first | exact ⟨rev_mono (by simp [E.monos]), rev_mono (by simp [E.monos])⟩ | skip)) ?_ (by rintro _ rfl; exact nm_tab _ _ _) ?_
  · simp [tS]
    refine ⟨bs.reverse, ts.reverse, by simp [tS], ⟨by simpa using hb, by simpa using ht⟩, by simp⟩
  rintro _ rfl
  show semS _ _ [.sh (tS bs), .sh (tS ts), .sh (tab (Li bs.reverse ts.reverse) bs.length ts.length), .no]
  have e1 : (((List.range (bs.length + 1)).map fun i => D.tup (rowI (Li bs.reverse ts.reverse) ts.length i)).reverse) = (List.range (bs.length + 1)).map fun i => D.tup (rowI (Li bs.reverse ts.reverse) ts.length (bs.length - i)) := tab_rev (g := fun i => D.tup (rowI (Li bs.reverse ts.reverse) ts.length (bs.length - i))) fun i hi => rfl
  simp [c_rest_1, tab]
  rw [e1]
  refine lcD_map (f := fun i : Nat => D.lst (rowI (Ri bs ts) ts.length i)) (fun i hi Qt Qf hq => ?_) h
  have hi := List.mem_range.mp hi
  simp [wipeD]
  rw [rowI_rev (g := Ri bs ts) (k := i) fun j hj => rfl]
  exact hq
end K41

set_option Elab.async false
set_option linter.all false
set_option maxRecDepth 100000
set_option maxHeartbeats 4000000
/-! K41v: the next step; a least alignment; what an alignment costs. -/
namespace K41
open PySem PySem.Spec PyProof.Rows L2 DL FM
open Classical

def q_ns : S :=
(.cons (.iff (.andd (.cmp .Lt (.var 3) (.bf .len (.cons (.var 0) .nil))) (.cmp .Eq (.ix (.ix (.var 2) (.var 3)) (.var 4)) (.bin .Add (.ix (.ix (.var 2) (.bin .Add (.var 3) (.int 1))) (.var 4)) (gdx "COSTS" g_COSTS (.str "drop")))))
(.cons (.ret (.str "drop"))
.nil)
.nil)
(.cons (.ret (.str "add"))
.nil))
theorem at_tabL {f : Nat → Nat → Int} {n m i : Nat} (h : i ≤ n) : L2.atI ((List.range (n + 1)).map fun i => D.lst (rowI f m i)) (i : Int) = some (.lst (rowI f m i)) := at_rng (show i < n + 1 by omega)
theorem at_rowI {f : Nat → Nat → Int} {m i j : Nat} (h : j ≤ m) : L2.atI (rowI f m i) (j : Int) = some (.int (f i j)) := at_rng (show j < m + 1 by omega)
theorem next_step_ok : ∀ ds Q, sp_next_step ds Q → bodySpec 6 b_next_step ds Q := by
  rintro ds Q ⟨bs, ts, i, j, rfl, ⟨⟨hb, ht⟩, hi, hj, hij⟩, h⟩
  show semS b_next_step _ [.sh (tS bs), .sh (tS ts), .sh (tabL (Ri bs ts) bs.length ts.length), .sh (.int i), .sh (.int j), .no]
  have a0 := at_tabL (f := Ri bs ts) (m := ts.length) hi
  have b0 := at_rowI (f := Ri bs ts) (i := i) hj
  have rest : ∀ x : Sl, ¬ (i < bs.length ∧ j < ts.length ∧ R bs ts i j = R bs ts (i + 1) (j + 1) + sc bs ts i j) → semS q_ns { nx := fun _ => Q .non, rt := Q } [.sh (tS bs), .sh (tS ts), .sh (tabL (Ri bs ts) bs.length ts.length), .sh (.int i), .sh (.int j), x] := by
    intro x c1
    have hn : nxt bs ts i j = if i < bs.length ∧ R bs ts i j = R bs ts (i + 1) j + 2 then ("drop" : Str) else "add" := by
      unfold nxt
      rw [if_neg c1]
    rw [hn] at h
    refine st_if (fun t => t = decide (i < bs.length ∧ R bs ts i j = R bs ts (i + 1) j + 2)) (by simp [E.monos] <;> exact gdx_mono (by simp [E.monos])) ?_ (fun z => ?_) (fun z => ?_)
    · by_cases q : i < bs.length
      · have a1 := at_tabL (f := Ri bs ts) (m := ts.length) (show i + 1 ≤ bs.length by omega)
        have b1 := at_rowI (f := Ri bs ts) (i := i + 1) hj
        simp [tS_len, q, tabL, a0, b0]
        refine ⟨_, by rw [up_nat]; exact a1, ?_⟩
        simp [b1]
        refine ⟨2, by simp [g_COSTS], ?_⟩
        unfold Ri
        omega
      · have q' : ¬ (i : Int) < bs.length := by omega
        simp [tS_len, q, q']
    · have z := of_decide_eq_true z.symm
      rw [if_pos z] at h
      simp
      exact h
    · have z := of_decide_eq_false z.symm
      rw [if_neg z] at h
      simp
      exact h
  refine st_if (fun t => t = decide (i < bs.length ∧ j < ts.length)) (by simp [E.monos]) ?_ (fun z => ?_) (fun z => ?_)
  · by_cases q : i < bs.length
    · simp [tS_len, q]
    · have q' : ¬ (i : Int) < bs.length := by omega
      simp [tS_len, q, q']
  · obtain ⟨q1, q2⟩ := of_decide_eq_true z.symm
    have a1 := at_tabL (f := Ri bs ts) (m := ts.length) (show i + 1 ≤ bs.length by omega)
    have b1 := at_rowI (f := Ri bs ts) (i := i + 1) (show j + 1 ≤ ts.length by omega)
    refine st_sh (fun d => d = .str (if gW bs i = gW ts j then ("keep" : Str) else "change")) (by simp [E.monos]) ?_ (by rintro _ rfl; rfl) ?_
    · simp [tS, at_gW q1, at_gW q2, shal]
      by_cases c : gW bs i = gW ts j
      · simp [c]
      · simp [c]
    rintro _ rfl
    show semS _ _ [.sh (tS bs), .sh (tS ts), .sh (tabL (Ri bs ts) bs.length ts.length), .sh (.int i), .sh (.int j), .sh (.str (if gW bs i = gW ts j then ("keep" : Str) else "change"))]
    have hm : ((if gW bs i = gW ts j then ("keep" : Str) else "change"), ((sc bs ts i j : Nat) : Int)) ∈ g_COSTS := by
      unfold sc
      by_cases c : gW bs i = gW ts j
      · simp [c, g_COSTS]
      · simp [c, g_COSTS]
    refine st_if (fun t => t = decide (R bs ts i j = R bs ts (i + 1) (j + 1) + sc bs ts i j)) (by simp [E.monos] <;> exact gdx_mono (by simp [E.monos])) ?_ (fun z => ?_) (fun z => ?_)
    · simp [tabL, a0, b0]
      refine ⟨_, by rw [up_nat]; exact a1, ?_⟩
      simp
      refine ⟨_, by rw [up_nat]; exact b1, ?_⟩
      simp
      refine ⟨_, hm, ?_⟩
      unfold Ri
      omega
    · have z := of_decide_eq_true z.symm
      unfold nxt at h
      rw [if_pos ⟨q1, q2, z⟩] at h
      simp
      exact h
    · have z := of_decide_eq_false z.symm
      exact rest _ fun c => z c.2.2
  · have z := of_decide_eq_false z.symm
    exact rest _ fun c => z ⟨c.1, c.2.1⟩
theorem isStep_ne {s : Str} (h : isStep s) : (s = "add" → s ≠ "drop") := by
  rintro rfl
  decide
theorem stp_inc {bs ts : List Str} {i j : Nat} {s : Str} {p : Nat × Nat} (h : stp bs ts i j s = some p) : p.1 = i + (if s = "add" then 0 else 1) ∧ p.2 = j + (if s = "drop" then 0 else 1) ∧ p.1 ≤ max i bs.length ∧ p.2 ≤ max j ts.length := by
  rcases stp_some h with ⟨rfl, h1, h2, _, rfl⟩ | ⟨rfl, h1, h2, _, rfl⟩ | ⟨rfl, h1, rfl⟩ | ⟨rfl, h1, rfl⟩
  · exact ⟨rfl, rfl, by simp; omega, by simp; omega⟩
  · exact ⟨rfl, rfl, by simp; omega, by simp; omega⟩
  · exact ⟨rfl, rfl, by simp; omega, by simp; omega⟩
  · exact ⟨rfl, rfl, by simp; omega, by simp; omega⟩
theorem stp_up {bs ts : List Str} {i j : Nat} {s : Str} {p : Nat × Nat} (h : stp bs ts i j s = some p) : i + j < p.1 + p.2 := by
  rcases stp_some h with ⟨rfl, h1, h2, _, rfl⟩ | ⟨rfl, h1, h2, _, rfl⟩ | ⟨rfl, h1, rfl⟩ | ⟨rfl, h1, rfl⟩
  all_goals simp <;> omega
theorem aligned_ok : ∀ ds Q, sp_aligned ds Q → bodySpec 7 b_aligned ds Q := by
  rintro ds Q ⟨bs, ts, rfl, ⟨hb, ht⟩, h⟩
  show semS b_aligned _ [.sh (tS bs), .sh (tS ts), .no, .no, .no, .no, .no]
  refine st_asgR (fun d => d = tabL (Ri bs ts) bs.length ts.length) (by simp [E.monos, spm_rest]) ?_ ?_
  · simp
    exact ⟨bs, ts, rfl, ⟨hb, ht⟩, rfl⟩
  rintro _ rfl e1 R1
  have r0 : rdv e1 0 = some (tS bs) := (R1.rd 0 (by decide)).trans rfl
  have r1 : rdv e1 1 = some (tS ts) := (R1.rd 1 (by decide)).trans rfl
  have r2 := R1.at_ (by simp)
  have l1 : e1.length = 7 := R1.len
  refine st_ow (fun ds => ds = []) (by simp [E.monos]) rfl (by simp) (by rintro _ rfl; rfl) ?_
  rintro _ rfl
  obtain ⟨e2, he2⟩ : ∃ e2, e2 = e1.set 3 (.ow (.lst [])) := ⟨_, rfl⟩
  rw [← he2]
  have l2 : e2.length = 7 := by rw [he2, List.length_set]; exact l1
  have s0 : rdv e2 0 = some (tS bs) := by rw [he2]; exact (rdv_set_ne (by decide)).trans r0
  have s1 : rdv e2 1 = some (tS ts) := by rw [he2]; exact (rdv_set_ne (by decide)).trans r1
  have s2 : rdv e2 2 = some (tabL (Ri bs ts) bs.length ts.length) := by rw [he2]; exact (rdv_set_ne (by decide)).trans r2
  have s3 : e2[3]? = some (.ow (.lst [])) := by rw [he2]; exact List.getElem?_set_self (by omega)
  clear he2
  -- the two places
  have two : ∀ (en : DEnds) (r : S), (∀ e, e.length = 7 → rdv e 0 = some (tS bs) → rdv e 1 = some (tS ts) → rdv e 2 = some (tabL (Ri bs ts) bs.length ts.length) → e[3]? = some (.ow (.lst [])) → rdv e 4 = some (.int 0) → rdv e 5 = some (.int 0) → semS r en e) → semS (.cons (asgC (.tup (.cons (.var 4) (.cons (.var 5) .nil))) (.tup (.cons (.int 0) (.cons (.int 0) .nil)))) r) en e2 := by
    intro en r k
    show semS r en ((e2.set 4 (.sh (.int 0))).set 5 (.sh (.int 0)))
    exact k _ (by rw [List.length_set, List.length_set]; exact l2) (by rw [rdv_set_ne (by decide), rdv_set_ne (by decide)]; exact s0) (by rw [rdv_set_ne (by decide), rdv_set_ne (by decide)]; exact s1) (by rw [rdv_set_ne (by decide), rdv_set_ne (by decide)]; exact s2)
      (by rw [List.getElem?_set_ne (by decide), List.getElem?_set_ne (by decide)]; exact s3) (by rw [rdv_set_ne (by decide)]; exact rdv_set_eq (by omega)) (rdv_set_eq (by rw [List.length_set]; omega))
  refine two _ _ fun e3 l3 u0 u1 u2 u3 u4 u5 => ?_
  refine st_whlR (by simp [E.monos, t_aligned_1]) (by simp [S.monos, E.monos, b_aligned_1, spm_next_step]) (fun m e => ∃ (ss : List Str) (i j : Nat), e.length = 7 ∧ rdv e 0 = some (tS bs) ∧ rdv e 1 = some (tS ts) ∧ rdv e 2 = some (tabL (Ri bs ts) bs.length ts.length) ∧ e[3]? = some (.ow (.lst (ss.map D.str))) ∧ rdv e 4 = some (.int i) ∧ rdv e 5 = some (.int j) ∧
      i ≤ bs.length ∧ j ≤ ts.length ∧ go bs ts ss 0 0 = some (i, j) ∧ cost ss + R bs ts i j = R bs ts 0 0 ∧ ss.length ≤ i + j ∧ m = bs.length + ts.length - (i + j)) (bs.length + ts.length) ⟨[], 0, 0, l3, u0, u1, u2, u3, u4, u5, by omega, by omega, rfl, by simp [cost], by simp, by omega⟩ ?_
  rintro m e ⟨ss, i, j, l, r0, r1, r2, o3, r4, r5, hi, hj, hg, hc, hl, rfl⟩
  have key : semE t_aligned_1 e fun d => d = .bl (decide (i < bs.length ∨ j < ts.length)) := by
    simp [t_aligned_1, r0, r1, r4, r5, tS_len]
    by_cases q : i < bs.length
    · simp [q]
    · have q' : ¬ (i : Int) < bs.length := by omega
      simp [q, q']
  refine sem_le (by simp [E.monos, t_aligned_1]) key ?_
  rintro _ rfl
  refine ⟨_, rfl, fun hg1 => ?_, fun hg1 => ?_⟩
  · have hij := of_decide_eq_true hg1
    refine ⟨by omega, ?_⟩
    obtain ⟨p, hp, hR⟩ := nxt_ok hi hj hij
    have hinc := stp_inc hp
    have hup := stp_up hp
    refine st_sh (fun d => d = .str (nxt bs ts i j)) (by simp [E.monos, spm_next_step]) ?_ (by rintro _ rfl; rfl) ?_
    · simp [r0, r1, r2, r4, r5]
      exact ⟨bs, ts, i, j, rfl, ⟨⟨hb, ht⟩, hi, hj, hij⟩, rfl⟩
    rintro _ rfl
    obtain ⟨e1, he1⟩ : ∃ e1, e1 = e.set 6 (.sh (.str (nxt bs ts i j))) := ⟨_, rfl⟩
    rw [← he1]
    have k1 : e1.length = 7 := by rw [he1, List.length_set]; exact l
    have k : ∀ j, j ≠ 6 → rdv e1 j = rdv e j := fun j hj => by rw [he1]; exact rdv_set_ne (Ne.symm hj)
    have k6 : rdv e1 6 = some (.str (nxt bs ts i j)) := by rw [he1]; exact rdv_set_eq (by omega)
    have k3 : e1[3]? = some (.ow (.lst (ss.map D.str))) := by rw [he1, List.getElem?_set_ne (by decide)]; exact o3
    clear he1
    refine st_app (fun d => d = .str (nxt bs ts i j)) (by simp [E.monos]) k3 (by simp [k6]) (by rintro _ rfl; rfl) (by rw [List.length_map]; omega) ?_
    rintro _ rfl
    obtain ⟨e2, he2⟩ : ∃ e2, e2 = e1.set 3 (.ow (.lst (ss.map D.str ++ [.str (nxt bs ts i j)]))) := ⟨_, rfl⟩
    rw [← he2]
    have m1 : e2.length = 7 := by rw [he2, List.length_set]; exact k1
    have mk : ∀ j, j ≠ 3 → rdv e2 j = rdv e1 j := fun j hj => by rw [he2]; exact rdv_set_ne (Ne.symm hj)
    have m3 : e2[3]? = some (.ow (.lst ((ss ++ [nxt bs ts i j]).map D.str))) := by
      rw [he2, List.getElem?_set_self (by omega)]
      simp
    clear he2
    refine st_sh (fun d => d = .int (p.1 : Nat)) (by simp [E.monos]) ?_ (by rintro _ rfl; rfl) ?_
    · simp [mk 4 (by decide), mk 6 (by decide), k 4 (by decide), k6, r4, shal]
      rw [hinc.1]
      by_cases c : nxt bs ts i j = "add"
      · simp [c]
      · simp [c]
    rintro _ rfl
    refine st_sh (fun d => d = .int (p.2 : Nat)) (by simp [E.monos]) ?_ (by rintro _ rfl; rfl) ?_
    · simp only [sem_bin, sem_var, sem_bf, sems_cons, sems_nil, sem_cmp, sem_str, rdv_set_ne (show (4 : Nat) ≠ 5 by decide), rdv_set_ne (show (4 : Nat) ≠ 6 by decide), mk 5 (by decide), mk 6 (by decide), k 5 (by decide), k6, r5, optP_some]
      simp [shal]
      rw [hinc.2.1]
      by_cases c : nxt bs ts i j = "drop"
      · simp [c]
      · simp [c]
    rintro _ rfl
    refine ⟨bs.length + ts.length - (p.1 + p.2), by omega, ss ++ [nxt bs ts i j], p.1, p.2, by rw [List.length_set, List.length_set]; exact m1, ?_, ?_, ?_, ?_, ?_, ?_, by omega, by omega, ?_, ?_, ?_, rfl⟩
    · rw [rdv_set_ne (by decide), rdv_set_ne (by decide), mk 0 (by decide), k 0 (by decide)]; exact r0
    · rw [rdv_set_ne (by decide), rdv_set_ne (by decide), mk 1 (by decide), k 1 (by decide)]; exact r1
    · rw [rdv_set_ne (by decide), rdv_set_ne (by decide), mk 2 (by decide), k 2 (by decide)]; exact r2
    · rw [List.getElem?_set_ne (by decide), List.getElem?_set_ne (by decide)]; exact m3
    · rw [rdv_set_ne (by decide)]; exact rdv_set_eq (by omega)
    · exact rdv_set_eq (by rw [List.length_set]; omega)
    · rw [go_app hg, go_cons hp]
      rfl
    · rw [cost_snoc]
      omega
    · rw [List.length_append, List.length_singleton]
      omega
  · have hij := of_decide_eq_false hg1
    have ei : i = bs.length := by omega
    have ej : j = ts.length := by omega
    subst ei ej
    rw [R_end] at hc
    have o3' : rdv e 3 = some (.lst (ss.map D.str)) := by
      unfold rdv
      rw [o3]
      rfl
    simp [o3']
    exact h ss (opt_of hg (by omega)) hl
theorem cst_mem {s : Str} (h : isStep s) : (s, ((cst s : Nat) : Int)) ∈ g_COSTS := by
  rcases h with rfl | rfl | rfl | rfl
  · rw [cst_keep]; simp [g_COSTS]
  · rw [cst_change]; simp [g_COSTS]
  · rw [cst_drop]; simp [g_COSTS]
  · rw [cst_add]; simp [g_COSTS]
theorem sum_cast : ∀ l : List Nat, (l.map fun k : Nat => (k : Int)).sum = (l.sum : Nat)
  | [] => rfl
  | x :: l => by
    rw [List.map_cons, List.sum_cons, List.sum_cons, sum_cast l]
    push_cast
    rfl
theorem cost_of_ok : ∀ ds Q, sp_cost_of ds Q → bodySpec 2 b_cost_of ds Q := by
  rintro ds Q ⟨ss, rfl, ⟨hl, hs⟩, h⟩
  show semS b_cost_of _ [.sh (tS ss), .no]
  simp [b_cost_of, c_cost_of_1, tS]
  refine lcD_map (f := fun s : Str => D.int (cst s : Nat)) (fun s hm Qt Qf hq => ?_) ?_
  · simp [wipeD]
    exact ⟨_, cst_mem (hs s hm), hq⟩
  · refine ⟨ss.map fun s => ((cst s : Nat) : Int), by rw [List.map_map]; rfl, ?_⟩
    have : (ss.map fun s => ((cst s : Nat) : Int)).sum = (cost ss : Nat) := by
      unfold cost
      rw [← sum_cast, List.map_map]
      rfl
    rw [this]
    exact h
end K41

set_option Elab.async false
set_option linter.all false
set_option maxRecDepth 100000
set_option maxHeartbeats 4000000
/-! K40p: all alignments, the first least one. -/
namespace K40
open PySem PySem.Spec PyProof.Rows L2 DL FM
open K41 (gW gW_at sc L R cst stp go nxt R_s R_e R_f R_end stp_keep stp_change stp_drop stp_add Opt opt_of)
open Classical

def sg (b t : Str) : Nat := if b = t then 0 else 3
def kd (b t : Str) : Nat := if b = t then 0 else 1
def C : List Str → List Str → Nat
  | [], [] => 0
  | _ :: bs, [] => C bs [] + 2
  | [], _ :: ts => C [] ts + 2
  | b :: bs, t :: ts => min (C bs ts + sg b t) (min (C bs (t :: ts) + 2) (C (b :: bs) ts + 2))
termination_by bs ts => bs.length + ts.length
def all : List Str → List Str → List (List Nat)
  | [], [] => [[]]
  | _ :: bs, [] => (all bs []).map (2 :: ·)
  | [], _ :: ts => (all [] ts).map (3 :: ·)
  | b :: bs, t :: ts => (all bs ts).map (kd b t :: ·) ++ ((all bs (t :: ts)).map (2 :: ·) ++ (all (b :: bs) ts).map (3 :: ·))
termination_by bs ts => bs.length + ts.length
def fst : List Str → List Str → List Nat
  | [], [] => []
  | _ :: bs, [] => 2 :: fst bs []
  | [], _ :: ts => 3 :: fst [] ts
  | b :: bs, t :: ts => if C (b :: bs) (t :: ts) = C bs ts + sg b t then kd b t :: fst bs ts
    else if C (b :: bs) (t :: ts) = C bs (t :: ts) + 2 then 2 :: fst bs (t :: ts) else 3 :: fst (b :: bs) ts
termination_by bs ts => bs.length + ts.length
def wc (k : Nat) : Nat := if k = 0 then 0 else if k = 1 then 3 else 2
def wor (r : List Nat) : Nat := (r.map wc).sum
theorem wor_c (k : Nat) (r : List Nat) : wor (k :: r) = wc k + wor r := by
  unfold wor
  rw [List.map_cons, List.sum_cons]
theorem wc_kd (b t : Str) : wc (kd b t) = sg b t := by
  unfold kd sg wc
  split <;> rfl
def lt : List Nat → List Nat → Prop
  | _, [] => False
  | [], _ :: _ => True
  | a :: as, b :: bs => a < b ∨ (a = b ∧ lt as bs)
theorem kd_lt (b t : Str) : kd b t < 2 := by
  unfold kd
  split <;> omega
theorem C_ge : ∀ bs ts, ∀ r ∈ all bs ts, C bs ts ≤ wor r
  | [], [], r, h => by rw [C]; omega
  | b :: bs, [], r, h => by
    rw [all] at h
    obtain ⟨r', h', rfl⟩ := List.mem_map.mp h
    have := C_ge bs [] r' h'
    rw [C, wor_c]
    have : wc 2 = 2 := rfl
    omega
  | [], t :: ts, r, h => by
    rw [all] at h
    obtain ⟨r', h', rfl⟩ := List.mem_map.mp h
    have := C_ge [] ts r' h'
    rw [C, wor_c]
    have : wc 3 = 2 := rfl
    omega
  | b :: bs, t :: ts, r, h => by
    rw [all] at h
    have w2 : wc 2 = 2 := rfl
    have w3 : wc 3 = 2 := rfl
    have wk := wc_kd b t
    rw [C]
    rcases List.mem_append.mp h with h | h
    · obtain ⟨r', h', rfl⟩ := List.mem_map.mp h
      have := C_ge bs ts r' h'
      rw [wor_c]
      omega
    rcases List.mem_append.mp h with h | h
    · obtain ⟨r', h', rfl⟩ := List.mem_map.mp h
      have := C_ge bs (t :: ts) r' h'
      rw [wor_c]
      omega
    · obtain ⟨r', h', rfl⟩ := List.mem_map.mp h
      have := C_ge (b :: bs) ts r' h'
      rw [wor_c]
      omega
termination_by bs ts => bs.length + ts.length
theorem fst_mem : ∀ bs ts, fst bs ts ∈ all bs ts ∧ wor (fst bs ts) = C bs ts
  | [], [] => by
    rw [fst, all, C]
    exact ⟨List.mem_singleton.mpr rfl, rfl⟩
  | b :: bs, [] => by
    obtain ⟨h1, h2⟩ := fst_mem bs []
    rw [fst, all, C, wor_c, h2]
    exact ⟨List.mem_map.mpr ⟨_, h1, rfl⟩, by show 2 + _ = _; omega⟩
  | [], t :: ts => by
    obtain ⟨h1, h2⟩ := fst_mem [] ts
    rw [fst, all, C, wor_c, h2]
    exact ⟨List.mem_map.mpr ⟨_, h1, rfl⟩, by show 2 + _ = _; omega⟩
  | b :: bs, t :: ts => by
    rw [fst, all]
    split
    · rename_i q
      obtain ⟨h1, h2⟩ := fst_mem bs ts
      rw [wor_c, h2, wc_kd, q]
      exact ⟨List.mem_append_left _ (List.mem_map.mpr ⟨_, h1, rfl⟩), by omega⟩
    · rename_i q
      split
      · rename_i q2
        obtain ⟨h1, h2⟩ := fst_mem bs (t :: ts)
        rw [wor_c, h2, q2]
        exact ⟨List.mem_append_right _ (List.mem_append_left _ (List.mem_map.mpr ⟨_, h1, rfl⟩)), by show 2 + _ = _; omega⟩
      · rename_i q2
        obtain ⟨h1, h2⟩ := fst_mem (b :: bs) ts
        have e := C.eq_4 b bs t ts
        rw [wor_c, h2]
        refine ⟨List.mem_append_right _ (List.mem_append_right _ (List.mem_map.mpr ⟨_, h1, rfl⟩)), ?_⟩
        show 2 + _ = _
        omega
termination_by bs ts => bs.length + ts.length
theorem fst_least : ∀ bs ts, ∀ r ∈ all bs ts, wor r = C bs ts → r = fst bs ts ∨ lt (fst bs ts) r
  | [], [], r, h, _ => by
    rw [all] at h
    rw [fst]
    exact .inl (List.mem_singleton.mp h)
  | b :: bs, [], r, h, e => by
    rw [all] at h
    obtain ⟨r', h', rfl⟩ := List.mem_map.mp h
    rw [C, wor_c] at e
    have : wc 2 = 2 := rfl
    rw [fst]
    rcases fst_least bs [] r' h' (by omega) with rfl | q
    · exact .inl rfl
    · exact .inr (.inr ⟨rfl, q⟩)
  | [], t :: ts, r, h, e => by
    rw [all] at h
    obtain ⟨r', h', rfl⟩ := List.mem_map.mp h
    rw [C, wor_c] at e
    have : wc 3 = 2 := rfl
    rw [fst]
    rcases fst_least [] ts r' h' (by omega) with rfl | q
    · exact .inl rfl
    · exact .inr (.inr ⟨rfl, q⟩)
  | b :: bs, t :: ts, r, h, e => by
    rw [all] at h
    have w2 : wc 2 = 2 := rfl
    have w3 : wc 3 = 2 := rfl
    have wk := wc_kd b t
    have ce := C.eq_4 b bs t ts
    have kl := kd_lt b t
    rw [fst]
    rcases List.mem_append.mp h with h | h
    · obtain ⟨r', h', rfl⟩ := List.mem_map.mp h
      have g := C_ge bs ts r' h'
      rw [wor_c] at e
      rw [if_pos (by omega)]
      rcases fst_least bs ts r' h' (by omega) with rfl | q
      · exact .inl rfl
      · exact .inr (.inr ⟨rfl, q⟩)
    rcases List.mem_append.mp h with h | h
    · obtain ⟨r', h', rfl⟩ := List.mem_map.mp h
      have g := C_ge bs (t :: ts) r' h'
      rw [wor_c] at e
      split
      · exact .inr (.inl kl)
      · rw [if_pos (by omega)]
        rcases fst_least bs (t :: ts) r' h' (by omega) with rfl | q
        · exact .inl rfl
        · exact .inr (.inr ⟨rfl, q⟩)
    · obtain ⟨r', h', rfl⟩ := List.mem_map.mp h
      have g := C_ge (b :: bs) ts r' h'
      rw [wor_c] at e
      split
      · exact .inr (.inl (by omega))
      · split
        · exact .inr (.inl (by omega))
        · rcases fst_least (b :: bs) ts r' h' (by omega) with rfl | q
          · exact .inl rfl
          · exact .inr (.inr ⟨rfl, q⟩)
termination_by bs ts => bs.length + ts.length
theorem all_len : ∀ bs ts, (all bs ts).length ≤ 3 ^ (bs.length + ts.length)
  | [], [] => by rw [all]; exact Nat.le_refl _
  | b :: bs, [] => by
    have := all_len bs []
    rw [all, List.length_map]
    refine Nat.le_trans this (Nat.pow_le_pow_right (by omega) ?_)
    simp
  | [], t :: ts => by
    have := all_len [] ts
    rw [all, List.length_map]
    refine Nat.le_trans this (Nat.pow_le_pow_right (by omega) ?_)
    simp
  | b :: bs, t :: ts => by
    have h1 := all_len bs ts
    have h2 := all_len bs (t :: ts)
    have h3 := all_len (b :: bs) ts
    rw [all, List.length_append, List.length_append, List.length_map, List.length_map, List.length_map]
    rw [List.length_cons] at h2 h3 ⊢
    rw [List.length_cons]
    have e1 : 3 ^ (bs.length + ts.length) ≤ 3 ^ (bs.length + 1 + ts.length) := Nat.pow_le_pow_right (by omega) (by omega)
    have e2 : bs.length + (ts.length + 1) = bs.length + 1 + ts.length := by omega
    rw [e2] at h2
    have e3 : 3 ^ (bs.length + 1 + (ts.length + 1)) = 3 * 3 ^ (bs.length + 1 + ts.length) := by
      rw [show bs.length + 1 + (ts.length + 1) = (bs.length + 1 + ts.length) + 1 by omega, Nat.pow_succ]
      omega
    rw [e3]
    omega
termination_by bs ts => bs.length + ts.length
theorem all_row : ∀ bs ts, ∀ r ∈ all bs ts, r.length ≤ bs.length + ts.length ∧ ∀ k ∈ r, k < 4
  | [], [], r, h => by
    rw [all] at h
    rw [List.mem_singleton.mp h]
    exact ⟨Nat.le_refl _, fun k hk => nomatch hk⟩
  | b :: bs, [], r, h => by
    rw [all] at h
    obtain ⟨r', h', rfl⟩ := List.mem_map.mp h
    obtain ⟨a, c⟩ := all_row bs [] r' h'
    refine ⟨by simp at a ⊢; omega, fun k hk => ?_⟩
    rcases List.mem_cons.mp hk with rfl | hk
    · omega
    · exact c k hk
  | [], t :: ts, r, h => by
    rw [all] at h
    obtain ⟨r', h', rfl⟩ := List.mem_map.mp h
    obtain ⟨a, c⟩ := all_row [] ts r' h'
    refine ⟨by simp at a ⊢; omega, fun k hk => ?_⟩
    rcases List.mem_cons.mp hk with rfl | hk
    · omega
    · exact c k hk
  | b :: bs, t :: ts, r, h => by
    rw [all] at h
    have kl := kd_lt b t
    have go : ∀ (k : Nat) (r' : List Nat) (N : Nat), k < 4 → r'.length ≤ N → (∀ x ∈ r', x < 4) → N + 1 ≤ (b :: bs).length + (t :: ts).length → (k :: r').length ≤ (b :: bs).length + (t :: ts).length ∧ ∀ x ∈ k :: r', x < 4 := fun k r' N h1 h2 h3 h4 => by
      refine ⟨by rw [List.length_cons]; omega, fun x hx => ?_⟩
      rcases List.mem_cons.mp hx with rfl | hx
      · exact h1
      · exact h3 x hx
    rcases List.mem_append.mp h with h | h
    · obtain ⟨r', h', rfl⟩ := List.mem_map.mp h
      obtain ⟨a, c⟩ := all_row bs ts r' h'
      exact go _ _ _ (by omega) a c (by simp; omega)
    rcases List.mem_append.mp h with h | h
    · obtain ⟨r', h', rfl⟩ := List.mem_map.mp h
      obtain ⟨a, c⟩ := all_row bs (t :: ts) r' h'
      exact go _ _ _ (by omega) a c (by simp; omega)
    · obtain ⟨r', h', rfl⟩ := List.mem_map.mp h
      obtain ⟨a, c⟩ := all_row (b :: bs) ts r' h'
      exact go _ _ _ (by omega) a c (by simp; omega)
termination_by bs ts => bs.length + ts.length
/-! ### the same by places -/
section
variable {bs ts : List Str}
theorem drop_gW {ws : List Str} {k : Nat} (h : k < ws.length) : ws.drop k = gW ws k :: ws.drop (k + 1) := by
  rw [List.drop_eq_getElem_cons h, K41.gW_get h]
theorem R_C : ∀ (n i j : Nat), i ≤ bs.length → j ≤ ts.length → (bs.length - i) + (ts.length - j) ≤ n → R bs ts i j = C (bs.drop i) (ts.drop j) := by
  intro n
  induction n with
  | zero =>
    intro i j hi hj h
    have e1 : i = bs.length := by omega
    have e2 : j = ts.length := by omega
    subst e1 e2
    rw [R_end, List.drop_length, List.drop_length, C]
  | succ n ih =>
    intro i j hi hj h
    by_cases q : i < bs.length
    · by_cases q2 : j < ts.length
      · rw [R_s q q2, ih (i + 1) (j + 1) (by omega) (by omega) (by omega), ih (i + 1) j (by omega) hj (by omega), ih i (j + 1) hi (by omega) (by omega), drop_gW q, drop_gW q2, C]
        rfl
      · have e2 : j = ts.length := by omega
        subst e2
        rw [R_e q, ih (i + 1) _ (by omega) (Nat.le_refl _) (by omega), drop_gW q, List.drop_length, C]
    · have e1 : i = bs.length := by omega
      subst e1
      by_cases q2 : j < ts.length
      · rw [R_f q2, ih _ (j + 1) (Nat.le_refl _) (by omega) (by omega), drop_gW q2, List.drop_length, C]
      · have e2 : j = ts.length := by omega
        subst e2
        rw [R_end, List.drop_length, List.drop_length, C]
def nm (k : Nat) : Str := if k = 0 then "keep" else if k = 1 then "change" else if k = 2 then "drop" else "add"
def W (bs ts : List Str) (i j : Nat) : List Str := (fst (bs.drop i) (ts.drop j)).map nm
theorem W_end : W bs ts bs.length ts.length = [] := by
  unfold W
  rw [List.drop_length, List.drop_length, fst]
  rfl
theorem nm_kd {b t : Str} : nm (kd b t) = if b = t then "keep" else "change" := by
  unfold kd nm
  split <;> rfl
theorem W_step {i j : Nat} (hi : i ≤ bs.length) (hj : j ≤ ts.length) (h : i < bs.length ∨ j < ts.length) : ∃ p : Nat × Nat, stp bs ts i j (nxt bs ts i j) = some p ∧ W bs ts i j = nxt bs ts i j :: W bs ts p.1 p.2 := by
  have rc := fun i j hi hj => R_C (bs := bs) (ts := ts) _ i j hi hj (Nat.le_refl _)
  unfold nxt
  by_cases q : i < bs.length
  · by_cases q2 : j < ts.length
    · have e0 : W bs ts i j = (fst (gW bs i :: bs.drop (i + 1)) (gW ts j :: ts.drop (j + 1))).map nm := by
        unfold W
        rw [drop_gW q, drop_gW q2]
      have c0 := rc i j hi hj
      have c1 := rc (i + 1) (j + 1) (by omega) (by omega)
      have c2 := rc (i + 1) j (by omega) hj
      rw [drop_gW q, drop_gW q2] at c0
      rw [drop_gW q2] at c2
      have es : sg (gW bs i) (gW ts j) = sc bs ts i j := rfl
      rw [e0, fst, ← c0, ← c1, ← c2, es]
      by_cases z : R bs ts i j = R bs ts (i + 1) (j + 1) + sc bs ts i j
      · rw [if_pos z, if_pos ⟨q, q2, z⟩]
        by_cases y : gW bs i = gW ts j
        · rw [if_pos y]
          refine ⟨_, stp_keep q q2 y, ?_⟩
          rw [List.map_cons, nm_kd, if_pos y]
          rfl
        · rw [if_neg y]
          refine ⟨_, stp_change q q2 y, ?_⟩
          rw [List.map_cons, nm_kd, if_neg y]
          rfl
      · rw [if_neg z, if_neg fun w => z w.2.2]
        by_cases y : R bs ts i j = R bs ts (i + 1) j + 2
        · rw [if_pos y, if_pos ⟨q, y⟩]
          refine ⟨_, stp_drop q, ?_⟩
          unfold W
          rw [drop_gW q2]
          rfl
        · rw [if_neg y, if_neg fun w => y w.2]
          refine ⟨_, stp_add q2, ?_⟩
          unfold W
          rw [drop_gW q]
          rfl
    · have e2 : j = ts.length := by omega
      subst e2
      rw [if_neg fun w => q2 w.2.1, if_pos ⟨q, R_e q⟩]
      refine ⟨_, stp_drop q, ?_⟩
      unfold W
      rw [drop_gW q, List.drop_length, fst]
      rfl
  · have e1 : i = bs.length := by omega
    subst e1
    have q2 : j < ts.length := by omega
    rw [if_neg fun w => q w.1, if_neg fun w => q w.1]
    refine ⟨_, stp_add q2, ?_⟩
    unfold W
    rw [drop_gW q2, List.drop_length, fst]
    rfl
end
end K40

set_option Elab.async false
set_option linter.all false
set_option maxRecDepth 100000
set_option maxHeartbeats 4000000
/-! K40m: the defs of k40 by data. -/
namespace K40
open PySem PySem.Spec PyProof.Rows L2 DL FM
open K41 (g_COSTS tS rowI tab tabL Li Ri ok2 isStep L R nxt sp_levels sp_rest sp_next_step sp_cost_of spm_levels spm_rest spm_next_step spm_cost_of)
open Classical

def nI (l : List Nat) : List D := l.map fun (k : Nat) => D.int k
def tN (l : List Nat) : D := .tup (nI l)
/-- what is saved -/
def Vi (bs ts : List Str) (i j : Nat) : Int := 2 * ((bs.length - i : Nat) + (ts.length - j : Nat) : Int) - (R bs ts i j : Nat)
def sp_cost : DSpec := fun ds Q => ∃ bs ts : List Str, ds = [tS bs, tS ts] ∧ ok2 bs ts ∧ Q (.int (L bs ts bs.length ts.length : Nat))
def sp_aligned : DSpec := fun ds Q => ∃ bs ts : List Str, ds = [tS bs, tS ts] ∧ ok2 bs ts ∧ Q (tS (W bs ts 0 0))
def sp_l_texts : DSpec := fun ds Q => ∃ n : Nat, ds = [.tape true, .int n] ∧ (1 ≤ n ∧ n ≤ 40) ∧ ∀ bs ts : List Str, bs.length ≤ n → ts.length ≤ n → Q (.tup [tS bs, tS ts])
def spr_l_all : Nat → DSpec
  | 0 => fun _ _ => False
  | n + 1 => fun ds Q => ∃ bs ts : List Str, ds = [tS bs, tS ts] ∧ (bs.length + ts.length ≤ n ∧ bs.length + ts.length ≤ 10) ∧ Q (.lst ((all bs ts).map tN))
def sp_l_all : DSpec := spr_l_all 11
def sp_l_worth : DSpec := fun ds Q => ∃ r : List Nat, ds = [tN r] ∧ ((∀ k ∈ r, k < 4) ∧ r.length ≤ 100) ∧ Q (.int (wor r : Nat))
def sp_l_saved : DSpec := fun ds Q => ∃ bs ts : List Str, ds = [tS bs, tS ts] ∧ ok2 bs ts ∧ Q (tabL (Vi bs ts) bs.length ts.length)
def sp_l_walked : DSpec := fun ds Q => ∃ bs ts : List Str, ds = [tS bs, tS ts] ∧ ok2 bs ts ∧ Q (tS (W bs ts 0 0))
def sp_l_right : DSpec := fun ds Q => ∃ bs ts : List Str, ds = [tS bs, tS ts] ∧ ok2 bs ts ∧ Q (.bl true)
theorem spm_cost : SpMono sp_cost := fun ds Q Q' ⟨a, b, e, h1, h⟩ m => ⟨a, b, e, h1, m _ h⟩
theorem spm_aligned : SpMono sp_aligned := fun ds Q Q' ⟨a, b, e, h1, h⟩ m => ⟨a, b, e, h1, m _ h⟩
theorem spm_l_texts : SpMono sp_l_texts := fun ds Q Q' ⟨a, e, h1, h⟩ m => ⟨a, e, h1, fun b t p q => m _ (h b t p q)⟩
theorem spm_r_l_all : ∀ n, SpMono (spr_l_all n)
  | 0 => fun ds Q Q' h m => h.elim
  | n + 1 => fun ds Q Q' ⟨a, b, e, h1, h⟩ m => ⟨a, b, e, h1, m _ h⟩
theorem spm_l_all : SpMono sp_l_all := spm_r_l_all 11
theorem len_l_all : ∀ n, ∀ ds Q, spr_l_all (n + 1) ds Q → ds.length = 2 := by
  rintro n ds Q ⟨_, _, rfl, _⟩
  rfl
theorem spm_l_worth : SpMono sp_l_worth := fun ds Q Q' ⟨a, e, h1, h⟩ m => ⟨a, e, h1, m _ h⟩
theorem spm_l_saved : SpMono sp_l_saved := fun ds Q Q' ⟨a, b, e, h1, h⟩ m => ⟨a, b, e, h1, m _ h⟩
theorem spm_l_walked : SpMono sp_l_walked := fun ds Q Q' ⟨a, b, e, h1, h⟩ m => ⟨a, b, e, h1, m _ h⟩
theorem spm_l_right : SpMono sp_l_right := fun ds Q Q' ⟨a, b, e, h1, h⟩ m => ⟨a, b, e, h1, m _ h⟩
def b_cost : S :=
(.cons (.ret (.ix (.ix (.call "levels" sp_levels (.cons (.var 0) (.cons (.var 1) .nil))) (.neg (.int 1))) (.neg (.int 1))))
.nil)
theorem mb_cost : b_cost.monos := by simp [S.monos, E.monos, b_cost, spm_levels]
def t_aligned_1 : E :=
(.orr (.cmp .Lt (.var 4) (.bf .len (.cons (.var 0) .nil))) (.cmp .Lt (.var 5) (.bf .len (.cons (.var 1) .nil))))
def b_aligned_1 : S :=
(.cons (.asg 6 (.call "next_step" sp_next_step (.cons (.var 0) (.cons (.var 1) (.cons (.var 2) (.cons (.var 4) (.cons (.var 5) .nil)))))))
(.cons (.app 3 (.var 6))
(.cons (.asg 4 (.bin .Add (.var 4) (.bf .int (.cons (.cmp .NotEq (.var 6) (.str "add")) .nil))))
(.cons (.asg 5 (.bin .Add (.var 5) (.bf .int (.cons (.cmp .NotEq (.var 6) (.str "drop")) .nil))))
.nil))))
def b_aligned : S :=
(.cons (.asg 2 (.call "rest" sp_rest (.cons (.var 0) (.cons (.var 1) .nil))))
(.cons (.asg 3 (.lst .nil))
(.cons (asgC (.tup (.cons (.var 4) (.cons (.var 5) .nil))) (.tup (.cons (.int 0) (.cons (.int 0) .nil))))
(.cons (.whl t_aligned_1 b_aligned_1)
(.cons (.ret (.bf .tuple (.cons (.var 3) .nil)))
.nil)))))
theorem mb_aligned_1 : b_aligned_1.monos := by simp [S.monos, E.monos, t_aligned_1, b_aligned_1, spm_next_step, spm_rest]
theorem mb_aligned : b_aligned.monos := by simp [S.monos, E.monos, b_aligned, t_aligned_1, b_aligned_1, spm_next_step, spm_rest] <;> (repeat' first | exact asgC_mono (by simp [E.monos, b_aligned, t_aligned_1, b_aligned_1, spm_next_step, spm_rest]) | apply And.intro)
def b_l_texts_1 : S :=
(.cons (.asg 6 (.call "_law_next" (spNum true) (.cons (.var 0) (.cons (.int 6) .nil))))
(.cons (.iff (.cmp .Eq (.var 6) (.int 0))
(.cons (.app 4 (.call "_law_pick" (spPick true) (.cons (.var 0) (.cons (.var 2) .nil))))
.nil)
.nil)
(.cons (.iff (.cmp .Eq (.var 6) (.int 1))
(.cons (.asg 4 (.bin .Add (.var 4) (.lst (.cons (.var 5) (.cons (.call "_law_pick" (spPick true) (.cons (.var 0) (.cons (.var 2) .nil))) .nil)))))
.nil)
.nil)
(.cons (.iff (.cmp .Gt (.var 6) (.int 2))
(.cons (.app 4 (.var 5))
.nil)
.nil)
.nil))))
def c_l_texts_1 : E :=
(.lc [("k", 7)] (.call "_law_pick" (spPick true) (.cons (.var 0) (.cons (.var 2) .nil))) (.var 7) (.r1 (.call "_law_next" (spNum true) (.cons (.var 0) (.cons (.bin .Add (.var 1) (.int 1)) .nil)))) .nil)
def b_l_texts : S :=
(.cons (.asg 2 (.sl (.lst (.cons (.str "a") (.cons (.str "b") (.cons (.str "ab") (.cons (.str "c") .nil))))) .nil (.bin .Add (.int 1) (.call "_law_next" (spNum true) (.cons (.var 0) (.cons (.int 4) .nil))))))
(.cons (.asg 3 c_l_texts_1)
(.cons (.iff (.cmp .Eq (.call "_law_next" (spNum true) (.cons (.var 0) (.cons (.int 3) .nil))) (.int 0))
(.cons (.ret (.tup (.cons (.bf .tuple (.cons (.var 3) .nil)) (.cons (.bf .tuple (.cons c_l_texts_1 .nil)) .nil))))
.nil)
.nil)
(.cons (.asg 4 (.lst .nil))
(.cons (.for_ (.var 5) (.var 3) b_l_texts_1)
(.cons (.ret (.tup (.cons (.bf .tuple (.cons (.var 3) .nil)) (.cons (.bf .tuple (.cons (.sl (.var 4) .nil (.var 1)) .nil)) .nil))))
.nil))))))
theorem mb_l_texts_1 : b_l_texts_1.monos := by simp [S.monos, E.monos, b_l_texts_1, c_l_texts_1, spNum_mono, spPick_mono]
theorem mb_l_texts : b_l_texts.monos := by simp [S.monos, E.monos, b_l_texts, b_l_texts_1, c_l_texts_1, spNum_mono, spPick_mono]
def b_l_all (sp : DSpec) : S :=
(.cons (.iff (.andd (.cmp .Eq (.var 0) (.tup .nil)) (.cmp .Eq (.var 1) (.tup .nil)))
(.cons (.ret (.lst (.cons (.tup .nil) .nil)))
.nil)
.nil)
(.cons (.asg 2 (.lst .nil))
(.cons (.iff (.andd (.cmp .NotEq (.var 0) (.tup .nil)) (.cmp .NotEq (.var 1) (.tup .nil)))
(.cons (.asg 3 (.ite (.cmp .Eq (.ix (.var 0) (.int 0)) (.ix (.var 1) (.int 0))) (.int 0) (.int 1)))
(.cons (.asg 2 (.bin .Add (.var 2) (.lc [("rest_v", 4)] (.bin .Add (.tup (.cons (.var 3) .nil)) (.var 4)) (.var 4) (.call "_law_all" sp (.cons (.sl (.var 0) (.int 1) .nil) (.cons (.sl (.var 1) (.int 1) .nil) .nil))) .nil)))
.nil))
.nil)
(.cons (.iff (.cmp .NotEq (.var 0) (.tup .nil))
(.cons (.asg 2 (.bin .Add (.var 2) (.lc [("rest_v", 4)] (.bin .Add (.tup (.cons (.int 2) .nil)) (.var 4)) (.var 4) (.call "_law_all" sp (.cons (.sl (.var 0) (.int 1) .nil) (.cons (.var 1) .nil))) .nil)))
.nil)
.nil)
(.cons (.iff (.cmp .NotEq (.var 1) (.tup .nil))
(.cons (.asg 2 (.bin .Add (.var 2) (.lc [("rest_v", 4)] (.bin .Add (.tup (.cons (.int 3) .nil)) (.var 4)) (.var 4) (.call "_law_all" sp (.cons (.var 0) (.cons (.sl (.var 1) (.int 1) .nil) .nil))) .nil)))
.nil)
.nil)
(.cons (.ret (.var 2))
.nil))))))
theorem mb_l_all {sp : DSpec} (hsp : SpMono sp) : (b_l_all sp).monos := by simp [S.monos, E.monos, hsp, b_l_all]
def c_l_worth_1 : E :=
(.lc [("step", 1)] (.ix (.lst (.cons (.int 0) (.cons (.int 3) (.cons (.int 2) (.cons (.int 2) .nil))))) (.var 1)) (.var 1) (.var 0) .nil)
def b_l_worth : S :=
(.cons (.ret (.bf .sum (.cons c_l_worth_1 .nil)))
.nil)
theorem mb_l_worth : b_l_worth.monos := by simp [S.monos, E.monos, b_l_worth, c_l_worth_1]
def b_l_saved_1 : S :=
(.cons (.asg 5 (.ite (.cmp .Eq (.ix (.var 0) (.var 3)) (.ix (.var 1) (.var 4))) (.int 4) (.int 1)))
(.cons (nset 2 (.var 3) (.var 4) (.bf .max (.cons (.ix (.ix (.var 2) (.bin .Add (.var 3) (.int 1))) (.var 4)) (.cons (.ix (.ix (.var 2) (.var 3)) (.bin .Add (.var 4) (.int 1))) (.cons (.bin .Add (.ix (.ix (.var 2) (.bin .Add (.var 3) (.int 1))) (.bin .Add (.var 4) (.int 1))) (.var 5)) .nil)))))
.nil))
def b_l_saved_2 : S :=
(.cons (.for_ (.var 4) (.r3 (.bin .Sub (.bf .len (.cons (.var 1) .nil)) (.int 1)) (.neg (.int 1)) (.neg (.int 1))) b_l_saved_1)
.nil)
def b_l_saved : S :=
(.cons (nlc 2 [("i", 3)] (.bin .Mult (.lst (.cons (.int 0) .nil)) (.bin .Add (.bf .len (.cons (.var 1) .nil)) (.int 1))) (.var 3) (.r1 (.bin .Add (.bf .len (.cons (.var 0) .nil)) (.int 1))) .nil)
(.cons (.for_ (.var 3) (.r3 (.bin .Sub (.bf .len (.cons (.var 0) .nil)) (.int 1)) (.neg (.int 1)) (.neg (.int 1))) b_l_saved_2)
(.cons (.ret (.var 2))
.nil)))
theorem mb_l_saved_1 : b_l_saved_1.monos := by simp [S.monos, E.monos, b_l_saved_1, b_l_saved_2] <;> (repeat' first | exact nlc_mono (by simp [E.monos, b_l_saved_1, b_l_saved_2]) (by simp [E.monos, b_l_saved_1, b_l_saved_2]) (by simp [E.monos, b_l_saved_1, b_l_saved_2]) | exact nset_mono (by simp [E.monos, b_l_saved_1, b_l_saved_2]) (by simp [E.monos, b_l_saved_1, b_l_saved_2]) (by simp [E.monos, b_l_saved_1, b_l_saved_2]) | apply And.intro)
theorem mb_l_saved_2 : b_l_saved_2.monos := by simp [S.monos, E.monos, b_l_saved_1, b_l_saved_2] <;> (repeat' first | exact nlc_mono (by simp [E.monos, b_l_saved_1, b_l_saved_2]) (by simp [E.monos, b_l_saved_1, b_l_saved_2]) (by simp [E.monos, b_l_saved_1, b_l_saved_2]) | exact nset_mono (by simp [E.monos, b_l_saved_1, b_l_saved_2]) (by simp [E.monos, b_l_saved_1, b_l_saved_2]) (by simp [E.monos, b_l_saved_1, b_l_saved_2]) | apply And.intro)
theorem mb_l_saved : b_l_saved.monos := by simp [S.monos, E.monos, b_l_saved, b_l_saved_1, b_l_saved_2] <;> (repeat' first | exact nlc_mono (by simp [E.monos, b_l_saved, b_l_saved_1, b_l_saved_2]) (by simp [E.monos, b_l_saved, b_l_saved_1, b_l_saved_2]) (by simp [E.monos, b_l_saved, b_l_saved_1, b_l_saved_2]) | exact nset_mono (by simp [E.monos, b_l_saved, b_l_saved_1, b_l_saved_2]) (by simp [E.monos, b_l_saved, b_l_saved_1, b_l_saved_2]) (by simp [E.monos, b_l_saved, b_l_saved_1, b_l_saved_2]) | apply And.intro)
def b_l_walked_1 : S :=
(.cons (.iff (.andd (.cmp .Lt (.var 5) (.bf .len (.cons (.var 0) .nil))) (.cmp .Lt (.var 6) (.bf .len (.cons (.var 1) .nil))))
(.cons (.asg 7 (.ite (.cmp .Eq (.ix (.var 0) (.var 5)) (.ix (.var 1) (.var 6))) (.int 4) (.int 1)))
(.cons (.iff (.cmp .Eq (.ix (.ix (.var 2) (.var 5)) (.var 6)) (.bin .Add (.ix (.ix (.var 2) (.bin .Add (.var 5) (.int 1))) (.bin .Add (.var 6) (.int 1))) (.var 7)))
(.cons (.app 3 (.ite (.cmp .Eq (.var 7) (.int 4)) (.str "keep") (.str "change")))
(.cons (.asg2 5 6 (.bin .Add (.var 5) (.int 1)) (.bin .Add (.var 6) (.int 1)))
(.cons .cont
.nil)))
.nil)
.nil))
.nil)
(.cons (.iff (.andd (.cmp .Lt (.var 5) (.bf .len (.cons (.var 0) .nil))) (.cmp .Eq (.ix (.ix (.var 2) (.var 5)) (.var 6)) (.ix (.ix (.var 2) (.bin .Add (.var 5) (.int 1))) (.var 6))))
(.cons (.app 3 (.str "drop"))
(.cons (.asg 5 (.bin .Add (.var 5) (.int 1)))
.nil))
(.cons (.iff (.cmp .Lt (.var 6) (.bf .len (.cons (.var 1) .nil)))
(.cons (.app 3 (.str "add"))
(.cons (.asg 6 (.bin .Add (.var 6) (.int 1)))
.nil))
.nil)
.nil))
.nil))
def b_l_walked : S :=
(.cons (.asg 2 (.call "_law_saved" sp_l_saved (.cons (.var 0) (.cons (.var 1) .nil))))
(.cons (.asg 3 (.lst .nil))
(.cons (asgC (.tup (.cons (.var 5) (.cons (.var 6) .nil))) (.tup (.cons (.int 0) (.cons (.int 0) .nil))))
(.cons (.for_ (.var 4) (.r1 (.bin .Add (.bf .len (.cons (.var 0) .nil)) (.bf .len (.cons (.var 1) .nil)))) b_l_walked_1)
(.cons (.ret (.bf .tuple (.cons (.var 3) .nil)))
.nil)))))
theorem mb_l_walked_1 : b_l_walked_1.monos := by simp [S.monos, E.monos, b_l_walked_1, spm_l_saved]
theorem mb_l_walked : b_l_walked.monos := by simp [S.monos, E.monos, b_l_walked, b_l_walked_1, spm_l_saved] <;> (repeat' first | exact asgC_mono (by simp [E.monos, b_l_walked, b_l_walked_1, spm_l_saved]) | apply And.intro)
def c_l_right_1 : E :=
(.lc [("j", 8)] (.bin .Sub (.bin .Mult (.int 2) (.bin .Add (.var 7) (.var 8))) (.ix (.ix (.var 6) (.bin .Sub (.bf .len (.cons (.var 0) .nil)) (.var 7))) (.bin .Sub (.bf .len (.cons (.var 1) .nil)) (.var 8)))) (.var 8) (.r1 (.bin .Add (.bf .len (.cons (.var 1) .nil)) (.int 1))) .nil)
def b_l_right_1 : S :=
(.cons (.app 5 (.bf .tuple (.cons c_l_right_1 .nil)))
.nil)
def b_l_right : S :=
(.cons (.asg 2 (.call "_law_walked" sp_l_walked (.cons (.var 0) (.cons (.var 1) .nil))))
(.cons (.asg 3 (.bin .Sub (.bin .Mult (.int 2) (.bin .Add (.bf .len (.cons (.var 0) .nil)) (.bf .len (.cons (.var 1) .nil)))) (.ix (.ix (.call "_law_saved" sp_l_saved (.cons (.var 0) (.cons (.var 1) .nil))) (.int 0)) (.int 0))))
(.cons (.asg 4 (.call "aligned" sp_aligned (.cons (.var 0) (.cons (.var 1) .nil))))
(.cons (.iff (.orr (.nott (.isin (.var 4) [.tuple])) (.orr (.nott (.isin (.call "cost" sp_cost (.cons (.var 0) (.cons (.var 1) .nil))) [.int])) (.nott (.isin (.call "cost_of" sp_cost_of (.cons (.var 4) .nil)) [.int]))))
(.cons (.ret (.bl false))
.nil)
.nil)
(.cons (.iff (.orr (.cmp .NotEq (.call "cost" sp_cost (.cons (.var 0) (.cons (.var 1) .nil))) (.var 3)) (.orr (.cmp .NotEq (.var 4) (.var 2)) (.cmp .NotEq (.call "cost_of" sp_cost_of (.cons (.var 4) .nil)) (.var 3))))
(.cons (.ret (.bl false))
.nil)
.nil)
(.cons (.asg 5 (.lst .nil))
(.cons (.asg 6 (.call "_law_saved" sp_l_saved (.cons (rev (.var 0)) (.cons (rev (.var 1)) .nil))))
(.cons (.for_ (.var 7) (.r1 (.bin .Add (.bf .len (.cons (.var 0) .nil)) (.int 1))) b_l_right_1)
(.cons (.ret (.cmp .Eq (.call "levels" sp_levels (.cons (.var 0) (.cons (.var 1) .nil))) (.bf .tuple (.cons (.var 5) .nil))))
.nil)))))))))
theorem mb_l_right_1 : b_l_right_1.monos := by simp [S.monos, E.monos, c_l_right_1, b_l_right_1, spm_levels, spm_l_saved, spm_cost_of, spm_cost, spm_aligned, spm_l_walked]
theorem mb_l_right : b_l_right.monos := by simp [S.monos, E.monos, b_l_right, c_l_right_1, b_l_right_1, spm_levels, spm_l_saved, spm_cost_of, spm_cost, spm_aligned, spm_l_walked] <;> (repeat' first | exact rev_mono (by simp [E.monos, b_l_right, c_l_right_1, b_l_right_1, spm_levels, spm_l_saved, spm_cost_of, spm_cost, spm_aligned, spm_l_walked]) | apply And.intro)
def c_law_1 : E :=
(.lc [("step", 10)] (.ix (.lst (.cons (.str "keep") (.cons (.str "change") (.cons (.str "drop") (.cons (.str "add") .nil))))) (.var 10)) (.var 10) (.var 5) .nil)
def c_law_2 : E :=
(.lc [("row", 9)] (.var 9) (.var 9) (.var 3) (.cmp .Eq (.call "_law_worth" sp_l_worth (.cons (.var 9) .nil)) (.var 4)))
def c_law_3 : E :=
(.lc [("row", 9)] (.call "_law_worth" sp_l_worth (.cons (.var 9) .nil)) (.var 9) (.var 3) .nil)
def b_law_1 : S :=
(.cons (.asgT (.tup (.cons (.var 7) (.cons (.var 8) .nil))) (.call "_law_texts" sp_l_texts (.cons (.var 1) (.cons (.int 5) .nil))))
(.cons (.asg 3 (.call "_law_all" sp_l_all (.cons (.var 7) (.cons (.var 8) .nil))))
(.cons (.asg 4 (.bf .min (.cons c_law_3 .nil)))
(.cons (.asg 5 (mnT c_law_2))
(.cons (.asg 6 (.bf .tuple (.cons c_law_1 .nil)))
(.cons (.iff (.orr (.cmp .NotEq (.call "cost" sp_cost (.cons (.var 7) (.cons (.var 8) .nil))) (.var 4)) (.orr (.cmp .NotEq (.call "aligned" sp_aligned (.cons (.var 7) (.cons (.var 8) .nil))) (.var 6)) (.nott (.call "_law_right" sp_l_right (.cons (.var 7) (.cons (.var 8) .nil))))))
(.cons (.ret (.bl false))
.nil)
.nil)
.nil))))))
def b_law : S :=
(.cons (.for_ (.var 2) (.r1 (.int 3)) b_law_1)
(.cons (.asgT (.tup (.cons (.var 7) (.cons (.var 8) .nil))) (.call "_law_texts" sp_l_texts (.cons (.var 1) (.cons (.int 40) .nil))))
(.cons (.ret (.call "_law_right" sp_l_right (.cons (.var 7) (.cons (.var 8) .nil))))
.nil)))
theorem mb_law_1 : b_law_1.monos := by simp [S.monos, E.monos, c_law_1, c_law_2, c_law_3, b_law_1, spm_l_right, spm_l_texts, spm_aligned, spm_cost, spm_l_worth, spm_l_all] <;> (repeat' first | exact mnT_mono (by simp [E.monos, c_law_1, c_law_2, c_law_3, b_law_1, spm_l_right, spm_l_texts, spm_aligned, spm_cost, spm_l_worth, spm_l_all]) | apply And.intro)
theorem mb_law : b_law.monos := by simp [S.monos, E.monos, b_law, c_law_1, c_law_2, c_law_3, b_law_1, spm_l_right, spm_l_texts, spm_aligned, spm_cost, spm_l_worth, spm_l_all] <;> (repeat' first | exact mnT_mono (by simp [E.monos, b_law, c_law_1, c_law_2, c_law_3, b_law_1, spm_l_right, spm_l_texts, spm_aligned, spm_cost, spm_l_worth, spm_l_all]) | apply And.intro)
end K40

set_option Elab.async false
set_option linter.all false
set_option maxRecDepth 100000
set_option maxHeartbeats 4000000
/-! K40w: what is worth, cost, aligned, saved. -/
namespace K40
open PySem PySem.Spec PyProof.Rows L2 DL FM
open K41 (gW gW_at sc L R cst stp go nxt R_s R_e R_f R_end Li Ri tS tab tabL rowI ok2 isStep tS_len up_nat at_map at_rng at_gW stp_inc stp_up at_tabL at_rowI nm_I nm_tab nm_tS sp_levels sp_rest sp_next_step sp_cost_of spm_levels spm_rest spm_next_step spm_cost_of)
open Classical

theorem l_worth_ok : ∀ ds Q, sp_l_worth ds Q → bodySpec 2 b_l_worth ds Q := by
  rintro ds Q ⟨r, rfl, ⟨h4, hl⟩, h⟩
  show semS b_l_worth _ [.sh (tN r), .no]
  simp [b_l_worth, c_l_worth_1, tN, nI]
  refine lcD_map (f := fun k : Nat => D.int (wc k : Nat)) (fun k hk Qt Qf hq => ?_) ?_
  · simp [wipeD]
    have := h4 k hk
    match k, this with
    | 0, _ => exact ⟨_, rfl, hq⟩
    | 1, _ => exact ⟨_, rfl, hq⟩
    | 2, _ => exact ⟨_, rfl, hq⟩
    | 3, _ => exact ⟨_, rfl, hq⟩
  · refine ⟨r.map fun k => ((wc k : Nat) : Int), by rw [List.map_map]; rfl, ?_⟩
    have : (r.map fun k => ((wc k : Nat) : Int)).sum = (wor r : Nat) := by
      unfold wor
      rw [← K41.sum_cast, List.map_map]
      rfl
    rw [this]
    exact h
theorem at_neg1 {xs : List D} {n : Nat} (h : xs.length = n + 1) {x : D} (hx : L2.atI xs (n : Int) = some x) : L2.atI xs (-1) = some x := by
  unfold L2.atI at hx ⊢
  have e1 : ixN xs.length (n : Int) = some n := ixN_lt (by omega)
  have e2 : ixN xs.length (-1) = some n := by
    unfold ixN
    rw [h]
    simp
    omega
  rw [e1] at hx
  rw [e2]
  exact hx
theorem cost_ok : ∀ ds Q, sp_cost ds Q → bodySpec 2 b_cost ds Q := by
  rintro ds Q ⟨bs, ts, rfl, ⟨hb, ht⟩, h⟩
  show semS b_cost _ [.sh (tS bs), .sh (tS ts)]
  simp [b_cost]
  refine ⟨bs, ts, rfl, ⟨hb, ht⟩, ?_⟩
  refine ⟨_, at_neg1 (by rw [List.length_map, List.length_range]) (at_rng (show bs.length < bs.length + 1 by omega)), ?_⟩
  refine ⟨_, at_neg1 (by show (List.map _ (List.range (ts.length + 1))).length = _; rw [List.length_map, List.length_range]) (at_rowI (Nat.le_refl ts.length)), ?_⟩
  exact h
theorem aligned_ok : ∀ ds Q, sp_aligned ds Q → bodySpec 7 b_aligned ds Q := by
  rintro ds Q ⟨bs, ts, rfl, ⟨hb, ht⟩, h⟩
  show semS b_aligned _ [.sh (tS bs), .sh (tS ts), .no, .no, .no, .no, .no]
  refine st_asgR (fun d => d = tabL (Ri bs ts) bs.length ts.length) (by simp [E.monos, spm_rest]) ?_ ?_
  · simp
    exact ⟨bs, ts, rfl, ⟨hb, ht⟩, rfl⟩
  rintro _ rfl e1 R1
  have r0 : rdv e1 0 = some (tS bs) := (R1.rd 0 (by decide)).trans rfl
  have r1 : rdv e1 1 = some (tS ts) := (R1.rd 1 (by decide)).trans rfl
  have r2 := R1.at_ (by simp)
  have l1 : e1.length = 7 := R1.len
  refine st_ow (fun ds => ds = []) (by simp [E.monos]) rfl (by simp) (by rintro _ rfl; rfl) ?_
  rintro _ rfl
  obtain ⟨e2, he2⟩ : ∃ e2, e2 = e1.set 3 (.ow (.lst [])) := ⟨_, rfl⟩
  rw [← he2]
  have l2 : e2.length = 7 := by rw [he2, List.length_set]; exact l1
  have s0 : rdv e2 0 = some (tS bs) := by rw [he2]; exact (rdv_set_ne (by decide)).trans r0
  have s1 : rdv e2 1 = some (tS ts) := by rw [he2]; exact (rdv_set_ne (by decide)).trans r1
  have s2 : rdv e2 2 = some (tabL (Ri bs ts) bs.length ts.length) := by rw [he2]; exact (rdv_set_ne (by decide)).trans r2
  have s3 : e2[3]? = some (.ow (.lst [])) := by rw [he2]; exact List.getElem?_set_self (by omega)
  clear he2
  -- the two places
  have two : ∀ (en : DEnds) (r : S), (∀ e, e.length = 7 → rdv e 0 = some (tS bs) → rdv e 1 = some (tS ts) → rdv e 2 = some (tabL (Ri bs ts) bs.length ts.length) → e[3]? = some (.ow (.lst [])) → rdv e 4 = some (.int 0) → rdv e 5 = some (.int 0) → semS r en e) → semS (.cons (asgC (.tup (.cons (.var 4) (.cons (.var 5) .nil))) (.tup (.cons (.int 0) (.cons (.int 0) .nil)))) r) en e2 := by
    intro en r k
    show semS r en ((e2.set 4 (.sh (.int 0))).set 5 (.sh (.int 0)))
    exact k _ (by rw [List.length_set, List.length_set]; exact l2) (by rw [rdv_set_ne (by decide), rdv_set_ne (by decide)]; exact s0) (by rw [rdv_set_ne (by decide), rdv_set_ne (by decide)]; exact s1) (by rw [rdv_set_ne (by decide), rdv_set_ne (by decide)]; exact s2)
      (by rw [List.getElem?_set_ne (by decide), List.getElem?_set_ne (by decide)]; exact s3) (by rw [rdv_set_ne (by decide)]; exact rdv_set_eq (by omega)) (rdv_set_eq (by rw [List.length_set]; omega))
  refine two _ _ fun e3 l3 u0 u1 u2 u3 u4 u5 => ?_
  refine st_whlR (by simp [E.monos, t_aligned_1]) (by simp [S.monos, E.monos, b_aligned_1, spm_next_step]) (fun m e => ∃ (ss : List Str) (i j : Nat), e.length = 7 ∧ rdv e 0 = some (tS bs) ∧ rdv e 1 = some (tS ts) ∧ rdv e 2 = some (tabL (Ri bs ts) bs.length ts.length) ∧ e[3]? = some (.ow (.lst (ss.map D.str))) ∧ rdv e 4 = some (.int i) ∧ rdv e 5 = some (.int j) ∧
      i ≤ bs.length ∧ j ≤ ts.length ∧ ss ++ W bs ts i j = W bs ts 0 0 ∧ ss.length ≤ i + j ∧ m = bs.length + ts.length - (i + j)) (bs.length + ts.length) ⟨[], 0, 0, l3, u0, u1, u2, u3, u4, u5, by omega, by omega, rfl, by simp, by omega⟩ ?_
  rintro m e ⟨ss, i, j, l, r0, r1, r2, o3, r4, r5, hi, hj, hg, hl, rfl⟩
  have key : semE t_aligned_1 e fun d => d = .bl (decide (i < bs.length ∨ j < ts.length)) := by
    simp [t_aligned_1, r0, r1, r4, r5, tS_len]
    by_cases q : i < bs.length
    · simp [q]
    · have q' : ¬ (i : Int) < bs.length := by omega
      simp [q, q']
  refine sem_le (by simp [E.monos, t_aligned_1]) key ?_
  rintro _ rfl
  refine ⟨_, rfl, fun hg1 => ?_, fun hg1 => ?_⟩
  · have hij := of_decide_eq_true hg1
    refine ⟨by omega, ?_⟩
    obtain ⟨p, hp, hW⟩ := W_step hi hj hij
    have hinc := stp_inc hp
    have hup := stp_up hp
    refine st_sh (fun d => d = .str (nxt bs ts i j)) (by simp [E.monos, spm_next_step]) ?_ (by rintro _ rfl; rfl) ?_
    · simp [r0, r1, r2, r4, r5]
      exact ⟨bs, ts, i, j, rfl, ⟨⟨hb, ht⟩, hi, hj, hij⟩, rfl⟩
    rintro _ rfl
    obtain ⟨e1, he1⟩ : ∃ e1, e1 = e.set 6 (.sh (.str (nxt bs ts i j))) := ⟨_, rfl⟩
    rw [← he1]
    have k1 : e1.length = 7 := by rw [he1, List.length_set]; exact l
    have k : ∀ j, j ≠ 6 → rdv e1 j = rdv e j := fun j hj => by rw [he1]; exact rdv_set_ne (Ne.symm hj)
    have k6 : rdv e1 6 = some (.str (nxt bs ts i j)) := by rw [he1]; exact rdv_set_eq (by omega)
    have k3 : e1[3]? = some (.ow (.lst (ss.map D.str))) := by rw [he1, List.getElem?_set_ne (by decide)]; exact o3
    clear he1
    refine st_app (fun d => d = .str (nxt bs ts i j)) (by simp [E.monos]) k3 (by simp [k6]) (by rintro _ rfl; rfl) (by rw [List.length_map]; omega) ?_
    rintro _ rfl
    obtain ⟨e2, he2⟩ : ∃ e2, e2 = e1.set 3 (.ow (.lst (ss.map D.str ++ [.str (nxt bs ts i j)]))) := ⟨_, rfl⟩
    rw [← he2]
    have m1 : e2.length = 7 := by rw [he2, List.length_set]; exact k1
    have mk : ∀ j, j ≠ 3 → rdv e2 j = rdv e1 j := fun j hj => by rw [he2]; exact rdv_set_ne (Ne.symm hj)
    have m3 : e2[3]? = some (.ow (.lst ((ss ++ [nxt bs ts i j]).map D.str))) := by
      rw [he2, List.getElem?_set_self (by omega)]
      simp
    clear he2
    refine st_sh (fun d => d = .int (p.1 : Nat)) (by simp [E.monos]) ?_ (by rintro _ rfl; rfl) ?_
    · simp [mk 4 (by decide), mk 6 (by decide), k 4 (by decide), k6, r4, shal]
      rw [hinc.1]
      by_cases c : nxt bs ts i j = "add"
      · simp [c]
      · simp [c]
    rintro _ rfl
    refine st_sh (fun d => d = .int (p.2 : Nat)) (by simp [E.monos]) ?_ (by rintro _ rfl; rfl) ?_
    · simp only [sem_bin, sem_var, sem_bf, sems_cons, sems_nil, sem_cmp, sem_str, rdv_set_ne (show (4 : Nat) ≠ 5 by decide), rdv_set_ne (show (4 : Nat) ≠ 6 by decide), mk 5 (by decide), mk 6 (by decide), k 5 (by decide), k6, r5, optP_some]
      simp [shal]
      rw [hinc.2.1]
      by_cases c : nxt bs ts i j = "drop"
      · simp [c]
      · simp [c]
    rintro _ rfl
    refine ⟨bs.length + ts.length - (p.1 + p.2), by omega, ss ++ [nxt bs ts i j], p.1, p.2, by rw [List.length_set, List.length_set]; exact m1, ?_, ?_, ?_, ?_, ?_, ?_, by omega, by omega, ?_, ?_, rfl⟩
    · rw [rdv_set_ne (by decide), rdv_set_ne (by decide), mk 0 (by decide), k 0 (by decide)]; exact r0
    · rw [rdv_set_ne (by decide), rdv_set_ne (by decide), mk 1 (by decide), k 1 (by decide)]; exact r1
    · rw [rdv_set_ne (by decide), rdv_set_ne (by decide), mk 2 (by decide), k 2 (by decide)]; exact r2
    · rw [List.getElem?_set_ne (by decide), List.getElem?_set_ne (by decide)]; exact m3
    · rw [rdv_set_ne (by decide)]; exact rdv_set_eq (by omega)
    · exact rdv_set_eq (by rw [List.length_set]; omega)
    · rw [List.append_assoc, ← hg, hW]
      rfl
    · rw [List.length_append, List.length_singleton]
      omega
  · have hij := of_decide_eq_false hg1
    have ei : i = bs.length := by omega
    have ej : j = ts.length := by omega
    subst ei ej
    rw [W_end, List.append_nil] at hg
    have o3' : rdv e 3 = some (.lst (ss.map D.str)) := by
      unfold rdv
      rw [o3]
      rfl
    simp [o3']
    rw [hg]
    exact h
end K40

set_option Elab.async false
set_option linter.all false
set_option maxRecDepth 100000
set_option maxHeartbeats 4000000
/-! K40v: what is saved, by a table that is filled from its end. -/
namespace K40
open PySem PySem.Spec PyProof.Rows L2 DL FM
open K41 (gW gW_at sc L R cst stp go nxt R_s R_e R_f R_end Li Ri tS tab tabL rowI ok2 isStep tS_len up_nat at_map at_rng at_gW at_tabL at_rowI nm_I nm_tab nm_tS)
open Classical

theorem st_nset {i j j2 : Nat} {a b e : E} {r : S} {en : DEnds} {env : DEnv} {rows : List (List D)} {as : List Addr} {ds : List D} {v : D} (ma : a.monos) (mb : b.monos) (me : e.monos) (ho : env[i]? = some (.nw rows as)) (he : semE e env fun d => d = v) (nm : noMut v = true)
    (ha : semE a env fun x => x = .int (j : Nat)) (hj : rows[j]? = some ds) (hb : semE b env fun y => y = .int (j2 : Nat)) (hj2 : j2 < ds.length) (nx : semS r en (env.set i (.nw (rows.set j (ds.set j2 v)) as))) : semS (.cons (nset i a b e) r) en env := by
  show semNset i a b e { en with nx := semS r en } env
  refine (sem_mono e me).1 _ _ _ he fun d hd => ?_
  subst hd
  refine ⟨nm, nst_of ho ?_⟩
  refine (sem_mono a ma).1 _ _ _ ha fun x hx => ?_
  subst hx
  refine ⟨j, ds, ixN_lt (List.getElem?_eq_some_iff.mp hj).1, hj, ?_⟩
  refine (sem_mono b mb).1 _ _ _ hb fun y hy => ?_
  subst hy
  exact ⟨j2, ixN_lt hj2, nx⟩
def rowsF (f : Nat → Nat → Int) (n m : Nat) : List (List D) := (List.range (n + 1)).map fun i => rowI f m i
def put (f : Nat → Nat → Int) (i j : Nat) (x : Int) : Nat → Nat → Int := fun a b => if a = i ∧ b = j then x else f a b
theorem rowsF_at {f : Nat → Nat → Int} {n m i : Nat} (h : i ≤ n) : (rowsF f n m)[i]? = some (rowI f m i) := by
  unfold rowsF
  rw [List.getElem?_map, List.getElem?_range (by omega)]
  rfl
theorem rowI_len (f : Nat → Nat → Int) (m i : Nat) : (rowI f m i).length = m + 1 := by
  unfold rowI
  rw [List.length_map, List.length_range]
theorem rowsF_put {f : Nat → Nat → Int} {n m i j : Nat} {x : Int} (hi : i ≤ n) (hj : j ≤ m) : (rowsF f n m).set i ((rowI f m i).set j (.int x)) = rowsF (put f i j x) n m := by
  unfold rowsF
  refine List.ext_getElem (by simp) fun a h1 h2 => ?_
  rw [List.length_map, List.length_range] at h2
  rw [List.getElem_map, List.getElem_range, List.getElem_set]
  by_cases e : i = a
  · subst e
    rw [if_pos rfl]
    unfold rowI
    refine List.ext_getElem (by simp) fun b g1 g2 => ?_
    rw [List.length_map, List.length_range] at g2
    rw [List.getElem_map, List.getElem_range, List.getElem_set]
    unfold put
    by_cases e2 : j = b
    · subst e2
      rw [if_pos rfl, if_pos ⟨rfl, rfl⟩]
    · rw [if_neg e2, if_neg fun z => e2 z.2.symm, List.getElem_map, List.getElem_range]
  · rw [if_neg e, List.getElem_map, List.getElem_range]
    unfold rowI
    refine List.map_congr_left fun b _ => ?_
    unfold put
    rw [if_neg fun z => e z.1.symm]
theorem dn_at {n k : Nat} {d : D} (h : (rangeDn ((n : Int) - 1) (-1))[k]? = some d) : k < n ∧ d = .int ((n - 1 - k : Nat) : Int) := by
  unfold rangeDn at h
  obtain ⟨hk, e⟩ := List.getElem?_eq_some_iff.mp h
  simp at hk e
  have : k < n := by omega
  refine ⟨this, ?_⟩
  rw [← e]
  congr 1
  omega
theorem dn_len (n : Nat) : (rangeDn ((n : Int) - 1) (-1)).length = n := by
  unfold rangeDn
  simp
  try omega
theorem V_s {bs ts : List Str} {i j : Nat} (hi : i < bs.length) (hj : j < ts.length) :
    Vi bs ts i j = max (max (Vi bs ts (i + 1) j) (Vi bs ts i (j + 1))) (Vi bs ts (i + 1) (j + 1) + if gW bs i = gW ts j then 4 else 1) := by
  have h := R_s hi hj
  unfold sc at h
  unfold Vi
  by_cases q : gW bs i = gW ts j
  · rw [if_pos q] at h ⊢
    omega
  · rw [if_neg q] at h ⊢
    omega
theorem V_e {bs ts : List Str} {i : Nat} (hi : i ≤ bs.length) : Vi bs ts i ts.length = 0 := by
  have e : R bs ts i ts.length = 2 * (bs.length - i) := by
    unfold K41.R
    rw [Nat.sub_self, K41.Lz]
  unfold Vi
  rw [e]
  omega
theorem V_f {bs ts : List Str} {j : Nat} (hj : j ≤ ts.length) : Vi bs ts bs.length j = 0 := by
  have e : R bs ts bs.length j = 2 * (ts.length - j) := by
    unfold K41.R
    rw [Nat.sub_self, K41.L0]
  unfold Vi
  rw [e]
  omega
theorem l_saved_ok : ∀ ds Q, sp_l_saved ds Q → bodySpec 6 b_l_saved ds Q := by
  rintro ds Q ⟨bs, ts, rfl, ⟨hb, ht⟩, h⟩
  show semS b_l_saved _ [.sh (tS bs), .sh (tS ts), .no, .no, .no, .no]
  refine st_nlc (fun rows => rows = rowsF (fun _ _ => 0) bs.length ts.length) (by simp [E.monos]) trivial (by simp [E.monos]) ?_ ?_
  · simp only [sem_r1, sem_bin, sem_bf, sems_cons, sems_nil, sem_var, sem_int]
    change optP (some (tS bs)) _
    simp only [optP_some, tS_len, dBin_ai]
    rw [up_nat]
    simp only [int1_int, dItems_l, rangeD_zero]
    refine ⟨by omega, ?_⟩
    unfold lcOfN
    refine lcD_map (f := fun i : Nat => D.lst (rowI (fun _ _ => 0) ts.length i)) (fun i hi Qt Qf hq => ?_) ⟨_, ?_, rfl⟩
    · simp only [condD_n, bindT_v, isNil_nil, sem_bin, sem_lst, sems_cons, sems_nil, sem_bf, sem_var, sem_int]
      change optP (some (tS ts)) _
      simp only [optP_some, tS_len, dBin_ai]
      rw [up_nat, dBin_ml]
      have e : (List.replicate ((ts.length + 1 : Nat) : Int).toNat [D.int 0]).flatten = rowI (fun _ _ => 0) ts.length i := by
        rw [Int.toNat_natCast]
        unfold rowI
        rw [List.map_const', List.length_range]
        simp
      refine ⟨⟨by omega, by omega, by simp; omega⟩, _, rfl, ?_, ?_⟩
      · rw [e]; exact nm_I _ _ _
      · rw [e]; exact hq
    · unfold rowsF
      rw [List.map_map]
      rfl
  rintro _ as rfl
  change semS _ _ [.sh (tS bs), .sh (tS ts), .nw (rowsF (fun _ _ => 0) bs.length ts.length) as, .no, .no, .no]
  refine st_for (fun ds => ds = rangeDn ((bs.length : Int) - 1) (-1)) (by simp [E.monos]) rfl ?_ (by rintro _ rfl; simp) (by simp [S.monos, E.monos, b_l_saved_1, b_l_saved_2] <;> exact nset_mono (by simp [E.monos]) (by simp [E.monos]) (by simp [E.monos]))
    (fun _ k e => ∃ (f : Nat → Nat → Int) (x y z : Sl), e = [.sh (tS bs), .sh (tS ts), .nw (rowsF f bs.length ts.length) as, x, y, z] ∧ ∀ a b, a ≤ bs.length → b ≤ ts.length → (bs.length ≤ a + k ∨ b = ts.length) → f a b = Vi bs ts a b) ?_ ?_ ?_
  · simp [tS_len]
    exact ⟨by omega, by omega⟩
  · rintro _ rfl
    refine ⟨fun _ _ => 0, _, _, _, rfl, fun a b ha hb h => ?_⟩
    rcases h with h | h
    · have : a = bs.length := by omega
      rw [this, V_f hb]
    · rw [h, V_e ha]
  · rintro _ rfl k d e hd ⟨f, x, y, z, rfl, hf⟩
    obtain ⟨hk, rfl⟩ := dn_at hd
    obtain ⟨i, hi⟩ : ∃ i, i = bs.length - 1 - k := ⟨_, rfl⟩
    rw [← hi]
    show semS b_l_saved_2 _ [.sh (tS bs), .sh (tS ts), .nw (rowsF f bs.length ts.length) as, .sh (.int i), y, z]
    refine st_for (fun ds => ds = rangeDn ((ts.length : Int) - 1) (-1)) (by simp [E.monos]) rfl ?_ (by rintro _ rfl; simp) (by simp [S.monos, E.monos, b_l_saved_1] <;> exact nset_mono (by simp [E.monos]) (by simp [E.monos]) (by simp [E.monos]))
      (fun _ q e => ∃ (f : Nat → Nat → Int) (y z : Sl), e = [.sh (tS bs), .sh (tS ts), .nw (rowsF f bs.length ts.length) as, .sh (.int i), y, z] ∧ ∀ a b, a ≤ bs.length → b ≤ ts.length → (bs.length ≤ a + k ∨ b = ts.length ∨ (a = i ∧ ts.length ≤ b + q)) → f a b = Vi bs ts a b) ?_ ?_ ?_
    · simp [tS_len]
      exact ⟨by omega, by omega⟩
    · rintro _ rfl
      exact ⟨f, _, _, rfl, fun a b ha hb h => hf a b ha hb (by omega)⟩
    · rintro _ rfl q d e hd ⟨f, y, z, rfl, hf⟩
      obtain ⟨hq, rfl⟩ := dn_at hd
      obtain ⟨j, hj⟩ : ∃ j, j = ts.length - 1 - q := ⟨_, rfl⟩
      rw [← hj]
      show semS b_l_saved_1 _ [.sh (tS bs), .sh (tS ts), .nw (rowsF f bs.length ts.length) as, .sh (.int i), .sh (.int j), z]
      have il : i < bs.length := by omega
      have jl : j < ts.length := by omega
      refine st_sh (fun d => d = .int (if gW bs i = gW ts j then 4 else 1)) (by simp [E.monos]) ?_ (by rintro _ rfl; rfl) ?_
      · simp only [sem_ite, sem_cmp, sem_ix, sem_var, sem_int]
        change optP (some (tS bs)) _
        simp only [optP_some]
        change optP (some (.int i)) _
        simp only [optP_some]
        refine ⟨_, at_gW il, ?_⟩
        change optP (some (tS ts)) _
        simp only [optP_some]
        change optP (some (.int j)) _
        simp only [optP_some]
        refine ⟨_, at_gW jl, ?_⟩
        show dCmp .Eq _ _ _
        rw [dCmp_eq]
        refine ⟨⟨rfl, rfl⟩, ?_⟩
        by_cases c : gW bs i = gW ts j
        · simp [c]
        · simp [c]
      rintro _ rfl
      change semS _ _ [.sh (tS bs), .sh (tS ts), .nw (rowsF f bs.length ts.length) as, .sh (.int i), .sh (.int j), .sh (.int (if gW bs i = gW ts j then 4 else 1))]
      refine st_nset (rows := rowsF f bs.length ts.length) (as := as) (j := i) (j2 := j) (ds := rowI f ts.length i) (v := .int (Vi bs ts i j)) (by simp [E.monos]) (by simp [E.monos]) (by simp [E.monos]) rfl ?_ rfl ?_ (rowsF_at (by omega)) ?_ (by rw [rowI_len]; omega) ?_
      · have ar : ∀ a, a ≤ bs.length → L2.atI ((rowsF f bs.length ts.length).map D.lst) (a : Int) = some (.lst (rowI f ts.length a)) := fun a ha => by
          unfold rowsF
          rw [List.map_map]
          exact at_tabL ha
        have ac : ∀ a b, b ≤ ts.length → L2.atI (rowI f ts.length a) (b : Int) = some (.int (f a b)) := fun a b hb => at_rowI hb
        have v1 := hf (i + 1) j (by omega) (by omega) (by omega)
        have v2 := hf i (j + 1) (by omega) (by omega) (by omega)
        have v3 := hf (i + 1) (j + 1) (by omega) (by omega) (by omega)
        generalize hE : ([.sh (tS bs), .sh (tS ts), .nw (rowsF f bs.length ts.length) as, .sh (.int i), .sh (.int j), .sh (.int (if gW bs i = gW ts j then 4 else 1))] : DEnv) = E
        have r2 : rdv E 2 = some (.lst ((rowsF f bs.length ts.length).map D.lst)) := by rw [← hE]; rfl
        have r3 : rdv E 3 = some (.int i) := by rw [← hE]; rfl
        have r4 : rdv E 4 = some (.int j) := by rw [← hE]; rfl
        have r5 : rdv E 5 = some (.int (if gW bs i = gW ts j then 4 else 1)) := by rw [← hE]; rfl
        simp only [sem_bf, sems_cons, sems_nil, sem_ix, sem_bin, sem_var, sem_int, r2, r3, r4, r5, val_sh, optP_some, dBin_ai, up_nat, dIx_l]
        refine ⟨_, ar (i + 1) (by omega), ?_⟩
        simp only [dIx_l]
        refine ⟨_, ac (i + 1) j (by omega), ?_⟩
        refine ⟨_, ar i (by omega), ?_⟩
        simp only [dIx_l]
        refine ⟨_, ac i (j + 1) (by omega), ?_⟩
        refine ⟨_, ar (i + 1) (by omega), ?_⟩
        simp only [dIx_l]
        refine ⟨_, ac (i + 1) (j + 1) (by omega), ?_⟩
        rw [v1, v2, v3, V_s il jl]
        simp
      · simp
      · simp
      · rw [rowsF_put (by omega) (by omega)]
        refine ⟨put f i j (Vi bs ts i j), _, _, rfl, fun a b ha hb h => ?_⟩
        unfold put
        by_cases c : a = i ∧ b = j
        · rw [if_pos c, c.1, c.2]
        · rw [if_neg c]
          refine hf a b ha hb ?_
          omega
    · rintro _ rfl e ⟨f, y, z, rfl, hf⟩
      refine ⟨f, _, _, _, rfl, fun a b ha hb h => hf a b ha hb ?_⟩
      rw [dn_len]
      omega
  · rintro _ rfl e ⟨f, x, y, z, rfl, hf⟩
    rw [dn_len] at hf
    have e : (rowsF f bs.length ts.length).map D.lst = (List.range (bs.length + 1)).map fun i => D.lst (rowI (Vi bs ts) ts.length i) := by
      unfold rowsF
      rw [List.map_map]
      refine List.map_congr_left fun a ha => ?_
      have ha := List.mem_range.mp ha
      show D.lst _ = D.lst _
      unfold rowI
      congr 1
      refine List.map_congr_left fun b hb => ?_
      rw [hf a b (by omega) (by have := List.mem_range.mp hb; omega) (by omega)]
    show optP (some (.lst ((rowsF f bs.length ts.length).map D.lst))) _
    rw [e]
    exact h
end K40

set_option Elab.async false
set_option linter.all false
set_option maxRecDepth 100000
set_option maxHeartbeats 4000000
/-! K40u: the walk by what is saved; drawn texts; all alignments. -/
namespace K40
open PySem PySem.Spec PyProof.Rows L2 DL FM
open K41 (gW gW_at sc L R cst stp go nxt R_s R_e R_f R_end Li Ri tS tab tabL rowI ok2 isStep tS_len up_nat at_map at_rng at_gW at_tabL at_rowI nm_I nm_tab nm_tS stp_keep stp_change stp_drop stp_add)
open Classical

section
variable {bs ts : List Str} {i j : Nat}
theorem W_A (hi : i < bs.length) (hj : j < ts.length) (h : R bs ts i j = R bs ts (i + 1) (j + 1) + sc bs ts i j) : W bs ts i j = (if gW bs i = gW ts j then ("keep" : Str) else "change") :: W bs ts (i + 1) (j + 1) := by
  obtain ⟨p, hp, hW⟩ := W_step (bs := bs) (ts := ts) (i := i) (j := j) (by omega) (by omega) (.inl hi)
  unfold nxt at hp hW
  rw [if_pos ⟨hi, hj, h⟩] at hp hW
  by_cases c : gW bs i = gW ts j
  · rw [if_pos c] at hp hW ⊢
    rw [stp_keep hi hj c] at hp
    cases hp
    exact hW
  · rw [if_neg c] at hp hW ⊢
    rw [stp_change hi hj c] at hp
    cases hp
    exact hW
theorem W_B (hi : i < bs.length) (hj : j ≤ ts.length) (n : ¬ (i < bs.length ∧ j < ts.length ∧ R bs ts i j = R bs ts (i + 1) (j + 1) + sc bs ts i j)) (h : R bs ts i j = R bs ts (i + 1) j + 2) : W bs ts i j = ("drop" : Str) :: W bs ts (i + 1) j := by
  obtain ⟨p, hp, hW⟩ := W_step (bs := bs) (ts := ts) (i := i) (j := j) (by omega) hj (.inl hi)
  unfold nxt at hp hW
  rw [if_neg n, if_pos ⟨hi, h⟩] at hp hW
  rw [stp_drop hi] at hp
  cases hp
  exact hW
theorem W_C (hi : i ≤ bs.length) (hj : j < ts.length) (n : ¬ (i < bs.length ∧ j < ts.length ∧ R bs ts i j = R bs ts (i + 1) (j + 1) + sc bs ts i j)) (h : ¬ (i < bs.length ∧ R bs ts i j = R bs ts (i + 1) j + 2)) : W bs ts i j = ("add" : Str) :: W bs ts i (j + 1) := by
  obtain ⟨p, hp, hW⟩ := W_step (bs := bs) (ts := ts) (i := i) (j := j) hi (by omega) (.inr hj)
  unfold nxt at hp hW
  rw [if_neg n, if_neg h] at hp hW
  rw [stp_add hj] at hp
  cases hp
  exact hW
end
structure V (bs ts ss : List Str) (i j : Nat) (e : DEnv) : Prop where
  len : e.length = 8
  r0 : rdv e 0 = some (tS bs)
  r1 : rdv e 1 = some (tS ts)
  r2 : rdv e 2 = some (tabL (Vi bs ts) bs.length ts.length)
  o3 : e[3]? = some (.ow (.lst (ss.map D.str)))
  r5 : rdv e 5 = some (.int i)
  r6 : rdv e 6 = some (.int j)
section
variable {bs ts ss : List Str} {i j : Nat} {e : DEnv}
theorem V.set {k : Nat} {x : Sl} (h : V bs ts ss i j e) (hk : k = 4 ∨ k = 7) : V bs ts ss i j (e.set k x) := by
  have n : ∀ m, m < 4 ∨ m = 5 ∨ m = 6 → k ≠ m := fun m h => by omega
  exact ⟨by rw [List.length_set]; exact h.len, (rdv_set_ne (n 0 (by omega))).trans h.r0, (rdv_set_ne (n 1 (by omega))).trans h.r1, (rdv_set_ne (n 2 (by omega))).trans h.r2, (List.getElem?_set_ne (n 3 (by omega))).trans h.o3, (rdv_set_ne (n 5 (by omega))).trans h.r5, (rdv_set_ne (n 6 (by omega))).trans h.r6⟩
theorem V.app {s : Str} (h : V bs ts ss i j e) : V bs ts (ss ++ [s]) i j (e.set 3 (.ow (.lst (ss.map D.str ++ [.str s])))) :=
  ⟨by rw [List.length_set]; exact h.len, (rdv_set_ne (by decide)).trans h.r0, (rdv_set_ne (by decide)).trans h.r1, (rdv_set_ne (by decide)).trans h.r2, by
    rw [List.getElem?_set_self (by rw [h.len]; decide)]
    simp, (rdv_set_ne (by decide)).trans h.r5, (rdv_set_ne (by decide)).trans h.r6⟩
theorem V.si {i' : Nat} (h : V bs ts ss i j e) : V bs ts ss i' j (e.set 5 (.sh (.int i'))) :=
  ⟨by rw [List.length_set]; exact h.len, (rdv_set_ne (by decide)).trans h.r0, (rdv_set_ne (by decide)).trans h.r1, (rdv_set_ne (by decide)).trans h.r2, (List.getElem?_set_ne (by decide)).trans h.o3, rdv_set_eq (by rw [h.len]; decide), (rdv_set_ne (by decide)).trans h.r6⟩
theorem V.sj {j' : Nat} (h : V bs ts ss i j e) : V bs ts ss i j' (e.set 6 (.sh (.int j'))) :=
  ⟨by rw [List.length_set]; exact h.len, (rdv_set_ne (by decide)).trans h.r0, (rdv_set_ne (by decide)).trans h.r1, (rdv_set_ne (by decide)).trans h.r2, (List.getElem?_set_ne (by decide)).trans h.o3, (rdv_set_ne (by decide)).trans h.r5, rdv_set_eq (by rw [h.len]; decide)⟩
theorem V.at2 {a b : Nat} (ha : a ≤ bs.length) (hb : b ≤ ts.length) {Q : D → Prop} (h : Q (.int (Vi bs ts a b))) : dIx (tabL (Vi bs ts) bs.length ts.length) (.int (a : Nat)) fun x => dIx x (.int (b : Nat)) Q :=
  ⟨_, at_tabL ha, _, at_rowI hb, h⟩
theorem V.both (h : V bs ts ss i j e) : semE (.andd (.cmp .Lt (.var 5) (.bf .len (.cons (.var 0) .nil))) (.cmp .Lt (.var 6) (.bf .len (.cons (.var 1) .nil)))) e fun d => ∃ b, d = .bl b ∧ b = decide (i < bs.length ∧ j < ts.length) := by
  simp [h.r0, h.r1, h.r5, h.r6, tS_len]
  by_cases q : i < bs.length
  · simp [q]
  · simp [q]
end
theorem V_A {bs ts : List Str} {i j : Nat} (hi : i < bs.length) (hj : j < ts.length) : decide (Vi bs ts i j = Vi bs ts (i + 1) (j + 1) + if gW bs i = gW ts j then 4 else 1) = decide (R bs ts i j = R bs ts (i + 1) (j + 1) + sc bs ts i j) := by
  rw [decide_eq_decide]
  unfold Vi sc
  split <;> omega
theorem V_B {bs ts : List Str} {i j : Nat} (hi : i < bs.length) (hj : j ≤ ts.length) : decide (Vi bs ts i j = Vi bs ts (i + 1) j) = decide (R bs ts i j = R bs ts (i + 1) j + 2) := by
  rw [decide_eq_decide]
  unfold Vi
  omega
/-- the second choice -/
def q_dr : S :=
(.cons (.iff (.andd (.cmp .Lt (.var 5) (.bf .len (.cons (.var 0) .nil))) (.cmp .Eq (.ix (.ix (.var 2) (.var 5)) (.var 6)) (.ix (.ix (.var 2) (.bin .Add (.var 5) (.int 1))) (.var 6))))
(.cons (.app 3 (.str "drop"))
(.cons (.asg 5 (.bin .Add (.var 5) (.int 1)))
.nil))
(.cons (.iff (.cmp .Lt (.var 6) (.bf .len (.cons (.var 1) .nil)))
(.cons (.app 3 (.str "add"))
(.cons (.asg 6 (.bin .Add (.var 6) (.int 1)))
.nil))
.nil)
.nil))
.nil)
theorem dr_ok {bs ts ss : List Str} {i j : Nat} {e : DEnv} {en : DEnds} (h : V bs ts ss i j e) (hs : ss.length ≤ 1000) (hi : i ≤ bs.length) (hj : j ≤ ts.length) (n : ¬ (i < bs.length ∧ j < ts.length ∧ R bs ts i j = R bs ts (i + 1) (j + 1) + sc bs ts i j))
    (g : ss ++ W bs ts i j = W bs ts 0 0) (nx : ∀ e' ss' i' j', V bs ts ss' i' j' e' → ss'.length ≤ ss.length + 1 → i' ≤ bs.length → j' ≤ ts.length → ss' ++ W bs ts i' j' = W bs ts 0 0 → (i + j + 1 ≤ i' + j' ∨ (i' = bs.length ∧ j' = ts.length)) → en.nx e') : semS q_dr en e := by
  refine st_if (fun t => t = decide (i < bs.length ∧ R bs ts i j = R bs ts (i + 1) j + 2)) (by simp [E.monos]) ?_ (fun z => ?_) (fun z => ?_)
  · simp only [sem_andd, sem_cmp, sem_ix, sem_bin, sem_bf, sems_cons, sems_nil, sem_var, sem_int, h.r0, h.r2, h.r5, h.r6, optP_some, tS_len, dBin_ai, up_nat]
    by_cases q : i < bs.length
    · simp [q]
      rw [up_nat]
      refine V.at2 hi hj ?_
      refine V.at2 (by omega) hj ?_
      refine ⟨⟨rfl, rfl⟩, ?_⟩
      rw [eqD_i, V_B q hj]
    · simp [q]
  · obtain ⟨q, c⟩ := of_decide_eq_true z.symm
    refine st_app (fun d => d = .str "drop") (by simp [E.monos]) h.o3 (by simp) (by rintro _ rfl; rfl) (by rw [List.length_map]; omega) ?_
    rintro _ rfl
    have h1 := h.app (s := "drop")
    refine st_sh (fun d => d = .int ((i + 1 : Nat) : Int)) (by simp [E.monos]) ?_ (by rintro _ rfl; rfl) ?_
    · simp only [sem_bin, sem_var, sem_int, h1.r5, optP_some, dBin_ai, up_nat]
    rintro _ rfl
    refine nx _ _ _ _ h1.si (by simp) (by omega) hj ?_ (.inl (by omega))
    rw [List.append_assoc, ← g, W_B q hj n c]
    rfl
  · have nc := of_decide_eq_false z.symm
    refine st_if (fun t => t = decide (j < ts.length)) (by simp [E.monos]) ?_ (fun z2 => ?_) (fun z2 => ?_)
    · simp [h.r1, h.r6, tS_len]
    · have q := of_decide_eq_true z2.symm
      refine st_app (fun d => d = .str "add") (by simp [E.monos]) h.o3 (by simp) (by rintro _ rfl; rfl) (by rw [List.length_map]; omega) ?_
      rintro _ rfl
      have h1 := h.app (s := "add")
      refine st_sh (fun d => d = .int ((j + 1 : Nat) : Int)) (by simp [E.monos]) ?_ (by rintro _ rfl; rfl) ?_
      · simp only [sem_bin, sem_var, sem_int, h1.r6, optP_some, dBin_ai, up_nat]
      rintro _ rfl
      refine nx _ _ _ _ h1.sj (by simp) hi (by omega) ?_ (.inl (by omega))
      rw [List.append_assoc, ← g, W_C hi q n nc]
      rfl
    · have q := of_decide_eq_false z2.symm
      have ej : j = ts.length := by omega
      refine nx e ss i j h (by omega) hi hj g (.inr ⟨?_, ej⟩)
      by_cases c : i < bs.length
      · subst ej
        exact absurd ⟨c, R_e c⟩ nc
      · omega
theorem step_ok {bs ts ss : List Str} {i j : Nat} {e : DEnv} {en : DEnds} (h : V bs ts ss i j e) (hs : ss.length ≤ 1000) (hi : i ≤ bs.length) (hj : j ≤ ts.length)
    (g : ss ++ W bs ts i j = W bs ts 0 0) (nx : ∀ e' ss' i' j', V bs ts ss' i' j' e' → ss'.length ≤ ss.length + 1 → i' ≤ bs.length → j' ≤ ts.length → ss' ++ W bs ts i' j' = W bs ts 0 0 → (i + j + 1 ≤ i' + j' ∨ (i' = bs.length ∧ j' = ts.length)) → en.nx e' ∧ en.ct e') : semS b_l_walked_1 en e := by
  refine st_if (fun t => t = decide (i < bs.length ∧ j < ts.length)) (by simp [E.monos]) h.both (fun z => ?_) (fun z => ?_)
  · obtain ⟨q, q2⟩ := of_decide_eq_true z.symm
    refine st_sh (fun d => d = .int (if gW bs i = gW ts j then 4 else 1)) (by simp [E.monos]) ?_ (by rintro _ rfl; rfl) ?_
    · simp only [sem_ite, sem_cmp, sem_ix, sem_var, sem_int, h.r0, h.r1, h.r5, h.r6, optP_some]
      refine ⟨_, at_gW q, _, at_gW q2, ?_⟩
      show dCmp .Eq _ _ _
      rw [dCmp_eq]
      refine ⟨⟨rfl, rfl⟩, ?_⟩
      by_cases c : gW bs i = gW ts j
      · simp [c]
      · simp [c]
    rintro _ rfl
    obtain ⟨e1, he1⟩ : ∃ e1, e1 = e.set 7 (.sh (.int (if gW bs i = gW ts j then 4 else 1))) := ⟨_, rfl⟩
    rw [← he1]
    have h1 : V bs ts ss i j e1 := by rw [he1]; exact h.set (.inr rfl)
    have r7 : rdv e1 7 = some (.int (if gW bs i = gW ts j then 4 else 1)) := by rw [he1]; exact rdv_set_eq (by rw [h.len]; decide)
    clear he1
    refine st_if (fun t => t = decide (R bs ts i j = R bs ts (i + 1) (j + 1) + sc bs ts i j)) (by simp [E.monos]) ?_ (fun z2 => ?_) (fun z2 => ?_)
    · simp only [sem_cmp, sem_ix, sem_bin, sem_var, sem_int, h1.r2, h1.r5, h1.r6, r7, optP_some, dBin_ai, up_nat]
      refine V.at2 hi hj ?_
      refine V.at2 (by omega) (by omega) ?_
      rw [dBin_ai, dCmp_eq]
      refine ⟨⟨rfl, rfl⟩, ?_⟩
      rw [eqD_i, V_A q q2]
      exact ⟨_, rfl, rfl⟩
    · have c := of_decide_eq_true z2.symm
      refine st_app (fun d => d = .str (if gW bs i = gW ts j then ("keep" : Str) else "change")) (by simp [E.monos]) h1.o3 ?_ (by rintro _ rfl; rfl) (by rw [List.length_map]; omega) ?_
      · by_cases c : gW bs i = gW ts j
        · simp [r7, c]
        · simp [r7, c]
      rintro _ rfl
      have h2 := h1.app (s := if gW bs i = gW ts j then ("keep" : Str) else "change")
      refine st_par (fun d => d = .int ((i + 1 : Nat) : Int)) (fun d => d = .int ((j + 1 : Nat) : Int)) (by simp [E.monos]) (by simp [E.monos]) ?_ ?_ (by rintro _ rfl; rfl) (by rintro _ rfl; rfl) ?_
      · simp only [sem_bin, sem_var, sem_int, h2.r5, optP_some, dBin_ai, up_nat]
      · simp only [sem_bin, sem_var, sem_int, h2.r6, optP_some, dBin_ai, up_nat]
      rintro _ _ rfl rfl
      refine (nx _ _ _ _ (h2.si.sj) (by simp) (by omega) (by omega) ?_ (.inl (by omega))).2
      rw [List.append_assoc, ← g, W_A q q2 c]
      rfl
    · have nc := of_decide_eq_false z2.symm
      exact dr_ok h1 hs hi hj (fun w => nc w.2.2) g fun e' ss' i' j' a b c d f k => (nx e' ss' i' j' a b c d f k).1
  · have nc := of_decide_eq_false z.symm
    exact dr_ok h hs hi hj (fun w => nc ⟨w.1, w.2.1⟩) g fun e' ss' i' j' a b c d f k => (nx e' ss' i' j' a b c d f k).1
theorem l_walked_ok : ∀ ds Q, sp_l_walked ds Q → bodySpec 8 b_l_walked ds Q := by
  rintro ds Q ⟨bs, ts, rfl, ⟨hb, ht⟩, h⟩
  show semS b_l_walked _ [.sh (tS bs), .sh (tS ts), .no, .no, .no, .no, .no, .no]
  refine st_asgR (fun d => d = tabL (Vi bs ts) bs.length ts.length) (by simp [E.monos, spm_l_saved]) ?_ ?_
  · simp
    exact ⟨bs, ts, rfl, ⟨hb, ht⟩, rfl⟩
  rintro _ rfl e1 R1
  have r0 : rdv e1 0 = some (tS bs) := (R1.rd 0 (by decide)).trans rfl
  have r1 : rdv e1 1 = some (tS ts) := (R1.rd 1 (by decide)).trans rfl
  have r2 := R1.at_ (by simp)
  have l1 : e1.length = 8 := R1.len
  refine st_ow (fun ds => ds = []) (by simp [E.monos]) rfl (by simp) (by rintro _ rfl; rfl) ?_
  rintro _ rfl
  have v0 : V bs ts [] 0 0 (((e1.set 3 (.ow (.lst []))).set 5 (.sh (.int (0 : Nat)))).set 6 (.sh (.int (0 : Nat)))) :=
    ⟨by rw [List.length_set, List.length_set, List.length_set]; exact l1, by rw [rdv_set_ne (by decide), rdv_set_ne (by decide), rdv_set_ne (by decide)]; exact r0, by rw [rdv_set_ne (by decide), rdv_set_ne (by decide), rdv_set_ne (by decide)]; exact r1, by rw [rdv_set_ne (by decide), rdv_set_ne (by decide), rdv_set_ne (by decide)]; exact r2,
      by rw [List.getElem?_set_ne (by decide), List.getElem?_set_ne (by decide), List.getElem?_set_self (by omega)]; rfl, by rw [rdv_set_ne (by decide)]; exact rdv_set_eq (by rw [List.length_set]; omega), rdv_set_eq (by rw [List.length_set, List.length_set]; omega)⟩
  show semS (.cons (.for_ (.var 4) (.r1 (.bin .Add (.bf .len (.cons (.var 0) .nil)) (.bf .len (.cons (.var 1) .nil)))) b_l_walked_1) (.cons (.ret (.bf .tuple (.cons (.var 3) .nil))) .nil)) _ (((e1.set 3 (.ow (.lst []))).set 5 (.sh (.int (0 : Nat)))).set 6 (.sh (.int (0 : Nat))))
  refine st_for (fun ds => ds = rangeD 0 ((bs.length + ts.length : Nat) : Int)) (by simp [E.monos]) rfl ?_ (by rintro _ rfl; simp) mb_l_walked_1
    (fun _ k e => ∃ ss i j, V bs ts ss i j e ∧ ss.length ≤ k ∧ i ≤ bs.length ∧ j ≤ ts.length ∧ ss ++ W bs ts i j = W bs ts 0 0 ∧ (k ≤ i + j ∨ (i = bs.length ∧ j = ts.length))) ?_ ?_ ?_
  · simp only [sem_r1, sem_bin, sem_bf, sems_cons, sems_nil, sem_var, v0.r0, v0.r1, optP_some, tS_len, dBin_ai, int1_int]
    refine ⟨by omega, _, rfl, ?_⟩
    push_cast
    rfl
  · rintro _ rfl
    exact ⟨[], 0, 0, v0, by simp, by omega, by omega, rfl, .inl (by omega)⟩
  · rintro _ rfl k d e hd ⟨ss, i, j, hv, hs, hi, hj, hg, hk⟩
    have hk2 := (rangeD_get hd).1
    show semS b_l_walked_1 _ (e.set 4 (.sh d))
    refine step_ok (hv.set (.inl rfl)) (by omega) hi hj hg fun e' ss' i' j' a b c d f g => ?_
    have : ∃ ss i j, V bs ts ss i j e' ∧ ss.length ≤ k + 1 ∧ i ≤ bs.length ∧ j ≤ ts.length ∧ ss ++ W bs ts i j = W bs ts 0 0 ∧ (k + 1 ≤ i + j ∨ (i = bs.length ∧ j = ts.length)) := ⟨ss', i', j', a, by omega, c, d, f, by omega⟩
    exact ⟨this, this⟩
  · rintro _ rfl e ⟨ss, i, j, hv, hs, hi, hj, hg, hk⟩
    rw [rangeD_len] at hk
    have ei : i = bs.length := by omega
    have ej : j = ts.length := by omega
    subst ei ej
    rw [W_end, List.append_nil] at hg
    have o3 : rdv e 3 = some (.lst (ss.map D.str)) := by
      unfold rdv
      rw [hv.o3]
      rfl
    simp [o3]
    rw [hg]
    exact h
end K40

set_option Elab.async false
set_option linter.all false
set_option maxRecDepth 100000
set_option maxHeartbeats 4000000
/-! K40t: drawn texts; all alignments, written down. -/
namespace K40
open PySem PySem.Spec PyProof.Rows L2 DL FM
open K41 (tS ok2 tS_len up_nat nm_tS)
open Classical

theorem lcD_draw {α : Type} {bind : D → (DEnv → Prop) → Prop} {cond : DEnv → (Bool → Prop) → Prop} {elt : DEnv → (D → Prop) → Prop} {g : α → D} {β : Type} {f : β → D} (P : β → Prop) : ∀ {xs : List α} {Q : List D → Prop},
    (∀ x ∈ xs, ∀ (Qt : D → Prop) (Qf : Prop), (∀ y, P y → Qt (f y)) → bind (g x) fun e1 => cond e1 fun b => match b with
      | true => elt e1 Qt
      | false => Qf) → (∀ ys : List β, ys.length = xs.length → (∀ y ∈ ys, P y) → Q (ys.map f)) → lcD bind cond elt (xs.map g) Q
  | [], Q, _, hq => hq [] rfl (fun y hy => nomatch hy)
  | x :: xs, Q, h, hq => by
    refine h x List.mem_cons_self (fun y => lcD bind cond elt (xs.map g) fun ys => Q (y :: ys)) (lcD bind cond elt (xs.map g) Q) ?_
    intro y py
    refine lcD_draw P (fun x hx => h x (List.mem_cons_of_mem _ hx)) fun ys h1 h2 => hq (y :: ys) (by simp [h1]) (fun z hz => ?_)
    rcases List.mem_cons.mp hz with rfl | hz
    · exact py
    · exact h2 z hz
structure T (n : Nat) (ws bs : List Str) (e : DEnv) : Prop where
  len : e.length = 8
  r0 : rdv e 0 = some (.tape true)
  r1 : rdv e 1 = some (.int n)
  r2 : rdv e 2 = some (.lst (ws.map D.str))
  r3 : rdv e 3 = some (.lst (bs.map D.str))
theorem T.set {n : Nat} {ws bs : List Str} {e : DEnv} {k : Nat} {x : Sl} (h : T n ws bs e) (hk : 4 ≤ k) : T n ws bs (e.set k x) :=
  ⟨by rw [List.length_set]; exact h.len, (rdv_set_ne (by omega)).trans h.r0, (rdv_set_ne (by omega)).trans h.r1, (rdv_set_ne (by omega)).trans h.r2, (rdv_set_ne (by omega)).trans h.r3⟩
theorem pick_w {ws : List Str} (h0 : ws ≠ []) (h1 : ws.length ≤ 4) {Q : D → Prop} (h : ∀ s, Q (.str s)) : spPick true [.tape true, .lst (ws.map D.str)] Q := by
  refine spPick_lst ⟨⟨by simpa using h0, by rw [List.length_map]; omega⟩, fun x hx => ?_⟩
  obtain ⟨s, _, rfl⟩ := List.mem_map.mp hx
  exact h s
theorem draw_ok {n : Nat} {ws : List Str} {e : DEnv} (hn : n ≤ 40) (h0 : ws ≠ []) (h1 : ws.length ≤ 4) (le : e.length = 8) (r0 : rdv e 0 = some (.tape true)) (r1 : rdv e 1 = some (.int n)) (r2 : rdv e 2 = some (.lst (ws.map D.str))) {Q : D → Prop}
    (h : ∀ rs : List Str, rs.length ≤ n → Q (.lst (rs.map D.str))) : semE c_l_texts_1 e Q := by
  have w : ∀ (x : D) (j : Nat), j ≠ 7 → rdv ((wipeD e [7]).set 7 (.sh x)) j = rdv e j := fun x j hj => by
    rw [rdv_set_ne (Ne.symm hj)]
    simp only [wipeD]
    rw [rdv_set_ne (Ne.symm hj)]
  simp only [c_l_texts_1, sem_lc, sem_r1, sem_call, sems_cons, sems_nil, sem_bin, sem_var, sem_int, r0, r1, optP_some, dBin_ai]
  rw [spNum_iff]
  refine ⟨⟨by omega, by omega⟩, fun r a b => ?_⟩
  obtain ⟨k, rfl⟩ : ∃ k : Nat, r = k := ⟨r.toNat, by omega⟩
  simp only [int1_int, dItems_l, rangeD_zero]
  refine ⟨by omega, lcD_draw (f := D.str) (fun _ => True) (fun x hx Qt Qf hq => ?_) fun rs l1 _ => ?_⟩
  · simp only [condD_n, bindT_v, isNil_nil, sem_call, sems_cons, sems_nil, sem_var, List.map_cons, List.map_nil, w _ 0 (by decide), w _ 2 (by decide), r0, r2, optP_some]
    exact pick_w h0 h1 fun s => hq s trivial
  · rw [List.length_range] at l1
    exact h rs (by omega)
theorem word_ok {n : Nat} {ws bs tx : List Str} {e : DEnv} {w : Str} {en : DEnds} (h0 : ws ≠ []) (h1 : ws.length ≤ 4) (h : T n ws bs e) (r5 : rdv e 5 = some (.str w)) (o4 : e[4]? = some (.ow (.lst (tx.map D.str)))) (hl : tx.length ≤ 1000)
    (nx : ∀ (e' : DEnv) (tx' : List Str), T n ws bs e' → e'[4]? = some (.ow (.lst (tx'.map D.str))) → tx'.length ≤ tx.length + 4 → en.nx e') : semS b_l_texts_1 en e := by
  refine st_sh (fun d => ∃ r : Int, d = .int r) (by simp [E.monos, spNum_mono]) ?_ (by rintro _ ⟨r, rfl⟩; rfl) ?_
  · simp only [sem_call, sems_cons, sems_nil, sem_var, sem_int, h.r0, optP_some]
    rw [spNum_iff]
    exact ⟨⟨by omega, by omega⟩, fun r _ _ => ⟨r, rfl⟩⟩
  rintro _ ⟨r, rfl⟩
  have t1 := h.set (k := 6) (x := .sh (.int r)) (by decide)
  have a5 : rdv (e.set 6 (.sh (.int r))) 5 = some (.str w) := (rdv_set_ne (by decide)).trans r5
  have a6 : rdv (e.set 6 (.sh (.int r))) 6 = some (.int r) := rdv_set_eq (by rw [h.len]; decide)
  have a4 : (e.set 6 (.sh (.int r)))[4]? = some (.ow (.lst (tx.map D.str))) := by rw [List.getElem?_set_ne (by decide)]; exact o4
  generalize e.set 6 (.sh (.int r)) = e1 at t1 a5 a6 a4
  let J : Nat → DEnv → Prop := fun m e' => ∃ tx' : List Str, T n ws bs e' ∧ rdv e' 5 = some (.str w) ∧ rdv e' 6 = some (.int r) ∧ e'[4]? = some (.ow (.lst (tx'.map D.str))) ∧ tx'.length ≤ tx.length + m
  have keep : ∀ {e' : DEnv} {tx' : List Str} {m : Nat}, T n ws bs e' → rdv e' 5 = some (.str w) → rdv e' 6 = some (.int r) → tx'.length ≤ tx.length + m → J m (e'.set 4 (.ow (.lst (tx'.map D.str)))) := fun {e' tx' m} a b c d =>
    ⟨tx', a.set (by decide), (rdv_set_ne (by decide)).trans b, (rdv_set_ne (by decide)).trans c, List.getElem?_set_self (by rw [a.len]; decide), d⟩
  refine st_ifJ (fun _ => True) (J 1) (by simp [E.monos]) (by simp [S.monos, E.monos, spPick_mono]) (by simp [S.monos]) ?_ (fun _ => ?_) (fun _ => ?_) ?_
  · simp [a6, shal]
  · refine st_app (fun d => ∃ s : Str, d = .str s) (by simp [E.monos, spPick_mono]) a4 ?_ (by rintro _ ⟨s, rfl⟩; rfl) (by rw [List.length_map]; omega) ?_
    · simp only [sem_call, sems_cons, sems_nil, sem_var, t1.r0, t1.r2, optP_some]
      exact pick_w h0 h1 fun s => ⟨s, rfl⟩
    · rintro _ ⟨s, rfl⟩
      have := keep (tx' := tx ++ [s]) (m := 1) t1 a5 a6 (by simp)
      rw [List.map_append] at this
      exact this
  · exact ⟨tx, t1, a5, a6, a4, by omega⟩
  rintro e2 ⟨tx2, t2, b5, b6, b4, bl⟩
  refine st_ifJ (fun _ => True) (J 3) (by simp [E.monos]) (by simp [S.monos, E.monos, spPick_mono]) (by simp [S.monos]) ?_ (fun _ => ?_) (fun _ => ?_) ?_
  · simp [b6, shal]
  · refine st_ow (fun ds => ∃ s : Str, ds = (tx2 ++ [w, s]).map D.str) (by simp [E.monos, spPick_mono]) rfl ?_ (by rintro _ ⟨s, rfl⟩; exact noMuts_map _ fun _ => rfl) ?_
    · have b4' : rdv e2 4 = some (.lst (tx2.map D.str)) := by
        unfold rdv
        rw [b4]
        rfl
      simp only [sem_bin, sem_lst, sem_call, sems_cons, sems_nil, sem_var, b4', b5, t2.r0, t2.r2, optP_some]
      refine pick_w h0 h1 fun s => ?_
      rw [dBin_al]
      refine ⟨by simp; omega, _, rfl, s, ?_⟩
      simp
    · rintro _ ⟨s, rfl⟩
      exact keep (tx' := tx2 ++ [w, s]) (m := 3) t2 b5 b6 (by simp; omega)
  · exact ⟨tx2, t2, b5, b6, b4, by omega⟩
  rintro e3 ⟨tx3, t3, c5, c6, c4, cl⟩
  refine st_ifJ (fun _ => True) (J 4) (by simp [E.monos]) (by simp [S.monos, E.monos]) (by simp [S.monos]) ?_ (fun _ => ?_) (fun _ => ?_) ?_
  · simp [c6]
    omega
  · refine st_app (fun d => d = .str w) (by simp [E.monos]) c4 (by simp [c5]) (by rintro _ rfl; rfl) (by rw [List.length_map]; omega) ?_
    rintro _ rfl
    have := keep (tx' := tx3 ++ [w]) (m := 4) t3 c5 c6 (by simp; omega)
    rw [List.map_append] at this
    exact this
  · exact ⟨tx3, t3, c5, c6, c4, by omega⟩
  rintro e4 ⟨tx4, t4, _, _, d4, dl⟩
  exact nx e4 tx4 t4 d4 dl
theorem aft_look {i : Nat} {ds : List D} {env : DEnv} : aft (.var i) (.lst ds) env = frz env [i] := rfl
theorem l_texts_ok : ∀ ds Q, sp_l_texts ds Q → bodySpec 8 b_l_texts ds Q := by
  rintro ds Q ⟨n, rfl, ⟨n1, n2⟩, h⟩
  show semS b_l_texts _ [.sh (.tape true), .sh (.int n), .no, .no, .no, .no, .no, .no]
  refine st_asgR (fun d => ∃ ws : List Str, d = .lst (ws.map D.str) ∧ ws ≠ [] ∧ ws.length ≤ 4) (by simp [E.monos, spNum_mono]) ?_ ?_
  · simp only [sem_sl, sem_lst, sems_cons, sems_nil, sem_str, isNil_nil, isNil_bin, partD_n, partD_i, sem_bin, sem_int, sem_call, sem_var]
    change optP (some (.tape true)) _
    simp only [optP_some]
    rw [spNum_iff]
    refine ⟨⟨by omega, by omega⟩, fun r a b => ?_⟩
    rw [dBin_ai, int1_int, dSl_l, cut_take _ _ (by omega)]
    refine ⟨(["a", "b", "ab", "c"] : List Str).take (1 + r).toNat, by rw [List.map_take]; rfl, fun z => ?_, by rw [List.length_take]; simp; omega⟩
    have := congrArg List.length z
    rw [List.length_take] at this
    simp at this
    omega
  rintro _ ⟨ws, rfl, h0, h1⟩ e1 R1
  have r0 : rdv e1 0 = some (.tape true) := (R1.rd 0 (by decide)).trans rfl
  have r1 : rdv e1 1 = some (.int n) := (R1.rd 1 (by decide)).trans rfl
  have r2 := R1.at_ (by simp)
  have l1 : e1.length = 8 := R1.len
  refine st_asgR (fun d => ∃ bs : List Str, d = .lst (bs.map D.str) ∧ bs.length ≤ n) (by simp [E.monos, c_l_texts_1, spNum_mono, spPick_mono]) ?_ ?_
  · exact draw_ok n2 h0 h1 l1 r0 r1 r2 fun rs hl => ⟨rs, rfl, hl⟩
  rintro _ ⟨bs, rfl, hb⟩ e2 R2
  have t2 : T n ws bs e2 := ⟨R2.len.trans l1, (R2.rd 0 (by decide)).trans r0, (R2.rd 1 (by decide)).trans r1, (R2.rd 2 (by decide)).trans r2, R2.at_ (by omega)⟩
  refine st_if (fun _ => True) (by simp [E.monos, spNum_mono]) ?_ (fun _ => ?_) (fun _ => ?_)
  · simp only [sem_cmp, sem_call, sems_cons, sems_nil, sem_var, sem_int, t2.r0, optP_some]
    rw [spNum_iff]
    refine ⟨⟨by omega, by omega⟩, fun r a b => ?_⟩
    simp [shal]
    omega
  · show semE _ _ _
    simp only [sem_tup, sem_bf, sems_cons, sems_nil, sem_var, t2.r3, optP_some, dBf_tl]
    refine draw_ok n2 h0 h1 t2.len t2.r0 t2.r1 t2.r2 fun rs hl => ?_
    rw [dBf_tl]
    exact h bs rs hb hl
  refine st_ow (fun ds => ds = []) (by simp [E.monos]) rfl (by simp) (by rintro _ rfl; rfl) ?_
  rintro _ rfl
  have t3 : T n ws bs (e2.set 4 (.ow (.lst []))) := t2.set (by decide)
  have o3 : (e2.set 4 (.ow (.lst [])))[4]? = some (.ow (.lst (([] : List Str).map D.str))) := List.getElem?_set_self (by rw [t2.len]; decide)
  generalize e2.set 4 (.ow (.lst [])) = e3 at t3 o3
  refine st_for' (env' := frz e3 [3]) (fun ds => ds = bs.map D.str) (by simp [E.monos]) ?_ mb_l_texts_1 (fun _ k e => ∃ tx : List Str, T n ws bs e ∧ e[4]? = some (.ow (.lst (tx.map D.str))) ∧ tx.length ≤ 4 * k) ?_ ?_ ?_
  · simp only [sem_var, t3.r3, optP_some, dItems_l]
    exact ⟨trivial, aft_look⟩
  · rintro _ rfl
    refine ⟨[], ⟨by rw [frz_length]; exact t3.len, frz_rdv.trans t3.r0, frz_rdv.trans t3.r1, frz_rdv.trans t3.r2, frz_rdv.trans t3.r3⟩, ?_, by simp⟩
    rw [frz_get, if_neg (by decide)]
    exact o3
  · rintro _ rfl k d e hd ⟨tx, t4, o4, hl⟩
    have hk := (List.getElem?_eq_some_iff.mp hd).1
    rw [List.length_map] at hk
    obtain ⟨w, _, rfl⟩ := List.mem_map.mp (List.mem_of_getElem? hd)
    show semS b_l_texts_1 _ (e.set 5 (.sh (.str w)))
    refine word_ok h0 h1 (t4.set (by decide)) (rdv_set_eq (by rw [t4.len]; decide)) (by rw [List.getElem?_set_ne (by decide)]; exact o4) (by omega) fun e' tx' a b c => ⟨tx', a, b, by omega⟩
  · rintro _ rfl e ⟨tx, t4, o4, hl⟩
    have o4' : rdv e 4 = some (.lst (tx.map D.str)) := by
      unfold rdv
      rw [o4]
      rfl
    show semE _ _ _
    simp only [sem_tup, sem_bf, sems_cons, sems_nil, sem_var, t4.r3, o4', t4.r1, optP_some, dBf_tl, sem_sl, isNil_nil, isNil_var, partD_n, partD_i, int1_int, dSl_l]
    rw [cut_take _ _ (by omega), Int.toNat_natCast, ← List.map_take]
    exact h bs (tx.take n) hb (by rw [List.length_take]; omega)
/-! ### all alignments -/
theorem shal_tS (l : List Str) : shal 8 (tS l) = true := by
  show shal 8 (.tup (l.map D.str)) = true
  rw [shal_tup, List.all_eq_true]
  intro d hd
  obtain ⟨s, _, rfl⟩ := List.mem_map.mp hd
  rfl
theorem eq_nil (bs : List Str) : eqD (tS bs) (.tup []) = decide (bs = []) := by
  cases bs with
  | nil => rfl
  | cons b bs =>
    rw [decide_eq_false (by simp)]
    rfl
theorem cE {e : DEnv} {i : Nat} {bs : List Str} {Q : D → Prop} (h : rdv e i = some (tS bs)) (q : Q (.bl (decide (bs = [])))) : semE (.cmp .Eq (.var i) (.tup .nil)) e Q := by
  simp only [sem_cmp, sem_var, h, optP_some, sem_tup, sems_nil]
  rw [dCmp_eq, eq_nil]
  exact ⟨⟨shal_tS bs, rfl⟩, q⟩
theorem cNe {e : DEnv} {i : Nat} {bs : List Str} {Q : D → Prop} (h : rdv e i = some (tS bs)) (q : Q (.bl (!decide (bs = [])))) : semE (.cmp .NotEq (.var i) (.tup .nil)) e Q := by
  simp only [sem_cmp, sem_var, h, optP_some, sem_tup, sems_nil]
  rw [dCmp_ne, eq_nil]
  exact ⟨⟨shal_tS bs, rfl⟩, q⟩
theorem more_ok {n k : Nat} {a b : List Str} {A B X : E} {e : DEnv} (hn : a.length + b.length < n) (h10 : a.length + b.length ≤ 10) (mA : A.monos) (mB : B.monos) (mX : X.monos) (hA : semE A e fun d => d = tS a) (hB : semE B e fun d => d = tS b) (le : 4 < e.length)
    (hX : ∀ x, semE X ((wipeD e [4]).set 4 (.sh x)) fun d => d = .int (k : Nat)) {F : List D} {Q : D → Prop} (hF : F.length + 59049 ≤ 16777216) (r2 : rdv e 2 = some (.lst F)) (q : Q (.lst (F ++ (all a b).map fun r => tN (k :: r)))) :
    semE (.bin .Add (.var 2) (.lc [("rest_v", 4)] (.bin .Add (.tup (.cons X .nil)) (.var 4)) (.var 4) (.call "_law_all" (spr_l_all n) (.cons A (.cons B .nil))) .nil)) e Q := by
  simp only [sem_bin, sem_lc, sem_call, sems_cons, sems_nil, sem_var, r2, optP_some]
  refine sem_le mA hA ?_
  rintro _ rfl
  refine sem_le mB hB ?_
  rintro _ rfl
  cases n with
  | zero => omega
  | succ n =>
    refine ⟨a, b, rfl, ⟨by omega, h10⟩, ?_⟩
    show lcD _ _ _ ((all a b).map tN) _
    refine lcD_map (f := fun r : List Nat => tN (k :: r)) (fun r hr Qt Qf hq => ?_) ?_
    · simp only [condD_n, bindT_v, isNil_nil, sem_tup, sems_cons, sems_nil, List.map_cons, List.map_nil]
      refine sem_le mX (hX _) ?_
      rintro _ rfl
      change optP (rdv ((wipeD e [4]).set 4 (.sh (tN r))) 4) _
      rw [rdv_set_eq (by rw [wipeD_length]; exact le)]
      show dBin .Add (.tup [.int (k : Nat)]) (.tup (nI r)) Qt
      rw [dBin_at]
      have := (all_row a b r hr).1
      exact ⟨by unfold nI; simp; omega, hq⟩
    · show dBin .Add (.lst F) (.lst _) Q
      rw [dBin_al]
      have := all_len a b
      have h3 : 3 ^ (a.length + b.length) ≤ 3 ^ 10 := Nat.pow_le_pow_right (by omega) h10
      have : (3 : Nat) ^ 10 = 59049 := by decide
      exact ⟨by rw [List.length_map]; omega, q⟩
def F3 : List Str → List Str → List D
  | b :: bs, t :: ts => (all bs ts).map fun r => tN (kd b t :: r)
  | _, _ => []
def F4 : List Str → List Str → List D
  | _ :: bs, ts => (all bs ts).map fun r => tN (2 :: r)
  | [], _ => []
def F5 : List Str → List Str → List D
  | bs, _ :: ts => (all bs ts).map fun r => tN (3 :: r)
  | _, [] => []
theorem F_all {bs ts : List Str} (h : ¬ (bs = [] ∧ ts = [])) : F3 bs ts ++ F4 bs ts ++ F5 bs ts = (all bs ts).map tN := by
  match bs, ts, h with
  | [], [], h => exact absurd ⟨rfl, rfl⟩ h
  | b :: bs, [], _ =>
    rw [all, List.map_map]
    show ([] ++ (all bs []).map _) ++ [] = _
    simp
  | [], t :: ts, _ =>
    rw [all, List.map_map]
    show ([] ++ []) ++ (all [] ts).map _ = _
    simp
  | b :: bs, t :: ts, _ =>
    rw [all, List.map_append, List.map_append, List.map_map, List.map_map, List.map_map, ← List.append_assoc]
    rfl
theorem pow_all {a b : List Str} (h : a.length + b.length ≤ 10) : (all a b).length ≤ 59049 := by
  have := all_len a b
  have h3 : 3 ^ (a.length + b.length) ≤ 3 ^ 10 := Nat.pow_le_pow_right (by omega) h
  have : (3 : Nat) ^ 10 = 59049 := by decide
  omega
theorem F3_len {bs ts : List Str} (h : bs.length + ts.length ≤ 10) : (F3 bs ts).length ≤ 59049 := by
  unfold F3
  split
  · rw [List.length_map]
    exact pow_all (by simp at h; omega)
  · simp
theorem F4_len {bs ts : List Str} (h : bs.length + ts.length ≤ 10) : (F4 bs ts).length ≤ 59049 := by
  unfold F4
  split
  · rw [List.length_map]
    exact pow_all (by simp at h; omega)
  · simp
theorem nm_tN (l : List Nat) : noMut (tN l) = true := noMuts_map _ fun _ => rfl
theorem at0 {α : Type} {x : α} {xs : List α} : L2.atI (x :: xs) 0 = some x := by
  unfold L2.atI ixN
  simp
theorem some_c {l : List Str} (h : ¬ l = []) : ∃ b l', l = b :: l' := by
  cases l with
  | nil => exact absurd rfl h
  | cons b l' => exact ⟨b, l', rfl⟩
theorem nmF3 (bs ts : List Str) : noMuts (F3 bs ts) = true := by
  unfold F3
  split
  · exact noMuts_map _ fun r => nm_tN _
  · rfl
theorem nmF4 (bs ts : List Str) : noMuts (F4 bs ts) = true := by
  unfold F4
  split
  · exact noMuts_map _ fun r => nm_tN _
  · rfl
theorem nmF5 (bs ts : List Str) : noMuts (F5 bs ts) = true := by
  unfold F5
  split
  · exact noMuts_map _ fun r => nm_tN _
  · rfl
theorem nm_app : ∀ {a b : List D}, noMuts a = true → noMuts b = true → noMuts (a ++ b) = true
  | [], b, _, h => h
  | x :: a, b, h, g => by
    simp only [noMuts, Bool.and_eq_true] at h
    simp only [List.cons_append, noMuts, Bool.and_eq_true]
    exact ⟨h.1, nm_app h.2 g⟩
theorem l_all_ok : ∀ n, ∀ ds Q, spr_l_all (n + 1) ds Q → bodySpec 5 (b_l_all (spr_l_all n)) ds Q := by
  rintro n ds Q ⟨bs, ts, rfl, ⟨hn, h10⟩, h⟩
  show semS (b_l_all (spr_l_all n)) _ [.sh (tS bs), .sh (tS ts), .no, .no, .no]
  have msp := spm_r_l_all n
  let J : List D → DEnv → Prop := fun F e => ∃ x y, e = [.sh (tS bs), .sh (tS ts), .ow (.lst F), x, y]
  refine st_if (fun t => t = decide (bs = [] ∧ ts = [])) (by simp [E.monos]) ?_ (fun z => ?_) (fun z => ?_)
  · rw [sem_andd]
    refine cE (bs := bs) rfl ?_
    by_cases c : bs = []
    · rw [decide_eq_true c]
      simp only [bif2_bl, if_true]
      refine cE (bs := ts) rfl ⟨_, rfl, ?_⟩
      simp [c]
    · rw [decide_eq_false c]
      simp only [bif2_bl, Bool.false_eq_true, if_false]
      exact ⟨_, rfl, by simp [c]⟩
  · obtain ⟨rfl, rfl⟩ := of_decide_eq_true z.symm
    rw [all] at h
    exact h
  have nz := of_decide_eq_false z.symm
  refine st_ow (fun ds => ds = []) (by simp [E.monos]) rfl (by simp) (by rintro _ rfl; rfl) ?_
  rintro _ rfl
  have j0 : J [] [.sh (tS bs), .sh (tS ts), .ow (.lst []), .no, .no] := ⟨_, _, rfl⟩
  change semS _ _ [.sh (tS bs), .sh (tS ts), .ow (.lst []), .no, .no]
  refine st_ifJ (fun t => t = !decide (bs = [] ∨ ts = [])) (J (F3 bs ts)) (by simp [E.monos]) (by simp [S.monos, E.monos, msp]) (by simp [S.monos]) ?_ (fun z => ?_) (fun z => ?_) ?_
  · rw [sem_andd]
    refine cNe (bs := bs) rfl ?_
    by_cases c : bs = []
    · rw [decide_eq_true c]
      simp only [Bool.not_true, bif2_bl, Bool.false_eq_true, if_false]
      exact ⟨_, rfl, by simp [c]⟩
    · rw [decide_eq_false c]
      simp only [Bool.not_false, bif2_bl, if_true]
      refine cNe (bs := ts) rfl ⟨_, rfl, ?_⟩
      simp [c]
  · have z' : ¬ (bs = [] ∨ ts = []) := by simpa using z
    obtain ⟨b, bs', rfl⟩ := some_c fun e => z' (.inl e)
    obtain ⟨t, ts', rfl⟩ := some_c fun e => z' (.inr e)
    refine st_sh (fun d => d = .int (kd b t : Nat)) (by simp [E.monos]) ?_ (by rintro _ rfl; rfl) ?_
    · simp only [sem_ite, sem_cmp, sem_ix, sem_var, sem_int]
      refine ⟨.str b, at0, ?_⟩
      refine ⟨.str t, at0, ?_⟩
      show dCmp .Eq _ _ _
      rw [dCmp_eq]
      refine ⟨⟨rfl, rfl⟩, ?_⟩
      unfold kd
      by_cases c : b = t
      · simp [c]
      · simp [c]
    rintro _ rfl
    change semS _ _ [.sh (tS (b :: bs')), .sh (tS (t :: ts')), .ow (.lst []), .sh (.int (kd b t : Nat)), .no]
    refine st_ow (fun ds => ds = F3 (b :: bs') (t :: ts')) (by simp [E.monos, msp]) rfl ?_ (by rintro _ rfl; exact nmF3 _ _) ?_
    · refine more_ok (a := bs') (b := ts') (k := kd b t) (F := []) (by simp at hn; omega) (by simp at h10; omega) (by simp [E.monos]) (by simp [E.monos]) (by simp [E.monos]) ?_ ?_ (by simp) ?_ (by simp) ?_ ⟨_, rfl, rfl⟩
      · show D.tup _ = _
        rw [cut_drop _ _ (by omega)]
        rfl
      · show D.tup _ = _
        rw [cut_drop _ _ (by omega)]
        rfl
      · intro x
        rfl
      · rfl
    rintro _ rfl
    exact ⟨_, _, rfl⟩
  · have : F3 bs ts = [] := by
      match bs, ts, z with
      | [], _, _ => rfl
      | _ :: _, [], _ => rfl
      | _ :: _, _ :: _, z => simp at z
    rw [this]
    exact j0
  rintro e1 ⟨x, y, rfl⟩
  refine st_ifJ (fun t => t = !decide (bs = [])) (J (F3 bs ts ++ F4 bs ts)) (by simp [E.monos]) (by simp [S.monos, E.monos, msp]) (by simp [S.monos]) ?_ (fun z => ?_) (fun z => ?_) ?_
  · exact cNe (bs := bs) rfl ⟨_, rfl, rfl⟩
  · have l3 := F3_len h10
    have n3 := nmF3 bs ts
    generalize F3 bs ts = G at l3 n3
    have z' : ¬ bs = [] := by simpa using z
    obtain ⟨b, bs', rfl⟩ := some_c z'
    refine st_ow (fun ds => ds = G ++ F4 (b :: bs') ts) (by simp [E.monos, msp]) rfl ?_ ?_ ?_
    · refine more_ok (a := bs') (b := ts) (k := 2) (F := G) (by simp at hn; omega) (by simp at h10; omega) (by simp [E.monos]) (by simp [E.monos]) (by simp [E.monos]) ?_ ?_ (by simp) ?_ (by omega) ?_ ⟨_, rfl, rfl⟩
      · show D.tup _ = _
        rw [cut_drop _ _ (by omega)]
        rfl
      · rfl
      · intro x
        rfl
      · rfl
    · rintro _ rfl
      exact nm_app n3 (nmF4 _ _)
    rintro _ rfl
    exact ⟨_, _, rfl⟩
  · have : F4 bs ts = [] := by
      match bs, z with
      | [], _ => rfl
      | _ :: _, z => simp at z
    rw [this, List.append_nil]
    exact ⟨_, _, rfl⟩
  rintro e1 ⟨x, y, rfl⟩
  refine st_ifJ (fun t => t = !decide (ts = [])) (J (F3 bs ts ++ F4 bs ts ++ F5 bs ts)) (by simp [E.monos]) (by simp [S.monos, E.monos, msp]) (by simp [S.monos]) ?_ (fun z => ?_) (fun z => ?_) ?_
  · exact cNe (bs := ts) rfl ⟨_, rfl, rfl⟩
  · have l3 : (F3 bs ts ++ F4 bs ts).length ≤ 118098 := by
      have := F3_len h10
      have := F4_len h10
      rw [List.length_append]
      omega
    have n3 := nm_app (nmF3 bs ts) (nmF4 bs ts)
    generalize F3 bs ts ++ F4 bs ts = G at l3 n3
    have z' : ¬ ts = [] := by simpa using z
    obtain ⟨t, ts', rfl⟩ := some_c z'
    refine st_ow (fun ds => ds = G ++ F5 bs (t :: ts')) (by simp [E.monos, msp]) rfl ?_ ?_ ?_
    · refine more_ok (a := bs) (b := ts') (k := 3) (F := G) (by simp at hn; omega) (by simp at h10; omega) (by simp [E.monos]) (by simp [E.monos]) (by simp [E.monos]) ?_ ?_ (by simp) ?_ (by omega) ?_ ⟨_, rfl, ?_⟩
      · rfl
      · show D.tup _ = _
        rw [cut_drop _ _ (by omega)]
        rfl
      · intro x
        rfl
      · rfl
      · cases bs <;> rfl
    · rintro _ rfl
      exact nm_app n3 (nmF5 _ _)
    rintro _ rfl
    exact ⟨_, _, rfl⟩
  · have : F5 bs ts = [] := by
      match ts, z with
      | [], _ => rfl
      | _ :: _, z => simp at z
    rw [this, List.append_nil]
    exact ⟨_, _, rfl⟩
  rintro e1 ⟨x, y, rfl⟩
  show Q (.lst _)
  rw [F_all nz]
  exact h
end K40

set_option Elab.async false
set_option linter.all false
set_option maxRecDepth 100000
set_option maxHeartbeats 4000000
/-! K40g: what is right; the law. -/
namespace K40
open PySem PySem.Spec PyProof.Rows L2 DL FM
open K41 (gW gW_at sc L R cst stp go nxt R_s R_e R_f R_end Li Ri tS tab tabL rowI ok2 isStep tS_len up_nat at_map at_rng at_gW at_tabL at_rowI nm_I nm_tab nm_tS stp_keep stp_change stp_drop stp_add nxt_ok stp_inc stp_up go_cons opt_of sp_levels sp_cost_of spm_levels spm_cost_of)
open Classical

section
variable {bs ts : List Str}
theorem go_W : ∀ (N i j : Nat), i ≤ bs.length → j ≤ ts.length → (bs.length - i) + (ts.length - j) ≤ N → go bs ts (W bs ts i j) i j = some (bs.length, ts.length) ∧ K41.cost (W bs ts i j) = R bs ts i j := by
  have e0 : go bs ts (W bs ts bs.length ts.length) bs.length ts.length = some (bs.length, ts.length) ∧ K41.cost (W bs ts bs.length ts.length) = R bs ts bs.length ts.length := by
    rw [W_end, R_end]
    exact ⟨rfl, rfl⟩
  intro N
  induction N with
  | zero =>
    intro i j hi hj h
    have e1 : i = bs.length := by omega
    have e2 : j = ts.length := by omega
    subst e1 e2
    exact e0
  | succ N ih =>
    intro i j hi hj h
    by_cases q : i < bs.length ∨ j < ts.length
    · obtain ⟨p, hp, hW⟩ := W_step hi hj q
      obtain ⟨p', hp', hR⟩ := nxt_ok hi hj q
      rw [hp] at hp'
      cases hp'
      have a := stp_inc hp
      have b := stp_up hp
      obtain ⟨g, c⟩ := ih p.1 p.2 (by omega) (by omega) (by omega)
      rw [hW, go_cons hp]
      refine ⟨g, ?_⟩
      have : K41.cost (nxt bs ts i j :: W bs ts p.1 p.2) = cst (nxt bs ts i j) + K41.cost (W bs ts p.1 p.2) := by
        unfold K41.cost
        rw [List.map_cons, List.sum_cons]
      rw [this, c, hR]
      omega
    · have e1 : i = bs.length := by omega
      have e2 : j = ts.length := by omega
      subst e1 e2
      exact e0
theorem RL : R bs ts 0 0 = L bs ts bs.length ts.length := by
  obtain ⟨g, c⟩ := go_W (bs := bs) (ts := ts) _ 0 0 (Nat.zero_le _) (Nat.zero_le _) (Nat.le_refl _)
  have := (opt_of g c).co
  rw [← this, c]
theorem cost_W : K41.cost (W bs ts 0 0) = L bs ts bs.length ts.length := by
  obtain ⟨g, c⟩ := go_W (bs := bs) (ts := ts) _ 0 0 (Nat.zero_le _) (Nat.zero_le _) (Nat.le_refl _)
  rw [c, RL]
theorem LC : L bs ts bs.length ts.length = C bs ts := by
  rw [← RL, R_C (bs := bs) (ts := ts) _ 0 0 (Nat.zero_le _) (Nat.zero_le _) (Nat.le_refl _)]
  rfl
theorem nm_step (k : Nat) : isStep (nm k) := by
  unfold nm isStep
  split
  · exact .inl rfl
  · split
    · exact .inr (.inl rfl)
    · split
      · exact .inr (.inr (.inl rfl))
      · exact .inr (.inr (.inr rfl))
theorem W_steps : ∀ s ∈ W bs ts 0 0, isStep s := fun s hs => by
  unfold W at hs
  obtain ⟨k, _, rfl⟩ := List.mem_map.mp hs
  exact nm_step k
theorem W_len : (W bs ts 0 0).length ≤ bs.length + ts.length := by
  unfold W
  rw [List.length_map]
  exact (all_row bs ts _ (fst_mem bs ts).1).1
theorem V_back {i j : Nat} (hi : i ≤ bs.length) (hj : j ≤ ts.length) : 2 * ((i : Int) + j) - Vi bs.reverse ts.reverse (bs.length - i) (ts.length - j) = Li bs ts i j := by
  have e : R bs.reverse ts.reverse (bs.length - i) (ts.length - j) = L bs ts i j := by
    unfold K41.R
    rw [List.reverse_reverse, List.reverse_reverse, List.length_reverse, List.length_reverse]
    congr 1 <;> omega
  unfold Vi Li
  rw [e, List.length_reverse, List.length_reverse]
  omega
end
theorem shal_tab (f : Nat → Nat → Int) (n m : Nat) : shal 8 (tab f n m) = true := by
  unfold tab
  rw [shal_tup, List.all_eq_true]
  intro d hd
  obtain ⟨i, _, rfl⟩ := List.mem_map.mp hd
  rw [shal_tup, List.all_eq_true]
  intro d hd
  unfold rowI at hd
  obtain ⟨j, _, rfl⟩ := List.mem_map.mp hd
  rfl
theorem ne_self {d : D} (h : shal 8 d = true) {Q : D → Prop} (q : Q (.bl false)) : dCmp .NotEq d d Q := by
  rw [dCmp_ne]
  refine ⟨⟨h, h⟩, ?_⟩
  rw [eqD_refl 8 h]
  exact q
theorem tup_tS (ws : List Str) : isTy (tS ws) .tuple = true := rfl
theorem l_right_ok : ∀ ds Q, sp_l_right ds Q → bodySpec 9 b_l_right ds Q := by
  rintro ds Q ⟨bs, ts, rfl, ok, h⟩
  have hb := ok.1
  have ht := ok.2
  have ok' : ok2 bs.reverse ts.reverse := ⟨by rw [List.length_reverse]; exact hb, by rw [List.length_reverse]; exact ht⟩
  show semS b_l_right _ [.sh (tS bs), .sh (tS ts), .no, .no, .no, .no, .no, .no, .no]
  refine st_asgR (fun d => d = tS (W bs ts 0 0)) (by simp [E.monos, spm_l_walked]) ?_ ?_
  · exact ⟨bs, ts, rfl, ok, rfl⟩
  rintro _ rfl e1 R1
  have a0 : rdv e1 0 = some (tS bs) := (R1.rd 0 (by decide)).trans rfl
  have a1 : rdv e1 1 = some (tS ts) := (R1.rd 1 (by decide)).trans rfl
  have a2 := R1.at_ (by simp)
  have l1 : e1.length = 9 := R1.len
  refine st_asgR (fun d => d = .int (L bs ts bs.length ts.length : Nat)) (by simp [E.monos, spm_l_saved]) ?_ ?_
  · simp only [sem_bin, sem_int, sem_bf, sems_cons, sems_nil, sem_var, a0, a1, optP_some, tS_len, dBin_ai, sem_ix, sem_call]
    rw [dBin_mi]
    refine ⟨by unfold CMul; omega, bs, ts, rfl, ok, ?_⟩
    refine V.at2 (bs := bs) (ts := ts) (a := 0) (b := 0) (Nat.zero_le _) (Nat.zero_le _) ?_
    rw [dBin_si]
    congr 1
    unfold Vi
    rw [RL]
    omega
  rintro _ rfl e2 R2
  have b0 := (R2.rd 0 (by decide)).trans a0
  have b1 := (R2.rd 1 (by decide)).trans a1
  have b2 := (R2.rd 2 (by decide)).trans a2
  have b3 := R2.at_ (by omega)
  have l2 : e2.length = 9 := R2.len.trans l1
  refine st_asgR (fun d => d = tS (W bs ts 0 0)) (by simp [E.monos, spm_aligned]) ?_ ?_
  · simp only [sem_call, sems_cons, sems_nil, sem_var, b0, b1, optP_some]
    exact ⟨bs, ts, rfl, ok, rfl⟩
  rintro _ rfl e3 R3
  have c0 := (R3.rd 0 (by decide)).trans b0
  have c1 := (R3.rd 1 (by decide)).trans b1
  have c2 := (R3.rd 2 (by decide)).trans b2
  have c3 := (R3.rd 3 (by decide)).trans b3
  have c4 := R3.at_ (by omega)
  have l3 : e3.length = 9 := R3.len.trans l2
  have kc : ∀ Q : D → Prop, Q (.int (L bs ts bs.length ts.length : Nat)) → sp_cost [tS bs, tS ts] Q := fun Q q => ⟨bs, ts, rfl, ok, q⟩
  have kw : ∀ Q : D → Prop, Q (.int (L bs ts bs.length ts.length : Nat)) → sp_cost_of [tS (W bs ts 0 0)] Q := fun Q q => ⟨W bs ts 0 0, rfl, ⟨by have := W_len (bs := bs) (ts := ts); omega, W_steps⟩, by rw [cost_W]; exact q⟩
  refine st_no (by simp [E.monos, spm_cost, spm_cost_of]) ?_ ?_
  · simp only [sem_orr, sem_nott, sem_isin, sem_call, sems_cons, sems_nil, sem_var, c0, c1, c4, optP_some]
    refine ⟨trivial, ?_⟩
    simp only [List.any_cons, List.any_nil, tup_tS, Bool.or_false, bool1_bl, Bool.not_true, bif2_bl, Bool.false_eq_true, if_false]
    refine kc _ ?_
    refine ⟨trivial, ?_⟩
    simp only [List.any_cons, List.any_nil, isTy_int_int, Bool.or_false, bool1_bl, Bool.not_true, bif2_bl, Bool.false_eq_true, if_false]
    refine kw _ ?_
    exact ⟨trivial, rfl⟩
  refine st_no (by simp [E.monos, spm_cost, spm_cost_of]) ?_ ?_
  · simp only [sem_orr, sem_cmp, sem_call, sems_cons, sems_nil, sem_var, c0, c1, c2, c3, c4, optP_some]
    refine kc _ ?_
    refine ne_self rfl ?_
    simp only [bif2_bl, Bool.false_eq_true, if_false]
    refine ne_self (shal_tS _) ?_
    simp only [bif2_bl, Bool.false_eq_true, if_false]
    refine kw _ ?_
    exact ne_self rfl rfl
  refine st_ow (fun ds => ds = []) (by simp [E.monos]) rfl (by simp) (by rintro _ rfl; rfl) ?_
  rintro _ rfl
  have d0 : rdv (e3.set 5 (.ow (.lst []))) 0 = some (tS bs) := (rdv_set_ne (by decide)).trans c0
  have d1 : rdv (e3.set 5 (.ow (.lst []))) 1 = some (tS ts) := (rdv_set_ne (by decide)).trans c1
  have d5 : (e3.set 5 (.ow (.lst [])))[5]? = some (.ow (.lst [])) := List.getElem?_set_self (by omega)
  have l4 : (e3.set 5 (.ow (.lst []))).length = 9 := by rw [List.length_set]; exact l3
  generalize e3.set 5 (.ow (.lst [])) = e4 at d0 d1 d5 l4
  have back : ∀ f : Nat → Nat → Int, tabL f bs.reverse.length ts.reverse.length = .lst ((List.range (bs.length + 1)).map fun i => .lst (rowI f ts.length i)) := fun f => by
    rw [List.length_reverse, List.length_reverse]
    rfl
  refine st_ls (fun ds => ds = (List.range (bs.length + 1)).map fun i => .lst (rowI (Vi bs.reverse ts.reverse) ts.length i)) (by simp [E.monos, spm_l_saved] <;> first | exact rev_mono trivial | exact ⟨rev_mono trivial, rev_mono trivial⟩) rfl ?_ ?_
  · simp only [sem_call, sems_cons, sems_nil, sem_rev, sem_var, d0, d1, optP_some]
    refine ⟨bs.reverse, ts.reverse, ?_, ok', ⟨_, back _, rfl⟩⟩
    unfold tS
    rw [List.map_reverse, List.map_reverse]
  rintro _ rfl
  obtain ⟨X, hX⟩ : ∃ X : List D, X = (List.range (bs.length + 1)).map fun i => .lst (rowI (Vi bs.reverse ts.reverse) ts.length i) := ⟨_, rfl⟩
  rw [← hX]
  obtain ⟨e5, he5⟩ : ∃ e5, e5 = (frz e4 (E.call "_law_saved" sp_l_saved (.cons (rev (.var 0)) (.cons (rev (.var 1)) .nil))).vars).set 6 (.sh (.lst X)) := ⟨_, rfl⟩
  rw [← he5]
  have f0 : rdv e5 0 = some (tS bs) := by rw [he5, rdv_set_ne (by decide), frz_rdv]; exact d0
  have f1 : rdv e5 1 = some (tS ts) := by rw [he5, rdv_set_ne (by decide), frz_rdv]; exact d1
  have f6 : rdv e5 6 = some (.lst X) := by rw [he5]; exact rdv_set_eq (by rw [frz_length]; omega)
  have f5 : e5[5]? = some (.ow (.lst [])) := by
    rw [he5, List.getElem?_set_ne (by decide), frz_get, if_neg (by show ¬ (5 ∈ ([0, 1] : List Nat)); decide)]
    exact d5
  have l5 : e5.length = 9 := by rw [he5, List.length_set, frz_length]; exact l4
  clear he5
  refine st_for (fun ds => ds = rangeD 0 ((bs.length + 1 : Nat) : Int)) (by simp [E.monos]) rfl ?_ (by rintro _ rfl; simp) mb_l_right_1
    (fun _ k e => e.length = 9 ∧ rdv e 0 = some (tS bs) ∧ rdv e 1 = some (tS ts) ∧ rdv e 6 = some (.lst X) ∧ e[5]? = some (.ow (.lst ((List.range k).map fun i => .tup (rowI (Li bs ts) ts.length i))))) ?_ ?_ ?_
  · simp only [sem_r1, sem_bin, sem_bf, sems_cons, sems_nil, sem_var, sem_int, f0, optP_some, tS_len, dBin_ai, int1_int]
    exact ⟨by omega, _, rfl, by push_cast; rfl⟩
  · rintro _ rfl
    exact ⟨l5, f0, f1, f6, f5⟩
  · rintro _ rfl k d e hd ⟨le, g0, g1, g6, g5⟩
    obtain ⟨hk, rfl⟩ := rangeD_get hd
    show semS b_l_right_1 _ (e.set 7 (.sh (.int k)))
    have m0 : rdv (e.set 7 (.sh (.int k))) 0 = some (tS bs) := (rdv_set_ne (by decide)).trans g0
    have m1 : rdv (e.set 7 (.sh (.int k))) 1 = some (tS ts) := (rdv_set_ne (by decide)).trans g1
    have m6 : rdv (e.set 7 (.sh (.int k))) 6 = some (.lst X) := (rdv_set_ne (by decide)).trans g6
    have m7 : rdv (e.set 7 (.sh (.int k))) 7 = some (.int k) := rdv_set_eq (by omega)
    have m5 : (e.set 7 (.sh (.int k)))[5]? = some (.ow (.lst ((List.range k).map fun i => .tup (rowI (Li bs ts) ts.length i)))) := by rw [List.getElem?_set_ne (by decide)]; exact g5
    have lm : (e.set 7 (.sh (.int k))).length = 9 := by rw [List.length_set]; exact le
    generalize e.set 7 (.sh (.int k)) = e' at m0 m1 m6 m7 m5 lm
    refine st_app (fun d => d = .tup (rowI (Li bs ts) ts.length k)) (by simp [E.monos, c_l_right_1]) m5 ?_ (by rintro _ rfl; exact nm_I _ _ _) (by rw [List.length_map, List.length_range]; omega) ?_
    · simp only [sem_bf, sems_cons, sems_nil, c_l_right_1, sem_lc, sem_r1, sem_bin, sem_var, sem_int, m1, optP_some, tS_len, dBin_ai]
      rw [up_nat]
      simp only [int1_int, dItems_l, rangeD_zero]
      have w : ∀ (x : D) (j : Nat), j ≠ 8 → rdv ((wipeD e' [8]).set 8 (.sh x)) j = rdv e' j := fun x j hj => by
        rw [rdv_set_ne (Ne.symm hj)]
        simp only [wipeD]
        rw [rdv_set_ne (Ne.symm hj)]
      have w8 : ∀ x : D, rdv ((wipeD e' [8]).set 8 (.sh x)) 8 = some x := fun x => rdv_set_eq (by rw [wipeD_length, lm]; decide)
      refine ⟨by omega, lcD_map (f := fun j : Nat => D.int (Li bs ts k j)) (fun j hj Qt Qf hq => ?_) rfl⟩
      have hj := List.mem_range.mp hj
      simp only [condD_n, bindT_v, isNil_nil, sem_bin, sem_int, sem_var, sem_ix, sem_bf, sems_cons, sems_nil, List.map_cons, List.map_nil, w _ 7 (by decide), w _ 6 (by decide), w _ 0 (by decide), w _ 1 (by decide), w8, m0, m1, m6, m7, optP_some, dBin_ai, tS_len]
      rw [dBin_mi]
      refine ⟨by unfold CMul; omega, ?_⟩
      rw [dBin_si, show ((bs.length : Int) - (k : Nat)) = ((bs.length - k : Nat) : Int) by omega, hX]
      refine ⟨_, at_tabL (f := Vi bs.reverse ts.reverse) (show bs.length - k ≤ bs.length by omega), ?_⟩
      show dBin .Sub _ _ _
      rw [dBin_si, show ((ts.length : Int) - (j : Nat)) = ((ts.length - j : Nat) : Int) by omega]
      refine ⟨_, at_rowI (f := Vi bs.reverse ts.reverse) (show ts.length - j ≤ ts.length by omega), ?_⟩
      show dBin .Sub _ _ _
      rw [dBin_si, V_back (by omega) (by omega)]
      exact hq
    rintro _ rfl
    refine ⟨by rw [List.length_set]; exact lm, (rdv_set_ne (by decide)).trans m0, (rdv_set_ne (by decide)).trans m1, (rdv_set_ne (by decide)).trans m6, ?_⟩
    rw [List.getElem?_set_self (by omega), List.range_succ, List.map_append]
    rfl
  · rintro _ rfl e ⟨le, g0, g1, g6, g5⟩
    rw [rangeD_len] at g5
    have g5' : rdv e 5 = some (.lst ((List.range (bs.length + 1)).map fun i => .tup (rowI (Li bs ts) ts.length i))) := by
      unfold rdv
      rw [g5]
      rfl
    show semE _ _ _
    simp only [sem_cmp, sem_call, sem_bf, sems_cons, sems_nil, sem_var, g0, g1, g5', optP_some, dBf_tl]
    refine ⟨bs, ts, rfl, ok, ?_⟩
    show dCmp .Eq (tab (Li bs ts) bs.length ts.length) (tab (Li bs ts) bs.length ts.length) Q
    rw [dCmp_eq, eqD_refl 8 (shal_tab _ _ _)]
    exact ⟨⟨shal_tab _ _ _, shal_tab _ _ _⟩, h⟩
end K40

set_option Elab.async false
set_option linter.all false
set_option maxRecDepth 100000
set_option maxHeartbeats 4000000
/-! K40h: the law. -/
namespace K40
open PySem PySem.Spec PyProof.Rows L2 DL FM
open K41 (L R tS tab tabL ok2 tS_len up_nat)
open Classical

structure B (e : DEnv) : Prop where
  len : e.length = 11
  tape : rdv e 1 = some (.tape true)
theorem B.rdsB {e e' : DEnv} {i : Nat} {d : D} (h : B e) (r : RdsB i d e e') (hi : i ≠ 1) : B e' := ⟨r.len.trans h.len, (r.rd 1 hi).trans h.tape⟩
theorem B.set {e : DEnv} {i : Nat} {x : Sl} (h : B e) (hi : i ≠ 1) : B (e.set i x) := ⟨by rw [List.length_set]; exact h.len, (rdv_set_ne hi).trans h.tape⟩
def cI (r : List Nat) : List Int := r.map fun k : Nat => (k : Int)
theorem tN_tD (r : List Nat) : tN r = tD (cI r) := by
  unfold tN tD nI cI
  rw [List.map_map]
  rfl
theorem ltL_of : ∀ {a b : List Nat}, lt a b → ltL (cI a) (cI b) = true
  | _, [], h => by
    cases ‹List Nat› <;> exact h.elim
  | [], y :: ys, _ => ltL_nc _ _
  | x :: xs, y :: ys, h => by
    show ltL ((x : Int) :: cI xs) ((y : Int) :: cI ys) = true
    rw [ltL_cc]
    rcases h with h | ⟨rfl, h⟩
    · rw [if_neg (by omega)]
      exact decide_eq_true (by omega)
    · rw [if_pos rfl]
      exact ltL_of h
theorem min_C {bs ts : List Str} : minI ((all bs ts).map fun r => ((wor r : Nat) : Int)) = (C bs ts : Nat) := by
  obtain ⟨f1, f2⟩ := fst_mem bs ts
  have ne : (all bs ts).map (fun r => ((wor r : Nat) : Int)) ≠ [] := fun z => by
    rw [List.map_eq_nil_iff] at z
    rw [z] at f1
    cases f1
  obtain ⟨h1, h2⟩ := minI_mem ne
  have a := h2 _ (List.mem_map.mpr ⟨_, f1, rfl⟩)
  obtain ⟨r, hr, e⟩ := List.mem_map.mp h1
  have b := C_ge bs ts r hr
  rw [← e] at a ⊢
  rw [f2] at a
  omega
theorem right_of {bs ts : List Str} (ok : ok2 bs ts) {Q : D → Prop} (h : Q (.bl true)) : sp_l_right [tS bs, tS ts] Q := ⟨bs, ts, rfl, ok, h⟩
theorem turn {e : DEnv} {en : DEnds} (b : B e) (nx : ∀ e', B e' → en.nx e') : semS b_law_1 en e := by
  refine st_tupR (fun x y => ∃ bs ts : List Str, x = tS bs ∧ y = tS ts ∧ bs.length ≤ 5 ∧ ts.length ≤ 5) (by simp [E.monos, spm_l_texts]) ?_ (by decide) ?_
  · simp only [sem_call, sems_cons, sems_nil, sem_var, sem_int, b.tape, optP_some]
    exact ⟨5, rfl, ⟨by omega, by omega⟩, fun bs ts h1 h2 => ⟨_, _, rfl, bs, ts, rfl, rfl, h1, h2⟩⟩
  rintro _ _ ⟨bs, ts, rfl, rfl, hb, ht⟩ e1 l1 k1 a7 a8
  have b1 : B e1 := ⟨l1.trans b.len, (k1 1 (by decide) (by decide)).trans b.tape⟩
  have u7 := a7 (by rw [b.len]; decide)
  have u8 := a8 (by rw [b.len]; decide)
  have ok : ok2 bs ts := ⟨by omega, by omega⟩
  obtain ⟨f1, f2⟩ := fst_mem bs ts
  refine st_asgR (fun d => d = .lst ((all bs ts).map tN)) (by simp [E.monos, spm_l_all]) ?_ ?_
  · simp only [sem_call, sems_cons, sems_nil, sem_var, u7, u8, optP_some]
    exact ⟨bs, ts, rfl, ⟨show bs.length + ts.length ≤ 10 by omega, by omega⟩, rfl⟩
  rintro _ rfl e2 R2
  have b2 := b1.rdsB R2 (by decide)
  have v7 := (R2.rd 7 (by decide)).trans u7
  have v8 := (R2.rd 8 (by decide)).trans u8
  have v3 := R2.at_ (by rw [b1.len]; decide)
  have w : ∀ (e : DEnv) (m : Nat) (x : D) (j : Nat), j ≠ m → rdv ((wipeD e [m]).set m (.sh x)) j = rdv e j := fun e m x j hj => by
    rw [rdv_set_ne (Ne.symm hj)]
    simp only [wipeD]
    rw [rdv_set_ne (Ne.symm hj)]
  have w' : ∀ (e : DEnv) (m : Nat) (x : D), e.length = 11 → m < 11 → rdv ((wipeD e [m]).set m (.sh x)) m = some x := fun e m x h hm => rdv_set_eq (by rw [wipeD_length, h]; exact hm)
  have hw : ∀ r ∈ all bs ts, ∀ Q : D → Prop, Q (.int (wor r : Nat)) → sp_l_worth [tN r] Q := fun r hr Q q => by
    obtain ⟨a, c⟩ := all_row bs ts r hr
    exact ⟨r, rfl, ⟨c, by omega⟩, q⟩
  refine st_asgR (fun d => d = .int (C bs ts : Nat)) (by simp [E.monos, c_law_3, spm_l_worth]) ?_ ?_
  · simp only [sem_bf, sems_cons, sems_nil, c_law_3, sem_lc, sem_var, v3, optP_some, dItems_l]
    refine lcD_map (f := fun r : List Nat => D.int (wor r : Nat)) (fun r hr Qt Qf hq => ?_) ?_
    · simp only [condD_n, bindT_v, isNil_nil, sem_call, sems_cons, sems_nil, sem_var, List.map_cons, List.map_nil, w' e2 9 _ b2.len (by decide), optP_some]
      exact hw r hr _ hq
    · rw [dBf_min]
      refine ⟨(all bs ts).map fun r => ((wor r : Nat) : Int), by rw [List.map_map]; rfl, fun z => ?_, by rw [min_C]⟩
      rw [List.map_eq_nil_iff] at z
      rw [z] at f1
      cases f1
  rintro _ rfl e3 R3
  have b3 := b2.rdsB R3 (by decide)
  have x7 := (R3.rd 7 (by decide)).trans v7
  have x8 := (R3.rd 8 (by decide)).trans v8
  have x3 := (R3.rd 3 (by decide)).trans v3
  have x4 := R3.at_ (by rw [b2.len]; decide)
  refine st_asgR (fun d => d = tN (fst bs ts)) (by simp [E.monos, c_law_2, spm_l_worth] <;> exact mnT_mono (by simp [E.monos, spm_l_worth])) ?_ ?_
  · simp only [sem_mnT, c_law_2, sem_lc, sem_var, x3, optP_some, dItems_l]
    refine lcD_pure (f := tN) (p := fun r => decide (wor r = C bs ts)) (fun r hr Qt Qf k1 k2 => ?_) ?_
    · simp only [condD_s, bindT_v, isNil_cmp, sem_cmp, sem_call, sems_cons, sems_nil, sem_var, List.map_cons, List.map_nil, w' e3 9 _ b3.len (by decide), w e3 9 _ 4 (by decide), x4, optP_some]
      refine hw r hr _ ?_
      rw [dCmp_eq]
      refine ⟨⟨rfl, rfl⟩, ?_⟩
      rw [eqD_i]
      by_cases q : wor r = C bs ts
      · have := k1 (decide_eq_true q)
        rw [decide_eq_true (show ((wor r : Nat) : Int) = (C bs ts : Nat) by omega)]
        exact this
      · have := k2 (decide_eq_false q)
        rw [decide_eq_false (show ¬ ((wor r : Nat) : Int) = (C bs ts : Nat) by omega)]
        exact this
    · rw [mnT1_l]
      have fm : fst bs ts ∈ (all bs ts).filter fun r => decide (wor r = C bs ts) := List.mem_filter.mpr ⟨f1, decide_eq_true f2⟩
      obtain ⟨F, hF⟩ : ∃ F, F = (all bs ts).filter fun r => decide (wor r = C bs ts) := ⟨_, rfl⟩
      rw [← hF] at fm ⊢
      have ne : F ≠ [] := fun z => by rw [z] at fm; cases fm
      obtain ⟨y, ys, hy⟩ : ∃ y ys, F = y :: ys := by
        cases F with
        | nil => exact absurd rfl ne
        | cons y ys => exact ⟨y, ys, rfl⟩
      have hG : cI y :: ys.map cI = F.map cI := by rw [hy]; rfl
      refine ⟨cI y, ys.map cI, ?_, ?_⟩
      · rw [hG, List.map_map]
        exact List.map_congr_left fun r _ => tN_tD r
      · rw [hG]
        intro m hm hall
        obtain ⟨r, hr, rfl⟩ := List.mem_map.mp hm
        have hr' := hr
        rw [hF] at hr'
        obtain ⟨g1, g2⟩ := List.mem_filter.mp hr'
        rcases fst_least bs ts r g1 (of_decide_eq_true g2) with rfl | q
        · rw [tN_tD]
        · have := hall (cI (fst bs ts)) (List.mem_map.mpr ⟨_, fm, rfl⟩)
          rw [ltL_of q] at this
          cases this
  rintro _ rfl e4 R4
  have b4 := b3.rdsB R4 (by decide)
  have y7 := (R4.rd 7 (by decide)).trans x7
  have y8 := (R4.rd 8 (by decide)).trans x8
  have y4 := (R4.rd 4 (by decide)).trans x4
  have y5 := R4.at_ (by rw [b3.len]; decide)
  refine st_asgR (fun d => d = tS (W bs ts 0 0)) (by simp [E.monos, c_law_1]) ?_ ?_
  · simp only [sem_bf, sems_cons, sems_nil, c_law_1, sem_lc, sem_var, y5, optP_some]
    show dItems (.tup (nI (fst bs ts))) _
    rw [dItems_t]
    refine lcD_map (f := fun k : Nat => D.str (nm k)) (fun k hk Qt Qf hq => ?_) ?_
    · simp only [condD_n, bindT_v, isNil_nil, sem_ix, sem_lst, sems_cons, sems_nil, sem_str, sem_var, List.map_cons, List.map_nil, w' e4 10 _ b4.len (by decide), optP_some]
      have := (all_row bs ts _ f1).2 k hk
      match k, this with
      | 0, _ => exact ⟨_, rfl, hq⟩
      | 1, _ => exact ⟨_, rfl, hq⟩
      | 2, _ => exact ⟨_, rfl, hq⟩
      | 3, _ => exact ⟨_, rfl, hq⟩
    · rw [dBf_tl]
      unfold W tS
      rw [List.map_map]
      rfl
  rintro _ rfl e5 R5
  have b5 := b4.rdsB R5 (by decide)
  have z7 := (R5.rd 7 (by decide)).trans y7
  have z8 := (R5.rd 8 (by decide)).trans y8
  have z4 := (R5.rd 4 (by decide)).trans y4
  have z6 := R5.at_ (by rw [b4.len]; decide)
  refine st_no (by simp [E.monos, spm_cost, spm_aligned, spm_l_right]) ?_ (nx e5 b5)
  simp only [sem_orr, sem_cmp, sem_nott, sem_call, sems_cons, sems_nil, sem_var, z7, z8, z4, z6, optP_some]
  refine ⟨bs, ts, rfl, ok, ?_⟩
  rw [LC]
  refine ne_self rfl ?_
  simp only [bif2_bl, Bool.false_eq_true, if_false]
  refine ⟨bs, ts, rfl, ok, ?_⟩
  refine ne_self (shal_tS _) ?_
  simp only [bif2_bl, Bool.false_eq_true, if_false]
  exact right_of ok rfl
theorem law_body : semS b_law { nx := fun _ => False, rt := fun d => d = .bl true } (lawEnv true 11) := by
  have hb0 : B (lawEnv true 11) := ⟨rfl, rfl⟩
  generalize lawEnv true 11 = e0 at hb0
  refine st_forR (fun ds => True) (by simp [E.monos]) (by simp) mb_law_1 (fun _ _ e => B e) (fun ds _ e R => ⟨R.len.trans hb0.len, (R.rd 1).trans hb0.tape⟩) ?_ ?_
  · intro ds _ k d e _ b
    show semS b_law_1 _ (e.set 2 (.sh d))
    exact turn (b.set (by decide)) fun e b => b
  intro ds _ e b
  refine st_tupR (fun x y => ∃ bs ts : List Str, x = tS bs ∧ y = tS ts ∧ bs.length ≤ 40 ∧ ts.length ≤ 40) (by simp [E.monos, spm_l_texts]) ?_ (by decide) ?_
  · simp only [sem_call, sems_cons, sems_nil, sem_var, sem_int, b.tape, optP_some]
    exact ⟨40, rfl, ⟨by omega, by omega⟩, fun bs ts h1 h2 => ⟨_, _, rfl, bs, ts, rfl, rfl, h1, h2⟩⟩
  rintro _ _ ⟨bs, ts, rfl, rfl, hb, ht⟩ e1 l1 k1 a7 a8
  have u7 := a7 (by rw [b.len]; decide)
  have u8 := a8 (by rw [b.len]; decide)
  show semE _ _ _
  simp only [sem_call, sems_cons, sems_nil, sem_var, u7, u8, optP_some]
  exact right_of ⟨hb, ht⟩ rfl
end K40

set_option Elab.async false
set_option linter.all false
set_option maxRecDepth 100000
set_option maxHeartbeats 4000000
namespace K40
open PySem PySem.Spec PyProof.Rows L2 DL FM K41
def top (i : Nat) : Stmt := PySem.Challenge.pw_lostelder_k40_alignments_are_least.main.body.getD i (.Pass ⟨0, 0, 0, 0⟩)
abbrev FnP (K : PySem.W.Frag) (x : Str) (i : Nat) (f : Addr) (fd : FuncData) : Prop := FunD K x x (defArgs (top i)) (defBody (top i)) (defScope (top i)) [] [] f fd
section
variable {P : Program} {w : World} {K : PySem.W.Frag} {mg : Str → Option Value} {base : Heap} {f : Addr} {fd : FuncData} {k : Nat}
theorem sc_next : FnScope ["tape", "many", "cell", "value"] ["tape", "many"] (defScope (top 10)) := ⟨rfl, rfl, rfl, by decide +kernel, rfl, by decide +kernel, by decide +kernel⟩
theorem next_ok (F : FnP K "_law_next" 10 f fd) (gI : mg "int" = none) (gL : mg "len" = none) : FnOk P w K mg base CX0 (k + 1) f fd ["tape", "many"] (spOf K (spNum true)) := by
  refine F.ok sc_next (fun vs H Q E h => ?_) (fun cdv A outer s H vs Q E hr hs => ?_)
  · obtain ⟨T, O, ds, k, hd, m, rfl, _⟩ := h
    rw [hd.length]
    rfl
  · have hu : (cxOf CX0 P w K mg base ["tape", "many", "cell", "value"] "_law_next" (defScope (top 10)) f cdv A outer s H E).nox.A.units + 1 < cLine := by
      have := hr.un
      show (A.deeper _).units + 1 < cLine
      omega
    have W := PSs.nox (X := cxOf CX0 P w K mg base ["tape", "many", "cell", "value"] "_law_next" (defScope (top 10)) f cdv A outer s H E)
      (pss_cons (st := (defBody (top 10)).getD 0 (.Pass ⟨0, 0, 0, 0⟩)) (rest := (defBody (top 10)).drop 1) (ps_if (PW.pt (pw_and (pt_cmp (pc_eqI (pe_dget hu (pv 0) pe_str (fun _ _ => rfl)) pe_int)) (pw_and1 (pt_cmp (pc_lt (pe_dget hu (pv 0) pe_str (fun _ _ => rfl)) (pe_callB call_len rfl gL boot_len (pa_cons (pe_dget hu (pv 0) pe_str (fun _ _ => rfl)) pa_nil)))))))
        (pss_cons (ps_set (i := 2) sc_next.nd rfl (Or.inl rfl) (pe_ix ix_list (pe_dget hu (pv 0) pe_str (fun _ _ => rfl)) (pe_dget hu (pv 0) pe_str (fun _ _ => rfl)) (fun _ _ => rfl)))
          (pss_cons (ps_dput hu (pv 0) pe_str (pe_op op_add (pe_dget hu (pv 0) pe_str (fun _ _ => rfl)) pe_int) rfl)
          (pss_cons (ps_if (pt_cmp (pc_ge (pv 2) (pe_op op_pow pe_int pe_int))) (pss_one (ps_dput hu (pv 0) pe_str (pv 2) rfl)) pss_nil)
          (pss_one (ps_dput hu (pv 0) pe_str (pe_op op_mod (pe_callTy call_int1 rfl gI boot_int (pa_cons (pe_op op_add (pe_op op_add (pe_op op_mul (pe_dget hu (pv 0) pe_str (fun _ _ => rfl)) pe_int) (pe_op op_mul (pv 2) pe_int)) pe_int) pa_nil)) pe_int) rfl)))))
        pss_nil)
      (pss_cons (ps_if (pt_cmp (pc_gt (pe_dget hu (pv 0) pe_str (fun _ _ => rfl)) pe_int))
        (pss_cons (ps_set (i := 3) sc_next.nd rfl (Or.inl rfl) (pe_op op_mod (pe_callTy call_int1 rfl gI boot_int (pa_cons (pe_dget hu (pv 0) pe_str (fun _ _ => rfl)) pa_nil)) (pv 1)))
          (pss_cons (ps_dput hu (pv 0) pe_str (pe_op op_fdiv (pe_dget hu (pv 0) pe_str (fun _ _ => rfl)) (pv 1)) rfl) (pss_one (ps_ret (pv 3)))))
        pss_nil)
      (pss_cons (ps_dput hu (pv 0) pe_str (pe_op op_mod (pe_callTy call_int1 rfl gI boot_int (pa_cons (pe_op op_add (pe_op op_mul (pe_dget hu (pv 0) pe_str (fun _ _ => rfl)) pe_int) pe_int) pa_nil)) pe_int) rfl)
      (pss_one (ps_ret (pe_op op_mod (pe_callTy call_int1 rfl gI boot_int (pa_cons (pe_op op_fdiv (pe_dget hu (pv 0) pe_str (fun _ _ => rfl)) pe_int) pa_nil)) (pv 1)))))))
    refine ⟨_, W, ?_⟩
    clear W hu
    obtain ⟨T, O, ds, ok, hd, m, rfl, ⟨h1, h2⟩, q, _⟩ := hs
    obtain ⟨v0, r0, rfl, ⟨rfl, hk⟩, v1, r1, rfl, rfl, rfl⟩ := hd
    exact next_sem rfl ok hk (h1 rfl) h2 q
theorem sc_tape : FnScope ["script", "cell"] ["script"] (defScope (top 9)) := ⟨rfl, rfl, rfl, by decide +kernel, rfl, by decide +kernel, by decide +kernel⟩
theorem tape_ok (F : FnP K "_law_tape" 9 f fd) (gI : mg "int" = none) (gA : mg "abs" = none) : FnOk P w K mg base CX0 (k + 1) f fd ["script"] (spNew true K) := by
  refine F.ok sc_tape (fun vs H Q E h => ?_) (fun cdv A outer s H vs Q E hr hs => ?_)
  · obtain ⟨a, ns, rfl, _⟩ := h
    rfl
  · have W := PSs.nox (X := cxOf CX0 P w K mg base ["script", "cell"] "_law_tape" (defScope (top 9)) f cdv A outer s H E)
      (pss_one (st := (defBody (top 9)).getD 0 (.Pass ⟨0, 0, 0, 0⟩)) (ps_ret (pe_disp (pps_cons pe_str
        (pe_lc rfl sc_tape.nd (pi_list (pv 0)) (blkOk_by (N := ["script", "cell"]) (sc := defScope (top 9)) (own := [("cell", 1)]) (by decide +kernel)) (fun s H C cl fp => pg_name (i := 1) sc_tape.nd rfl (Or.inl rfl)) (fun s H C cl fp => pts_nil)
          (fun s H C cl fp => pe_callB call_abs rfl gA boot_abs (pa_cons (pe_callTy call_int1 rfl gI boot_int (pa_cons (pv 1) pa_nil)) pa_nil)))
        (pps_cons pe_str pe_int (pps_cons pe_str pe_int (pps_cons pe_str pe_int pps_nil)))) rfl rfl (by decide) (by decide))))
    exact ⟨_, W, make_sem rfl hs⟩

theorem sc_levels : FnScope ["base", "text", "rows", "i", "row", "j", "across"] ["base", "text"] (defScope (top 2)) := ⟨rfl, rfl, rfl, by decide +kernel, rfl, by decide +kernel, by decide +kernel⟩
theorem len_levels : ∀ ds Q, sp_levels ds Q → ds.length = 2 := by first | (rintro _ _ ⟨rfl, _⟩; rfl) | (rintro _ _ ⟨_, rfl, _⟩; rfl) | (rintro _ _ ⟨_, _, rfl, _⟩; rfl) | (rintro _ _ ⟨_, _, _, rfl, _⟩; rfl) | (rintro _ _ ⟨_, _, _, _, rfl, _⟩; rfl) | (rintro _ _ ⟨_, _, _, _, _, rfl, _⟩; rfl) | (rintro _ _ ⟨_, _, _, _, _, _, rfl, _⟩; rfl) | (rintro _ _ ⟨_, _, _, _, _, _, _, rfl, _⟩; rfl) | (rintro _ _ ⟨_, _, _, _, _, _, _, _, rfl, _⟩; rfl)
theorem ok_levels (F : FnP K "levels" 2 f fd) (g_len : mg "len" = none) (g_min : mg "min" = none) (g_range : mg "range" = none) (g_tuple : mg "tuple" = none) : FnOk P w K mg base CX0 (k + 1) f fd ["base", "text"] (spOf K sp_levels) :=
  def_ok F sc_levels mb_levels (by decide +kernel) len_levels (fun A hr => by simp [b_levels, c_levels_1, b_levels_1, b_levels_2, c_levels_2, NeedS, Need, NoG, Bf.name, Ty.name, g_len, g_min, g_range, g_tuple]) levels_ok
theorem sc_l_saved : FnScope ["base", "text", "rows", "i", "j", "across"] ["base", "text"] (defScope (top 15)) := ⟨rfl, rfl, rfl, by decide +kernel, rfl, by decide +kernel, by decide +kernel⟩
theorem len_l_saved : ∀ ds Q, sp_l_saved ds Q → ds.length = 2 := by first | (rintro _ _ ⟨rfl, _⟩; rfl) | (rintro _ _ ⟨_, rfl, _⟩; rfl) | (rintro _ _ ⟨_, _, rfl, _⟩; rfl) | (rintro _ _ ⟨_, _, _, rfl, _⟩; rfl) | (rintro _ _ ⟨_, _, _, _, rfl, _⟩; rfl) | (rintro _ _ ⟨_, _, _, _, _, rfl, _⟩; rfl) | (rintro _ _ ⟨_, _, _, _, _, _, rfl, _⟩; rfl) | (rintro _ _ ⟨_, _, _, _, _, _, _, rfl, _⟩; rfl) | (rintro _ _ ⟨_, _, _, _, _, _, _, _, rfl, _⟩; rfl)
theorem ok_l_saved (F : FnP K "_law_saved" 15 f fd) (g_len : mg "len" = none) (g_max : mg "max" = none) (g_range : mg "range" = none) : FnOk P w K mg base CX0 (k + 1) f fd ["base", "text"] (spOf K sp_l_saved) :=
  def_ok F sc_l_saved mb_l_saved (by decide +kernel) len_l_saved (fun A hr => by simp [b_l_saved, b_l_saved_1, b_l_saved_2, NeedS, Need, NoG, Bf.name, Ty.name, g_len, g_max, g_range] <;> (repeat' first | exact nlc_need (by simp [E.monos, S.monos, spNum_mono, spPick_mono]) (by simp [E.monos, S.monos, spNum_mono, spPick_mono]) (by simp [E.monos, S.monos, spNum_mono, spPick_mono]) (by simp [NeedS, Need, NoG, Bf.name, Ty.name, g_len, g_max, g_range]) | exact nset_need (by simp [E.monos, S.monos, spNum_mono, spPick_mono]) (by simp [E.monos, S.monos, spNum_mono, spPick_mono]) (by simp [E.monos, S.monos, spNum_mono, spPick_mono]) (by simp [NeedS, Need, NoG, Bf.name, Ty.name, g_len, g_max, g_range]) (by simp [NeedS, Need, NoG, Bf.name, Ty.name, g_len, g_max, g_range]) (by simp [NeedS, Need, NoG, Bf.name, Ty.name, g_len, g_max, g_range]) | apply And.intro)) l_saved_ok
theorem sc_cost_of : FnScope ["steps", "step"] ["steps"] (defScope (top 7)) := ⟨rfl, rfl, rfl, by decide +kernel, rfl, by decide +kernel, by decide +kernel⟩
theorem len_cost_of : ∀ ds Q, sp_cost_of ds Q → ds.length = 1 := by first | (rintro _ _ ⟨rfl, _⟩; rfl) | (rintro _ _ ⟨_, rfl, _⟩; rfl) | (rintro _ _ ⟨_, _, rfl, _⟩; rfl) | (rintro _ _ ⟨_, _, _, rfl, _⟩; rfl) | (rintro _ _ ⟨_, _, _, _, rfl, _⟩; rfl) | (rintro _ _ ⟨_, _, _, _, _, rfl, _⟩; rfl) | (rintro _ _ ⟨_, _, _, _, _, _, rfl, _⟩; rfl) | (rintro _ _ ⟨_, _, _, _, _, _, _, rfl, _⟩; rfl) | (rintro _ _ ⟨_, _, _, _, _, _, _, _, rfl, _⟩; rfl)
theorem ok_cost_of (F : FnP K "cost_of" 7 f fd) (v_COSTS : ∀ A, HasDk ⟨P, w, K, mg, base, A⟩ "COSTS" [("keep", 0), ("change", 3), ("drop", 2), ("add", 2)]) (g_sum : mg "sum" = none) : FnOk P w K mg base CX0 (k + 1) f fd ["steps"] (spOf K sp_cost_of) :=
  def_ok F sc_cost_of mb_cost_of (by decide +kernel) len_cost_of (fun A hr => by simp [b_cost_of, c_cost_of_1, NeedS, Need, NoG, Bf.name, Ty.name, g_COSTS, v_COSTS A, g_sum] <;> (repeat' first | exact gdx_need (by simp [E.monos, S.monos, spNum_mono, spPick_mono]) (by simp [NeedS, Need, NoG, Bf.name, Ty.name, g_COSTS, v_COSTS A, g_sum]) (by simp [NeedS, Need, NoG, Bf.name, Ty.name, g_COSTS, v_COSTS A, g_sum]) | apply And.intro)) cost_of_ok
theorem sc_cost : FnScope ["base", "text"] ["base", "text"] (defScope (top 3)) := ⟨rfl, rfl, rfl, by decide +kernel, rfl, by decide +kernel, by decide +kernel⟩
theorem len_cost : ∀ ds Q, sp_cost ds Q → ds.length = 2 := by first | (rintro _ _ ⟨rfl, _⟩; rfl) | (rintro _ _ ⟨_, rfl, _⟩; rfl) | (rintro _ _ ⟨_, _, rfl, _⟩; rfl) | (rintro _ _ ⟨_, _, _, rfl, _⟩; rfl) | (rintro _ _ ⟨_, _, _, _, rfl, _⟩; rfl) | (rintro _ _ ⟨_, _, _, _, _, rfl, _⟩; rfl) | (rintro _ _ ⟨_, _, _, _, _, _, rfl, _⟩; rfl) | (rintro _ _ ⟨_, _, _, _, _, _, _, rfl, _⟩; rfl) | (rintro _ _ ⟨_, _, _, _, _, _, _, _, rfl, _⟩; rfl)
theorem ok_cost (F : FnP K "cost" 3 f fd) (h_levels : ∀ A, Room k A → HasFn ⟨P, w, K, mg, base, A⟩ "levels" sp_levels) : FnOk P w K mg base CX0 (k + 1) f fd ["base", "text"] (spOf K sp_cost) :=
  def_ok F sc_cost mb_cost (by decide +kernel) len_cost (fun A hr => by simp [b_cost, NeedS, Need, NoG, Bf.name, Ty.name, h_levels A hr]) cost_ok
theorem sc_next_step : FnScope ["base", "text", "left", "i", "j", "across"] ["base", "text", "left", "i", "j"] (defScope (top 5)) := ⟨rfl, rfl, rfl, by decide +kernel, rfl, by decide +kernel, by decide +kernel⟩
theorem len_next_step : ∀ ds Q, sp_next_step ds Q → ds.length = 5 := by first | (rintro _ _ ⟨rfl, _⟩; rfl) | (rintro _ _ ⟨_, rfl, _⟩; rfl) | (rintro _ _ ⟨_, _, rfl, _⟩; rfl) | (rintro _ _ ⟨_, _, _, rfl, _⟩; rfl) | (rintro _ _ ⟨_, _, _, _, rfl, _⟩; rfl) | (rintro _ _ ⟨_, _, _, _, _, rfl, _⟩; rfl) | (rintro _ _ ⟨_, _, _, _, _, _, rfl, _⟩; rfl) | (rintro _ _ ⟨_, _, _, _, _, _, _, rfl, _⟩; rfl) | (rintro _ _ ⟨_, _, _, _, _, _, _, _, rfl, _⟩; rfl)
theorem ok_next_step (F : FnP K "next_step" 5 f fd) (v_COSTS : ∀ A, HasDk ⟨P, w, K, mg, base, A⟩ "COSTS" [("keep", 0), ("change", 3), ("drop", 2), ("add", 2)]) (g_len : mg "len" = none) : FnOk P w K mg base CX0 (k + 1) f fd ["base", "text", "left", "i", "j"] (spOf K sp_next_step) :=
  def_ok F sc_next_step mb_next_step (by decide +kernel) len_next_step (fun A hr => by simp [b_next_step, NeedS, Need, NoG, Bf.name, Ty.name, g_COSTS, v_COSTS A, g_len] <;> (repeat' first | exact gdx_need (by simp [E.monos, S.monos, spNum_mono, spPick_mono]) (by simp [NeedS, Need, NoG, Bf.name, Ty.name, g_COSTS, v_COSTS A, g_len]) (by simp [NeedS, Need, NoG, Bf.name, Ty.name, g_COSTS, v_COSTS A, g_len]) | apply And.intro)) next_step_ok
theorem sc_rest : FnScope ["base", "text", "rows", "row"] ["base", "text"] (defScope (top 4)) := ⟨rfl, rfl, rfl, by decide +kernel, rfl, by decide +kernel, by decide +kernel⟩
theorem len_rest : ∀ ds Q, sp_rest ds Q → ds.length = 2 := by first | (rintro _ _ ⟨rfl, _⟩; rfl) | (rintro _ _ ⟨_, rfl, _⟩; rfl) | (rintro _ _ ⟨_, _, rfl, _⟩; rfl) | (rintro _ _ ⟨_, _, _, rfl, _⟩; rfl) | (rintro _ _ ⟨_, _, _, _, rfl, _⟩; rfl) | (rintro _ _ ⟨_, _, _, _, _, rfl, _⟩; rfl) | (rintro _ _ ⟨_, _, _, _, _, _, rfl, _⟩; rfl) | (rintro _ _ ⟨_, _, _, _, _, _, _, rfl, _⟩; rfl) | (rintro _ _ ⟨_, _, _, _, _, _, _, _, rfl, _⟩; rfl)
theorem ok_rest (F : FnP K "rest" 4 f fd) (h_levels : ∀ A, Room k A → HasFn ⟨P, w, K, mg, base, A⟩ "levels" sp_levels) (g_list : mg "list" = none) : FnOk P w K mg base CX0 (k + 1) f fd ["base", "text"] (spOf K sp_rest) :=
  def_ok F sc_rest mb_rest (by decide +kernel) len_rest (fun A hr => by simp [b_rest, c_rest_1, NeedS, Need, NoG, Bf.name, Ty.name, h_levels A hr, g_list] <;> (repeat' first | exact rev_need (by simp [E.monos, S.monos, spNum_mono, spPick_mono, spm_levels]) (by simp [NeedS, Need, NoG, Bf.name, Ty.name, h_levels A hr, g_list]) | apply And.intro)) rest_ok
theorem sc_aligned : FnScope ["base", "text", "left", "steps", "i", "j", "step"] ["base", "text"] (defScope (top 6)) := ⟨rfl, rfl, rfl, by decide +kernel, rfl, by decide +kernel, by decide +kernel⟩
theorem len_aligned : ∀ ds Q, sp_aligned ds Q → ds.length = 2 := by first | (rintro _ _ ⟨rfl, _⟩; rfl) | (rintro _ _ ⟨_, rfl, _⟩; rfl) | (rintro _ _ ⟨_, _, rfl, _⟩; rfl) | (rintro _ _ ⟨_, _, _, rfl, _⟩; rfl) | (rintro _ _ ⟨_, _, _, _, rfl, _⟩; rfl) | (rintro _ _ ⟨_, _, _, _, _, rfl, _⟩; rfl) | (rintro _ _ ⟨_, _, _, _, _, _, rfl, _⟩; rfl) | (rintro _ _ ⟨_, _, _, _, _, _, _, rfl, _⟩; rfl) | (rintro _ _ ⟨_, _, _, _, _, _, _, _, rfl, _⟩; rfl)
theorem ok_aligned (F : FnP K "aligned" 6 f fd) (h_next_step : ∀ A, Room k A → HasFn ⟨P, w, K, mg, base, A⟩ "next_step" sp_next_step) (h_rest : ∀ A, Room k A → HasFn ⟨P, w, K, mg, base, A⟩ "rest" sp_rest) (g_int : mg "int" = none) (g_len : mg "len" = none) (g_tuple : mg "tuple" = none) : FnOk P w K mg base CX0 (k + 1) f fd ["base", "text"] (spOf K sp_aligned) :=
  def_ok F sc_aligned mb_aligned (by decide +kernel) len_aligned (fun A hr => by simp [b_aligned, t_aligned_1, b_aligned_1, NeedS, Need, NoG, Bf.name, Ty.name, h_next_step A hr, h_rest A hr, g_int, g_len, g_tuple] <;> (repeat' first | exact asgC_need (by simp [E.monos, S.monos, spNum_mono, spPick_mono, spm_next_step, spm_rest]) (by simp [NeedS, Need, NoG, Bf.name, Ty.name, h_next_step A hr, h_rest A hr, g_int, g_len, g_tuple]) | apply And.intro)) aligned_ok
theorem sc_l_walked : FnScope ["base", "text", "saved", "steps", "turn", "i", "j", "across"] ["base", "text"] (defScope (top 16)) := ⟨rfl, rfl, rfl, by decide +kernel, rfl, by decide +kernel, by decide +kernel⟩
theorem len_l_walked : ∀ ds Q, sp_l_walked ds Q → ds.length = 2 := by first | (rintro _ _ ⟨rfl, _⟩; rfl) | (rintro _ _ ⟨_, rfl, _⟩; rfl) | (rintro _ _ ⟨_, _, rfl, _⟩; rfl) | (rintro _ _ ⟨_, _, _, rfl, _⟩; rfl) | (rintro _ _ ⟨_, _, _, _, rfl, _⟩; rfl) | (rintro _ _ ⟨_, _, _, _, _, rfl, _⟩; rfl) | (rintro _ _ ⟨_, _, _, _, _, _, rfl, _⟩; rfl) | (rintro _ _ ⟨_, _, _, _, _, _, _, rfl, _⟩; rfl) | (rintro _ _ ⟨_, _, _, _, _, _, _, _, rfl, _⟩; rfl)
theorem ok_l_walked (F : FnP K "_law_walked" 16 f fd) (h_l_saved : ∀ A, Room k A → HasFn ⟨P, w, K, mg, base, A⟩ "_law_saved" sp_l_saved) (g_len : mg "len" = none) (g_range : mg "range" = none) (g_tuple : mg "tuple" = none) : FnOk P w K mg base CX0 (k + 1) f fd ["base", "text"] (spOf K sp_l_walked) :=
  def_ok F sc_l_walked mb_l_walked (by decide +kernel) len_l_walked (fun A hr => by simp [b_l_walked, b_l_walked_1, NeedS, Need, NoG, Bf.name, Ty.name, h_l_saved A hr, g_len, g_range, g_tuple] <;> (repeat' first | exact asgC_need (by simp [E.monos, S.monos, spNum_mono, spPick_mono, spm_l_saved]) (by simp [NeedS, Need, NoG, Bf.name, Ty.name, h_l_saved A hr, g_len, g_range, g_tuple]) | apply And.intro)) l_walked_ok
theorem sc_l_right : FnScope ["base", "text", "due", "least", "told", "rows", "back", "i", "j"] ["base", "text"] (defScope (top 17)) := ⟨rfl, rfl, rfl, by decide +kernel, rfl, by decide +kernel, by decide +kernel⟩
theorem len_l_right : ∀ ds Q, sp_l_right ds Q → ds.length = 2 := by first | (rintro _ _ ⟨rfl, _⟩; rfl) | (rintro _ _ ⟨_, rfl, _⟩; rfl) | (rintro _ _ ⟨_, _, rfl, _⟩; rfl) | (rintro _ _ ⟨_, _, _, rfl, _⟩; rfl) | (rintro _ _ ⟨_, _, _, _, rfl, _⟩; rfl) | (rintro _ _ ⟨_, _, _, _, _, rfl, _⟩; rfl) | (rintro _ _ ⟨_, _, _, _, _, _, rfl, _⟩; rfl) | (rintro _ _ ⟨_, _, _, _, _, _, _, rfl, _⟩; rfl) | (rintro _ _ ⟨_, _, _, _, _, _, _, _, rfl, _⟩; rfl)
theorem ok_l_right (F : FnP K "_law_right" 17 f fd) (h_levels : ∀ A, Room k A → HasFn ⟨P, w, K, mg, base, A⟩ "levels" sp_levels) (h_l_saved : ∀ A, Room k A → HasFn ⟨P, w, K, mg, base, A⟩ "_law_saved" sp_l_saved) (h_cost_of : ∀ A, Room k A → HasFn ⟨P, w, K, mg, base, A⟩ "cost_of" sp_cost_of) (h_cost : ∀ A, Room k A → HasFn ⟨P, w, K, mg, base, A⟩ "cost" sp_cost) (h_aligned : ∀ A, Room k A → HasFn ⟨P, w, K, mg, base, A⟩ "aligned" sp_aligned) (h_l_walked : ∀ A, Room k A → HasFn ⟨P, w, K, mg, base, A⟩ "_law_walked" sp_l_walked) (g_int : mg "int" = none) (g_isinstance : mg "isinstance" = none) (g_len : mg "len" = none) (g_range : mg "range" = none) (g_tuple : mg "tuple" = none) : FnOk P w K mg base CX0 (k + 1) f fd ["base", "text"] (spOf K sp_l_right) :=
  def_ok F sc_l_right mb_l_right (by decide +kernel) len_l_right (fun A hr => by simp [b_l_right, c_l_right_1, b_l_right_1, NeedS, Need, NoG, Bf.name, Ty.name, h_levels A hr, h_l_saved A hr, h_cost_of A hr, h_cost A hr, h_aligned A hr, h_l_walked A hr, g_int, g_isinstance, g_len, g_range, g_tuple] <;> (repeat' first | exact rev_need (by simp [E.monos, S.monos, spNum_mono, spPick_mono, spm_levels, spm_l_saved, spm_cost_of, spm_cost, spm_aligned, spm_l_walked]) (by simp [NeedS, Need, NoG, Bf.name, Ty.name, h_levels A hr, h_l_saved A hr, h_cost_of A hr, h_cost A hr, h_aligned A hr, h_l_walked A hr, g_int, g_isinstance, g_len, g_range, g_tuple]) | apply And.intro)) l_right_ok
theorem sc_l_pick : FnScope ["tape", "row"] ["tape", "row"] (defScope (top 11)) := ⟨rfl, rfl, rfl, by decide +kernel, rfl, by decide +kernel, by decide +kernel⟩
theorem ok_l_pick (F : FnP K "_law_pick" 11 f fd) (h_l_next : ∀ A, Room k A → HasFn ⟨P, w, K, mg, base, A⟩ "_law_next" (spNum true)) (g_len : mg "len" = none) : FnOk P w K mg base CX0 (k + 1) f fd ["tape", "row"] (spOf K (spPick true)) :=
  def_ok (b := bPick true "_law_next") F sc_l_pick (by simp [bPick, S.monos, E.monos, spNum_mono]) (by decide +kernel) (by rintro _ _ ⟨_, _, rfl, _⟩; rfl) (fun A hr => by simp [bPick, NeedS, Need, NoG, Bf.name, Ty.name, h_l_next A hr, g_len]) (pick_ok true "_law_next")
theorem sc_l_texts : FnScope ["tape", "many", "words", "base", "text", "word", "kind", "k"] ["tape", "many"] (defScope (top 12)) := ⟨rfl, rfl, rfl, by decide +kernel, rfl, by decide +kernel, by decide +kernel⟩
theorem len_l_texts : ∀ ds Q, sp_l_texts ds Q → ds.length = 2 := by first | (rintro _ _ ⟨rfl, _⟩; rfl) | (rintro _ _ ⟨_, rfl, _⟩; rfl) | (rintro _ _ ⟨_, _, rfl, _⟩; rfl) | (rintro _ _ ⟨_, _, _, rfl, _⟩; rfl) | (rintro _ _ ⟨_, _, _, _, rfl, _⟩; rfl) | (rintro _ _ ⟨_, _, _, _, _, rfl, _⟩; rfl) | (rintro _ _ ⟨_, _, _, _, _, _, rfl, _⟩; rfl) | (rintro _ _ ⟨_, _, _, _, _, _, _, rfl, _⟩; rfl) | (rintro _ _ ⟨_, _, _, _, _, _, _, _, rfl, _⟩; rfl)
theorem ok_l_texts (F : FnP K "_law_texts" 12 f fd) (h_l_pick : ∀ A, Room k A → HasFn ⟨P, w, K, mg, base, A⟩ "_law_pick" (spPick true)) (h_l_next : ∀ A, Room k A → HasFn ⟨P, w, K, mg, base, A⟩ "_law_next" (spNum true)) (g_range : mg "range" = none) (g_tuple : mg "tuple" = none) : FnOk P w K mg base CX0 (k + 1) f fd ["tape", "many"] (spOf K sp_l_texts) :=
  def_ok F sc_l_texts mb_l_texts (by decide +kernel) len_l_texts (fun A hr => by simp [b_l_texts, b_l_texts_1, c_l_texts_1, NeedS, Need, NoG, Bf.name, Ty.name, h_l_pick A hr, h_l_next A hr, g_range, g_tuple]) l_texts_ok
theorem sc_l_worth : FnScope ["row", "step"] ["row"] (defScope (top 14)) := ⟨rfl, rfl, rfl, by decide +kernel, rfl, by decide +kernel, by decide +kernel⟩
theorem len_l_worth : ∀ ds Q, sp_l_worth ds Q → ds.length = 1 := by first | (rintro _ _ ⟨rfl, _⟩; rfl) | (rintro _ _ ⟨_, rfl, _⟩; rfl) | (rintro _ _ ⟨_, _, rfl, _⟩; rfl) | (rintro _ _ ⟨_, _, _, rfl, _⟩; rfl) | (rintro _ _ ⟨_, _, _, _, rfl, _⟩; rfl) | (rintro _ _ ⟨_, _, _, _, _, rfl, _⟩; rfl) | (rintro _ _ ⟨_, _, _, _, _, _, rfl, _⟩; rfl) | (rintro _ _ ⟨_, _, _, _, _, _, _, rfl, _⟩; rfl) | (rintro _ _ ⟨_, _, _, _, _, _, _, _, rfl, _⟩; rfl)
theorem ok_l_worth (F : FnP K "_law_worth" 14 f fd) (g_sum : mg "sum" = none) : FnOk P w K mg base CX0 (k + 1) f fd ["row"] (spOf K sp_l_worth) :=
  def_ok F sc_l_worth mb_l_worth (by decide +kernel) len_l_worth (fun A hr => by simp [b_l_worth, c_l_worth_1, NeedS, Need, NoG, Bf.name, Ty.name, g_sum]) l_worth_ok
theorem sc_l_all : FnScope ["base", "text", "found", "step", "rest_v"] ["base", "text"] (defScope (top 13)) := ⟨rfl, rfl, rfl, by decide +kernel, rfl, by decide +kernel, by decide +kernel⟩
theorem ok_l_all_0 (F : FnP K "_law_all" 13 f fd) : FnOk P w K mg base CX0 (k + 1) f fd ["base", "text"] (spOf K (spr_l_all 0)) :=
  def_ok (b := (.cons .never (.cons .never (.cons .never (.cons .never (.cons .never (.cons .never .nil))))))) F sc_l_all (by simp [S.monos]) (by decide +kernel) (fun ds Q h => h.elim) (fun A hr => by simp [NeedS]) (fun ds Q h => h.elim)
theorem ok_l_all {n : Nat} (F : FnP K "_law_all" 13 f fd) (h_rec : ∀ A, Room k A → HasFn ⟨P, w, K, mg, base, A⟩ "_law_all" (spr_l_all n)) : FnOk P w K mg base CX0 (k + 1) f fd ["base", "text"] (spOf K (spr_l_all (n + 1))) :=
  def_ok F sc_l_all (mb_l_all (spm_r_l_all n)) (by kernel_rfl) (len_l_all n) (fun A hr => by simp [b_l_all, NeedS, Need, NoG, Bf.name, Ty.name, h_rec A hr]) (l_all_ok n)
theorem sc_law : FnScope ["script", "tape", "turn", "rows", "least", "first", "due", "base", "text", "row", "step"] ["script"] (defScope (top 18)) := ⟨rfl, rfl, rfl, by decide +kernel, rfl, by decide +kernel, by decide +kernel⟩
theorem ok_law {fT : Addr} {fdT : FuncData} (F : FnP K "law" 18 f fd) (h_l_right : ∀ A, Room k A → HasFn ⟨P, w, K, mg, base, A⟩ "_law_right" sp_l_right) (h_l_texts : ∀ A, Room k A → HasFn ⟨P, w, K, mg, base, A⟩ "_law_texts" sp_l_texts) (h_aligned : ∀ A, Room k A → HasFn ⟨P, w, K, mg, base, A⟩ "aligned" sp_aligned) (h_cost : ∀ A, Room k A → HasFn ⟨P, w, K, mg, base, A⟩ "cost" sp_cost) (h_l_worth : ∀ A, Room k A → HasFn ⟨P, w, K, mg, base, A⟩ "_law_worth" sp_l_worth) (h_l_all : ∀ A, Room k A → HasFn ⟨P, w, K, mg, base, A⟩ "_law_all" sp_l_all) (g_min : mg "min" = none) (g_range : mg "range" = none) (g_tuple : mg "tuple" = none) (gT : mg "_law_tape" = some (.ref fT)) (FT : FnOk P w K mg base CX0 1 fT fdT ["script"] (spNew true K)) (hk : PySem.W.keepIn K (.ref fT) = true) (bT : Binds K fdT ["script"] []) (hT : 1 ≤ k) : FnOk P w K mg base CX0 (k + 1) f fd ["script"] (spLaw K) :=
  DL.law_ok F sc_law mb_law (by decide) gT FT hk bT hT (by decide +kernel) (fun A hr => by simp [b_law, c_law_1, c_law_2, c_law_3, b_law_1, NeedS, Need, NoG, Bf.name, Ty.name, h_l_right A hr, h_l_texts A hr, h_aligned A hr, h_cost A hr, h_l_worth A hr, h_l_all A hr, g_min, g_range, g_tuple] <;> (repeat' first | exact mnT_need (by simp [E.monos, S.monos, spNum_mono, spPick_mono, spm_l_right, spm_l_texts, spm_aligned, spm_cost, spm_l_worth, spm_l_all]) (by simp [NeedS, Need, NoG, Bf.name, Ty.name, h_l_right A hr, h_l_texts A hr, h_aligned A hr, h_cost A hr, h_l_worth A hr, h_l_all A hr, g_min, g_range, g_tuple]) (by simp [NeedS, Need, NoG, Bf.name, Ty.name, h_l_right A hr, h_l_texts A hr, h_aligned A hr, h_cost A hr, h_l_worth A hr, h_l_all A hr, g_min, g_range, g_tuple]) | apply And.intro)) law_body
end
/-! ### the head -/
def dd_levels : He.DefD := ⟨("levels", none), "levels", "levels", defArgs (top 2), defBody (top 2), defScope (top 2), [], []⟩
def dd_l_saved : He.DefD := ⟨("_law_saved", none), "_law_saved", "_law_saved", defArgs (top 15), defBody (top 15), defScope (top 15), [], []⟩
def dd_cost_of : He.DefD := ⟨("cost_of", none), "cost_of", "cost_of", defArgs (top 7), defBody (top 7), defScope (top 7), [], []⟩
def dd_cost : He.DefD := ⟨("cost", none), "cost", "cost", defArgs (top 3), defBody (top 3), defScope (top 3), [], []⟩
def dd_next_step : He.DefD := ⟨("next_step", none), "next_step", "next_step", defArgs (top 5), defBody (top 5), defScope (top 5), [], []⟩
def dd_rest : He.DefD := ⟨("rest", none), "rest", "rest", defArgs (top 4), defBody (top 4), defScope (top 4), [], []⟩
def dd_aligned : He.DefD := ⟨("aligned", none), "aligned", "aligned", defArgs (top 6), defBody (top 6), defScope (top 6), [], []⟩
def dd_l_walked : He.DefD := ⟨("_law_walked", none), "_law_walked", "_law_walked", defArgs (top 16), defBody (top 16), defScope (top 16), [], []⟩
def dd_l_right : He.DefD := ⟨("_law_right", none), "_law_right", "_law_right", defArgs (top 17), defBody (top 17), defScope (top 17), [], []⟩
def dd_l_next : He.DefD := ⟨("_law_next", none), "_law_next", "_law_next", defArgs (top 10), defBody (top 10), defScope (top 10), [], []⟩
def dd_l_pick : He.DefD := ⟨("_law_pick", none), "_law_pick", "_law_pick", defArgs (top 11), defBody (top 11), defScope (top 11), [], []⟩
def dd_l_texts : He.DefD := ⟨("_law_texts", none), "_law_texts", "_law_texts", defArgs (top 12), defBody (top 12), defScope (top 12), [], []⟩
def dd_l_worth : He.DefD := ⟨("_law_worth", none), "_law_worth", "_law_worth", defArgs (top 14), defBody (top 14), defScope (top 14), [], []⟩
def dd_l_all : He.DefD := ⟨("_law_all", none), "_law_all", "_law_all", defArgs (top 13), defBody (top 13), defScope (top 13), [], []⟩
def dd_l_tape : He.DefD := ⟨("_law_tape", none), "_law_tape", "_law_tape", defArgs (top 9), defBody (top 9), defScope (top 9), [], []⟩
def dd_law : He.DefD := ⟨("law", none), "law", "law", defArgs (top 18), defBody (top 18), defScope (top 18), [], []⟩
def fn : List He.DefD := [dd_levels, dd_l_saved, dd_cost_of, dd_cost, dd_next_step, dd_rest, dd_aligned, dd_l_walked, dd_l_right, dd_l_next, dd_l_pick, dd_l_texts, dd_l_worth, dd_l_all, dd_l_tape, dd_law]
def fa : List He.Fa := [.glo "levels", .glo "_law_saved", .glo "cost_of", .glo "cost", .glo "next_step", .glo "rest", .glo "aligned", .glo "_law_walked", .glo "_law_right", .glo "_law_next", .glo "_law_pick", .glo "_law_texts", .glo "_law_worth", .glo "_law_all", .glo "_law_tape", .glo "law", .free "abs", .free "int", .free "isinstance", .free "len", .free "list", .free "max", .free "min", .free "range", .free "sum", .free "tuple", .glo "COSTS"]
abbrev R0 : PySem.W.OpenRow := PySem.W.OpenLaw.row PySem.Challenge.rw_lostelder_k40_alignments_are_least
def ts : List He.Tab := [(fun K => He.ga K "COSTS", ["keep", "change", "drop", "add"])]
def ckA (K : PySem.W.Frag) : Bool := ckDic "COSTS" [("keep", 0), ("change", 3), ("drop", 2), ("add", 2)] K
abbrev hk : PySem.W.Hook := hookX 4 fa fn ts ckA
def ob (s : PySem.W.SharedT) : AlX := obsXG 4 fa fn ts ckA (HandSHeadRun.getT s)
theorem ob_eq (s : PySem.W.SharedT) : ob s = hk.obs s.abs := obsXG_eq (HandSHeadRun.getT_eq s)
def loose : List Str := ["levels", "cost", "rest", "next_step", "aligned", "cost_of", "_law_tape", "_law_next", "_law_pick", "_law_texts", "_law_all", "_law_worth", "_law_saved", "_law_walked", "_law_right", "COSTS"]
theorem run (w : World) : HandSHeadRun.RunEq R0 (PySem.W.view R0.prog [18]) hk ob 1160 loose w := by
  exact PySem.W.byRow2 "special-get-raises" (P := fun w => HandSHeadRun.RunEq R0 (PySem.W.view R0.prog [18]) hk ob 1160 loose w) (fun w => by
    intro os
    kernel_rfl) (fun w => by
    intro os
    kernel_rfl) w
theorem facts {P : Program} {w : World} {K : PySem.W.Frag} {h : Heap} {mg : Str → Option Value} {f : Addr} (X : K.In h) (G : h.Ns mainGlobals mg) (hfa : mg ("law" : Str) = some (.ref f)) (cx : SaysX fa fn ts ckA w K) :
    ∃ fd : FuncData, (∀ (s : Shared) (v : Value), BindsTo s fd ⟨[v], []⟩ [("script", v)]) ∧ ∀ base : Heap, K.In base → base.Ns mainGlobals mg → FnOk P w K mg base CX0 13 f fd ["script"] (spLaw K) := by
  have c := cx.t.d
  have ck0 := cx.chk
  unfold ckA at ck0
  have ck_COSTS := ck0
  obtain ⟨fd_levels, F_levels⟩ := c.def_ 0 (d := dd_levels) rfl
  have m_levels := He.glo_ok X G (c.fact 0 (f := .glo "levels") rfl)
  obtain ⟨fd_l_saved, F_l_saved⟩ := c.def_ 1 (d := dd_l_saved) rfl
  have m_l_saved := He.glo_ok X G (c.fact 1 (f := .glo "_law_saved") rfl)
  obtain ⟨fd_cost_of, F_cost_of⟩ := c.def_ 2 (d := dd_cost_of) rfl
  have m_cost_of := He.glo_ok X G (c.fact 2 (f := .glo "cost_of") rfl)
  obtain ⟨fd_cost, F_cost⟩ := c.def_ 3 (d := dd_cost) rfl
  have m_cost := He.glo_ok X G (c.fact 3 (f := .glo "cost") rfl)
  obtain ⟨fd_next_step, F_next_step⟩ := c.def_ 4 (d := dd_next_step) rfl
  have m_next_step := He.glo_ok X G (c.fact 4 (f := .glo "next_step") rfl)
  obtain ⟨fd_rest, F_rest⟩ := c.def_ 5 (d := dd_rest) rfl
  have m_rest := He.glo_ok X G (c.fact 5 (f := .glo "rest") rfl)
  obtain ⟨fd_aligned, F_aligned⟩ := c.def_ 6 (d := dd_aligned) rfl
  have m_aligned := He.glo_ok X G (c.fact 6 (f := .glo "aligned") rfl)
  obtain ⟨fd_l_walked, F_l_walked⟩ := c.def_ 7 (d := dd_l_walked) rfl
  have m_l_walked := He.glo_ok X G (c.fact 7 (f := .glo "_law_walked") rfl)
  obtain ⟨fd_l_right, F_l_right⟩ := c.def_ 8 (d := dd_l_right) rfl
  have m_l_right := He.glo_ok X G (c.fact 8 (f := .glo "_law_right") rfl)
  obtain ⟨fd_l_next, F_l_next⟩ := c.def_ 9 (d := dd_l_next) rfl
  have m_l_next := He.glo_ok X G (c.fact 9 (f := .glo "_law_next") rfl)
  obtain ⟨fd_l_pick, F_l_pick⟩ := c.def_ 10 (d := dd_l_pick) rfl
  have m_l_pick := He.glo_ok X G (c.fact 10 (f := .glo "_law_pick") rfl)
  obtain ⟨fd_l_texts, F_l_texts⟩ := c.def_ 11 (d := dd_l_texts) rfl
  have m_l_texts := He.glo_ok X G (c.fact 11 (f := .glo "_law_texts") rfl)
  obtain ⟨fd_l_worth, F_l_worth⟩ := c.def_ 12 (d := dd_l_worth) rfl
  have m_l_worth := He.glo_ok X G (c.fact 12 (f := .glo "_law_worth") rfl)
  obtain ⟨fd_l_all, F_l_all⟩ := c.def_ 13 (d := dd_l_all) rfl
  have m_l_all := He.glo_ok X G (c.fact 13 (f := .glo "_law_all") rfl)
  obtain ⟨fd_l_tape, F_l_tape⟩ := c.def_ 14 (d := dd_l_tape) rfl
  have m_l_tape := He.glo_ok X G (c.fact 14 (f := .glo "_law_tape") rfl)
  obtain ⟨fd_law, F_law⟩ := c.def_ 15 (d := dd_law) rfl
  have g_abs : mg "abs" = none := He.free_ok X G (c.fact 16 (f := .free "abs") rfl)
  have g_int : mg "int" = none := He.free_ok X G (c.fact 17 (f := .free "int") rfl)
  have g_isinstance : mg "isinstance" = none := He.free_ok X G (c.fact 18 (f := .free "isinstance") rfl)
  have g_len : mg "len" = none := He.free_ok X G (c.fact 19 (f := .free "len") rfl)
  have g_list : mg "list" = none := He.free_ok X G (c.fact 20 (f := .free "list") rfl)
  have g_max : mg "max" = none := He.free_ok X G (c.fact 21 (f := .free "max") rfl)
  have g_min : mg "min" = none := He.free_ok X G (c.fact 22 (f := .free "min") rfl)
  have g_range : mg "range" = none := He.free_ok X G (c.fact 23 (f := .free "range") rfl)
  have g_sum : mg "sum" = none := He.free_ok X G (c.fact 24 (f := .free "sum") rfl)
  have g_tuple : mg "tuple" = none := He.free_ok X G (c.fact 25 (f := .free "tuple") rfl)
  have m_COSTS := He.glo_ok X G (c.fact 26 (f := .glo "COSTS") rfl)
  obtain ⟨es_COSTS, n_COSTS, d_COSTS⟩ := cx.t.tab 0 (t := (fun K => He.ga K "COSTS", ["keep", "change", "drop", "add"])) rfl
  have v_COSTS : ∀ (base : Heap) (A : Around), HasDk ⟨P, w, K, mg, base, A⟩ "COSTS" [("keep", 0), ("change", 3), ("drop", 2), ("add", 2)] := fun base A => ckDic_ok (g := ⟨P, w, K, mg, base, A⟩) m_COSTS d_COSTS ck_COSTS
  have e := hfa.symm.trans (He.glo_ok X G (c.fact 15 (f := .glo "law") rfl))
  cases e
  have b := FunD.bindsA (ps := ["script"]) F_law fun _ _ _ _ _ _ us hl => match us, hl with | [_], _ => rfl
  refine ⟨fd_law, fun s v => b s [v] rfl, fun base _ _ => ?_⟩
  have o_levels := ok_levels (P := P) (w := w) (base := base) (mg := mg) (k := 0) F_levels g_len g_min g_range g_tuple
  have h_levels : ∀ (j : Nat) (A : Around), 1 ≤ j → Room j A → HasFn ⟨P, w, K, mg, base, A⟩ "levels" sp_levels := fun j A hj hr => ⟨_, _, _, _, m_levels, o_levels, hr.mono hj, F_levels.kp, F_levels.bindsN fun _ _ _ _ _ _ us hl => match us, hl with | [_, _], _ => rfl⟩
  have o_l_saved := ok_l_saved (P := P) (w := w) (base := base) (mg := mg) (k := 0) F_l_saved g_len g_max g_range
  have h_l_saved : ∀ (j : Nat) (A : Around), 1 ≤ j → Room j A → HasFn ⟨P, w, K, mg, base, A⟩ "_law_saved" sp_l_saved := fun j A hj hr => ⟨_, _, _, _, m_l_saved, o_l_saved, hr.mono hj, F_l_saved.kp, F_l_saved.bindsN fun _ _ _ _ _ _ us hl => match us, hl with | [_, _], _ => rfl⟩
  have o_cost_of := ok_cost_of (P := P) (w := w) (base := base) (mg := mg) (k := 0) F_cost_of (v_COSTS base) g_sum
  have h_cost_of : ∀ (j : Nat) (A : Around), 1 ≤ j → Room j A → HasFn ⟨P, w, K, mg, base, A⟩ "cost_of" sp_cost_of := fun j A hj hr => ⟨_, _, _, _, m_cost_of, o_cost_of, hr.mono hj, F_cost_of.kp, F_cost_of.bindsN fun _ _ _ _ _ _ us hl => match us, hl with | [_], _ => rfl⟩
  have o_cost := ok_cost (P := P) (w := w) (base := base) (mg := mg) (k := 1) F_cost (fun A hr => h_levels _ A (by decide) hr)
  have h_cost : ∀ (j : Nat) (A : Around), 2 ≤ j → Room j A → HasFn ⟨P, w, K, mg, base, A⟩ "cost" sp_cost := fun j A hj hr => ⟨_, _, _, _, m_cost, o_cost, hr.mono hj, F_cost.kp, F_cost.bindsN fun _ _ _ _ _ _ us hl => match us, hl with | [_, _], _ => rfl⟩
  have o_next_step := ok_next_step (P := P) (w := w) (base := base) (mg := mg) (k := 0) F_next_step (v_COSTS base) g_len
  have h_next_step : ∀ (j : Nat) (A : Around), 1 ≤ j → Room j A → HasFn ⟨P, w, K, mg, base, A⟩ "next_step" sp_next_step := fun j A hj hr => ⟨_, _, _, _, m_next_step, o_next_step, hr.mono hj, F_next_step.kp, F_next_step.bindsN fun _ _ _ _ _ _ us hl => match us, hl with | [_, _, _, _, _], _ => rfl⟩
  have o_rest := ok_rest (P := P) (w := w) (base := base) (mg := mg) (k := 1) F_rest (fun A hr => h_levels _ A (by decide) hr) g_list
  have h_rest : ∀ (j : Nat) (A : Around), 2 ≤ j → Room j A → HasFn ⟨P, w, K, mg, base, A⟩ "rest" sp_rest := fun j A hj hr => ⟨_, _, _, _, m_rest, o_rest, hr.mono hj, F_rest.kp, F_rest.bindsN fun _ _ _ _ _ _ us hl => match us, hl with | [_, _], _ => rfl⟩
  have o_aligned := ok_aligned (P := P) (w := w) (base := base) (mg := mg) (k := 2) F_aligned (fun A hr => h_next_step _ A (by decide) hr) (fun A hr => h_rest _ A (by decide) hr) g_int g_len g_tuple
  have h_aligned : ∀ (j : Nat) (A : Around), 3 ≤ j → Room j A → HasFn ⟨P, w, K, mg, base, A⟩ "aligned" sp_aligned := fun j A hj hr => ⟨_, _, _, _, m_aligned, o_aligned, hr.mono hj, F_aligned.kp, F_aligned.bindsN fun _ _ _ _ _ _ us hl => match us, hl with | [_, _], _ => rfl⟩
  have o_l_walked := ok_l_walked (P := P) (w := w) (base := base) (mg := mg) (k := 1) F_l_walked (fun A hr => h_l_saved _ A (by decide) hr) g_len g_range g_tuple
  have h_l_walked : ∀ (j : Nat) (A : Around), 2 ≤ j → Room j A → HasFn ⟨P, w, K, mg, base, A⟩ "_law_walked" sp_l_walked := fun j A hj hr => ⟨_, _, _, _, m_l_walked, o_l_walked, hr.mono hj, F_l_walked.kp, F_l_walked.bindsN fun _ _ _ _ _ _ us hl => match us, hl with | [_, _], _ => rfl⟩
  have o_l_right := ok_l_right (P := P) (w := w) (base := base) (mg := mg) (k := 3) F_l_right (fun A hr => h_levels _ A (by decide) hr) (fun A hr => h_l_saved _ A (by decide) hr) (fun A hr => h_cost_of _ A (by decide) hr) (fun A hr => h_cost _ A (by decide) hr) (fun A hr => h_aligned _ A (by decide) hr) (fun A hr => h_l_walked _ A (by decide) hr) g_int g_isinstance g_len g_range g_tuple
  have h_l_right : ∀ (j : Nat) (A : Around), 4 ≤ j → Room j A → HasFn ⟨P, w, K, mg, base, A⟩ "_law_right" sp_l_right := fun j A hj hr => ⟨_, _, _, _, m_l_right, o_l_right, hr.mono hj, F_l_right.kp, F_l_right.bindsN fun _ _ _ _ _ _ us hl => match us, hl with | [_, _], _ => rfl⟩
  have o_l_next := next_ok (P := P) (w := w) (base := base) (mg := mg) (k := 0) F_l_next g_int g_len
  have h_l_next : ∀ (j : Nat) (A : Around), 1 ≤ j → Room j A → HasFn ⟨P, w, K, mg, base, A⟩ "_law_next" (spNum true) := fun j A hj hr => ⟨_, _, _, _, m_l_next, o_l_next, hr.mono hj, F_l_next.kp, F_l_next.bindsN fun _ _ _ _ _ _ us hl => match us, hl with | [_, _], _ => rfl⟩
  have o_l_pick := ok_l_pick (P := P) (w := w) (base := base) (mg := mg) (k := 1) F_l_pick (fun A hr => h_l_next _ A (by decide) hr) g_len
  have h_l_pick : ∀ (j : Nat) (A : Around), 2 ≤ j → Room j A → HasFn ⟨P, w, K, mg, base, A⟩ "_law_pick" (spPick true) := fun j A hj hr => ⟨_, _, _, _, m_l_pick, o_l_pick, hr.mono hj, F_l_pick.kp, F_l_pick.bindsN fun _ _ _ _ _ _ us hl => match us, hl with | [_, _], _ => rfl⟩
  have o_l_texts := ok_l_texts (P := P) (w := w) (base := base) (mg := mg) (k := 2) F_l_texts (fun A hr => h_l_pick _ A (by decide) hr) (fun A hr => h_l_next _ A (by decide) hr) g_range g_tuple
  have h_l_texts : ∀ (j : Nat) (A : Around), 3 ≤ j → Room j A → HasFn ⟨P, w, K, mg, base, A⟩ "_law_texts" sp_l_texts := fun j A hj hr => ⟨_, _, _, _, m_l_texts, o_l_texts, hr.mono hj, F_l_texts.kp, F_l_texts.bindsN fun _ _ _ _ _ _ us hl => match us, hl with | [_, _], _ => rfl⟩
  have o_l_worth := ok_l_worth (P := P) (w := w) (base := base) (mg := mg) (k := 0) F_l_worth g_sum
  have h_l_worth : ∀ (j : Nat) (A : Around), 1 ≤ j → Room j A → HasFn ⟨P, w, K, mg, base, A⟩ "_law_worth" sp_l_worth := fun j A hj hr => ⟨_, _, _, _, m_l_worth, o_l_worth, hr.mono hj, F_l_worth.kp, F_l_worth.bindsN fun _ _ _ _ _ _ us hl => match us, hl with | [_], _ => rfl⟩
  have o_l_all_0 := ok_l_all_0 (P := P) (w := w) (base := base) (mg := mg) (k := 0) F_l_all
  have h_l_all_0 : ∀ (j : Nat) (A : Around), 1 ≤ j → Room j A → HasFn ⟨P, w, K, mg, base, A⟩ "_law_all" (spr_l_all 0) := fun j A hj hr => ⟨_, _, _, _, m_l_all, o_l_all_0, hr.mono hj, F_l_all.kp, F_l_all.bindsN fun _ _ _ _ _ _ us hl => match us, hl with | [_, _], _ => rfl⟩
  have o_l_all_1 := ok_l_all (n := 0) (P := P) (w := w) (base := base) (mg := mg) (k := 1) F_l_all (fun A hr => h_l_all_0 _ A (by decide) hr)
  have h_l_all_1 : ∀ (j : Nat) (A : Around), 2 ≤ j → Room j A → HasFn ⟨P, w, K, mg, base, A⟩ "_law_all" (spr_l_all 1) := fun j A hj hr => ⟨_, _, _, _, m_l_all, o_l_all_1, hr.mono hj, F_l_all.kp, F_l_all.bindsN fun _ _ _ _ _ _ us hl => match us, hl with | [_, _], _ => rfl⟩
  have o_l_all_2 := ok_l_all (n := 1) (P := P) (w := w) (base := base) (mg := mg) (k := 2) F_l_all (fun A hr => h_l_all_1 _ A (by decide) hr)
  have h_l_all_2 : ∀ (j : Nat) (A : Around), 3 ≤ j → Room j A → HasFn ⟨P, w, K, mg, base, A⟩ "_law_all" (spr_l_all 2) := fun j A hj hr => ⟨_, _, _, _, m_l_all, o_l_all_2, hr.mono hj, F_l_all.kp, F_l_all.bindsN fun _ _ _ _ _ _ us hl => match us, hl with | [_, _], _ => rfl⟩
  have o_l_all_3 := ok_l_all (n := 2) (P := P) (w := w) (base := base) (mg := mg) (k := 3) F_l_all (fun A hr => h_l_all_2 _ A (by decide) hr)
  have h_l_all_3 : ∀ (j : Nat) (A : Around), 4 ≤ j → Room j A → HasFn ⟨P, w, K, mg, base, A⟩ "_law_all" (spr_l_all 3) := fun j A hj hr => ⟨_, _, _, _, m_l_all, o_l_all_3, hr.mono hj, F_l_all.kp, F_l_all.bindsN fun _ _ _ _ _ _ us hl => match us, hl with | [_, _], _ => rfl⟩
  have o_l_all_4 := ok_l_all (n := 3) (P := P) (w := w) (base := base) (mg := mg) (k := 4) F_l_all (fun A hr => h_l_all_3 _ A (by decide) hr)
  have h_l_all_4 : ∀ (j : Nat) (A : Around), 5 ≤ j → Room j A → HasFn ⟨P, w, K, mg, base, A⟩ "_law_all" (spr_l_all 4) := fun j A hj hr => ⟨_, _, _, _, m_l_all, o_l_all_4, hr.mono hj, F_l_all.kp, F_l_all.bindsN fun _ _ _ _ _ _ us hl => match us, hl with | [_, _], _ => rfl⟩
  have o_l_all_5 := ok_l_all (n := 4) (P := P) (w := w) (base := base) (mg := mg) (k := 5) F_l_all (fun A hr => h_l_all_4 _ A (by decide) hr)
  have h_l_all_5 : ∀ (j : Nat) (A : Around), 6 ≤ j → Room j A → HasFn ⟨P, w, K, mg, base, A⟩ "_law_all" (spr_l_all 5) := fun j A hj hr => ⟨_, _, _, _, m_l_all, o_l_all_5, hr.mono hj, F_l_all.kp, F_l_all.bindsN fun _ _ _ _ _ _ us hl => match us, hl with | [_, _], _ => rfl⟩
  have o_l_all_6 := ok_l_all (n := 5) (P := P) (w := w) (base := base) (mg := mg) (k := 6) F_l_all (fun A hr => h_l_all_5 _ A (by decide) hr)
  have h_l_all_6 : ∀ (j : Nat) (A : Around), 7 ≤ j → Room j A → HasFn ⟨P, w, K, mg, base, A⟩ "_law_all" (spr_l_all 6) := fun j A hj hr => ⟨_, _, _, _, m_l_all, o_l_all_6, hr.mono hj, F_l_all.kp, F_l_all.bindsN fun _ _ _ _ _ _ us hl => match us, hl with | [_, _], _ => rfl⟩
  have o_l_all_7 := ok_l_all (n := 6) (P := P) (w := w) (base := base) (mg := mg) (k := 7) F_l_all (fun A hr => h_l_all_6 _ A (by decide) hr)
  have h_l_all_7 : ∀ (j : Nat) (A : Around), 8 ≤ j → Room j A → HasFn ⟨P, w, K, mg, base, A⟩ "_law_all" (spr_l_all 7) := fun j A hj hr => ⟨_, _, _, _, m_l_all, o_l_all_7, hr.mono hj, F_l_all.kp, F_l_all.bindsN fun _ _ _ _ _ _ us hl => match us, hl with | [_, _], _ => rfl⟩
  have o_l_all_8 := ok_l_all (n := 7) (P := P) (w := w) (base := base) (mg := mg) (k := 8) F_l_all (fun A hr => h_l_all_7 _ A (by decide) hr)
  have h_l_all_8 : ∀ (j : Nat) (A : Around), 9 ≤ j → Room j A → HasFn ⟨P, w, K, mg, base, A⟩ "_law_all" (spr_l_all 8) := fun j A hj hr => ⟨_, _, _, _, m_l_all, o_l_all_8, hr.mono hj, F_l_all.kp, F_l_all.bindsN fun _ _ _ _ _ _ us hl => match us, hl with | [_, _], _ => rfl⟩
  have o_l_all_9 := ok_l_all (n := 8) (P := P) (w := w) (base := base) (mg := mg) (k := 9) F_l_all (fun A hr => h_l_all_8 _ A (by decide) hr)
  have h_l_all_9 : ∀ (j : Nat) (A : Around), 10 ≤ j → Room j A → HasFn ⟨P, w, K, mg, base, A⟩ "_law_all" (spr_l_all 9) := fun j A hj hr => ⟨_, _, _, _, m_l_all, o_l_all_9, hr.mono hj, F_l_all.kp, F_l_all.bindsN fun _ _ _ _ _ _ us hl => match us, hl with | [_, _], _ => rfl⟩
  have o_l_all_10 := ok_l_all (n := 9) (P := P) (w := w) (base := base) (mg := mg) (k := 10) F_l_all (fun A hr => h_l_all_9 _ A (by decide) hr)
  have h_l_all_10 : ∀ (j : Nat) (A : Around), 11 ≤ j → Room j A → HasFn ⟨P, w, K, mg, base, A⟩ "_law_all" (spr_l_all 10) := fun j A hj hr => ⟨_, _, _, _, m_l_all, o_l_all_10, hr.mono hj, F_l_all.kp, F_l_all.bindsN fun _ _ _ _ _ _ us hl => match us, hl with | [_, _], _ => rfl⟩
  have o_l_all_11 := ok_l_all (n := 10) (P := P) (w := w) (base := base) (mg := mg) (k := 11) F_l_all (fun A hr => h_l_all_10 _ A (by decide) hr)
  have h_l_all_11 : ∀ (j : Nat) (A : Around), 12 ≤ j → Room j A → HasFn ⟨P, w, K, mg, base, A⟩ "_law_all" (spr_l_all 11) := fun j A hj hr => ⟨_, _, _, _, m_l_all, o_l_all_11, hr.mono hj, F_l_all.kp, F_l_all.bindsN fun _ _ _ _ _ _ us hl => match us, hl with | [_, _], _ => rfl⟩
  have o_l_all := o_l_all_11
  have h_l_all : ∀ (j : Nat) (A : Around), 12 ≤ j → Room j A → HasFn ⟨P, w, K, mg, base, A⟩ "_law_all" sp_l_all := fun j A hj hr => ⟨_, _, _, _, m_l_all, o_l_all, hr.mono hj, F_l_all.kp, F_l_all.bindsN fun _ _ _ _ _ _ us hl => match us, hl with | [_, _], _ => rfl⟩
  have o_l_tape := tape_ok (P := P) (w := w) (base := base) (mg := mg) (k := 0) F_l_tape g_int g_abs
  exact ok_law (P := P) (w := w) (base := base) (mg := mg) (k := 12) F_law (fun A hr => h_l_right _ A (by decide) hr) (fun A hr => h_l_texts _ A (by decide) hr) (fun A hr => h_aligned _ A (by decide) hr) (fun A hr => h_cost _ A (by decide) hr) (fun A hr => h_l_worth _ A (by decide) hr) (fun A hr => h_l_all _ A (by decide) hr) g_min g_range g_tuple m_l_tape o_l_tape F_l_tape.kp (F_l_tape.bindsN fun _ _ _ _ _ _ us hl => match us, hl with | [_], _ => rfl) (by decide)
end K40
open PySem PySem.W PySem.Calls PyProof.Rows
theorem PySem.Challenge.cw_lostelder_k40_alignments_are_least_holds : PySem.Challenge.rw_lostelder_k40_alignments_are_least.Holds := by
  w_on; o_law
  refine HandSHeadRun.head_any (r := OpenLaw.row PySem.Challenge.rw_lostelder_k40_alignments_are_least) (q := view (OpenLaw.row PySem.Challenge.rw_lostelder_k40_alignments_are_least).prog [18]) (H := K40.hk) (ob := K40.ob) (M := 1160) (loose := K40.loose) (d := HandSHeadRun.topDef (OpenLaw.row PySem.Challenge.rw_lostelder_k40_alignments_are_least).prog 18) (kwd := []) K40.ob_eq
    (by kernel_rfl) (fun s => by kernel_rfl) K40.run (by kernel_rfl) (by kernel_rfl) (by kernel_rfl) (by rfl) (by first | assumption | decide +kernel) (by decide +kernel) ⟨rfl, rfl, rfl, rfl, rfl, by decide +kernel⟩ ?hw ?hc
  case hw => w_witness2
  case hc =>
    refine L2.walk_ofE (l := PySem.Challenge.rw_lostelder_k40_alignments_are_least) (n := 63) (k := 13) (x := "script") (CX := L2.CX0) rfl (by decide) (by kernel_rfl) ⟨rfl, by decide, by decide⟩ ?F (fun _ _ _ _ z => z)
    intro w mg fa h Y G hmg0
    obtain ⟨K, KX, c⟩ := Y
    have hmg : mg ("law" : PySem.Str) = some (.ref fa) := by
      have e : (HandSHeadRun.topDef (OpenLaw.row PySem.Challenge.rw_lostelder_k40_alignments_are_least).prog 18).name = ("law" : PySem.Str) := by kernel_rfl
      rw [← e]
      exact hmg0
    obtain ⟨fd, hb, hF⟩ := K40.facts (P := (PySem.Challenge.rw_lostelder_k40_alignments_are_least).prog) (w := w) KX G hmg c
    exact ⟨K, fd, DL.spLaw K, KX, hb, fun H a ns hl _ hS => ⟨a, ns, rfl, hS, hl, fun _ => rfl⟩, hF⟩
