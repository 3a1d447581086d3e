import PyProof.Rows.All
import Wide.All
import OpenK.AllK
import Wide.FinOn
import HandS.ForMost
import HandS.Strs
import HandS.Exc
import HandS.Deep
import HandS.Wide
import HandS.TupAny
import HandS.Style
import HandS.IsInst
import HandS.Conv
import HandS.CallSlots
import HandS.Defaults
import HandS.HeadEnd
import HandS.HeadHook2
import HandS.HeadWalk
import HandS.Head2
import HandS.TupMul
import HandS.Nested
import KE.SortData
import PyProof.EqAt
import PyProof.EqKinds
import PyProof.TupleCall
import KE.KDictKeyed
import KE.KDictPairs
import HandS.Base
import HandS.Call
import HandS.List
import HandS.Dict
import HandS.Iter
import PyProof.Rows.StrTemp
import HandS.Text
import HandS.DictTup
import PyProof.Transfer
import KE.KDictWalk
import KE.KDictList
import KE.DataCmp
import HandS.RaiseMore
import HandS.Small
import HandS.ExcInit
import HandS.ExcIs
import HandS.TryOnly
import HandS.ExcField
import HandS.HeadHook4
import HandS.EndTab
import PySem.Challenge.RW_copyclerk_k82_rows_that_are_no_shapes
set_option Elab.async false
set_option linter.all false
set_option maxRecDepth 100000
/-! Cc: len(set(x)), x a list of texts of any kind. -/
namespace Cc
open PySem PySem.Spec PyProof.Rows
/-- how many unlike texts stand among the first i -/
def cntS (xs : List Str) : Nat → Nat
  | 0 => 0
  | i + 1 => if (xs.take i).any (· == xs.getD i Str.empty) then cntS xs i else cntS xs i + 1
theorem cntS_le (xs : List Str) : ∀ i, cntS xs i ≤ i
  | 0 => Nat.le_refl _
  | i + 1 => by
    have q := cntS_le xs i
    unfold cntS
    split <;> omega
def nDist (xs : List Str) : Nat := cntS xs xs.length
theorem cntS_nodup {xs : List Str} (nd : xs.Nodup) : ∀ i, i ≤ xs.length → cntS xs i = i
  | 0, _ => rfl
  | i + 1, h => by
    have hn : (xs.take i).any (· == xs.getD i Str.empty) = false := by
      rw [List.any_eq_false]
      intro y hy e
      obtain ⟨j, hj, ej⟩ := List.mem_iff_getElem.mp hy
      have hj2 : j < i := by simp at hj; omega
      have e1 : y = xs[i] := by rw [eq_of_beq e, List.getD_eq_getElem?_getD, List.getElem?_eq_getElem (by omega)]; rfl
      rw [List.getElem_take] at ej
      have := (List.getElem_inj nd).mp (ej.trans e1)
      omega
    rw [cntS, hn, if_neg (by decide), cntS_nodup nd i (by omega)]
theorem nDist_nodup {xs : List Str} (nd : xs.Nodup) : nDist xs = xs.length := cntS_nodup nd _ (Nat.le_refl _)
section
variable {p : Program} {w : World} {B : Around} {R : Result → Shared → Prop} {it a : Addr} {f1 w1 : List Addr} {G : Array GenState → Array GenState → Prop} {m : Nat} {P : Nat → Value → Prop} {St : Nat → Shared → Prop} {xs : List Str}
/-- the members among the first i -/
def mem (xs : List Str) (i : Nat) : Str → Bool := fun z => (xs.take i).any (· == z)
theorem mem_succ {i : Nat} (h : i < xs.length) (z : Str) : (mem xs i z || decide (z = xs.getD i Str.empty)) = mem xs (i + 1) z := by
  unfold mem
  have e : xs.getD i Str.empty = xs[i] := by rw [List.getD_eq_getElem?_getD, List.getElem?_eq_getElem h]; rfl
  rw [List.take_succ, List.getElem?_eq_getElem h, List.any_append, e]
  congr 1
  by_cases q : z = xs[i]
  · simp [q]
  · have : ¬ xs[i] = z := fun y => q y.symm
    simp [q, this]
theorem upd_loop (V : WalksS p w B.in1 it f1 w1 G m P St) (ha : a ∉ f1) (hm : xs.length = m) (hb : m < 4000) (hv : ∀ i v, P i v → ∃ t, v = .str (xs.getD i Str.empty) t) : ∀ (r i : Nat) (s : Shared), m - i = r → i ≤ m → St i s →
    s.heap.SetOf (PySem.strKind p w) a (mem xs i) (cntS xs i) → (∀ s', Moved (a :: w1) G s s' → s'.heap.SetOf (PySem.strKind p w) a (mem xs m) (cntS xs m) → R (.ok (.ret .none)) s') →
    codeAny (model p w) B (.builtin "set.update.loop" ⟨[.ref a, .ref it], []⟩) R s := by
  have aw : a ∉ w1 := fun z => ha (V.sub _ z)
  have sub : ∀ b ∈ w1, b ∈ a :: w1 := fun b z => List.mem_cons_of_mem _ z
  intro r
  induction r with
  | zero =>
    intro i s hr hi st hS kR
    obtain rfl : i = m := by omega
    refine codeAny_builtin PyProof.Rows.F.entry_set_update_loop ?_; rw [Around.under_plainId PyProof.Rows.F.plain_set_update_loop _]
    show wpAny _ B.in1 (pyNext (.ref it) >>= _) _ _ s
    refine wpAny_bind (V.done s _ _ st fun s' mv => ?_)
    show wpAny _ B.in1 (ret Value.none) _ _ s'
    refine wpAny_pure (kR s' (mv.mono sub) ?_)
    obtain ⟨o, es, ep, t, g, more⟩ := hS; exact ⟨o, es, ep, t, mv.heap a _ aw g, more⟩
  | succ r ih =>
    intro i s hr hi st hS kR
    have lt : i < m := by omega
    refine codeAny_builtin PyProof.Rows.F.entry_set_update_loop ?_; rw [Around.under_plainId PyProof.Rows.F.plain_set_update_loop _]
    show wpAny _ B.in1 (pyNext (.ref it) >>= _) _ _ s
    refine wpAny_bind (V.item i s _ _ lt st fun v s' pv st' mv => ?_)
    obtain ⟨t, rfl⟩ := hv i v pv
    have hS1 : s'.heap.SetOf (PySem.strKind p w) a (mem xs i) (cntS xs i) := by
      obtain ⟨o, es, ep, tb, g, more⟩ := hS; exact ⟨o, es, ep, tb, mv.heap a _ aw g, more⟩
    show wpAny _ B.in1 (holding [Value.str (xs.getD i Str.empty) t] (setAdd a (.str (xs.getD i Str.empty) t)) >>= _) _ _ s'
    refine wpAny_bind (wpAny_holding ?_); unfold setAdd; refine wpAny_holding ?_
    refine wpAny_bind ((PySem.strKind p w).pyHash (k := xs.getD i Str.empty) (strKind_is _ _ _ _) ?_)
    have cl := cntS_le xs i
    refine wpAny_setAddHashed_of (knd := PySem.strKind p w) (s := { s' with toks := s'.toks + 1 }) (strKind_is _ _ _ _) rfl hS1 (by unfold scanBound; omega) fun h' sb hS2 => ?_
    have hS3 : h'.SetOf (PySem.strKind p w) a (mem xs (i + 1)) (cntS xs (i + 1)) := SetOf_congr hS2 (fun z => mem_succ (by omega) z) rfl
    have out : ∀ b ∈ f1, b ≠ a := fun b hb z => ha (by rw [← z]; exact hb)
    refine wpAny_pure ⟨plainId_quiet PyProof.Rows.F.plain_set_update_loop _, ih (i + 1) _ (by omega) lt (V.frame _ s' _ _ st' (Nat.le_succ _) fun b hb o e => by rw [sb.2 b (out b hb)]; exact e) hS3 fun s2 mv2 hS4 => ?_⟩
    refine kR s2 (Moved.trans V.gtrans ((mv.mono sub).then_heap (Nat.le_succ _) fun b o hb e => ?_) mv2) hS4
    rw [sb.2 b fun z => hb (by rw [z]; exact List.mem_cons_self)]; exact e
end
section
variable {p : Program} {w : World} {B : Around} {E : Value → Shared → Prop} {s : Shared}
set_option maxHeartbeats 3200000 in
theorem set_of_texts {l : Addr} {its : Array Value} {xs : List Str} {Q : Value → Shared → Prop} (nh : B.handled = none) (hl : s.heap.IsList l its) (hi : PyProof.Rows.StrsAre its.toList xs) (hb : xs.length < 4000)
    (k : ∀ (h' : Heap) (tk : Nat), h'.SetOf (PySem.strKind p w) s.heap.objs.size (mem xs its.size) (cntS xs its.size) → (∀ b o, b < s.heap.objs.size → s.heap.get? b = some o → h'.get? b = some o) → Q (.ref s.heap.objs.size) { s with heap := h', toks := tk }) :
    wpAny (model p w) B (call (.type "set") [.ref l]) Q E s := by
  obtain ⟨c, tl, hmro⟩ := PySem.F.called_set.mro
  have hmade := PySem.F.called_set.made
  have hsub := PySem.F.called_set.sub
  refine wpAny_call (codeAny_of_tree ?_); show wpAny _ _ (callAny (.type "set") _) _ _ _
  refine wpAny_pure ⟨Code.quiet_builtin _ (by decide +kernel), codeAny_builtin PySem.F.entry_type_call ?_⟩; rw [Around.under_plain (weight_type_call_type "set" [.ref l] []) rfl]
  have n1 := PySem.F.called_set.notType
  have n2 := PySem.F.called_set.canCreate
  have n3 := PySem.F.typeCall_set_1 (.ref l)
  repeat (any_goals (first | assumption | wp_step))
  refine codeAny_mono (code_set_new_1 (.ref l) (E := E) (Q₁ := fun ob z => ∃ led : Bool, ob = .ref s.heap.objs.size ∧ z = { s with heap := s.heap.push { cls := .type "set", dict := none, data := .set #[] 0 (.fresh 0 0 led) } }) fun led => ⟨led, rfl, rfl⟩) fun r z hr => ?_
  cases r with
  | error e => exact hr
  | ok fl =>
    cases fl with
    | ret ob =>
      obtain ⟨led, rfl, rfl⟩ := hr
      let fresh : Obj := { cls := .type "set", dict := none, data := .set #[] 0 (.fresh 0 0 led) }
      have at0 : (s.heap.push fresh).get? s.heap.objs.size = some fresh := Heap.get?_push_size _ rfl
      have ty0 : Shared.TypeIs { s with heap := s.heap.push fresh } (.ref s.heap.objs.size) "set" := ⟨_, at0, rfl⟩
      have i1 := PySem.F.called_set.init.lookup
      have i2 := PySem.F.called_set.init.bind (.ref s.heap.objs.size)
      repeat (any_goals (first | assumption | wp_step))
      refine codeAny_mono (codeAny_call_builtin (R := wants (fun r z => r = .none ∧ ∃ h' tk, z = { s with heap := h', toks := tk } ∧ h'.SetOf (PySem.strKind p w) s.heap.objs.size (mem xs its.size) (cntS xs its.size) ∧ (∀ b o, b < s.heap.objs.size → s.heap.get? b = some o → h'.get? b = some o)) E) PySem.F.called_set.init.plain PySem.F.entry_set_init (check_set_init_1 ty0 ?_)) fun r2 z2 hr2 => ?_
      · obtain ⟨ol, hol, hcl, nl, hdl⟩ := hl
        obtain ⟨oc, od, odt, osl⟩ := ol
        simp only at hcl hdl; subst hcl; subst hdl
        have hol2 : (s.heap.push fresh).get? l = some { cls := .type "list", dict := od, data := .seq its nl, slots := osl } := Heap.get?_push_of_some _ hol
        have q1 := PySem.F.sub_list_set
        have q2 := PySem.F.sub_list_frozenset
        have q3 : (Value.type "list" == Value.type "dict") = false := by decide
        have isl : (s.heap.push fresh).IsList l its := ⟨_, hol2, rfl, nl, rfl⟩
        unfold Builtin.«set.__init__» noKeywords Builtin.Frozenset.updateFrom
        generalize hPI : pyIter = PI
        wp_walk
        subst hPI
        refine wpAny_pyIter_list isl (wpAny_bind (wpAny_runValue ?_))
        have ll : l < s.heap.objs.size := Heap.lt_size hol
        have nh3 : B.in1.in1.in1.handled = none := by simp [nh]
        have ne1 : l ≠ (s.heap.push fresh).objs.size := by rw [Heap.size_push]; exact Nat.ne_of_lt (Nat.lt_succ_of_lt ll)
        have ne2 : s.heap.objs.size ∉ [(s.heap.push fresh).objs.size, l] := by
          rw [Heap.size_push]
          intro z
          rcases List.mem_cons.mp z with z | z
          · omega
          · exact Nat.ne_of_lt ll (List.mem_singleton.mp z).symm
        have sz : xs.length = its.size := by rw [← StrsAre.len_eq hi, Array.length_toList]
        have hv : ∀ (i : Nat) (v : Value), its[i]? = some v → ∃ t, v = .str (xs.getD i Str.empty) t := fun i v e => SS.strs_at hi i v (by rw [Array.getElem?_toList]; exact e)
        refine upd_loop ((Walks.list nh3 _ l ne1 its).toS) ne2 sz (by omega) hv (its.size - 0) 0 _ (by omega) (Nat.zero_le _) ⟨⟨_, Heap.get?_push_size _ rfl, rfl, rfl⟩, (isl.push _)⟩ ?h0 ?h1
        case h0 =>
          have g0 : ((s.heap.push fresh).push { cls := .type "list_iterator", data := .fields #[.ref l, .int 0 0] }).get? s.heap.objs.size = some fresh := Heap.get?_push_of_some _ at0
          exact SetOf_congr ((PyProof.Rows.setObjOf_fresh (knd := PySem.strKind p w) led).setOf g0 (by unfold scanBound; omega)) (fun _ => rfl) rfl
        case h1 =>
          intro s' mv hS
          obtain ⟨h', g', d', tk', os'⟩ := s'
          obtain rfl : g' = s.gens := mv.gens
          obtain rfl : d' = s.drawn := mv.drawn
          obtain rfl : os' = s.os := mv.os
          show wpAny _ _ _ _ _ _
          refine wpAny_pure ?_
          show wpAny _ _ (ret Value.none) _ _ _
          refine wpAny_pure ⟨rfl, h', tk', rfl, hS, fun b o hb e => mv.heap b o (fun z => ?_) (Heap.get?_push_of_some _ (Heap.get?_push_of_some _ e))⟩
          rcases List.mem_cons.mp z with z | z
          · exact Nat.ne_of_lt hb z
          · have z2 := List.mem_singleton.mp z
            rw [Heap.size_push] at z2
            exact Nat.ne_of_lt (Nat.lt_succ_of_lt hb) z2
      · cases r2 with
        | error e => exact hr2
        | ok f2 =>
          cases f2 with
          | ret r =>
            obtain ⟨rfl, h', tk, rfl, hS, kp⟩ := hr2
            repeat (any_goals (first | assumption | wp_step))
            exact k _ _ hS kp
          | _ => exact hr2.elim
    | _ => exact hr.elim
end
open L2
/-- len(set(a)) -/
def tLs (K : PySem.W.Frag) (ta : TE) : TE := fun σ H Q => ta σ H fun x H1 => ∃ (l : Addr) (xs : List Str), x = .ref l ∧ SqL K H1 l (xs.map V.str) ∧ xs.length < 4000 ∧ Q (.int (nDist xs : Nat)) H1
theorem pe_lens {X : Cx} {a : Expr} {ta : TE} {p p2 q pos : Pos} (hc : X.calm = true) (g1 : Gl X "len") (m1 : X.mg "len" = none) (g2 : Gl X "set") (m2 : X.mg "set" = none) (ha : PE X a ta) (na : starEach [a] X.env = (false, eval a X.env) :: starEach [] X.env) :
    PE X (.Call (.Name "len" p) [.Call (.Name "set" p2) [a] [] q] [] pos) (tLs X.K ta) := by
  refine ⟨fun pins s σ H Q I h => Call_ (ld_blt I g1 m1 boot_len ?_)⟩
  refine PyProof.Rows.callWith_builtin1 (PyProof.Rows.args_cons ?_ rfl) rfl rfl; refine Call_ (ld_blt I g2 m2 boot_set ?_)
  refine PyProof.Rows.callWith_type1 (PyProof.Rows.args_cons (thn (ha.run pins s σ H _ I h) fun v z ⟨x, H1, I1, rx, k⟩ => PyProof.Rows.args_nil ?_) na) na rfl
  obtain ⟨l, xs, rfl, hq, hb, k⟩ := k
  cases rx
  obtain ⟨its, r, pl, _⟩ := I1.list hq
  refine set_of_texts (I1.ok.hd hc) pl.isList (by simpa using strsAre_of r) hb fun h' tk hS kp => ?_
  have sz : its.toArray.size = xs.length := by rw [List.size_toArray, ← r.length, List.length_map]
  rw [sz] at hS
  refine PyProof.Rows.args_nil ?_
  obtain ⟨o, es, ep, t, ho, hex, hd, _, _, _, hf, hn⟩ := hS
  have I2 : Inv X pins σ H1 { z with heap := h', toks := tk } := I1.kept fun b o e => kp b o (Heap.lt_size e) e
  have cl := cntS_le xs xs.length
  exact call_len_set ho hex hd hf (by rw [hn] <;> omega) ⟨.int (nDist xs : Nat), H1, I2.tok _, ⟨_, by rw [hn] <;> rfl⟩, k⟩
end Cc

set_option Elab.async false
set_option linter.all false
set_option maxRecDepth 100000
/-! Cc: a small core language over pure data and a store of mutable cells, with an interpreter that runs. -/
namespace Cc
open PySem

/-! ### equality of data that computes -/
mutual
def dEq : PyData → PyData → Bool
  | .none, .none => true
  | .bool a, .bool b => a == b
  | .int i, .int j => decide (i = j)
  | .str x, .str y => decide (x = y)
  | .list xs, .list ys => dEqL xs ys
  | .tuple xs, .tuple ys => dEqL xs ys
  | _, _ => false
def dEqL : List PyData → List PyData → Bool
  | [], [] => true
  | x :: xs, y :: ys => dEq x y && dEqL xs ys
  | _, _ => false
end
mutual
theorem dEq_eq : ∀ x y : PyData, dEq x y = true → x = y
  | .none, y, h => by cases y <;> simp_all [dEq]
  | .bool a, y, h => by cases y <;> simp_all [dEq]
  | .int i, y, h => by cases y <;> simp_all [dEq]
  | .str x, y, h => by cases y <;> simp_all [dEq]
  | .list xs, y, h => by cases y <;> simp_all [dEq]; exact dEqL_eq _ _ h
  | .tuple xs, y, h => by cases y <;> simp_all [dEq]; exact dEqL_eq _ _ h
  | .dict _, y, h => by cases y <;> simp_all [dEq]
theorem dEqL_eq : ∀ x y : List PyData, dEqL x y = true → x = y
  | [], y, h => by cases y <;> simp_all [dEqL]
  | x :: xs, y, h => by
    cases y with
    | nil => simp_all [dEqL]
    | cons z zs =>
      simp only [dEqL, Bool.and_eq_true] at h
      rw [dEq_eq _ _ h.1, dEqL_eq _ _ h.2]
end

/-! ### values, cells, stores -/
/-- pure data; a cell of the store; a tuple that bears such; a function of the table -/
inductive W where
  | d (x : PyData) | ref (n : Nat) | tup (ws : List W) | fn (i : Nat)
  /-- a pair that a walk made -/
  | pr (x y : PyData)
  /-- a dict with nested keys that is changed no more -/
  | fd (kvs : List (PyData × PyData))
  /-- a function made within a def: which one; by the running def itself (the slots of the names that it captured), or handed over (what they held) -/
  | clo (k : Nat) (own : Option (List Nat)) (ws : List W)
inductive Cell where
  | lst (xs : List PyData) | wl (ws : List W) | ins (c : Nat) (fs : List (Str × W)) | dead
  /-- a dict, its keys nested tuples -/
  | dn (kvs : List (PyData × W))
  /-- a dict, its keys texts -/
  | dk (kvs : List (Str × W))
abbrev Store := List Cell
abbrev Env := List (Option W)
structure Exn where
  cls : Nat
  fs : List (Str × PyData)
inductive Res (α : Type) where
  | ok (a : α) (s : Store) | exc (x : Exn) (s : Store) | stuck
def Res.bind {α β : Type} (r : Res α) (f : α → Store → Res β) : Res β := match r with
  | .ok a s => f a s
  | .exc x s => .exc x s
  | .stuck => .stuck
@[simp] theorem Res.bind_ok {α β : Type} (a : α) (s : Store) (f : α → Store → Res β) : (Res.ok a s).bind f = f a s := rfl
@[simp] theorem Res.bind_exc {α β : Type} (x : Exn) (s : Store) (f : α → Store → Res β) : (Res.exc x s : Res α).bind f = .exc x s := rfl
@[simp] theorem Res.bind_stuck {α β : Type} (f : α → Store → Res β) : (Res.stuck : Res α).bind f = .stuck := rfl
/-- a partial pure result -/
def Res.of {α : Type} (o : Option α) (s : Store) : Res α := match o with
  | some a => .ok a s
  | none => .stuck
@[simp] theorem Res.of_some {α : Type} (a : α) (s : Store) : Res.of (some a) s = .ok a s := rfl
@[simp] theorem Res.of_none {α : Type} (s : Store) : Res.of (none : Option α) s = .stuck := rfl

/-- a key: a tuple of None, numbers, texts and such tuples -/
def keyN : Nat → PyData → Bool
  | _, .none => true
  | _, .int _ => true
  | _, .str _ => true
  | n + 1, .tuple xs => xs.all (keyN n)
  | _, _ => false
def keyB : PyData → Bool
  | .tuple xs => keyN 8 (.tuple xs)
  | _ => false
/-- what a dict holds at a key -/
def dAt (kvs : List (PyData × W)) (k : PyData) : Option W := (kvs.find? fun p => dEq p.1 k).map (·.2)
def dPut (kvs : List (PyData × W)) (k : PyData) (w : W) : List (PyData × W) := if (dAt kvs k).isSome then kvs.map (fun p => if dEq p.1 k then (p.1, w) else p) else kvs ++ [(k, w)]
def dDrop (kvs : List (PyData × W)) (k : PyData) : List (PyData × W) := kvs.filter fun p => !dEq p.1 k
/-- dict(pairs) -/
def pairOf : PyData → Option (PyData × W)
  | .tuple [k, v] => if keyB k then some (k, .d v) else none
  | _ => none
def pairsOf : List PyData → Option (List (PyData × W))
  | [] => some []
  | d :: ds => match pairOf d, pairsOf ds with
    | some p, some ps => some (p :: ps)
    | _, _ => none
def dMerge (kvs more : List (PyData × W)) : List (PyData × W) := more.foldl (fun acc p => dPut acc p.1 p.2) kvs
/-- d.items(), as data -/
def itemsD : List (PyData × W) → Option (List PyData)
  | [] => some []
  | (k, .d v) :: r => (itemsD r).map (.tuple [k, v] :: ·)
  | _ :: _ => none
/-- what can be sorted -/
def sortOk (ds : List PyData) : Bool := ds.all (fun d => ds.all fun e => PySem.W.alike d e) && ds.all fun d => Nat.ble d.depth 40
def sortD (ds : List PyData) : List PyData := ds.mergeSort (PySem.W.dataLe false id)
/-- values that are data -/
def unD : List (PyData × W) → Option (List (PyData × PyData))
  | [] => some []
  | (k, .d v) :: r => (unD r).map ((k, v) :: ·)
  | _ :: _ => none
def fdW (kvs : List (PyData × PyData)) : List (PyData × W) := kvs.map fun p => (p.1, .d p.2)
/-- the dict in a cell, or one that stays -/
def dnOf (s : Store) : W → Option (List (PyData × W))
  | .fd kvs => some (fdW kvs)
  | .ref n => match s[n]? with
    | some (.dn kvs) => some kvs
    | _ => none
  | _ => none
/-- the key that stands there -/
def keyOf : W → Option PyData
  | .d k => if keyB k then some k else none
  | _ => none
/-- what stands there, read as data: a value, a list cell of data -/
def top (s : Store) : W → Option PyData
  | .d x => some x
  | .ref n => match s[n]? with
    | some (.lst xs) => some (.list xs)
    | _ => none
  | _ => none
/-- the items of what is walked or indexed -/
def items (s : Store) : W → Option (List W)
  | .d (.list xs) => some (xs.map .d)
  | .d (.tuple xs) => some (xs.map .d)
  | .d (.str x) => some (x.cps.toList.map fun c => .d (.str ⟨#[c]⟩))
  | .ref n => match s[n]? with
    | some (.lst xs) => some (xs.map .d)
    | some (.wl ws) => some ws
    | _ => none
  | .tup ws => some ws
  | .fd kvs => some (kvs.map fun p => .d p.1)
  | _ => none
def W.pure? : W → Option PyData
  | .d x => some x
  | _ => none
def allPure : List W → Option (List PyData)
  | [] => some []
  | w :: ws => match w, allPure ws with
    | .d x, some xs => some (x :: xs)
    | _, _ => none
@[simp] theorem allPure_nil : allPure [] = some [] := rfl
@[simp] theorem allPure_map (xs : List PyData) : allPure (xs.map .d) = some xs := by
  induction xs with
  | nil => rfl
  | cons x xs ih => simp [allPure, ih]
theorem allPure_cons_d (x : PyData) (ws : List W) : allPure (.d x :: ws) = (allPure ws).map (x :: ·) := by
  cases h : allPure ws <;> simp [allPure, h]
theorem allPure_eq : ∀ {ws : List W} {xs : List PyData}, allPure ws = some xs → ws = xs.map .d
  | [], xs, h => by simp [allPure] at h; subst h; rfl
  | w :: ws, xs, h => by
    cases w <;> simp only [allPure] at h
    case d x =>
      cases e : allPure ws with
      | none => rw [e] at h; cases h
      | some ys => rw [e] at h; cases h; simp [allPure_eq e]
    all_goals cases h

/-! ### operations on data -/
def mkTup (xs : List PyData) : Option PyData := if xs.length ≤ sizeLine then some (.tuple xs) else none
def mkLst (xs : List PyData) : Option PyData := if xs.length ≤ sizeLine then some (.list xs) else none
def mkStr (x : Str) : Option PyData := if x.length ≤ sizeLine then some (.str x) else none
inductive Bop where
  | add | sub | mul | fdiv | mod | pow | band | bor
  deriving DecidableEq
/-- a factor that the machine's line allows (told so that a part not known stops the reckoning) -/
def mulB : Int → Bool
  | .ofNat n => Nat.ble n 18446744073709551615
  | .negSucc n => Nat.ble n 18446744073709551614
theorem mulB_of {j : Int} (h1 : -18446744073709551616 < j) (h2 : j < 18446744073709551616) : mulB j = true := by
  cases j with
  | ofNat n => exact Nat.ble_eq_true_of_le (by have e : Int.ofNat n = (n : Int) := rfl
                                               rw [e] at h1 h2
                                               omega)
  | negSucc n => exact Nat.ble_eq_true_of_le (by omega)
theorem mulB_iff {j : Int} : mulB j = true → -(2 ^ 64) < j ∧ j < 2 ^ 64 := by
  have e : (2 : Int) ^ 64 = 18446744073709551616 := by decide +kernel
  rw [e]
  cases j with
  | ofNat n => intro h; have := Nat.le_of_ble_eq_true h; have e : Int.ofNat n = (n : Int) := rfl; rw [e]; omega
  | negSucc n => intro h; have := Nat.le_of_ble_eq_true h; omega
def mulOk (i j : Int) : Bool := mulB i || mulB j
/-- so many times a text -/
def repS (x : Str) (n : Nat) : Str := ⟨(List.replicate n x.cps).foldl (· ++ ·) #[]⟩
def bopD : Bop → PyData → PyData → Option PyData
  | .add, .int i, .int j => some (.int (i + j))
  | .add, .str x, .str y => if x.length + y.length ≤ sizeLine then some (.str (x ++ y)) else none
  | .add, .tuple xs, .tuple ys => if xs.length + ys.length ≤ sizeLine then some (.tuple (xs ++ ys)) else none
  | .add, .list xs, .list ys => if xs.length + ys.length ≤ sizeLine then some (.list (xs ++ ys)) else none
  | .sub, .int i, .int j => some (.int (i - j))
  | .mul, .int i, .int j => if mulOk i j then some (.int (i * j)) else none
  | .mul, .str x, .int j => if j = 1 then some (.str x) else if j = 0 then some (.str ⟨#[]⟩) else if 1 < j ∧ j ≤ 1000 ∧ 0 < x.length ∧ x.length ≤ 1000 then some (.str (repS x j.toNat)) else none
  | .mul, .tuple xs, .int j => if j = 1 then some (.tuple xs) else if j = 0 ∧ xs.isEmpty = false then some (.tuple []) else if j = 2 ∧ xs.isEmpty = false ∧ xs.length * 2 ≤ sizeLine then some (.tuple (xs ++ xs)) else none
  | .fdiv, .int i, .int j => if 0 < j ∧ j.natAbs.log2 < 9000 then some (.int (i / j)) else none
  | .mod, .int i, .int j => if 0 < j then some (.int (i % j)) else none
  | .pow, .int i, .int j => if 0 ≤ j ∧ j ≤ 1000000 ∧ i.natAbs < 2 ^ 64 then some (.int (i ^ j.toNat)) else none
  | .band, .int i, .int j => some (.int (Builtin.bitAnd i j))
  | .bor, .int i, .int j => some (.int (Builtin.bitOr i j))
  | _, _, _ => none
def neg : PyData → Option PyData
  | .int i => some (.int (-i))
  | _ => none
inductive Cop where
  | eq | ne | lt | le | gt | ge | isin | notin | is_ | isnot
  deriving DecidableEq
/-- scalars that are told apart without a look at their signs -/
def scP : PyData → PyData → Bool
  | .none, .none => true | .none, .int _ => true | .int _, .none => true | .none, .bool _ => true | .bool _, .none => true
  | .none, .str _ => true | .str _, .none => true | .int _, .int _ => true | .bool _, .bool _ => true | .str _, .str _ => true
  | .int _, .str _ => true | .str _, .int _ => true | .bool _, .str _ => true | .str _, .bool _ => true
  | _, _ => false
def eqD (x y : PyData) : Option Bool :=
  if scP x y then some (PyData.eqv x y) else if SeqAt.shaped x && y.canLay0 then some (PyData.eqv x y) else none
def inD (x y : PyData) : Option Bool := match y with
  | .list ys => if SeqAt.shaped x && PyData.canLayAll0 ys then some (ys.any fun z => PyData.eqv z x) else none
  | .tuple ys => if SeqAt.shaped x && PyData.canLayAll0 ys then some (ys.any fun z => PyData.eqv z x) else none
  | .str z => match x with
    | .str ⟨a⟩ => match a.toList with
      | [c] => some (decide (c ∈ z.cps.toList))
      | _ => none
    | _ => none
  | _ => none
def cmpD : Cop → PyData → PyData → Option Bool
  | .eq, x, y => eqD x y
  | .ne, x, y => (eqD x y).map (!·)
  | .lt, .int i, .int j => some (decide (i < j))
  | .ge, .tuple xs, .tuple ys => if PySem.W.alike (.tuple xs) (.tuple ys) && Nat.ble (PyData.tuple xs).depth 40 then some (!PySem.W.dataLt (.tuple xs) (.tuple ys)) else none
  | .le, .int i, .int j => some (decide (i ≤ j))
  | .gt, .int i, .int j => some (decide (j < i))
  | .ge, .int i, .int j => some (decide (j ≤ i))
  | .isin, x, y => inD x y
  | .notin, x, y => (inD x y).map (!·)
  | _, _, _ => none
/-- a value that is no None -/
def someW (s : Store) : W → Option Bool
  | .d .none => some true
  | .d _ => some false
  | .ref n => match s[n]? with
    | some (.lst _) => some false
    | some (.wl _) => some false
    | some (.ins _ _) => some false
    | some (.dn _) => some false
    | _ => none
  | .tup _ => some false
  | .fn _ => some false
  | .pr _ _ => none
  | .fd _ => none
  | .clo _ _ _ => none
def isW (s : Store) (x y : W) : Option Bool := match y with
  | .d .none => someW s x
  | .d (.bool b) => match x with
    | .d (.bool a) => some (decide (a = b))
    | _ => none
  | _ => none
/-- x in y -/
def inW (s : Store) (x y : W) : Option Bool := match top s x, top s y with
  | some a, some b => inD a b
  | _, _ => match keyOf x, dnOf s y with
    | some k, some kvs => some (dAt kvs k).isSome
    | _, _ => none
def cmpW (o : Cop) (s : Store) (x y : W) : Option Bool := match o with
  | .is_ => isW s x y
  | .isnot => (isW s x y).map (!·)
  | .isin => inW s x y
  | .notin => (inW s x y).map (!·)
  | o => do cmpD o (← top s x) (← top s y)
/-- a value's truth -/
def truD : PyData → Option Bool
  | .none => some false
  | .bool b => some b
  | .int i => some (i != 0)
  | .str x => if x.length ≤ sizeLine then some ((x.length : Int) != 0) else none
  | .list xs => some (!xs.isEmpty)
  | .tuple xs => some (!xs.isEmpty)
  | _ => none
def truW (s : Store) (w : W) : Option Bool := do truD (← top s w)
def atD (x : PyData) (i : Int) : Option PyData := match x with
  | .list xs => L2.atI xs i
  | .tuple xs => L2.atI xs i
  | .str z => if z.length ≤ sizeLine then (L2.atI z.cps.toList i).map fun c => .str ⟨#[c]⟩ else none
  | _ => none
/-- what a dict with texts as keys holds -/
def dkAt (kvs : List (Str × W)) (k : Str) : Option W := (kvs.find? fun p => decide (p.1 = k)).map (·.2)
def dkPut (kvs : List (Str × W)) (k : Str) (w : W) : List (Str × W) := if (kvs.any fun p => decide (p.1 = k)) = true then kvs.map (fun p => if p.1 = k then (p.1, w) else p) else kvs ++ [(k, w)]
def idxW (s : Store) (a i : W) : Option W := match i with
  | .d (.int i) => match a with
    | .d x => (atD x i).map .d
    | .ref n => match s[n]? with
      | some (.lst xs) => (L2.atI xs i).map .d
      | some (.wl ws) => L2.atI ws i
      | _ => none
    | .tup ws => L2.atI ws i
    | _ => none
  | .d (.tuple ks) => match keyOf (.d (.tuple ks)), dnOf s a with
    | some k, some kvs => dAt kvs k
    | _, _ => none
  | .d (.str k) => match a with
    | .ref n => match s[n]? with
      | some (.dk kvs) => dkAt kvs k
      | _ => none
    | _ => none
  | _ => none
def cutX {α : Type} (xs : List α) (lo hi : Option Int) : List α := (xs.drop (HT.sIx xs.length 0 lo)).take (HT.sIx xs.length xs.length hi - HT.sIx xs.length 0 lo)
def cutD (x : PyData) (lo hi : Option Int) : Option PyData := match x with
  | .list xs => some (.list (cutX xs lo hi))
  | .tuple xs => some (.tuple (cutX xs lo hi))
  | .str z => if z.length ≤ sizeLine then some (.str ⟨(cutX z.cps.toList lo hi).toArray⟩) else none
  | _ => none
def revD : PyData → Option PyData
  | .list xs => some (.list xs.reverse)
  | _ => none
def partW : W → Option Int
  | .d (.int i) => some i
  | _ => none
def lenD : PyData → Option Int
  | .list xs => some xs.length
  | .tuple xs => some xs.length
  | .str x => if x.length ≤ sizeLine then some x.length else none
  | _ => none
def lenW (s : Store) (w : W) : Option Int := match w with
  | .d x => lenD x
  | .ref n => match s[n]? with
    | some (.lst xs) => some xs.length
    | some (.wl ws) => some ws.length
    | _ => none
  | .tup ws => some ws.length
  | _ => none
def intsOf : List PyData → Option (List Int)
  | [] => some []
  | .int i :: xs => (intsOf xs).map (i :: ·)
  | _ :: _ => none
def boolsOf : List PyData → Option (List Bool)
  | [] => some []
  | .bool b :: xs => (boolsOf xs).map (b :: ·)
  | _ :: _ => none
def strsOf : List PyData → Option (List Str)
  | [] => some []
  | .str b :: xs => (strsOf xs).map (b :: ·)
  | _ :: _ => none
/-- pairs, texts first -/
def prsS : List PyData → Option (List (Str × PyData))
  | [] => some []
  | .tuple [.str k, v] :: r => (prsS r).map ((k, v) :: ·)
  | _ :: _ => none
def mrgS (acc more : List (Str × W)) : List (Str × W) := more.foldl (fun acc p => dkPut acc p.1 p.2) acc
/-- dict(pairs)[k] -/
def dlkW (ps : List (Str × PyData)) : W → Option W
  | .d (.str k) => dkAt (mrgS [] (ps.map fun p => (p.1, W.d p.2))) k
  | _ => none
/-- t.index(x) of texts -/
def tixW (xs : List PyData) : W → Option PyData
  | .d (.str z) => (strsOf xs).bind fun ys => (ys.findIdx? fun y => decide (y = z)).map fun j => .int (j : Nat)
  | _ => none
/-- the kinds of data, for isinstance -/
inductive Ty where
  | bool | int | str | list | tuple
  deriving DecidableEq
def isD (t : Ty) : PyData → Option Bool
  | .none => some false
  | .bool _ => some (t = .bool || t = .int)
  | .int _ => some (decide (t = .int))
  | .str _ => some (decide (t = .str))
  | .list _ => some (decide (t = .list))
  | .tuple _ => some (decide (t = .tuple))
  | _ => none
/-- built-in functions that only read -/
inductive Bf where
  | len | sum | any | all | int | str | tuple | list | min2 | max2 | isa (t : Ty) | lrng | lens
  deriving DecidableEq
def one1 (f : W → Option PyData) : List W → Option PyData
  | [w] => f w
  | _ => none
def two1 (f : W → W → Option PyData) : List W → Option PyData
  | [w, u] => f w u
  | _ => none
def listOf : PyData → Option (List PyData)
  | .list xs => some xs
  | _ => none
def seqOf : PyData → Option (List PyData)
  | .list xs => some xs
  | .tuple xs => some xs
  | _ => none
def bfLen (s : Store) (w : W) : Option PyData := (lenW s w).map .int
def bfSum (s : Store) (w : W) : Option PyData := ((top s w).bind fun d => (listOf d).bind intsOf).map fun l => .int l.sum
def bfAny (s : Store) (w : W) : Option PyData := ((top s w).bind fun d => (listOf d).bind boolsOf).map fun l => .bool (l.any id)
def bfAll (s : Store) (w : W) : Option PyData := ((top s w).bind fun d => (listOf d).bind boolsOf).map fun l => .bool (l.all id)
def bfInt : W → Option PyData
  | .d (.int i) => some (.int i)
  | .d (.bool b) => some (.int (if b then 1 else 0))
  | .d (.str a) => if a.length ≤ 640 then (PySem.intText? a).map .int else none
  | _ => none
def bfStr : W → Option PyData
  | .d (.int i) => if i.natAbs.log2 < 1920 then some (.str (toString i)) else none
  | .d (.str a) => some (.str a)
  | _ => none
def bfTuple (s : Store) (w : W) : Option PyData := ((top s w).bind seqOf).map .tuple
def bfList (s : Store) (w : W) : Option PyData := match w with
  | .fd kvs => if kvs.length ≤ sizeLine then some (.list (kvs.map (·.1))) else none
  | w => ((top s w).bind seqOf).map .list
def bfMin : W → W → Option PyData
  | .d (.int i), .d (.int j) => some (.int (if j < i then j else i))
  | _, _ => none
def bfMax : W → W → Option PyData
  | .d (.int i), .d (.int j) => some (.int (if j > i then j else i))
  | _, _ => none
def bfIsa (s : Store) (t : Ty) (w : W) : Option PyData := ((top s w).bind (isD t)).map .bool
/-- list(range(n)) -/
def bfLrng : W → Option PyData
  | .d (.int (.ofNat n)) => if Nat.ble n 16777216 then some (.list ((List.range n).map fun (k : Nat) => .int (0 + (k : Nat)))) else none
  | _ => none
/-- len(set(x)) of texts -/
def bfLens (s : Store) (w : W) : Option PyData := ((top s w).bind fun d => (listOf d).bind strsOf).bind fun l => if Nat.ble l.length 3999 then some (.int (nDist l : Nat)) else none
def bfD (s : Store) (f : Bf) (ws : List W) : Option PyData := match f with
  | .len => one1 (bfLen s) ws
  | .sum => one1 (bfSum s) ws
  | .any => one1 (bfAny s) ws
  | .all => one1 (bfAll s) ws
  | .int => one1 bfInt ws
  | .str => one1 bfStr ws
  | .tuple => one1 (bfTuple s) ws
  | .list => one1 (bfList s) ws
  | .min2 => two1 bfMin ws
  | .max2 => two1 bfMax ws
  | .isa t => one1 (bfIsa s t) ws
  | .lrng => one1 bfLrng ws
  | .lens => one1 (bfLens s) ws
/-- methods of built-in types that only read -/
inductive Bm where
  | join | split | partition | startswith
  deriving DecidableEq
def bmJoin (s : Store) (o w : W) : Option PyData := match o with
  | .d (.str a) => ((top s w).bind fun d => (seqOf d).bind strsOf).bind fun ys => if (ys.map (·.length)).sum + ys.length * a.length ≤ 16777216 then some (.str (Txt.join a ys)) else none
  | _ => none
def bmSplit (o w : W) : Option PyData := match o, w with
  | .d (.str a), .d (.str b) => if (b.length == 0) = false ∧ a.length + 2 ≤ sizeLine then some (.list ((Txt.split a b).map .str)) else none
  | _, _ => none
def bmPartition (o w : W) : Option PyData := match o, w with
  | .d (.str a), .d (.str b) => if (b.length == 0) = false ∧ a.length ≤ sizeLine then some (.tuple [.str (Txt.partition a b).1, .str (Txt.partition a b).2.1, .str (Txt.partition a b).2.2]) else none
  | _, _ => none
def bmStarts (o w : W) : Option PyData := match o, w with
  | .d (.str a), .d (.str b) => some (.bool (Txt.startswith a b))
  | _, _ => none
def bmD (s : Store) (m : Bm) (o : W) (ws : List W) : Option PyData := match m with
  | .join => one1 (bmJoin s o) ws
  | .split => one1 (bmSplit o) ws
  | .partition => one1 (bmPartition o) ws
  | .startswith => one1 (bmStarts o) ws
/-- the receiver is of the method's type -/
def bmOk : W → Bool
  | .d (.str _) => true
  | _ => false

/-- methods of lists that only read -/
inductive Lm where
  | count | index
  deriving DecidableEq
def lmCount (s : Store) (o w : W) : Option PyData := ((top s o).bind listOf).bind fun ds => (top s w).bind fun d => if SeqAt.shaped (.list ds) && SeqAt.shaped d then some (.int (ds.countP fun z => PyData.eqv z d : Nat)) else none
def lmIndex (s : Store) (o w : W) : Option PyData := ((top s o).bind listOf).bind fun ds => (top s w).bind fun d => if SeqAt.shaped (.list ds) && SeqAt.shaped d then (ds.findIdx? fun z => PyData.eqv z d).map fun j => .int (j : Nat) else none
def lmD (s : Store) (m : Lm) (o : W) (ws : List W) : Option PyData := match m with
  | .count => one1 (lmCount s o) ws
  | .index => one1 (lmIndex s o) ws
def lmOk (s : Store) (o : W) : Bool := match top s o with
  | some (.list _) => true
  | _ => false

/-! ### the language -/
/-- how a call's result and its list arguments are handed over -/
inductive Cm where
  /-- the callee runs apart; a list that it hands back is data -/
  | frz
  /-- the callee runs apart; what it hands back stays a cell -/
  | keep
  /-- list cells are lent as data; no list is handed back -/
  | lend
  deriving DecidableEq
/-- walks: a list, tuple, text, cell; range of one, of two; enumerate -/
inductive Wk where
  | seq | rng1 | rng2 | enum | items
  deriving DecidableEq
/-- methods that change a list cell -/
inductive Mt where
  | append | extend | pop | clear | popAt
  deriving DecidableEq
/-- methods of dicts -/
inductive Dm where
  | get | pop
  deriving DecidableEq
mutual
inductive Ex where
  | const (x : PyData)
  | var (i : Nat)
  | gfn (i : Nat)
  | bin (o : Bop) (a b : Ex)
  | neg (a : Ex)
  | cmp (o : Cop) (a b : Ex)
  | chain (o o' : Cop) (a b c : Ex)
  | and (a b : Ex) | or (a b : Ex) | not (a : Ex)
  | ite (c : Bx) (a b : Ex)
  | tup (es : List Ex)
  /-- a list: a cell, or data -/
  | lst (cell : Bool) (es : List Ex)
  | idx (a b : Ex)
  | slice (a : Ex) (lo hi : Option Ex)
  /-- a list turned round -/
  | rev (a : Ex)
  | call (m : Cm) (i : Nat) (es : List Ex)
  | make (c : Nat) (es : List Ex)
  | meth (o : Ex) (m : Str) (es : List Ex)
  | bf (f : Bf) (es : List Ex)
  | bm (m : Bm) (o : Ex) (es : List Ex)
  /-- a list's method that only reads -/
  | lm (m : Lm) (o : Ex) (es : List Ex)
  | fld (o : Ex) (f : Str)
  /-- own: the block's names; gc: cells made in a turn are dropped; walk: seq, range, enumerate, zip by number of expressions -/
  | comp (own : List Nat) (cell : Bool) (gc : Bool) (tg : List Nat) (one : Bool) (walk : Wk) (its : List Ex) (c : Option Bx) (e : Ex)
  /-- a list as a new cell: list(x), slices, comprehensions, .. that are changed later -/
  | cell (a : Ex)
  /-- a cell that is changed no more, as data -/
  | frz (a : Ex)
  /-- methods that change a list cell: append, extend, pop, clear -/
  | mut (m : Mt) (o : Ex) (es : List Ex)
  /-- {}; d.get(k), d.get(k, x), d.pop(k) -/
  | dnew
  | dof (a : Ex)
  | dofz (a : Ex)
  /-- sorted(d.items()) -/
  | dsort (o : Ex)
  | dmet (m : Dm) (o : Ex) (es : List Ex)
  /-- {"a": .., "b": ..} -/
  | dlit (ks : List Str) (es : List Ex)
  /-- a call of a function that a name holds -/
  | callv (m : Cm) (b i : Nat) (es : List Ex)
  /-- dict(a)[b], texts as keys -/
  | dlk (a b : Ex)
  /-- t.index(x), a tuple of texts -/
  | tix (xs : List PyData) (b : Ex)
  /-- a call of a function made within a def, by its name; f: whether the running def may have made it -/
  | callc (m : Cm) (f b i : Nat) (es : List Ex)
  /-- arguments: a name that holds such a function; one made here -/
  | cv (i : Nat)
  | lam (k : Nat) (js : List Nat)
  /-- calls with such arguments -/
  | calla (m : Cm) (f i : Nat) (es : List Ex)
  | metha (f : Nat) (o : Ex) (m : Str) (es : List Ex)
/-- tests -/
inductive Bx where
  | tru (e : Ex) | and (a b : Bx) | or (a b : Bx) | not (a : Bx) | ite (c a b : Bx)
end
inductive Tx where
  | name (i : Nat) | sub (o i : Ex) | fld (o : Ex) (f : Str)
/-- what an except suite does: a name gets data; a name gets the tests of the exception's class (i: its own name's slot) -/
inductive Hd where
  | flag (j : Nat) (d : PyData)
  | isas (i j : Nat) (ls : List (List (Nat × Bool)))
  /-- an exception of class c: slot j gets whether it is one of some; told is whether it isn't, is all others, and its field f is slot m's number -/
  | tell (c i j m : Nat) (os ms : List (List (Nat × Bool))) (f : Str)
inductive Sx where
  | pass | brk | cont
  /-- a statement that the language has not: no answer -/
  | stk
  | seq (a b : Sx)
  | assign (t : Tx) (e : Ex)
  /-- name += number -/
  | aug (i : Nat) (e : Ex)
  | unpack (ts : List Tx) (e : Ex)
  | expr (e : Ex)
  | ret (e : Ex)
  | ite (c : Bx) (a b : Sx)
  | for (gc : Bool) (tg : List Nat) (one : Bool) (walk : Wk) (its : List Ex) (body : Sx)
  | while (fuel : Nat) (c : Bx) (body : Sx)
  | raise (c : Nat) (es : List Ex)
  /-- one statement tried: name or none, expression, the class that is caught by the classes of the text, the suite -/
  | tr (i : Option Nat) (e : Ex) (l : List (Nat × Bool)) (h : Hd)
  /-- def within a def: the slot, which def, the slots of the names that it captures -/
  | ndef (i k : Nat) (js : List Nat)

/-! ### the interpreter -/
/-- functions of the table -/
abbrev FT := Nat → List W → Store → Res W
/-- the class table: which function is a class's method -/
abbrev CTab := Nat → Str → Option Nat
/-- a slot's value, whatever it is -/
def raw (env : Env) (i : Nat) : Option W := match env[i]? with
  | some (some w) => some w
  | _ => none
/-- .. that is no function made within a def -/
def get (env : Env) (i : Nat) : Option W := match env[i]? with
  | some (some (.clo _ _ _)) => none
  | some (some w) => some w
  | _ => none
/-- such a function as it is handed over -/
def convJ (f : W → Option W) (env : Env) : List Nat → Option (List W)
  | [] => some []
  | j :: js => match (raw env j).bind f, convJ f env js with
    | some w, some ws => some (w :: ws)
    | _, _ => none
def conv (env : Env) : Nat → W → Option W
  | n + 1, w => match w with
    | .clo k (some js) _ => (convJ (conv env n) env js).map (.clo k none)
    | w => some w
  | 0, w => match w with
    | .clo _ (some _) _ => none
    | w => some w
def convL (env : Env) (n : Nat) : List W → Option (List W)
  | [] => some []
  | w :: ws => match conv env n w, convL env n ws with
    | some w, some ws => some (w :: ws)
    | _, _ => none
def wipeE (env : Env) : List Nat → Env
  | [] => env
  | v :: vs => (wipeE env vs).set v none
mutual
def W.lo (n : Nat) : W → Bool
  | .d _ => true
  | .ref k => decide (k < n)
  | .tup ws => W.loL n ws
  | .fn _ => true
  | .pr _ _ => true
  | .fd _ => true
  | .clo _ _ ws => W.loL n ws
def W.loL (n : Nat) : List W → Bool
  | [] => true
  | w :: ws => w.lo n && W.loL n ws
end
def Cell.lo (n : Nat) : Cell → Bool
  | .lst _ => true
  | .wl ws => W.loL n ws
  | .ins _ fs => fs.all fun p => p.2.lo n
  | .dead => true
  | .dn kvs => kvs.all fun p => p.2.lo n
  | .dk kvs => kvs.all fun p => p.2.lo n
def dropRef (n : Nat) : Option W → Option W
  | some w => if w.lo n then some w else none
  | none => none
/-- the cells from n on are dropped -/
def gcE (n : Nat) (env : Env) (s : Store) : Option (Env × Store) :=
  if (s.take n).all (Cell.lo n) then some (env.map (dropRef n), s.take n) else none
mutual
def frzW (s : Store) : W → Option PyData
  | .d x => some x
  | .ref n => match s[n]? with
    | some (.lst xs) => some (.list xs)
    | _ => none
  | .tup ws => (frzL s ws).map .tuple
  | .fn _ => none
  | .pr _ _ => none
  | .fd _ => none
  | .clo _ _ _ => none
def frzL (s : Store) : List W → Option (List PyData)
  | [] => some []
  | w :: ws => match frzW s w, frzL s ws with
    | some x, some xs => some (x :: xs)
    | _, _ => none
end
mutual
def noList : PyData → Bool
  | .list _ => false
  | .tuple xs => noListL xs
  | .dict _ => false
  | _ => true
def noListL : List PyData → Bool
  | [] => true
  | x :: xs => noList x && noListL xs
end
mutual
def W.shift (k : Nat) : W → W
  | .d x => .d x
  | .ref n => .ref (n + k)
  | .tup ws => .tup (W.shiftL k ws)
  | .fn i => .fn i
  | .pr x y => .pr x y
  | .fd kvs => .fd kvs
  | .clo i o ws => .clo i o (W.shiftL k ws)
def W.shiftL (k : Nat) : List W → List W
  | [] => []
  | w :: ws => w.shift k :: W.shiftL k ws
end
def Cell.shift (k : Nat) : Cell → Cell
  | .lst xs => .lst xs
  | .wl ws => .wl (W.shiftL k ws)
  | .ins c fs => .ins c (fs.map fun p => (p.1, p.2.shift k))
  | .dead => .dead
  | .dn kvs => .dn (kvs.map fun p => (p.1, p.2.shift k))
  | .dk kvs => .dk (kvs.map fun p => (p.1, p.2.shift k))
def lendL (s : Store) : List W → Option (List W)
  | [] => some []
  | w :: ws => match top s w, lendL s ws with
    | some x, some xs => some (.d x :: xs)
    | _, _ => none
def callM (m : Cm) (F : List W → Store → Res W) (ws : List W) (s : Store) : Res W := match m with
  | .lend => match lendL s ws with
    | some ws => match F ws [] with
      | .ok (.d x) _ => if noList x then .ok (.d x) s else .stuck
      | .ok _ _ => .stuck
      | .exc x _ => if x.fs.all fun p => noList p.2 then .exc x s else .stuck
      | .stuck => .stuck
    | none => .stuck
  | .frz => match allPure ws with
    | some _ => match F ws [] with
      | .ok w t => match frzW t w with
        | some x => .ok (.d x) s
        | none => .stuck
      | .exc x _ => .exc x s
      | .stuck => .stuck
    | none => F ws s
  | .keep => match allPure ws with
    | some _ => match F ws [] with
      | .ok w t => .ok (w.shift s.length) (s ++ t.map (Cell.shift s.length))
      | .exc x _ => .exc x s
      | .stuck => .stuck
    | none => F ws s
def fput (f : Str) (w : W) : List (Str × W) → List (Str × W)
  | [] => [(f, w)]
  | (g, x) :: r => if g = f then (g, w) :: r else (g, x) :: fput f w r
def mkTupW (ws : List W) : Option W := match allPure ws with
  | some xs => (mkTup xs).map .d
  | none => if ws.length ≤ sizeLine then some (.tup ws) else none
def newLst (cell : Bool) (ws : List W) (s : Store) : Res W :=
  if ws.length ≤ sizeLine then
    match allPure ws with
    | some xs => if cell then .ok (.ref s.length) (s ++ [.lst xs]) else .ok (.d (.list xs)) s
    | none => if cell then .ok (.ref s.length) (s ++ [.wl ws]) else .stuck
  else .stuck
/-- a fresh list's data as a cell -/
def toCell (w : W) (s : Store) : Res W := match w with
  | .d (.list xs) => .ok (.ref s.length) (s ++ [.lst xs])
  | _ => .stuck
def doFrz (w : W) (s : Store) : Res W := match w with
  | .ref n => match s[n]? with
    | some (.lst xs) => .ok (.d (.list xs)) (s.set n .dead)
    | _ => .stuck
  | .d x => .ok (.d x) s
  | _ => .stuck
def isLstC (s : Store) : W → Bool
  | .ref n => match s[n]? with
    | some (.lst _) => true
    | some (.wl _) => true
    | _ => false
  | _ => false
def appL (xs : List PyData) (w : W) : Cell := match w with
  | .d x => .lst (xs ++ [x])
  | w => .wl (xs.map .d ++ [w])
def appC (c : Cell) (w : W) : Option Cell := match c with
  | .lst xs => if xs.length < sizeLine then some (appL xs w) else none
  | .wl xs => if xs.length < sizeLine then some (.wl (xs ++ [w])) else none
  | _ => none
def extC (s : Store) (c : Cell) (w : W) : Option Cell := match c with
  | .lst xs => ((top s w).bind listOf).bind fun ys => if xs.length + ys.length ≤ sizeLine then some (.lst (xs ++ ys)) else none
  | _ => none
def popC (c : Cell) : Option (PyData × Cell) := match c with
  | .lst xs => xs[xs.length - 1]?.map fun x => (x, .lst xs.dropLast)
  | _ => none
def popAtC (w : W) (c : Cell) : Option (PyData × Cell) := match w with
  | .d (.int i) => match c with
    | .lst xs => if xs.length ≤ sizeLine then (L2.ixN xs.length i).bind fun k => xs[k]?.map fun x => (x, .lst (xs.eraseIdx k)) else none
    | _ => none
  | _ => none
def clearC (c : Cell) : Option Cell := match c with
  | .lst _ => some (.lst [])
  | .wl _ => some (.lst [])
  | _ => none
/-- a cell is changed -/
def chg (o : W) (s : Store) (f : Cell → Option (PyData × Cell)) : Res W := match o with
  | .ref n => match s[n]?.bind f with
    | some (x, c) => .ok (.d x) (s.set n c)
    | none => .stuck
  | _ => .stuck
def mutW (m : Mt) (o : W) (ws : List W) (s : Store) : Res W := match m with
  | .append => match ws with
    | [w] => chg o s fun c => (appC c w).map (.none, ·)
    | _ => .stuck
  | .extend => match ws with
    | [w] => chg o s fun c => (extC s c w).map (.none, ·)
    | _ => .stuck
  | .pop => match ws with
    | [] => chg o s popC
    | _ => .stuck
  | .clear => match ws with
    | [] => chg o s fun c => (clearC c).map (.none, ·)
    | _ => .stuck
  | .popAt => match ws with
    | [w] => chg o s (popAtC w)
    | _ => .stuck
def setIx (o i w : W) (s : Store) : Res Unit := match o, i with
  | .ref n, .d (.int k) => match s[n]? with
    | some (.lst xs) => match L2.ixN xs.length k, w with
      | some j, .d x => .ok () (s.set n (.lst (xs.set j x)))
      | some j, w => .ok () (s.set n (.wl ((xs.map W.d).set j w)))
      | none, _ => .stuck
    | some (.wl ws) => match L2.ixN ws.length k with
      | some j => .ok () (s.set n (.wl (ws.set j w)))
      | none => .stuck
    | _ => .stuck
  | .ref n, .d (.tuple ks) => match s[n]? with
    | some (.dn kvs) => if keyB (.tuple ks) = true ∧ kvs.length < sizeLine then .ok () (s.set n (.dn (dPut kvs (.tuple ks) w))) else .stuck
    | _ => .stuck
  | .ref n, .d (.str k) => match s[n]? with
    | some (.dk kvs) => if Nat.ble kvs.length 1000 then .ok () (s.set n (.dk (dkPut kvs k w))) else .stuck
    | _ => .stuck
  | _, _ => .stuck
/-- a display's cell is filled -/
def fillDk (n : Nat) (ks : List Str) (ws : List W) (s : Store) : Res W := match s[n]? with
  | some (.dk []) => if ks.Nodup ∧ ks.length = ws.length ∧ ks.length ≤ 15 then .ok (.ref n) (s.set n (.dk (ks.zip ws))) else .stuck
  | _ => .stuck
/-- methods of dicts -/
def dmetW (m : Dm) (o : W) (ws : List W) (s : Store) : Res W := match m with
  | .get => match dnOf s o with
    | some kvs => match ws with
      | [k] => match keyOf k with
        | some k => .ok ((dAt kvs k).getD (.d .none)) s
        | none => .stuck
      | [k, x] => match keyOf k with
        | some k => .ok ((dAt kvs k).getD x) s
        | none => .stuck
      | _ => .stuck
    | none => .stuck
  | .pop => match o with
    | .ref n => match s[n]? with
      | some (.dn kvs) => match ws with
        | [k] => match keyOf k with
          | some k => match dAt kvs k with
            | some w => .ok w (s.set n (.dn (dDrop kvs k)))
            | none => .stuck
          | none => .stuck
        | _ => .stuck
      | _ => .stuck
    | _ => .stuck
def fldW (FO : Nat → Str → Bool) (s : Store) (f : Str) : W → Option W
  | .ref n => match s[n]? with
    | some (.ins c fs) => if FO c f then fs.lookup f else none
    | _ => none
  | _ => none
def setFld (FO : Nat → Str → Bool) (o : W) (f : Str) (w : W) (s : Store) : Res Unit := match o with
  | .ref n => match s[n]? with
    | some (.ins c fs) => if FO c f ∧ fs.length < 1000 then .ok () (s.set n (.ins c (fput f w fs))) else .stuck
    | _ => .stuck
  | _ => .stuck
/-- what a for or a comprehension walks; the list cell that must stand still -/
def wSeq (s : Store) (w : W) : Option (List W × Option Nat) := match w with
  | .ref n => (items s (.ref n)).map (·, some n)
  | w => (items s w).map (·, none)
/-- a bound of a range that the machine's line allows -/
def rngB : Int → Bool
  | .ofNat n => Nat.ble n 4611686018427387903
  | .negSucc n => Nat.ble n 4611686018427387903
theorem rngB_of {j : Int} (h1 : -4611686018427387904 ≤ j) (h2 : j < 4611686018427387904) : rngB j = true := by
  cases j with
  | ofNat n => exact Nat.ble_eq_true_of_le (by have e : Int.ofNat n = (n : Int) := rfl
                                               rw [e] at h1 h2
                                               omega)
  | negSucc n => exact Nat.ble_eq_true_of_le (by omega)
theorem rngB_iff {j : Int} : rngB j = true → -(2 ^ 62) ≤ j ∧ j < 2 ^ 62 := by
  have e : (2 : Int) ^ 62 = 4611686018427387904 := by decide +kernel
  rw [e]
  cases j with
  | ofNat n => intro h; have := Nat.le_of_ble_eq_true h; have e : Int.ofNat n = (n : Int) := rfl; rw [e]; omega
  | negSucc n => intro h; have := Nat.le_of_ble_eq_true h; omega
def wRng1 (w : W) : Option (List W × Option Nat) := match w with
  | .d (.int j) => if rngB j then some ((List.range j.toNat).map fun (k : Nat) => .d (.int (0 + (k : Nat))), none) else none
  | _ => none
def wRng2 (w u : W) : Option (List W × Option Nat) := match w, u with
  | .d (.int i), .d (.int j) => if rngB i && rngB j then some ((List.range (j - i).toNat).map fun (k : Nat) => .d (.int (i + (k : Nat))), none) else none
  | _, _ => none
def wEnum (s : Store) (w : W) : Option (List W × Option Nat) := match w with
  | .d (.list xs) => some (xs.zipIdx.map fun p => .pr (.int (p.2 : Nat)) p.1, none)
  | .ref n => match s[n]? with
    | some (.lst xs) => some (xs.zipIdx.map fun p => .pr (.int (p.2 : Nat)) p.1, some n)
    | _ => none
  | _ => none
def walkW (walk : Wk) (ws : List W) (s : Store) : Option (List W × Option Nat) := match walk with
  | .seq => match ws with
    | [w] => wSeq s w
    | _ => none
  | .rng1 => match ws with
    | [w] => wRng1 w
    | _ => none
  | .rng2 => match ws with
    | [w, u] => wRng2 w u
    | _ => none
  | .enum => match ws with
    | [w] => wEnum s w
    | _ => none
  | .items => match ws with
    | [.fd kvs] => some (kvs.map fun p => .pr p.1 p.2, none)
    | _ => none
mutual
def wEq : W → W → Bool
  | .d x, .d y => dEq x y
  | .ref n, .ref k => decide (n = k)
  | .tup xs, .tup ys => wEqL xs ys
  | .fn i, .fn j => decide (i = j)
  | _, _ => false
def wEqL : List W → List W → Bool
  | [], [] => true
  | x :: xs, y :: ys => wEq x y && wEqL xs ys
  | _, _ => false
end
/-- the walked list cell stands as at the start -/
def still (g : Option Nat) (s0 s : Store) : Bool := match g with
  | none => true
  | some n => match s0[n]?, s[n]? with
    | some (.lst xs), some (.lst ys) => dEqL xs ys
    | some (.wl xs), some (.wl ys) => wEqL xs ys
    | _, _ => false
def bindN (tg : List Nat) (one : Bool) (w : W) (env : Env) : Option Env := match one, tg with
  | true, [i] => some (env.set i (some w))
  | false, is => match w with
    | .d (.tuple xs) => if xs.length = is.length then some ((is.zip xs).foldl (fun e p => e.set p.1 (some (.d p.2))) env) else none
    | .tup ws => if ws.length = is.length then some ((is.zip ws).foldl (fun e p => e.set p.1 (some p.2)) env) else none
    | .pr x y => match is with
      | [i, j] => some ((env.set i (some (.d x))).set j (some (.d y)))
      | _ => none
    | _ => none
  | _, _ => none
inductive Flow where
  | next | brk | cont | ret (w : W)
/-- one turn of a loop: gc drops the turn's cells -/
def turnEnd (gc : Bool) (n : Nat) (env : Env) (s : Store) : Option (Env × Store) := if gc then gcE n env s else some (env, s)
def forL (chk : Store → Bool) (gc : Bool) (n : Nat) (step : W → Env → Store → Res (Flow × Env)) : List W → Env → Store → Res (Flow × Env)
  | [], env, s => if chk s then .ok (.next, env) s else .stuck
  | w :: ws, env, s => if chk s then
      match step w env s with
      | .ok (.brk, env) s => .ok (.next, env) s
      | .ok (.ret w, env) s => .ok (.ret w, env) s
      | .ok (_, env) s => match turnEnd gc n env s with
        | some (env, s) => forL chk gc n step ws env s
        | none => .stuck
      | .exc x s => .exc x s
      | .stuck => .stuck
    else .stuck
def isPure : W → Bool
  | .d _ => true
  | _ => false
/-- a comprehension's list: a cell, or data -/
def compEnd (cell : Bool) (ws : List W) (s : Store) : Res W := match allPure ws with
  | some xs => if cell then .ok (.ref s.length) (s ++ [.lst xs]) else .ok (.d (.list xs)) s
  | none => if cell then .ok (.ref s.length) (s ++ [.wl ws]) else .stuck
def compL (chk : Store → Bool) (gc : Bool) (n : Nat) (step : W → Store → Res (Option W)) : List W → List W → Store → Res (List W)
  | [], acc, s => if chk s then .ok acc s else .stuck
  | w :: ws, acc, s => if chk s then
      match step w s with
      | .ok o s => match turnEnd gc n [] s with
        | some (_, s) => match o with
          | some x => if acc.length < sizeLine ∧ (gc = true → isPure x = true) then compL chk gc n step ws (acc ++ [x]) s else .stuck
          | none => compL chk gc n step ws acc s
        | none => .stuck
      | _ => .stuck
    else .stuck
def whileL (cond : Env → Store → Res Bool) (step : Env → Store → Res (Flow × Env)) : Nat → Env → Store → Res (Flow × Env)
  | 0, _, _ => .stuck
  | k + 1, env, s => (cond env s).bind fun b s => if b then
      match step env s with
      | .ok (.brk, env) s => .ok (.next, env) s
      | .ok (.ret w, env) s => .ok (.ret w, env) s
      | .ok (_, env) s => whileL cond step k env s
      | .exc x s => .exc x s
      | .stuck => .stuck
    else .ok (.next, env) s

/-- an argument that is a function made within a def -/
def argC (env : Env) : Ex → Option (Option W)
  | .cv i => some (match raw env i with
    | some (.clo k o ws) => some (.clo k o ws)
    | _ => none)
  | .lam k js => some (some (.clo k (some js) []))
  | _ => none
section
variable (Φ : FT) (M : CTab) (CI : Nat → Option Nat) (FO : Nat → Str → Bool)
def truR (r : Res W) : Res Bool := r.bind fun w s => .of (truW s w) s
mutual
def runE : Ex → Env → Store → Res W
  | .const x, _, s => .ok (.d x) s
  | .var i, env, s => .of (get env i) s
  | .gfn i, _, s => .ok (.fn i) s
  | .bin o a b, env, s => (runE a env s).bind fun x s => (runE b env s).bind fun y s => .of (do (bopD o (← top s x) (← top s y)).map .d) s
  | .neg a, env, s => (runE a env s).bind fun x s => .of (do (Cc.neg (← top s x)).map .d) s
  | .cmp o a b, env, s => (runE a env s).bind fun x s => (runE b env s).bind fun y s => .of ((cmpW o s x y).map fun b => .d (.bool b)) s
  | .chain o o' a b c, env, s => (runE a env s).bind fun x s => (runE b env s).bind fun y s => (Res.of (cmpW o s x y) s).bind fun k s =>
      if k then (runE c env s).bind fun z s => .of ((cmpW o' s y z).map fun b => .d (.bool b)) s else .ok (.d (.bool false)) s
  | .and a b, env, s => (runE a env s).bind fun x s => match x with
      | .d (.bool true) => runE b env s
      | .d (.bool false) => .ok (.d (.bool false)) s
      | _ => .stuck
  | .or a b, env, s => (runE a env s).bind fun x s => match x with
      | .d (.bool true) => .ok (.d (.bool true)) s
      | .d (.bool false) => runE b env s
      | _ => .stuck
  | .not a, env, s => (runE a env s).bind fun x s => match x with
      | .d (.bool b) => .ok (.d (.bool !b)) s
      | _ => .stuck
  | .ite c a b, env, s => (runT c env s).bind fun k s => if k then runE a env s else runE b env s
  | .tup es, env, s => (runEs es env s).bind fun ws s => .of (mkTupW ws) s
  | .lst cell es, env, s => (runEs es env s).bind fun ws s => newLst cell ws s
  | .idx a b, env, s => (runE a env s).bind fun x s => (runE b env s).bind fun y s => .of (idxW s x y) s
  | .slice a lo hi, env, s => (runE a env s).bind fun x s => (runO lo env s).bind fun l s => (runO hi env s).bind fun h s =>
      .of (do (cutD (← top s x) l h).map .d) s
  | .rev a, env, s => (runE a env s).bind fun x s => .of ((top s x).bind fun d => (revD d).map .d) s
  | .call m i es, env, s => (runEs es env s).bind fun ws s => callM m (Φ i) ws s
  | .make c es, env, s => (runEs es env s).bind fun ws s => match CI c with
      | some i => (Φ i (.ref s.length :: ws) (s ++ [.ins c []])).bind fun w s' => match w with
        | .d .none => .ok (.ref s.length) s'
        | _ => .stuck
      | none => .stuck
  | .meth o m es, env, s => (runE o env s).bind fun x s => match x with
      | .ref n => match s[n]? with
        | some (.ins c fs) => match fs.lookup m, M c m with
          | none, some i => (runEs es env s).bind fun ws s => Φ i (.ref n :: ws) s
          | _, _ => .stuck
        | _ => .stuck
      | _ => .stuck
  | .bf f es, env, s => (runEs es env s).bind fun ws s => .of ((bfD s f ws).map .d) s
  | .bm m o es, env, s => (runE o env s).bind fun x s => if bmOk x then (runEs es env s).bind fun ws s => .of ((bmD s m x ws).map .d) s else .stuck
  | .lm m o es, env, s => (runE o env s).bind fun x s => if lmOk s x then (runEs es env s).bind fun ws s => .of ((lmD s m x ws).map .d) s else .stuck
  | .fld o f, env, s => (runE o env s).bind fun x s => .of (fldW FO s f x) s
  | .comp own cell gc tg one walk its c e, env, s => (runEs its env s).bind fun ws s => match walkW walk ws s with
      | some (ws, g) => (compL (still g s) gc s.length (fun w s => match bindN tg one w (wipeE env own) with
          | some env => (runC c env s).bind fun k s => if k then (runE e env s).bind fun x s => .ok (some x) s else .ok none s
          | none => .stuck) ws [] s).bind fun ws s => compEnd cell ws s
      | none => .stuck
  | .cell a, env, s => (runE a env s).bind fun x s => toCell x s
  | .frz a, env, s => (runE a env s).bind fun x s => doFrz x s
  | .mut m o es, env, s => (runE o env s).bind fun x s => if isLstC s x then (runEs es env s).bind fun ws s => mutW m x ws s else .stuck
  | .dnew, _, s => .ok (.ref s.length) (s ++ [.dn []])
  | .dof a, env, s => (runE a env s).bind fun x s => match ((top s x).bind seqOf).bind pairsOf with
      | some ps => .ok (.ref s.length) (s ++ [.dn (dMerge [] ps)])
      | none => .stuck
  | .dofz a, env, s => (runE a env s).bind fun x s => match (((top s x).bind seqOf).bind pairsOf).bind fun ps => unD (dMerge [] ps) with
      | some zs => .ok (.fd zs) s
      | none => .stuck
  | .dsort o, env, s => (runE o env s).bind fun x s => match (dnOf s x).bind itemsD with
      | some ds => if sortOk ds then .ok (.d (.list (sortD ds))) s else .stuck
      | none => .stuck
  | .dmet m o es, env, s => (runE o env s).bind fun x s => if (dnOf s x).isSome then (runEs es env s).bind fun ws s => dmetW m x ws s else .stuck
  | .dlit ks es, env, s => (runEs es env (s ++ [.dk []])).bind fun ws s2 => fillDk s.length ks ws s2
  | .callv m b i es, env, s => match get env i with
    | some (.fn j) => if j < b then (runEs es env s).bind fun ws s => callM m (Φ j) ws s else .stuck
    | _ => .stuck
  | .dlk a b, env, s => (runE a env s).bind fun x s => match ((top s x).bind seqOf).bind prsS with
    | some ps => (runE b env s).bind fun y s => .of (dlkW ps y) s
    | none => .stuck
  | .tix xs b, env, s => (runE b env s).bind fun y s => .of ((tixW xs y).map .d) s
  | .callc m f b i es, env, s => match (raw env i).bind (conv env f) with
    | some (.clo k none cs) => if k < b then (runEs es env s).bind fun ws s => callM m (Φ k) (ws ++ cs) s else .stuck
    | _ => .stuck
  | .cv _, _, _ => .stuck
  | .lam _ _, _, _ => .stuck
  | .calla m f i es, env, s => (runAs es env s).bind fun ws s => match convL env f ws with
    | some ws => callM m (Φ i) ws s
    | none => .stuck
  | .metha f o m es, env, s => (runE o env s).bind fun x s => match x with
      | .ref n => match s[n]? with
        | some (.ins c fs) => match fs.lookup m, M c m with
          | none, some i => (runAs es env s).bind fun ws s => match convL env f ws with
            | some ws => Φ i (.ref n :: ws) s
            | none => .stuck
          | _, _ => .stuck
        | _ => .stuck
      | _ => .stuck
def runAs : List Ex → Env → Store → Res (List W)
  | [], _, s => .ok [] s
  | e :: es, env, s => (match argC env e with
    | some o => Res.of o s
    | none => runE e env s).bind fun w s => (runAs es env s).bind fun ws s => .ok (w :: ws) s
def runEs : List Ex → Env → Store → Res (List W)
  | [], _, s => .ok [] s
  | e :: es, env, s => (runE e env s).bind fun w s => (runEs es env s).bind fun ws s => .ok (w :: ws) s
/-- a slice's part -/
def runO : Option Ex → Env → Store → Res (Option Int)
  | none, _, s => .ok none s
  | some e, env, s => (runE e env s).bind fun w s => .of ((partW w).map some) s
/-- a comprehension's test -/
def runC : Option Bx → Env → Store → Res Bool
  | none, _, s => .ok true s
  | some e, env, s => runT e env s
/-- an expression as a test -/
def runT : Bx → Env → Store → Res Bool
  | .and a b, env, s => (runT a env s).bind fun k s => if k then runT b env s else .ok false s
  | .or a b, env, s => (runT a env s).bind fun k s => if k then .ok true s else runT b env s
  | .not a, env, s => (runT a env s).bind fun k s => .ok (!k) s
  | .ite c a b, env, s => (runT c env s).bind fun k s => if k then runT a env s else runT b env s
  | .tru e, env, s => truR (runE e env s)
end

def runIs (c : Nat) : List (List (Nat × Bool)) → Option (List Bool)
  | [] => some []
  | l :: ls => match l.lookup c, runIs c ls with
    | some b, some bs => some (b :: bs)
    | _, _ => none
def tells (bo bm : List Bool) (v w : Int) : Bool := !bo.any id && (bm.all id && decide (v = w))
def runH (h : Hd) (x : Exn) (env : Env) : Option (Flow × Env) := match h with
  | .flag j d => some (.next, env.set j (some (.d d)))
  | .isas i j ls => if x.fs.isEmpty && Nat.ble ls.length 100 then (runIs x.cls ls).map fun bs => (.next, (env.set j (some (.d (.tuple (bs.map .bool))))).set i none) else none
  | .tell c i j m os ms f => if x.cls = c then match runIs c os, runIs c ms, x.fs.lookup f, env[m]? with
    | some bo, some bm, some (.int v), some (some (.d (.int w))) => some (.ret (.d (.bool (tells bo bm v w))), (env.set j (some (.d (.bool (bo.any id))))).set i none)
    | _, _, _, _ => none else none
def assignT (t : Tx) (w : W) (env : Env) (s : Store) : Res Env := match t with
  | .name i => .ok (env.set i (some w)) s
  | .sub o i => (runE Φ M CI FO o env s).bind fun x s => (runE Φ M CI FO i env s).bind fun y s => (setIx x y w s).bind fun _ s => .ok env s
  | .fld o f => (runE Φ M CI FO o env s).bind fun x s => (setFld FO x f w s).bind fun _ s => .ok env s
def assignTs : List Tx → List W → Env → Store → Res Env
  | [], [], env, s => .ok env s
  | t :: ts, w :: ws, env, s => (assignT Φ M CI FO t w env s).bind fun env s => assignTs ts ws env s
  | _, _, _, _ => .stuck
/-- the parts of a tuple -/
def parts : W → Option (List W)
  | .d (.tuple xs) => some (xs.map .d)
  | .tup ws => some ws
  | _ => none
variable (XI : Nat → List PyData → Option (List (Str × PyData)))
def runS : Sx → Env → Store → Res (Flow × Env)
  | .pass, env, s => .ok (.next, env) s
  | .ndef i k js, env, s => .ok (.next, env.set i (some (.clo k (some js) []))) s
  | .brk, env, s => .ok (.brk, env) s
  | .cont, env, s => .ok (.cont, env) s
  | .stk, _, _ => .stuck
  | .seq a b, env, s => (runS a env s).bind fun p s => match p with
    | (.next, env) => runS b env s
    | p => .ok p s
  | .assign t e, env, s => (runE Φ M CI FO e env s).bind fun w s => (assignT Φ M CI FO t w env s).bind fun env s => .ok (.next, env) s
  | .aug i e, env, s => match get env i with
    | some (.d (.int a)) => (runE Φ M CI FO e env s).bind fun w s => match w with
      | .d (.int b) => .ok (.next, env.set i (some (.d (.int (a + b))))) s
      | _ => .stuck
    | _ => .stuck
  | .unpack ts e, env, s => (runE Φ M CI FO e env s).bind fun w s => match parts w with
    | some ws => if ws.length = ts.length then (assignTs Φ M CI FO ts ws env s).bind fun env s => .ok (.next, env) s else .stuck
    | none => .stuck
  | .expr e, env, s => (runE Φ M CI FO e env s).bind fun _ s => .ok (.next, env) s
  | .ret e, env, s => (runE Φ M CI FO e env s).bind fun w s => .ok (.ret w, env) s
  | .ite c a b, env, s => (runT Φ M CI FO c env s).bind fun k s => if k then runS a env s else runS b env s
  | .for gc tg one walk its body, env, s => (runEs Φ M CI FO its env s).bind fun ws s => match walkW walk ws s with
    | some (ws, g) => forL (still g s) gc s.length (fun w env s => match bindN tg one w env with
        | some env => runS body env s
        | none => .stuck) ws env s
    | none => .stuck
  | .while fuel c body, env, s => whileL (fun env s => runT Φ M CI FO c env s) (fun env s => runS body env s) fuel env s
  | .raise c es, env, s => (runEs Φ M CI FO es env s).bind fun ws s => match allPure ws with
    | some xs => match XI c xs with
      | some fs => .exc ⟨c, fs⟩ s
      | none => .stuck
    | none => .stuck
  | .tr i e l h, env, s => match runE Φ M CI FO e env s with
    | .ok w s => .ok (.next, match i with | some i => env.set i (some w) | none => env) s
    | .exc x s => match l.lookup x.cls with
      | some true => match runH h x env with
        | some p => .ok p s
        | none => .stuck
      | some false => .exc x s
      | none => .stuck
    | .stuck => .stuck
/-- a def: parameters, slots, body -/
structure Def where
  ps : Nat
  ns : Nat
  body : Sx
def startE (n : Nat) (ws : List W) : Env := ws.map some ++ List.replicate (n - ws.length) none
def runF (f : Def) (ws : List W) (s : Store) : Res W :=
  if ws.length = f.ps then match runS Φ M CI FO XI f.body (startE f.ns ws) s with
    | .ok (.ret w, _) s => .ok w s
    | .ok (.next, _) s => .ok (.d .none) s
    | .ok _ _ => .stuck
    | .exc x s => .exc x s
    | .stuck => .stuck
  else .stuck
end
/-- the table of the first n defs, each over those ahead of it -/
def table (M : CTab) (CI : Nat → Option Nat) (FO : Nat → Str → Bool) (XI : Nat → List PyData → Option (List (Str × PyData))) (ds : Nat → Def) : Nat → FT
  | 0 => fun _ _ _ => .stuck
  | n + 1 => fun i => if i = n then runF (table M CI FO XI ds n) M CI FO XI (ds n) else table M CI FO XI ds n i
theorem table_at {M : CTab} {CI : Nat → Option Nat} {FO : Nat → Str → Bool} {XI : Nat → List PyData → Option (List (Str × PyData))} {ds : Nat → Def} {i : Nat} : ∀ {n : Nat}, i < n → table M CI FO XI ds n i = runF (table M CI FO XI ds i) M CI FO XI (ds i)
  | 0, h => by omega
  | n + 1, h => by
    show (if i = n then _ else _) = _
    by_cases e : i = n
    · subst e; rw [if_pos rfl]
    · rw [if_neg e]; exact table_at (by omega)
end Cc

set_option linter.all false
set_option maxRecDepth 100000
/-! Cc: from the model's syntax to the core language. -/
namespace Cc
open PySem

/-- what a name of the module is: a def of the table (parameters, defaults), a class, data, an exception class, a name that is free (a built-in) -/
inductive GI where
  | fn (i : Nat) (ps : Nat) (dfl : List PyData)
  | cls (c : Nat) (ps : Nat) (dfl : List PyData)
  | exn (c : Nat)
  /-- an exception class without own __init__ -/
  | pex (c : Nat)
  /-- an exception class whose own __init__ (the i-th def) keeps one field -/
  | pexi (c i : Nat) (f : Str)
  | con (x : PyData)
  | blt
  /-- a def of a class, called by the class: told under the name that bkey makes -/
  | bas (c : Nat) (m : Str) (i : Nat) (ps : Nat) (dfl : List PyData)
/-- the name under which B.m is told -/
def bkey (B m : Str) : Str := ⟨B.cps ++ #[46] ++ m.cps⟩
/-! ### equal texts, looked at -/
def eqArgs : List Arg → List Arg → Bool
  | [], [] => true
  | ⟨x, none, p⟩ :: r, ⟨y, none, q⟩ :: t => decide (x = y) && decide (p = q) && eqArgs r t
  | _, _ => false
/-- plain parameters, no defaults -/
def eqPars : Arguments → Arguments → Bool
  | ⟨[], as, none, [], [], none, []⟩, ⟨[], bs, none, [], [], none, []⟩ => eqArgs as bs
  | _, _ => false
mutual
def eqX : Nat → Expr → Expr → Bool
  | 0, _, _ => false
  | n + 1, x, y => match x, y with
    | .Name x p, .Name y q => decide (x = y) && decide (p = q)
    | .Constant x k p, .Constant y l q => decide (x = y) && decide (k = l) && decide (p = q)
    | .Attribute a x p, .Attribute b y q => eqX n a b && decide (x = y) && decide (p = q)
    | .Subscript a x p, .Subscript b y q => eqX n a b && eqX n x y && decide (p = q)
    | .Slice a b c p, .Slice d e f q => eqXo n a d && eqXo n b e && eqXo n c f && decide (p = q)
    | .Tuple a k p, .Tuple b l q => eqXs n a b && decide (k = l) && decide (p = q)
    | .List a p, .List b q => eqXs n a b && decide (p = q)
    | .BinOp a o b p, .BinOp c o' d q => eqX n a c && decide (o = o') && eqX n b d && decide (p = q)
    | .BoolOp o a p, .BoolOp o' b q => decide (o = o') && eqXs n a b && decide (p = q)
    | .UnaryOp o a p, .UnaryOp o' b q => decide (o = o') && eqX n a b && decide (p = q)
    | .Compare a o b p, .Compare c o' d q => eqX n a c && decide (o = o') && eqXs n b d && decide (p = q)
    | .IfExp a b c p, .IfExp d e f q => eqX n a d && eqX n b e && eqX n c f && decide (p = q)
    | .Call f a [] p, .Call g b [] q => eqX n f g && eqXs n a b && decide (p = q)
    | .ListComp e [⟨t, i, c, z⟩] sc p, .ListComp e' [⟨t', i', c', z'⟩] sc' q => eqX n e e' && eqX n t t' && eqX n i i' && eqXs n c c' && decide (z = z') && decide (sc = sc') && decide (p = q)
    | _, _ => false
def eqXs : Nat → List Expr → List Expr → Bool
  | 0, _, _ => false
  | n + 1, x, y => match x, y with
    | [], [] => true
    | a :: r, b :: t => eqX n a b && eqXs n r t
    | _, _ => false
def eqXo : Nat → Option Expr → Option Expr → Bool
  | 0, _, _ => false
  | n + 1, x, y => match x, y with
    | none, none => true
    | some a, some b => eqX n a b
    | _, _ => false
end
mutual
def eqS : Nat → Stmt → Stmt → Bool
  | 0, _, _ => false
  | n + 1, x, y => match x, y with
    | .Return a p, .Return b q => eqXo n a b && decide (p = q)
    | .Expr a p, .Expr b q => eqX n a b && decide (p = q)
    | .Assign a e p, .Assign b f q => eqXs n a b && eqX n e f && decide (p = q)
    | .If c a b p, .If d e f q => eqX n c d && eqSs n a e && eqSs n b f && decide (p = q)
    | _, _ => false
def eqSs : Nat → List Stmt → List Stmt → Bool
  | 0, _, _ => false
  | n + 1, x, y => match x, y with
    | [], [] => true
    | a :: r, b :: t => eqS n a b && eqSs n r t
    | _, _ => false
end
/-- a def (or lambda) within a def, as the table has it: its names (parameters, captured ones, own ones) -/
structure Nd where
  name : Str
  qual : Str
  params : Arguments
  body : List Stmt
  lam : Option Expr
  scope : Scope
  ps : List Str
  fr : List Str
  N : List Str
structure TEnv where
  N : List Str
  sc : Scope
  /-- where a name that is set is looked up: a block's scope ahead of its names' running kinds -/
  tsc : Scope
  G : Str → Option GI
  /-- notes at places: 1 a cell, 2 the call keeps, 3 the call lends, 4 turns drop their cells, 5 no more changed -/
  ann : Pos → Nat
  fuel : Nat
  /-- a class that is caught or asked for: which of the text's classes are below it -/
  xs : Str → Option (List (Nat × Bool))
  /-- how many defs stand below -/
  bd : Nat
  /-- the defs within this one; names that hold such; how the code table names them; the running def's own name; whether it is the def itself that runs (no block of it) -/
  nd : List (Nat × Nd)
  cvs : List Str
  nm : Nat → Nat → Str
  qual : Str
  own : Bool
def ixOf (x : Str) : List Str → Nat → Option Nat
  | [], _ => none
  | y :: ys, k => if x = y then some k else ixOf x ys (k + 1)
def visB (sc : Scope) (x : Str) : Bool := match sc.names.lookup x with
  | some .local => true
  | some .cell => true
  | some .free => true
  | _ => false
def locB (sc : Scope) (x : Str) : Bool := match sc.names.lookup x with
  | some .local => true
  | some .cell => true
  | _ => false
def gloB (sc : Scope) (x : Str) : Bool := match sc.names.lookup x with
  | some .globalImplicit => true
  | _ => false
/-- a comprehension's block, as its names run -/
def blkScope (sc scope : Scope) : Scope := L2.relS scope sc
def slotOf (T : TEnv) (x : Str) : Option Nat := if visB T.sc x then ixOf x T.N 0 else none
def tgtOf (T : TEnv) (x : Str) : Option Nat := if locB T.tsc x then ixOf x T.N 0 else none
def constOf : Const → Option PyData
  | .none => some .none
  | .bool b => some (.bool b)
  | .int i => some (.int i)
  | .str x => some (.str x)
  | _ => none
def bopOf : Operator → Option Bop
  | .Add => some .add | .Sub => some .sub | .Mult => some .mul | .Mod => some .mod | .Pow => some .pow | .FloorDiv => some .fdiv
  | .BitAnd => some .band | .BitOr => some .bor
  | _ => none
def copOf : CmpOp → Cop
  | .Eq => .eq | .NotEq => .ne | .Lt => .lt | .LtE => .le | .Gt => .gt | .GtE => .ge | .Is => .is_ | .IsNot => .isnot | .In => .isin | .NotIn => .notin
def tyOf (x : Str) : Option Ty :=
  if x = ("bool" : Str) then some .bool else if x = ("int" : Str) then some .int else if x = ("str" : Str) then some .str
  else if x = ("list" : Str) then some .list else if x = ("tuple" : Str) then some .tuple else none
/-- a free name of the module -/
def freeB (T : TEnv) (x : Str) : Bool := gloB T.sc x && (match T.G x with | some .blt => true | _ => false)
def bfOf (x : Str) (n : Nat) : Option Bf :=
  if n = 1 then
    if x = ("len" : Str) then some .len else if x = ("sum" : Str) then some .sum else if x = ("any" : Str) then some .any else if x = ("all" : Str) then some .all
    else if x = ("int" : Str) then some .int else if x = ("str" : Str) then some .str else if x = ("tuple" : Str) then some .tuple else if x = ("list" : Str) then some .list else none
  else if n = 2 then
    if x = ("min" : Str) then some .min2 else if x = ("max" : Str) then some .max2 else none
  else none
/-- range's argument in list(range(a)) -/
def rngArg (x : Str) : List Expr → Option Expr
  | [.Call (.Name y _) [a] [] _] => if x = ("list" : Str) ∧ y = ("range" : Str) then some a else none
  | _ => none
/-- the dict in sorted(d.items()) -/
def itArg (x : Str) : List Expr → Option Expr
  | [.Call (.Attribute o m apos) [] [] pos] => if x = ("sorted" : Str) ∧ m = ("items" : Str) ∧ (apos.endLine == pos.line) = true then (match o with | .Call .. => none | o => some o) else none
  | _ => none
/-- the set's argument in len(set(a)) -/
def setArg (x : Str) : List Expr → Option Expr
  | [.Call (.Name y _) [a] [] _] => if x = ("len" : Str) ∧ y = ("set" : Str) then some a else none
  | _ => none
/-- B.m(..), B a class -/
def baseOf (T : TEnv) : Expr → Str → Option (Nat × Nat × List PyData)
  | .Name x _, m => if (slotOf T x).isNone && gloB T.sc x then match T.G x, T.G (bkey x m) with
      | some (.cls c _ _), some (.bas c' m' i np dfl) => if c = c' ∧ m = m' then some (i, np, dfl) else none
      | _, _ => none
    else none
  | _, _ => none
def bmOf (x : Str) : Option Bm :=
  if x = ("join" : Str) then some .join else if x = ("split" : Str) then some .split else if x = ("partition" : Str) then some .partition
  else if x = ("startswith" : Str) then some .startswith else none
def lmOf (x : Str) : Option Lm := if x = ("count" : Str) then some .count else if x = ("index" : Str) then some .index else none
def mutOf (x : Str) (n : Nat) : Option Mt :=
  if x = ("append" : Str) ∧ n = 1 then some .append else if x = ("extend" : Str) ∧ n = 1 then some .extend else if x = ("pop" : Str) ∧ n = 0 then some .pop
  else if x = ("clear" : Str) ∧ n = 0 then some .clear else if x = ("pop" : Str) ∧ n = 1 then some .popAt else none
/-- a dict's method: get; pop by a note 6 -/
def dmOf (T : TEnv) (pos : Pos) (x : Str) (n : Nat) : Option Dm := if x = ("get" : Str) ∧ (n = 1 ∨ n = 2) then some .get else if x = ("pop" : Str) ∧ n = 1 ∧ T.ann pos = 6 then some .pop else none
def cmOf (n : Nat) : Cm := if n = 2 then .keep else if n = 3 then .lend else .frz
/-- a note 1 makes a cell of a fresh list -/
def wrap (T : TEnv) (pos : Pos) (e : Ex) : Ex := if T.ann pos = 1 then .cell e else e
def dfls (ps n : Nat) (dfl : List PyData) : Option (List Ex) :=
  if n ≤ ps ∧ ps - n ≤ dfl.length then some ((dfl.drop (dfl.length - (ps - n))).map .const) else none
/-- names of a target: one, or several -/
def namesOf (T : TEnv) : Expr → Option (List Nat × Bool)
  | .Name x _ => (tgtOf T x).map fun i => ([i], true)
  | .Tuple es _ _ => (go es).map (·, false)
  | _ => none
where go : List Expr → Option (List Nat)
  | [] => some []
  | .Name x _ :: es => match tgtOf T x, go es with
    | some i, some is => some (i :: is)
    | _, _ => none
  | _ :: _ => none
def ownOf (N : List Str) (scope : Scope) : List (Str × Nat) := scope.names.filterMap fun p => match p.2 with
  | .local => (ixOf p.1 N 0).map (p.1, ·)
  | .cell => (ixOf p.1 N 0).map (p.1, ·)
  | _ => none
def isTupE : Expr → Bool
  | .Tuple .. => true
  | _ => false
/-- a walk over range or enumerate -/
def walkOf (T : TEnv) (tg : Expr) : Expr → Option (Wk × List Expr)
  | .Call (.Name x _) es [] _ =>
    if x = ("range" : Str) ∧ freeB T x = true ∧ es.length = 1 then some (.rng1, es)
    else if x = ("range" : Str) ∧ freeB T x = true ∧ es.length = 2 then some (.rng2, es)
    else if x = ("enumerate" : Str) ∧ freeB T x = true ∧ es.length = 1 ∧ isTupE tg = true then some (.enum, es)
    else none
  | _ => none
/-- for k, v in o.items() -/
def itOf (tg : Expr) : Expr → Option Expr
  | .Call (.Attribute o m apos) [] [] pos => if m = ("items" : Str) ∧ (apos.endLine == pos.line) = true ∧ isTupE tg = true then (match o with | .Call .. => none | o => some o) else none
  | _ => none
/-- the whole line of a call of a built-in's method -/
def oneLine (apos pos : Pos) : Bool := apos.endLine == pos.line
/-- a display's keys, written texts -/
def strC : Option Expr → Option Str
  | some (.Constant (.str x) _ _) => some x
  | _ => none
def keysOf : List (Option Expr) → Option (List Str)
  | [] => some []
  | k :: r => (strC k).bind fun x => (keysOf r).map (x :: ·)
/-- the only argument -/
def oneArg : List Expr → Option Expr
  | [a] => match a with
    | .Starred .. => none
    | a => some a
  | _ => none
/-- the tuple of the module in FLAGS.index(x) -/
def tupName (T : TEnv) (m : Str) : Expr → Option (List PyData)
  | .Name x _ => if m = ("index" : Str) ∧ (slotOf T x).isNone = true ∧ gloB T.sc x = true then (match T.G x with | some (.con (.tuple ds)) => some ds | _ => none) else none
  | _ => none
/-- the pairs in dict(pairs)[k] -/
def dictArg (T : TEnv) : Expr → Option Expr
  | .Call (.Name x _) es [] _ => if x = ("dict" : Str) ∧ slotOf T x = none ∧ freeB T x = true then oneArg es else none
  | _ => none
def cvB (T : TEnv) (x : Str) : Bool := decide (x ∈ T.cvs)
def fu (T : TEnv) : Nat := if T.own then 3 else 0
def jsOf (N : List Str) : List Str → Option (List Nat)
  | [] => some []
  | y :: ys => match ixOf y N 0, jsOf N ys with
    | some j, some js => some (j :: js)
    | _, _ => none
/-- what must hold where such a def is made -/
def madeB (T : TEnv) (pos : Pos) (name : Str) (n : Nd) (js : List Nat) (params : Arguments) (scope : Scope) : Bool :=
  T.own && decide (T.nm pos.line pos.col = T.qual ++ name) && decide (n.qual = T.qual ++ name) && decide (n.name = name) && eqPars n.params params && decide (n.scope = scope) && NdefX.ndefB T.sc scope n.fr && decide (jsOf T.N n.fr = some js)
def isLamB (n : Nd) (body : Expr) : Bool := (match n.lam with
  | some e => eqX 100 e body
  | none => false) && n.body.isEmpty
def isDefB (n : Nd) (body : List Stmt) : Bool := n.lam.isNone && eqSs 100 n.body body
def pickN (p : Nd → List Nat → Bool) (N : List Str) : List (Nat × Nd) → Option (Nat × List Nat)
  | [] => none
  | (k, n) :: r => match jsOf N n.fr with
    | some js => if p n js then some (k, js) else pickN p N r
    | none => pickN p N r
def lamOf (T : TEnv) (params : Arguments) (body : Expr) (scope : Scope) (pos : Pos) : Option (Nat × List Nat) := pickN (fun n js => isLamB n body && madeB T pos "<lambda>" n js params scope) T.N T.nd
def defOf (T : TEnv) (name : Str) (params : Arguments) (body : List Stmt) (scope : Scope) (pos : Pos) : Option (Nat × List Nat) := pickN (fun n js => isDefB n body && madeB T pos name n js params scope) T.N T.nd
/-- an argument that is such a def -/
def argOf (T : TEnv) : Expr → Option (Option Ex)
  | .Lambda params body scope pos => some ((lamOf T params body scope pos).map fun p => .lam p.1 p.2)
  | .Name x _ => if cvB T x then some ((slotOf T x).map .cv) else none
  | _ => none
def hasC (T : TEnv) (es : List Expr) : Bool := es.any fun e => (argOf T e).isSome
def plainX : Ex → Bool
  | .cv _ => false
  | .lam _ _ => false
  | _ => true
mutual
def trE (T : TEnv) : Nat → Expr → Option Ex
  | 0, _ => none
  | n + 1, e => match e with
    | .Constant c _ _ => (constOf c).map .const
    | .Name x pos => match slotOf T x with
      | some i => some (if T.ann pos = 5 then .frz (.var i) else .var i)
      | none => if gloB T.sc x then match T.G x with
          | some (.con d) => some (.const d)
          | some (.fn i _ _) => some (.gfn i)
          | _ => none
        else none
    | .BinOp a op b pos => do
      let o ← bopOf op
      let x ← trE T n a
      let y ← trE T n b
      some (if o = .add then wrap T pos (.bin o x y) else .bin o x y)
    | .UnaryOp .USub a _ => do some (.neg (← trE T n a))
    | .UnaryOp .Not a _ => do some (.not (← trE T n a))
    | .BoolOp op es pos => trBool T n op es pos
    | .Compare a [op] [b] _ => if behindInMarks op b then none else do some (.cmp (copOf op) (← trE T n a) (← trE T n b))
    | .Compare a [op, op'] [b, c] _ => if lastMarks [op, op'] [b, c] then none else do some (.chain (copOf op) (copOf op') (← trE T n a) (← trE T n b) (← trE T n c))
    | .IfExp c a b _ => do some (.ite (← trB T n c) (← trE T n a) (← trE T n b))
    | .Tuple es _ _ => do some (.tup (← trEs T n es))
    | .Dict ks vs _ => match ks, vs with
      | [], [] => some .dnew
      | k :: ks, vs => do
        let xs ← keysOf (k :: ks)
        let cs ← trEs T n vs
        if xs.length = cs.length ∧ xs.length ≤ 15 ∧ xs.Nodup then some (.dlit xs cs) else none
      | _, _ => none
    | .List es pos => do some (.lst (T.ann pos = 1) (← trEs T n es))
    | .Subscript a (.Slice lo hi none _) pos => do some (wrap T pos (.slice (← trE T n a) (← trO T n lo) (← trO T n hi)))
    | .Subscript a (.Slice none none (some (.UnaryOp .USub (.Constant (.int 1) _ _) _)) _) pos => do some (wrap T pos (.rev (← trE T n a)))
    | .Subscript a b _ => match b with
      | .Slice .. => none
      | b => match dictArg T a with
        | some d => do some (.dlk (← trE T n d) (← trE T n b))
        | none => do some (.idx (← trE T n a) (← trE T n b))
    | .Attribute o f _ => match o with
      | .Call .. => none
      | o => do some (.fld (← trE T n o) f)
    | .ListComp elt [⟨tg, it, ifs, 0⟩] scope pos => do
      let (k, its) ← trI T n tg it
      let T' : TEnv := { T with sc := blkScope T.sc scope, tsc := scope, own := false }
      if L2.blkC T.N T.sc scope (ownOf T.N scope) then
        let (is, one) ← namesOf T' tg
        let c ← trC T' n ifs
        let e ← trE T' n elt
        if is.all (fun i => decide (i ∈ (ownOf T.N scope).map (·.2))) then
          some (.comp ((ownOf T.N scope).map (·.2)) (T.ann pos = 1) (T.ann pos = 4) is one k its c e)
        else none
      else none
    | .Call (.Name x _) es [] pos => if cvB T x then (match slotOf T x with
        | some i => do some (.callc (cmOf (T.ann pos)) (fu T) T.bd i (← trEs T n es))
        | none => none)
      else if hasC T es then (match slotOf T x with
        | some _ => none
        | none => if gloB T.sc x then match T.G x with
            | some (.fn i ps _) => do
              let cs ← trAs T n es
              if cs.length = ps then some (.calla (cmOf (T.ann pos)) (fu T) i cs) else none
            | _ => none
          else none)
      else match slotOf T x with
      | some i => match es with
        | [] => none
        | e :: es => do some (.callv (cmOf (T.ann pos)) T.bd i (← trEs T n (e :: es)))
      | none => if gloB T.sc x then match T.G x with
          | some (.fn i ps dfl) => do
            let cs ← trEs T n es
            some (.call (cmOf (T.ann pos)) i (cs ++ (← dfls ps cs.length dfl)))
          | some (.cls c ps dfl) => do
            let cs ← trEs T n es
            some (.make c (cs ++ (← dfls ps cs.length dfl)))
          | some .blt =>
            if x = ("isinstance" : Str) then match es with
              | [a, .Name y _] => if freeB T y then do some (.bf (.isa (← tyOf y)) [← trE T n a]) else none
              | _ => none
            else if x = ("dict" : Str) ∧ es.length = 1 then match es with
              | [a] => do
                let c ← trE T n a
                some (if T.ann pos = 7 then .dofz c else .dof c)
              | _ => none
            else match itArg x es with
             | some o => do some (wrap T pos (.dsort (← trE T n o)))
             | none => match rngArg x es with
              | some a => if freeB T ("range" : Str) then do some (wrap T pos (.bf .lrng [← trE T n a])) else none
              | none => match setArg x es with
                | some a => if freeB T ("set" : Str) then do some (.bf .lens [← trE T n a]) else none
                | none => do some (wrap T pos (.bf (← bfOf x es.length) (← trEs T n es)))
          | _ => none
        else none
    | .Call (.Attribute o m apos) es [] pos =>
      if oneLine apos pos && decide (es.length < 20) then if hasC T es then (match o with
       | .Call .. => none
       | o => do some (.metha (fu T) (← trE T n o) m (← trAs T n es))) else match baseOf T o m with
      | some (i, np, dfl) => do
        let cs ← trEs T n es
        some (.call (cmOf (T.ann pos)) i (cs ++ (← dfls np cs.length dfl)))
      | none => match o with
        | .Call .. => none
        | o => match tupName T m o with
         | some ds => do some (.tix ds (← trE T n (← oneArg es)))
         | none => match dmOf T pos m es.length with
         | some k => do some (.dmet k (← trE T n o) (← trEs T n es))
         | none => match mutOf m es.length with
          | some k => do some (.mut k (← trE T n o) (← trEs T n es))
          | none => match (if es.length = 1 then bmOf m else none) with
            | some k => do some (wrap T pos (.bm k (← trE T n o) (← trEs T n es)))
            | none => match (if es.length = 1 then lmOf m else none) with
              | some k => do some (.lm k (← trE T n o) (← trEs T n es))
              | none => do some (.meth (← trE T n o) m (← trEs T n es))
      else none
    | _ => none
def trBool (T : TEnv) : Nat → BoolOp → List Expr → Pos → Option Ex
  | 0, _, _, _ => none
  | n + 1, op, es, pos => match es with
    | [a] => trE T n a
    | a :: b :: r => do
      let x ← trE T n a
      let y ← trBool T n op (b :: r) pos
      some (match op with | .And => .and x y | .Or => .or x y)
    | [] => none
def trEs (T : TEnv) : Nat → List Expr → Option (List Ex)
  | 0, _ => none
  | n + 1, es => match es with
    | [] => some []
    | .Starred .. :: _ => none
    | e :: es => do some ((← trE T n e) :: (← trEs T n es))
/-- arguments, some of them such defs -/
def trAs (T : TEnv) : Nat → List Expr → Option (List Ex)
  | 0, _ => none
  | n + 1, es => match es with
    | [] => some []
    | .Starred .. :: _ => none
    | e :: es => match argOf T e with
      | some o => do some ((← o) :: (← trAs T n es))
      | none => do
        let c ← trE T n e
        if plainX c then some (c :: (← trAs T n es)) else none
def trO (T : TEnv) : Nat → Option Expr → Option (Option Ex)
  | 0, _ => none
  | n + 1, o => match o with
    | none => some none
    | some e => do some (some (← trE T n e))
def trC (T : TEnv) : Nat → List Expr → Option (Option Bx)
  | 0, _ => none
  | n + 1, es => match es with
    | [] => some none
    | [e] => do some (some (← trB T n e))
    | _ => none
/-- what is walked -/
def trI (T : TEnv) : Nat → Expr → Expr → Option (Wk × List Ex)
  | 0, _, _ => none
  | n + 1, tg, e => match walkOf T tg e with
    | some (k, es) => do some (k, ← trEs T n es)
    | none => match itOf tg e with
     | some o => do some (.items, [← trE T n o])
     | none => match e with
      | .Set .. => none
      | e => do some (.seq, [← trE T n e])
def trB (T : TEnv) : Nat → Expr → Option Bx
  | 0, _ => none
  | n + 1, e => match e with
    | .UnaryOp .Not a _ => do some (.not (← trB T n a))
    | .BoolOp op es pos => trBoolB T n op es pos
    | .IfExp c a b _ => do some (.ite (← trB T n c) (← trB T n a) (← trB T n b))
    | e => do some (.tru (← trE T n e))
def trBoolB (T : TEnv) : Nat → BoolOp → List Expr → Pos → Option Bx
  | 0, _, _, _ => none
  | n + 1, op, es, pos => match es with
    | [a] => trB T n a
    | a :: b :: r => do
      let x ← trB T n a
      let y ← trBoolB T n op (b :: r) pos
      some (match op with | .And => .and x y | .Or => .or x y)
    | [] => none
end
def isComp : Expr → Bool
  | .ListComp .. => true
  | .SetComp .. => true
  | .DictComp .. => true
  | _ => false
def trT (T : TEnv) (n : Nat) : Expr → Option Tx
  | .Name x _ => (tgtOf T x).map .name
  | .Subscript o i _ => match i with
    | .Slice .. => none
    | i => do some (.sub (← trE T n o) (← trE T n i))
  | .Attribute o f _ => match o with
    | .Call .. => none
    | o => do some (.fld (← trE T n o) f)
  | _ => none
/-- the parts of a target tuple -/
def trU (T : TEnv) (n : Nat) : Expr → Option Tx
  | .Name x _ => (tgtOf T x).map .name
  | .Subscript o i _ => match i with
    | .Slice .. => none
    | i => do some (.sub (← trE T n o) (← trE T n i))
  | .Attribute o f _ => match o with
    | .Call .. => none
    | o => do some (.fld (← trE T n o) f)
  | _ => none
def trTs (T : TEnv) (n : Nat) : List Expr → Option (List Tx)
  | [] => some []
  | e :: es => do some ((← trU T n e) :: (← trTs T n es))
/-- a class by its name, as one that is caught -/
def xsOf (T : TEnv) (x : Str) : Option (List (Nat × Bool)) := if (slotOf T x).isNone && gloB T.sc x then T.xs x else none
def isasOf (T : TEnv) (e : Str) : List Expr → Option (List (List (Nat × Bool)))
  | [] => some []
  | .Call (.Name f _) [.Name y _, .Name x _] [] _ :: es => if f = ("isinstance" : Str) ∧ y = e ∧ freeB T f = true then do some ((← xsOf T x) :: (← isasOf T e es)) else none
  | _ :: _ => none
/-- which class it is, of those that keep one field, that is asked for -/
def pexiOf (T : TEnv) (f : Str) : Expr → Option Nat
  | .Call _ [_, .Name x _] [] _ => match T.G x with
    | some (.pexi c _ g) => if g = f then some c else none
    | _ => none
  | _ => none
def hdOf (T : TEnv) : Option Str → List Stmt → Option Hd
  | none, [.Assign [.Name y _] (.Constant k _ _) _] => do some (.flag (← tgtOf T y) (← constOf k))
  | some e, [.Assign [.Name y _] (.Tuple es _ _) _] => do
    let i ← tgtOf T e
    let j ← tgtOf T y
    let ls ← isasOf T e es
    if i ≠ j ∧ slotOf T e = some i ∧ T.sc.names.lookup e = some .local ∧ ls.length ≤ 100 then some (.isas i j ls) else none
  | some e, [.Assign [.Name y _] (.BoolOp .Or (o :: os) _) _, .If (.BoolOp .Or [.Name y2 _, .UnaryOp .Not c1 _, .UnaryOp .Not c2 _] _) [.Return (some (.Constant (.bool false) _ _)) _] [] _,
      .Return (some (.BoolOp .And [.Compare (.Attribute (.Name e2 _) f _) [.Eq] [.Name n _] _, .UnaryOp .Not (.Call (.Name g _) [.Attribute (.Name e3 _) f2 _, .Name bt _] [] _) _] _)) _] => do
    let i ← tgtOf T e
    let j ← tgtOf T y
    let m ← slotOf T n
    let lo ← isasOf T e (o :: os)
    let lm ← isasOf T e [c1, c2]
    let c ← pexiOf T f c1
    if i ≠ j ∧ i ≠ m ∧ j ≠ m ∧ slotOf T e = some i ∧ slotOf T y = some j ∧ T.sc.names.lookup e = some .local ∧ y2 = y ∧ e2 = e ∧ e3 = e ∧ f2 = f ∧ g = ("isinstance" : Str) ∧ freeB T g = true ∧ bt = ("bool" : Str) ∧ freeB T bt = true then some (.tell c i j m lo lm f) else none
  | _, _ => none
/-- the statement that is tried -/
def oneOf (T : TEnv) (n : Nat) : Stmt → Option (Option Nat × Ex)
  | .Expr e _ => if isComp e then none else do some (none, ← trE T n e)
  | .Assign [.Name y _] e _ => if isComp e then none else do some (some (← tgtOf T y), ← trE T n e)
  | _ => none
mutual
def trS (T : TEnv) : Nat → Stmt → Option Sx
  | 0, _ => none
  | n + 1, st => match st with
    | .Pass _ => some .pass
    | .FunctionDef name params body [] none [] scope none bname pos => do
      let i ← tgtOf T name
      let p ← defOf T name params body scope pos
      if bname = name then some (.ndef i p.1 p.2) else none
    | .Break _ => some .brk
    | .Continue _ => some .cont
    | .Return none _ => some (.ret (.const .none))
    | .Return (some e) _ => do some (.ret (← trE T n e))
    | .Expr (.Constant (.str _) _ _) _ => some .pass
    | .Expr e _ => if isComp e then none else do some (.expr (← trE T n e))
    | .Assign [.Tuple ts _ _] e _ => match e with
      | .Tuple .. => none
      | e => do some (.unpack (← trTs T n ts) (← trE T n e))
    | .Assign [t] e _ => do some (.assign (← trT T n t) (← trE T n e))
    | .AugAssign (.Name x _) .Add e _ => do
      let i ← tgtOf T x
      let j ← slotOf T x
      let c ← trE T n e
      if i = j then some (.aug i c) else none
    | .If c a b _ => do some (.ite (← trB T n c) (← trSs T n a) (← trSs T n b))
    | .For tg it body [] pos => do
      let (k, its) ← trI T n tg it
      let (is, one) ← namesOf T tg
      some (.for (T.ann pos = 4) is one k its (← trSs T n body))
    | .While c body [] _ => do some (.while T.fuel (← trB T n c) (← trSs T n body))
    | .Raise (some (.Call (.Name x _) [.Constant (.str m) _ _] [] _)) none _ => if (slotOf T x).isNone && gloB T.sc x then match T.G x with
        | some (.pex c) => some (.raise c [.const (.str m)])
        | _ => none
      else none
    | .Raise (some (.Call (.Name x _) [e] [] _)) none _ => if (slotOf T x).isNone && gloB T.sc x then match T.G x with
        | some (.pexi c _ _) => do some (.raise c [← trE T n e])
        | _ => none
      else none
    | .Try [b] [.ExceptHandler (some (.Name x _)) nm suite _] [] [] _ => do
      let l ← xsOf T x
      let (i, e) ← oneOf T n b
      let h ← hdOf T nm suite
      some (.tr i e l h)
    | _ => none
def trSs (T : TEnv) : Nat → List Stmt → Option Sx
  | 0, _ => none
  | n + 1, st => match st with
    | [] => some .pass
    | [a] => some ((trS T n a).getD .stk)
    | a :: r => do some (.seq ((trS T n a).getD .stk) (← trSs T n r))
end
end Cc

set_option Elab.async false
set_option linter.all false
set_option maxRecDepth 100000
set_option maxHeartbeats 1000000
/-! Cd: dicts whose keys are nested tuples, tracked. -/
namespace Cd
open PySem PySem.Spec PyProof.Rows L2
/-- a key, where it stands, the value -/
abbrev Ent := NestedKey × Addr × V
def EvR (p : Ent) (q : NestedKey × Addr × Value) : Prop := p.1 = q.1 ∧ p.2.1 = q.2.1 ∧ RelV p.2.2 q.2.2
abbrev EV : List Ent → List (NestedKey × Addr × Value) → Prop := Paired EvR
def valN (xs : List Ent) (k : NestedKey) : Option (Addr × V) := (xs.find? fun x => decide (x.1 = k)).map (·.2)
def putN (xs : List Ent) (k : NestedKey) (b : Addr) (v : V) : List Ent := if (valN xs k).isSome then xs.map (fun x => if x.1 = k then (x.1, x.2.1, v) else x) else xs ++ [(k, b, v)]
def dropN (xs : List Ent) (k : NestedKey) : List Ent := xs.filter fun x => decide (x.1 ≠ k)
def RelP (p : Option (Addr × V)) (q : Option (Addr × Value)) : Prop := match p, q with
  | none, none => True
  | some p, some q => p.1 = q.1 ∧ RelV p.2 q.2
  | _, _ => False
theorem EV.val : ∀ {xs : List Ent} {ys : List (NestedKey × Addr × Value)} (k : NestedKey), EV xs ys → RelP (valN xs k) (atKey ys k)
  | _, _, k, .nil => trivial
  | x :: xs, y :: ys, k, .cons h t => by
    have ih := EV.val k t
    unfold valN atKey at *
    by_cases e : x.1 = k
    · have e2 : y.1 = k := h.1 ▸ e
      simp [List.find?_cons, e, e2]
      exact h.2
    · have e2 : ¬ y.1 = k := h.1 ▸ e
      simp only [List.find?_cons, e, e2, decide_false]
      exact ih
theorem RelP.isSome {p : Option (Addr × V)} {q : Option (Addr × Value)} (h : RelP p q) : p.isSome = q.isSome := by
  cases p <;> cases q <;> first | rfl | exact h.elim
theorem RelP.some_of {p : Addr × V} {q : Option (Addr × Value)} (h : RelP (some p) q) : ∃ y, q = some y ∧ RelV p.2 y.2 := by
  cases q with
  | none => exact h.elim
  | some q => exact ⟨q, rfl, h.2⟩
theorem EV.map_put {k : NestedKey} {v : V} {u : Value} (r : RelV v u) : ∀ {xs : List Ent} {ys : List (NestedKey × Addr × Value)}, EV xs ys → EV (xs.map fun x => if x.1 = k then (x.1, x.2.1, v) else x) (ys.map (putAt k u))
  | _, _, .nil => .nil
  | x :: xs, y :: ys, .cons h t => by
    rw [List.map_cons, List.map_cons]
    refine .cons ?_ (EV.map_put r t)
    unfold putAt
    by_cases e : x.1 = k
    · rw [if_pos e, if_pos (h.1 ▸ e)]
      exact ⟨h.1, h.2.1, r⟩
    · rw [if_neg e, if_neg (h.1 ▸ e)]
      exact h
theorem EV.snoc {p : Ent} {q : NestedKey × Addr × Value} (r : EvR p q) : ∀ {xs : List Ent} {ys : List (NestedKey × Addr × Value)}, EV xs ys → EV (xs ++ [p]) (ys ++ [q])
  | _, _, .nil => .cons r .nil
  | _, _, .cons h t => .cons h (EV.snoc r t)
theorem EV.put {xs : List Ent} {ys : List (NestedKey × Addr × Value)} {k : NestedKey} {b : Addr} {v : V} {u : Value} (h : EV xs ys) (r : RelV v u) : EV (putN xs k b v) (storedH ys k b u) := by
  unfold putN storedH
  rw [(EV.val k h).isSome]
  split
  · exact h.map_put r
  · exact h.snoc ⟨rfl, rfl, r⟩
theorem EV.drop {k : NestedKey} : ∀ {xs : List Ent} {ys : List (NestedKey × Addr × Value)}, EV xs ys → EV (dropN xs k) (withoutH ys k)
  | _, _, .nil => .nil
  | x :: xs, y :: ys, .cons h t => by
    have ih := EV.drop (k := k) t
    unfold dropN withoutH at *
    by_cases e : x.1 = k
    · have e2 : y.1 = k := h.1 ▸ e
      simpa [List.filter_cons, e, e2] using ih
    · have e2 : ¬ y.1 = k := h.1 ▸ e
      simp only [List.filter_cons, e, e2, ne_eq, not_false_eq_true, decide_true, if_true]
      exact .cons h ih
theorem length_putN (xs : List Ent) (k : NestedKey) (b : Addr) (v : V) : (putN xs k b v).length ≤ xs.length + 1 := by
  unfold putN
  split <;> simp
theorem length_dropN (xs : List Ent) (k : NestedKey) : (dropN xs k).length ≤ xs.length := List.length_filter_le _ _
theorem mem_putN {xs : List Ent} {k : NestedKey} {b : Addr} {v : V} {x : Ent} (h : x ∈ putN xs k b v) : (∃ y ∈ xs, x.1 = y.1 ∧ x.2.1 = y.2.1) ∨ x = (k, b, v) := by
  unfold putN at h
  split at h
  · obtain ⟨y, hy, rfl⟩ := List.mem_map.mp h
    refine .inl ⟨y, hy, ?_⟩
    split <;> exact ⟨rfl, rfl⟩
  · rcases List.mem_append.mp h with h | h
    · exact .inl ⟨x, h, rfl, rfl⟩
    · exact .inr (List.mem_singleton.mp h)
/-- the dict at d holds xs -/
def DnH (P : Program) (w : World) (d : Addr) (xs : List Ent) (h : Heap) : Prop :=
  xs.length ≤ sizeLine ∧ (d == sysModules) = false ∧ ∃ ys : List (NestedKey × Addr × Value), EV xs ys ∧ ∃ o es ep, h.get? d = some o ∧ o.ExactDict ∧ o.data = .dict es ep ∧ es.toList = ys.map (entryOfKey (nestedKind P w)) ∧ (ys.map (·.1)).Nodup
def dnO (P : Program) (w : World) (d : Addr) (xs : List Ent) : HO := .ext (DnH P w d xs)
section
variable {P : Program} {w : World} {H : Hp} {h : Heap} {d : Addr} {xs : List Ent}
theorem dnO_ok (x : DnH P w d xs h) : ObjOk P w H h d (dnO P w d xs) := by
  refine ⟨x, ?_, fun h1 h2 ⟨z, y, ys, r, o, es, ep, e1, e2⟩ k => ⟨z, y, ys, r, o, es, ep, k _ e1, e2⟩⟩
  obtain ⟨_, _, _, _, o, _, _, e, _⟩ := x
  exact ⟨o, e⟩
theorem dnO_at (hok : HOk P w H h) (e : Rd H d (dnO P w d xs)) : DnH P w d xs h := (show ObjOk P w H h d (dnO P w d xs) from e.ok hok).1
end
/-- the key k stands at b, in each heap that is held -/
def NK (X : Cx) (H : Hp) (b : Addr) (k : NestedKey) : Prop := k.depth ≤ 8 ∧ ∀ pins σ s, Inv X pins σ H s → NestedIs s.heap k (.ref b)
def KsN (X : Cx) (H : Hp) (xs : List Ent) : Prop := ∀ x ∈ xs, NK X H x.2.1 x.1
section
variable {X : Cx} {pins : List (Addr × Obj)} {σ : L2.St} {H : Hp} {s : Shared} {a b : Addr} {k : NestedKey} {xs : List Ent} {A : Around} {E : Value → Shared → Prop}
theorem NK.is (I : Inv X pins σ H s) (h : NK X H b k) : (nestedKind X.prog X.w).is s.heap k b := ⟨h.2 _ _ _ I, h.1⟩
theorem dn_of (I : Inv X pins σ H s) (e : Rd H a (dnO X.prog X.w a xs)) (ks : KsN X H xs) : xs.length ≤ sizeLine ∧ (a == sysModules) = false ∧ ∃ ys, EV xs ys ∧ s.heap.DictOfH (nestedKind X.prog X.w) a ys := by
  obtain ⟨z, y, ys, r, o, es, ep, e1, e2, e3, e4, e5⟩ := dnO_at I.hok e
  refine ⟨z, y, ys, r, o, es, ep, e1, e2, e3, e4, ?_, e5⟩
  clear e4 e5 z e
  induction r with
  | nil => intro x hx; exact nomatch hx
  | @cons p q ps qs hq t ih =>
    intro x hx
    rcases List.mem_cons.mp hx with e | hx
    · subst e
      have := NK.is (s := s) I (ks p List.mem_cons_self)
      rw [hq.1, hq.2.1] at this
      exact this
    · exact ih (fun y hy => ks y (List.mem_cons_of_mem _ hy)) x hx
/-- d[y], there -/
theorem n_getItem {p : Addr × V} {Q : Value → Shared → Prop} (hu : A.units + 9 < cLine) (I : Inv X pins σ H s) (e : Rd H a (dnO X.prog X.w a xs)) (ks : KsN X H xs) (hk : NK X H b k) (l : valN xs k = some p)
    (h : ∀ w' s', Inv X pins σ H s' → RelV p.2 w' → Q w' s') : wpAny (model X.prog X.w) A (getItem (.ref a) (.ref b)) Q E s := by
  obtain ⟨z, hd, ys, r, dd⟩ := dn_of I e ks
  have rv := EV.val k r
  rw [l] at rv
  obtain ⟨y, hy, ry⟩ := rv.some_of
  exact wpAny_getItem_heap (show A.units + 1 + 8 < cLine by omega) (hk.is I) dd hy (h _ _ (I.tok _) ry)
theorem n_in {Q : Value → Shared → Prop} (hu : A.units + 9 < cLine) (I : Inv X pins σ H s) (e : Rd H a (dnO X.prog X.w a xs)) (ks : KsN X H xs) (hk : NK X H b k)
    (h : ∀ s', Inv X pins σ H s' → Q (.bool (valN xs k).isSome) s') : wpAny (model X.prog X.w) A (compareOp .In (.ref b) (.ref a)) Q E s := by
  obtain ⟨z, hd, ys, r, dd⟩ := dn_of I e ks
  refine wpAny_in_heap (show A.units + 1 + 8 < cLine by omega) (hk.is I) hd dd ?_
  rw [← (EV.val k r).isSome]
  exact h _ (I.tok _)
theorem n_notIn {Q : Value → Shared → Prop} (hu : A.units + 9 < cLine) (I : Inv X pins σ H s) (e : Rd H a (dnO X.prog X.w a xs)) (ks : KsN X H xs) (hk : NK X H b k)
    (h : ∀ s', Inv X pins σ H s' → Q (.bool (!(valN xs k).isSome)) s') : wpAny (model X.prog X.w) A (compareOp .NotIn (.ref b) (.ref a)) Q E s := by
  obtain ⟨z, hd, ys, r, dd⟩ := dn_of I e ks
  refine wpAny_notIn_heap (show A.units + 1 + 8 < cLine by omega) (hk.is I) hd dd ?_
  rw [← (EV.val k r).isSome]
  exact h _ (I.tok _)
theorem dn_new {H' : Hp} {h' : Heap} {ys : List (NestedKey × Addr × Value)} (z : xs.length ≤ sizeLine) (hd : (a == sysModules) = false) (r : EV xs ys) (dd : h'.DictOfH (nestedKind X.prog X.w) a ys) : ObjOk X.prog X.w H' h' a (dnO X.prog X.w a xs) := by
  obtain ⟨o, es, ep, e1, e2, e3, e4, _, e5⟩ := dd
  exact dnO_ok ⟨z, hd, ys, r, o, es, ep, e1, e2, e3, e4, e5⟩
/-- d[y] = v -/
theorem n_setItem {v : V} {u : Value} {Q : Unit → Shared → Prop} (hu : A.units + 9 < cLine) (I : Inv X pins σ H s) (e : H a = some (dnO X.prog X.w a xs)) (ks : KsN X H xs) (hk : NK X H b k) (hl : xs.length < sizeLine) (rv : RelV v u)
    (h : ∀ s', Inv X pins σ (upd H a (dnO X.prog X.w a (putN xs k b v))) s' → Q () s') : wpAny (model X.prog X.w) A (setItem (.ref a) (.ref b) u) Q E s := by
  obtain ⟨z, hd, ys, r, dd⟩ := dn_of I (.inl e) ks
  have hz : ys.length ≤ sizeLine := by rw [← Paired.length r]; exact z
  refine wpAny_setItem_heap (hsz := hz) (show A.units + 1 + 8 < cLine by omega) (hk.is I) dd fun h' dd' hs => h _ ?_
  have he : ∃ q, h'.get? a = some q := let ⟨q, _, _, hq, _⟩ := dd'; ⟨q, hq⟩
  exact d_write (H := H) I (by rw [e]; exact True.intro) hs he (dn_new (by have := length_putN xs k b v; omega) hd (r.put rv) dd')
/-- d.pop(k), there -/
theorem n_pop {p : Addr × V} {Q : Value → Shared → Prop} (hu : A.units + 9 < cLine) (I : Inv X pins σ H s) (e : H a = some (dnO X.prog X.w a xs)) (ks : KsN X H xs) (hk : NK X H b k) (l : valN xs k = some p)
    (h : ∀ w' s', Inv X pins σ (upd H a (dnO X.prog X.w a (dropN xs k))) s' → RelV p.2 w' → Q w' s') : wpAny (model X.prog X.w) A (call (.builtin "dict.pop") [.ref a, .ref b]) Q E s := by
  obtain ⟨z, hd, ys, r, dd⟩ := dn_of I (.inl e) ks
  have hz : ys.length ≤ sizeLine := by rw [← Paired.length r]; exact z
  have rv := EV.val k r
  rw [l] at rv
  obtain ⟨y, hy, ry⟩ := rv.some_of
  refine call_pop_heap (hsz := hz) (more := []) (.inl rfl) (F.args_dict_pop_2 _ _) (show A.units + 1 + 8 < cLine by omega) (hk.is I) hd dd hy fun h' dd' hs => h _ _ ?_ ry
  have he : ∃ q, h'.get? a = some q := let ⟨q, _, _, hq, _⟩ := dd'; ⟨q, hq⟩
  exact d_write (H := H) I (by rw [e]; exact True.intro) hs he (dn_new (by have := length_dropN xs k; omega) hd r.drop dd')
/-- d.get(k) -/
theorem n_get {Q : Value → Shared → Prop} (hu : A.units + 9 < cLine) (I : Inv X pins σ H s) (e : Rd H a (dnO X.prog X.w a xs)) (ks : KsN X H xs) (hk : NK X H b k)
    (h : ∀ w' s', Inv X pins σ H s' → RelV (((valN xs k).map (·.2)).getD .non) w' → Q w' s') : wpAny (model X.prog X.w) A (call (.builtin "dict.get") [.ref a, .ref b]) Q E s := by
  obtain ⟨z, hd, ys, r, dd⟩ := dn_of I e ks
  refine call_meetsIn F.slot_dict_get dd.typeIs F.entry_dict_get (F.args_dict_get_2 _ _) (meetsH_dict_get (nestedKind X.prog X.w) a b hd) ⟨show A.units + 1 + 8 < cLine by omega, k, ys, hk.is I, dd, ?_⟩
  refine h _ _ (I.tok _) ?_
  have rv := EV.val k r
  cases p : valN xs k <;> cases q : atKey ys k <;> rw [p, q] at rv <;> first | exact rv.elim | skip
  · rfl
  · exact rv.2
/-- d.get(k, x) -/
theorem n_getOr {v : V} {u : Value} {Q : Value → Shared → Prop} (hu : A.units + 9 < cLine) (I : Inv X pins σ H s) (e : Rd H a (dnO X.prog X.w a xs)) (ks : KsN X H xs) (hk : NK X H b k) (rx : RelV v u)
    (h : ∀ w' s', Inv X pins σ H s' → RelV (((valN xs k).map (·.2)).getD v) w' → Q w' s') : wpAny (model X.prog X.w) A (call (.builtin "dict.get") [.ref a, .ref b, u]) Q E s := by
  obtain ⟨z, hd, ys, r, dd⟩ := dn_of I e ks
  refine call_meetsIn F.slot_dict_get dd.typeIs F.entry_dict_get (F.args_dict_get_3 _ _ _) (meetsH_dict_get_default (nestedKind X.prog X.w) a b hd u) ⟨show A.units + 1 + 8 < cLine by omega, k, ys, hk.is I, dd, ?_⟩
  refine h _ _ (I.tok _) ?_
  have rv := EV.val k r
  cases p : valN xs k <;> cases q : atKey ys k <;> rw [p, q] at rv <;> first | exact rv.elim | skip
  · exact rx
  · exact rv.2
end
/-! ### data as keys -/
mutual
def nkOf : PyData → NestedKey
  | .int i => .num i
  | .str x => .text x
  | .tuple xs => .tup (nkOfL xs)
  | _ => .none
def nkOfL : List PyData → List NestedKey
  | [] => []
  | x :: xs => nkOf x :: nkOfL xs
end
end Cd

set_option Elab.async false
set_option linter.all false
set_option maxRecDepth 100000
set_option maxHeartbeats 1000000
/-! Cd: dicts whose keys are nested tuples: d[k], d[k] = v, d.get, d.pop, {}. -/
namespace Cd
open PySem PySem.Spec PyProof.Rows L2
section
variable {X : Cx}
/-- d[k] -/
def rIxN (X : Cx) : R2 := fun x y H Q => ∃ a xs b k p, x = .ref a ∧ y = .ref b ∧ Rd H a (dnO X.prog X.w a xs) ∧ KsN X H xs ∧ NK X H b k ∧ valN xs k = some p ∧ Q p.2 H
theorem ix_dn (hu : X.A.units + 9 < cLine) : IxR X (rIxN X) := by
  intro value slice pins s σ H x y v u Q I rx ry h hs
  obtain ⟨a, xs, b, k, p, rfl, rfl, e, ks, hk, l, q⟩ := h
  obtain rfl : v = Value.ref a := rx
  obtain rfl : u = Value.ref b := ry
  obtain ⟨_, _, ys, _, dd⟩ := dn_of I e ks
  exact tail_any dd.typeIs PySem.F.slot_dict_getitem.lookup (n_getItem hu I e ks hk l fun w' s' I' r' => ⟨p.2, H, I', r', q⟩) hs
/-- d[k] = v -/
def rSetN (X : Cx) : V → V → V → Hp → (Hp → Prop) → Prop := fun o i v H Q => ∃ a xs b k, o = .ref a ∧ i = .ref b ∧ H a = some (dnO X.prog X.w a xs) ∧ KsN X H xs ∧ NK X H b k ∧ xs.length < sizeLine ∧ Q (upd H a (dnO X.prog X.w a (putN xs k b v)))
theorem set_dn (hu : X.A.units + 9 < cLine) : PSet X (rSetN X) := by
  intro pins s σ H o i v ov iv u Q I ro ri rv h
  obtain ⟨a, xs, b, k, rfl, rfl, e, ks, hk, hl, q⟩ := h
  obtain rfl : ov = Value.ref a := ro
  obtain rfl : iv = Value.ref b := ri
  exact n_setItem hu I e ks hk hl rv fun s' I' => ⟨_, I', q⟩
theorem PSet.or {t t' : TSet} (h : PSet X t) (h' : PSet X t') : PSet X (fun o i v H Q => t o i v H Q ∨ t' o i v H Q) := by
  intro pins s σ H o i v ov iv u Q I ro ri rv q
  rcases q with q | q
  · exact h pins s σ H o i v ov iv u Q I ro ri rv q
  · exact h' pins s σ H o i v ov iv u Q I ro ri rv q
/-- d.get(k), d.get(k, x) -/
def rGetN (X : Cx) : V → List V → Hp → VK → Prop := fun o vs H Q => ∃ a xs b k, o = .ref a ∧ Rd H a (dnO X.prog X.w a xs) ∧ KsN X H xs ∧ NK X H b k ∧
  ((vs = [.ref b] ∧ Q (((valN xs k).map (·.2)).getD .non) H) ∨ ∃ x, vs = [.ref b, x] ∧ Q (((valN xs k).map (·.2)).getD x) H)
theorem mt_getN (hu : X.A.units + 9 < cLine) : MtR X "dict.get" (rGetN X) := by
  intro pins s σ H o vs v us Q I ro rs h
  obtain ⟨a, xs, b, k, rfl, e, ks, hk, q⟩ := h
  obtain rfl : v = Value.ref a := ro
  rcases q with ⟨rfl, q⟩ | ⟨x, rfl, q⟩
  · cases rs with
    | cons r0 rs =>
      cases rs
      obtain rfl := (show _ = Value.ref b from r0)
      exact n_get hu I e ks hk fun w' s' I' r' => ⟨_, H, I', r', q⟩
  · cases rs with
    | cons r0 rs =>
      cases rs with
      | cons r1 rs =>
        cases rs
        obtain rfl := (show _ = Value.ref b from r0)
        exact n_getOr hu I e ks hk r1 fun w' s' I' r' => ⟨_, H, I', r', q⟩
/-- d.pop(k) -/
def rPopN (X : Cx) : V → List V → Hp → VK → Prop := fun o vs H Q => ∃ a xs b k p, o = .ref a ∧ H a = some (dnO X.prog X.w a xs) ∧ KsN X H xs ∧ NK X H b k ∧ vs = [.ref b] ∧ valN xs k = some p ∧ Q p.2 (upd H a (dnO X.prog X.w a (dropN xs k)))
theorem mt_popN (hu : X.A.units + 9 < cLine) : MtR X "dict.pop" (rPopN X) := by
  intro pins s σ H o vs v us Q I ro rs h
  obtain ⟨a, xs, b, k, p, rfl, e, ks, hk, rfl, l, q⟩ := h
  obtain rfl : v = Value.ref a := ro
  cases rs with
  | cons r0 rs =>
    cases rs
    obtain rfl := (show _ = Value.ref b from r0)
    exact n_pop hu I e ks hk l fun w' s' I' r' => ⟨_, _, I', r', q⟩
/-- the receiver is such a dict -/
def tDM (X : Cx) (r : V → List V → Hp → VK → Prop) (to : TE) (t : TA) : TE := fun σ H Q => to σ H fun x H1 => (∃ p xs, x = .ref p ∧ Rd H1 p (dnO X.prog X.w p xs)) ∧ t σ H1 fun xs H2 => r x xs H2 Q
variable {o e : Expr} {es : List Expr} {to : TE} {t : TA} {name : Str} {apos cpos : Pos} {id : String} {r : V → List V → Hp → VK → Prop}
theorem pe_dm (slot : Slot "dict" name id) (hty : typeOf (.builtin id) = pure (.type "method_descriptor")) (hm : MtR X id r) (ho : PE X o to) (ha : PA X (e :: es) t)
    (hbase : attributeBase o name X.env (eval o X.env) = eval o X.env := by rfl)
    (hfew : ((backTo cpos (starEach (e :: es) X.env)).all (fun x => !x.1) && (backToKw cpos (keywordEach [] X.env)).all (fun x => x.1.isSome)
      && decide ((e :: es).length + ([] : List Keyword).length + (if ([] : List Keyword).isEmpty then 0 else 1) < 30)) = true := by rfl)
    (hline : (apos.endLine == cpos.line) = true := by rfl) (hs : starEach (e :: es) X.env = (false, eval e X.env) :: starEach es X.env := by rfl) (hplain : (backTo cpos (starEach es X.env)).any (·.1) = false := by rfl) :
    PE X (.Call (.Attribute o name apos) (e :: es) [] cpos) (tDM X r to t) := by
  refine ⟨fun pins s σ H Q I h => ?_⟩
  refine wpAny_Call_method_late hbase hfew hline rfl (thn (ho.run pins s σ H _ I h) fun v s1 ⟨x, H1, I1, r1, ⟨p, xs, ex, e1⟩, q1⟩ => ?_)
  subst ex
  obtain rfl : v = Value.ref p := r1
  obtain ⟨_, _, _, _, ob, _, _, g1, g2, _⟩ := dnO_at I1.hok e1
  refine ⟨"dict", id, PySem.F.plainAttrs_dict, slot, hty, ⟨ob, g1, g2.1⟩, fun a q => by cases q; exact ⟨ob, g1, g2.2.1⟩, ?_⟩
  have hA := ha.run cpos pins s1 σ H1 _ I1 q1
  rw [hs] at hA ⊢
  refine Calls.callWith_builtin (by show (false || (backTo cpos (starEach es X.env)).any (·.1)) = false; rw [hplain] <;> rfl) (Calls.evalArgs_plain ?_)
  exact thn hA fun us s2 ⟨vs, H2, I2, r2, q2⟩ => hm pins s2 σ H2 (.ref p) vs (.ref p) us Q I2 rfl r2 q2
/-- {} -/
def tDNewN (X : Cx) : TE := fun _ H Q => ∀ p, H p = none → Q (.ref p) (upd H p (dnO X.prog X.w p []))
theorem dn_empty {P : Program} {w : World} {H : Hp} (h : Heap) (hb : sysModules < h.objs.size) : ObjOk P w H (h.push { cls := .type "dict", data := .dict #[] }) h.objs.size (dnO P w h.objs.size []) :=
  dnO_ok ⟨Nat.zero_le _, beq_eq_false_iff_ne.mpr (Ne.symm (Nat.ne_of_lt hb)), [], .nil, _, #[], 0, Heap.get?_push_size _ rfl, ⟨rfl, rfl, rfl⟩, rfl, rfl, List.nodup_nil⟩
theorem pe_dnewN {pos : Pos} : PE X (.Dict [] [] pos) (tDNewN X) := ⟨fun pins s σ H Q I h =>
  wpAny_Dict_empty ⟨.ref s.heap.objs.size, _, I.laid (a := s.heap.objs.size) (o := dnO X.prog X.w s.heap.objs.size []) (t' := s.toks) (fun _ _ q => Heap.get?_push_of_some _ q) (Nat.le_refl _) (dn_empty s.heap I.big), rfl, h _ (I.hok.fresh (Nat.le_refl _))⟩⟩
end
end Cd

set_option Elab.async false
set_option linter.all false
set_option maxRecDepth 100000
set_option maxHeartbeats 1000000
/-! Cd: new tuples known to their objects; dict(pairs). -/
namespace Cd
open PySem PySem.Spec PyProof.Rows L2
/-- a tuple without a dict of its own -/
def TX (H : Hp) (a : Addr) (vs : List V) : Prop := ∃ o : Obj, H a = some (.frz o (.tup vs)) ∧ o.dict = Option.none
theorem TX.rd {H : Hp} {a : Addr} {vs : List V} (h : TX H a vs) : Rd H a (.tup vs) := let ⟨o, e, _⟩ := h; .inr ⟨o, e⟩
def NewT (H : Hp) (vs : List V) (Q : VK) : Prop := ∀ (p : Addr) (o : Obj), H p = none → o.dict = Option.none → Q (.ref p) (upd H p (.frz o (.tup vs)))
section
variable {X : Cx} {pins : List (Addr × Obj)} {σ : L2.St} {H : Hp} {s : Shared} {vs : List V} {its : List Value} {Q : VK}
theorem laidT {t' : Nat} (I : Inv X pins σ H s) (r : Vals vs its) (hz : vs.length ≤ sizeLine) (q : NewT H vs Q) :
    EP X pins σ Q (.ref s.heap.objs.size) { s with heap := s.heap.push { cls := .type "tuple", data := .seq its.toArray }, toks := t' } := by
  have hp := I.hok.fresh (Nat.le_refl s.heap.objs.size)
  have ob : ∀ H' : Hp, ObjOk X.prog X.w H' (s.heap.push { cls := .type "tuple", data := .seq its.toArray }) s.heap.objs.size (.frz { cls := .type "tuple", data := .seq its.toArray } (.tup vs)) :=
    fun H' => ⟨Heap.get?_push_size _ rfl, hz, its, r, IsTup.new s.heap its.toArray⟩
  exact ⟨.ref _, upd H s.heap.objs.size (.frz { cls := .type "tuple", data := .seq its.toArray } (.tup vs)), I.laid (fun b o e => Heap.get?_push_of_some _ e) (Nat.le_refl _) (ob _), rfl, q _ _ hp rfl⟩
/-- a display -/
def tTupX (t : TA) : TE := fun σ H Q => t σ H fun vs H1 => vs.length ≤ sizeLine ∧ NewT H1 vs Q
theorem pe_tupX {es : List Expr} {t : TA} {k : Nat} {pos : Pos} (h : PA X es t) : PE X (.Tuple es k pos) (tTupX t) :=
  ⟨fun pins s σ H Q I hq => wpAny_Tuple_spliced (thn (h.run pos pins s σ H _ I hq) fun us s1 ⟨vs, H1, I1, r, z, q⟩ => ⟨by rw [← r.length]; exact z, laidT (t' := s1.toks) I1 r z q⟩)⟩
/-- t + u -/
def rCatX (K : PySem.W.Frag) : R2 := fun x y H Q => ∃ a b xs ys, x = .ref a ∧ y = .ref b ∧ SqT K H a xs ∧ SqT K H b ys ∧ xs.length + ys.length ≤ sizeLine ∧
  (xs = [] → Q (.ref b) H) ∧ (xs ≠ [] → ys = [] → Q (.ref a) H) ∧ (xs ≠ [] → ys ≠ [] → NewT H (xs ++ ys) Q)
theorem op_catX : OpR X (binaryOp .Add) (rCatX X.K) := by
  rintro pins s σ H x y v u Q I rx ry ⟨a, b, xs, ys, rfl, rfl, ha, hb, hz, q0, q1, q2⟩
  by_cases hx : xs = []
  · exact op_catA pins s σ H _ _ v u Q I rx ry ⟨a, b, xs, ys, rfl, rfl, ha, hb, hz, q0, q1, fun n => absurd hx n⟩
  by_cases hy : ys = []
  · exact op_catA pins s σ H _ _ v u Q I rx ry ⟨a, b, xs, ys, rfl, rfl, ha, hb, hz, q0, q1, fun _ n => absurd hy n⟩
  cases rx
  cases ry
  obtain ⟨i1, r1, p1, _⟩ := I.tuple ha
  obtain ⟨i2, r2, p2, _⟩ := I.tuple hb
  refine HT.cat_tup p1 p2 (fun z => hx (r1.nil_iff.mp z)) (fun z => absurd (r2.nil_iff.mp z) hy) (fun _ => ?_) (by have := r1.length; have := r2.length; omega)
  exact laidT (t' := s.toks) I (r1.append r2) (by rw [List.length_append]; exact hz) (q2 hx hy)
/-- t[lo:hi] -/
def rSlX (K : PySem.W.Frag) : V → Option Int → Option Int → Hp → VK → Prop := fun x lo hi H Q => ∃ a xs, x = .ref a ∧ SqT K H a xs ∧
  (HT.sIx xs.length 0 lo = 0 ∧ HT.sIx xs.length xs.length hi = xs.length → Q (.ref a) H) ∧ (¬ (HT.sIx xs.length 0 lo = 0 ∧ HT.sIx xs.length xs.length hi = xs.length) → NewT H (cutV xs lo hi) Q)
theorem sl_tupX : SlR X (rSlX X.K) := by
  intro pins s σ H x v vl vu lo hi sl Q I rx hs pl pu h
  obtain ⟨a, xs, rfl, hx, q1, q2⟩ := h
  by_cases hw : HT.sIx xs.length 0 lo = 0 ∧ HT.sIx xs.length xs.length hi = xs.length
  · exact sl_tupA pins s σ H _ v vl vu lo hi sl Q I rx hs pl pu ⟨a, xs, rfl, hx, q1, fun n => absurd hw n⟩
  · obtain rfl : v = Value.ref a := rx
    obtain ⟨is, r, ht, hz⟩ := I.tuple hx
    have hn : is.toArray.size = xs.length := by rw [List.size_toArray, r.length]
    refine ⟨"tuple", _, slot_tuple_getitem.lookup, ht.typeIs, HT.getItem_tuple_cut ht hs pl pu (by rw [hn]; exact hw) ?_ (by rw [hn]; exact hz)⟩
    rw [hn]
    exact laidT (t' := s.toks) I ((r.drop _).take _) (Nat.le_trans (cutV_length xs lo hi) hz) (q2 hw)
/-- tuple(list), tuple(t) -/
theorem call_tupleX : CallR X (.type "tuple") (fun xs H Q => ∃ p ys, xs = [.ref p] ∧ ((SqL X.K H p ys ∧ NewT H ys Q) ∨ (SqT X.K H p ys ∧ Q (.ref p) H))) := by
  intro pins s σ H xs us Q I r h
  obtain ⟨p, ys, rfl, h⟩ := h
  rcases h with ⟨hq, q⟩ | ⟨hq, q⟩
  · obtain ⟨u, rfl, rx⟩ := vals1 r
    cases rx
    obtain ⟨is, r1, pl, hz⟩ := I.list hq
    refine call_tuple_list pl.isList (fun h' kp => ?_) (by rw [List.size_toArray, ← r1.length]; exact hz)
    exact laidT (t' := s.toks) (I.kept (t' := s.toks) kp) r1 hz q
  · exact call_tuple_of pins s σ H _ us Q I r ⟨p, ys, rfl, .inr ⟨hq, q⟩⟩
/-- a.partition(b) -/
theorem mt_partitionX : MtR X "str.partition" (fun x xs H Q => ∃ a b, x = .str a ∧ xs = [.str b] ∧ (b.length == 0) = false ∧ a.length ≤ sizeLine ∧ NewT H [.str (Txt.partition a b).1, .str (Txt.partition a b).2.1, .str (Txt.partition a b).2.2] Q) := by
  rintro pins s σ H x xs v us Q I rx rs ⟨a, b, rfl, rfl, hb, hz, h⟩
  obtain ⟨t, rfl⟩ := rx
  obtain ⟨u, rfl, ru⟩ := vals1 rs
  obtain ⟨u, rfl⟩ := ru
  have three : ∀ (x y z : Str) (t u v : Tok) (k : Nat), NewT H [.str x, .str y, .str z] Q → EP X pins σ Q (.ref s.heap.objs.size) { s with toks := k, heap := s.heap.push { cls := .type "tuple", data := .seq [Value.str x t, .str y u, .str z v].toArray } } :=
    fun x y z t u v k q => laidT (t' := k) I (vs := [.str x, .str y, .str z]) (.cons ⟨t, rfl⟩ (.cons ⟨u, rfl⟩ (.cons ⟨v, rfl⟩ .nil))) (by show 3 ≤ sizeLine; decide) q
  refine call_meets F.slot_str_partition (typeIs_str _ _ _) F.entry_str_partition (F.args_str_partition_2 _ _) (meets_str_partition a b t u hb hz) ?_
  unfold Txt.partition at h
  generalize Builtin.Str.occurrences a b 0 a.length 1 = oc at h ⊢
  cases oc with
  | nil => exact three _ _ _ _ _ _ _ h
  | cons i r => exact three _ _ _ _ _ _ _ h
/-! ### dict(pairs) -/
def mergeN (xs : List Ent) (more : List Ent) : List Ent := more.foldl (fun acc e => putN acc e.1 e.2.1 e.2.2) xs
theorem EV.merge : ∀ {more : List Ent} {ms : List (NestedKey × Addr × Value)} {xs : List Ent} {ys : List (NestedKey × Addr × Value)}, EV more ms → EV xs ys → EV (mergeN xs more) (storedAllH ys ms)
  | _, _, _, _, .nil, h => h
  | e :: more, y :: ms, xs, ys, .cons h t, g => by
    have h1 : e.1 = y.1 := h.1
    have h2 : e.2.1 = y.2.1 := h.2.1
    show EV (mergeN (putN xs e.1 e.2.1 e.2.2) more) (storedAllH (storedH ys y.1 y.2.1 y.2.2) ms)
    rw [← h1, ← h2]
    exact EV.merge t (EV.put g h.2.2)
theorem length_mergeN : ∀ (more xs : List Ent), (mergeN xs more).length ≤ xs.length + more.length
  | [], xs => Nat.le_refl _
  | e :: more, xs => by
    have h1 := length_mergeN more (putN xs e.1 e.2.1 e.2.2)
    have h2 := length_putN xs e.1 e.2.1 e.2.2
    show (mergeN (putN xs e.1 e.2.1 e.2.2) more).length ≤ _
    rw [List.length_cons]
    omega
/-- the pairs of a row of addresses -/
def PrsAt (X : Cx) (H : Hp) : List Addr → List Ent → Prop := Paired fun p e => SqT X.K H p [.ref e.2.1, e.2.2]
theorem prs_at (I : Inv X pins σ H s) : ∀ {ps : List Addr} {es : List Ent}, PrsAt X H ps es → ∃ ys : List (NestedKey × Addr × Value), EV es ys ∧ ys.length = ps.length ∧ ∀ (j : Nat) (y : NestedKey × Addr × Value), ys[j]? = some y → ∃ b, ps[j]? = some b ∧ PairAt s.heap b (.ref y.2.1) y.2.2
  | _, _, .nil => ⟨[], .nil, rfl, fun j y e => by simp at e⟩
  | _, _, .cons (b := e) h t => by
    obtain ⟨ys, r, hl, hp⟩ := prs_at I t
    obtain ⟨is, rv, ⟨o, e1, e2, n, e3⟩, _⟩ := I.tuple h
    cases rv with
    | cons r1 rv => cases rv with
      | cons r2 rv =>
        cases rv
        obtain rfl := (show _ = Value.ref e.2.1 from r1)
        refine ⟨(e.1, e.2.1, _) :: ys, .cons ⟨rfl, rfl, r2⟩ r, by simp [hl], fun j y ej => ?_⟩
        cases j with
        | zero =>
          cases ej
          exact ⟨_, rfl, .inl ⟨o, e1, e2, n, e3⟩⟩
        | succ j => exact hp j y (by simpa using ej)
theorem keys_is (I : Inv X pins σ H s) : ∀ {es : List Ent} {ys : List (NestedKey × Addr × Value)}, EV es ys → KsN X H es → ∀ y ∈ ys, (nestedKind X.prog X.w).is s.heap y.1 y.2.1
  | _, _, .nil, _ => fun y hy => nomatch hy
  | e :: es, y :: ys, .cons h t, ks => fun z hz => by
    rcases List.mem_cons.mp hz with q | hz
    · subst q
      have := NK.is (s := s) I (ks e List.mem_cons_self)
      rw [h.1, h.2.1] at this
      exact this
    · exact keys_is I t (fun w hw => ks w (List.mem_cons_of_mem _ hw)) z hz
theorem refsV : ∀ {ps : List Addr} {us : List Value}, Vals (ps.map V.ref) us → us = ps.map Value.ref
  | [], _, .nil => rfl
  | p :: ps, _, .cons h t => by
    obtain rfl := (show _ = Value.ref p from h)
    rw [refsV t]
    rfl
def rDictN (X : Cx) (Fin : VK → Hp → List Ent → Prop) : List V → Hp → VK → Prop := fun xs H Q => ∃ (a : Addr) (ps : List Addr) (es : List Ent), xs = [.ref a] ∧ (SqL X.K H a (ps.map V.ref) ∨ TX H a (ps.map V.ref) ∨ ∃ (o : Obj) (its : Array Value) (n : Nat), X.K.lookup a = some o ∧ o.cls = .type "tuple" ∧ o.dict = Option.none ∧ o.data = .seq its n ∧ its.size ≤ sizeLine ∧ Vals (ps.map V.ref) its.toList) ∧ PrsAt X H ps es ∧ KsN X H es ∧ Fin Q H es
theorem call_dictG (hc : X.calm = true) (hu : X.A.units + 65 < cLine) {Fin : VK → Hp → List Ent → Prop}
    (hF : ∀ (pins : List (Addr × Obj)) (s : Shared) (σ : L2.St) (H : Hp) (Q : VK) (es : List Ent) (h' : Heap) (tk : Nat) (ys : List (NestedKey × Addr × Value)), Inv X pins σ H s → Fin Q H es → (s.heap.objs.size == sysModules) = false → (mergeN [] es).length ≤ sizeLine → EV es ys → h'.DictOfH (nestedKind X.prog X.w) s.heap.objs.size (storedAllH [] ys) → (∀ b o, s.heap.get? b = some o → h'.get? b = some o) → EP X pins σ Q (.ref s.heap.objs.size) { s with heap := h', toks := tk }) :
    CallR X (.type "dict") (rDictN X Fin) := by
  rintro pins s σ H xs us Q I r ⟨a, ps, es, rfl, hq, hp, ks, q⟩
  obtain ⟨u, rfl, rx⟩ := vals1 r
  obtain rfl : u = Value.ref a := rx
  obtain ⟨ys, rel, hl, hpr⟩ := prs_at I hp
  -- the row's object
  have row : ∃ (T : String) (o : Obj) (n : Nat), (T = "list" ∨ T = "tuple") ∧ s.heap.get? a = some o ∧ o.cls = .type T ∧ o.dict = Option.none ∧ o.data = .seq (ps.map Value.ref).toArray n ∧ ps.length ≤ sizeLine := by
    rcases hq with h | ⟨o, h, hd⟩ | ⟨o, its, n, hk, h1, h2, h3, h4, h5⟩
    · obtain ⟨is, rv, ⟨o, n, g1, g2, g3, g4⟩, hz⟩ := I.list h
      have := refsV rv
      subst this
      exact ⟨"list", o, n, .inl rfl, g1, g2, g3, g4, by simpa using hz⟩
    · obtain ⟨g1, g2⟩ := (show ObjOk X.prog X.w H s.heap a (.frz o (.tup (ps.map V.ref))) from I.hok a _ h)
      obtain ⟨hz, is, rv, o', g3, g4, n, g5⟩ := (show ObjOk X.prog X.w H s.heap a (.tup (ps.map V.ref)) from g2)
      rw [g1] at g3
      cases g3
      have := refsV rv
      subst this
      exact ⟨"tuple", o, n, .inr rfl, g1, g4, hd, g5, by simpa using hz⟩
    · have := refsV h5
      have e : its = (ps.map Value.ref).toArray := by rw [← this]
      subst e
      exact ⟨"tuple", o, n, .inr rfl, I.kIn a o hk, h1, h2, h3, by simpa using h4⟩
  obtain ⟨T, o, n, hT, g1, g2, g3, g4, hz⟩ := row
  have big : (s.heap.objs.size == sysModules) = false := beq_eq_false_iff_ne.mpr (Nat.ne_of_gt I.big)
  have hlen : (mergeN [] es).length ≤ sizeLine := by
    have h1 := length_mergeN es []
    have h2 : es.length = ys.length := Paired.length rel
    simp only [List.length_nil, Nat.zero_add] at h1
    omega
  have kis := keys_is I rel ks
  have fin : ∀ (h' : Heap) (tk : Nat), h'.DictOfH (nestedKind X.prog X.w) s.heap.objs.size (storedAllH [] ys) → (∀ b o, b ∉ ([] : List Addr) → s.heap.get? b = some o → h'.get? b = some o) → EP X pins σ Q (.ref s.heap.objs.size) { s with heap := h', toks := tk } := fun h' tk dd k =>
    hF pins s σ H Q es h' tk ys I q big hlen rel dd fun b o e => k b o (fun z => nomatch z) e
  have stay : KeysStay (nestedKind X.prog X.w) s.heap s.heap.objs.size [] ys := fun h' k y hy => nestedKind_stays.stays (fun b o vs n e _ => k b o (Nat.ne_of_lt (Heap.lt_size e)) (fun z => nomatch z) e) (kis y hy)
  have items : PairItems s.heap (ps.map Value.ref).toArray (fun j => ps.getD j 0) (ys.map fun y => (Value.ref y.2.1, y.2.2)) := by
    refine ⟨by simp [hl], fun j k v e => ?_⟩
    rw [List.getElem?_map] at e
    obtain ⟨y, hy, e⟩ := Option.map_eq_some_iff.mp e
    cases e
    obtain ⟨b, hb, pa⟩ := hpr j y hy
    have gd : ps.getD j 0 = b := by rw [List.getD_eq_getElem?_getD, hb]; rfl
    dsimp only
    rw [gd]
    exact ⟨by simp [hb], pa⟩
  have have_ : PairsHaveH (nestedKind X.prog X.w) (ys.map fun y => (Value.ref y.2.1, y.2.2)).length (PairRel (ys.map fun y => (Value.ref y.2.1, y.2.2))) ys := by
    refine ⟨by simp, fun j key v e => ?_⟩
    have e : (ys.map fun y => (Value.ref y.2.1, y.2.2))[j]? = some (key, v) := e
    rw [List.getElem?_map] at e
    obtain ⟨y, hy, e⟩ := Option.map_eq_some_iff.mp e
    cases e
    exact ⟨y.1, y.2.1, hy, rfl⟩
  have hsz : (ys.map fun y => (Value.ref y.2.1, y.2.2)).length ≤ sizeLine := by rw [List.length_map, hl]; exact hz
  have room : (nestedKind X.prog X.w).room X.A.in1.in1 := show X.A.units + 1 + 1 + 8 < cLine by omega
  rcases hT with rfl | rfl
  · exact call_dict_pairsH (PairArg.list a _ _ _) (I.ok.hd hc) room ⟨⟨o, n, g1, g2, g3, g4⟩, items⟩ have_ stay hsz fin
  · exact call_dict_pairsH (PairArg.tuple a _ _ _) (I.ok.hd hc) room ⟨⟨o, n, g1, g2, g3, g4⟩, items⟩ have_ stay hsz fin
/-- dict(pairs) -/
theorem call_dictN (hc : X.calm = true) (hu : X.A.units + 65 < cLine) : CallR X (.type "dict") (rDictN X fun Q H es => ∀ p, H p = none → Q (.ref p) (upd H p (dnO X.prog X.w p (mergeN [] es)))) :=
  call_dictG hc hu fun pins s σ H Q es h' tk ys I q big hlen rel dd k => ⟨.ref _, _, I.laid (t' := tk) k (Nat.le_refl _) (dn_new (X := X) hlen big (EV.merge rel .nil) dd), rfl, q _ (I.hok.fresh (Nat.le_refl _))⟩
/-- .. that is changed no more -/
theorem call_dictZ (hc : X.calm = true) (hu : X.A.units + 65 < cLine) : CallR X (.type "dict") (rDictN X fun Q H es => ∀ p o, H p = none → Q (.ref p) (upd H p (.frz o (dnO X.prog X.w p (mergeN [] es))))) :=
  call_dictG hc hu fun pins s σ H Q es h' tk ys I q big hlen rel dd k => by
    obtain ⟨o, _, _, g, _⟩ := id dd
    exact ⟨.ref _, _, I.laid (t' := tk) (o := .frz o (dnO X.prog X.w s.heap.objs.size (mergeN [] es))) k (Nat.le_refl _) ⟨g, dn_new (X := X) hlen big (EV.merge rel .nil) dd⟩, rfl, q _ o (I.hok.fresh (Nat.le_refl _))⟩
end
end Cd

set_option Elab.async false
set_option linter.all false
set_option maxRecDepth 100000
set_option maxHeartbeats 1000000
/-! Cd: sorted(d.items()) of a dict with nested keys. -/
namespace Cd
open PySem PySem.Spec PyProof.Rows L2
/-- the pairs of the entries, as data -/
def PairsD (K : PySem.W.Frag) (H : Hp) : List Ent → List PyData → Prop := Paired fun e d => ∃ k v, d = .tuple [k, v] ∧ Dp K H (.ref e.2.1) k ∧ Dp K H e.2.2 v
section
variable {X : Cx} {pins : List (Addr × Obj)} {σ : L2.St} {H : Hp} {s : Shared}
/-- d.items() -/
def rItemsN (X : Cx) : V → List V → Hp → VK → Prop := fun x xs H Q => ∃ (a : Addr) (es : List Ent), x = .ref a ∧ xs = [] ∧ Rd H a (dnO X.prog X.w a es) ∧ ∀ p, H p = none → Q (.ref p) (upd H p (DX.itemsO p a))
theorem mt_itemsN : MtR X "dict.items" (rItemsN X) := by
  rintro pins s σ H x xs v us Q I rx rs ⟨a, es, rfl, rfl, e, q⟩
  obtain rfl : v = Value.ref a := rx
  cases rs
  obtain ⟨_, hd, _, _, o, es', ep, h1, h2, h3, _⟩ := dnO_at I.hok e
  refine DT.callItems (es := es') (ep := ep) hd ⟨o, h1, h2, h3⟩ ⟨.ref _, _, I.laid (t' := s.toks) (o := DX.itemsO s.heap.objs.size a) (fun b u g => Heap.get?_push_of_some _ g) (Nat.le_refl _) (DX.itemsO_ok (Heap.get?_push_size _ rfl)), rfl, q _ (I.hok.fresh (Nat.le_refl _))⟩
/-- new tuples of two, known to their objects -/
theorem takeX {h' : Heap} {tk : Nat} (I0 : Inv X pins σ H s) : ∀ (L : List (Addr × V × V)) (H1 : Hp), Inv X pins σ H1 { s with heap := h', toks := tk } → (L.map (·.1)).Nodup →
    (∀ z ∈ L, s.heap.objs.size ≤ z.1 ∧ H1 z.1 = none ∧ ∃ u w, RelV z.2.1 u ∧ RelV z.2.2 w ∧ h'.get? z.1 = some { cls := .type "tuple", data := .seq #[u, w] }) →
    ∃ H2, Inv X pins σ H2 { s with heap := h', toks := tk } ∧ (∀ b o, H1 b = some o → H2 b = some o) ∧ (∀ b, H1 b = none → b ∉ L.map (·.1) → H2 b = none) ∧ ∀ z ∈ L, TX H2 z.1 [z.2.1, z.2.2]
  | [], H1, I1, _, _ => ⟨H1, I1, fun _ _ e => e, fun _ e _ => e, fun _ h => nomatch h⟩
  | z :: L, H1, I1, hn, h => by
    obtain ⟨hb, hnone, u, w, ru, rw', hg⟩ := h z List.mem_cons_self
    rw [List.map_cons, List.nodup_cons] at hn
    have new : ∀ H2, ObjOk X.prog X.w H2 h' z.1 (.frz { cls := .type "tuple", data := .seq #[u, w] } (.tup [z.2.1, z.2.2])) := fun H2 =>
      ⟨hg, by show 2 ≤ sizeLine; decide, [u, w], .cons ru (.cons rw' .nil), _, hg, rfl, 0, rfl⟩
    have I2 := I1.take (h' := h') (t' := tk) (fun b ob _ e => e) (I0.fpOk hb hnone) (new _)
    obtain ⟨H2, I3, g, gn, q⟩ := takeX I0 L _ I2 hn.2 fun c hc => by
      obtain ⟨c1, c2, c3⟩ := h c (List.mem_cons_of_mem _ hc)
      exact ⟨c1, by rw [upd_ne (fun e => hn.1 (by rw [← e]; exact List.mem_map_of_mem hc))]; exact c2, c3⟩
    refine ⟨H2, I3, fun b o e => g b o (by rw [upd_ne (ne_of_none e hnone)]; exact e), fun b e hm => gn b ?_ (fun m => hm (List.mem_cons_of_mem _ m)), fun c hc => ?_⟩
    · rw [upd_ne (fun e2 => hm (by rw [e2]; exact List.mem_cons_self))]; exact e
    · rcases List.mem_cons.mp hc with e | hc
      · subst e; exact ⟨_, g _ _ upd_same, rfl⟩
      · exact q c hc
/-- o.items() -/
theorem pe_itemsN {o : Expr} {to : TE} {apos cpos : Pos} (ho : PE X o to) (hbase : attributeBase o "items" X.env (eval o X.env) = eval o X.env := by rfl) (hline : (apos.endLine == cpos.line) = true := by rfl) :
    PE X (.Call (.Attribute o "items" apos) [] [] cpos) (fun σ H Q => to σ H fun x H1 => rItemsN X x [] H1 Q) := by
  refine ⟨fun pins s σ H Q I h => ?_⟩
  refine wpAny_Call_method0_late hbase hline (thn (ho.run pins s σ H _ I h) fun v s1 ⟨x, H1, I1, r1, q1⟩ => ?_)
  obtain ⟨p, es, rfl, e0, e1, q1⟩ := q1
  obtain rfl : v = Value.ref p := r1
  obtain ⟨_, _, _, _, ob, _, _, g1, g2, _⟩ := dnO_at I1.hok e1
  exact ⟨"dict", _, PySem.F.plainAttrs_dict, PySem.F.slot_dict_items, PySem.F.type_dict_items, ⟨ob, g1, g2.1⟩, fun a q => by cases q; exact ⟨ob, g1, g2.2.1⟩, Calls.callWith_builtin rfl (PySem.evalArgs_none (mt_itemsN pins s1 σ H1 (.ref p) [] (.ref p) [] Q I1 rfl .nil ⟨p, es, rfl, e0, e1, q1⟩))⟩
def rSortN (X : Cx) : List V → Hp → VK → Prop := fun vs H Q => ∃ (p a : Addr) (xs : List Ent) (ds : List PyData), vs = [.ref p] ∧ H p = some (DX.itemsO p a) ∧ Rd H a (dnO X.prog X.w a xs) ∧ KsN X H xs ∧ PairsD X.K H xs ds ∧
  PySem.W.AllAlike ds ∧ (∀ d ∈ ds, d.depth ≤ 40) ∧ ∀ (H1 : Hp) (l : Addr) (zs : List (Addr × Ent × PyData)), (∀ b o, H b = some o → H1 b = some o) → H1 l = none →
    zs.map (·.2.2) = ds.mergeSort (PySem.W.dataLe false id) → (∀ z ∈ zs, z.2 ∈ xs.zip ds ∧ H z.1 = none ∧ TX H1 z.1 [.ref z.2.1.2.1, z.2.1.2.2]) → Q (.ref l) (upd H1 l (.lst (zs.map fun z => .ref z.1)))
theorem pd_len : ∀ {xs : List Ent} {ds : List PyData}, PairsD X.K H xs ds → xs.length = ds.length
  | _, _, .nil => rfl
  | _, _, .cons _ t => by simp [pd_len t]
theorem pd_at : ∀ {xs : List Ent} {ds : List PyData} {j : Nat} {e : Ent} {d : PyData}, PairsD X.K H xs ds → xs[j]? = some e → ds[j]? = some d → ∃ k v, d = .tuple [k, v] ∧ Dp X.K H (.ref e.2.1) k ∧ Dp X.K H e.2.2 v
  | _, _, j, _, _, .cons h t, e1, e2 => by
    cases j with
    | zero => cases e1; cases e2; exact h
    | succ j => exact pd_at t (by simpa using e1) (by simpa using e2)
  | _, _, j, _, _, .nil, e1, _ => by simp at e1
theorem ev_at : ∀ {xs : List Ent} {ys : List (NestedKey × Addr × Value)} {j : Nat} {y : NestedKey × Addr × Value}, EV xs ys → ys[j]? = some y → ∃ e, xs[j]? = some e ∧ EvR e y
  | x :: xs, z :: ys, j, y, h, e1 => by
    cases h with
    | cons h t =>
      cases j with
      | zero => cases e1; exact ⟨_, rfl, h⟩
      | succ j =>
        obtain ⟨e, h1, h2⟩ := ev_at (j := j) t (by simpa using e1)
        exact ⟨e, by simpa using h1, h2⟩
  | [], [], j, _, _, e1 => by simp at e1
  | [], _ :: _, _, _, h, _ => nomatch h
  | _ :: _, [], _, _, h, _ => nomatch h
theorem each_of {α β : Type} {R : α → β → Prop} : ∀ {as : List α} {bs : List β}, as.length = bs.length → (∀ (j : Nat) (a : α) (b : β), as[j]? = some a → bs[j]? = some b → R a b) → PySem.W.EachIs R as bs
  | [], [], _, _ => .nil
  | a :: as, b :: bs, l, h => .cons (h 0 a b rfl rfl) (each_of (by simpa using l) fun j x y e1 e2 => h (j + 1) x y (by simpa using e1) (by simpa using e2))
  | [], _ :: _, l, _ => by simp at l
  | _ :: _, [], l, _ => by simp at l
theorem each_ref {bs : List (Addr × Ent × PyData)} : ∀ {out : List Value}, PySem.W.EachIs (fun v (b : Addr × Ent × PyData) => v = Value.ref b.1) out bs → out = bs.map fun z => Value.ref z.1 := by
  intro out h
  induction h with
  | nil => rfl
  | cons h _ ih => rw [h, ih]; rfl
theorem cr_sortN (hc : X.calm = true) (hu : X.A.units + 65 < cLine) : CallR X (.builtin "sorted") (rSortN X) := by
  rintro pins s σ H vs us Q I r ⟨p, a, xs, ds, rfl, hp, ha, ks, pd, al, dep, q⟩
  obtain ⟨u, rfl, ru⟩ := vals1 r
  obtain rfl : u = Value.ref p := ru
  have view : s.heap.IsItemsView p a := (show ObjOk X.prog X.w H s.heap p (DX.itemsO p a) from I.hok p _ hp).1
  obtain ⟨z, hd, ys, rel, o, es, ep, ho, hx, hdat, hes, his, hn⟩ := dn_of I ha ks
  have l1 : xs.length = ys.length := Paired.length rel
  have l2 : es.size = ys.length := size_of_entries hes
  have l3 := pd_len pd
  refine DT.sortedI (es := es) (ep := ep) (I.ok.hd hc) view ⟨o, ho, hx, hdat⟩ (by omega) fun h' tk as hk hlt hl hG => ?_
  have nd : as.Nodup := List.Pairwise.imp (fun h => Nat.ne_of_lt h) hG.rise
  -- each pair that was made
  have pr : ∀ (j : Nat) (b : Addr), as[j]? = some b → ∃ (e : Ent) (d : PyData) (y : NestedKey × Addr × Value), xs[j]? = some e ∧ ds[j]? = some d ∧ EvR e y ∧ h'.get? b = some { cls := .type "tuple", data := .seq #[Value.ref e.2.1, y.2.2] } := by
    intro j b hj
    obtain ⟨en, he, hg⟩ := hG.pairs j b hj
    rw [entry_at hes j] at he
    obtain ⟨y, hy, rfl⟩ := Option.map_eq_some_iff.mp he
    obtain ⟨e, ee, ev⟩ := ev_at rel hy
    have jl : j < ds.length := by
      have := (List.getElem?_eq_some_iff.mp ee).1
      omega
    refine ⟨e, ds[j], y, ee, List.getElem?_eq_getElem jl, ev, ?_⟩
    rw [hg, ev.2.1]
    rfl
  have ne0 : ∀ b o, h'.get? b = some o → b ≠ h'.objs.size := fun b o e => Nat.ne_of_lt (Heap.lt_size e)
  have hob : (h'.push { cls := .type "list", data := .seq (as.map Value.ref).toArray }).get? h'.objs.size = some (seqObj "list" (as.map Value.ref).toArray 0) := Heap.get?_push_size _ rfl
  have ka : ∀ b o, h'.get? b = some o → (h'.push { cls := .type "list", data := .seq (as.map Value.ref).toArray }).get? b = some o := fun b o e => Heap.get?_push_of_some _ e
  generalize h'.push { cls := .type "list", data := .seq (as.map Value.ref).toArray } = h2 at hob ka ⊢
  have kb : ∀ b o, s.heap.get? b = some o → h2.get? b = some o := fun b o e => ka b o (hk b o e)
  -- what is sorted
  obtain ⟨bs, hbs⟩ : ∃ bs, bs = as.zip (xs.zip ds) := ⟨_, rfl⟩
  have bl : bs.length = as.length := by rw [hbs, List.length_zip, List.length_zip]; omega
  have bd : bs.map (·.2.2) = ds := by
    rw [hbs]
    have e1 : (as.zip (xs.zip ds)).map (·.2) = xs.zip ds := List.map_snd_zip (by rw [List.length_zip]; omega)
    have e2 : (xs.zip ds).map (·.2) = ds := List.map_snd_zip (by omega)
    rw [show (fun z : Addr × Ent × PyData => z.2.2) = (fun z : Ent × PyData => z.2) ∘ (fun z : Addr × Ent × PyData => z.2) from rfl, ← List.map_map, e1, e2]
  have ba : bs.map (·.1) = as := by rw [hbs]; exact List.map_fst_zip (by rw [List.length_zip]; omega)
  have bat : ∀ (j : Nat) (b : Addr × Ent × PyData), bs[j]? = some b → as[j]? = some b.1 ∧ xs[j]? = some b.2.1 ∧ ds[j]? = some b.2.2 := fun j b e => by
    rw [hbs, List.getElem?_zip_eq_some, List.getElem?_zip_eq_some] at e
    exact ⟨e.1, e.2.1, e.2.2⟩
  have rd : ∀ (j : Nat) (b : Addr × Ent × PyData), bs[j]? = some b → ∃ w, Reads h2 (.ref b.1) b.2.2 w ∧ h'.objs.size ∉ w := fun j b e => by
    obtain ⟨a1, a2, a3⟩ := bat j b e
    obtain ⟨e', d', y, b2, b3, ev, hg⟩ := pr j _ a1
    rw [a2] at b2; cases b2
    rw [a3] at b3; cases b3
    obtain ⟨k, v, ed, dk, dv⟩ := pd_at pd a2 a3
    obtain ⟨w1, r1⟩ := Dp.reads I k _ (.ref b.2.1.2.1) dk rfl
    obtain ⟨w2, r2⟩ := Dp.reads I v _ y.2.2 dv ev.2.2
    refine ⟨w1 ++ (w2 ++ []), ?_, fun m => ?_⟩
    · rw [ed]
      exact .tuple (ka _ _ hg) rfl rfl (.cons (Reads.keeps kb r1) (.cons (Reads.keeps kb r2) .nil))
    · have low : ∀ c, (∃ o, s.heap.get? c = some o) → c ≠ h'.objs.size := fun c ⟨o, e⟩ => ne0 c o (hk c o e)
      rcases List.mem_append.mp m with m | m
      · exact low _ (PyProof.On.reads_mem_get r1 _ m) rfl
      · rw [List.append_nil] at m
        exact low _ (PyProof.On.reads_mem_get r2 _ m) rfl
  have enc : (fun b : Addr × Ent × PyData => b.2.2) = fun b => b.2.2 := rfl
  refine PySem.W.list_sort_data (s := { s with heap := h2, toks := tk }) (R := fun v (b : Addr × Ent × PyData) => v = Value.ref b.1) (bs := bs) (enc := fun b => b.2.2) (vs := as.map Value.ref) hob (each_of (by simp [bl]) fun j v b e1 e2 => ?_) (each_of (by simp [bl]) fun j v b e1 e2 => ?_) (by rw [bd]; exact al) (.inl fun d hd' => ?_) (by rw [bl]; omega) (fun b hb => ?_) fun out o1 o2 => ?_
  · obtain ⟨a1, _, _⟩ := bat j b e2
    rw [List.getElem?_map, a1] at e1
    cases e1
    rfl
  · obtain ⟨a1, _, _⟩ := bat j b e2
    rw [List.getElem?_map, a1] at e1
    cases e1
    exact rd j b e2
  · rw [bd] at hd'
    obtain ⟨j, hj⟩ := List.mem_iff_getElem?.mp hd'
    have jl : j < xs.length := by
      have := (List.getElem?_eq_some_iff.mp hj).1
      omega
    obtain ⟨k, v, e, _, _⟩ := pd_at pd (List.getElem?_eq_getElem jl) hj
    exact ⟨k, [v], e⟩
  · have hm : b.2.2 ∈ ds := by rw [← bd]; exact List.mem_map_of_mem (f := fun z : Addr × Ent × PyData => z.2.2) hb
    have := dep _ hm
    show X.A.units + 1 + 1 + b.2.2.depth < cLine
    omega
  · have eo := each_ref o2
    generalize hzs : bs.mergeSort (PySem.W.dataLe false fun b => b.2.2) = zs at eo
    have perm : zs.Perm bs := by rw [← hzs]; exact List.mergeSort_perm _ _
    have srt : zs.map (·.2.2) = ds.mergeSort (PySem.W.dataLe false id) := by
      rw [← hzs, ← bd]
      exact List.map_mergeSort (fun x _ y _ => rfl)
    have kF : ∀ b o, b ≠ h'.objs.size → h2.get? b = some o → (sortedHeap h2 h'.objs.size (as.map Value.ref) (List.toArray out)).get? b = some o := fun b o hb e => (PyProof.Rows.sortedHeap_old hb (Heap.lt_size e)).trans e
    have kS : ∀ b o, s.heap.get? b = some o → (sortedHeap h2 h'.objs.size (as.map Value.ref) (List.toArray out)).get? b = some o := fun b o e => kF b o (ne0 _ _ (hk b o e)) (kb b o e)
    obtain ⟨nF, heF⟩ := PyProof.Rows.sortedHeap_at (vs := as.map Value.ref) (out := List.toArray out) hob
    have I1 : Inv X pins σ H { s with heap := sortedHeap h2 h'.objs.size (as.map Value.ref) (List.toArray out), toks := tk } := I.kept (t' := tk) kS
    -- the pairs
    have pairs : ∀ z ∈ zs, ∃ (j : Nat) (y : NestedKey × Addr × Value), as[j]? = some z.1 ∧ xs[j]? = some z.2.1 ∧ ds[j]? = some z.2.2 ∧ EvR z.2.1 y ∧ h'.get? z.1 = some { cls := .type "tuple", data := .seq #[Value.ref z.2.1.2.1, y.2.2] } := fun z hz => by
      obtain ⟨j, hj⟩ := List.mem_iff_getElem?.mp (perm.mem_iff.mp hz)
      obtain ⟨a1, a2, a3⟩ := bat j z hj
      obtain ⟨e', d', y, b2, b3, ev, hg⟩ := pr j _ a1
      rw [a2] at b2; cases b2
      exact ⟨j, y, a1, a2, a3, ev, hg⟩
    have ndz : (zs.map (·.1)).Nodup := by
      have := (perm.map (·.1)).nodup_iff.mpr (by rw [ba]; exact nd)
      exact this
    have above : ∀ z ∈ zs, s.heap.objs.size < z.1 := fun z hz => by
      obtain ⟨j, _, a1, _⟩ := pairs z hz
      exact hG.above _ (List.mem_of_getElem? a1)
    obtain ⟨H2, I2, g, gn, tx⟩ := takeX (h' := sortedHeap h2 h'.objs.size (as.map Value.ref) (List.toArray out)) (tk := tk) I (zs.map fun z => (z.1, V.ref z.2.1.2.1, z.2.1.2.2)) H I1 (by rw [List.map_map]; exact ndz) fun z hz => by
      obtain ⟨w, hw, rfl⟩ := List.mem_map.mp hz
      obtain ⟨j, y, a1, a2, a3, ev, hg⟩ := pairs w hw
      exact ⟨Nat.le_of_lt (above w hw), I.hok.fresh (Nat.le_of_lt (above w hw)), .ref w.2.1.2.1, y.2.2, rfl, ev.2.2, kF _ _ (ne0 _ _ hg) (ka _ _ hg)⟩
    have hl0 : H2 h'.objs.size = none := gn _ (I.hok.fresh (Nat.le_of_lt hlt)) fun m => by
      rw [List.map_map] at m
      obtain ⟨w, hw, e⟩ := List.mem_map.mp m
      obtain ⟨j, y, a1, a2, a3, ev, hg⟩ := pairs w hw
      exact ne0 _ _ hg e
    have hlen : (zs.map fun z => V.ref z.1).length ≤ sizeLine := by
      rw [List.length_map, perm.length_eq, bl]
      omega
    have rv : Vals (zs.map fun z => V.ref z.1) (List.toArray out).toList := by
      rw [eo]
      clear eo o1 o2 tx rd pr pairs perm hzs
      generalize zs = q
      induction q with
      | nil => exact .nil
      | cons z q ih => exact .cons rfl ih
    have I3 : Inv X pins σ (upd H2 h'.objs.size (.lst (zs.map fun z => V.ref z.1))) { s with heap := sortedHeap h2 h'.objs.size (as.map Value.ref) (List.toArray out), toks := tk } :=
      I2.take (h' := sortedHeap h2 h'.objs.size (as.map Value.ref) (List.toArray out)) (t' := tk) (fun b ob _ e => e) (I.fpOk (Nat.le_of_lt hlt) hl0) ⟨hlen, (List.toArray out).toList, nF, rv, heF⟩
    refine ⟨.ref h'.objs.size, _, I3, rfl, q H2 h'.objs.size zs g hl0 srt fun z hz => ?_⟩
    obtain ⟨j, y, a1, a2, a3, ev, hg⟩ := pairs z hz
    refine ⟨List.mem_of_getElem? (List.getElem?_zip_eq_some.mpr ⟨a2, a3⟩), I.hok.fresh (Nat.le_of_lt (above z hz)), tx _ (List.mem_map_of_mem (f := fun z : Addr × Ent × PyData => (z.1, V.ref z.2.1.2.1, z.2.1.2.2)) hz)⟩
end
end Cd

set_option Elab.async false
set_option linter.all false
set_option maxRecDepth 100000
set_option maxHeartbeats 1000000
/-! Cd: frozen dicts with nested keys, walked. -/
namespace Cd
open PySem PySem.Spec PyProof.Rows L2
/-- the dict at d, known to the object -/
abbrev fzO (P : Program) (w : World) (d : Addr) (o : Obj) (xs : List Ent) : HO := .frz o (dnO P w d xs)
section
variable {P : Program} {w : World} {K : PySem.W.Frag} {tg : Expr} {d : Addr} {o : Obj} {es : Array DictEntry} {ep : Nat} {X : Cx} {pins : List (Addr × Obj)} {σ : L2.St} {H : Hp} {s : Shared} {xs : List Ent} {n : Nat}
/-- what is known of it -/
theorem fz_at (I : Inv X pins σ H s) (e : H d = some (fzO X.prog X.w d o xs)) : (d == sysModules) = false ∧ ∃ (es : Array DictEntry) (ep : Nat), o.data = .dict es ep ∧ s.heap.DictRaw d es ep ∧ es.size = xs.length ∧
    ∀ (i : Nat) (hi : i < es.size), ∃ x, xs[i]? = some x ∧ es[i].key = .ref x.2.1 ∧ RelV x.2.2 es[i].val := by
  obtain ⟨g, dn⟩ := (show ObjOk X.prog X.w H s.heap d (fzO X.prog X.w d o xs) from I.hok d _ e)
  obtain ⟨⟨z, y, ys, ev, o', es, ep, h1, h2, h3, h4, _⟩, _⟩ := (show ObjOk X.prog X.w H s.heap d (dnO X.prog X.w d xs) from dn)
  rw [g] at h1
  cases h1
  have l1 : es.size = ys.length := size_of_entries h4
  have l2 : xs.length = ys.length := Paired.length ev
  refine ⟨y, es, ep, h3, ⟨o, g, h2, h3⟩, by omega, fun i hi => ?_⟩
  have q := entry_at h4 i
  rw [Array.getElem?_eq_getElem hi] at q
  obtain ⟨v, hv, q⟩ := Option.map_eq_some_iff.mp q.symm
  obtain ⟨x, hx, ex⟩ := ev_at ev hv
  refine ⟨x, hx, ?_, ?_⟩
  · rw [← q, ex.2.1]; rfl
  · rw [← q]; exact ex.2.2
theorem ep_one {es es' : Array DictEntry} {ep ep' : Nat} (h : o.data = .dict es ep) (h' : o.data = .dict es' ep') : es' = es ∧ ep' = ep := by
  cases h.symm.trans h'; exact ⟨rfl, rfl⟩
/-- the keys -/
def ItkN (P : Program) (w : World) (d : Addr) (o : Obj) (n : Nat) : It where
  go i H := (∃ xs, H d = some (fzO P w d o xs) ∧ xs.length = n) ∧ i < n
  yld i H x H' := H' = H ∧ ∀ xs, H d = some (fzO P w d o xs) → ∃ e, xs[i]? = some e ∧ x = .ref e.2.1
  stop i H := (∃ xs, H d = some (fzO P w d o xs) ∧ xs.length = n) ∧ n ≤ i
/-- the pairs, each a new tuple -/
def ItiN (P : Program) (w : World) (d : Addr) (o : Obj) (n : Nat) : It where
  go i H := (∃ xs, H d = some (fzO P w d o xs) ∧ xs.length = n) ∧ i < n
  yld i H x H' := ∃ T q v, x = .ref T ∧ H T = none ∧ H' = upd H T (.tup [.ref q, v]) ∧ ∀ xs, H d = some (fzO P w d o xs) → ∃ e, xs[i]? = some e ∧ e.2.1 = q ∧ e.2.2 = v
  stop i H := (∃ xs, H d = some (fzO P w d o xs) ∧ xs.length = n) ∧ n ≤ i
theorem relV_one {x y : V} {u : Value} (h : RelV x u) (h' : RelV y u) : x = y := by
  have := h.abs.symm.trans h'.abs
  cases this; rfl
theorem turn_kN (it : Addr) (hod : o.data = .dict es ep) : Turn P w K tg (ItkN P w d o n) [it] it (fun i h => h.IsKeyIter it d i n ep) where
  mem := List.mem_singleton.mpr rfl
  obj i h st b hb := by
    cases List.mem_singleton.mp hb
    obtain ⟨q, e, _, dd⟩ := st
    exact ⟨q, e, fun v z => by rw [dd] at z; exact nomatch z⟩
  keep i h h' st k := st.at fun q e => k it (List.mem_singleton.mpr rfl) q e
  item X hP hw hK hc i pins s σ H E I hf st hg := by
    cases hP; cases hw; cases hK
    obtain ⟨⟨xs, e0, en⟩, hi⟩ := hg
    subst en
    obtain ⟨_, es', ep', hd', raw, sz, at_⟩ := fz_at I e0
    obtain ⟨rfl, rfl⟩ := ep_one hod hd'
    obtain ⟨f0, f1, f2, f3, f4, f5⟩ := hf it (List.mem_singleton.mpr rfl)
    rw [← sz] at st hi
    obtain ⟨x, hx, kx, _⟩ := at_ i hi
    refine wpAny_pyNext_keys_item_raw st raw hi fun h' st' sb => ⟨_, rfl, ?_⟩
    obtain ⟨q, e, c, dd⟩ := id st'
    refine go_of (s := { s with heap := h' }) e c dd (by decide) ⟨.ref x.2.1, H, I.turned (t' := s.toks) (fun b ob hb e => (sb.2 b hb).trans e) f0 f1 f3 f4 f5, kx, ⟨rfl, fun xs' h' => ?_⟩, ?_, fun b hb => (hf b hb).1⟩
    · obtain ⟨_, es2, ep2, hd2, _, _, at2⟩ := fz_at I h'
      obtain ⟨rfl, rfl⟩ := ep_one hod hd2
      obtain ⟨y, hy, ky, _⟩ := at2 i hi
      exact ⟨y, hy, by have := Value.ref.inj (kx.symm.trans ky); rw [this]⟩
    rw [← sz]
    exact st'
  done X hP hw hK hc i pins s σ H E I hf st hg := by
    cases hP; cases hw; cases hK
    obtain ⟨⟨xs, e0, en⟩, hi⟩ := hg
    subst en
    obtain ⟨_, es', ep', hd', raw, sz, _⟩ := fz_at I e0
    obtain ⟨rfl, rfl⟩ := ep_one hod hd'
    obtain ⟨f0, f1, f2, f3, f4, f5⟩ := hf it (List.mem_singleton.mpr rfl)
    rw [← sz] at st hi
    exact wpAny_pyNext_keys_end_raw (I.ok.hd hc) st raw hi fun h' eb => ⟨rfl, I.turned (t' := s.toks) (fun b ob hb e => eb b ob hb e) f0 f1 f3 f4 f5⟩
  self A i s Q E st h := by
    refine wpAny_pyIter_slot st.typeIs PySem.F.slot_dict_keyiterator_iter (wpAny_call_entry PySem.F.slot_dict_keyiterator_iter st.typeIs PySem.F.entry_dict_keyiterator_iter ?_ (PySem.F.args_dict_keyiterator_iter_1 _))
    exact wpAny_pure ⟨.ref it, rfl, "dict_keyiterator", _, st.typeIs, PySem.F.slot_dict_keyiterator_next.lookup, h⟩
theorem turn_iN {elts : List Expr} {kk : Nat} {tpos : Pos} (it : Addr) (hod : o.data = .dict es ep) : Turn P w K (.Tuple elts kk tpos) (ItiN P w d o n) [it] it (fun i h => ∃ ok ov, IsItemIter h it d i n ep ok ov) where
  mem := List.mem_singleton.mpr rfl
  obj i h st b hb := by
    cases List.mem_singleton.mp hb
    obtain ⟨_, _, e⟩ := st
    exact ⟨_, e, fun v z => nomatch z⟩
  keep i h h' st k := let ⟨ok, ov, e⟩ := st; ⟨ok, ov, k it (List.mem_singleton.mpr rfl) _ e⟩
  item X hP hw hK hc i pins s σ H E I hf st hg := by
    cases hP; cases hw; cases hK
    obtain ⟨⟨xs, e0, en⟩, hi⟩ := hg
    subst en
    obtain ⟨_, es', ep', hd', raw, sz, at_⟩ := fz_at I e0
    obtain ⟨rfl, rfl⟩ := ep_one hod hd'
    obtain ⟨ok, ov, he⟩ := st
    rw [← sz] at he hi
    obtain ⟨x, hx, kx, vx⟩ := at_ i hi
    have hlt : it < s.heap.objs.size := Heap.lt_size he
    refine wpAny_pyNext_items_item_raw he raw hi fun h' ho hT hz hk => ⟨_, rfl, wpAny_letOwnedTupleGo_items (s := { s with heap := h' }) ho fun h2 he' sb => ?_⟩
    have hT2 := (sb.2 s.heap.objs.size (Nat.ne_of_gt hlt)).trans hT
    rw [kx] at hT2
    have new : ∀ H2 : Hp, ObjOk X.prog X.w H2 h2 s.heap.objs.size (.tup [.ref x.2.1, x.2.2]) := fun H2 => ⟨by show 2 ≤ sizeLine; decide, [.ref x.2.1, es'[i].val], .cons rfl (.cons vx .nil), _, hT2, rfl, 0, rfl⟩
    have keep1 : ∀ b ob, b ∉ [it] → s.heap.get? b = some ob → h2.get? b = some ob := fun b ob hb e => (sb.2 b (fun z => hb (by rw [z]; exact List.mem_singleton.mpr rfl))).trans (hk b ob (fun z => hb (by rw [z]; exact List.mem_singleton.mpr rfl)) e)
    refine ⟨.ref s.heap.objs.size, _, I.turnedNew (t' := s.toks) (ch := [it]) keep1 hf (Nat.le_refl _) (new _), rfl, ⟨_, x.2.1, x.2.2, rfl, I.hok.fresh (Nat.le_refl _), rfl, fun xs' h' => ?_⟩, ⟨_, _, by rw [← sz]; exact he'⟩, fun b hb => ?_⟩
    · obtain ⟨_, es2, ep2, hd2, _, _, at2⟩ := fz_at I h'
      obtain ⟨rfl, rfl⟩ := ep_one hod hd2
      obtain ⟨y, hy, ky, vy⟩ := at2 i hi
      exact ⟨y, hy, (Value.ref.inj (kx.symm.trans ky)).symm, relV_one vy vx⟩
    cases List.mem_singleton.mp hb
    rw [upd_ne (Nat.ne_of_lt hlt)]
    exact (hf _ hb).1
  done X hP hw hK hc i pins s σ H E I hf st hg := by
    cases hP; cases hw; cases hK
    obtain ⟨⟨xs, e0, en⟩, hi⟩ := hg
    subst en
    obtain ⟨_, es', ep', hd', raw, sz, _⟩ := fz_at I e0
    obtain ⟨rfl, rfl⟩ := ep_one hod hd'
    obtain ⟨f0, f1, f2, f3, f4, f5⟩ := hf it (List.mem_singleton.mpr rfl)
    obtain ⟨ok, ov, he⟩ := st
    rw [← sz] at he hi
    exact wpAny_pyNext_items_end_raw (I.ok.hd hc) he raw hi fun h' eb => ⟨rfl, I.turned (t' := s.toks) (fun b ob hb e => eb b ob hb e) f0 f1 f3 f4 f5⟩
  self A i s Q E st h := let ⟨_, _, e⟩ := st; PySem.W.kcp_self e h
/-- for k in d -/
def iKN (X : Cx) (td : TE) : TI := fun σ H R => td σ H fun x H1 => ∃ d o xs, x = .ref d ∧ H1 d = some (fzO X.prog X.w d o xs) ∧ R (ItkN X.prog X.w d o xs.length) H1
theorem pi_kN {e : Expr} {td : TE} (he : PE X e td) : PI X tg e (iKN X td) := by
  refine ⟨fun pins s σ H R I h => thn (he.run pins s σ H _ I h) fun u s1 ⟨x, H1, I1, rx, d, o, xs, ex, hd, q⟩ => ?_⟩
  subst ex
  obtain rfl : u = Value.ref d := rx
  obtain ⟨hs, es, ep, h3, raw, sz, _⟩ := fz_at I1 hd
  refine wpAny_pyIter_dict_raw hs raw (pi_one (tk := s1.toks) I1 _ (turn_kN _ h3) ⟨_, Heap.get?_push_size _ rfl, rfl, ?_⟩ q)
  rw [sz] <;> rfl
/-- for k, v in d.items() -/
def iIN (X : Cx) (td : TE) : TI := fun σ H R => td σ H fun x H1 => ∃ d o xs, x = .ref d ∧ H1 d = some (fzO X.prog X.w d o xs) ∧ R (ItiN X.prog X.w d o xs.length) H1
theorem pi_iN {e : Expr} {td : TE} {elts : List Expr} {kk : Nat} {tpos apos cpos : Pos} (he : PE X e td) (hbase : attributeBase e "items" X.env (eval e X.env) = eval e X.env := by rfl) (hline : (apos.endLine == cpos.line) = true := by rfl) :
    PI X (.Tuple elts kk tpos) (.Call (.Attribute e "items" apos) [] [] cpos) (iIN X td) := by
  refine ⟨fun pins s σ H R I h => wpAny_Call_method0_late hbase hline (thn (he.run pins s σ H _ I h) fun u s1 ⟨x, H1, I1, rx, d, o, xs, ex, hd, q⟩ => ?_)⟩
  subst ex
  obtain rfl : u = Value.ref d := rx
  obtain ⟨hs, es, ep, h3, raw, sz, _⟩ := fz_at I1 hd
  obtain ⟨ob, g1, g2, g3⟩ := id raw
  refine ⟨"dict", _, PySem.F.plainAttrs_dict, PySem.F.slot_dict_items, PySem.F.type_dict_items, raw.typeIs, fun a q => by cases q; exact ⟨ob, g1, g2.2.1⟩, Calls.callWith_builtin rfl (PySem.evalArgs_none (DT.callItems (es := es) (ep := ep) hs ⟨ob, g1, g2, g3⟩ ?_))⟩
  have I2 : Inv X pins σ H1 { s1 with heap := s1.heap.push { cls := .type "dict_items", data := .fields #[.ref d] } } := I1.kept (t' := s1.toks) fun b ob q => Heap.get?_push_of_some _ q
  refine wpAny_pyIter_items_raw (d := d) (es := es) (ep := ep) ⟨_, Heap.get?_push_size _ rfl, rfl, rfl⟩ (raw.at fun o e => Heap.get?_push_of_some _ e) (pi_one (tk := s1.toks) I2 _ (turn_iN _ h3) ⟨.none, .none, ?_⟩ q)
  rw [← sz]
  exact Heap.get?_push_size _ rfl
end
end Cd

set_option Elab.async false
set_option linter.all false
set_option maxRecDepth 100000
set_option maxHeartbeats 1000000
/-! Cd: list(d), d a frozen dict with nested keys. -/
namespace Cd
open PySem PySem.Spec PyProof.Rows L2
theorem walks_raw {prog : Program} {w : World} {A : Around} (hh : A.handled = none) (I d : Addr) (hne : d ≠ I) (es : Array DictEntry) (ep : Nat) :
    Walks prog w A I [I, d] [I] es.size (fun i v => ∃ h : i < es.size, v = es[i].key) (fun i h => h.IsKeyIter I d i es.size ep ∧ h.DictRaw d es ep) where
  sub := fun b hb => by simp at hb; simp [hb]
  frame := fun _ _ _ st hk => ⟨st.1.at fun o e => hk I (by simp) o e, st.2.at fun o e => hk d (by simp) o e⟩
  item := fun i s Q E hi st hQ => by
    refine wpAny_pyNext_keys_item_raw st.1 st.2 hi fun h' st' sb => ?_
    exact hQ _ h' s.toks ⟨hi, rfl⟩ ⟨st', st.2.at fun o e => sb.2 d hne ▸ e⟩ fun b o hb e => (sb.2 b (fun h => hb (by simp [h]))).trans e
  done := fun s Q E st hQ => wpAny_pyNext_keys_end_raw hh st.1 st.2 (Nat.le_refl _) fun h' eb => hQ h' s.toks fun b o hb e => eb b o (fun h => hb (by simp [h])) e
  self := fun _ _ _ _ st hQ => wpAny_pyIter_keyiter st.1 hQ
theorem kdl_raw {prog : Program} {w : World} {d : Addr} {es : Array DictEntry} {ep : Nat} (lo : (d == sysModules) = false) : PySem.W.KdlSrc prog w "dict" d d es.size (fun i v => ∃ h : i < es.size, v = es[i].key) (fun h => h.DictRaw d es ep) where
  type := fun _ hm => hm.typeIs
  there := fun _ hm => let ⟨_, ho, _⟩ := hm; ⟨Heap.lt_size ho, Heap.lt_size ho⟩
  keep := fun _ _ hm hk => hm.at fun o e => hk d (.inl rfl) o e
  notList := by decide
  notTuple := by decide
  hint := fun _ _ _ _ hm hq => PySem.W.kdl_hint_dict hm.typeIs hq
  iter := fun _ s hh hm => ⟨_, _, (fun _ _ hq => wpAny_pyIter_dict_raw lo hm hq), walks_raw hh _ d (Nat.ne_of_lt (let ⟨_, ho, _⟩ := hm; Heap.lt_size ho)) es ep, ⟨⟨_, Heap.get?_push_size _ rfl, rfl, rfl⟩, hm.at fun o e => Heap.get?_push_of_some _ e⟩⟩
theorem vals_of : ∀ {vs : List V} {its : List Value}, its.length = vs.length → (∀ (j : Nat) (v : V) (u : Value), vs[j]? = some v → its[j]? = some u → RelV v u) → Vals vs its
  | [], [], _, _ => .nil
  | v :: vs, u :: us, l, h => .cons (h 0 v u rfl rfl) (vals_of (by simpa using l) fun j x y hx hy => h (j + 1) x y hx hy)
  | [], _ :: _, l, _ => by simp at l
  | _ :: _, [], l, _ => by simp at l
/-- list(d) -/
theorem call_listK {X : Cx} (hc : X.calm = true) : CallR X (.type "list") (fun xs H Q => ∃ d o zs, xs = [.ref d] ∧ H d = some (fzO X.prog X.w d o zs) ∧ zs.length ≤ sizeLine ∧ ∀ p, H p = none → Q (.ref p) (upd H p (.lst (zs.map fun e => .ref e.2.1)))) := by
  intro pins s σ H xs us Q I r h
  obtain ⟨d, o, zs, rfl, hd, hz, q⟩ := h
  obtain ⟨u, rfl, rx⟩ := vals1 r
  cases rx
  obtain ⟨lo, es, ep, _, raw, sz, at_⟩ := fz_at I hd
  refine PySem.W.kdl_call (kdl_raw lo) (I.ok.hd hc) raw (by rw [sz]; exact hz) fun h' tk acc' c' kp e it => ?_
  have rel : Vals (zs.map fun e => V.ref e.2.1) acc'.toList := by
    refine vals_of ?_ fun j v u hv hu => ?_
    · rw [Array.length_toList, it.1, List.length_map, sz]
    · rw [List.getElem?_map] at hv
      obtain ⟨z, hz', rfl⟩ := Option.map_eq_some_iff.mp hv
      obtain ⟨hj, eu⟩ := it.2 j u (by rw [← Array.getElem?_toList]; exact hu)
      obtain ⟨x, hx, kx, _⟩ := at_ j hj
      rw [hz'] at hx
      cases hx
      rw [eu, kx]
      exact rfl
  have e2 : h'.get? s.heap.objs.size = some { cls := .type "list", dict := none, data := .seq acc'.toList.toArray c', slots := #[] } := by rw [Array.toArray_toList]; exact e
  exact ⟨.ref s.heap.objs.size, _, I.laid (t' := tk) kp (Nat.le_refl _) (show ObjOk X.prog X.w _ h' _ (.lst _) from ⟨by rw [List.length_map]; exact hz, acc'.toList, c', rel, e2⟩), rfl, q _ (I.hok.fresh (Nat.le_refl _))⟩
end Cd

set_option Elab.async false
set_option linter.all false
set_option maxRecDepth 100000
set_option maxHeartbeats 1000000
/-! Cd: dict(pairs), texts or numbers as keys, the pairs in a list or a tuple. -/
namespace Cd
open PySem PySem.Spec PyProof.Rows L2
section
variable {X : Cx} {pins : List (Addr × Obj)} {σ : L2.St} {H : Hp} {s : Shared}
theorem prs_K (I : Inv X pins σ H s) : ∀ {ps : List Addr} {kvs : List (Key × V)}, Paired (fun p kv => SqT X.K H p [kV kv.1, kv.2]) ps kvs → ∃ (zs : List (Value × Value)) (rs : List (Key × Value)), KV kvs rs ∧ zs.length = ps.length ∧ rs.length = ps.length ∧
    (∀ (j : Nat) (z : Value × Value), zs[j]? = some z → ∃ b, ps[j]? = some b ∧ PairAt s.heap b z.1 z.2) ∧ ∀ (j : Nat) (z : Value × Value), zs[j]? = some z → ∃ k, rs[j]? = some (k, z.2) ∧ (mixKind X.prog X.w).is k z.1 = true
  | _, _, .nil => ⟨[], [], .nil, rfl, rfl, fun j y e => by simp at e, fun j y e => by simp at e⟩
  | _, _, .cons (b := kv) h t => by
    obtain ⟨zs, rs, r, l1, l2, h1, h2⟩ := prs_K I t
    obtain ⟨is, rv, ⟨o, e1, e2, n, e3⟩, _⟩ := I.tuple h
    cases rv with
    | cons r1 rv => cases rv with
      | @cons _ u2 _ _ r2 rv =>
        cases rv
        rename_i u1
        refine ⟨(u1, u2) :: zs, (kv.1, u2) :: rs, .cons ⟨rfl, r2⟩ r, by simp [l1], by simp [l2], fun j z ej => ?_, fun j z ej => ?_⟩
        · cases j with
          | zero => cases ej; exact ⟨_, rfl, .inl ⟨o, e1, e2, n, e3⟩⟩
          | succ j => exact h1 j z (by simpa using ej)
        · cases j with
          | zero => cases ej; exact ⟨kv.1, rfl, kV_is (P := X.prog) (w := X.w) r1⟩
          | succ j => exact h2 j z (by simpa using ej)
/-- dict(pairs) -/
theorem call_dictS (hc : X.calm = true) : CallR X (.type "dict") (fun xs H Q => ∃ (a : Addr) (ps : List Addr) (kvs : List (Key × V)), xs = [.ref a] ∧
    (SqL X.K H a (ps.map V.ref) ∨ TX H a (ps.map V.ref) ∨ ∃ (o : Obj) (its : Array Value) (n : Nat), X.K.lookup a = some o ∧ o.cls = .type "tuple" ∧ o.dict = Option.none ∧ o.data = .seq its n ∧ its.size ≤ sizeLine ∧ Vals (ps.map V.ref) its.toList) ∧
    Paired (fun p kv => SqT X.K H p [kV kv.1, kv.2]) ps kvs ∧ ∀ p, H p = none → Q (.ref p) (upd H p (.dK (mergeK [] kvs)))) := by
  rintro pins s σ H xs us Q I r ⟨a, ps, kvs, rfl, hq, hp, q⟩
  obtain ⟨u, rfl, rx⟩ := vals1 r
  obtain rfl : u = Value.ref a := rx
  obtain ⟨zs, rs, rel, l1, l2, hpr, hks⟩ := prs_K I hp
  have row : ∃ (T : String) (o : Obj) (n : Nat), (T = "list" ∨ T = "tuple") ∧ s.heap.get? a = some o ∧ o.cls = .type T ∧ o.dict = Option.none ∧ o.data = .seq (ps.map Value.ref).toArray n ∧ ps.length ≤ sizeLine := by
    rcases hq with h | ⟨o, h, hd⟩ | ⟨o, its, n, hk, h1, h2, h3, h4, h5⟩
    · obtain ⟨is, rv, ⟨o, n, g1, g2, g3, g4⟩, hz⟩ := I.list h
      have := refsV rv
      subst this
      exact ⟨"list", o, n, .inl rfl, g1, g2, g3, g4, by simpa using hz⟩
    · obtain ⟨g1, g2⟩ := (show ObjOk X.prog X.w H s.heap a (.frz o (.tup (ps.map V.ref))) from I.hok a _ h)
      obtain ⟨hz, is, rv, o', g3, g4, n, g5⟩ := (show ObjOk X.prog X.w H s.heap a (.tup (ps.map V.ref)) from g2)
      rw [g1] at g3
      cases g3
      have := refsV rv
      subst this
      exact ⟨"tuple", o, n, .inr rfl, g1, g4, hd, g5, by simpa using hz⟩
    · have := refsV h5
      have e : its = (ps.map Value.ref).toArray := by rw [← this]
      subst e
      exact ⟨"tuple", o, n, .inr rfl, I.kIn a o hk, h1, h2, h3, by simpa using h4⟩
  obtain ⟨T, o, n, hT, g1, g2, g3, g4, hz⟩ := row
  have items : PairItems s.heap (ps.map Value.ref).toArray (fun j => ps.getD j 0) zs := by
    refine ⟨by simp [l1], fun j k v e => ?_⟩
    obtain ⟨b, hb, pa⟩ := hpr j (k, v) e
    have gd : ps.getD j 0 = b := by rw [List.getD_eq_getElem?_getD, hb]; rfl
    dsimp only
    rw [gd]
    exact ⟨by simp [hb], pa⟩
  have have_ : PairsHave (mixKind X.prog X.w) zs.length (PairRel zs) rs := by
    refine ⟨by rw [l1, l2], fun j key v e => ?_⟩
    obtain ⟨k, e1, e2⟩ := hks j (key, v) e
    exact ⟨k, e1, e2⟩
  have fin : ∀ (h' : Heap) (tk : Nat), h'.DictOf (mixKind X.prog X.w) s.heap.objs.size (merged [] rs) → (∀ b o, b ∉ ([] : List Addr) → s.heap.get? b = some o → h'.get? b = some o) → EP X pins σ Q (.ref s.heap.objs.size) { s with heap := h', toks := tk } := fun h' tk hd' k => by
    have hm : (s.heap.objs.size == sysModules) = false := beq_eq_false_iff_ne.mpr (Nat.ne_of_gt I.big)
    have hlen : (mergeK [] kvs).length ≤ sizeLine := by
      refine Nat.le_trans (length_mergeK kvs []) ?_
      rw [List.length_nil, Nat.zero_add, rel.length, l2]
      exact hz
    exact ⟨.ref s.heap.objs.size, upd H s.heap.objs.size (.dK (mergeK [] kvs)), I.laid (t' := tk) (fun b o e => k b o (fun z => nomatch z) e) (Nat.le_refl _) (show ObjOk X.prog X.w _ _ _ (.dK (mergeK [] kvs)) from ⟨hlen, hm, merged [] rs, KV.merge rel .nil, hd'⟩), rfl, q _ (I.hok.fresh (Nat.le_refl _))⟩
  have hsz : zs.length ≤ sizeLine := by rw [l1]; exact hz
  rcases hT with rfl | rfl
  · exact PySem.call_dict_pairs (PairArg.list a _ _ _) (I.ok.hd hc) ⟨⟨o, n, g1, g2, g3, g4⟩, items⟩ have_ hsz fin
  · exact PySem.call_dict_pairs (PairArg.tuple a _ _ _) (I.ok.hd hc) ⟨⟨o, n, g1, g2, g3, g4⟩, items⟩ have_ hsz fin
end
end Cd

set_option linter.all false
set_option maxRecDepth 100000
set_option maxHeartbeats 1000000
/-! Cc: how data and cells lie in the abstract heap. -/
namespace Cc
open PySem PySem.Spec PyProof.Rows L2

/-- where the store's cells stand (a dead one nowhere) -/
abbrev Ph := List (Option Addr)
def Mu (φ : Ph) (ex : List Addr) (a : Addr) : Prop := some a ∈ φ ∨ a ∈ ex
/-- the written part's own -/
def KTu (K : PySem.W.Frag) (a : Addr) (xs : List V) : Prop := ∃ (o : Obj) (its : Array Value) (n : Nat), K.lookup a = some o ∧ o.cls = .type "tuple" ∧ o.dict = Option.none ∧ o.data = .seq its n ∧ its.size ≤ sizeLine ∧ Vals xs its.toList
theorem KTu.old {K : PySem.W.Frag} {a : Addr} {xs : List V} (h : KTu K a xs) : ∃ (o : Obj) (its : Array Value) (n : Nat), K.lookup a = some o ∧ o.cls = .type "tuple" ∧ o.data = .seq its n ∧ its.size ≤ sizeLine ∧ Vals xs its.toList := let ⟨o, its, n, h1, h2, _, h3⟩ := h; ⟨o, its, n, h1, h2, h3⟩
mutual
inductive Rp (K : PySem.W.Frag) (φ : Ph) (ex : List Addr) (H : Hp) : V → PyData → Prop
  | non : Rp K φ ex H .non .none
  | bl (b : Bool) : Rp K φ ex H (.bl b) (.bool b)
  | int (i : Int) : Rp K φ ex H (.int i) (.int i)
  | str (x : Str) : Rp K φ ex H (.str x) (.str x)
  | lst {a : Addr} {vs : List V} {ds : List PyData} : Rd H a (.lst vs) → ¬ Mu φ ex a → RpL K φ ex H vs ds → Rp K φ ex H (.ref a) (.list ds)
  | tup {a : Addr} {vs : List V} {ds : List PyData} : ((Cd.TX H a vs ∧ ¬ Mu φ ex a) ∨ KTu K a vs) → RpL K φ ex H vs ds → Rp K φ ex H (.ref a) (.tuple ds)
inductive RpL (K : PySem.W.Frag) (φ : Ph) (ex : List Addr) (H : Hp) : List V → List PyData → Prop
  | nil : RpL K φ ex H [] []
  | cons {v : V} {vs : List V} {d : PyData} {ds : List PyData} : Rp K φ ex H v d → RpL K φ ex H vs ds → RpL K φ ex H (v :: vs) (d :: ds)
end
/-- the running def: what stands fast under it, its cells, names, scope -/
structure Fm where
  base : Heap
  ec : List (Str × Addr)
  N : List Str
  sc : Scope
/-- the ground: the written part, the tables, where defs and classes stand -/
structure Gt where
  P : Program
  w : World
  K : PySem.W.Frag
  Φ : FT
  M : CTab
  CI : Nat → Option Nat
  FO : Nat → Str → Bool
  XI : Nat → List PyData → Option (List (Str × PyData))
  fa : Nat → Addr
  ca : Nat → Addr
  xa : Nat → Addr
  kn : List (Addr × HO)
  /-- the code tables; the defs within defs; the running def -/
  T : List NdefX.NTab
  cs : List (Addr × Addr)
  nd : Nat → Option Nd
  fm : Fm
/-- a frozen dict's entries -/
inductive DnZ (K : PySem.W.Frag) (φ : Ph) (ex : List Addr) (H : Hp) : List (PyData × PyData) → List Cd.Ent → Prop
  | nil : DnZ K φ ex H [] []
  | cons {k x : PyData} {b : Addr} {v : V} {kvs : List (PyData × PyData)} {xs : List Cd.Ent} : keyB k = true → Rp K φ ex H (.ref b) k → Rp K φ ex H v x → DnZ K φ ex H kvs xs → DnZ K φ ex H ((k, x) :: kvs) ((Cd.nkOf k, b, v) :: xs)
theorem DnZ.map {K : PySem.W.Frag} {φ φ' : Ph} {ex ex' : List Addr} {H H' : Hp} (f : ∀ (d : PyData) (v : V), Rp K φ ex H v d → Rp K φ' ex' H' v d) : ∀ {kvs : List (PyData × PyData)} {xs : List Cd.Ent}, DnZ K φ ex H kvs xs → DnZ K φ' ex' H' kvs xs
  | _, _, .nil => .nil
  | _, _, .cons h r q t => .cons h (f _ _ r) (f _ _ q) (DnZ.map f t)
theorem DnZ.at_ {K : PySem.W.Frag} {φ : Ph} {ex : List Addr} {H : Hp} : ∀ {kvs : List (PyData × PyData)} {xs : List Cd.Ent} {i : Nat} {e : Cd.Ent}, DnZ K φ ex H kvs xs → xs[i]? = some e → ∃ p, kvs[i]? = some p ∧ Rp K φ ex H (.ref e.2.1) p.1 ∧ Rp K φ ex H e.2.2 p.2
  | _, _, _, _, .nil, h => by simp at h
  | _, _, i, e, .cons h r q t, he => by
    cases i with
    | zero => cases he; exact ⟨_, rfl, r, q⟩
    | succ i =>
      obtain ⟨p, h1, h2⟩ := DnZ.at_ (i := i) t (by simpa using he)
      exact ⟨p, by simpa using h1, h2⟩
theorem DnZ.keys {K : PySem.W.Frag} {φ : Ph} {ex : List Addr} {H : Hp} : ∀ {kvs : List (PyData × PyData)} {xs : List Cd.Ent}, DnZ K φ ex H kvs xs → RpL K φ ex H (xs.map fun e => V.ref e.2.1) (kvs.map (·.1))
  | _, _, .nil => .nil
  | _, _, .cons h r q t => .cons r (DnZ.keys t)
theorem DnZ.len {K : PySem.W.Frag} {φ : Ph} {ex : List Addr} {H : Hp} : ∀ {kvs : List (PyData × PyData)} {xs : List Cd.Ent}, DnZ K φ ex H kvs xs → kvs.length = xs.length
  | _, _, .nil => rfl
  | _, _, .cons _ _ _ t => by simp [DnZ.len t]
mutual
inductive RpW (R : Gt) (φ : Ph) (ex : List Addr) (H : Hp) : V → W → Prop
  | d {v : V} {x : PyData} : Rp R.K φ ex H v x → RpW R φ ex H v (.d x)
  | ref {v : V} {n : Nat} : n < φ.length → (∀ a, φ[n]? = some (some a) → v = .ref a) → RpW R φ ex H v (.ref n)
  | pr {a : Addr} {v u : V} {x y : PyData} : Rd H a (.tup [v, u]) → ¬ Mu φ ex a → Rp R.K φ ex H v x → Rp R.K φ ex H u y → RpW R φ ex H (.ref a) (.pr x y)
  | fd {a : Addr} {o : Obj} {xs : List Cd.Ent} {kvs : List (PyData × PyData)} : H a = some (Cd.fzO R.P R.w a o xs) → ¬ Mu φ ex a → DnZ R.K φ ex H kvs xs → RpW R φ ex H (.ref a) (.fd kvs)
  | tup {a : Addr} {vs : List V} {ws : List W} : Cd.TX H a vs → ¬ Mu φ ex a → RpWL R φ ex H vs ws → RpW R φ ex H (.ref a) (.tup ws)
  | fn (i : Nat) : R.nd i = none → RpW R φ ex H (.ref (R.fa i)) (.fn i)
inductive RpWL (R : Gt) (φ : Ph) (ex : List Addr) (H : Hp) : List V → List W → Prop
  | nil : RpWL R φ ex H [] []
  | cons {v : V} {vs : List V} {w : W} {ws : List W} : RpW R φ ex H v w → RpWL R φ ex H vs ws → RpWL R φ ex H (v :: vs) (w :: ws)
end
/-- what grows: cells' own objects may change, all else stays -/
structure Ext (φ : Ph) (H : Hp) (φ' : Ph) (H' : Hp) : Prop where
  keep : ∀ a o, H a = some o → some a ∉ φ → (∀ ps, o ≠ .tbl ps) → H' a = some o
  any : ∀ a, H' a = none → H a = none
  new : ∀ a, some a ∈ φ' → some a ∈ φ ∨ H a = none
  len : φ.length ≤ φ'.length
  pre : ∀ (n : Nat) (a : Addr), n < φ.length → φ'[n]? = some (some a) → φ[n]? = some (some a)
theorem Ext.refl (φ : Ph) (H : Hp) : Ext φ H φ H := ⟨fun _ _ h _ _ => h, fun _ h => h, fun _ h => .inl h, Nat.le_refl _, fun _ _ _ h => h⟩
/-- tables apart, or told -/
theorem tb_or (o : HO) : (∃ ps, o = .tbl ps) ∨ ∀ ps, o ≠ .tbl ps := by
  cases o <;> first | exact .inl ⟨_, rfl⟩ | exact .inr fun ps z => by cases z
theorem Ext.trans {φ φ1 φ2 : Ph} {H H1 H2 : Hp} (a : Ext φ H φ1 H1) (b : Ext φ1 H1 φ2 H2) : Ext φ H φ2 H2 where
  keep := fun c o h n t => b.keep c o (a.keep c o h n t) (fun z => (a.new c z).elim n fun e => by rw [h] at e; cases e) t
  any := fun c h => a.any c (b.any c h)
  new := fun c z => (b.new c z).elim (a.new c) fun e => .inr (a.any c e)
  len := Nat.le_trans a.len b.len
  pre := fun n c h z => a.pre n c h (b.pre n c (Nat.lt_of_lt_of_le h a.len) z)
section
variable {K : PySem.W.Frag} {φ φ' : Ph} {ex : List Addr} {H H' : Hp}
theorem Ext.mu (E : Ext φ H φ' H') {a : Addr} {o : HO} (h : H a = some o) (n : ¬ Mu φ ex a) (t : ∀ ps, o ≠ .tbl ps := by intro ps z; exact HO.noConfusion z) : H' a = some o ∧ ¬ Mu φ' ex a := by
  refine ⟨E.keep a o h (fun z => n (.inl z)) t, fun z => ?_⟩
  rcases z with z | z
  · rcases E.new a z with z | z
    · exact n (.inl z)
    · rw [h] at z; cases z
  · exact n (.inr z)
theorem Ext.rd (E : Ext φ H φ' H') {a : Addr} {u : HO} (h : Rd H a u) (n : ¬ Mu φ ex a) (t : ∀ ps, u ≠ .tbl ps := by intro ps z; exact HO.noConfusion z) : Rd H' a u ∧ ¬ Mu φ' ex a := by
  rcases h with h | ⟨o, h⟩
  · exact ⟨.inl (E.mu h n t).1, (E.mu h n t).2⟩
  · exact ⟨.inr ⟨o, (E.mu h n).1⟩, (E.mu h n).2⟩
theorem Ext.tx (E : Ext φ H φ' H') {a : Addr} {vs : List V} (h : Cd.TX H a vs) (n : ¬ Mu φ ex a) : Cd.TX H' a vs ∧ ¬ Mu φ' ex a := by
  obtain ⟨o, h, d⟩ := h
  exact ⟨⟨o, (E.mu h n).1, d⟩, (E.mu h n).2⟩
mutual
theorem Rp.ext (E : Ext φ H φ' H') : ∀ (d : PyData) (v : V), Rp K φ ex H v d → Rp K φ' ex H' v d
  | .none, _, h => by cases h; exact .non
  | .bool b, _, h => by cases h; exact .bl _
  | .int b, _, h => by cases h; exact .int _
  | .str b, _, h => by cases h; exact .str _
  | .list ds, _, h => by
    cases h with
    | lst h n r => exact .lst (E.rd h n).1 (E.rd h n).2 (RpL.ext E ds _ r)
  | .tuple ds, _, h => by
    cases h with
    | tup h r =>
      refine .tup (h.elim (fun ⟨h, n⟩ => .inl ?_) .inr) (RpL.ext E ds _ r)
      exact E.tx h n
  | .dict _, _, h => by cases h
theorem RpL.ext (E : Ext φ H φ' H') : ∀ (ds : List PyData) (vs : List V), RpL K φ ex H vs ds → RpL K φ' ex H' vs ds
  | [], _, h => by cases h; exact .nil
  | d :: ds, _, h => by
    cases h with
    | cons r t => exact .cons (Rp.ext E d _ r) (RpL.ext E ds _ t)
end
mutual
theorem Rp.dp : ∀ (d : PyData) (v : V), Rp K φ ex H v d → Dp K H v d
  | .none, _, h => by cases h; exact .non
  | .bool b, _, h => by cases h; exact .bl _
  | .int b, _, h => by cases h; exact .int _
  | .str b, _, h => by cases h; exact .str _
  | .list ds, _, h => by
    cases h with
    | lst h n r => exact .lst (.inl h) (RpL.dp ds _ r)
  | .tuple ds, _, h => by
    cases h with
    | tup h r => exact .tup (h.elim (fun ⟨h, n⟩ => .inl h.rd) fun h => .inr h.old) (RpL.dp ds _ r)
  | .dict _, _, h => by cases h
theorem RpL.dp : ∀ (ds : List PyData) (vs : List V), RpL K φ ex H vs ds → DpAll K H vs ds
  | [], _, h => by cases h; exact .nil
  | d :: ds, _, h => by
    cases h with
    | cons r t => exact .cons (Rp.dp d _ r) (RpL.dp ds _ t)
end
theorem RpL.length : ∀ {ds : List PyData} {vs : List V}, RpL K φ ex H vs ds → vs.length = ds.length
  | [], _, h => by cases h; rfl
  | d :: ds, _, h => by
    cases h with
    | cons r t => simp [RpL.length t]
theorem RpL.get : ∀ {ds : List PyData} {vs : List V} {i : Nat} {d : PyData}, RpL K φ ex H vs ds → ds[i]? = some d → ∃ v, vs[i]? = some v ∧ Rp K φ ex H v d
  | [], _, _, _, h, e => by simp at e
  | x :: ds, _, i, d, h, e => by
    cases h with
    | cons r t =>
      cases i with
      | zero => simp at e; subst e; exact ⟨_, rfl, r⟩
      | succ i =>
        obtain ⟨v, h1, h2⟩ := RpL.get (i := i) t (by simpa using e)
        exact ⟨v, by simpa using h1, h2⟩
theorem RpL.append : ∀ {xs ys : List PyData} {vs us : List V}, RpL K φ ex H vs xs → RpL K φ ex H us ys → RpL K φ ex H (vs ++ us) (xs ++ ys)
  | [], _, _, _, h, h' => by cases h; exact h'
  | _ :: _, _, _, _, h, h' => by
    cases h with
    | cons r t => exact .cons r (RpL.append t h')
theorem RpL.take : ∀ {xs : List PyData} {vs : List V} (n : Nat), RpL K φ ex H vs xs → RpL K φ ex H (vs.take n) (xs.take n)
  | [], _, n, h => by cases h; simp; exact .nil
  | _ :: _, _, n, h => by
    cases h with
    | cons r t =>
      cases n with
      | zero => exact .nil
      | succ n => exact .cons r (RpL.take n t)
theorem RpL.drop : ∀ {xs : List PyData} {vs : List V} (n : Nat), RpL K φ ex H vs xs → RpL K φ ex H (vs.drop n) (xs.drop n)
  | [], _, n, h => by cases h; simp; exact .nil
  | _ :: _, _, n, h => by
    cases h with
    | cons r t =>
      cases n with
      | zero => exact .cons r t
      | succ n => exact RpL.drop n t
theorem RpL.set : ∀ {xs : List PyData} {vs : List V} (j : Nat) {d : PyData} {v : V}, RpL K φ ex H vs xs → Rp K φ ex H v d → RpL K φ ex H (vs.set j v) (xs.set j d)
  | [], _, j, _, _, h, r => by cases h; exact .nil
  | _ :: _, _, j, _, _, h, r' => by
    cases h with
    | cons r t =>
      cases j with
      | zero => exact .cons r' t
      | succ j => exact .cons r (RpL.set j t r')
theorem RpL.cutX {xs : List PyData} {vs : List V} (lo hi : Option Int) (h : RpL K φ ex H vs xs) : RpL K φ ex H (cutV vs lo hi) (cutX xs lo hi) := by
  unfold L2.cutV Cc.cutX
  rw [h.length]
  exact (h.drop _).take _
theorem atI_RpL {xs : List PyData} {vs : List V} {i : Int} {d : PyData} (h : RpL K φ ex H vs xs) (e : atI xs i = some d) : ∃ v, atI vs i = some v ∧ Rp K φ ex H v d := by
  unfold atI at e ⊢
  rw [h.length]
  cases k : ixN xs.length i with
  | none => rw [k] at e; cases e
  | some j =>
    rw [k] at e
    obtain ⟨v, h1, h2⟩ := h.get (i := j) (by simpa using e)
    exact ⟨v, by simpa using h1, h2⟩
end
section
variable {R : Gt} {φ φ' : Ph} {ex : List Addr} {H H' : Hp}
mutual
theorem RpW.ext (E : Ext φ H φ' H') : ∀ (w : W) (v : V), RpW R φ ex H v w → RpW R φ' ex H' v w
  | .d x, _, h => by cases h with | d h => exact .d (Rp.ext E x _ h)
  | .ref n, _, h => by
    cases h with
    | ref l h => exact .ref (Nat.lt_of_lt_of_le l E.len) fun a e => h a (E.pre n a l e)
  | .tup ws, _, h => by
    cases h with
    | tup h n r => exact .tup (E.tx h n).1 (E.tx h n).2 (RpWL.ext E ws _ r)
  | .fn i, _, h => by cases h with | fn _ z => exact .fn i z
  | .pr x y, _, h => by cases h with | pr h n r q => exact .pr (E.rd h n).1 (E.rd h n).2 (Rp.ext E x _ r) (Rp.ext E y _ q)
  | .fd kvs, _, h => by cases h with | fd h n r => exact .fd (E.mu h n).1 (E.mu h n).2 (r.map fun d v => Rp.ext E d v)
  | .clo _ _ _, _, h => by cases h
theorem RpWL.ext (E : Ext φ H φ' H') : ∀ (ws : List W) (vs : List V), RpWL R φ ex H vs ws → RpWL R φ' ex H' vs ws
  | [], _, h => by cases h; exact .nil
  | w :: ws, _, h => by
    cases h with
    | cons r t => exact .cons (RpW.ext E w _ r) (RpWL.ext E ws _ t)
end
theorem RpWL.length : ∀ {ds : List W} {vs : List V}, RpWL R φ ex H vs ds → vs.length = ds.length
  | [], _, h => by cases h; rfl
  | d :: ds, _, h => by
    cases h with
    | cons r t => simp [RpWL.length t]
theorem RpWL.get : ∀ {ds : List W} {vs : List V} {i : Nat} {d : W}, RpWL R φ ex H vs ds → ds[i]? = some d → ∃ v, vs[i]? = some v ∧ RpW R φ ex H v d
  | [], _, _, _, h, e => by simp at e
  | x :: ds, _, i, d, h, e => by
    cases h with
    | cons r t =>
      cases i with
      | zero => simp at e; subst e; exact ⟨_, rfl, r⟩
      | succ i =>
        obtain ⟨v, h1, h2⟩ := RpWL.get (i := i) t (by simpa using e)
        exact ⟨v, by simpa using h1, h2⟩
theorem RpWL.append : ∀ {xs ys : List W} {vs us : List V}, RpWL R φ ex H vs xs → RpWL R φ ex H us ys → RpWL R φ ex H (vs ++ us) (xs ++ ys)
  | [], _, _, _, h, h' => by cases h; exact h'
  | _ :: _, _, _, _, h, h' => by
    cases h with
    | cons r t => exact .cons r (RpWL.append t h')
theorem RpWL.set : ∀ {xs : List W} {vs : List V} (j : Nat) {d : W} {v : V}, RpWL R φ ex H vs xs → RpW R φ ex H v d → RpWL R φ ex H (vs.set j v) (xs.set j d)
  | [], _, j, _, _, h, r => by cases h; exact .nil
  | _ :: _, _, j, _, _, h, r' => by
    cases h with
    | cons r t =>
      cases j with
      | zero => exact .cons r' t
      | succ j => exact .cons r (RpWL.set j t r')
theorem RpWL.of : ∀ {xs : List PyData} {vs : List V}, RpL R.K φ ex H vs xs → RpWL R φ ex H vs (xs.map .d)
  | [], _, h => by cases h; exact .nil
  | _ :: _, _, h => by
    cases h with
    | cons r t => exact .cons (.d r) (RpWL.of t)
theorem RpWL.data : ∀ {xs : List PyData} {vs : List V}, RpWL R φ ex H vs (xs.map .d) → RpL R.K φ ex H vs xs
  | [], _, h => by cases h; exact .nil
  | _ :: _, _, h => by
    cases h with
    | cons r t => cases r with | d r => exact .cons r (RpWL.data t)
theorem atI_RpWL {xs : List W} {vs : List V} {i : Int} {d : W} (h : RpWL R φ ex H vs xs) (e : atI xs i = some d) : ∃ v, atI vs i = some v ∧ RpW R φ ex H v d := by
  unfold atI at e ⊢
  rw [h.length]
  cases k : ixN xs.length i with
  | none => rw [k] at e; cases e
  | some j =>
    rw [k] at e
    obtain ⟨v, h1, h2⟩ := h.get (i := j) (by simpa using e)
    exact ⟨v, by simpa using h1, h2⟩
/-- attributes -/
inductive FsR (R : Gt) (φ : Ph) (ex : List Addr) (H : Hp) : List (Str × V) → List (Str × W) → Prop
  | nil : FsR R φ ex H [] []
  | cons {f : Str} {v : V} {w : W} {vs : List (Str × V)} {ws : List (Str × W)} : RpW R φ ex H v w → FsR R φ ex H vs ws → FsR R φ ex H ((f, v) :: vs) ((f, w) :: ws)
theorem FsR.ext (E : Ext φ H φ' H') : ∀ {vs : List (Str × V)} {ws : List (Str × W)}, FsR R φ ex H vs ws → FsR R φ' ex H' vs ws
  | _, _, .nil => .nil
  | _, _, .cons r t => .cons (RpW.ext E _ _ r) (FsR.ext E t)
theorem FsR.length : ∀ {vs : List (Str × V)} {ws : List (Str × W)}, FsR R φ ex H vs ws → vs.length = ws.length
  | _, _, .nil => rfl
  | _, _, .cons r t => by simp [FsR.length t]
theorem FsR.look {f : Str} : ∀ {vs : List (Str × V)} {ws : List (Str × W)} {w : W}, FsR R φ ex H vs ws → ws.lookup f = some w → ∃ v, vs.lookup f = some v ∧ RpW R φ ex H v w
  | _, _, _, .nil, e => by simp at e
  | _, _, _, .cons (f := g) r t, e => by
    simp only [List.lookup_cons] at e ⊢
    cases h : f == g with
    | true => rw [h] at e; cases e; exact ⟨_, rfl, r⟩
    | false => rw [h] at e; exact FsR.look t e
theorem FsR.lookN {f : Str} : ∀ {vs : List (Str × V)} {ws : List (Str × W)}, FsR R φ ex H vs ws → ws.lookup f = none → vs.lookup f = none
  | _, _, .nil, e => rfl
  | _, _, .cons (f := g) r t, e => by
    simp only [List.lookup_cons] at e ⊢
    cases h : f == g with
    | true => rw [h] at e; cases e
    | false => rw [h] at e; exact FsR.lookN t e
theorem FsR.put {f : Str} {v : V} {w : W} (q : RpW R φ ex H v w) : ∀ {vs : List (Str × V)} {ws : List (Str × W)}, FsR R φ ex H vs ws → FsR R φ ex H (putF f v vs) (fput f w ws)
  | _, _, .nil => .cons q .nil
  | _, _, .cons (f := g) r t => by
    unfold putF fput
    by_cases h : g = f
    · rw [if_pos h, if_pos h]; exact .cons q t
    · rw [if_neg h, if_neg h]; exact .cons r (FsR.put q t)
/-- a dict's entries -/
inductive DnR (R : Gt) (φ : Ph) (ex : List Addr) (H : Hp) : List (PyData × W) → List Cd.Ent → Prop
  | nil : DnR R φ ex H [] []
  | cons {k : PyData} {w : W} {b : Addr} {v : V} {kvs : List (PyData × W)} {xs : List Cd.Ent} : keyB k = true → Rp R.K φ ex H (.ref b) k → RpW R φ ex H v w → DnR R φ ex H kvs xs → DnR R φ ex H ((k, w) :: kvs) ((Cd.nkOf k, b, v) :: xs)
theorem DnR.ext (E : Ext φ H φ' H') : ∀ {kvs : List (PyData × W)} {xs : List Cd.Ent}, DnR R φ ex H kvs xs → DnR R φ' ex H' kvs xs
  | _, _, .nil => .nil
  | _, _, .cons h r q t => .cons h (Rp.ext E _ _ r) (RpW.ext E _ _ q) (DnR.ext E t)
theorem DnR.length : ∀ {kvs : List (PyData × W)} {xs : List Cd.Ent}, DnR R φ ex H kvs xs → kvs.length = xs.length
  | _, _, .nil => rfl
  | _, _, .cons _ _ _ t => by simp [DnR.length t]
mutual
theorem keyN_self : ∀ (n : Nat) (x : PyData), keyN n x = true → dEq x x = true
  | _, .none, _ => by simp [dEq]
  | _, .int _, _ => by simp [dEq]
  | _, .str _, _ => by simp [dEq]
  | 0, .tuple _, h => by simp [keyN] at h
  | n + 1, .tuple xs, h => by
    simp only [keyN] at h
    simp only [dEq]
    exact keyN_selfL n xs h
  | 0, .bool _, h => by simp [keyN] at h
  | _ + 1, .bool _, h => by simp [keyN] at h
  | 0, .list _, h => by simp [keyN] at h
  | _ + 1, .list _, h => by simp [keyN] at h
  | 0, .dict _, h => by simp [keyN] at h
  | _ + 1, .dict _, h => by simp [keyN] at h
theorem keyN_selfL : ∀ (n : Nat) (xs : List PyData), xs.all (keyN n) = true → dEqL xs xs = true
  | _, [], _ => by simp [dEqL]
  | n, x :: xs, h => by
    simp only [List.all_cons, Bool.and_eq_true] at h
    simp only [dEqL, Bool.and_eq_true]
    exact ⟨keyN_self n x h.1, keyN_selfL n xs h.2⟩
end
mutual
theorem keyN_inj : ∀ (n m : Nat) (x y : PyData), keyN n x = true → keyN m y = true → Cd.nkOf x = Cd.nkOf y → x = y
  | n, m, x, y, h, h', e => by
    cases x <;> cases y <;> simp only [Cd.nkOf, NestedKey.num.injEq, NestedKey.text.injEq, NestedKey.tup.injEq, reduceCtorEq] at e <;> first | (subst e; rfl) | rfl | skip
    all_goals first | (cases n <;> simp [keyN] at h; done) | (cases m <;> simp [keyN] at h'; done) | skip
    rename_i xs ys
    cases n with
    | zero => simp [keyN] at h
    | succ n =>
      cases m with
      | zero => simp [keyN] at h'
      | succ m =>
        simp only [keyN] at h h'
        rw [keyN_injL n m xs ys h h' e]
theorem keyN_injL : ∀ (n m : Nat) (xs ys : List PyData), xs.all (keyN n) = true → ys.all (keyN m) = true → Cd.nkOfL xs = Cd.nkOfL ys → xs = ys
  | _, _, [], [], _, _, _ => rfl
  | _, _, [], _ :: _, _, _, e => by simp [Cd.nkOfL] at e
  | _, _, _ :: _, [], _, _, e => by simp [Cd.nkOfL] at e
  | n, m, x :: xs, y :: ys, h, h', e => by
    simp only [List.all_cons, Bool.and_eq_true] at h h'
    simp only [Cd.nkOfL, List.cons.injEq] at e
    rw [keyN_inj n m x y h.1 h'.1 e.1, keyN_injL n m xs ys h.2 h'.2 e.2]
end
mutual
theorem keyN_depth : ∀ (n : Nat) (x : PyData), keyN n x = true → (Cd.nkOf x).depth ≤ n
  | n, x, h => by
    cases x <;> simp only [Cd.nkOf, NestedKey.depth] <;> first | omega | skip
    rename_i xs
    cases n with
    | zero => simp [keyN] at h
    | succ n =>
      simp only [keyN] at h
      have := keyN_depthL n xs h
      omega
theorem keyN_depthL : ∀ (n : Nat) (xs : List PyData), xs.all (keyN n) = true → NestedKey.depthAll (Cd.nkOfL xs) ≤ n
  | _, [], _ => by simp [Cd.nkOfL, NestedKey.depthAll]
  | n, x :: xs, h => by
    simp only [List.all_cons, Bool.and_eq_true] at h
    simp only [Cd.nkOfL, NestedKey.depthAll]
    exact Nat.max_le.mpr ⟨keyN_depth n x h.1, keyN_depthL n xs h.2⟩
end
mutual
theorem keyN_reads {h : Heap} : ∀ (n : Nat) (x : PyData) (u : Value) (as : List Addr), keyN n x = true → PySem.Reads h u x as → NestedIs h (Cd.nkOf x) u
  | n, x, u, as, k, r => by
    cases r with
    | none => exact .none
    | bool b => cases n <;> simp [keyN] at k
    | int i t => exact .int _ _
    | str x t => exact .text _ _
    | list => cases n <;> simp [keyN] at k
    | tuple h1 h2 h3 h4 =>
      cases n with
      | zero => simp [keyN] at k
      | succ n =>
        simp only [keyN] at k
        exact .tup h1 h2 h3 (keyN_readsL n _ _ _ k h4)
    | dict => cases n <;> simp [keyN] at k
theorem keyN_readsL {h : Heap} : ∀ (n : Nat) (xs : List PyData) (us : List Value) (as : List Addr), xs.all (keyN n) = true → PySem.ReadsAll h us xs as → NestedAll h (Cd.nkOfL xs) us
  | n, xs, us, as, k, r => by
    cases r with
    | nil => exact .nil
    | cons h1 h2 =>
      simp only [List.all_cons, Bool.and_eq_true] at k
      exact .cons (keyN_reads n _ _ _ k.1 h1) (keyN_readsL n _ _ _ k.2 h2)
end
theorem keyB_N {x : PyData} (h : keyB x = true) : keyN 8 x = true := by
  cases x <;> simp only [keyB] at h <;> first | (cases h; done) | exact h
theorem keyB_self {x : PyData} (h : keyB x = true) : dEq x x = true := keyN_self 8 x (keyB_N h)
theorem keyB_iff {x y : PyData} (h : keyB x = true) : dEq x y = true ↔ x = y := ⟨dEq_eq x y, fun e => e ▸ keyB_self h⟩
theorem dnOf_some {s : Store} {w : W} {kvs : List (PyData × W)} (h : dnOf s w = some kvs) : (∃ n, w = .ref n ∧ s[n]? = some (.dn kvs)) ∨ ∃ zs, w = .fd zs ∧ kvs = fdW zs := by
  unfold dnOf at h
  split at h
  · cases h; exact .inr ⟨_, rfl, rfl⟩
  · split at h
    · rename_i e; cases h; exact .inl ⟨_, rfl, e⟩
    · cases h
  · cases h
theorem DnZ.dn : ∀ {zs : List (PyData × PyData)} {xs : List Cd.Ent}, DnZ R.K φ ex H zs xs → DnR R φ ex H (fdW zs) xs
  | _, _, .nil => .nil
  | _, _, .cons h r q t => .cons h r (.d q) (DnZ.dn t)
theorem unD_some : ∀ {kvs : List (PyData × W)} {zs : List (PyData × PyData)}, unD kvs = some zs → kvs = fdW zs
  | [], _, h => by cases h; rfl
  | (k, w) :: r, _, h => by
    cases w with
    | d v =>
      simp only [unD, Option.map_eq_some_iff] at h
      obtain ⟨zs, h, rfl⟩ := h
      rw [unD_some h]
      rfl
    | _ => simp [unD] at h
theorem DnR.zn : ∀ {zs : List (PyData × PyData)} {xs : List Cd.Ent}, DnR R φ ex H (fdW zs) xs → DnZ R.K φ ex H zs xs
  | [], [], _ => .nil
  | (k, v) :: zs, x :: xs, h => by
    cases h with
    | cons h r q t => cases q with | d q => exact .cons h r q (DnR.zn t)
  | [], _ :: _, h => nomatch h
  | _ :: _, [], h => nomatch h
theorem keyOf_some {w : W} {k : PyData} (h : keyOf w = some k) : w = .d k ∧ keyB k = true := by
  unfold keyOf at h
  split at h
  · split at h
    · rename_i e; cases h; exact ⟨rfl, e⟩
    · cases h
  · cases h
/-- look-up -/
theorem DnR.val {k : PyData} (hk : keyB k = true) : ∀ {kvs : List (PyData × W)} {xs : List Cd.Ent}, DnR R φ ex H kvs xs → (dAt kvs k = none ∧ Cd.valN xs (Cd.nkOf k) = none) ∨ ∃ w p, dAt kvs k = some w ∧ Cd.valN xs (Cd.nkOf k) = some p ∧ RpW R φ ex H p.2 w
  | _, _, .nil => .inl ⟨rfl, rfl⟩
  | _, _, .cons (k := k') (w := w) (b := b) (v := v) h r q t => by
    have ih := DnR.val hk t
    unfold dAt Cd.valN at *
    by_cases e : k' = k
    · subst e
      refine .inr ⟨w, (b, v), ?_, ?_, q⟩
      · simp [List.find?_cons, keyB_self hk]
      · simp [List.find?_cons]
    · have e1 : dEq k' k = false := Bool.eq_false_iff.mpr fun z => e (dEq_eq _ _ z)
      have e2 : ¬ Cd.nkOf k' = Cd.nkOf k := fun z => e (keyN_inj 8 8 _ _ (keyB_N h) (keyB_N hk) z)
      simp only [List.find?_cons, e1, e2, decide_false]
      exact ih
theorem DnR.map_put {k : PyData} {w : W} {v : V} (hk : keyB k = true) (rv : RpW R φ ex H v w) : ∀ {kvs : List (PyData × W)} {xs : List Cd.Ent}, DnR R φ ex H kvs xs → DnR R φ ex H (kvs.map fun p => if dEq p.1 k then (p.1, w) else p) (xs.map fun x => if x.1 = Cd.nkOf k then (x.1, x.2.1, v) else x)
  | _, _, .nil => .nil
  | _, _, .cons (k := k') h r q t => by
    rw [List.map_cons, List.map_cons]
    by_cases e : k' = k
    · subst e
      rw [if_pos (keyB_self hk), if_pos rfl]
      exact .cons h r rv (DnR.map_put hk rv t)
    · have e1 : ¬ dEq k' k = true := fun z => e (dEq_eq _ _ z)
      have e2 : ¬ Cd.nkOf k' = Cd.nkOf k := fun z => e (keyN_inj 8 8 _ _ (keyB_N h) (keyB_N hk) z)
      rw [if_neg e1, if_neg e2]
      exact .cons h r q (DnR.map_put hk rv t)
theorem DnR.snoc {k : PyData} {w : W} {b : Addr} {v : V} (hk : keyB k = true) (rk : Rp R.K φ ex H (.ref b) k) (rv : RpW R φ ex H v w) : ∀ {kvs : List (PyData × W)} {xs : List Cd.Ent}, DnR R φ ex H kvs xs → DnR R φ ex H (kvs ++ [(k, w)]) (xs ++ [(Cd.nkOf k, b, v)])
  | _, _, .nil => .cons hk rk rv .nil
  | _, _, .cons h r q t => .cons h r q (DnR.snoc hk rk rv t)
theorem DnR.put {k : PyData} {w : W} {b : Addr} {v : V} {kvs : List (PyData × W)} {xs : List Cd.Ent} (hk : keyB k = true) (rk : Rp R.K φ ex H (.ref b) k) (rv : RpW R φ ex H v w) (h : DnR R φ ex H kvs xs) : DnR R φ ex H (dPut kvs k w) (Cd.putN xs (Cd.nkOf k) b v) := by
  unfold dPut Cd.putN
  rcases h.val hk with ⟨e1, e2⟩ | ⟨u, p, e1, e2, _⟩
  · rw [e1, e2]
    exact h.snoc hk rk rv
  · rw [e1, e2]
    exact h.map_put hk rv
theorem DnR.drop {k : PyData} (hk : keyB k = true) : ∀ {kvs : List (PyData × W)} {xs : List Cd.Ent}, DnR R φ ex H kvs xs → DnR R φ ex H (dDrop kvs k) (Cd.dropN xs (Cd.nkOf k))
  | _, _, .nil => .nil
  | _, _, .cons (k := k') h r q t => by
    have ih := DnR.drop hk t
    unfold dDrop Cd.dropN at *
    by_cases e : k' = k
    · subst e
      simpa [List.filter_cons, keyB_self hk] using ih
    · have e1 : dEq k' k = false := Bool.eq_false_iff.mpr fun z => e (dEq_eq _ _ z)
      have e2 : ¬ Cd.nkOf k' = Cd.nkOf k := fun z => e (keyN_inj 8 8 _ _ (keyB_N h) (keyB_N hk) z)
      simp only [List.filter_cons, e1, e2, ne_eq, not_false_eq_true, decide_true, if_true, Bool.not_false]
      exact .cons h r q ih
theorem DnR.merge : ∀ {more : List (PyData × W)} {es : List Cd.Ent} {kvs : List (PyData × W)} {xs : List Cd.Ent}, DnR R φ ex H more es → DnR R φ ex H kvs xs → DnR R φ ex H (dMerge kvs more) (Cd.mergeN xs es)
  | [], [], _, _, _, h => h
  | (k, w) :: more, (nk, b, v) :: es, kvs, xs, r, g => by
    show DnR R φ ex H (dMerge (dPut kvs k w) more) (Cd.mergeN (Cd.putN xs nk b v) es)
    cases r with
    | cons h r q t => exact DnR.merge t (DnR.put h r q g)
  | [], _ :: _, _, _, r, _ => nomatch r
  | _ :: _, [], _, _, r, _ => nomatch r
theorem refKey {k : PyData} {x : V} (hk : keyB k = true) (r : Rp R.K φ ex H x k) : ∃ b, x = .ref b := by
  cases k <;> simp only [keyB] at hk <;> first | (cases hk; done) | skip
  cases r
  exact ⟨_, rfl⟩
/-- the pairs that stand in a row -/
theorem pairs_rel {X : Cx} (hK : X.K = R.K) : ∀ {ds : List PyData} {vs : List V} {kvs : List (PyData × W)}, RpL R.K φ ex H vs ds → pairsOf ds = some kvs → ∃ ps es, vs = ps.map V.ref ∧ Cd.PrsAt X H ps es ∧ DnR R φ ex H kvs es
  | [], _, _, r, h => by cases h; cases r; exact ⟨[], [], rfl, .nil, .nil⟩
  | d :: ds, _, _, r, h => by
    cases r with
    | cons r rs =>
      simp only [pairsOf] at h
      split at h
      · rename_i p kvs hp hk
        cases h
        obtain ⟨ps, es, rfl, pr, dr⟩ := pairs_rel hK rs hk
        unfold pairOf at hp
        split at hp
        · rename_i k v
          split at hp
          · rename_i kb
            cases hp
            cases r with
            | tup hr rl =>
              rename_i a us
              cases rl with
              | cons rk rl => cases rl with
                | cons rv rl =>
                  cases rl
                  obtain ⟨b, rfl⟩ := refKey kb rk
                  refine ⟨a :: ps, (Cd.nkOf k, b, _) :: es, rfl, .cons ?_ pr, .cons kb rk (.d rv) dr⟩
                  rw [hK]
                  exact hr.elim (fun q => .inl q.1.rd) fun q => .inr q.old
          · cases hp
        · cases hp
      · cases h
/-- the entries as pairs of data -/
theorem DnR.items : ∀ {kvs : List (PyData × W)} {es : List Cd.Ent} {ds : List PyData}, DnR R φ ex H kvs es → itemsD kvs = some ds → es.length = ds.length ∧ ∀ (j : Nat) (e : Cd.Ent) (d : PyData), es[j]? = some e → ds[j]? = some d → ∃ k v, d = .tuple [k, v] ∧ Rp R.K φ ex H (.ref e.2.1) k ∧ Rp R.K φ ex H e.2.2 v
  | _, _, _, .nil, h => by cases h; exact ⟨rfl, fun j e d h => by simp at h⟩
  | _, _, _, .cons (w := w) h r q t, hi => by
    cases w with
    | d v =>
      simp only [itemsD, Option.map_eq_some_iff] at hi
      obtain ⟨ds, hi, rfl⟩ := hi
      obtain ⟨l, k⟩ := DnR.items t hi
      refine ⟨by simp [l], fun j e d h1 h2 => ?_⟩
      cases j with
      | zero =>
        cases h1
        cases h2
        cases q with | d q => exact ⟨_, _, rfl, r, q⟩
      | succ j => exact k j e d (by simpa using h1) (by simpa using h2)
    | _ => simp [itemsD] at hi
theorem pairsD_of : ∀ {es : List Cd.Ent} {ds : List PyData}, es.length = ds.length → (∀ (j : Nat) (e : Cd.Ent) (d : PyData), es[j]? = some e → ds[j]? = some d → ∃ k v, d = .tuple [k, v] ∧ Rp R.K φ ex H (.ref e.2.1) k ∧ Rp R.K φ ex H e.2.2 v) → Cd.PairsD R.K H es ds
  | [], [], _, _ => .nil
  | e :: es, d :: ds, l, h => by
    obtain ⟨k, v, e1, r1, r2⟩ := h 0 e d rfl rfl
    exact .cons ⟨k, v, e1, r1.dp, r2.dp⟩ (pairsD_of (by simpa using l) fun j a b h1 h2 => h (j + 1) a b (by simpa using h1) (by simpa using h2))
  | [], _ :: _, l, _ => by simp at l
  | _ :: _, [], l, _ => by simp at l
theorem nk_of {X : Cx} {b : Addr} {k : PyData} (hK : X.K = R.K) (hk : keyB k = true) (r : Rp R.K φ ex H (.ref b) k) : Cd.NK X H b (Cd.nkOf k) :=
  ⟨keyN_depth 8 k (keyB_N hk), fun pins σ s I => by
    obtain ⟨as, h⟩ := Dp.reads I k (.ref b) (.ref b) (hK ▸ Rp.dp k _ r) rfl
    exact keyN_reads 8 k _ as (keyB_N hk) h⟩
theorem DnR.keys {X : Cx} (hK : X.K = R.K) : ∀ {kvs : List (PyData × W)} {xs : List Cd.Ent}, DnR R φ ex H kvs xs → Cd.KsN X H xs
  | _, _, .nil => fun x hx => nomatch hx
  | _, _, .cons h r q t => fun x hx => by
    rcases List.mem_cons.mp hx with e | hx
    · subst e; exact nk_of hK h r
    · exact DnR.keys hK t x hx
/-- a dict's entries, texts as keys -/
def kk (fv : List (Str × V)) : List (Key × V) := fv.map fun p => (Sum.inr p.1, p.2)
def putS (fv : List (Str × V)) (k : Str) (v : V) : List (Str × V) := if (fv.any fun p => decide (p.1 = k)) = true then fv.map (fun p => if p.1 = k then (p.1, v) else p) else fv ++ [(k, v)]
theorem kk_put (fv : List (Str × V)) (k : Str) (v : V) : putK (kk fv) (.inr k) v = kk (putS fv k v) := by
  unfold putK putS kk
  rw [List.any_map]
  have e : ((fun kv : Key × V => decide (kv.1 = Sum.inr k)) ∘ fun p : Str × V => ((Sum.inr p.1 : Key), p.2)) = fun p => decide (p.1 = k) := by
    funext p
    simp
  rw [e]
  split
  · rw [List.map_map, List.map_map]
    congr 1
    funext p
    simp only [Function.comp]
    by_cases h : p.1 = k
    · simp [h]
    · simp [h]
  · simp
theorem FsR.anyS {k : Str} : ∀ {vs : List (Str × V)} {ws : List (Str × W)}, FsR R φ ex H vs ws → (vs.any fun p => decide (p.1 = k)) = ws.any fun p => decide (p.1 = k)
  | _, _, .nil => rfl
  | _, _, .cons r t => by simp only [List.any_cons, FsR.anyS t]
theorem FsR.mapS {k : Str} {v : V} {w : W} (q : RpW R φ ex H v w) : ∀ {vs : List (Str × V)} {ws : List (Str × W)}, FsR R φ ex H vs ws → FsR R φ ex H (vs.map fun p => if p.1 = k then (p.1, v) else p) (ws.map fun p => if p.1 = k then (p.1, w) else p)
  | _, _, .nil => .nil
  | _, _, .cons (f := f) r t => by
    rw [List.map_cons, List.map_cons]
    by_cases h : f = k
    · simp only [h, if_true]; exact .cons q (FsR.mapS q t)
    · simp only [h, if_false]; exact .cons r (FsR.mapS q t)
theorem FsR.snoc {k : Str} {v : V} {w : W} (q : RpW R φ ex H v w) : ∀ {vs : List (Str × V)} {ws : List (Str × W)}, FsR R φ ex H vs ws → FsR R φ ex H (vs ++ [(k, v)]) (ws ++ [(k, w)])
  | _, _, .nil => .cons q .nil
  | _, _, .cons r t => .cons r (FsR.snoc q t)
theorem FsR.putS {k : Str} {v : V} {w : W} {vs : List (Str × V)} {ws : List (Str × W)} (q : RpW R φ ex H v w) (h : FsR R φ ex H vs ws) : FsR R φ ex H (Cc.putS vs k v) (dkPut ws k w) := by
  unfold Cc.putS dkPut
  rw [h.anyS]
  split
  · exact h.mapS q
  · exact h.snoc q
theorem FsR.atS {k : Str} : ∀ {vs : List (Str × V)} {ws : List (Str × W)} {w : W}, FsR R φ ex H vs ws → dkAt ws k = some w → ∃ v, valV (kk vs) (.inr k) = some v ∧ RpW R φ ex H v w
  | _, _, _, .nil, e => by cases e
  | _, _, w, .cons (f := f) (w := w') (ws := ws') r t, e => by
    unfold dkAt at e
    unfold valV kk
    rw [List.map_cons, List.find?_cons]
    rw [List.find?_cons] at e
    by_cases h : f = k
    · simp only [h, decide_true] at e ⊢
      cases e
      exact ⟨_, rfl, r⟩
    · have h' : ¬ (Sum.inr f : Key) = Sum.inr k := fun z => h (Sum.inr.inj z)
      simp only [h, h', decide_false] at e ⊢
      exact FsR.atS t e
theorem FsR.zip : ∀ {ks : List Str} {vs : List V} {ws : List W}, ks.length = ws.length → RpWL R φ ex H vs ws → FsR R φ ex H (ks.zip vs) (ks.zip ws)
  | [], _, [], _, .nil => .nil
  | k :: ks, _, _ :: _, l, .cons r t => .cons r (FsR.zip (by simpa using l) t)
  | [], _, _ :: _, l, _ => by simp at l
  | _ :: _, _, [], l, _ => by simp at l
theorem merge_new : ∀ (more acc : List (Str × V)), (acc ++ more).Pairwise (fun p q => p.1 ≠ q.1) → mergeK (kk acc) (kk more) = kk (acc ++ more)
  | [], acc, _ => by simp [mergeK, kk]
  | p :: more, acc, h => by
    show mergeK (putK (kk acc) (.inr p.1) p.2) (kk more) = _
    have e : Cc.putS acc p.1 p.2 = acc ++ [p] := by
      unfold Cc.putS
      rw [if_neg]
      intro z
      rw [List.any_eq_true] at z
      obtain ⟨q, hq, e⟩ := z
      rw [List.pairwise_append] at h
      exact h.2.2 q hq p List.mem_cons_self (by simpa using e)
    rw [kk_put, e, merge_new more (acc ++ [p]) (by simpa using h)]
    simp
theorem FsR.merge : ∀ {more : List (Str × V)} {ws : List (Str × W)} {acc : List (Str × V)} {as : List (Str × W)}, FsR R φ ex H more ws → FsR R φ ex H acc as → FsR R φ ex H (more.foldl (fun acc p => Cc.putS acc p.1 p.2) acc) (mrgS as ws)
  | _, _, _, _, .nil, h => h
  | _, _, _, _, .cons (f := f) (vs := vs) (ws := ws) r t, h => FsR.merge (more := vs) (ws := ws) t (FsR.putS (k := f) r h)
theorem kk_merge : ∀ (more acc : List (Str × V)), mergeK (kk acc) (kk more) = kk (more.foldl (fun acc p => Cc.putS acc p.1 p.2) acc)
  | [], acc => rfl
  | p :: more, acc => by
    show mergeK (putK (kk acc) (.inr p.1) p.2) (kk more) = _
    rw [kk_put, kk_merge more]
    rfl
theorem prs_relS {X : Cx} (hK : X.K = R.K) : ∀ {ds : List PyData} {vs : List V} {ps : List (Str × PyData)}, RpL R.K φ ex H vs ds → prsS ds = some ps → ∃ as fv, vs = as.map V.ref ∧ Paired (fun p kv => SqT X.K H p [kV kv.1, kv.2]) as (kk fv) ∧ FsR R φ ex H fv (ps.map fun p => (p.1, W.d p.2))
  | [], _, _, r, h => by cases h; cases r; exact ⟨[], [], rfl, .nil, .nil⟩
  | d :: ds, _, _, r, h => by
    cases r with
    | cons r rs =>
      unfold prsS at h
      split at h <;> first | (cases h; done) | skip
      · rename_i heq
        cases heq
      · rename_i k v r' heq
        cases heq
        obtain ⟨ps', hp, rfl⟩ := Option.map_eq_some_iff.mp h
        obtain ⟨as, fv, rfl, pr, fr⟩ := prs_relS hK rs hp
        cases r with
        | tup hr rl =>
          rename_i a us
          cases rl with
          | cons rk rl => cases rl with
            | cons rv rl =>
              cases rl
              cases rk
              refine ⟨a :: as, (k, _) :: fv, rfl, .cons ?_ pr, .cons (.d rv) fr⟩
              rw [hK]
              exact hr.elim (fun q => .inl q.1.rd) fun q => .inr q.old
/-- a cell's object -/
def CellR (R : Gt) (φ : Ph) (ex : List Addr) (H : Hp) (a : Addr) : Cell → Prop
  | .lst ds => ∃ vs, H a = some (.lst vs) ∧ RpL R.K φ ex H vs ds
  | .wl ws => ∃ vs, H a = some (.lst vs) ∧ RpWL R φ ex H vs ws
  | .ins c fs => ∃ dx fv, H a = some (.ins (R.ca c) dx fv) ∧ FsR R φ ex H fv fs
  | .dead => False
  | .dn kvs => ∃ xs, H a = some (Cd.dnO R.P R.w a xs) ∧ DnR R φ ex H kvs xs
  | .dk kvs => ∃ fv, H a = some (.dK (kk fv)) ∧ FsR R φ ex H fv kvs
/-- what may change -/
def Cel : HO → Prop
  | .lst _ => True
  | .ins _ _ _ => True
  | .ext p => ∀ c q, HO.ext p ≠ LamX.CodeO c q
  | .dK _ => True
  | _ => False
theorem cel_nc {o : HO} (h : Cel o) : ∀ c q, o ≠ LamX.CodeO c q := fun c q z => by
  subst z
  exact h c q rfl
/-- a dict is no code object -/
theorem cel_dn {P : Program} {w : World} {a : Addr} {xs : List Cd.Ent} : Cel (Cd.dnO P w a xs) := fun c q z => by
  unfold LamX.CodeO at z
  have e := congrFun (HO.ext.inj z) { objs := Array.replicate (c + 1) ({ cls := .none, data := .fields #[.none, .str q (0 : Tok)] } : Obj) }
  have h1 : ({ objs := Array.replicate (c + 1) ({ cls := .none, data := .fields #[.none, .str q (0 : Tok)] } : Obj) } : Heap).get? c = some ({ cls := .none, data := .fields #[.none, .str q (0 : Tok)] } : Obj) := by
    unfold Heap.get?
    simp
  have h2 : Cd.DnH P w a xs { objs := Array.replicate (c + 1) ({ cls := .none, data := .fields #[.none, .str q (0 : Tok)] } : Obj) } := by
    rw [e]
    exact ⟨_, _, _, h1, rfl, rfl⟩
  obtain ⟨_, _, _, _, o, es, ep, g, _, hd, _⟩ := h2
  have hz : ({ objs := Array.replicate (c + 1) ({ cls := .none, data := .fields #[.none, .str q (0 : Tok)] } : Obj) } : Heap).get? a = some o := g
  by_cases ha : a < c + 1
  · have h3 : ({ objs := Array.replicate (c + 1) ({ cls := .none, data := .fields #[.none, .str q (0 : Tok)] } : Obj) } : Heap).get? a = some ({ cls := .none, data := .fields #[.none, .str q (0 : Tok)] } : Obj) := by
      unfold Heap.get?
      simp only [Array.getElem?_replicate, if_pos ha]
    rw [h3] at hz
    cases hz
    cases hd
  · have h3 : ({ objs := Array.replicate (c + 1) ({ cls := .none, data := .fields #[.none, .str q (0 : Tok)] } : Obj) } : Heap).get? a = none := by
      unfold Heap.get?
      simp only [Array.getElem?_replicate, if_neg ha]
    rw [h3] at hz
    cases hz
theorem cel_nt {o : HO} (h : Cel o) : ∀ ps, o ≠ .tbl ps := fun ps z => by subst z; exact h
structure Sim (R : Gt) (φ : Ph) (ex : List Addr) (H : Hp) (s : Store) : Prop where
  len : φ.length = s.length
  cell : ∀ (n : Nat) (c : Cell), s[n]? = some c → (c = .dead ∧ φ[n]? = some none) ∨ ∃ a, φ[n]? = some (some a) ∧ CellR R φ ex H a c
  one : ∀ (n m : Nat) (a : Addr), φ[n]? = some (some a) → φ[m]? = some (some a) → n = m
  off : ∀ a ∈ ex, some a ∉ φ
  exT : ∀ a ∈ ex, ∃ o, H a = some o ∧ Cel o
  kn : ∀ q ∈ R.kn, H q.1 = some q.2 ∧ (¬ Mu φ ex q.1 ∧ ∀ ps, q.2 ≠ .tbl ps)
  T : NdefX.TabsN R.T H
/-- the code tables stand where all but cells stays -/
theorem tabs_keep {T : List NdefX.NTab} {H H' : Hp} (t : NdefX.TabsN T H) (k : ∀ b o, H b = some o → ¬ Cel o → H' b = some o) : NdefX.TabsN T H' := fun p hp => by
  obtain ⟨ps, h1, h2, h3⟩ := t p hp
  refine ⟨ps, k _ _ h1 (fun z => z), h2, fun pos cv hc => ?_⟩
  obtain ⟨c, e1, e2⟩ := h3 pos cv hc
  exact ⟨c, e1, k _ _ e2 fun z => cel_nc z _ _ rfl⟩
theorem CellR.there {a : Addr} {c : Cell} (h : CellR R φ ex H a c) : ∃ o, H a = some o ∧ Cel o := by
  cases c with
  | lst ds => obtain ⟨vs, h, _⟩ := h; exact ⟨_, h, trivial⟩
  | wl ws => obtain ⟨vs, h, _⟩ := h; exact ⟨_, h, trivial⟩
  | ins c fs => obtain ⟨dx, fv, h, _⟩ := h; exact ⟨_, h, trivial⟩
  | dead => exact h.elim
  | dn kvs => obtain ⟨xs, h, _⟩ := h; exact ⟨_, h, cel_dn⟩
  | dk kvs => obtain ⟨xs, h, _⟩ := h; exact ⟨_, h, trivial⟩
theorem Sim.at_ {s : Store} (S : Sim R φ ex H s) {n : Nat} {a : Addr} (h : φ[n]? = some (some a)) : ∃ c, s[n]? = some c ∧ CellR R φ ex H a c := by
  have l : n < s.length := by rw [← S.len]; exact (List.getElem?_eq_some_iff.mp h).1
  have e : s[n]? = some s[n] := List.getElem?_eq_getElem l
  rcases S.cell n _ e with ⟨_, e2⟩ | ⟨b, e2, q⟩
  · rw [h] at e2; cases e2
  · rw [h] at e2; cases e2; exact ⟨_, e, q⟩
theorem Sim.mem {s : Store} (S : Sim R φ ex H s) {a : Addr} (h : some a ∈ φ) : ∃ o, H a = some o ∧ Cel o := by
  obtain ⟨n, e⟩ := List.mem_iff_getElem?.mp h
  obtain ⟨c, _, q⟩ := S.at_ e
  exact q.there
/-- what may change is tracked -/
theorem Sim.mu {s : Store} (S : Sim R φ ex H s) {a : Addr} (h : Mu φ ex a) : ∃ o, H a = some o ∧ Cel o := by
  rcases h with h | h
  · exact S.mem h
  · exact S.exT a h
theorem Sim.muT {s : Store} (S : Sim R φ ex H s) {a : Addr} (h : Mu φ ex a) : H a ≠ none := by
  obtain ⟨o, e, _⟩ := S.mu h
  rw [e]; exact fun z => nomatch z
theorem Sim.fresh {s : Store} (S : Sim R φ ex H s) {p : Addr} (h : H p = none) : ¬ Mu φ ex p := fun z => S.muT z h
/-- a list cell -/
theorem Sim.lst {s : Store} (S : Sim R φ ex H s) {n : Nat} {ds : List PyData} {v : V} (h : s[n]? = some (.lst ds)) (r : RpW R φ ex H v (.ref n)) :
    ∃ a vs, v = .ref a ∧ φ[n]? = some (some a) ∧ H a = some (.lst vs) ∧ RpL R.K φ ex H vs ds := by
  rcases S.cell n _ h with ⟨e, _⟩ | ⟨a, e, vs, q, r2⟩
  · cases e
  · cases r with
    | ref l r => exact ⟨a, vs, r a e, e, q, r2⟩
theorem Sim.wl {s : Store} (S : Sim R φ ex H s) {n : Nat} {ws : List W} {v : V} (h : s[n]? = some (.wl ws)) (r : RpW R φ ex H v (.ref n)) :
    ∃ a vs, v = .ref a ∧ φ[n]? = some (some a) ∧ H a = some (.lst vs) ∧ RpWL R φ ex H vs ws := by
  rcases S.cell n _ h with ⟨e, _⟩ | ⟨a, e, vs, q, r2⟩
  · cases e
  · cases r with
    | ref l r => exact ⟨a, vs, r a e, e, q, r2⟩
theorem Sim.ins {s : Store} (S : Sim R φ ex H s) {n : Nat} {c : Nat} {fs : List (Str × W)} {v : V} (h : s[n]? = some (.ins c fs)) (r : RpW R φ ex H v (.ref n)) :
    ∃ a dx fv, v = .ref a ∧ φ[n]? = some (some a) ∧ H a = some (.ins (R.ca c) dx fv) ∧ FsR R φ ex H fv fs := by
  rcases S.cell n _ h with ⟨e, _⟩ | ⟨a, e, dx, fv, q, r2⟩
  · cases e
  · cases r with
    | ref l r => exact ⟨a, dx, fv, r a e, e, q, r2⟩
theorem Sim.dn {s : Store} (S : Sim R φ ex H s) {n : Nat} {kvs : List (PyData × W)} {v : V} (h : s[n]? = some (.dn kvs)) (r : RpW R φ ex H v (.ref n)) :
    ∃ a xs, v = .ref a ∧ φ[n]? = some (some a) ∧ H a = some (Cd.dnO R.P R.w a xs) ∧ DnR R φ ex H kvs xs := by
  rcases S.cell n _ h with ⟨e, _⟩ | ⟨a, e, xs, q, r2⟩
  · cases e
  · cases r with
    | ref l r => exact ⟨a, xs, r a e, e, q, r2⟩
theorem Sim.dk {s : Store} (S : Sim R φ ex H s) {n : Nat} {kvs : List (Str × W)} {v : V} (h : s[n]? = some (.dk kvs)) (r : RpW R φ ex H v (.ref n)) :
    ∃ a fv, v = .ref a ∧ φ[n]? = some (some a) ∧ H a = some (.dK (kk fv)) ∧ FsR R φ ex H fv kvs := by
  rcases S.cell n _ h with ⟨e, _⟩ | ⟨a, e, xs, q, r2⟩
  · cases e
  · cases r with
    | ref l r => exact ⟨a, xs, r a e, e, q, r2⟩
/-- a dict, in a cell or one that stays -/
theorem Sim.dnW {s : Store} (S : Sim R φ ex H s) {w : W} {kvs : List (PyData × W)} {v : V} (h : dnOf s w = some kvs) (r : RpW R φ ex H v w) : ∃ a xs, v = .ref a ∧ Rd H a (Cd.dnO R.P R.w a xs) ∧ DnR R φ ex H kvs xs := by
  rcases dnOf_some h with ⟨n, rfl, hn⟩ | ⟨zs, rfl, rfl⟩
  · obtain ⟨a, xs, e1, _, e2, e3⟩ := S.dn hn r
    exact ⟨a, xs, e1, .inl e2, e3⟩
  · cases r with
    | fd e n r => exact ⟨_, _, rfl, .inr ⟨_, e⟩, r.dn⟩
/-- cells stand under a growth that leaves their own objects -/
theorem CellR.ext (E : Ext φ H φ' H') {a : Addr} {c : Cell} (h : CellR R φ ex H a c) (k : H' a = H a) : CellR R φ' ex H' a c := by
  cases c with
  | lst ds => obtain ⟨vs, h, r⟩ := h; exact ⟨vs, k.trans h, RpL.ext E _ _ r⟩
  | wl ws => obtain ⟨vs, h, r⟩ := h; exact ⟨vs, k.trans h, RpWL.ext E _ _ r⟩
  | ins c fs => obtain ⟨dx, fv, h, r⟩ := h; exact ⟨dx, fv, k.trans h, FsR.ext E r⟩
  | dead => exact h.elim
  | dn kvs => obtain ⟨xs, h, r⟩ := h; exact ⟨xs, k.trans h, DnR.ext E r⟩
  | dk kvs => obtain ⟨xs, h, r⟩ := h; exact ⟨xs, k.trans h, FsR.ext E r⟩
/-! ### the four steps -/
variable {s : Store}
/-- a new object that is no cell -/
theorem Sim.new (S : Sim R φ ex H s) {p : Addr} {o : HO} (hp : H p = none) : Ext φ H φ (upd H p o) ∧ Sim R φ ex (upd H p o) s := by
  have E : Ext φ H φ (upd H p o) := ⟨fun a u h _ _ => by rw [upd_ne (ne_of_none h hp)]; exact h, fun a h => NdefX.upd_none h, fun _ z => .inl z, Nat.le_refl _, fun _ _ _ h => h⟩
  refine ⟨E, S.len, fun n c h => ?_, S.one, S.off, fun a ha => ?_, fun q hq => ⟨(E.mu (S.kn q hq).1 (S.kn q hq).2.1 (S.kn q hq).2.2).1, (E.mu (S.kn q hq).1 (S.kn q hq).2.1 (S.kn q hq).2.2).2, (S.kn q hq).2.2⟩, tabs_keep S.T fun b u h _ => by rw [upd_ne (ne_of_none h hp)]; exact h⟩
  · rcases S.cell n c h with q | ⟨a, e, q⟩
    · exact .inl q
    · refine .inr ⟨a, e, q.ext E ?_⟩
      obtain ⟨o', ho, _⟩ := q.there
      exact upd_ne (ne_of_none ho hp)
  · obtain ⟨u, e, c⟩ := S.exT a ha
    exact ⟨u, by rw [upd_ne (ne_of_none e hp)]; exact e, c⟩
/-- new objects, none of them a cell's -/
theorem Sim.grow (S : Sim R φ ex H s) (g : ∀ b o, H b = some o → H' b = some o) : Ext φ H φ H' ∧ Sim R φ ex H' s := by
  have ny : ∀ a, H' a = none → H a = none := fun a h => by
    cases e : H a with
    | none => rfl
    | some o => rw [g a o e] at h; cases h
  have E : Ext φ H φ H' := ⟨fun a u h _ _ => g a u h, ny, fun _ z => .inl z, Nat.le_refl _, fun _ _ _ h => h⟩
  refine ⟨E, S.len, fun n c h => ?_, S.one, S.off, fun a ha => ?_, fun q hq => ⟨(E.mu (S.kn q hq).1 (S.kn q hq).2.1 (S.kn q hq).2.2).1, (E.mu (S.kn q hq).1 (S.kn q hq).2.1 (S.kn q hq).2.2).2, (S.kn q hq).2.2⟩, tabs_keep S.T fun b u h _ => g b u h⟩
  · rcases S.cell n c h with q | ⟨a, e, q⟩
    · exact .inl q
    · refine .inr ⟨a, e, q.ext E ?_⟩
      obtain ⟨o', ho, _⟩ := q.there
      rw [ho, g _ _ ho]
  · obtain ⟨u, e, c⟩ := S.exT a ha
    exact ⟨u, g _ _ e, c⟩
/-- a new cell -/
theorem Sim.push (S : Sim R φ ex H s) {p : Addr} {o : HO} {c : Cell} (hp : H p = none) (hc : Ext φ H (φ ++ [some p]) (upd H p o) → CellR R (φ ++ [some p]) ex (upd H p o) p c) :
    Ext φ H (φ ++ [some p]) (upd H p o) ∧ Sim R (φ ++ [some p]) ex (upd H p o) (s ++ [c]) := by
  have E : Ext φ H (φ ++ [some p]) (upd H p o) := by
    refine ⟨fun a u h _ _ => by rw [upd_ne (ne_of_none h hp)]; exact h, fun a h => NdefX.upd_none h, fun a z => ?_, by simp, fun n a l e => ?_⟩
    · rcases List.mem_append.mp z with z | z
      · exact .inl z
      · have e : a = p := by simpa using z
        exact .inr (by rw [e]; exact hp)
    · rwa [List.getElem?_append_left l] at e
  have np : some p ∉ φ := fun z => by
    obtain ⟨o', e, _⟩ := S.mem z
    rw [hp] at e; cases e
  refine ⟨E, by simp [S.len], fun n c' h => ?_, fun n m a e1 e2 => ?_, fun a ha z => ?_, fun a ha => ?_, fun q hq => ⟨(E.mu (S.kn q hq).1 (S.kn q hq).2.1 (S.kn q hq).2.2).1, (E.mu (S.kn q hq).1 (S.kn q hq).2.1 (S.kn q hq).2.2).2, (S.kn q hq).2.2⟩, tabs_keep S.T fun b u h _ => by rw [upd_ne (ne_of_none h hp)]; exact h⟩
  · rcases Nat.lt_trichotomy n s.length with l | l | l
    · rw [List.getElem?_append_left l] at h
      rcases S.cell n c' h with ⟨q, q2⟩ | ⟨a, e, q⟩
      · exact .inl ⟨q, by rw [List.getElem?_append_left (by rw [S.len]; exact l)]; exact q2⟩
      · refine .inr ⟨a, by rw [List.getElem?_append_left (by rw [S.len]; exact l)]; exact e, q.ext E ?_⟩
        obtain ⟨o', ho, _⟩ := q.there
        exact upd_ne (ne_of_none ho hp)
    · subst l
      have e : c' = c := by simpa using h.symm
      subst e
      exact .inr ⟨p, by simp [← S.len], hc E⟩
    · have : (s ++ [c])[n]? = none := List.getElem?_eq_none (by simp; omega)
      rw [this] at h; cases h
  · have key : ∀ n b, (φ ++ [some p])[n]? = some (some b) → (n < φ.length ∧ φ[n]? = some (some b)) ∨ (n = φ.length ∧ b = p) := fun n b e => by
      rcases Nat.lt_or_ge n φ.length with l | l
      · rw [List.getElem?_append_left l] at e; exact .inl ⟨l, e⟩
      · have l2 : n < (φ ++ [some p]).length := (List.getElem?_eq_some_iff.mp e).1
        have e3 : n = φ.length := by simp at l2; omega
        subst e3
        exact .inr ⟨rfl, by simpa using e.symm⟩
    rcases key n a e1 with ⟨l1, q1⟩ | ⟨l1, q1⟩ <;> rcases key m a e2 with ⟨l2, q2⟩ | ⟨l2, q2⟩
    · exact S.one n m a q1 q2
    · subst q2; exact (np (List.mem_of_getElem? q1)).elim
    · subst q1; exact (np (List.mem_of_getElem? q2)).elim
    · rw [l1, l2]
  · rcases List.mem_append.mp z with z | z
    · exact S.off a ha z
    · have e : a = p := by simpa using z
      obtain ⟨u, e2, _⟩ := S.exT a ha
      rw [e, hp] at e2; cases e2
  · obtain ⟨u, e, c⟩ := S.exT a ha
    exact ⟨u, by rw [upd_ne (ne_of_none e hp)]; exact e, c⟩
/-- a cell's object changed -/
theorem Sim.put (S : Sim R φ ex H s) {n : Nat} {a : Addr} {o : HO} {c : Cell} (h : φ[n]? = some (some a)) (hc : Ext φ H φ (upd H a o) → CellR R φ ex (upd H a o) a c) :
    Ext φ H φ (upd H a o) ∧ Sim R φ ex (upd H a o) (s.set n c) := by
  have hm : some a ∈ φ := List.mem_of_getElem? h
  have E : Ext φ H φ (upd H a o) := ⟨fun b u e nb _ => by rw [upd_ne (fun z => nb (by rw [z]; exact hm))]; exact e, fun b h => NdefX.upd_none h, fun _ z => .inl z, Nat.le_refl _, fun _ _ _ h => h⟩
  refine ⟨E, by simp [S.len], fun m c' e => ?_, S.one, S.off, fun b hb => ?_, fun q hq => ⟨(E.mu (S.kn q hq).1 (S.kn q hq).2.1 (S.kn q hq).2.2).1, (E.mu (S.kn q hq).1 (S.kn q hq).2.1 (S.kn q hq).2.2).2, (S.kn q hq).2.2⟩, tabs_keep S.T fun b u e nc => by
    rw [upd_ne fun z => ?_]
    · exact e
    · obtain ⟨o', e', c'⟩ := S.mem hm
      rw [z, e'] at e
      cases e
      exact nc c'⟩
  · by_cases hmn : n = m
    · subst hmn
      have l : n < s.length := by have := (List.getElem?_eq_some_iff.mp e).1; simpa using this
      rw [List.getElem?_set_self l] at e
      cases e
      exact .inr ⟨a, h, hc E⟩
    · rw [List.getElem?_set_ne hmn] at e
      rcases S.cell m c' e with q | ⟨b, e2, q⟩
      · exact .inl q
      · refine .inr ⟨b, e2, q.ext E (upd_ne fun z => ?_)⟩
        subst z
        exact hmn (S.one n m _ h e2)
  · by_cases hb2 : b = a
    · subst hb2; exact (S.off _ hb hm).elim
    · rw [upd_ne hb2]; exact S.exT b hb
/-- a cell that is changed no more -/
theorem Sim.kill (S : Sim R φ ex H s) {n : Nat} : Ext φ H (φ.set n none) H ∧ Sim R (φ.set n none) ex H (s.set n .dead) := by
  have sub : ∀ a, some a ∈ φ.set n none → some a ∈ φ := fun a z => by
    obtain ⟨m, e⟩ := List.mem_iff_getElem?.mp z
    by_cases hm : n = m
    · subst hm
      rcases Nat.lt_or_ge n φ.length with l | l
      · rw [List.getElem?_set_self l] at e; cases e
      · rw [List.set_eq_of_length_le l] at e; exact List.mem_of_getElem? e
    · rw [List.getElem?_set_ne hm] at e; exact List.mem_of_getElem? e
  have at' : ∀ m a, (φ.set n none)[m]? = some (some a) → φ[m]? = some (some a) := fun m a e => by
    by_cases hm : n = m
    · subst hm
      rcases Nat.lt_or_ge n φ.length with l | l
      · rw [List.getElem?_set_self l] at e; cases e
      · rwa [List.set_eq_of_length_le l] at e
    · rwa [List.getElem?_set_ne hm] at e
  have E : Ext φ H (φ.set n none) H := ⟨fun _ _ h _ _ => h, fun _ h => h, fun a z => .inl (sub a z), by simp, fun m a _ e => at' m a e⟩
  refine ⟨E, by simp [S.len], fun m c e => ?_, fun i j a e1 e2 => S.one i j a (at' _ _ e1) (at' _ _ e2), fun a ha z => S.off a ha (sub a z), S.exT, fun q hq => ⟨(E.mu (S.kn q hq).1 (S.kn q hq).2.1 (S.kn q hq).2.2).1, (E.mu (S.kn q hq).1 (S.kn q hq).2.1 (S.kn q hq).2.2).2, (S.kn q hq).2.2⟩, S.T⟩
  by_cases hm : n = m
  · subst hm
    rcases Nat.lt_or_ge n s.length with l | l
    · rw [List.getElem?_set_self l] at e
      cases e
      exact .inl ⟨rfl, by rw [List.getElem?_set_self (by rw [S.len]; exact l)]⟩
    · rw [List.set_eq_of_length_le l] at e
      have := (List.getElem?_eq_some_iff.mp e).1
      omega
  · rw [List.getElem?_set_ne hm] at e
    rcases S.cell m c e with ⟨q, q2⟩ | ⟨b, e2, q⟩
    · exact .inl ⟨q, by rw [List.getElem?_set_ne hm]; exact q2⟩
    · exact .inr ⟨b, by rw [List.getElem?_set_ne hm]; exact e2, q.ext E rfl⟩
/-! ### functions made within defs -/
/-- a lambda's object -/
def LmO (f : Addr) (F : NdefX.NF) (e : Expr) : HO := .ext fun h => ∃ (od : Option Addr) (sl : Array (Option Value)) (pm ctv : Value), h.get? f = some (⟨.type "function", od, .func (PySem.W.kla_fn F.name F.qual F.params e F.scope F.cl pm (.ref F.c) ctv), sl⟩ : Obj)
def FnG (f : Addr) (F : NdefX.NF) : Option Expr → HO
  | none => NdefX.FnO f F
  | some e => LmO f F e
theorem fnG_nt {f : Addr} {F : NdefX.NF} {o : Option Expr} : ∀ ps, FnG f F o ≠ .tbl ps := fun ps z => by
  cases o <;> (simp only [FnG, NdefX.FnO, LmO] at z; cases z)
/-- the table's words -/
structure IsNd (n : Nd) (F : NdefX.NF) : Prop where
  name : F.name = n.name
  qual : F.qual = n.qual
  params : F.params = n.params
  body : F.body = n.body
  scope : F.scope = n.scope
/-- the function at f is the k-th def -/
structure FnR (R : Gt) (φ : Ph) (ex : List Addr) (H : Hp) (k : Nat) (f : Addr) (F : NdefX.NF) (n : Nd) : Prop where
  nd : R.nd k = some n
  is : IsNd n F
  fo : H f = some (FnG f F n.lam)
  fm : ¬ Mu φ ex f
  co : H F.c = some (LamX.CodeO F.c F.qual)
  cm : ¬ Mu φ ex F.c
/-- what its captured cells hold -/
structure Capt (base : Heap) (cl : List (Str × Addr)) (fr : List Str) (us : List V) : Prop where
  len : us.length = fr.length
  all : ∀ y c, cl.lookup y = some c → ∃ v, base.IsCell c v
  inj : ∀ x y c, cl.lookup x = some c → cl.lookup y = some c → x = y
  has : ∀ (i : Nat) (y : Str), fr[i]? = some y → ∃ c, cl.lookup y = some c ∧ ∀ v, us[i]? = some v → ∃ u, L2.RelV v u ∧ base.IsCell c (some u)
mutual
/-- a value, or a function that was handed over -/
inductive RpA (R : Gt) (φ : Ph) (ex : List Addr) (H : Hp) : V → W → Prop
  | w {v : V} {w : W} : RpW R φ ex H v w → RpA R φ ex H v w
  | clo {f : Addr} {F : NdefX.NF} {n : Nd} {k : Nat} {us : List V} {ws : List W} : FnR R φ ex H k f F n → Capt R.fm.base F.cl n.fr us → RpAL R φ ex H us ws → RpA R φ ex H (.ref f) (.clo k none ws)
inductive RpAL (R : Gt) (φ : Ph) (ex : List Addr) (H : Hp) : List V → List W → Prop
  | nil : RpAL R φ ex H [] []
  | cons {v : V} {vs : List V} {w : W} {ws : List W} : RpA R φ ex H v w → RpAL R φ ex H vs ws → RpAL R φ ex H (v :: vs) (w :: ws)
end
/-- the running def's own -/
def OwnR (R : Gt) (φ : Ph) (ex : List Addr) (H : Hp) (v : V) (k : Nat) (js : List Nat) : Prop :=
  ∃ f F n, v = .ref f ∧ FnR R φ ex H k f F n ∧ F.cl = cloFrom R.fm.ec n.scope.names [] ∧ NdefX.ndefB R.fm.sc n.scope n.fr = true ∧ js.map (fun j => R.fm.N[j]?) = n.fr.map some
def EntR (R : Gt) (φ : Ph) (ex : List Addr) (H : Hp) (v : V) (w : W) : Prop := RpA R φ ex H v w ∨ ∃ k js, w = .clo k (some js) [] ∧ OwnR R φ ex H v k js
section
variable {R' : Gt} {ex' : List Addr}
theorem RpAL.length : ∀ {ds : List W} {vs : List V}, RpAL R φ ex H vs ds → vs.length = ds.length
  | [], _, h => by cases h; rfl
  | d :: ds, _, h => by
    cases h with
    | cons r t => simp [RpAL.length t]
theorem RpAL.of : ∀ {ws : List W} {vs : List V}, RpWL R φ ex H vs ws → RpAL R φ ex H vs ws
  | _, _, .nil => .nil
  | _, _, .cons r t => .cons (.w r) (RpAL.of t)
theorem RpAL.get : ∀ {ds : List W} {vs : List V} {i : Nat} {d : W}, RpAL R φ ex H vs ds → ds[i]? = some d → ∃ v, vs[i]? = some v ∧ RpA R φ ex H v d
  | [], _, _, _, h, e => by simp at e
  | x :: ds, _, i, d, h, e => by
    cases h with
    | cons r t =>
      cases i with
      | zero => simp at e; subst e; exact ⟨_, rfl, r⟩
      | succ i =>
        obtain ⟨v, h1, h2⟩ := RpAL.get (i := i) t (by simpa using e)
        exact ⟨v, by simpa using h1, h2⟩
theorem RpAL.append : ∀ {xs ys : List W} {vs us : List V}, RpAL R φ ex H vs xs → RpAL R φ ex H us ys → RpAL R φ ex H (vs ++ us) (xs ++ ys)
  | [], _, _, _, h, h' => by cases h; exact h'
  | _ :: _, _, _, _, h, h' => by
    cases h with
    | cons r t => exact .cons r (RpAL.append t h')
mutual
/-- facts go over; p: what is known of the values that are looked at -/
theorem RpA.map (p : W → Prop) (hp : ∀ k ws, p (.clo k none ws) → ∀ w ∈ ws, p w) (hb : ∀ cl fr us, Capt R.fm.base cl fr us → Capt R'.fm.base cl fr us) (f : ∀ w v, p w → RpW R φ ex H v w → RpW R' φ' ex' H' v w) (g : ∀ k f F n, FnR R φ ex H k f F n → FnR R' φ' ex' H' k f F n) :
    ∀ (w : W) (v : V), p w → RpA R φ ex H v w → RpA R' φ' ex' H' v w
  | .clo k none ws, v, hw, h => by
    cases h with
    | w h => cases h
    | clo a b c => exact .clo (g _ _ _ _ a) (hb _ _ _ b) (RpAL.map p hp hb f g ws _ (hp k ws hw) c)
  | .clo k (some js) ws, v, hw, h => by cases h with | w h => cases h
  | .d x, v, hw, h => by cases h with | w h => exact .w (f _ _ hw h)
  | .ref n, v, hw, h => by cases h with | w h => exact .w (f _ _ hw h)
  | .tup ws, v, hw, h => by cases h with | w h => exact .w (f _ _ hw h)
  | .fn i, v, hw, h => by cases h with | w h => exact .w (f _ _ hw h)
  | .pr x y, v, hw, h => by cases h with | w h => exact .w (f _ _ hw h)
  | .fd x, v, hw, h => by cases h with | w h => exact .w (f _ _ hw h)
theorem RpAL.map (p : W → Prop) (hp : ∀ k ws, p (.clo k none ws) → ∀ w ∈ ws, p w) (hb : ∀ cl fr us, Capt R.fm.base cl fr us → Capt R'.fm.base cl fr us) (f : ∀ w v, p w → RpW R φ ex H v w → RpW R' φ' ex' H' v w) (g : ∀ k f F n, FnR R φ ex H k f F n → FnR R' φ' ex' H' k f F n) :
    ∀ (ws : List W) (vs : List V), (∀ w ∈ ws, p w) → RpAL R φ ex H vs ws → RpAL R' φ' ex' H' vs ws
  | [], _, _, h => by cases h; exact .nil
  | w :: ws, _, hw, h => by
    cases h with
    | cons r t => exact .cons (RpA.map p hp hb f g w _ (hw w (by simp)) r) (RpAL.map p hp hb f g ws _ (fun x hx => hw x (by simp [hx])) t)
end
theorem EntR.map (p : W → Prop) (hp : ∀ k ws, p (.clo k none ws) → ∀ w ∈ ws, p w) (hb : R.fm = R'.fm) (f : ∀ w v, p w → RpW R φ ex H v w → RpW R' φ' ex' H' v w) (g : ∀ k f F n, FnR R φ ex H k f F n → FnR R' φ' ex' H' k f F n)
    {w : W} {v : V} (hw : p w) (h : EntR R φ ex H v w) : EntR R' φ' ex' H' v w := by
  rcases h with h | ⟨k, js, rfl, F0, F, n, rfl, q1, q2, q3, q4⟩
  · exact .inl (RpA.map p hp (fun _ _ _ z => by rw [← hb]; exact z) f g w v hw h)
  · exact .inr ⟨k, js, rfl, F0, F, n, rfl, g _ _ _ _ q1, hb ▸ q2, hb ▸ q3, hb ▸ q4⟩
theorem EntR.toW {v : V} {w : W} (h : EntR R φ ex H v w) (hc : ∀ k o ws, w ≠ .clo k o ws) : RpW R φ ex H v w := by
  rcases h with h | ⟨k, js, rfl, _⟩
  · cases h with
    | w h => exact h
    | clo a b c => exact (hc _ _ _ rfl).elim
  · exact (hc _ _ _ rfl).elim
end
/-- names -/
structure EnvR (R : Gt) (φ : Ph) (ex : List Addr) (H : Hp) (env : Env) (σ : L2.St) : Prop where
  len : env.length = σ.length
  at_ : ∀ (i : Nat) (w : W), env[i]? = some (some w) → ∃ v, σ[i]? = some (some v) ∧ EntR R φ ex H v w
theorem FnR.ext (E : Ext φ H φ' H') {k : Nat} {f : Addr} {F : NdefX.NF} {n : Nd} (h : FnR R φ ex H k f F n) : FnR R φ' ex H' k f F n :=
  ⟨h.nd, h.is, (E.mu h.fo h.fm fnG_nt).1, (E.mu h.fo h.fm fnG_nt).2, (E.mu h.co h.cm LamX.codeO_ne).1, (E.mu h.co h.cm LamX.codeO_ne).2⟩
theorem EntR.ext (E : Ext φ H φ' H') {v : V} {w : W} (h : EntR R φ ex H v w) : EntR R φ' ex H' v w :=
  EntR.map (fun _ => True) (fun _ _ _ _ _ => trivial) rfl (fun w v _ r => RpW.ext E w v r) (fun _ _ _ _ r => r.ext E) trivial h
theorem RpAL.ext (E : Ext φ H φ' H') {vs : List V} {ws : List W} (h : RpAL R φ ex H vs ws) : RpAL R φ' ex H' vs ws :=
  RpAL.map (fun _ => True) (fun _ _ _ _ _ => trivial) (fun _ _ _ z => z) (fun w v _ r => RpW.ext E w v r) (fun _ _ _ _ r => r.ext E) ws vs (fun _ _ => trivial) h
theorem EnvR.ext (E : Ext φ H φ' H') {env : Env} {σ : L2.St} (N : EnvR R φ ex H env σ) : EnvR R φ' ex H' env σ :=
  ⟨N.len, fun i w h => let ⟨v, e, r⟩ := N.at_ i w h; ⟨v, e, r.ext E⟩⟩
theorem EnvR.setE {env : Env} {σ : L2.St} (N : EnvR R φ ex H env σ) {i : Nat} {v : V} {w : W} (r : EntR R φ ex H v w) : EnvR R φ ex H (env.set i (some w)) (σ.set i (some v)) := by
  refine ⟨by simp [N.len], fun j u e => ?_⟩
  by_cases h : i = j
  · subst h
    rcases Nat.lt_or_ge i env.length with l | l
    · rw [List.getElem?_set_self l] at e
      cases e
      exact ⟨v, by rw [List.getElem?_set_self (by rw [← N.len]; exact l)], r⟩
    · rw [List.set_eq_of_length_le l] at e
      have := (List.getElem?_eq_some_iff.mp e).1
      omega
  · rw [List.getElem?_set_ne h] at e ⊢
    exact N.at_ j u e
theorem EnvR.set {env : Env} {σ : L2.St} (N : EnvR R φ ex H env σ) {i : Nat} {v : V} {w : W} (r : RpW R φ ex H v w) : EnvR R φ ex H (env.set i (some w)) (σ.set i (some v)) := N.setE (.inl (.w r))
theorem EnvR.raw {env : Env} {σ : L2.St} (N : EnvR R φ ex H env σ) {i : Nat} {w : W} (h : Cc.raw env i = some w) : ∃ v, σ[i]? = some (some v) ∧ EntR R φ ex H v w := by
  refine N.at_ i w ?_
  unfold Cc.raw at h
  split at h
  · rename_i w' e; cases h; exact e
  · cases h
theorem EnvR.get {env : Env} {σ : L2.St} (N : EnvR R φ ex H env σ) {i : Nat} {w : W} (h : Cc.get env i = some w) : ∃ v, σ[i]? = some (some v) ∧ RpW R φ ex H v w := by
  unfold Cc.get at h
  split at h
  · cases h
  · rename_i w' hc e
    cases h
    obtain ⟨v, h1, h2⟩ := N.at_ i w e
    refine ⟨v, h1, h2.toW fun k o ws z => ?_⟩
    first | exact hc k o ws z | exact hc k o ws (by rw [e, z])
  · cases h
end
end Cc

set_option linter.all false
set_option maxRecDepth 100000
set_option maxHeartbeats 1000000
/-! Cc: readings by the interpreter; rules for expressions. -/
namespace Cc
open PySem PySem.Spec PyProof.Rows L2

def RunsTo {α : Type} (r : Res α) (ok : α → Store → Prop) (xc : Exn → Store → Prop) : Prop := match r with
  | .ok a s => ok a s
  | .exc x s => xc x s
  | .stuck => False
theorem RunsTo.imp {α : Type} {r : Res α} {ok ok' : α → Store → Prop} {xc xc' : Exn → Store → Prop} (h : RunsTo r ok xc) (h1 : ∀ a s, ok a s → ok' a s) (h2 : ∀ x s, xc x s → xc' x s) : RunsTo r ok' xc' := by
  cases r with
  | ok a s => exact h1 a s h
  | exc x s => exact h2 x s h
  | stuck => exact h
theorem RunsTo.of {α : Type} {o : Option α} {s : Store} {ok : α → Store → Prop} {xc : Exn → Store → Prop} (h : RunsTo (Res.of o s) ok xc) : ∃ a, o = some a ∧ ok a s := by
  cases o with
  | none => exact h.elim
  | some a => exact ⟨a, rfl, h⟩
/-- the attributes of an exception -/
inductive FsD (K : PySem.W.Frag) (φ : Ph) (ex : List Addr) (H : Hp) : List (Str × V) → List (Str × PyData) → Prop
  | nil : FsD K φ ex H [] []
  | cons {f : Str} {v : V} {w : PyData} {vs : List (Str × V)} {ws : List (Str × PyData)} : Rp K φ ex H v w → FsD K φ ex H vs ws → FsD K φ ex H ((f, v) :: vs) ((f, w) :: ws)
def ExnR (K : PySem.W.Frag) (φ : Ph) (ex : List Addr) (H : Hp) (od : Option Addr) (fs : List (Str × PyData)) : Prop := match od with
  | none => fs = []
  | some d => fs ≠ [] ∧ ∃ fv, H d = some (.xd fv) ∧ FsD K φ ex H fv fs
def ExcOk (R : Gt) (ex : List Addr) (E : XK) (φ : Ph) (H : Hp) : Exn → Store → Prop := fun x s' => ∀ φ' H' od, Ext φ H φ' H' → Sim R φ' ex H' s' → ExnR R.K φ' ex H' od x.fs → E (.ref (R.xa x.cls)) od H'
abbrev Kn (α : Type) := Ph → Hp → α → Store → Prop
def Mono {α : Type} (C : Kn α) : Prop := ∀ φ H φ' H' a s, Ext φ H φ' H' → C φ H a s → C φ' H' a s
def RetW (R : Gt) (ex : List Addr) (Q : VK) : Kn W := fun φ H w s' => ∀ v φ' H', Ext φ H φ' H' → Sim R φ' ex H' s' → RpW R φ' ex H' v w → Q v H'
def RetL (R : Gt) (ex : List Addr) (Q : List V → Hp → Prop) : Kn (List W) := fun φ H ws s' => ∀ vs φ' H', Ext φ H φ' H' → Sim R φ' ex H' s' → RpWL R φ' ex H' vs ws → Q vs H'
def RetT (R : Gt) (ex : List Addr) (Q : Bool → Hp → Prop) : Kn Bool := fun φ H b s' => ∀ φ' H', Ext φ H φ' H' → Sim R φ' ex H' s' → Q b H'
def RetO (R : Gt) (ex : List Addr) (Q : Option Int → Hp → Prop) : Kn (Option Int) := fun φ H b s' => ∀ φ' H', Ext φ H φ' H' → Sim R φ' ex H' s' → Q b H'
section
variable {R : Gt} {ex : List Addr} {E : XK}
theorem mono_W {Q : VK} : Mono (RetW R ex Q) := fun _ _ _ _ _ _ e h v φ2 H2 e2 => h v φ2 H2 (e.trans e2)
theorem mono_L {Q : List V → Hp → Prop} : Mono (RetL R ex Q) := fun _ _ _ _ _ _ e h v φ2 H2 e2 => h v φ2 H2 (e.trans e2)
theorem mono_T {Q : Bool → Hp → Prop} : Mono (RetT R ex Q) := fun _ _ _ _ _ _ e h φ2 H2 e2 => h φ2 H2 (e.trans e2)
theorem mono_O {Q : Option Int → Hp → Prop} : Mono (RetO R ex Q) := fun _ _ _ _ _ _ e h φ2 H2 e2 => h φ2 H2 (e.trans e2)
theorem excOk_mono {φ φ' : Ph} {H H' : Hp} {x : Exn} {s : Store} (e : Ext φ H φ' H') (h : ExcOk R ex E φ H x s) : ExcOk R ex E φ' H' x s := fun φ2 H2 od e2 => h φ2 H2 od (e.trans e2)
theorem RunsTo.grow {α : Type} {C : Kn α} (m : Mono C) {φ φ' : Ph} {H H' : Hp} {r : Res α} (e : Ext φ H φ' H') (h : RunsTo r (C φ H) (ExcOk R ex E φ H)) : RunsTo r (C φ' H') (ExcOk R ex E φ' H') :=
  h.imp (fun _ _ q => m _ _ _ _ _ _ e q) fun _ _ q => excOk_mono e q
end
/-! ### readings -/
def tD (R : Gt) (E : L2.St → XK) (e : Ex) : L2.TE := fun σ H Q => ∃ φ ex s env, Sim R φ ex H s ∧ EnvR R φ ex H env σ ∧ RunsTo (runE R.Φ R.M R.CI R.FO e env s) (RetW R ex Q φ H) (ExcOk R ex (E σ) φ H)
def tA (R : Gt) (E : L2.St → XK) (es : List Ex) : L2.TA := fun σ H Q => ∃ φ ex s env, Sim R φ ex H s ∧ EnvR R φ ex H env σ ∧ RunsTo (runEs R.Φ R.M R.CI R.FO es env s) (RetL R ex Q φ H) (ExcOk R ex (E σ) φ H)
def tT (R : Gt) (E : L2.St → XK) (e : Bx) : L2.TT := fun σ H Q => ∃ φ ex s env, Sim R φ ex H s ∧ EnvR R φ ex H env σ ∧ RunsTo (runT R.Φ R.M R.CI R.FO e env s) (RetT R ex Q φ H) (ExcOk R ex (E σ) φ H)
def tO (R : Gt) (E : L2.St → XK) (e : Option Ex) : L2.TO := fun σ H Q => ∃ φ ex s env, Sim R φ ex H s ∧ EnvR R φ ex H env σ ∧ RunsTo (runO R.Φ R.M R.CI R.FO e env s) (RetO R ex Q φ H) (ExcOk R ex (E σ) φ H)
section
variable {R : Gt} {ex : List Addr} {E : L2.St → XK} {φ : Ph} {H : Hp} {s : Store} {env : Env} {σ : L2.St}
theorem tD_mono {e : Ex} {Q Q' : VK} (h : tD R E e σ H Q) (hQ : ∀ v H', Q v H' → Q' v H') : tD R E e σ H Q' := by
  obtain ⟨φ, ex, s, env, S, N, h⟩ := h
  exact ⟨φ, ex, s, env, S, N, h.imp (fun _ _ q v φ' H' e S r => hQ _ _ (q v φ' H' e S r)) fun _ _ q => q⟩
theorem tA_mono {e : List Ex} {Q Q' : List V → Hp → Prop} (h : tA R E e σ H Q) (hQ : ∀ v H', Q v H' → Q' v H') : tA R E e σ H Q' := by
  obtain ⟨φ, ex, s, env, S, N, h⟩ := h
  exact ⟨φ, ex, s, env, S, N, h.imp (fun _ _ q v φ' H' e S r => hQ _ _ (q v φ' H' e S r)) fun _ _ q => q⟩
theorem tT_mono {e : Bx} {Q Q' : Bool → Hp → Prop} (h : tT R E e σ H Q) (hQ : ∀ v H', Q v H' → Q' v H') : tT R E e σ H Q' := by
  obtain ⟨φ, ex, s, env, S, N, h⟩ := h
  exact ⟨φ, ex, s, env, S, N, h.imp (fun _ _ q φ' H' e S => hQ _ _ (q φ' H' e S)) fun _ _ q => q⟩
theorem tO_mono {e : Option Ex} {Q Q' : Option Int → Hp → Prop} (h : tO R E e σ H Q) (hQ : ∀ v H', Q v H' → Q' v H') : tO R E e σ H Q' := by
  obtain ⟨φ, ex, s, env, S, N, h⟩ := h
  exact ⟨φ, ex, s, env, S, N, h.imp (fun _ _ q φ' H' e S => hQ _ _ (q φ' H' e S)) fun _ _ q => q⟩
/-- what stands behind a first part -/
def Beh {α β : Type} (R : Gt) (ex : List Addr) (E : XK) (env : Env) (σ : L2.St) (φ : Ph) (H : Hp) (C : Kn β) (f : α → Store → Res β) (rel : Ph → Hp → α → Prop) (H1 : Hp) : Prop :=
  ∃ φ1 s1 w, Sim R φ1 ex H1 s1 ∧ EnvR R φ1 ex H1 env σ ∧ Ext φ H φ1 H1 ∧ rel φ1 H1 w ∧ RunsTo (f w s1) (C φ1 H1) (ExcOk R ex E φ1 H1)
theorem tD_bind {β : Type} {C : Kn β} (m : Mono C) {e : Ex} {f : W → Store → Res β} (S : Sim R φ ex H s) (N : EnvR R φ ex H env σ)
    (h : RunsTo ((runE R.Φ R.M R.CI R.FO e env s).bind f) (C φ H) (ExcOk R ex (E σ) φ H)) : tD R E e σ H fun v H1 => Beh R ex (E σ) env σ φ H C f (fun φ1 H1 w => RpW R φ1 ex H1 v w) H1 := by
  refine ⟨φ, ex, s, env, S, N, ?_⟩
  cases r : runE R.Φ R.M R.CI R.FO e env s with
  | ok w s1 =>
    rw [r] at h
    exact fun v φ1 H1 e1 S1 q => ⟨φ1, s1, w, S1, N.ext e1, e1, q, h.grow m e1⟩
  | exc x s1 => rw [r] at h; exact h
  | stuck => rw [r] at h; exact h
theorem tA_bind {β : Type} {C : Kn β} (m : Mono C) {e : List Ex} {f : List W → Store → Res β} (S : Sim R φ ex H s) (N : EnvR R φ ex H env σ)
    (h : RunsTo ((runEs R.Φ R.M R.CI R.FO e env s).bind f) (C φ H) (ExcOk R ex (E σ) φ H)) : tA R E e σ H fun v H1 => Beh R ex (E σ) env σ φ H C f (fun φ1 H1 w => RpWL R φ1 ex H1 v w) H1 := by
  refine ⟨φ, ex, s, env, S, N, ?_⟩
  cases r : runEs R.Φ R.M R.CI R.FO e env s with
  | ok w s1 =>
    rw [r] at h
    exact fun v φ1 H1 e1 S1 q => ⟨φ1, s1, w, S1, N.ext e1, e1, q, h.grow m e1⟩
  | exc x s1 => rw [r] at h; exact h
  | stuck => rw [r] at h; exact h
theorem tT_bind {β : Type} {C : Kn β} (m : Mono C) {e : Bx} {f : Bool → Store → Res β} (S : Sim R φ ex H s) (N : EnvR R φ ex H env σ)
    (h : RunsTo ((runT R.Φ R.M R.CI R.FO e env s).bind f) (C φ H) (ExcOk R ex (E σ) φ H)) : tT R E e σ H fun v H1 => Beh R ex (E σ) env σ φ H C f (fun _ _ w => w = v) H1 := by
  refine ⟨φ, ex, s, env, S, N, ?_⟩
  cases r : runT R.Φ R.M R.CI R.FO e env s with
  | ok w s1 =>
    rw [r] at h
    exact fun φ1 H1 e1 S1 => ⟨φ1, s1, w, S1, N.ext e1, e1, rfl, h.grow m e1⟩
  | exc x s1 => rw [r] at h; exact h
  | stuck => rw [r] at h; exact h
theorem tO_bind {β : Type} {C : Kn β} (m : Mono C) {e : Option Ex} {f : Option Int → Store → Res β} (S : Sim R φ ex H s) (N : EnvR R φ ex H env σ)
    (h : RunsTo ((runO R.Φ R.M R.CI R.FO e env s).bind f) (C φ H) (ExcOk R ex (E σ) φ H)) : tO R E e σ H fun v H1 => Beh R ex (E σ) env σ φ H C f (fun _ _ w => w = v) H1 := by
  refine ⟨φ, ex, s, env, S, N, ?_⟩
  cases r : runO R.Φ R.M R.CI R.FO e env s with
  | ok w s1 =>
    rw [r] at h
    exact fun φ1 H1 e1 S1 => ⟨φ1, s1, w, S1, N.ext e1, e1, rfl, h.grow m e1⟩
  | exc x s1 => rw [r] at h; exact h
  | stuck => rw [r] at h; exact h
end
theorem peImp {X : Cx} {e : Expr} {t t' : L2.TE} (h : PE X e t) (i : ∀ σ H Q, t' σ H Q → t σ H Q) : PE X e t' := ⟨fun pins s σ H Q I q => h.run pins s σ H Q I (i σ H Q q)⟩
theorem ptImp {X : Cx} {e : Expr} {t t' : L2.TT} (h : PT X e t) (i : ∀ σ H Q, t' σ H Q → t σ H Q) : PT X e t' := ⟨fun pins s σ H Q I q => h.run pins s σ H Q I (i σ H Q q)⟩
theorem pwImp {X : Cx} {e : Expr} {t t' : L2.TT} (h : PW X e t) (i : ∀ σ H Q, t' σ H Q → t σ H Q) : PW X e t' := ⟨fun wh pins s σ H Q I q => h.run wh pins s σ H Q I (i σ H Q q)⟩
theorem paImp {X : Cx} {e : List Expr} {t t' : L2.TA} (h : PA X e t) (i : ∀ σ H Q, t' σ H Q → t σ H Q) : PA X e t' := ⟨fun pos pins s σ H Q I q => h.run pos pins s σ H Q I (i σ H Q q)⟩
theorem poImp {X : Cx} {e : Option Expr} {t t' : L2.TO} (h : PO X e t) (i : ∀ σ H Q, t' σ H Q → t σ H Q) : PO X e t' := ⟨fun pins s σ H Q I q => h.run pins s σ H Q I (i σ H Q q)⟩
theorem opImp {X : Cx} {f : Value → Value → Sem Value} {r r' : R2} (h : OpR X f r) (i : ∀ x y H Q, r' x y H Q → r x y H Q) : OpR X f r' := fun pins s σ H x y v u Q I rx ry q => h pins s σ H x y v u Q I rx ry (i x y H Q q)

/-! ### a value read as data -/
def Tp (K : PySem.W.Frag) (φ : Ph) (ex : List Addr) (H : Hp) (x : V) (d : PyData) : Prop := Rp K φ ex H x d ∨ ∃ a vs ds, x = .ref a ∧ d = .list ds ∧ H a = some (.lst vs) ∧ RpL K φ ex H vs ds
section
variable {R : Gt} {ex : List Addr} {φ : Ph} {H : Hp} {s : Store} {env : Env} {σ : L2.St} {x y : V}
theorem Sim.top (S : Sim R φ ex H s) {w : W} {d : PyData} (r : RpW R φ ex H x w) (h : top s w = some d) : Tp R.K φ ex H x d := by
  cases w with
  | d x => cases h; cases r with | d r => exact .inl r
  | ref n =>
    simp only [Cc.top] at h
    cases e : s[n]? with
    | none => rw [e] at h; cases h
    | some c =>
      rw [e] at h
      cases c with
      | lst xs =>
        cases h
        obtain ⟨a, vs, q1, _, q2, q3⟩ := S.lst e r
        exact .inr ⟨a, vs, xs, q1, rfl, q2, q3⟩
      | wl ws => cases h
      | ins c fs => cases h
      | dead => cases h
      | dn kvs => cases h
      | dk kvs => cases h
  | tup ws => simp [Cc.top] at h
  | fn i => simp [Cc.top] at h
  | pr x y => simp [Cc.top] at h
  | fd x => simp [Cc.top] at h
  | clo k o ws => cases r
variable {K : PySem.W.Frag}
theorem Tp.int {i : Int} (h : Tp K φ ex H x (.int i)) : x = .int i := by
  rcases h with h | ⟨_, _, _, _, h, _⟩
  · cases h; rfl
  · cases h
theorem Tp.str {i : Str} (h : Tp K φ ex H x (.str i)) : x = .str i := by
  rcases h with h | ⟨_, _, _, _, h, _⟩
  · cases h; rfl
  · cases h
theorem Tp.bl {i : Bool} (h : Tp K φ ex H x (.bool i)) : x = .bl i := by
  rcases h with h | ⟨_, _, _, _, h, _⟩
  · cases h; rfl
  · cases h
theorem Tp.non (h : Tp K φ ex H x .none) : x = .non := by
  rcases h with h | ⟨_, _, _, _, h, _⟩
  · cases h; rfl
  · cases h
theorem Tp.tup {ds : List PyData} (h : Tp K φ ex H x (.tuple ds)) : ∃ a vs, x = .ref a ∧ SqT K H a vs ∧ RpL K φ ex H vs ds := by
  rcases h with h | ⟨_, _, _, _, h, _⟩
  · cases h with
    | tup h r => exact ⟨_, _, rfl, h.elim (fun q => .inl q.1.rd) fun q => .inr q.old, r⟩
  · cases h
theorem Tp.lst {ds : List PyData} (h : Tp K φ ex H x (.list ds)) : ∃ a vs, x = .ref a ∧ Rd H a (.lst vs) ∧ RpL K φ ex H vs ds := by
  rcases h with h | ⟨_, _, _, e, h, q, r⟩
  · cases h with
    | lst h n r => exact ⟨_, _, rfl, h, r⟩
  · cases h; exact ⟨_, _, e, .of q, r⟩
theorem Tp.dp {d : PyData} (h : Tp K φ ex H x d) : Dp K H x d := by
  rcases h with h | ⟨a, vs, ds, rfl, rfl, q, r⟩
  · exact h.dp
  · exact .lst (.of q) r.dp
theorem Tp.dict {kvs : List (PyData × PyData)} (h : Tp K φ ex H x (.dict kvs)) : False := by
  rcases h with h | ⟨_, _, _, _, h, _⟩
  · cases h
  · cases h
/-- a new tuple, a new list of data -/
theorem Sim.newTup (S : Sim R φ ex H s) {vs : List V} {ds : List PyData} (r : RpL R.K φ ex H vs ds) {p : Addr} {o : Obj} (hp : H p = none) (hd : o.dict = Option.none) :
    Ext φ H φ (upd H p (.frz o (.tup vs))) ∧ Sim R φ ex (upd H p (.frz o (.tup vs))) s ∧ Rp R.K φ ex (upd H p (.frz o (.tup vs))) (.ref p) (.tuple ds) := by
  obtain ⟨e, S'⟩ := S.new (o := .frz o (.tup vs)) hp
  exact ⟨e, S', .tup (.inl ⟨⟨o, upd_same, hd⟩, S.fresh hp⟩) (RpL.ext e _ _ r)⟩
theorem Sim.newLst (S : Sim R φ ex H s) {vs : List V} {ds : List PyData} (r : RpL R.K φ ex H vs ds) {p : Addr} (hp : H p = none) :
    Ext φ H φ (upd H p (.lst vs)) ∧ Sim R φ ex (upd H p (.lst vs)) s ∧ Rp R.K φ ex (upd H p (.lst vs)) (.ref p) (.list ds) := by
  obtain ⟨e, S'⟩ := S.new (o := .lst vs) hp
  exact ⟨e, S', .lst (.inl upd_same) (S.fresh hp) (RpL.ext e _ _ r)⟩
end
/-- an operation on data, by values -/
def Ret (R : Gt) (φ : Ph) (ex : List Addr) (H : Hp) (s : Store) (z : PyData) (Q : VK) : Prop := ∀ v H', Ext φ H φ H' → Sim R φ ex H' s → Rp R.K φ ex H' v z → Q v H'
def rD2 (R : Gt) (f : PyData → PyData → Option PyData) : R2 := fun x y H Q => ∃ φ ex s dx dy z, Sim R φ ex H s ∧ Tp R.K φ ex H x dx ∧ Tp R.K φ ex H y dy ∧ f dx dy = some z ∧ Ret R φ ex H s z Q
section
variable {R : Gt} {ex : List Addr} {φ : Ph} {H : Hp} {s : Store} {Q : VK}
theorem Ret.here {z : PyData} {v : V} (h : Ret R φ ex H s z Q) (S : Sim R φ ex H s) (r : Rp R.K φ ex H v z) : Q v H := h v H (Ext.refl _ _) S r
theorem Ret.tup {vs : List V} {ds : List PyData} (h : Ret R φ ex H s (.tuple ds) Q) (S : Sim R φ ex H s) (r : RpL R.K φ ex H vs ds) : Cd.NewT H vs Q := fun p o hp hd =>
  let ⟨e, S', q⟩ := S.newTup r hp hd
  h _ _ e S' q
theorem Ret.lst {vs : List V} {ds : List PyData} {p : Addr} (h : Ret R φ ex H s (.list ds) Q) (S : Sim R φ ex H s) (r : RpL R.K φ ex H vs ds) (hp : H p = none) : Q (.ref p) (upd H p (.lst vs)) :=
  let ⟨e, S', q⟩ := S.newLst r hp
  h _ _ e S' q
end
/-! ### a tuple repeated -/
theorem tuple_mul_one (l : Addr) (items : Array Value) (n : Nat) (dd : Option Addr) (sl : Array (Option Value)) (x : Int) (u : Tok) (c0 : (decide (x < -(2 ^ 63)) || decide (x ≥ 2 ^ 63)) = false) (c1 : (items.isEmpty || x == 1) = true) :
    Meets (Builtin.«tuple.__mul__» ⟨[.ref l, .int x u], []⟩) (fun _ R s => s.heap.get? l = some { cls := .type "tuple", dict := dd, data := .seq items n, slots := sl } ∧ R (.ok (.ret (Value.ref l))) s) :=
  .of_wp fun prog w A R s h => by
    obtain ⟨hp, g, d, tk, os⟩ := s
    obtain ⟨hl, h⟩ := h
    have f1 := AutoSeq1.idx_int
    wp_walk using wpAny_loadPart' hl
    repeat (first
      | (refine wpAny_ite_false (decide_eq_false (by rw [c0]; exact Bool.false_ne_true)) ?_; wp_walk using wpAny_loadPart' hl)
      | (refine wpAny_ite_true (decide_eq_true (by rw [c1])) ?_; wp_walk using wpAny_loadPart' hl))
    exact ⟨_, rfl, h⟩
theorem tuple_mul_zero (l : Addr) (items : Array Value) (n : Nat) (dd : Option Addr) (sl : Array (Option Value)) (x : Int) (u : Tok) (c0 : (decide (x < -(2 ^ 63)) || decide (x ≥ 2 ^ 63)) = false) (c1 : (items.isEmpty || x == 1) = false) (c2 : (decide (x ≤ 0) || items.isEmpty) = true) :
    Meets (Builtin.«tuple.__mul__» ⟨[.ref l, .int x u], []⟩) (fun _ R s => s.heap.get? l = some { cls := .type "tuple", dict := dd, data := .seq items n, slots := sl } ∧
      R (.ok (.ret (Value.ref s.heap.objs.size))) { s with heap := s.heap.push { cls := Value.type "tuple", data := Data.seq #[] }, toks := s.toks }) :=
  .of_wp fun prog w A R s h => by
    obtain ⟨hp, g, d, tk, os⟩ := s
    obtain ⟨hl, h⟩ := h
    have f1 := AutoSeq1.idx_int
    wp_walk using wpAny_loadPart' hl
    repeat (first
      | (refine wpAny_ite_false (decide_eq_false (by rw [c0]; exact Bool.false_ne_true)) ?_; wp_walk using wpAny_loadPart' hl)
      | (refine wpAny_ite_false (decide_eq_false (by rw [c1]; exact Bool.false_ne_true)) ?_; wp_walk using wpAny_loadPart' hl)
      | (refine wpAny_ite_true (decide_eq_true (by rw [c2])) ?_; wp_walk using wpAny_loadPart' hl))
    exact ⟨_, rfl, h⟩
theorem tuple_mul_two (l : Addr) (items : Array Value) (n : Nat) (dd : Option Addr) (sl : Array (Option Value)) (u : Tok) (c1 : (items.isEmpty || (2 : Int) == 1) = false) (c2 : (decide ((2 : Int) ≤ 0) || items.isEmpty) = false) (c3 : (items.size : Int) * 2 ≤ (2 ^ 63 - 1) / 8) (c4 : Builtin.Tuple.tupleTooMany ((items.size : Int) * 2) = false) (c5 : (items ++ items).size ≤ sizeLine) :
    Meets (Builtin.«tuple.__mul__» ⟨[.ref l, .int 2 u], []⟩) (fun _ R s => s.heap.get? l = some { cls := .type "tuple", dict := dd, data := .seq items n, slots := sl } ∧
      R (.ok (.ret (Value.ref s.heap.objs.size))) { s with heap := s.heap.push { cls := Value.type "tuple", data := Data.seq (items ++ items) }, toks := s.toks }) :=
  .of_wp fun prog w A R s h => by
    obtain ⟨hp, g, d, tk, os⟩ := s
    obtain ⟨hl, h⟩ := h
    have f1 := AutoSeq1.idx_int
    have c0 : (decide ((2 : Int) < -(2 ^ 63)) || decide ((2 : Int) ≥ 2 ^ 63)) = false := by decide
    wp_walk using wpAny_loadPart' hl
    repeat (first
      | (refine wpAny_ite_false (decide_eq_false (by rw [c0]; exact Bool.false_ne_true)) ?_; wp_walk using wpAny_loadPart' hl)
      | (refine wpAny_ite_false (decide_eq_false (by rw [c1]; exact Bool.false_ne_true)) ?_; wp_walk using wpAny_loadPart' hl)
      | (refine wpAny_ite_false (decide_eq_false (by rw [c2]; exact Bool.false_ne_true)) ?_; wp_walk using wpAny_loadPart' hl)
      | (refine wpAny_ite_false (decide_eq_false (by omega)) ?_; wp_walk using wpAny_loadPart' hl)
      | (refine wpAny_ite_false (decide_eq_false (by rw [c4]; exact Bool.false_ne_true)) ?_; wp_walk using wpAny_loadPart' hl))
    have ef : List.foldl (fun x1 x2 : Array Value => x1 ++ x2) #[] (List.replicate (Int.toNat 2) items) = items ++ items := by
      show (#[] ++ items) ++ items = _
      rw [Array.empty_append]
    rw [ef]
    refine wpAny_ite_false (decide_eq_false (Nat.not_lt.mpr c5)) ?_
    wp_walk using wpAny_loadPart' hl
    exact ⟨_, rfl, h⟩
/-- (a, ..) * 1 is the tuple itself, (a, ..) * 0 a new empty one -/
def rRep01 (K : PySem.W.Frag) : R2 := fun x y H Q => ∃ l k xs, x = .ref l ∧ y = .int k ∧ SqT K H l xs ∧ ((k = 1 ∧ Q (.ref l) H) ∨ (k = 0 ∧ xs ≠ [] ∧ Cd.NewT H [] Q))
theorem op_rep01 {X : Cx} : OpR X (binaryOp .Mult) (rRep01 X.K) := by
  intro pins s σ H x y v u Q I rx ry h
  obtain ⟨l, k, xs, rfl, rfl, hT, q⟩ := h
  cases rx
  obtain ⟨t, rfl⟩ := ry
  obtain ⟨its, r, ⟨⟨cls, dd, data, sl⟩, ho, hc, n, hd⟩, hs⟩ := I.tuple hT
  simp only at hc hd
  subst hc hd
  rcases q with ⟨rfl, q⟩ | ⟨rfl, hne, q⟩
  · refine wpAny_binaryOp_repeat_ref (T := "tuple") (U := "int") (by decide) ⟨_, ho, rfl⟩ (fun s' => typeIs_int s' 1 t) noFill_tuple_mul F.fills_int_mul F.slot_int_rmul repeat_tuple F.slot_int_index.lookup
      (call_meets F.slot_int_rmul (typeIs_int s 1 t) F.entry_int_rmul (F.args_int_rmul_2 _ _) (int_rmul_tuple 1 t l its.toArray n dd sl)
        ⟨ho, rfl, ⟨_, ho, rfl⟩, call_meets F.slot_tuple_mul ⟨_, ho, rfl⟩ F.entry_tuple_mul (F.args_tuple_mul_2 _ _) (tuple_mul_one l its.toArray n dd sl 1 t (by decide) (by simp)) ⟨ho, ?_⟩⟩)
    exact ⟨.ref l, H, I, rfl, q⟩
  · have hle : its.length = xs.length := r.length.symm
    have hi : its.toArray.isEmpty = false := by
      cases its with
      | nil => exact absurd (List.eq_nil_of_length_eq_zero hle.symm) hne
      | cons a b => rfl
    refine wpAny_binaryOp_repeat_ref (T := "tuple") (U := "int") (by decide) ⟨_, ho, rfl⟩ (fun s' => typeIs_int s' 0 t) noFill_tuple_mul F.fills_int_mul F.slot_int_rmul repeat_tuple F.slot_int_index.lookup
      (call_meets F.slot_int_rmul (typeIs_int s 0 t) F.entry_int_rmul (F.args_int_rmul_2 _ _) (int_rmul_tuple 0 t l its.toArray n dd sl)
        ⟨ho, rfl, ⟨_, ho, rfl⟩, call_meets F.slot_tuple_mul ⟨_, ho, rfl⟩ F.entry_tuple_mul (F.args_tuple_mul_2 _ _) (tuple_mul_zero l its.toArray n dd sl 0 t (by decide) (by rw [hi]; rfl) (by simp)) ⟨ho, ?_⟩⟩)
    exact Cd.laidT (t' := s.toks) (its := []) I .nil (by simp) q
/-- (a, ..) * 2 is a new tuple -/
theorem op_rep2 {X : Cx} : OpR X (binaryOp .Mult) (fun x y H Q => ∃ l xs, x = .ref l ∧ y = .int 2 ∧ SqT X.K H l xs ∧ xs ≠ [] ∧ xs.length * 2 ≤ sizeLine ∧ Cd.NewT H (xs ++ xs) Q) := by
  intro pins s σ H x y v u Q I rx ry h
  obtain ⟨l, xs, rfl, rfl, hT, hne, hz, q⟩ := h
  cases rx
  obtain ⟨t, rfl⟩ := ry
  obtain ⟨its, r, ⟨⟨cls, dd, data, sl⟩, ho, hc, n, hd⟩, hs⟩ := I.tuple hT
  simp only at hc hd
  subst hc hd
  have hle : its.length = xs.length := r.length.symm
  have hi : its.toArray.isEmpty = false := by
    cases its with
    | nil => exact absurd (List.eq_nil_of_length_eq_zero hle.symm) hne
    | cons a b => rfl
  have e24 : sizeLine = 16777216 := by decide
  refine wpAny_binaryOp_repeat_ref (T := "tuple") (U := "int") (by decide) ⟨_, ho, rfl⟩ (fun s' => typeIs_int s' 2 t) noFill_tuple_mul F.fills_int_mul F.slot_int_rmul repeat_tuple F.slot_int_index.lookup
    (call_meets F.slot_int_rmul (typeIs_int s 2 t) F.entry_int_rmul (F.args_int_rmul_2 _ _) (int_rmul_tuple 2 t l its.toArray n dd sl)
      ⟨ho, rfl, ⟨_, ho, rfl⟩, call_meets F.slot_tuple_mul ⟨_, ho, rfl⟩ F.entry_tuple_mul (F.args_tuple_mul_2 _ _) (tuple_mul_two l its.toArray n dd sl t (by rw [hi]; decide) (by rw [hi]; decide) (by rw [List.size_toArray]; omega) (by unfold Builtin.Tuple.tupleTooMany; rw [List.size_toArray]; exact decide_eq_false (by omega)) (by rw [Array.size_append, List.size_toArray]; omega)) ⟨ho, ?_⟩⟩)
  have ea : its.toArray ++ its.toArray = (its ++ its).toArray := by simp
  rw [ea]
  exact Cd.laidT (t' := s.toks) (its := its ++ its) I (r.append r) (by rw [List.length_append]; omega) q
/-! ### operators -/
theorem rd_lst {X : Cx} {pins : List (Addr × Obj)} {σ : L2.St} {H : Hp} {s : Shared} {a : Addr} {xs : List V} (I : Inv X pins σ H s) (h : Rd H a (.lst xs)) :
    xs.length ≤ sizeLine ∧ ∃ (its : List Value) (n : Nat), Vals xs its ∧ s.heap.get? a = some { cls := .type "list", data := .seq its.toArray n } := by
  obtain ⟨z, its, n, r, e⟩ := h.ok I.hok
  exact ⟨z, its, n, r, e⟩
section
variable {X : Cx} {R : Gt}
/-- two lists that are read, one behind the other, as a new one -/
theorem op_catL : OpR X (binaryOp .Add) (fun x y H Q => ∃ l b xs zs, x = .ref l ∧ y = .ref b ∧ Rd H l (.lst xs) ∧ Rd H b (.lst zs) ∧ xs.length + zs.length ≤ sizeLine ∧ ∀ p, H p = none → Q (.ref p) (upd H p (.lst (xs ++ zs)))) := by
  rintro pins s σ H x y v u Q I rx ry ⟨l, b, xs, zs, rfl, rfl, hl, hb, hz, q⟩
  cases rx
  cases ry
  obtain ⟨z, its, n, r, e⟩ := rd_lst I hl
  obtain ⟨z2, its2, n2, r2, e2⟩ := rd_lst I hb
  have l1 := r.length
  have l2 := r2.length
  refine PySem.P.add_list e e2 ?_ (by rw [List.size_toArray, List.size_toArray]; omega)
  have ea : its.toArray ++ its2.toArray = (its ++ its2).toArray := by simp
  rw [ea]
  exact ⟨.ref _, _, I.lnew (t' := s.toks) (r.append r2) (by rw [List.length_append]; omega), rfl, q _ I.fresh⟩
theorem o_add (hK : X.K = R.K) : OpR X (binaryOp .Add) (rD2 R (bopD .add)) := by
  rintro pins s σ H x y v u Q I rx ry ⟨φ, ex, st, dx, dy, z, S, tx, ty, hz, hQ⟩
  cases dx <;> cases dy <;> simp only [bopD] at hz <;> try (cases hz; done)
  case int.int i j =>
    cases hz
    exact op_add pins s σ H x y v u Q I rx ry ⟨i, j, tx.int, ty.int, hQ.here S (.int _)⟩
  case str.str i j =>
    split at hz
    · cases hz
      exact op_add_str pins s σ H x y v u Q I rx ry ⟨i, j, tx.str, ty.str, by assumption, hQ.here S (.str _)⟩
    · cases hz
  case list.list xs ys =>
    split at hz
    · rename_i hl
      cases hz
      obtain ⟨a, vs, e, h, r⟩ := tx.lst
      obtain ⟨b, us, e2, h2, r2⟩ := ty.lst
      refine op_catL pins s σ H x y v u Q I rx ry ⟨a, b, vs, us, e, e2, h, h2, by rw [r.length, r2.length]; exact hl, fun p hp => ?_⟩
      exact hQ.lst S (r.append r2) hp
    · cases hz
  case tuple.tuple xs ys =>
    split at hz
    · rename_i hl
      cases hz
      obtain ⟨a, vs, e, h, r⟩ := tx.tup
      obtain ⟨b, us, e2, h2, r2⟩ := ty.tup
      rw [← hK] at h h2
      refine Cd.op_catX pins s σ H x y v u Q I rx ry ⟨a, b, vs, us, e, e2, h, h2, by rw [r.length, r2.length]; exact hl, fun e3 => ?_, fun e3 e4 => ?_, fun e3 e4 => ?_⟩
      · subst e3
        cases r
        subst e2
        rcases ty with t | ⟨_, _, _, _, t, _⟩
        · exact hQ.here S t
        · cases t
      · subst e4
        cases r2
        subst e
        rcases tx with t | ⟨_, _, _, _, t, _⟩
        · rw [List.append_nil] at hQ; exact hQ.here S t
        · cases t
      · exact hQ.tup S (r.append r2)
    · cases hz
theorem intOp {op : Operator} {o : Bop} {C : Int → Int → Prop} {g : Int → Int → Int} (ho : OpR X (binaryOp op) (rI C fun i j => .int (g i j)))
    (h : ∀ dx dy z, bopD o dx dy = some z → ∃ i j, dx = .int i ∧ dy = .int j ∧ C i j ∧ z = .int (g i j)) : OpR X (binaryOp op) (rD2 R (bopD o)) := by
  rintro pins s σ H x y v u Q I rx ry ⟨φ, ex, st, dx, dy, z, S, tx, ty, hz, hQ⟩
  obtain ⟨i, j, rfl, rfl, c, rfl⟩ := h _ _ _ hz
  exact ho pins s σ H x y v u Q I rx ry ⟨i, j, tx.int, ty.int, c, hQ.here S (.int _)⟩
theorem o_sub : OpR X (binaryOp .Sub) (rD2 R (bopD .sub)) := intOp (C := fun _ _ => True) (opImp op_sub fun x y H Q ⟨i, j, a, b, _, q⟩ => ⟨i, j, a, b, q⟩) fun dx dy z h => by
  cases dx <;> cases dy <;> simp only [bopD] at h <;> first | (cases h; done) | (cases h; exact ⟨_, _, rfl, rfl, trivial, rfl⟩)
theorem rep_len (a : Array Nat) : ∀ (n : Nat) (acc : Array Nat), ((List.replicate n a).foldl (· ++ ·) acc).size = acc.size + n * a.size
  | 0, acc => by simp
  | n + 1, acc => by
    rw [List.replicate_succ, List.foldl_cons, rep_len a n (acc ++ a), Array.size_append, Nat.succ_mul]
    omega
theorem o_mul (hK : X.K = R.K) : OpR X (binaryOp .Mult) (rD2 R (bopD .mul)) := by
  rintro pins s σ H x y v u Q I rx ry ⟨φ, ex, st, dx, dy, z, S, tx, ty, hz, hQ⟩
  cases dx <;> cases dy <;> simp only [bopD] at hz <;> try (cases hz; done)
  · rename_i i j
    split at hz
    · rename_i k
      cases hz
      refine op_mul pins s σ H x y v u Q I rx ry ⟨_, _, tx.int, ty.int, ?_, hQ.here S (.int _)⟩
      exact (Bool.or_eq_true_iff.mp k).imp mulB_iff mulB_iff
    · cases hz
  · rename_i z0 j
    have e1 := tx.str
    have e2 := ty.int
    subst e1 e2
    obtain ⟨t, rfl⟩ := rx
    obtain ⟨t2, rfl⟩ := ry
    split at hz
    · rename_i hj
      subst hj
      cases hz
      refine P.mul_str (by decide) (fun _ z => by simp at z) (fun _ z => by simp at z) ?_
      rw [if_neg (by decide), if_pos (by rfl)]
      exact ⟨.str z0, H, I, ⟨_, rfl⟩, hQ.here S (.str _)⟩
    · split at hz
      · rename_i hj
        subst hj
        cases hz
        refine P.mul_str_none (by decide) (by decide) ?_
        exact ⟨.str ⟨#[]⟩, H, I.kept (t' := s.toks + 1) fun _ _ e => e, ⟨_, rfl⟩, hQ.here S (.str _)⟩
      · split at hz
        · rename_i hj
          obtain ⟨j1, j2, x1, x2⟩ := hj
          cases hz
          have lo : (decide (j < -(2 ^ 63 : Int)) || decide (j ≥ 2 ^ 63)) = false := by
            have a1 : ¬ j < -(2 ^ 63 : Int) := by omega
            have a2 : ¬ j ≥ (2 ^ 63 : Int) := by omega
            rw [decide_eq_false a1, decide_eq_false a2]; rfl
          have hone : (j == 1 || z0.length == 0) = false := by
            have b1 : (j == 1) = false := beq_eq_false_iff_ne.mpr (by omega)
            have b2 : (z0.length == 0) = false := beq_eq_false_iff_ne.mpr (by omega)
            rw [b1, b2]; rfl
          refine P.mul_str lo (fun _ _ h => ?_) (fun _ _ => ?_) ?_
          · have d1 : (1000 : Int) ≤ (2 ^ 63 - 1) / j := (Int.le_ediv_iff_mul_le (by omega)).mpr (by omega)
            omega
          · have : z0.length * j.toNat ≤ 1000 * 1000 := Nat.mul_le_mul x2 (by omega)
            unfold Builtin.Str.tooLong
            exact decide_eq_false (by rw [sizeLine_eq]; omega)
          · rw [if_neg (by omega), hone, if_neg (by decide)]
            refine ⟨?_, ⟨.str (repS z0 j.toNat), H, I.kept (t' := s.toks + 1) fun _ _ e => e, ⟨_, rfl⟩, hQ.here S (.str _)⟩⟩
            have hl := rep_len z0.cps j.toNat #[]
            have : j.toNat * z0.length ≤ 1000 * 1000 := Nat.mul_le_mul (by omega) x2
            rw [sizeLine_eq]
            show (List.foldl (fun x1 x2 => x1 ++ x2) #[] (List.replicate j.toNat z0.cps)).size ≤ _
            rw [hl]
            simp only [List.size_toArray, List.length_nil]
            show 0 + j.toNat * z0.length ≤ _
            omega
        · cases hz
  · rename_i xs j
    obtain ⟨a, vs, rfl, hT, r⟩ := tx.tup
    have hy := ty.int
    split at hz
    · rename_i hj
      subst hj
      cases hz
      refine op_rep01 pins s σ H _ y v u Q I rx ry ⟨a, 1, vs, rfl, hy, by rw [hK]; exact hT, .inl ⟨rfl, hQ.here S ?_⟩⟩
      rcases tx with h | ⟨_, _, _, _, h, _⟩
      · exact h
      · cases h
    · split at hz
      · rename_i hj
        cases hz
        obtain ⟨rfl, hne⟩ := hj
        refine op_rep01 pins s σ H _ y v u Q I rx ry ⟨a, 0, vs, rfl, hy, by rw [hK]; exact hT, .inr ⟨rfl, fun e => ?_, hQ.tup S .nil⟩⟩
        subst e
        have := r.length
        cases xs with
        | nil => cases hne
        | cons x xs => simp at this
      · split at hz
        · rename_i hj
          cases hz
          obtain ⟨rfl, hne, hl⟩ := hj
          refine op_rep2 pins s σ H _ y v u Q I rx ry ⟨a, vs, rfl, hy, by rw [hK]; exact hT, fun e => ?_, by rw [r.length]; exact hl, hQ.tup S (r.append r)⟩
          subst e
          have := r.length
          cases xs with
          | nil => cases hne
          | cons x xs => simp at this
        · cases hz
theorem o_fdiv : OpR X (binaryOp .FloorDiv) (rD2 R (bopD .fdiv)) := intOp op_fdivW fun dx dy z h => by
  cases dx <;> cases dy <;> simp only [bopD] at h <;> try (cases h; done)
  split at h
  · rename_i k
    cases h
    exact ⟨_, _, rfl, rfl, k, rfl⟩
  · cases h
theorem o_mod : OpR X (binaryOp .Mod) (rD2 R (bopD .mod)) := intOp op_mod fun dx dy z h => by
  cases dx <;> cases dy <;> simp only [bopD] at h <;> try (cases h; done)
  split at h
  · rename_i k
    cases h
    exact ⟨_, _, rfl, rfl, k, rfl⟩
  · cases h
theorem o_pow : OpR X (binaryOp .Pow) (rD2 R (bopD .pow)) := intOp op_pow fun dx dy z h => by
  cases dx <;> cases dy <;> simp only [bopD] at h <;> try (cases h; done)
  split at h
  · rename_i k
    cases h
    exact ⟨_, _, rfl, rfl, k, rfl⟩
  · cases h
theorem o_band : OpR X (binaryOp .BitAnd) (rD2 R (bopD .band)) := intOp (C := fun _ _ => True) (opImp op_and fun x y H Q ⟨i, j, a, b, _, q⟩ => ⟨i, j, a, b, q⟩) fun dx dy z h => by
  cases dx <;> cases dy <;> simp only [bopD] at h <;> first | (cases h; done) | (cases h; exact ⟨_, _, rfl, rfl, trivial, rfl⟩)
theorem o_bor : OpR X (binaryOp .BitOr) (rD2 R (bopD .bor)) := intOp (C := fun _ _ => True) (opImp op_or fun x y H Q ⟨i, j, a, b, _, q⟩ => ⟨i, j, a, b, q⟩) fun dx dy z h => by
  cases dx <;> cases dy <;> simp only [bopD] at h <;> first | (cases h; done) | (cases h; exact ⟨_, _, rfl, rfl, trivial, rfl⟩)
theorem o_bin (hK : X.K = R.K) {op : Operator} {o : Bop} (h : bopOf op = some o) : OpR X (binaryOp op) (rD2 R (bopD o)) := by
  cases op <;> simp only [bopOf] at h <;> first | (cases h; done) | (cases h)
  · exact o_add hK
  · exact o_sub
  · exact o_mul hK
  · exact o_mod
  · exact o_pow
  · exact o_bor
  · exact o_band
  · exact o_fdiv
/-! ### comparisons -/
theorem reads_of {pins : List (Addr × Obj)} {σ : L2.St} {H : Hp} {s : Shared} {φ : Ph} {ex : List Addr} {x : V} {u : Value} {d : PyData} (hK : X.K = R.K) (I : Inv X pins σ H s) (t : Tp R.K φ ex H x d) (r : RelV x u) : ∃ as, Reads s.heap u d as := by
  have := t.dp
  rw [← hK] at this
  exact Dp.reads I d x u this r
def rC2 (R : Gt) (f : W → W → Store → Option Bool) : R2 := fun x y H Q => ∃ φ ex s wx wy k, Sim R φ ex H s ∧ RpW R φ ex H x wx ∧ RpW R φ ex H y wy ∧ f wx wy s = some k ∧ Q (.bl k) H
theorem scP_scal {φ : Ph} {ex : List Addr} {H : Hp} {x y : V} {dx dy : PyData} (tx : Tp R.K φ ex H x dx) (ty : Tp R.K φ ex H y dy) (h : scP dx dy = true) : scal x y = true ∧ decide (x = y) = PyData.eqv dx dy := by
  cases dx <;> cases dy <;> simp only [scP] at h <;> first | (cases h; done) | skip
  all_goals first
    | (rw [tx.non, ty.non]; exact ⟨rfl, rfl⟩)
    | (rw [tx.non, ty.bl]; exact ⟨rfl, rfl⟩)
    | (rw [tx.non, ty.int]; exact ⟨rfl, rfl⟩)
    | (rw [tx.non, ty.str]; exact ⟨rfl, rfl⟩)
    | (rw [tx.bl, ty.non]; exact ⟨rfl, rfl⟩)
    | (rw [tx.bl, ty.bl]; exact ⟨rfl, dec_bl⟩)
    | (rw [tx.bl, ty.str]; exact ⟨rfl, rfl⟩)
    | (rw [tx.int, ty.non]; exact ⟨rfl, rfl⟩)
    | (rw [tx.int, ty.int]; exact ⟨rfl, dec_int⟩)
    | (rw [tx.int, ty.str]; exact ⟨rfl, rfl⟩)
    | (rw [tx.str, ty.non]; exact ⟨rfl, rfl⟩)
    | (rw [tx.str, ty.bl]; exact ⟨rfl, rfl⟩)
    | (rw [tx.str, ty.int]; exact ⟨rfl, rfl⟩)
    | (rw [tx.str, ty.str]; exact ⟨rfl, dec_str⟩)
theorem top2 {s : Store} {wx wy : W} {f : PyData → PyData → Option Bool} {k : Bool} (h : (do f (← top s wx) (← top s wy)) = some k) : ∃ dx dy, top s wx = some dx ∧ top s wy = some dy ∧ f dx dy = some k := by
  cases h1 : top s wx with
  | none => rw [h1] at h; cases h
  | some dx =>
    cases h2 : top s wy with
    | none => rw [h1, h2] at h; cases h
    | some dy => rw [h1, h2] at h; exact ⟨dx, dy, rfl, rfl, h⟩
theorem eq_room {A : Around} {da db : PyData} (h : SeqAt.shaped da = true) (hu : A.units + 64 < cLine) : A.units + min da.depth db.depth < cLine := by
  have := SeqAt.depth_of_shaped h
  have : min da.depth db.depth ≤ da.depth := Nat.min_le_left _ _
  omega
theorem o_eq (hK : X.K = R.K) (hu : X.A.units + 64 < cLine) : OpR X (compareOp .Eq) (rC2 R fun x y s => cmpW .eq s x y) := by
  rintro pins s σ H x y v u Q I rx ry ⟨φ, ex, st, wx, wy, k, S, qx, qy, hk, hQ⟩
  obtain ⟨dx, dy, t1, t2, e⟩ := top2 hk
  have tx := S.top qx t1
  have ty := S.top qy t2
  simp only [cmpD, eqD] at e
  split at e
  · rename_i h
    obtain ⟨h1, h2⟩ := scP_scal tx ty h
    cases e
    exact op_eq pins s σ H x y v u Q I rx ry ⟨h1, by rw [h2]; exact hQ⟩
  · split at e
    · rename_i h
      cases e
      rw [Bool.and_eq_true] at h
      obtain ⟨as, r1⟩ := reads_of hK I tx rx
      obtain ⟨bs, r2⟩ := reads_of hK I ty ry
      exact SeqAt.compareEq_reads r1 r2 (SeqAt.canLay_of_shaped h.1) h.2 (eq_room h.1 hu) ⟨.bl _, H, I, rfl, hQ⟩
    · cases e
theorem o_ne (hK : X.K = R.K) (hu : X.A.units + 64 < cLine) : OpR X (compareOp .NotEq) (rC2 R fun x y s => cmpW .ne s x y) := by
  rintro pins s σ H x y v u Q I rx ry ⟨φ, ex, st, wx, wy, k, S, qx, qy, hk, hQ⟩
  obtain ⟨dx, dy, t1, t2, e⟩ := top2 hk
  have tx := S.top qx t1
  have ty := S.top qy t2
  simp only [cmpD, eqD] at e
  split at e
  · rename_i h
    obtain ⟨h1, h2⟩ := scP_scal tx ty h
    cases e
    exact op_ne pins s σ H x y v u Q I rx ry ⟨h1, by rw [h2]; exact hQ⟩
  · split at e
    · rename_i h
      cases e
      rw [Bool.and_eq_true] at h
      obtain ⟨as, r1⟩ := reads_of hK I tx rx
      obtain ⟨bs, r2⟩ := reads_of hK I ty ry
      exact SeqAt.compareNe_reads r1 r2 (SeqAt.canLay_of_shaped h.1) h.2 (eq_room h.1 hu) ⟨.bl _, H, I, rfl, hQ⟩
    · cases e
theorem cmpInt {op : CmpOp} {o : Cop} {g : Int → Int → Bool} (ho : OpR X (compareOp op) (rI0 fun i j => .bl (g i j))) (ne : o ≠ .is_ ∧ o ≠ .isnot ∧ o ≠ .isin ∧ o ≠ .notin)
    (h : ∀ dx dy k, cmpD o dx dy = some k → ∃ i j, dx = .int i ∧ dy = .int j ∧ k = g i j) : OpR X (compareOp op) (rC2 R fun x y s => cmpW o s x y) := by
  rintro pins s σ H x y v u Q I rx ry ⟨φ, ex, st, wx, wy, k, S, qx, qy, hk, hQ⟩
  have hk' : (do cmpD o (← top st wx) (← top st wy)) = some k := by
    cases o <;> first | exact hk | exact absurd rfl ne.1 | exact absurd rfl ne.2.1 | exact absurd rfl ne.2.2.1 | exact absurd rfl ne.2.2.2
  obtain ⟨dx, dy, t1, t2, e⟩ := top2 hk'
  obtain ⟨i, j, rfl, rfl, rfl⟩ := h _ _ _ e
  exact ho pins s σ H x y v u Q I rx ry ⟨i, j, (S.top qx t1).int, (S.top qy t2).int, hQ⟩
theorem o_lt : OpR X (compareOp .Lt) (rC2 R fun x y s => cmpW .lt s x y) := cmpInt op_lt (by decide) fun dx dy k h => by
  cases dx <;> cases dy <;> simp only [cmpD] at h <;> first | (cases h; done) | (cases h; exact ⟨_, _, rfl, rfl, rfl⟩)
theorem o_le : OpR X (compareOp .LtE) (rC2 R fun x y s => cmpW .le s x y) := cmpInt op_le (by decide) fun dx dy k h => by
  cases dx <;> cases dy <;> simp only [cmpD] at h <;> first | (cases h; done) | (cases h; exact ⟨_, _, rfl, rfl, rfl⟩)
theorem o_gt : OpR X (compareOp .Gt) (rC2 R fun x y s => cmpW .gt s x y) := cmpInt op_gt (by decide) fun dx dy k h => by
  cases dx <;> cases dy <;> simp only [cmpD] at h <;> first | (cases h; done) | (cases h; exact ⟨_, _, rfl, rfl, rfl⟩)
theorem o_ge (hK : X.K = R.K) (hu : X.A.units + 64 < cLine) : OpR X (compareOp .GtE) (rC2 R fun x y s => cmpW .ge s x y) := by
  rintro pins s σ H x y v u Q I rx ry ⟨φ, ex, st, wx, wy, k, S, qx, qy, hk, hQ⟩
  obtain ⟨dx, dy, t1, t2, e⟩ := top2 hk
  have tx := S.top qx t1
  have ty := S.top qy t2
  have onI : ∀ i j : Int, dx = .int i → dy = .int j → k = decide (j ≤ i) → wpAny (model X.prog X.w) X.A (compareOp .GtE v u) (EP X pins σ Q) X.xe s := fun i j e1 e2 e3 => by
    subst e1 e2 e3
    exact op_ge pins s σ H x y v u Q I rx ry ⟨i, j, tx.int, ty.int, hQ⟩
  cases dx <;> cases dy <;> simp only [cmpD] at e <;> first | (cases e; done) | skip
  · cases e
    exact onI _ _ rfl rfl rfl
  · split at e
    · rename_i h
      cases e
      rw [Bool.and_eq_true] at h
      obtain ⟨as, r1⟩ := reads_of hK I tx rx
      obtain ⟨bs, r2⟩ := reads_of hK I ty ry
      have hd := Nat.le_of_ble_eq_true h.2
      exact PySem.W.ge_data r1 r2 h.1 (fun z => nomatch z) (Nat.lt_of_le_of_lt (Nat.add_le_add_left (Nat.min_le_left _ _) _) (by omega)) ⟨.bl _, H, I, rfl, hQ⟩
    · cases e
theorem in_room {A : Around} {da : PyData} {n : Nat} (h : SeqAt.shaped da = true) (hu : A.units + 65 < cLine) : A.units + 1 + min n da.depth < cLine := by
  have := SeqAt.depth_of_shaped h
  have : min n da.depth ≤ da.depth := Nat.min_le_right _ _
  omega
theorem in_run (hK : X.K = R.K) (hu : X.A.units + 65 < cLine) {pins : List (Addr × Obj)} {σ : L2.St} {H : Hp} {s : Shared} {φ : Ph} {ex : List Addr} {x y : V} {v u : Value} {dx dy : PyData} {k : Bool} (I : Inv X pins σ H s)
    (tx : Tp R.K φ ex H x dx) (ty : Tp R.K φ ex H y dy) (rx : RelV x v) (ry : RelV y u) (e : inD dx dy = some k) {E : Value → Shared → Prop} :
    (∀ (Q : Value → Shared → Prop), Q (.bool k) s → wpAny (model X.prog X.w) X.A (compareOp .In v u) Q E s) ∧ ∀ (Q : Value → Shared → Prop), Q (.bool (!k)) s → wpAny (model X.prog X.w) X.A (compareOp .NotIn v u) Q E s := by
  obtain ⟨bs, r2⟩ := reads_of hK I ty ry
  unfold inD at e
  split at e
  · split at e
    · rename_i h
      cases e
      rw [Bool.and_eq_true] at h
      obtain ⟨as, r1⟩ := reads_of hK I tx rx
      exact ⟨fun Q q => SeqAt.in_list_reads r2 r1 h.2 (SeqAt.canLay_of_shaped h.1) (in_room h.1 hu) q, fun Q q => SeqAt.notIn_list_reads r2 r1 h.2 (SeqAt.canLay_of_shaped h.1) (in_room h.1 hu) q⟩
    · cases e
  · split at e
    · rename_i h
      cases e
      rw [Bool.and_eq_true] at h
      obtain ⟨as, r1⟩ := reads_of hK I tx rx
      exact ⟨fun Q q => SeqAt.in_tuple_reads r2 r1 h.2 (SeqAt.canLay_of_shaped h.1) (in_room h.1 hu) q, fun Q q => SeqAt.notIn_tuple_reads r2 r1 h.2 (SeqAt.canLay_of_shaped h.1) (in_room h.1 hu) q⟩
    · cases e
  · rename_i z
    split at e
    · rename_i a
      split at e
      · rename_i c hc
        cases e
        have hx := tx.str
        have ha : a = #[c] := by
          apply Array.toList_inj.mp
          exact hc
        subst ha
        have hy := ty.str
        subst hx hy
        obtain ⟨t, rfl⟩ := rx
        obtain ⟨t', rfl⟩ := ry
        refine ⟨fun Q q => PyProof.Rows.in_str ?_, fun Q q => PyProof.Rows.notIn_str ?_⟩
        · rw [PySem.StrLaws.found_one]; exact q
        · rw [PySem.StrLaws.found_one]; exact q
      · cases e
    · cases e
  · cases e
/-- x in y, of data or of a dict -/
theorem inW_cases {s : Store} {wx wy : W} {b : Bool} (h : inW s wx wy = some b) : (∃ dx dy, top s wx = some dx ∧ top s wy = some dy ∧ inD dx dy = some b) ∨ ∃ k kvs, wx = .d k ∧ keyB k = true ∧ dnOf s wy = some kvs ∧ b = (dAt kvs k).isSome := by
  unfold inW at h
  split at h
  · rename_i a c e1 e2
    exact .inl ⟨a, c, e1, e2, h⟩
  · split at h
    · rename_i k kvs e1 e2
      cases h
      obtain ⟨rfl, e3⟩ := keyOf_some e1
      exact .inr ⟨k, kvs, rfl, e3, e2, rfl⟩
    · cases h
theorem val_some {φ : Ph} {ex : List Addr} {H : Hp} {k : PyData} {kvs : List (PyData × W)} {xs : List Cd.Ent} (hk : keyB k = true) (r : DnR R φ ex H kvs xs) : (Cd.valN xs (Cd.nkOf k)).isSome = (dAt kvs k).isSome := by
  rcases r.val hk with ⟨e1, e2⟩ | ⟨_, _, e1, e2, _⟩ <;> rw [e1, e2] <;> rfl
theorem ref_of_key {φ : Ph} {ex : List Addr} {H : Hp} {k : PyData} {x : V} (hk : keyB k = true) (r : Rp R.K φ ex H x k) : ∃ b, x = .ref b := by
  cases k <;> simp only [keyB] at hk <;> first | (cases hk; done) | skip
  cases r
  exact ⟨_, rfl⟩
theorem o_in (hP : X.prog = R.P) (hw : X.w = R.w) (hK : X.K = R.K) (hu : X.A.units + 65 < cLine) : OpR X (compareOp .In) (rC2 R fun x y s => cmpW .isin s x y) := by
  rintro pins s σ H x y v u Q I rx ry ⟨φ, ex, st, wx, wy, k, S, qx, qy, hk, hQ⟩
  rcases inW_cases hk with ⟨dx, dy, t1, t2, e⟩ | ⟨d, kvs, rfl, hd, hn, rfl⟩
  · exact (in_run hK hu I (S.top qx t1) (S.top qy t2) rx ry e).1 _ ⟨.bl _, H, I, rfl, hQ⟩
  · obtain ⟨a, xs, rfl, e, r⟩ := S.dnW hn qy
    cases qx with | d qx =>
    obtain ⟨b, rfl⟩ := ref_of_key hd qx
    obtain rfl : u = Value.ref a := ry
    obtain rfl : v = Value.ref b := rx
    rw [← hP, ← hw] at e
    exact Cd.n_in (by omega) I e (r.keys hK) (nk_of hK hd qx) fun s' I' => ⟨.bl _, H, I', rfl, by rw [val_some hd r]; exact hQ⟩
theorem o_notin (hP : X.prog = R.P) (hw : X.w = R.w) (hK : X.K = R.K) (hu : X.A.units + 65 < cLine) : OpR X (compareOp .NotIn) (rC2 R fun x y s => cmpW .notin s x y) := by
  rintro pins s σ H x y v u Q I rx ry ⟨φ, ex, st, wx, wy, k, S, qx, qy, hk, hQ⟩
  simp only [cmpW, Option.map_eq_some_iff] at hk
  obtain ⟨c, hc, rfl⟩ := hk
  rcases inW_cases hc with ⟨dx, dy, t1, t2, e⟩ | ⟨d, kvs, rfl, hd, hn, rfl⟩
  · exact (in_run hK hu I (S.top qx t1) (S.top qy t2) rx ry e).2 _ ⟨.bl _, H, I, rfl, hQ⟩
  · obtain ⟨a, xs, rfl, e, r⟩ := S.dnW hn qy
    cases qx with | d qx =>
    obtain ⟨b, rfl⟩ := ref_of_key hd qx
    obtain rfl : u = Value.ref a := ry
    obtain rfl : v = Value.ref b := rx
    rw [← hP, ← hw] at e
    exact Cd.n_notIn (by omega) I e (r.keys hK) (nk_of hK hd qx) fun s' I' => ⟨.bl _, H, I', rfl, by rw [val_some hd r]; exact hQ⟩
theorem isW_cases {φ : Ph} {ex : List Addr} {H : Hp} {s : Store} {x y : V} {wx wy : W} {k : Bool} (S : Sim R φ ex H s) (qx : RpW R φ ex H x wx) (qy : RpW R φ ex H y wy) (h : isW s wx wy = some k) :
    (y = .non ∧ k = decide (x = .non)) ∨ ∃ a b : Bool, x = .bl a ∧ y = .bl b ∧ k = decide (a = b) := by
  unfold isW at h
  split at h
  · refine .inl ?_
    cases qy with
    | d qy =>
      cases qy
      refine ⟨rfl, ?_⟩
      cases qx with
      | d q => cases q <;> (simp only [someW] at h; cases h; rfl)
      | ref l q =>
        rename_i n
        simp only [someW] at h
        have key : ∀ c, s[n]? = some c → c ≠ .dead → k = false → k = decide (x = V.non) := fun c e nd hk => by
          rcases S.cell n c e with ⟨z, _⟩ | ⟨a, e2, _⟩
          · exact absurd z nd
          · rw [q a e2, hk]; rfl
        split at h
        · rename_i e; exact key _ e (fun z => nomatch z) (by cases h; rfl)
        · rename_i e; exact key _ e (fun z => nomatch z) (by cases h; rfl)
        · rename_i e; exact key _ e (fun z => nomatch z) (by cases h; rfl)
        · rename_i e; exact key _ e (fun z => nomatch z) (by cases h; rfl)
        · cases h
      | tup => simp only [someW] at h; cases h; rfl
      | fn => simp only [someW] at h; cases h; rfl
      | pr => simp only [someW] at h; cases h
      | fd => simp only [someW] at h; cases h
  · split at h
    · cases h
      cases qx with | d qx => cases qy with | d qy => cases qx; cases qy; exact .inr ⟨_, _, rfl, rfl, rfl⟩
    · cases h
  · cases h
theorem o_is : OpR X (compareOp .Is) (rC2 R fun x y s => cmpW .is_ s x y) := by
  rintro pins s σ H x y v u Q I rx ry ⟨φ, ex, st, wx, wy, k, S, qx, qy, hk, hQ⟩
  rcases isW_cases S qx qy hk with ⟨rfl, rfl⟩ | ⟨a, b, rfl, rfl, rfl⟩
  · exact op_isN pins s σ H x _ v u Q I rx ry ⟨rfl, hQ⟩
  · exact op_isBl pins s σ H _ _ v u Q I rx ry ⟨a, b, rfl, rfl, hQ⟩
theorem o_isnot : OpR X (compareOp .IsNot) (rC2 R fun x y s => cmpW .isnot s x y) := by
  rintro pins s σ H x y v u Q I rx ry ⟨φ, ex, st, wx, wy, k, S, qx, qy, hk, hQ⟩
  simp only [cmpW] at hk
  cases e : isW st wx wy with
  | none => rw [e] at hk; cases hk
  | some b =>
    rw [e] at hk
    cases hk
    rcases isW_cases S qx qy e with ⟨rfl, rfl⟩ | ⟨a, b, rfl, rfl, rfl⟩
    · exact op_notN pins s σ H x _ v u Q I rx ry ⟨rfl, hQ⟩
    · exact op_notBl pins s σ H _ _ v u Q I rx ry ⟨a, b, rfl, rfl, hQ⟩
theorem o_cmp (hP : X.prog = R.P) (hw : X.w = R.w) (hK : X.K = R.K) (hu : X.A.units + 65 < cLine) (op : CmpOp) : OpR X (compareOp op) (rC2 R fun x y s => cmpW (copOf op) s x y) := by
  cases op
  · exact o_eq hK (by omega)
  · exact o_ne hK (by omega)
  · exact o_lt
  · exact o_le
  · exact o_gt
  · exact o_ge hK (by omega)
  · exact o_is
  · exact o_isnot
  · exact o_in hP hw hK hu
  · exact o_notin hP hw hK hu
end
end Cc

set_option linter.all false
set_option maxRecDepth 100000
set_option maxHeartbeats 1000000
/-! Cc: expressions by rules. -/
namespace Cc
open PySem PySem.Spec PyProof.Rows L2

section
variable {X : Cx} {R : Gt} {E : L2.St → XK} {a b c e o : Expr} {ca cb cc ce co : Ex} {es : List Expr} {ces : List Ex} {pos : Pos}
/-! ### constants, names -/
theorem rp_const {k : Const} {x : PyData} (h : constOf k = some x) (φ : Ph) (ex : List Addr) (H : Hp) : ∃ v, Rp R.K φ ex H v x ∧ ∀ {j pos}, PE X (.Constant k j pos) (tC v) := by
  cases k <;> simp only [constOf] at h <;> first | (cases h; done) | skip
  · cases h; exact ⟨_, .non, pe_non⟩
  · cases h; exact ⟨_, .bl _, pe_bl⟩
  · cases h; exact ⟨_, .int _, pe_int⟩
  · cases h; exact ⟨_, .str _, pe_str⟩
theorem p_const {k : Const} {x : PyData} {j : Nat} (h : constOf k = some x) : PE X (.Constant k j pos) (tD R E (.const x)) := by
  refine ⟨fun pins s σ H Q I q => ?_⟩
  obtain ⟨φ, ex, st, env, S, N, q⟩ := q
  obtain ⟨v, r, p⟩ := rp_const (X := X) (R := R) h φ ex H
  exact p.run pins s σ H Q I (q v φ H (Ext.refl _ _) S (.d r))
theorem ixOf_at {x : Str} : ∀ {N : List Str} {k i : Nat}, ixOf x N k = some i → k ≤ i ∧ N[i - k]? = some x
  | [], _, _, h => by cases h
  | y :: ys, k, i, h => by
    unfold ixOf at h
    split at h
    · rename_i e; cases h; subst e; simp
    · obtain ⟨h1, h2⟩ := ixOf_at h
      have : i - k = (i - (k + 1)) + 1 := by omega
      rw [this]
      exact ⟨by omega, by simpa using h2⟩
theorem vis_of {sc : Scope} {x : Str} (h : visB sc x = true) : Vis sc x := by
  unfold visB at h
  split at h <;> first | (cases h; done) | skip
  · exact .inl (by assumption)
  · exact .inr (.inl (by assumption))
  · exact .inr (.inr (by assumption))
theorem loc_of {sc : Scope} {x : Str} (h : locB sc x = true) : Loc sc x := by
  unfold locB at h
  split at h <;> first | (cases h; done) | skip
  · exact .inl (by assumption)
  · exact .inr (by assumption)
theorem glo_of {X : Cx} {x : Str} (h : gloB X.env.scope x = true) : Gl X x := by
  unfold gloB at h
  split at h <;> first | (cases h; done) | skip
  assumption
theorem slot_of {T : TEnv} {x : Str} {i : Nat} (h : slotOf T x = some i) : T.N[i]? = some x ∧ Vis T.sc x := by
  unfold slotOf at h
  split at h
  · exact ⟨by simpa using (ixOf_at h).2, vis_of (by assumption)⟩
  · cases h
theorem tgt_of {T : TEnv} {x : Str} {i : Nat} (h : tgtOf T x = some i) : T.N[i]? = some x ∧ Loc T.tsc x := by
  unfold tgtOf at h
  split at h
  · exact ⟨by simpa using (ixOf_at h).2, loc_of (by assumption)⟩
  · cases h
theorem p_var {i : Nat} {x : Str} (hN : X.N[i]? = some x) (hv : Vis X.env.scope x) (hd : (x == ("__debug__" : Str)) = false) (hc : (x == ("__classdict__" : Str)) = false) : PE X (.Name x pos) (tD R E (.var i)) :=
  peImp (pe_var hN hv hd hc) fun σ H Q ⟨φ, ex, s, env, S, N, h⟩ => by
    obtain ⟨w, e, q⟩ := h.of
    obtain ⟨v, e2, r⟩ := N.get e
    exact ⟨v, e2, q v φ H (Ext.refl _ _) S r⟩
/-- a module's constant -/
def ConK (K : PySem.W.Frag) (u : Value) (d : PyData) : Prop := ∀ φ ex H, ∃ v, RelV v u ∧ Rp K φ ex H v d
theorem p_con {x : Str} {u : Value} {d : PyData} (hg : Gl X x) (hm : X.mg x = some u) (h : ConK R.K u d) (hd : (x == ("__debug__" : Str)) = false) : PE X (.Name x pos) (tD R E (.const d)) := by
  refine ⟨fun pins s σ H Q I q => ?_⟩
  obtain ⟨φ, ex, st, env, S, N, q⟩ := q
  obtain ⟨v, r, p⟩ := h φ ex H
  exact (pe_glob hg hm r hd).run pins s σ H Q I (q v φ H (Ext.refl _ _) S (.d p))
theorem p_gfn {x : Str} {i : Nat} (hg : Gl X x) (hm : X.mg x = some (.ref (R.fa i))) (hd : (x == ("__debug__" : Str)) = false) (hn : R.nd i = none) : PE X (.Name x pos) (tD R E (.gfn i)) := by
  refine ⟨fun pins s σ H Q I q => ?_⟩
  obtain ⟨φ, ex, st, env, S, N, q⟩ := q
  exact (pe_glob (v := .ref (R.fa i)) hg hm rfl hd).run pins s σ H Q I (q _ φ H (Ext.refl _ _) S (.fn i hn))
/-! ### operators -/
theorem p_bin {op : Operator} {o : Bop} (hK : X.K = R.K) (ho : bopOf op = some o) (ha : PE X a (tD R E ca)) (hb : PE X b (tD R E cb)) : PE X (.BinOp a op b pos) (tD R E (.bin o ca cb)) :=
  peImp (pe_op (o_bin hK ho) ha hb) fun σ H Q ⟨φ, ex, s, env, S, N, h⟩ => by
    simp only [runE] at h
    refine tD_mono (tD_bind mono_W S N h) fun x H1 ⟨φ1, s1, wx, S1, N1, e1, r1, h1⟩ => ?_
    refine tD_mono (tD_bind mono_W S1 N1 h1) fun y H2 ⟨φ2, s2, wy, S2, N2, e2, r2, h2⟩ => ?_
    obtain ⟨w, hw, q⟩ := h2.of
    cases t1 : top s2 wx with
    | none => rw [t1] at hw; cases hw
    | some dx =>
      cases t2 : top s2 wy with
      | none => rw [t1, t2] at hw; cases hw
      | some dy =>
        rw [t1, t2] at hw
        have hw' : (bopD o dx dy).map W.d = some w := hw
        cases hz : bopD o dx dy with
        | none => rw [hz] at hw'; cases hw'
        | some z =>
          rw [hz] at hw'
          cases hw'
          exact ⟨φ2, ex, s2, dx, dy, z, S2, S2.top (RpW.ext e2 _ _ r1) t1, S2.top r2 t2, hz, fun v H' e S' r => q v φ2 H' e S' (.d r)⟩
theorem p_neg (ha : PE X a (tD R E ca)) : PE X (.UnaryOp .USub a pos) (tD R E (.neg ca)) :=
  peImp (pe_un un_neg ha) fun σ H Q ⟨φ, ex, s, env, S, N, h⟩ => by
    simp only [runE] at h
    refine tD_mono (tD_bind mono_W S N h) fun x H1 ⟨φ1, s1, wx, S1, N1, e1, r1, h1⟩ => ?_
    obtain ⟨w, hw, q⟩ := h1.of
    cases t1 : top s1 wx with
    | none => rw [t1] at hw; cases hw
    | some dx =>
      rw [t1] at hw
      have hw' : (Cc.neg dx).map W.d = some w := hw
      cases dx <;> simp only [Cc.neg] at hw' <;> first | (cases hw'; done) | skip
      cases hw'
      exact ⟨_, (S1.top r1 t1).int, q _ φ1 H1 (Ext.refl _ _) S1 (.d (.int _))⟩
theorem p_cmp {op : CmpOp} (hP : X.prog = R.P) (hw : X.w = R.w) (hK : X.K = R.K) (hu : X.A.units + 65 < cLine) (hm : behindInMarks op b = false) (ha : PE X a (tD R E ca)) (hb : PE X b (tD R E cb)) : PE X (.Compare a [op] [b] pos) (tD R E (.cmp (copOf op) ca cb)) :=
  peImp (pe_cmpR (o_cmp hP hw hK hu op) ha hb hm) fun σ H Q ⟨φ, ex, s, env, S, N, h⟩ => by
    simp only [runE] at h
    refine tD_mono (tD_bind mono_W S N h) fun x H1 ⟨φ1, s1, wx, S1, N1, e1, r1, h1⟩ => ?_
    refine tD_mono (tD_bind mono_W S1 N1 h1) fun y H2 ⟨φ2, s2, wy, S2, N2, e2, r2, h2⟩ => ?_
    obtain ⟨w, hw, q⟩ := h2.of
    cases hk : cmpW (copOf op) s2 wx wy with
    | none => rw [hk] at hw; cases hw
    | some k =>
      rw [hk] at hw
      cases hw
      exact ⟨φ2, ex, s2, wx, wy, k, S2, RpW.ext e2 _ _ r1, r2, hk, q _ φ2 H2 (Ext.refl _ _) S2 (.d (.bl _))⟩
theorem res_assoc {α β γ : Type} (r : Res α) (f : α → Store → Res β) (g : β → Store → Res γ) : (r.bind f).bind g = r.bind fun a s => (f a s).bind g := by cases r <;> rfl
theorem pt_cmpD {op : CmpOp} (hP : X.prog = R.P) (hw : X.w = R.w) (hK : X.K = R.K) (hu : X.A.units + 65 < cLine) (hm : behindInMarks op b = false) (ha : PE X a (tD R E ca)) (hb : PE X b (tD R E cb)) : PT X (.Compare a [op] [b] pos) (tT R E (.tru (.cmp (copOf op) ca cb))) :=
  ptImp (pt_cmpR (o_cmp hP hw hK hu op) ha hb hm) fun σ H Q ⟨φ, ex, s, env, S, N, h⟩ => by
    simp only [runT, truR, runE, res_assoc] at h
    refine tD_mono (tD_bind mono_T S N h) fun x H1 ⟨φ1, s1, wx, S1, N1, e1, r1, h1⟩ => ?_
    refine tD_mono (tD_bind mono_T S1 N1 h1) fun y H2 ⟨φ2, s2, wy, S2, N2, e2, r2, h2⟩ => ?_
    dsimp only at h2
    cases hk : cmpW (copOf op) s2 wx wy with
    | none => rw [hk] at h2; exact h2.elim
    | some k =>
      rw [hk] at h2
      exact ⟨φ2, ex, s2, wx, wy, k, S2, RpW.ext e2 _ _ r1, r2, hk, k, rfl, h2 φ2 H2 (Ext.refl _ _) S2⟩
theorem p_chain {op op' : CmpOp} (hP : X.prog = R.P) (hw : X.w = R.w) (hK : X.K = R.K) (hu : X.A.units + 65 < cLine) (hm : lastMarks [op, op'] [b, c] = false) (ha : PE X a (tD R E ca)) (hb : PE X b (tD R E cb)) (hc : PE X c (tD R E cc)) :
    PE X (.Compare a [op, op'] [b, c] pos) (tD R E (.chain (copOf op) (copOf op') ca cb cc)) :=
  peImp (pe_chain (o_cmp hP hw hK hu op) (o_cmp hP hw hK hu op') ha hb hc hm) fun σ H Q ⟨φ, ex, s, env, S, N, h⟩ => by
    simp only [runE] at h
    refine tD_mono (tD_bind mono_W S N h) fun x H1 ⟨φ1, s1, wx, S1, N1, e1, r1, h1⟩ => ?_
    refine tD_mono (tD_bind mono_W S1 N1 h1) fun y H2 ⟨φ2, s2, wy, S2, N2, e2, r2, h2⟩ => ?_
    dsimp only at h2
    cases hk : cmpW (copOf op) s2 wx wy with
    | none => rw [hk] at h2; exact h2.elim
    | some k =>
      rw [hk] at h2
      refine ⟨φ2, ex, s2, wx, wy, k, S2, RpW.ext e2 _ _ r1, r2, hk, k, rfl, ?_⟩
      cases k with
      | false => exact h2 _ φ2 H2 (Ext.refl _ _) S2 (.d (.bl _))
      | true =>
        have h3 : RunsTo ((runE R.Φ R.M R.CI R.FO cc env s2).bind fun z s => .of ((cmpW (copOf op') s wy z).map fun b => W.d (.bool b)) s) (RetW R ex Q φ2 H2) (ExcOk R ex (E σ) φ2 H2) := h2
        refine tD_mono (tD_bind mono_W S2 N2 h3) fun z H3 ⟨φ3, s3, wz, S3, N3, e3, r3, h4⟩ => ?_
        obtain ⟨w, hw, q⟩ := h4.of
        cases hk : cmpW (copOf op') s3 wy wz with
        | none => rw [hk] at hw; cases hw
        | some k =>
          rw [hk] at hw
          cases hw
          exact ⟨φ3, ex, s3, wy, wz, k, S3, RpW.ext e3 _ _ r2, r3, hk, q _ φ3 H3 (Ext.refl _ _) S3 (.d (.bl _))⟩
theorem pt_chainD {op op' : CmpOp} (hP : X.prog = R.P) (hw : X.w = R.w) (hK : X.K = R.K) (hu : X.A.units + 65 < cLine) (hm : lastMarks [op, op'] [b, c] = false) (ha : PE X a (tD R E ca)) (hb : PE X b (tD R E cb)) (hc : PE X c (tD R E cc)) :
    PT X (.Compare a [op, op'] [b, c] pos) (tT R E (.tru (.chain (copOf op) (copOf op') ca cb cc))) :=
  ptImp (pt_chain (o_cmp hP hw hK hu op) (o_cmp hP hw hK hu op') ha hb hc hm) fun σ H Q ⟨φ, ex, s, env, S, N, h⟩ => by
    simp only [runT, truR, runE, res_assoc] at h
    refine tD_mono (tD_bind mono_T S N h) fun x H1 ⟨φ1, s1, wx, S1, N1, e1, r1, h1⟩ => ?_
    refine tD_mono (tD_bind mono_T S1 N1 h1) fun y H2 ⟨φ2, s2, wy, S2, N2, e2, r2, h2⟩ => ?_
    dsimp only at h2
    cases hk : cmpW (copOf op) s2 wx wy with
    | none => rw [hk] at h2; exact h2.elim
    | some k =>
      rw [hk] at h2
      refine ⟨φ2, ex, s2, wx, wy, k, S2, RpW.ext e2 _ _ r1, r2, hk, k, rfl, ?_⟩
      cases k with
      | false => exact ⟨false, rfl, h2 φ2 H2 (Ext.refl _ _) S2⟩
      | true =>
        have h3 : RunsTo (((runE R.Φ R.M R.CI R.FO cc env s2).bind fun z s => .of ((cmpW (copOf op') s wy z).map fun b => W.d (.bool b)) s).bind fun w s => .of (truW s w) s) (RetT R ex Q φ2 H2) (ExcOk R ex (E σ) φ2 H2) := h2
        rw [res_assoc] at h3
        refine tD_mono (tD_bind mono_T S2 N2 h3) fun z H3 ⟨φ3, s3, wz, S3, N3, e3, r3, h4⟩ => ?_
        dsimp only at h4
        cases hk : cmpW (copOf op') s3 wy wz with
        | none => rw [hk] at h4; exact h4.elim
        | some k =>
          rw [hk] at h4
          exact ⟨φ3, ex, s3, wy, wz, k, S3, RpW.ext e3 _ _ r2, r3, hk, k, rfl, h4 φ3 H3 (Ext.refl _ _) S3⟩
/-! ### and, or, not as values -/
theorem p_and {rest : List Expr} (ha : PE X a (tD R E ca)) (hb : PE X (.BoolOp .And (b :: rest) pos) (tD R E cb)) : PE X (.BoolOp .And (a :: b :: rest) pos) (tD R E (.and ca cb)) :=
  peImp (pe_and ha hb) fun σ H Q ⟨φ, ex, s, env, S, N, h⟩ => by
    simp only [runE] at h
    refine tD_mono (tD_bind mono_W S N h) fun x H1 ⟨φ1, s1, wx, S1, N1, e1, r1, h1⟩ => ?_
    dsimp only at h1
    split at h1
    · cases r1 with | d r => cases r; exact ⟨true, rfl, φ1, ex, s1, env, S1, N1, h1⟩
    · cases r1 with | d r => cases r; exact ⟨false, rfl, h1 _ φ1 H1 (Ext.refl _ _) S1 (.d (.bl _))⟩
    · exact h1.elim
theorem p_or {rest : List Expr} (ha : PE X a (tD R E ca)) (hb : PE X (.BoolOp .Or (b :: rest) pos) (tD R E cb)) : PE X (.BoolOp .Or (a :: b :: rest) pos) (tD R E (.or ca cb)) :=
  peImp (pe_or ha hb) fun σ H Q ⟨φ, ex, s, env, S, N, h⟩ => by
    simp only [runE] at h
    refine tD_mono (tD_bind mono_W S N h) fun x H1 ⟨φ1, s1, wx, S1, N1, e1, r1, h1⟩ => ?_
    dsimp only at h1
    split at h1
    · cases r1 with | d r => cases r; exact ⟨true, rfl, h1 _ φ1 H1 (Ext.refl _ _) S1 (.d (.bl _))⟩
    · cases r1 with | d r => cases r; exact ⟨false, rfl, φ1, ex, s1, env, S1, N1, h1⟩
    · exact h1.elim
theorem p_not (ha : PE X a (tD R E ca)) : PE X (.UnaryOp .Not a pos) (tD R E (.not ca)) :=
  peImp (pe_not ha) fun σ H Q ⟨φ, ex, s, env, S, N, h⟩ => by
    simp only [runE] at h
    refine tD_mono (tD_bind mono_W S N h) fun x H1 ⟨φ1, s1, wx, S1, N1, e1, r1, h1⟩ => ?_
    dsimp only at h1
    split at h1
    · cases r1 with | d r => cases r; exact ⟨_, rfl, h1 _ φ1 H1 (Ext.refl _ _) S1 (.d (.bl _))⟩
    · exact h1.elim
/-! ### tests -/
theorem emp_len {vs : List V} {ds : List PyData} (h : vs.length = ds.length) : (!ds.isEmpty) = !vs.isEmpty := by
  cases vs with
  | nil => cases ds with
    | nil => rfl
    | cons d ds => simp at h
  | cons v vs => cases ds with
    | nil => simp at h
    | cons d ds => rfl
theorem truV_of {K : PySem.W.Frag} {φ : Ph} {ex : List Addr} {H : Hp} {x : V} {d : PyData} {k : Bool} (t : Tp K φ ex H x d) (h : truD d = some k) : TruV K x H k := by
  cases d <;> simp only [truD] at h
  · rw [t.non]; cases h; rfl
  · rw [t.bl]; cases h; rfl
  · rw [t.int]; cases h; rfl
  · rw [t.str]
    split at h
    · cases h; exact ⟨by assumption, rfl⟩
    · cases h
  · cases h
    obtain ⟨a, vs, rfl, hl, r⟩ := t.lst
    refine .inl ⟨vs, .inl hl, ?_⟩
    exact emp_len r.length
  · cases h
    obtain ⟨a, vs, rfl, hl, r⟩ := t.tup
    refine .inr (.inl ⟨vs, hl, ?_⟩)
    exact emp_len r.length
  · cases h
theorem pt_tru (hK : X.K = R.K) (ha : PE X a (tD R E ca)) (he : ∀ whole, isTrue a X.env whole = (do let v ← whole; standAt a.pos; holding [v] (truthy v))) : PT X a (tT R E (.tru ca)) :=
  ptImp (pt_truth ha he) fun σ H Q ⟨φ, ex, s, env, S, N, h⟩ => by
    simp only [runT, truR] at h
    refine tD_mono (tD_bind mono_T S N h) fun x H1 ⟨φ1, s1, wx, S1, N1, e1, r1, h1⟩ => ?_
    obtain ⟨k, hk, q⟩ := h1.of
    cases t1 : top s1 wx with
    | none => rw [truW, t1] at hk; cases hk
    | some dx =>
      rw [truW, t1] at hk
      rw [hK]
      exact ⟨k, truV_of (S1.top r1 t1) hk, q φ1 H1 (Ext.refl _ _) S1⟩
end
end Cc

set_option linter.all false
set_option maxRecDepth 100000
set_option maxHeartbeats 1000000
/-! Cc: tests, displays, subscripts, built-ins. -/
namespace Cc
open PySem PySem.Spec PyProof.Rows L2

section
variable {X : Cx} {R : Gt} {E : L2.St → XK} {a b c e o : Expr} {ca cb cc ce co : Ex} {ba bb bc : Bx} {es : List Expr} {ces : List Ex} {pos : Pos}
/-! ### tests -/
theorem pwt_and1 (ha : PT X a (tT R E ba)) : PW X (.BoolOp .And [a] pos) (tT R E ba) := pw_and1 ha
theorem pwt_or1 (ha : PT X a (tT R E ba)) : PW X (.BoolOp .Or [a] pos) (tT R E ba) := pw_or1 ha
theorem pwt_and {rest : List Expr} (ha : PT X a (tT R E ba)) (hb : PW X (.BoolOp .And (b :: rest) pos) (tT R E bb)) : PW X (.BoolOp .And (a :: b :: rest) pos) (tT R E (.and ba bb)) :=
  pwImp (pw_and ha hb) fun σ H Q ⟨φ, ex, s, env, S, N, h⟩ => by
    simp only [runT] at h
    refine tT_mono (tT_bind mono_T S N h) fun x H1 ⟨φ1, s1, k, S1, N1, e1, r1, h1⟩ => ?_
    cases r1
    cases x with
    | true => exact ⟨φ1, ex, s1, env, S1, N1, h1⟩
    | false => exact h1 φ1 H1 (Ext.refl _ _) S1
theorem pwt_or {rest : List Expr} (ha : PT X a (tT R E ba)) (hb : PW X (.BoolOp .Or (b :: rest) pos) (tT R E bb)) : PW X (.BoolOp .Or (a :: b :: rest) pos) (tT R E (.or ba bb)) :=
  pwImp (pw_or ha hb) fun σ H Q ⟨φ, ex, s, env, S, N, h⟩ => by
    simp only [runT] at h
    refine tT_mono (tT_bind mono_T S N h) fun x H1 ⟨φ1, s1, k, S1, N1, e1, r1, h1⟩ => ?_
    cases r1
    cases x with
    | true => exact h1 φ1 H1 (Ext.refl _ _) S1
    | false => exact ⟨φ1, ex, s1, env, S1, N1, h1⟩
theorem ptt_not (ha : PT X a (tT R E ba)) : PT X (.UnaryOp .Not a pos) (tT R E (.not ba)) :=
  ptImp (pt_not ha) fun σ H Q ⟨φ, ex, s, env, S, N, h⟩ => by
    simp only [runT] at h
    refine tT_mono (tT_bind mono_T S N h) fun x H1 ⟨φ1, s1, k, S1, N1, e1, r1, h1⟩ => ?_
    cases r1
    exact h1 φ1 H1 (Ext.refl _ _) S1
/-- a if t else b, as a test -/
theorem ptt_ite (hc : PT X c (tT R E bc)) (ha : PT X a (tT R E ba)) (hb : PT X b (tT R E bb)) : PT X (.IfExp c a b pos) (tT R E (.ite bc ba bb)) := by
  refine ⟨fun pins s σ H Q I hw => ?_⟩
  obtain ⟨φ, ex, st, env, S, N, h⟩ := hw
  simp only [runT] at h
  have ht : isTrue (.IfExp c a b pos) X.env (eval (.IfExp c a b pos) X.env) = (do if ← isTrue c X.env (eval c X.env) then isTrue a X.env (eval a X.env) else isTrue b X.env (eval b X.env)) := by rfl
  rw [ht]
  refine wpAny_bind (thn (hc.run pins s σ H _ I (tT_bind mono_T S N h)) fun k s1 ⟨H1, I1, q1⟩ => ?_)
  obtain ⟨φ1, s1', k', S1, N1, e1, r1, h1⟩ := q1
  cases r1
  cases k with
  | true => exact ha.run pins s1 σ H1 Q I1 ⟨φ1, ex, s1', env, S1, N1, h1⟩
  | false => exact hb.run pins s1 σ H1 Q I1 ⟨φ1, ex, s1', env, S1, N1, h1⟩
theorem p_ite (hc : PT X c (tT R E bc)) (ha : PE X a (tD R E ca)) (hb : PE X b (tD R E cb)) : PE X (.IfExp c a b pos) (tD R E (.ite bc ca cb)) :=
  peImp (pe_ifExp hc ha hb) fun σ H Q ⟨φ, ex, s, env, S, N, h⟩ => by
    simp only [runE] at h
    refine tT_mono (tT_bind mono_W S N h) fun x H1 ⟨φ1, s1, k, S1, N1, e1, r1, h1⟩ => ?_
    cases r1
    cases x with
    | true => exact ⟨φ1, ex, s1, env, S1, N1, h1⟩
    | false => exact ⟨φ1, ex, s1, env, S1, N1, h1⟩
/-! ### arguments, displays -/
theorem star_ne {e : Expr} (h : ∀ x p, e ≠ .Starred x p) (es : List Expr) (env : PySem.Env) : starEach (e :: es) env = (false, eval e env) :: starEach es env := by
  cases e <;> first | rfl | exact absurd rfl (h _ _)
theorem pa_nilD : PA X [] (tA R E []) := paImp pa_nil fun σ H Q ⟨φ, ex, s, env, S, N, h⟩ => h [] φ H (Ext.refl _ _) S .nil
theorem pa_consD (hs : ∀ x p, e ≠ .Starred x p) (ha : PE X e (tD R E ce)) (hr : PA X es (tA R E ces)) : PA X (e :: es) (tA R E (ce :: ces)) :=
  paImp (pa_cons ha hr (star_ne hs es X.env)) fun σ H Q ⟨φ, ex, s, env, S, N, h⟩ => by
    simp only [runEs] at h
    refine tD_mono (tD_bind mono_L S N h) fun x H1 ⟨φ1, s1, wx, S1, N1, e1, r1, h1⟩ => ?_
    refine tA_mono (tA_bind mono_L S1 N1 h1) fun y H2 ⟨φ2, s2, wy, S2, N2, e2, r2, h2⟩ => ?_
    exact h2 _ φ2 H2 (Ext.refl _ _) S2 (.cons (RpW.ext e2 _ _ r1) r2)
theorem p_tup {k : Nat} (h : PA X es (tA R E ces)) : PE X (.Tuple es k pos) (tD R E (.tup ces)) :=
  peImp (Cd.pe_tupX h) fun σ H Q ⟨φ, ex, s, env, S, N, h⟩ => by
    simp only [runE] at h
    refine tA_mono (tA_bind mono_W S N h) fun xs H1 ⟨φ1, s1, ws, S1, N1, e1, r1, h1⟩ => ?_
    obtain ⟨w, hw, q⟩ := h1.of
    unfold mkTupW at hw
    split at hw
    · rename_i ds hp
      have e := allPure_eq hp
      subst e
      unfold mkTup at hw
      split at hw
      · rename_i hz
        cases hw
        have rd := RpWL.data r1
        refine ⟨by rw [rd.length]; exact hz, fun p o hn hd => ?_⟩
        obtain ⟨e, S', r⟩ := S1.newTup rd hn hd
        exact q _ φ1 _ e S' (.d r)
      · cases hw
    · split at hw
      · rename_i hz
        cases hw
        refine ⟨by rw [r1.length]; exact hz, fun p o hn hd => ?_⟩
        obtain ⟨e, S'⟩ := S1.new (o := .frz o (.tup xs)) hn
        exact q _ φ1 _ e S' (.tup ⟨o, upd_same, hd⟩ (S1.fresh hn) (RpWL.ext e _ _ r1))
      · cases hw
theorem RpW.last {φ : Ph} {ex : List Addr} {H H' : Hp} {s : Store} {p : Addr} (S : Sim R φ ex H s) : RpW R (φ ++ [some p]) ex H' (.ref p) (.ref s.length) := by
  refine .ref (by rw [List.length_append, S.len]; simp) fun a ha => ?_
  rw [← S.len] at ha
  simp at ha
  rw [ha]
theorem p_lst {cell : Bool} (h : PA X es (tA R E ces)) : PE X (.List es pos) (tD R E (.lst cell ces)) :=
  peImp (pe_lst h) fun σ H Q ⟨φ, ex, s, env, S, N, h⟩ => by
    simp only [runE] at h
    refine tA_mono (tA_bind mono_W S N h) fun xs H1 ⟨φ1, s1, ws, S1, N1, e1, r1, h1⟩ => ?_
    dsimp only [newLst] at h1
    split at h1
    · rename_i hz
      refine ⟨by rw [r1.length]; exact hz, fun p hn => ?_⟩
      split at h1
      · rename_i ds hp
        have e := allPure_eq hp
        subst e
        split at h1
        · obtain ⟨e, S'⟩ := S1.push (o := .lst xs) (c := .lst ds) hn fun e => ⟨xs, upd_same, RpL.ext e _ _ (RpWL.data r1)⟩
          exact h1 _ _ _ e S' (RpW.last S1)
        · obtain ⟨e, S', r⟩ := S1.newLst (RpWL.data r1) hn
          exact h1 _ φ1 _ e S' (.d r)
      · split at h1
        · obtain ⟨e, S'⟩ := S1.push (o := .lst xs) (c := .wl ws) hn fun e => ⟨xs, upd_same, RpWL.ext e _ _ r1⟩
          exact h1 _ _ _ e S' (RpW.last S1)
        · exact h1.elim
    · exact h1.elim
end
end Cc

set_option linter.all false
set_option maxRecDepth 100000
set_option maxHeartbeats 1000000
/-! Cc: subscripts, slices, built-in functions and methods, list cells changed, attributes. -/
namespace Cc
open PySem PySem.Spec PyProof.Rows L2

section
variable {X : Cx} {R : Gt} {E : L2.St → XK} {a b c e o : Expr} {ca cb cc ce co : Ex} {es : List Expr} {ces : List Ex} {pos : Pos}
/-! ### xs[i] -/
theorem plainIx {b : Expr} (h : ∀ l u t p, b ≠ .Slice l u t p) : PlainIx b := by
  intro o i
  cases b <;> first | rfl | exact absurd rfl (h _ _ _ _)
/-- d[k], texts as keys -/
def rIxK : R2 := fun x y H Q => ∃ a kvs k v, x = .ref a ∧ y = .str k ∧ H a = some (.dK kvs) ∧ valV kvs (.inr k) = some v ∧ Q v H
theorem ix_dk (hu : X.A.units + 1 < cLine) : IxR X rIxK := by
  intro value slice pins s σ H x y v u Q I rx ry h hs
  obtain ⟨a, kvs, k, z, rfl, rfl, e, l, q⟩ := h
  obtain rfl : v = Value.ref a := rx
  have g : DGet H a (.str k) (some z) := .inl ⟨kvs, .inr k, .inl e, rfl, l.symm⟩
  exact tail_any (dict_typeIs I g) PySem.F.slot_dict_getitem.lookup (d_getItem hu I g ry fun w' s' I' r' => ⟨z, H, I', r', q⟩) hs
theorem ix_of (hP : X.prog = R.P) (hw : X.w = R.w) (hK : X.K = R.K) {φ : Ph} {ex : List Addr} {H : Hp} {s : Store} {x y : V} {wx wy w : W} (S : Sim R φ ex H s) (rx : RpW R φ ex H x wx) (ry : RpW R φ ex H y wy) (h : idxW s wx wy = some w) {Q : VK}
    (hQ : ∀ v, RpW R φ ex H v w → Q v H) : rIx R.K x y H Q ∨ Cd.rIxN X x y H Q ∨ rIxK x y H Q := by
  unfold idxW at h
  split at h
  · rename_i i
    refine .inl ?_
    cases ry with | d ry =>
    cases ry
    have seqL : ∀ {a : Addr} {vs : List V} {v : V}, SqL R.K H a vs → atI vs i = some v → RpW R φ ex H v w → rIx R.K (.ref a) (.int i) H Q := fun {a vs v} hs e r => .inl ⟨a, vs, i, v, rfl, rfl, hs, e, hQ v r⟩
    split at h
    · rename_i x'
      cases rx with | d rx =>
      cases x' <;> simp only [atD] at h <;> try (cases h; done)
      · rename_i z
        split at h
        · rename_i hz
          cases rx
          cases e : atI z.cps.toList i with
          | none => rw [e] at h; cases h
          | some k =>
            rw [e] at h
            cases h
            exact .inr (.inr ⟨z, i, k, rfl, rfl, hz, e, hQ _ (.d (.str _))⟩)
        · cases h
      · rename_i ds
        cases rx with
        | lst hr n r =>
          cases e : atI ds i with
          | none => rw [e] at h; cases h
          | some d =>
            rw [e] at h
            cases h
            obtain ⟨v, e2, r2⟩ := atI_RpL r e
            exact seqL (.inl hr) e2 (.d r2)
      · rename_i ds
        cases rx with
        | tup hr r =>
          cases e : atI ds i with
          | none => rw [e] at h; cases h
          | some d =>
            rw [e] at h
            cases h
            obtain ⟨v, e2, r2⟩ := atI_RpL r e
            exact .inr (.inl ⟨_, _, i, v, rfl, rfl, hr.elim (fun q => .inl q.1.rd) fun q => .inr q.old, e2, hQ v (.d r2)⟩)
    · rename_i n
      split at h
      · rename_i ds hs
        obtain ⟨a, vs, rfl, _, hl, r⟩ := S.lst hs rx
        cases e : atI ds i with
        | none => rw [e] at h; cases h
        | some d =>
          rw [e] at h
          cases h
          obtain ⟨v, e2, r2⟩ := atI_RpL r e
          exact seqL (.of hl) e2 (.d r2)
      · rename_i ws hs
        obtain ⟨a, vs, rfl, _, hl, r⟩ := S.wl hs rx
        obtain ⟨v, e2, r2⟩ := atI_RpWL r h
        exact seqL (.of hl) e2 r2
      · cases h
    · cases rx with
      | tup hr n r =>
        obtain ⟨v, e2, r2⟩ := atI_RpWL r h
        exact .inr (.inl ⟨_, _, i, v, rfl, rfl, .inl hr.rd, e2, hQ v r2⟩)
    · cases h
  · rename_i ks
    refine .inr (.inl ?_)
    split at h
    · rename_i k kvs e1 e2
      obtain ⟨e5, e3⟩ := keyOf_some e1
      cases e5
      obtain ⟨a, xs, rfl, e, r⟩ := S.dnW e2 rx
      cases ry with | d ry =>
      obtain ⟨b, rfl⟩ := ref_of_key e3 ry
      rcases r.val e3 with ⟨q1, _⟩ | ⟨w', p, q1, q2, q3⟩
      · rw [q1] at h; cases h
      · rw [q1] at h
        cases h
        exact ⟨a, xs, b, _, p, rfl, rfl, by rw [hP, hw]; exact e, r.keys hK, nk_of hK e3 ry, q2, hQ _ q3⟩
    · cases h
  · rename_i kx
    refine .inr (.inr ?_)
    split at h
    · split at h
      · rename_i kvs hs
        obtain ⟨a, fv, rfl, _, e, r⟩ := S.dk hs rx
        obtain ⟨v, e2, r2⟩ := r.atS h
        cases ry with | d ry =>
        cases ry
        exact ⟨a, _, kx, v, rfl, rfl, e, e2, hQ v r2⟩
      · cases h
    · cases h
  · cases h
theorem p_idx (hP : X.prog = R.P) (hw : X.w = R.w) (hu : X.A.units + 65 < cLine) (hK : X.K = R.K) (hs : ∀ l u t p, b ≠ .Slice l u t p) (ha : PE X a (tD R E ca)) (hb : PE X b (tD R E cb)) : PE X (.Subscript a b pos) (tD R E (.idx ca cb)) :=
  peImp (pe_ix ((hK ▸ ix_seq : IxR X (rIx R.K)).or ((Cd.ix_dn (by omega)).or (ix_dk (by omega)))) ha hb (plainIx hs)) fun σ H Q ⟨φ, ex, s, env, S, N, h⟩ => by
    simp only [runE] at h
    refine tD_mono (tD_bind mono_W S N h) fun x H1 ⟨φ1, s1, wx, S1, N1, e1, r1, h1⟩ => ?_
    refine tD_mono (tD_bind mono_W S1 N1 h1) fun y H2 ⟨φ2, s2, wy, S2, N2, e2, r2, h2⟩ => ?_
    obtain ⟨w, hw', q⟩ := h2.of
    exact ix_of hP hw hK S2 (RpW.ext e2 _ _ r1) r2 hw' fun v r => q v φ2 H2 (Ext.refl _ _) S2 r
/-! ### fresh lists -/
def RetF (R : Gt) (ex : List Addr) (Q : VK) : Kn W := fun φ H w s' => match w with
  | .d (.list xs) => ∀ φ' H' vs p, Ext φ H φ' H' → Sim R φ' ex H' s' → RpL R.K φ' ex H' vs xs → H' p = none → Q (.ref p) (upd H' p (.lst vs))
  | w => RetW R ex Q φ H w s'
theorem RetF.of {ex : List Addr} {Q : VK} {φ : Ph} {H : Hp} {w : W} {s : Store} (h : RetW R ex Q φ H w s) : RetF R ex Q φ H w s := by
  unfold RetF
  split
  · intro φ' H' vs p e S r hp
    obtain ⟨e2, S', q⟩ := S.newLst r hp
    exact h _ φ' _ (e.trans e2) S' (.d q)
  · exact h
theorem mono_F {ex : List Addr} {Q : VK} : Mono (RetF R ex Q) := fun φ H φ' H' w s e h => by
  unfold RetF at h ⊢
  split
  · exact fun φ2 H2 vs p e2 => h φ2 H2 vs p (e.trans e2)
  · rename_i h2
    split at h
    · rename_i xs; exact absurd rfl (h2 xs)
    · exact mono_W _ _ _ _ _ _ e h
def tF (R : Gt) (E : L2.St → XK) (e : Ex) : L2.TE := fun σ H Q => ∃ φ ex s env, Sim R φ ex H s ∧ EnvR R φ ex H env σ ∧ RunsTo (runE R.Φ R.M R.CI R.FO e env s) (RetF R ex Q φ H) (ExcOk R ex (E σ) φ H)
theorem p_ofF (h : PE X a (tF R E ca)) : PE X a (tD R E ca) := peImp h fun σ H Q ⟨φ, ex, s, env, S, N, h⟩ => ⟨φ, ex, s, env, S, N, h.imp (fun _ _ q => .of q) fun _ _ q => q⟩
theorem p_cell (h : PE X a (tF R E ca)) : PE X a (tD R E (.cell ca)) := peImp h fun σ H Q ⟨φ, ex, s, env, S, N, h⟩ => by
  refine ⟨φ, ex, s, env, S, N, ?_⟩
  simp only [runE] at h
  cases r : runE R.Φ R.M R.CI R.FO ca env s with
  | stuck => rw [r] at h; exact h
  | exc x s1 => rw [r] at h; exact h
  | ok w s1 =>
    rw [r] at h
    simp only [Res.bind_ok] at h
    unfold toCell at h
    split at h
    · rename_i xs
      intro φ' H' vs p e S' rv hp
      obtain ⟨e2, S2⟩ := S'.push (o := .lst vs) (c := .lst xs) hp fun e => ⟨vs, upd_same, RpL.ext e _ _ rv⟩
      exact h _ _ _ (e.trans e2) S2 (RpW.last S')
    · exact h.elim
/-! ### slices -/
theorem sl_seq : SlR X (fun x lo hi H Q => rSlL X.K x lo hi H Q ∨ Cd.rSlX X.K x lo hi H Q ∨ rSlS x lo hi H Q) := sl_list.or (Cd.sl_tupX.or sl_str)
theorem po_noneD : PO X none (tO R E none) := poImp po_none fun σ H Q ⟨φ, ex, s, env, S, N, h⟩ => h φ H (Ext.refl _ _) S
theorem po_someD (ha : PE X a (tD R E ca)) : PO X (some a) (tO R E (some ca)) := poImp (po_some ha) fun σ H Q ⟨φ, ex, s, env, S, N, h⟩ => by
  simp only [runO] at h
  refine tD_mono (tD_bind mono_O S N h) fun x H1 ⟨φ1, s1, wx, S1, N1, e1, r1, h1⟩ => ?_
  obtain ⟨w, hw, q⟩ := h1.of
  cases hp : partW wx with
  | none => rw [hp] at hw; cases hw
  | some i =>
    rw [hp] at hw
    cases hw
    unfold partW at hp
    split at hp
    · cases hp
      cases r1 with | d r => cases r; exact ⟨i, rfl, q φ1 H1 (Ext.refl _ _) S1⟩
    · cases hp
theorem RpL.nil_iff {K : PySem.W.Frag} {φ : Ph} {ex : List Addr} {H : Hp} {ds : List PyData} {vs : List V} (h : RpL K φ ex H vs ds) : vs = [] ↔ ds = [] := by
  have := h.length
  cases vs <;> cases ds <;> simp at this ⊢
theorem f_slice {lo hi : Option Expr} {cl ch : Option Ex} {p2 : Pos} (hK : X.K = R.K) (ha : PE X a (tD R E ca)) (hl : PO X lo (tO R E cl)) (hh : PO X hi (tO R E ch)) : PE X (.Subscript a (.Slice lo hi none p2) pos) (tF R E (.slice ca cl ch)) :=
  peImp (pe_slice sl_seq ha hl hh) fun σ H Q ⟨φ, ex, s, env, S, N, h⟩ => by
    simp only [runE] at h
    refine tD_mono (tD_bind mono_F S N h) fun x H1 ⟨φ1, s1, wx, S1, N1, e1, r1, h1⟩ => ?_
    refine tO_mono (tO_bind mono_F S1 N1 h1) fun l H2 ⟨φ2, s2, l', S2, N2, e2, r2, h2⟩ => ?_
    cases r2
    refine tO_mono (tO_bind mono_F S2 N2 h2) fun u H3 ⟨φ3, s3, u', S3, N3, e3, r3, h3⟩ => ?_
    cases r3
    obtain ⟨w, hw, q⟩ := h3.of
    have rx := RpW.ext (e2.trans e3) _ _ r1
    cases t1 : top s3 wx with
    | none => rw [t1] at hw; cases hw
    | some d =>
      rw [t1] at hw
      have hw' : (cutD d l u).map W.d = some w := hw
      have t := S3.top rx t1
      cases d <;> simp only [cutD] at hw' <;> try (cases hw'; done)
      · rename_i z
        split at hw'
        · rename_i hz
          cases hw'
          refine .inr (.inr ⟨z, t.str, hz, ?_⟩)
          have e : cutS z l u = ⟨(Cc.cutX z.cps.toList l u).toArray⟩ := by
            unfold cutS Cc.cutX
            have : z.length = z.cps.toList.length := by simp [Str.length]
            rw [this]
          rw [e]
          exact q _ φ3 H3 (Ext.refl _ _) S3 (.d (.str _))
        · cases hw'
      · rename_i ds
        cases hw'
        obtain ⟨p, vs, rfl, hl, r⟩ := t.lst
        exact .inl ⟨p, vs, rfl, .inl hl, fun p' hn => q φ3 H3 _ p' (Ext.refl _ _) S3 (r.cutX l u) hn⟩
      · rename_i ds
        cases hw'
        obtain ⟨p, vs, rfl, hl, r⟩ := t.tup
        rw [hK]
        refine .inr (.inl ⟨p, vs, rfl, hl, fun hwh => ?_, fun hnw p' o' hn hd => ?_⟩)
        · have e : Cc.cutX ds l u = ds := by
            unfold Cc.cutX
            rw [← r.length, hwh.1, hwh.2, r.length]
            simp
          rw [e] at q
          rcases t with t | ⟨_, _, _, _, t, _⟩
          · exact q _ φ3 H3 (Ext.refl _ _) S3 (.d t)
          · cases t
        · obtain ⟨e, S', r'⟩ := S3.newTup (r.cutX l u) hn hd
          exact q _ φ3 _ e S' (.d r')
theorem RpL.rev {K : PySem.W.Frag} {φ : Ph} {ex : List Addr} {H : Hp} : ∀ {vs : List V} {ds : List PyData}, RpL K φ ex H vs ds → RpL K φ ex H vs.reverse ds.reverse
  | _, _, .nil => .nil
  | _, _, .cons r t => by
    rw [List.reverse_cons, List.reverse_cons]
    exact (RpL.rev t).append (.cons r .nil)
theorem f_rev {k : Nat} {p1 p2 p3 : Pos} (hK : X.K = R.K) (ha : PE X a (tD R E ca)) : PE X (.Subscript a (.Slice none none (some (.UnaryOp .USub (.Constant (.int 1) k p1) p2)) p3) pos) (tF R E (.rev ca)) :=
  peImp (pe_revL ha) fun σ H Q ⟨φ, ex, s, env, S, N, h⟩ => by
    simp only [runE] at h
    refine tD_mono (tD_bind mono_F S N h) fun x H1 ⟨φ1, s1, wx, S1, N1, e1, r1, h1⟩ => ?_
    obtain ⟨w, hw, q⟩ := h1.of
    cases t1 : top s1 wx with
    | none => rw [t1] at hw; cases hw
    | some d =>
      rw [t1] at hw
      have hw' : (revD d).map W.d = some w := hw
      have t := S1.top r1 t1
      cases d <;> simp only [revD] at hw' <;> try (cases hw'; done)
      rename_i ds
      cases hw'
      obtain ⟨p, vs, rfl, hl, r⟩ := t.lst
      exact ⟨p, vs, rfl, .inl hl, fun p' hn => q φ1 H1 _ p' (Ext.refl _ _) S1 r.rev hn⟩
/-! ### a cell that is changed no more -/
theorem p_frz (ha : PE X a (tD R E ca)) : PE X a (tD R E (.frz ca)) := peImp ha fun σ H Q ⟨φ, ex, s, env, S, N, h⟩ => by
  refine ⟨φ, ex, s, env, S, N, ?_⟩
  simp only [runE] at h
  cases r : runE R.Φ R.M R.CI R.FO ca env s with
  | stuck => rw [r] at h; exact h
  | exc x s1 => rw [r] at h; exact h
  | ok w s1 =>
    rw [r] at h
    simp only [Res.bind_ok] at h
    intro v φ' H' e S' rv
    unfold doFrz at h
    split at h
    · rename_i n
      split at h
      · rename_i xs hs
        obtain ⟨a', vs, rfl, hφ, hl, r⟩ := S'.lst hs rv
        obtain ⟨e2, S2⟩ := S'.kill (n := n)
        refine h _ _ _ (e.trans e2) S2 (.d (.lst (.inl hl) (fun z => ?_) (RpL.ext e2 _ _ r)))
        rcases z with z | z
        · obtain ⟨m, hm⟩ := List.mem_iff_getElem?.mp z
          by_cases hnm : n = m
          · subst hnm
            have l : n < φ'.length := (List.getElem?_eq_some_iff.mp hφ).1
            rw [List.getElem?_set_self l] at hm
            cases hm
          · rw [List.getElem?_set_ne hnm] at hm
            exact hnm (S'.one n m a' hφ hm)
        · exact S'.off a' z (List.mem_of_getElem? hφ)
      · exact h.elim
    · exact h _ _ _ e S' rv
    · exact h.elim
end
end Cc

set_option linter.all false
set_option maxRecDepth 100000
set_option maxHeartbeats 1000000
/-! Cc: built-in functions and methods, list cells changed, attributes. -/
namespace Cc
open PySem PySem.Spec PyProof.Rows L2

/-- an answer of data, a list being fresh -/
def FRet (R : Gt) (φ : Ph) (ex : List Addr) (H : Hp) (s : Store) (z : PyData) (Q : VK) : Prop := match z with
  | .list xs => ∀ vs p, RpL R.K φ ex H vs xs → H p = none → Q (.ref p) (upd H p (.lst vs))
  | z => Ret R φ ex H s z Q
theorem RetF.fret {R : Gt} {φ : Ph} {ex : List Addr} {H : Hp} {s : Store} {z : PyData} {Q : VK} (S : Sim R φ ex H s) (h : RetF R ex Q φ H (.d z) s) : FRet R φ ex H s z Q := by
  cases z with
  | list xs => exact fun vs p r hp => h φ H vs p (Ext.refl _ _) S r hp
  | none => exact fun v H' e S' r => h v φ H' e S' (.d r)
  | bool b => exact fun v H' e S' r => h v φ H' e S' (.d r)
  | int i => exact fun v H' e S' r => h v φ H' e S' (.d r)
  | str x => exact fun v H' e S' r => h v φ H' e S' (.d r)
  | tuple xs => exact fun v H' e S' r => h v φ H' e S' (.d r)
  | dict kvs => exact fun v H' e S' r => h v φ H' e S' (.d r)
/-! ### lists put together -/
def rF2 (R : Gt) (f : PyData → PyData → Option PyData) : R2 := fun x y H Q => ∃ φ ex s dx dy z, Sim R φ ex H s ∧ Tp R.K φ ex H x dx ∧ Tp R.K φ ex H y dy ∧ f dx dy = some z ∧ FRet R φ ex H s z Q
theorem o_addF {X : Cx} {R : Gt} (hK : X.K = R.K) : OpR X (binaryOp .Add) (rF2 R (bopD .add)) := by
  rintro pins s σ H x y v u Q I rx ry ⟨φ, ex, st, dx, dy, z, S, tx, ty, hz, hQ⟩
  have other : Ret R φ ex H st z Q → wpAny (model X.prog X.w) X.A (binaryOp .Add v u) (EP X pins σ Q) X.xe s := fun q => o_add hK pins s σ H x y v u Q I rx ry ⟨φ, ex, st, dx, dy, z, S, tx, ty, hz, q⟩
  cases z with
  | list zs =>
    cases dx <;> cases dy <;> simp only [bopD] at hz <;> try (first | (cases hz; done) | (split at hz <;> cases hz; done))
    rename_i xs ys
    split at hz
    · rename_i hl
      cases hz
      obtain ⟨a, vs, e, h, r⟩ := tx.lst
      obtain ⟨b, us, e2, h2, r2⟩ := ty.lst
      exact op_catL pins s σ H x y v u Q I rx ry ⟨a, b, vs, us, e, e2, h, h2, by rw [r.length, r2.length]; exact hl, fun p hp => hQ _ p (r.append r2) hp⟩
    · cases hz
  | none => exact other hQ
  | bool _ => exact other hQ
  | int _ => exact other hQ
  | str _ => exact other hQ
  | tuple _ => exact other hQ
  | dict _ => exact other hQ
theorem f_add {X : Cx} {R : Gt} {E : L2.St → XK} {a b : Expr} {ca cb : Ex} {pos : Pos} {op : Operator} (hK : X.K = R.K) (ho : bopOf op = some .add) (ha : PE X a (tD R E ca)) (hb : PE X b (tD R E cb)) : PE X (.BinOp a op b pos) (tF R E (.bin .add ca cb)) := by
  have e : op = .Add := by cases op <;> simp [bopOf] at ho <;> rfl
  subst e
  refine peImp (pe_op (o_addF hK) ha hb) fun σ H Q ⟨φ, ex, s, env, S, N, h⟩ => ?_
  simp only [runE] at h
  refine tD_mono (tD_bind mono_F S N h) fun x H1 ⟨φ1, s1, wx, S1, N1, e1, r1, h1⟩ => ?_
  refine tD_mono (tD_bind mono_F S1 N1 h1) fun y H2 ⟨φ2, s2, wy, S2, N2, e2, r2, h2⟩ => ?_
  obtain ⟨w, hw, q⟩ := h2.of
  cases t1 : top s2 wx with
  | none => rw [t1] at hw; cases hw
  | some dx =>
    cases t2 : top s2 wy with
    | none => rw [t1, t2] at hw; cases hw
    | some dy =>
      rw [t1, t2] at hw
      have hw' : (bopD .add dx dy).map W.d = some w := hw
      cases hz : bopD .add dx dy with
      | none => rw [hz] at hw'; cases hw'
      | some z =>
        rw [hz] at hw'
        cases hw'
        exact ⟨φ2, ex, s2, dx, dy, z, S2, S2.top (RpW.ext e2 _ _ r1) t1, S2.top r2 t2, hz, RetF.fret S2 q⟩
/-- what a built-in is asked -/
def rBf (R : Gt) (f : Store → List W → Option PyData) : List V → Hp → VK → Prop := fun xs H Q => ∃ φ ex s ws z, Sim R φ ex H s ∧ RpWL R φ ex H xs ws ∧ f s ws = some z ∧ FRet R φ ex H s z Q
section
variable {X : Cx} {R : Gt} {φ : Ph} {ex : List Addr} {H : Hp} {s : Store} {Q : VK}
theorem one_of {xs : List V} {w : W} (r : RpWL R φ ex H xs [w]) : ∃ x, xs = [x] ∧ RpW R φ ex H x w := by
  cases r with | cons r t => cases t; exact ⟨_, rfl, r⟩
theorem two_of {xs : List V} {w u : W} (r : RpWL R φ ex H xs [w, u]) : ∃ x y, xs = [x, y] ∧ RpW R φ ex H x w ∧ RpW R φ ex H y u := by
  cases r with | cons r t => cases t with | cons r2 t => cases t; exact ⟨_, _, rfl, r, r2⟩
theorem ints_of {K : PySem.W.Frag} : ∀ {ds : List PyData} {vs : List V} {l : List Int}, RpL K φ ex H vs ds → intsOf ds = some l → vs = l.map V.int
  | [], _, l, h, e => by cases h; cases e; rfl
  | .int i :: ds, _, l, h, e => by
    cases h with
    | cons r t =>
      cases r
      simp only [intsOf] at e
      cases e2 : intsOf ds with
      | none => rw [e2] at e; cases e
      | some l' => rw [e2] at e; cases e; rw [ints_of t e2]; rfl
  | .none :: _, _, _, _, e => by cases e
  | .bool _ :: _, _, _, _, e => by cases e
  | .str _ :: _, _, _, _, e => by cases e
  | .list _ :: _, _, _, _, e => by cases e
  | .tuple _ :: _, _, _, _, e => by cases e
  | .dict _ :: _, _, _, _, e => by cases e
theorem bools_of {K : PySem.W.Frag} : ∀ {ds : List PyData} {vs : List V} {l : List Bool}, RpL K φ ex H vs ds → boolsOf ds = some l → vs = l.map V.bl
  | [], _, l, h, e => by cases h; cases e; rfl
  | .bool i :: ds, _, l, h, e => by
    cases h with
    | cons r t =>
      cases r
      simp only [boolsOf] at e
      cases e2 : boolsOf ds with
      | none => rw [e2] at e; cases e
      | some l' => rw [e2] at e; cases e; rw [bools_of t e2]; rfl
  | .none :: _, _, _, _, e => by cases e
  | .int _ :: _, _, _, _, e => by cases e
  | .str _ :: _, _, _, _, e => by cases e
  | .list _ :: _, _, _, _, e => by cases e
  | .tuple _ :: _, _, _, _, e => by cases e
  | .dict _ :: _, _, _, _, e => by cases e
theorem strs_of {K : PySem.W.Frag} : ∀ {ds : List PyData} {vs : List V} {l : List Str}, RpL K φ ex H vs ds → strsOf ds = some l → vs = l.map V.str
  | [], _, l, h, e => by cases h; cases e; rfl
  | .str i :: ds, _, l, h, e => by
    cases h with
    | cons r t =>
      cases r
      simp only [strsOf] at e
      cases e2 : strsOf ds with
      | none => rw [e2] at e; cases e
      | some l' => rw [e2] at e; cases e; rw [strs_of t e2]; rfl
  | .none :: _, _, _, _, e => by cases e
  | .bool _ :: _, _, _, _, e => by cases e
  | .int _ :: _, _, _, _, e => by cases e
  | .list _ :: _, _, _, _, e => by cases e
  | .tuple _ :: _, _, _, _, e => by cases e
  | .dict _ :: _, _, _, _, e => by cases e
theorem lenV_of (S : Sim R φ ex H s) {x : V} {w : W} {n : Int} (r : RpW R φ ex H x w) (h : lenW s w = some n) : ∃ k : Nat, n = k ∧ LenV R.K x H k := by
  unfold lenW at h
  split at h
  · rename_i d
    cases r with | d r =>
    cases d <;> simp only [lenD] at h <;> try (cases h; done)
    · split at h
      · cases h; cases r; exact ⟨_, rfl, by assumption, rfl⟩
      · cases h
    · cases h
      cases r with | lst hr n r => exact ⟨_, rfl, .inl ⟨_, .inl hr, r.length.symm⟩⟩
    · cases h
      cases r with | tup hr r => exact ⟨_, rfl, .inr ⟨_, hr.elim (fun q => .inl q.1.rd) fun q => .inr q.old, r.length.symm⟩⟩
  · split at h
    · rename_i hs
      cases h
      obtain ⟨a, vs, rfl, _, hl, r⟩ := S.lst hs r
      exact ⟨_, rfl, .inl ⟨vs, .of hl, r.length.symm⟩⟩
    · rename_i hs
      cases h
      obtain ⟨a, vs, rfl, _, hl, r⟩ := S.wl hs r
      exact ⟨_, rfl, .inl ⟨vs, .of hl, r.length.symm⟩⟩
    · cases h
  · cases h
    cases r with | tup hr n r => exact ⟨_, rfl, .inr ⟨_, .inl hr.rd, r.length.symm⟩⟩
  · cases h
theorem one1_of {f : W → Option PyData} {ws : List W} {z : PyData} (h : one1 f ws = some z) : ∃ w, ws = [w] ∧ f w = some z := by
  unfold one1 at h
  split at h
  · exact ⟨_, rfl, h⟩
  · cases h
theorem two1_of {f : W → W → Option PyData} {ws : List W} {z : PyData} (h : two1 f ws = some z) : ∃ w u, ws = [w, u] ∧ f w u = some z := by
  unfold two1 at h
  split at h
  · exact ⟨_, _, rfl, h⟩
  · cases h
theorem map_of {α β : Type} {f : α → β} {o : Option α} {z : β} (h : o.map f = some z) : ∃ a, o = some a ∧ f a = z := by
  cases o with
  | none => cases h
  | some a => cases h; exact ⟨a, rfl, rfl⟩
theorem bind_of {α β : Type} {f : α → Option β} {o : Option α} {z : β} (h : o.bind f = some z) : ∃ a, o = some a ∧ f a = some z := by
  cases o with
  | none => cases h
  | some a => exact ⟨a, rfl, h⟩
theorem listOf_of {d : PyData} {xs : List PyData} (h : listOf d = some xs) : d = .list xs := by
  unfold listOf at h
  split at h
  · cases h; rfl
  · cases h
theorem seqOf_of {d : PyData} {xs : List PyData} (h : seqOf d = some xs) : d = .list xs ∨ d = .tuple xs := by
  unfold seqOf at h
  split at h
  · cases h; exact .inl rfl
  · cases h; exact .inr rfl
  · cases h
theorem c_len (hK : X.K = R.K) : CallR X (.builtin "len") (rBf R fun s ws => bfD s .len ws) := by
  rintro pins st σ H xs us Q I r ⟨φ, ex, s, ws, z, S, rw, h, q⟩
  obtain ⟨w, rfl, h⟩ := one1_of h
  obtain ⟨x, rfl, rx⟩ := one_of rw
  obtain ⟨n, e, rfl⟩ := map_of h
  obtain ⟨k, rfl, hk⟩ := lenV_of S rx e
  exact call_len pins st σ H _ us Q I r ⟨x, k, rfl, by rw [hK]; exact hk, Ret.here q S (.int _)⟩
theorem sqL_of {x : V} {ds : List PyData} {K : PySem.W.Frag} (t : Tp K φ ex H x (.list ds)) : ∃ a vs, x = .ref a ∧ (∀ K', SqL K' H a vs) ∧ RpL K φ ex H vs ds :=
  let ⟨a, vs, e, h, r⟩ := t.lst
  ⟨a, vs, e, fun _ => .inl h, r⟩
theorem c_sum (hc : X.calm = true) : CallR X (.builtin "sum") (rBf R fun s ws => bfD s .sum ws) := by
  rintro pins st σ H xs us Q I r ⟨φ, ex, s, ws, z, S, rw, h, q⟩
  obtain ⟨w, rfl, h⟩ := one1_of h
  obtain ⟨x, rfl, rx⟩ := one_of rw
  obtain ⟨l, e, rfl⟩ := map_of h
  obtain ⟨d, e1, e2⟩ := bind_of e
  obtain ⟨ds, e3, e4⟩ := bind_of e2
  cases listOf_of e3
  obtain ⟨a, vs, rfl, hl, rl⟩ := sqL_of (S.top rx e1)
  cases ints_of rl e4
  exact cr_sum hc pins st σ H _ us Q I r ⟨a, l, rfl, hl _, Ret.here q S (.int _)⟩
theorem c_any (hc : X.calm = true) : CallR X (.builtin "any") (rBf R fun s ws => bfD s .any ws) := by
  rintro pins st σ H xs us Q I r ⟨φ, ex, s, ws, z, S, rw, h, q⟩
  obtain ⟨w, rfl, h⟩ := one1_of h
  obtain ⟨x, rfl, rx⟩ := one_of rw
  obtain ⟨l, e, rfl⟩ := map_of h
  obtain ⟨d, e1, e2⟩ := bind_of e
  obtain ⟨ds, e3, e4⟩ := bind_of e2
  cases listOf_of e3
  obtain ⟨a, vs, rfl, hl, rl⟩ := sqL_of (S.top rx e1)
  cases bools_of rl e4
  exact cr_any hc pins st σ H _ us Q I r ⟨a, l, rfl, hl _, Ret.here q S (.bl _)⟩
theorem c_all (hc : X.calm = true) : CallR X (.builtin "all") (rBf R fun s ws => bfD s .all ws) := by
  rintro pins st σ H xs us Q I r ⟨φ, ex, s, ws, z, S, rw, h, q⟩
  obtain ⟨w, rfl, h⟩ := one1_of h
  obtain ⟨x, rfl, rx⟩ := one_of rw
  obtain ⟨l, e, rfl⟩ := map_of h
  obtain ⟨d, e1, e2⟩ := bind_of e
  obtain ⟨ds, e3, e4⟩ := bind_of e2
  cases listOf_of e3
  obtain ⟨a, vs, rfl, hl, rl⟩ := sqL_of (S.top rx e1)
  cases bools_of rl e4
  exact cr_all hc pins st σ H _ us Q I r ⟨a, l, rfl, hl _, Ret.here q S (.bl _)⟩
theorem RpW.int {x : V} {i : Int} (r : RpW R φ ex H x (.d (.int i))) : x = .int i := by cases r with | d r => cases r; rfl
theorem RpW.bl {x : V} {i : Bool} (r : RpW R φ ex H x (.d (.bool i))) : x = .bl i := by cases r with | d r => cases r; rfl
theorem RpW.str {x : V} {i : Str} (r : RpW R φ ex H x (.d (.str i))) : x = .str i := by cases r with | d r => cases r; rfl
theorem c_int : CallR X (.type "int") (rBf R fun s ws => bfD s .int ws) := by
  rintro pins st σ H xs us Q I r ⟨φ, ex, s, ws, z, S, rw, h, q⟩
  obtain ⟨w, rfl, h⟩ := one1_of h
  obtain ⟨x, rfl, rx⟩ := one_of rw
  change bfInt w = some z at h
  unfold bfInt at h
  split at h
  · cases h; exact call_int1 pins st σ H _ us Q I r (.inl ⟨_, by rw [rx.int], Ret.here q S (.int _)⟩)
  · cases h; exact call_int1 pins st σ H _ us Q I r (.inr ⟨_, by rw [rx.bl], Ret.here q S (.int _)⟩)
  · split at h
    · rename_i hl
      obtain ⟨n, hn, rfl⟩ := map_of h
      exact call_int_str pins st σ H _ us Q I r ⟨_, n, by rw [rx.str], hn, hl, Ret.here q S (.int _)⟩
    · cases h
  · cases h
theorem c_str : CallR X (.type "str") (rBf R fun s ws => bfD s .str ws) := by
  rintro pins st σ H xs us Q I r ⟨φ, ex, s, ws, z, S, rw, h, q⟩
  obtain ⟨w, rfl, h⟩ := one1_of h
  obtain ⟨x, rfl, rx⟩ := one_of rw
  change bfStr w = some z at h
  unfold bfStr at h
  split at h
  · split at h
    · cases h; exact call_str_int pins st σ H _ us Q I r ⟨_, by rw [rx.int], by assumption, Ret.here q S (.str _)⟩
    · cases h
  · cases h; exact SkE.call_str_str pins st σ H _ us Q I r ⟨_, by rw [rx.str], Ret.here q S (.str _)⟩
  · cases h
theorem c_tuple (hK : X.K = R.K) : CallR X (.type "tuple") (rBf R fun s ws => bfD s .tuple ws) := by
  rintro pins st σ H xs us Q I r ⟨φ, ex, s, ws, z, S, rw, h, q⟩
  obtain ⟨w, rfl, h⟩ := one1_of h
  obtain ⟨x, rfl, rx⟩ := one_of rw
  obtain ⟨u, rfl, ru⟩ := vals1 r
  obtain ⟨ds, e, rfl⟩ := map_of h
  obtain ⟨d, e1, e2⟩ := bind_of e
  have t := S.top rx e1
  rcases seqOf_of e2 with rfl | rfl
  · obtain ⟨a, vs, rfl, hl, rl⟩ := sqL_of t
    exact Cd.call_tupleX pins st σ H _ _ Q I r ⟨a, vs, rfl, .inl ⟨hl _, Ret.tup q S rl⟩⟩
  · have t2 := t
    rcases t with t | ⟨_, _, _, _, t, _⟩
    · obtain ⟨a, vs, rfl, hl, rl⟩ := t2.tup
      exact Cd.call_tupleX pins st σ H _ _ Q I r ⟨a, vs, rfl, .inr ⟨by rw [hK]; exact hl, Ret.here q S t⟩⟩
    · cases t
theorem c_list (hK : X.K = R.K) (hP : X.prog = R.P) (hw : X.w = R.w) (hc : X.calm = true) : CallR X (.type "list") (rBf R fun s ws => bfD s .list ws) := by
  rintro pins st σ H xs us Q I r ⟨φ, ex, s, ws, z, S, rw, h, q⟩
  obtain ⟨w, rfl, h⟩ := one1_of h
  obtain ⟨x, rfl, rx⟩ := one_of rw
  have old : ((top s w).bind seqOf).map PyData.list = some z → wpAny (model X.prog X.w) X.A (call (.type "list") us) (EP X pins σ Q) X.xe st := fun h => by
    obtain ⟨ds, e, rfl⟩ := map_of h
    obtain ⟨d, e1, e2⟩ := bind_of e
    have t := S.top rx e1
    rcases seqOf_of e2 with rfl | rfl
    · obtain ⟨a, vs, rfl, hl, rl⟩ := sqL_of t
      exact call_list_of pins st σ H _ us Q I r ⟨a, vs, rfl, .inl (hl _), fun p hp => q vs p rl hp⟩
    · obtain ⟨a, vs, rfl, hl, rl⟩ := t.tup
      exact call_list_of pins st σ H _ us Q I r ⟨a, vs, rfl, .inr (by rw [hK]; exact hl), fun p hp => q vs p rl hp⟩
  cases w with
  | fd kvs =>
    change (if kvs.length ≤ sizeLine then some (PyData.list (kvs.map (·.1))) else none) = some z at h
    split at h
    · rename_i hz
      cases h
      cases rx with
      | fd h1 n zz =>
        exact Cd.call_listK hc pins st σ H _ us Q I r ⟨_, _, _, rfl, by rw [hP, hw]; exact h1, by rw [← zz.len]; exact hz, fun p hp => q _ p zz.keys hp⟩
    · cases h
  | clo k o ws => cases rx
  | d x => exact old h
  | ref n => exact old h
  | tup ws => exact old h
  | fn i => exact old h
  | pr x y => exact old h
theorem c_min (hc : X.calm = true) : CallR X (.builtin "min") (rBf R fun s ws => bfD s .min2 ws) := by
  rintro pins st σ H xs us Q I r ⟨φ, ex, s, ws, z, S, rw, h, q⟩
  obtain ⟨w, w2, rfl, h⟩ := two1_of h
  obtain ⟨x, y, rfl, rx, ry⟩ := two_of rw
  change bfMin w w2 = some z at h
  unfold bfMin at h
  split at h
  · cases h; exact call_min2 hc pins st σ H _ us Q I r ⟨_, _, by rw [rx.int, ry.int], Ret.here q S (.int _)⟩
  · cases h
theorem c_max (hc : X.calm = true) : CallR X (.builtin "max") (rBf R fun s ws => bfD s .max2 ws) := by
  rintro pins st σ H xs us Q I r ⟨φ, ex, s, ws, z, S, rw, h, q⟩
  obtain ⟨w, w2, rfl, h⟩ := two1_of h
  obtain ⟨x, y, rfl, rx, ry⟩ := two_of rw
  change bfMax w w2 = some z at h
  unfold bfMax at h
  split at h
  · cases h; exact call_max2 hc pins st σ H _ us Q I r ⟨_, _, by rw [rx.int, ry.int], Ret.here q S (.int _)⟩
  · cases h
end
/-! ### calls of built-ins by name -/
section
variable {X : Cx} {R : Gt} {E : L2.St → XK} {a b c e o : Expr} {ca cb cc ce co : Ex} {es : List Expr} {ces : List Ex} {pos p : Pos}
theorem bf_imp {f : Bf} {σ : L2.St} {H : Hp} {Q : VK} (h : tF R E (.bf f ces) σ H Q) : tA R E ces σ H fun xs H1 => rBf R (fun s ws => bfD s f ws) xs H1 Q := by
  obtain ⟨φ, ex, s, env, S, N, h⟩ := h
  simp only [runE] at h
  refine tA_mono (tA_bind mono_F S N h) fun xs H1 ⟨φ1, s1, ws, S1, N1, e1, r1, h1⟩ => ?_
  obtain ⟨w, hw, q⟩ := h1.of
  cases e : bfD s1 f ws with
  | none => rw [e] at hw; cases hw
  | some z =>
    rw [e] at hw
    cases hw
    exact ⟨φ1, ex, s1, ws, z, S1, r1, e, q.fret S1⟩
theorem f_bfB {id : String} {f : Bf} {x : Str} (hs : ∀ x p, e ≠ .Starred x p) (hc : CallR X (.builtin id) (rBf R fun s ws => bfD s f ws)) (hg : Gl X x) (hm : X.mg x = none) (hv : bootBuiltins x = some (.builtin id)) (hn : x ≠ "__name__") (hd : (x == ("__debug__" : Str)) = false)
    (ha : PA X (e :: es) (tA R E ces)) (hp : (backTo pos (starEach es X.env)).any (·.1) = false) : PE X (.Call (.Name x p) (e :: es) [] pos) (tF R E (.bf f ces)) :=
  peImp (pe_callB hc hg hm hv ha hn hd (star_ne hs es X.env) hp) fun σ H Q h => bf_imp h
theorem f_bfT {id : String} {f : Bf} {x : Str} (hs : ∀ x p, e ≠ .Starred x p) (hc : CallR X (.type id) (rBf R fun s ws => bfD s f ws)) (hg : Gl X x) (hm : X.mg x = none) (hv : bootBuiltins x = some (.type id)) (hn : x ≠ "__name__") (hd : (x == ("__debug__" : Str)) = false)
    (ha : PA X (e :: es) (tA R E ces)) (hp : (backTo pos (starEach es X.env)).any (·.1) = false) : PE X (.Call (.Name x p) (e :: es) [] pos) (tF R E (.bf f ces)) :=
  peImp (pe_callTy hc hg hm hv ha hn hd (star_ne hs es X.env) hp) fun σ H Q h => bf_imp h
/-! ### isinstance -/
def tyN : Ty → String
  | .bool => "bool" | .int => "int" | .str => "str" | .list => "list" | .tuple => "tuple"
theorem tyx_of {K : PySem.W.Frag} {φ : Ph} {ex : List Addr} {H : Hp} {x : V} {d : PyData} {t : Ty} {k : Bool} (q : Tp K φ ex H x d) (h : isD t d = some k) : ∃ u, TyX K H x u ∧ PySem.W.kitOne K u (.type (tyN t)) = some k := by
  cases d <;> simp only [isD] at h
  · rw [q.non]; refine ⟨_, .base .non, ?_⟩; cases h; cases t <;> exact kit_ty (by decide +kernel)
  · rw [q.bl]; refine ⟨_, .base (.bl _), ?_⟩; cases h; cases t <;> exact kit_ty (by decide +kernel)
  · rw [q.int]; refine ⟨_, .base (.int _), ?_⟩; cases h; cases t <;> exact kit_ty (by decide +kernel)
  · rw [q.str]; refine ⟨_, .base (.str _), ?_⟩; cases h; cases t <;> exact kit_ty (by decide +kernel)
  · obtain ⟨a, vs, rfl, hl, r⟩ := q.lst
    have e : PySem.W.kitOne K (.type "list") (.type (tyN t)) = some k := by cases h; cases t <;> exact kit_ty (by decide +kernel)
    rcases hl with hl | ⟨o, hl⟩
    · exact ⟨_, .base (.lst hl), e⟩
    · exact ⟨_, .base (.frz hl), e⟩
  · obtain ⟨a, vs, rfl, hl, r⟩ := q.tup
    have e : PySem.W.kitOne K (.type "tuple") (.type (tyN t)) = some k := by cases h; cases t <;> exact kit_ty (by decide +kernel)
    rcases hl with (hl | ⟨o, hl⟩) | ⟨o, its, n, hk, hc, _⟩
    · exact ⟨_, .base (.tup hl), e⟩
    · exact ⟨_, .fTuple hl, e⟩
    · exact ⟨_, .kTuple hk hc, e⟩
  · cases h
theorem boot_tyN (t : Ty) : bootBuiltins (Str.ofString (tyN t)) = some (.type (tyN t)) := by cases t <;> decide +kernel
theorem p_isa {t : Ty} {y : Str} {p2 : Pos} (hK : X.K = R.K) (hs : ∀ x p, a ≠ .Starred x p) (hg : Gl X "isinstance") (hm : X.mg "isinstance" = none) (hy : y = Str.ofString (tyN t)) (hg2 : Gl X y) (hm2 : X.mg y = none) (ha : PE X a (tD R E ca)) :
    PE X (.Call (.Name "isinstance" p) [a, .Name y p2] [] pos) (tD R E (.bf (.isa t) [ca])) := by
  have hy2 : PE X (.Name y p2) (tC (.ty (tyN t))) := by
    subst hy
    exact pe_bltn hg2 hm2 (boot_tyN t) rfl (by cases t <;> decide +kernel) (by cases t <;> decide +kernel)
  refine peImp (pe_callB call_isi hg hm boot_isinstance (pa_cons ha (pa_cons hy2 pa_nil) (star_ne hs _ X.env)) (by decide) (by decide) (star_ne hs _ X.env)) fun σ H Q ⟨φ, ex, s, env, S, N, h⟩ => ?_
  simp only [runE, runEs, res_assoc] at h
  refine tD_mono (tD_bind mono_W S N h) fun x H1 ⟨φ1, s1, w, S1, N1, e1, r1, h1⟩ => ?_
  dsimp only [Res.bind] at h1
  obtain ⟨z, hz, q⟩ := h1.of
  obtain ⟨z', hz2, rfl⟩ := map_of hz
  obtain ⟨k, hz3, rfl⟩ := map_of (show bfIsa s1 t w = some z' from hz2)
  obtain ⟨d, e, e2⟩ := bind_of hz3
  obtain ⟨u, tx, hk⟩ := tyx_of (S1.top r1 e) e2
  rw [← hK] at tx hk
  exact ⟨x, .ty (tyN t), u, .type (tyN t), k, rfl, .ty _, tx, hk, q _ φ1 H1 (Ext.refl _ _) S1 (.d (.bl _))⟩
end
end Cc

set_option linter.all false
set_option maxRecDepth 100000
set_option maxHeartbeats 1000000
/-! Cc: methods of built-in types, attributes. -/
namespace Cc
open PySem PySem.Spec PyProof.Rows L2

theorem base_ne {o : Expr} (h : ∀ f es k p, o ≠ .Call f es k p) (m : Str) (env : PySem.Env) : attributeBase o m env (eval o env) = eval o env := by
  cases o <;> first | rfl | exact absurd rfl (h _ _ _ _)
section
variable {X : Cx} {R : Gt} {E : L2.St → XK} {a b c e o : Expr} {ca cb cc ce co : Ex} {es : List Expr} {ces : List Ex} {pos p apos : Pos}
/-- what a built-in's method is asked -/
def rBm (R : Gt) (f : Store → W → List W → Option PyData) : V → List V → Hp → VK → Prop := fun x xs H Q => ∃ φ ex s wo ws z, Sim R φ ex H s ∧ RpW R φ ex H x wo ∧ RpWL R φ ex H xs ws ∧ f s wo ws = some z ∧ FRet R φ ex H s z Q
theorem m_join (hK : X.K = R.K) : MtR X "str.join" (rBm R fun s o ws => bmD s .join o ws) := by
  rintro pins st σ H x xs v us Q I rv r ⟨φ, ex, s, wo, ws, z, S, ro, rw, h, q⟩
  obtain ⟨w, rfl, h⟩ := one1_of h
  obtain ⟨y, rfl, ry⟩ := one_of rw
  change bmJoin s wo w = some z at h
  unfold bmJoin at h
  split at h
  · rename_i a
    obtain ⟨ys, e, h⟩ := bind_of h
    obtain ⟨d, e1, e2⟩ := bind_of e
    obtain ⟨ds, e3, e4⟩ := bind_of e2
    have t := S.top ry e1
    split at h
    · rename_i hz
      cases h
      rcases seqOf_of e3 with rfl | rfl
      · obtain ⟨p, vs, rfl, hl, rl⟩ := sqL_of t
        cases strs_of rl e4
        exact mt_join pins st σ H x _ v us Q I rv r ⟨_, p, ys, ro.str, rfl, .inl (hl _), hz, Ret.here q S (.str _)⟩
      · obtain ⟨p, vs, rfl, hl, rl⟩ := t.tup
        cases strs_of rl e4
        exact mt_join pins st σ H x _ v us Q I rv r ⟨_, p, ys, ro.str, rfl, .inr (by rw [hK]; exact hl), hz, Ret.here q S (.str _)⟩
    · cases h
  · cases h
theorem RpL.strs {K : PySem.W.Frag} {φ : Ph} {ex : List Addr} {H : Hp} : ∀ l : List Str, RpL K φ ex H (l.map V.str) (l.map PyData.str)
  | [] => .nil
  | x :: l => .cons (.str x) (RpL.strs l)
theorem m_split : MtR X "str.split" (rBm R fun s o ws => bmD s .split o ws) := by
  rintro pins st σ H x xs v us Q I rv r ⟨φ, ex, s, wo, ws, z, S, ro, rw, h, q⟩
  obtain ⟨w, rfl, h⟩ := one1_of h
  obtain ⟨y, rfl, ry⟩ := one_of rw
  change bmSplit wo w = some z at h
  unfold bmSplit at h
  split at h
  · split at h
    · rename_i hz
      cases h
      exact mt_split pins st σ H x _ v us Q I rv r ⟨_, _, ro.str, by rw [ry.str], hz.1, hz.2, fun p hp => q _ p (RpL.strs _) hp⟩
    · cases h
  · cases h
theorem m_partition : MtR X "str.partition" (rBm R fun s o ws => bmD s .partition o ws) := by
  rintro pins st σ H x xs v us Q I rv r ⟨φ, ex, s, wo, ws, z, S, ro, rw, h, q⟩
  obtain ⟨w, rfl, h⟩ := one1_of h
  obtain ⟨y, rfl, ry⟩ := one_of rw
  change bmPartition wo w = some z at h
  unfold bmPartition at h
  split at h
  · split at h
    · rename_i hz
      cases h
      exact Cd.mt_partitionX pins st σ H x _ v us Q I rv r ⟨_, _, ro.str, by rw [ry.str], hz.1, hz.2, Ret.tup q S (.cons (.str _) (.cons (.str _) (.cons (.str _) .nil)))⟩
    · cases h
  · cases h
theorem m_startswith : MtR X "str.startswith" (rBm R fun s o ws => bmD s .startswith o ws) := by
  rintro pins st σ H x xs v us Q I rv r ⟨φ, ex, s, wo, ws, z, S, ro, rw, h, q⟩
  obtain ⟨w, rfl, h⟩ := one1_of h
  obtain ⟨y, rfl, ry⟩ := one_of rw
  change bmStarts wo w = some z at h
  unfold bmStarts at h
  split at h
  · cases h
    exact mt_startswith pins st σ H x _ v us Q I rv r ⟨_, _, ro.str, by rw [ry.str], Ret.here q S (.bl _)⟩
  · cases h
theorem few1 {a : Expr} (h : ∀ x p, a ≠ .Starred x p) (cpos : Pos) (env : PySem.Env) : ((backTo cpos (starEach [a] env)).all (fun x => !x.1) && (backToKw cpos (keywordEach [] env)).all (fun x => x.1.isSome)
      && decide (([a] : List Expr).length + ([] : List Keyword).length + (if ([] : List Keyword).isEmpty then 0 else 1) < 30)) = true := by
  rw [star_ne h]
  rfl
/-- o.m(a) of a text -/
theorem f_bm {m : Bm} {name : Str} {id : String} (hm : MtR X id (rBm R fun s o ws => bmD s m o ws)) (slot : Slot "str" name id) (hty : typeOf (.builtin id) = pure (.type "method_descriptor"))
    (hb : ∀ f es k p, o ≠ .Call f es k p) (hs : ∀ x p, a ≠ .Starred x p) (hl : (apos.endLine == pos.line) = true) (ho : PE X o (tD R E co)) (ha : PA X [a] (tA R E ces)) :
    PE X (.Call (.Attribute o name apos) [a] [] pos) (tF R E (.bm m co ces)) :=
  peImp (pe_bm PySem.F.plainAttrs_str slot hty hm ho ha (base_ne hb name X.env) (few1 hs pos X.env) hl (star_ne hs [] X.env)) fun σ H Q ⟨φ, ex, s, env, S, N, h⟩ => by
    simp only [runE] at h
    refine tD_mono (tD_bind mono_F S N h) fun x H1 ⟨φ1, s1, wo, S1, N1, e1, r1, h1⟩ => ?_
    dsimp only at h1
    split at h1
    · rename_i hk
      have ht : tyV X.K "str" x H1 := by
        unfold bmOk at hk
        split at hk
        · rw [r1.str]; rfl
        · cases hk
      refine ⟨ht, tA_mono (tA_bind mono_F S1 N1 h1) fun xs H2 ⟨φ2, s2, ws, S2, N2, e2, r2, h2⟩ => ?_⟩
      obtain ⟨w, hw, q⟩ := h2.of
      obtain ⟨z, hz, rfl⟩ := map_of hw
      exact ⟨φ2, ex, s2, wo, ws, z, S2, RpW.ext e2 _ _ r1, r2, hz, q.fret S2⟩
    · exact h1.elim
/-! ### a list's methods that only read -/
def rLm (R : Gt) (m : Lm) : V → List V → Hp → VK → Prop := fun x xs H Q => ∃ φ ex s wo ws z, Sim R φ ex H s ∧ RpW R φ ex H x wo ∧ RpWL R φ ex H xs ws ∧ lmD s m wo ws = some z ∧ ∃ j : Nat, z = .int j ∧ Q (.int j) H
theorem mt_countD (hu : X.A.units + 65 < cLine) : MtR X "list.count" (fun x xs H Q => ∃ (a : Addr) (y : V) (d : PyData) (ds : List PyData), x = V.ref a ∧ xs = [y] ∧ Dp X.K H (V.ref a) (.list ds) ∧ Dp X.K H y d ∧ SeqAt.shaped (.list ds) = true ∧ SeqAt.shaped d = true ∧ Q (.int (ds.countP fun z => PyData.eqv z d : Nat)) H) := by
  rintro pins s σ H x xs v us Q I rx rxs ⟨a, y, d, ds, rfl, rfl, hl, hy, sl, sd, q⟩
  cases rx
  obtain ⟨uy, rfl, ry⟩ := rxs.one
  obtain ⟨bs, r1⟩ := Dp.reads I d y uy hy ry
  have hxs : PyData.canLayAll0 ds = true := SeqAt.canLay_of_shaped sl
  cases hl with
  | lst hs ha =>
    obtain ⟨its, rv, ⟨⟨cls, dd, data, sls⟩, n, ho, hc, hdn, hdt⟩, hlen⟩ := I.list hs
    simp only at hc hdt; subst hc hdt
    obtain ⟨as, h4⟩ := Dp.readsAll I ds _ its ha rv
    have hmap : its.map (SeqAt.readOf s.heap) = ds := SeqAt.readsAll_map ds its as hxs h4
    have rm : X.A.units + 1 + min (PyData.depthAll ds) d.depth < cLine := room_in_shaped sd hu
    refine call_meets PySem.F.slot_list_count ⟨_, ho, rfl⟩ PySem.F.entry_list_count (PySem.F.args_list_count_2 _ _) (SeqAt.list_countAt a its.toArray n dd sls uy (fun u => PyData.eqv (SeqAt.readOf s.heap u) d))
      ⟨ho, SeqAt.items_eqAt (vs := its.toArray) (show ReadsAll s.heap its.toArray.toList ds as from h4) r1 hxs (SeqAt.canLay_of_shaped sd) rm, ⟨.int (ds.countP fun z => PyData.eqv z d : Nat), H, I.tok _, ⟨s.toks, ?_⟩, q⟩⟩
    rw [← hmap, List.countP_map]
    rfl
theorem lm_top {s : Store} {o w : W} {F : List PyData → PyData → Option PyData} {z : PyData} (h : (((top s o).bind listOf).bind fun ds => (top s w).bind fun d => if SeqAt.shaped (.list ds) && SeqAt.shaped d then F ds d else none) = some z) :
    ∃ ds d, top s o = some (.list ds) ∧ top s w = some d ∧ SeqAt.shaped (.list ds) = true ∧ SeqAt.shaped d = true ∧ F ds d = some z := by
  obtain ⟨ds, h1, h⟩ := bind_of h
  obtain ⟨y, hy, h1⟩ := bind_of h1
  obtain ⟨d, hd, h⟩ := bind_of h
  obtain rfl : y = .list ds := by cases y <;> simp only [listOf] at h1 <;> first | (cases h1; rfl) | cases h1
  split at h
  · rename_i q
    simp only [Bool.and_eq_true] at q
    exact ⟨ds, d, hy, hd, q.1, q.2, h⟩
  · cases h
theorem m_count (hK : X.K = R.K) (hu : X.A.units + 65 < cLine) : MtR X "list.count" (rLm R .count) := by
  rintro pins st σ H x xs v us Q I rv r ⟨φ, ex, s, wo, ws, z, S, ro, rw', h, j, rfl, q⟩
  obtain ⟨w, rfl, h⟩ := one1_of h
  obtain ⟨y, rfl, ry⟩ := one_of rw'
  obtain ⟨ds, d, h1, h2, h3, h4, h5⟩ := lm_top h
  obtain ⟨a, vs, rfl, hl, rl⟩ := sqL_of (S.top ro h1)
  cases h5
  rw [← hK] at rl
  exact mt_countD hu pins st σ H _ _ v us Q I rv r ⟨a, y, d, ds, rfl, rfl, .lst (hl _) (RpL.dp ds _ rl), by rw [hK]; exact (S.top ry h2).dp, h3, h4, q⟩
theorem m_index (hK : X.K = R.K) (hu : X.A.units + 65 < cLine) : MtR X "list.index" (rLm R .index) := by
  rintro pins st σ H x xs v us Q I rv r ⟨φ, ex, s, wo, ws, z, S, ro, rw', h, j, rfl, q⟩
  obtain ⟨w, rfl, h⟩ := one1_of h
  obtain ⟨y, rfl, ry⟩ := one_of rw'
  obtain ⟨ds, d, h1, h2, h3, h4, h5⟩ := lm_top h
  obtain ⟨a, vs, rfl, hl, rl⟩ := sqL_of (S.top ro h1)
  obtain ⟨k, h6, e⟩ := map_of h5
  have ek : k = j := by
    have := PyData.int.inj e
    omega
  subst ek
  obtain ⟨hk, p1, p2⟩ := List.findIdx?_eq_some_iff_getElem.mp h6
  rw [← hK] at rl
  refine mt_indexD hu pins st σ H _ _ v us Q I rv r ⟨a, y, d, ds, k, ds[k], rfl, rfl, .lst (hl _) (RpL.dp ds _ rl), by rw [hK]; exact (S.top ry h2).dp, h3, h4, List.getElem?_eq_getElem hk, p1, fun m z' hm hz => ?_, q⟩
  have := p2 m hm
  rw [List.getElem?_eq_getElem (by omega)] at hz
  cases hz
  simpa using this
theorem lm_ty {φ : Ph} {ex : List Addr} {H : Hp} {s : Store} {x : V} {w : W} (S : Sim R φ ex H s) (r : RpW R φ ex H x w) (h : lmOk s w = true) (K : PySem.W.Frag) : tyV K "list" x H := by
  unfold lmOk at h
  split at h
  · rename_i ds q
    obtain ⟨a, vs, rfl, hl, _⟩ := sqL_of (S.top r q)
    exact .inl ⟨rfl, vs, hl _⟩
  · cases h
/-- o.m(a) of a list -/
theorem p_lm {m : Lm} {name : Str} {id : String} (hm : MtR X id (rLm R m)) (slot : Slot "list" name id) (hty : typeOf (.builtin id) = pure (.type "method_descriptor"))
    (hb : ∀ f es k p, o ≠ .Call f es k p) (hs : ∀ x p, a ≠ .Starred x p) (hl : (apos.endLine == pos.line) = true) (ho : PE X o (tD R E co)) (ha : PA X [a] (tA R E ces)) :
    PE X (.Call (.Attribute o name apos) [a] [] pos) (tD R E (.lm m co ces)) :=
  peImp (pe_bm PySem.F.plainAttrs_list slot hty hm ho ha (base_ne hb name X.env) (few1 hs pos X.env) hl (star_ne hs [] X.env)) fun σ H Q ⟨φ, ex, s, env, S, N, h⟩ => by
    simp only [runE] at h
    refine tD_mono (tD_bind mono_W S N h) fun x H1 ⟨φ1, s1, wo, S1, N1, e1, r1, h1⟩ => ?_
    dsimp only at h1
    split at h1
    · rename_i hk
      refine ⟨lm_ty S1 r1 hk _, tA_mono (tA_bind mono_W S1 N1 h1) fun xs H2 ⟨φ2, s2, ws, S2, N2, e2, r2, h2⟩ => ?_⟩
      obtain ⟨w, hw, q⟩ := h2.of
      obtain ⟨z, hz, rfl⟩ := map_of hw
      have hj : ∃ j : Nat, z = .int j := by
        cases m
        · obtain ⟨u, rfl, hz⟩ := one1_of hz
          obtain ⟨ds, d, _, _, _, _, h5⟩ := lm_top hz
          cases h5; exact ⟨_, rfl⟩
        · obtain ⟨u, rfl, hz⟩ := one1_of hz
          obtain ⟨ds, d, _, _, _, _, h5⟩ := lm_top hz
          obtain ⟨k, _, rfl⟩ := map_of h5; exact ⟨k, rfl⟩
      obtain ⟨j, rfl⟩ := hj
      exact ⟨φ2, ex, s2, wo, ws, _, S2, RpW.ext e2 _ _ r1, r2, hz, j, rfl, q _ φ2 H2 (Ext.refl _ _) S2 (.d (.int _))⟩
    · exact h1.elim
theorem findIdx_at {α : Type} {p : α → Bool} : ∀ {xs : List α} {j : Nat}, xs.findIdx? p = some j → ∃ x, xs[j]? = some x ∧ p x = true ∧ ∀ m, m < j → ∀ y, xs[m]? = some y → p y = false := by
  intro xs j h
  rw [List.findIdx?_eq_some_iff_getElem] at h
  obtain ⟨hj, h1, h2⟩ := h
  refine ⟨xs[j], List.getElem?_eq_getElem hj, h1, fun m hm y hy => ?_⟩
  have := h2 m hm
  obtain ⟨hl, e⟩ := List.getElem?_eq_some_iff.mp hy
  rw [← e]
  simpa using this
/-- t.index(a), t a tuple of the module -/
theorem p_tix {x : Str} {p : Pos} {u : Value} {ds : List PyData} (hK : X.K = R.K) (hg : Gl X x) (hm : X.mg x = some u) (hc : ConK R.K u (.tuple ds)) (hd : (x == ("__debug__" : Str)) = false)
    (hs : ∀ x p, a ≠ .Starred x p) (hl : (apos.endLine == pos.line) = true) (ha : PE X a (tD R E ca)) : PE X (.Call (.Attribute (.Name x p) "index" apos) [a] [] pos) (tD R E (.tix ds ca)) := by
  obtain ⟨v, rv, rp⟩ := hc [] [] (fun _ => none)
  cases rp with
  | @tup aa vs _ hq rl =>
    have kt : KTu R.K aa vs := hq.elim (fun z => by obtain ⟨⟨o, e, _⟩, _⟩ := z; cases e) id
    refine peImp (pe_bm PySem.F.plainAttrs_tuple PySem.F.slot_tuple_index rfl mt_tup_index (pe_glob (v := .ref aa) hg hm rv hd) (pa_consD hs ha pa_nilD) (base_ne (fun _ _ _ _ z => by cases z) "index" X.env) (few1 hs pos X.env) hl (star_ne hs [] X.env)) fun σ H Q ⟨φ, ex, s, env, S, N, h⟩ => ?_
    simp only [runE] at h
    refine ⟨.inr (.inl ⟨rfl, ?_⟩), ?_⟩
    · obtain ⟨o, its, n, h1, h2, h3, _⟩ := kt
      exact ⟨o, by rw [hK]; exact h1, h2, h3⟩
    · refine ⟨φ, ex, s, env, S, N, ?_⟩
      simp only [runEs, res_assoc]
      cases r : runE R.Φ R.M R.CI R.FO ca env s with
      | stuck => rw [r] at h; exact h
      | exc x t => rw [r] at h; exact h
      | ok w t =>
        rw [r] at h
        simp only [Res.bind_ok] at h ⊢
        intro xs φ' H' e' S' rl'
        obtain ⟨z, hz, q⟩ := h.of
        obtain ⟨z', hz', rfl⟩ := map_of hz
        obtain ⟨y, rfl, ry⟩ := one_of rl'
        unfold tixW at hz'
        split at hz'
        · rename_i zz
          obtain ⟨ys, h1, h2⟩ := bind_of hz'
          obtain ⟨j, h3, rfl⟩ := map_of h2
          obtain ⟨y', h4, h5, h6⟩ := findIdx_at h3
          have ev := strs_of rl h1
          refine ⟨aa, ys, zz, j, rfl, by rw [ry.str], ?_, ?_, fun m hm hy => ?_, q _ φ' H' e' S' (.d (.int _))⟩
          · obtain ⟨o, its, n, k1, k2, k3, k4, k5, k6⟩ := kt
            exact .inr ⟨o, its, n, by rw [hK]; exact k1, k2, k4, k5, by rw [← ev]; exact k6⟩
          · rw [h4]
            rw [decide_eq_true_eq] at h5
            rw [h5]
          · have := h6 m hm _ hy
            simp at this
        · cases hz'
/-- dict(a)[b], texts as keys -/
theorem p_dlk {p p2 : Pos} (hK : X.K = R.K) (hc : X.calm = true) (hu : X.A.units + 65 < cLine) (hs : ∀ x p, a ≠ .Starred x p) (hb : ∀ l u t p, b ≠ .Slice l u t p) (hg : Gl X "dict") (hm : X.mg "dict" = none) (ha : PE X a (tD R E ca)) (hbe : PE X b (tD R E cb)) :
    PE X (.Subscript (.Call (.Name "dict" p) [a] [] p2) b pos) (tD R E (.dlk ca cb)) :=
  peImp (pe_ix (ix_dk (by omega)) (pe_callTy (Cd.call_dictS hc) hg hm (by decide +kernel) (pa_consD hs ha pa_nilD) (by decide) (by decide) (star_ne hs [] X.env) rfl) hbe (plainIx hb)) fun σ H Q ⟨φ, ex, s, env, S, N, h⟩ => by
    simp only [runE] at h
    refine ⟨φ, ex, s, env, S, N, ?_⟩
    simp only [runEs, res_assoc]
    cases r : runE R.Φ R.M R.CI R.FO ca env s with
    | stuck => rw [r] at h; exact h
    | exc x t => rw [r] at h; exact h
    | ok w t =>
      rw [r] at h
      simp only [Res.bind_ok] at h ⊢
      intro vs φ' H' e' S' rl'
      obtain ⟨y, rfl, ry⟩ := one_of rl'
      split at h
      · rename_i ps hps
        obtain ⟨ds, h1, h2⟩ := bind_of hps
        obtain ⟨d, h3, h4⟩ := bind_of h1
        have fin : ∀ (a : Addr) (as : List Addr) (fv : List (Str × V)), y = .ref a → (SqL X.K H' a (as.map V.ref) ∨ Cd.TX H' a (as.map V.ref) ∨ ∃ (o : Obj) (its : Array Value) (n : Nat), X.K.lookup a = some o ∧ o.cls = .type "tuple" ∧ o.dict = Option.none ∧ o.data = .seq its n ∧ its.size ≤ sizeLine ∧ Vals (as.map V.ref) its.toList) →
            Paired (fun p kv => SqT X.K H' p [kV kv.1, kv.2]) as (kk fv) → FsR R φ' ex H' fv (ps.map fun p => (p.1, W.d p.2)) →
            ∃ (a : Addr) (ps : List Addr) (kvs : List (Key × V)), [y] = [.ref a] ∧ (SqL X.K H' a (ps.map V.ref) ∨ Cd.TX H' a (ps.map V.ref) ∨ ∃ (o : Obj) (its : Array Value) (n : Nat), X.K.lookup a = some o ∧ o.cls = .type "tuple" ∧ o.dict = Option.none ∧ o.data = .seq its n ∧ its.size ≤ sizeLine ∧ Vals (ps.map V.ref) its.toList) ∧
              Paired (fun p kv => SqT X.K H' p [kV kv.1, kv.2]) ps kvs ∧ ∀ p, H' p = none → tD R E cb σ (upd H' p (.dK (mergeK [] kvs))) fun y2 H2 => rIxK (.ref p) y2 H2 Q := fun a as fv e1 e2 e3 e4 => by
          subst e1
          refine ⟨a, as, kk fv, rfl, e2, e3, fun p hp => ?_⟩
          obtain ⟨e5, S5⟩ := S'.new (o := .dK (mergeK [] (kk fv))) hp
          have hnp : some p ∉ φ' := fun z => by obtain ⟨o, eo, _⟩ := S'.mem z; rw [hp] at eo; cases eo
          refine tD_mono (tD_bind mono_W S5 ((N.ext e').ext e5) (h.grow mono_W (e'.trans e5))) fun y2 H2 ⟨φ2, s2, w2, S2, N2, e6, r2, h2'⟩ => ?_
          obtain ⟨w3, hw3, q⟩ := h2'.of
          unfold dlkW at hw3
          split at hw3
          · rename_i k
            have fm := FsR.merge e4 (FsR.nil (R := R) (φ := φ') (ex := ex) (H := H'))
            obtain ⟨v, hv, rv⟩ := fm.atS hw3
            have em : mergeK [] (kk fv) = kk (fv.foldl (fun acc p => Cc.putS acc p.1 p.2) []) := kk_merge fv []
            refine ⟨p, _, k, v, rfl, by rw [r2.str], e6.keep p _ upd_same hnp (fun ps z => HO.noConfusion z), by rw [em]; exact hv, q v φ2 H2 (Ext.refl _ _) S2 (RpW.ext (e5.trans e6) _ _ rv)⟩
          · cases hw3
        have t := S'.top ry h3
        cases d <;> simp only [seqOf] at h4 <;> first | (cases h4; done) | skip
        · cases h4
          obtain ⟨a, vs, rfl, hl, rl⟩ := sqL_of t
          obtain ⟨as, fv, rfl, pr, fr⟩ := prs_relS hK rl h2
          exact fin a as fv rfl (.inl (hl _)) pr fr
        · cases h4
          rcases t with t | ⟨_, _, _, _, t, _⟩
          · cases t with
            | tup hr rl =>
              obtain ⟨as, fv, rfl, pr, fr⟩ := prs_relS hK rl h2
              refine fin _ as fv rfl (.inr (hr.elim (fun q => .inl q.1) fun q => .inr ?_)) pr fr
              rw [hK]
              exact q
          · cases t
      · exact h.elim
/-! ### {"a": .., ..} -/
def dispTr (R : Gt) (E : L2.St → XK) : List Str → List Ex → List (L2.TE × L2.TE)
  | k :: ks, c :: cs => ((fun _ H Q => Q (.str k) H), tD R E c) :: dispTr R E ks cs
  | _, _ => []
theorem pairs_run {β : Type} {C : Kn β} (m : Mono C) {σ : L2.St} {env : Env} {ex : List Addr} : ∀ {ks : List Str} {cs : List Ex} {φ : Ph} {H : Hp} {s : Store} {f : List W → Store → Res β} {Q : List (V × V) → Hp → Prop}, ks.length = cs.length → Sim R φ ex H s → EnvR R φ ex H env σ →
    RunsTo ((runEs R.Φ R.M R.CI R.FO cs env s).bind f) (C φ H) (ExcOk R ex (E σ) φ H) →
    (∀ vs H1, vs.length = ks.length → Beh R ex (E σ) env σ φ H C f (fun φ1 H1 ws => RpWL R φ1 ex H1 vs ws) H1 → Q ((ks.zip vs).map fun p => (V.str p.1, p.2)) H1) → tPairs (dispTr R E ks cs) σ H Q
  | [], [], φ, H, s, f, Q, _, S, N, h, hQ => by
    simp only [runEs, Res.bind_ok] at h
    exact hQ [] H rfl ⟨φ, s, [], S, N, Ext.refl _ _, .nil, h⟩
  | k :: ks, c :: cs, φ, H, s, f, Q, hl, S, N, h, hQ => by
    simp only [runEs, res_assoc] at h
    show tD R E c σ H _
    refine tD_mono (tD_bind m S N h) fun x H1 ⟨φ1, s1, w, S1, N1, e1, r1, h1⟩ => ?_
    simp only [res_assoc, Res.bind_ok] at h1
    refine pairs_run m (ks := ks) (cs := cs) (f := fun ws s => f (w :: ws) s) (by simpa using hl) S1 N1 h1 fun vs H2 l ⟨φ2, s2, ws, S2, N2, e2, r2, h2⟩ => ?_
    exact hQ (x :: vs) H2 (by simp [l]) ⟨φ2, s2, w :: ws, S2, N2, e1.trans e2, .cons (RpW.ext e2 _ _ r1) r2, h2⟩
  | [], _ :: _, _, _, _, _, _, l, _, _, _, _ => by simp at l
  | _ :: _, [], _, _, _, _, _, l, _, _, _, _ => by simp at l
/-- {"a": .., ..} -/
theorem p_dlit {keys : List (Option Expr)} {vals : List Expr} {ks : List Str} {cs : List Ex} (hp : PPs X pos keys vals (dispTr R E ks cs)) (hall : keys.all (·.isSome) = true) (hl : keys.length = vals.length) (h0 : keys ≠ []) (h15 : keys.length ≤ 15) (hk : ks.length = cs.length) (hn : ks.Nodup) :
    PE X (.Dict keys vals pos) (tD R E (.dlit ks cs)) :=
  peImp (pe_disp hp hall hl h0 h15) fun σ H Q ⟨φ, ex, s, env, S, N, h⟩ p hp => by
    simp only [runE] at h
    obtain ⟨e, S'⟩ := S.push (o := .dK []) (c := .dk []) hp fun e => ⟨[], upd_same, .nil⟩
    refine pairs_run (C := RetW R ex Q) mono_W (f := fun ws s2 => fillDk s.length ks ws s2) hk S' (N.ext e) (h.grow mono_W e) fun vs H2 l ⟨φ2, s2, ws, S2, N2, e2, r2, h2⟩ => ?_
    dsimp only [fillDk] at h2
    split at h2
    · rename_i hs
      split at h2
      · rename_i hz
        have hφ : φ2[s.length]? = some (some p) := by
          obtain ⟨c, ec⟩ : ∃ c, s2[s.length]? = some c := ⟨_, hs⟩
          rcases S2.cell _ _ hs with ⟨z, _⟩ | ⟨a, ea, _⟩
          · cases z
          · have := e2.pre s.length a (by rw [List.length_append, S.len]; simp) ea
            rw [← S.len] at this
            simp at this
            rw [this]; exact ea
        rcases S2.cell _ _ hs with ⟨z, _⟩ | ⟨a, ea, fv, hd, rf⟩
        · cases z
        · rw [hφ] at ea
          cases ea
          cases rf
          refine ⟨hd, (ks.zip vs).map fun q => (Sum.inr q.1, q.2), by simp [kV], by simp; omega, ?_⟩
          have em : mergeK [] ((ks.zip vs).map fun q => ((Sum.inr q.1 : Key), q.2)) = kk (ks.zip vs) := by
            have := merge_new (ks.zip vs) [] ?_
            · simpa [kk] using this
            · rw [List.nil_append]
              have h1 : (ks.zip vs).map Prod.fst = ks := List.map_fst_zip (by omega)
              have h2 : ((ks.zip vs).map Prod.fst).Pairwise (· ≠ ·) := by rw [h1]; exact hn
              exact List.pairwise_map.mp h2
          rw [em]
          obtain ⟨e3, S3⟩ := S2.put (o := .dK (kk (ks.zip vs))) (c := .dk (ks.zip ws)) hφ fun e => ⟨_, upd_same, FsR.zip hz.2.1 (RpWL.ext e _ _ r2)⟩
          refine h2 _ _ _ e3 S3 (.ref ?_ fun a ha => ?_)
          · exact (List.getElem?_eq_some_iff.mp hφ).1
          · rw [hφ] at ha; cases ha; rfl
      · exact h2.elim
    · exact h2.elim
/-! ### a list cell changed -/
theorem RpL.dropLast {K : PySem.W.Frag} {φ : Ph} {ex : List Addr} {H : Hp} {ds : List PyData} {vs : List V} (h : RpL K φ ex H vs ds) : RpL K φ ex H vs.dropLast ds.dropLast := by
  rw [List.dropLast_eq_take, List.dropLast_eq_take, h.length]
  exact h.take _
/-- by values: what the method asks -/
def rMut (R : Gt) (m : Mt) : V → List V → Hp → VK → Prop := fun x xs H Q => ∃ φ ex s wo ws, Sim R φ ex H s ∧ RpW R φ ex H x wo ∧ RpWL R φ ex H xs ws ∧ RunsTo (mutW m wo ws s) (RetW R ex Q φ H) (fun _ _ => False)
theorem cell_lst {φ : Ph} {ex : List Addr} {H : Hp} {s : Store} {n : Nat} {x : V} {c : Cell} (S : Sim R φ ex H s) (h : s[n]? = some c) (r : RpW R φ ex H x (.ref n)) (hc : (∃ ds, c = .lst ds) ∨ ∃ ws, c = .wl ws) :
    ∃ a vs, x = .ref a ∧ φ[n]? = some (some a) ∧ H a = some (.lst vs) ∧ CellR R φ ex H a c := by
  rcases hc with ⟨ds, rfl⟩ | ⟨ws, rfl⟩
  · obtain ⟨a, vs, e, e2, e3, e4⟩ := S.lst h r; exact ⟨a, vs, e, e2, e3, vs, e3, e4⟩
  · obtain ⟨a, vs, e, e2, e3, e4⟩ := S.wl h r; exact ⟨a, vs, e, e2, e3, vs, e3, e4⟩
theorem chg_of {φ : Ph} {ex : List Addr} {H : Hp} {s : Store} {wo : W} {f : Cell → Option (PyData × Cell)} {Q : VK} (h : RunsTo (chg wo s f) (RetW R ex Q φ H) (fun _ _ => False)) :
    ∃ n c z c', wo = .ref n ∧ s[n]? = some c ∧ f c = some (z, c') ∧ RetW R ex Q φ H (.d z) (s.set n c') := by
  unfold chg at h
  split at h
  · rename_i n
    split at h
    · rename_i z c' e
      obtain ⟨c, e1, e2⟩ := bind_of e
      exact ⟨n, c, z, c', rfl, e1, e2, h⟩
    · exact h.elim
  · exact h.elim
theorem one_list {ws : List W} {α : Type} {r : W → Res α} {ok : α → Store → Prop} {xc : Exn → Store → Prop} (h : RunsTo (match ws with | [w] => r w | _ => .stuck) ok xc) : ∃ w, ws = [w] ∧ RunsTo (r w) ok xc := by
  split at h
  · exact ⟨_, rfl, h⟩
  · exact h.elim
theorem nil_list {ws : List W} {α : Type} {r : Res α} {ok : α → Store → Prop} {xc : Exn → Store → Prop} (h : RunsTo (match ws with | [] => r | _ => .stuck) ok xc) : ws = [] ∧ RunsTo r ok xc := by
  split at h
  · exact ⟨rfl, h⟩
  · exact h.elim
theorem chg_noexc {wo : W} {s : Store} {f : Cell → Option (PyData × Cell)} {z : Exn} {t : Store} (h : chg wo s f = .exc z t) : False := by
  unfold chg at h
  split at h
  · split at h <;> cases h
  · cases h
theorem mut_noexc {m : Mt} {wo : W} {ws : List W} {s : Store} {z : Exn} {t : Store} (h : mutW m wo ws s = .exc z t) : False := by
  unfold mutW at h
  cases m <;> dsimp only at h <;> split at h <;> first | exact chg_noexc h | cases h
theorem m_append : MtR X "list.append" (rMut R .append) := by
  rintro pins st σ H x xs v us Q I rv r ⟨φ, ex, s, wo, ws, S, ro, rw, h⟩
  obtain ⟨w, rfl, h⟩ := one_list h
  obtain ⟨n, c, z, c', rfl, hc, hf, h⟩ := chg_of h
  obtain ⟨y, rfl, ry⟩ := one_of rw
  obtain ⟨c2, ha, e⟩ := map_of hf
  cases e
  unfold appC at ha
  split at ha
  · rename_i ds
    obtain ⟨a, vs, rfl, hφ, hl, rl⟩ := S.lst hc ro
    split at ha
    · rename_i hz
      cases ha
      refine mt_append pins st σ H _ _ v us Q I rv r ⟨a, vs, y, rfl, rfl, hl, by rw [rl.length]; exact hz, ?_⟩
      obtain ⟨e, S'⟩ := S.put (o := .lst (vs ++ [y])) (c := appL ds w) hφ fun e => by
        cases w with
        | d x => cases ry with | d ry => exact ⟨_, upd_same, RpL.ext e _ _ (rl.append (.cons ry .nil))⟩
        | ref k => exact ⟨_, upd_same, RpWL.ext e _ _ ((RpWL.of rl).append (.cons ry .nil))⟩
        | tup k => exact ⟨_, upd_same, RpWL.ext e _ _ ((RpWL.of rl).append (.cons ry .nil))⟩
        | fn k => exact ⟨_, upd_same, RpWL.ext e _ _ ((RpWL.of rl).append (.cons ry .nil))⟩
        | pr k l => exact ⟨_, upd_same, RpWL.ext e _ _ ((RpWL.of rl).append (.cons ry .nil))⟩
        | fd k => exact ⟨_, upd_same, RpWL.ext e _ _ ((RpWL.of rl).append (.cons ry .nil))⟩
        | clo k o ws => cases ry
      exact h _ φ _ e S' (.d .non)
    · cases ha
  · rename_i ds
    obtain ⟨a, vs, rfl, hφ, hl, rl⟩ := S.wl hc ro
    split at ha
    · rename_i hz
      cases ha
      refine mt_append pins st σ H _ _ v us Q I rv r ⟨a, vs, y, rfl, rfl, hl, by rw [rl.length]; exact hz, ?_⟩
      obtain ⟨e, S'⟩ := S.put (o := .lst (vs ++ [y])) (c := .wl (ds ++ [w])) hφ fun e => ⟨_, upd_same, RpWL.ext e _ _ (rl.append (.cons ry .nil))⟩
      exact h _ φ _ e S' (.d .non)
    · cases ha
  · cases ha
/-- list.extend by any list -/
theorem mt_extendR : MtR X "list.extend" (fun x vs H Q => ∃ l b xs zs, x = .ref l ∧ vs = [.ref b] ∧ H l = some (.lst xs) ∧ Rd H b (.lst zs) ∧ xs.length + zs.length ≤ sizeLine ∧ Q .non (upd H l (.lst (xs ++ zs)))) := by
  intro pins s σ H x vs v us Q I rx rv h
  obtain ⟨l, b, xs, zs, rfl, rfl, hH, hB, hz, q⟩ := h
  cases rx
  obtain ⟨u, rfl, ru⟩ := rv.one
  cases ru
  obtain ⟨z, its, n, r, hl, e⟩ := I.lstM hH
  obtain ⟨z2, its2, n2, r2, e2⟩ := rd_lst I hB
  have hl2 := r2.length
  have hsz : its.toArray.size + its2.toArray.size ≤ sizeLine := by rw [List.size_toArray, List.size_toArray]; omega
  have hlong : ¬ (!its.toArray.isEmpty && Builtin.List.listTooLong (its.toArray.size + its2.toArray.size)) = true := by
    rw [notLongL hsz, Bool.and_false]
    exact Bool.false_ne_true
  refine call_meets F.slot_list_extend ⟨_, e, rfl⟩ F.entry_list_extend (F.args_list_extend_2 _ _)
    (AutoSeq1.list_extend_list_list_0 l its.toArray n b its2.toArray n2 hlong (by rw [List.size_toArray]; omega) (by omega)) ⟨e, e2, ?_⟩
  refine ⟨.non, _, I.lset (its' := its ++ its2) hH e (by simp) (r.append r2) ?_, rfl, q⟩
  rw [List.length_append]; omega
theorem m_extend : MtR X "list.extend" (rMut R .extend) := by
  rintro pins st σ H x xs v us Q I rv r ⟨φ, ex, s, wo, ws, S, ro, rw, h⟩
  obtain ⟨w, rfl, h⟩ := one_list h
  obtain ⟨n, c, z, c', rfl, hc, hf, h⟩ := chg_of h
  obtain ⟨y, rfl, ry⟩ := one_of rw
  obtain ⟨c2, ha, e⟩ := map_of hf
  cases e
  unfold extC at ha
  split at ha
  · rename_i ds
    obtain ⟨a, vs, rfl, hφ, hl, rl⟩ := S.lst hc ro
    obtain ⟨ys, e1, ha⟩ := bind_of ha
    obtain ⟨d, e2, e3⟩ := bind_of e1
    cases listOf_of e3
    obtain ⟨b, us', rfl, hb, rb⟩ := (S.top ry e2).lst
    split at ha
    · rename_i hz
      cases ha
      refine mt_extendR pins st σ H _ _ v us Q I rv r ⟨a, b, vs, us', rfl, rfl, hl, hb, by rw [rl.length, rb.length]; exact hz, ?_⟩
      obtain ⟨e, S'⟩ := S.put (o := .lst (vs ++ us')) (c := .lst (ds ++ ys)) hφ fun e => ⟨_, upd_same, RpL.ext e _ _ (rl.append rb)⟩
      exact h _ φ _ e S' (.d .non)
    · cases ha
  · cases ha
theorem m_pop : MtR X "list.pop" (rMut R .pop) := by
  rintro pins st σ H x xs v us Q I rv r ⟨φ, ex, s, wo, ws, S, ro, rw, h⟩
  obtain ⟨rfl, h⟩ := nil_list h
  obtain ⟨n, c, z, c', rfl, hc, hf, h⟩ := chg_of h
  cases rw
  unfold popC at hf
  split at hf
  · rename_i ds
    obtain ⟨a, vs, rfl, hφ, hl, rl⟩ := S.lst hc ro
    obtain ⟨d, e1, e2⟩ := map_of hf
    cases e2
    obtain ⟨u, e3, ru⟩ := rl.get e1
    refine mt_pop pins st σ H _ _ v us Q I rv r ⟨a, vs, u, rfl, rfl, hl, by rw [rl.length]; exact e3, ?_⟩
    obtain ⟨e, S'⟩ := S.put (o := .lst vs.dropLast) (c := .lst ds.dropLast) hφ fun e => ⟨_, upd_same, RpL.ext e _ _ rl.dropLast⟩
    exact h _ φ _ e S' (.d (Rp.ext e _ _ ru))
  · cases hf
theorem RpL.eraseIdx {K : PySem.W.Frag} {φ : Ph} {ex : List Addr} {H : Hp} : ∀ {ds : List PyData} {vs : List V} (k : Nat), RpL K φ ex H vs ds → RpL K φ ex H (vs.eraseIdx k) (ds.eraseIdx k)
  | _, _, _, .nil => .nil
  | _, _, 0, .cons _ t => t
  | _, _, k + 1, .cons r t => .cons r (RpL.eraseIdx k t)
theorem m_popAt : MtR X "list.pop" (rMut R .popAt) := by
  rintro pins st σ H x xs v us Q I rv r ⟨φ, ex, s, wo, ws, S, ro, rw, h⟩
  obtain ⟨w, rfl, h⟩ := one_list h
  obtain ⟨n, c, z, c', rfl, hc, hf, h⟩ := chg_of h
  obtain ⟨y, rfl, ry⟩ := one_of rw
  unfold popAtC at hf
  split at hf
  · rename_i i h
    split at hf
    · rename_i ds
      obtain ⟨a, vs, rfl, hφ, hl, rl⟩ := S.lst hc ro
      split at hf
      · rename_i hz
        obtain ⟨k, hk, hf⟩ := bind_of hf
        obtain ⟨d, e1, e2⟩ := map_of hf
        cases e2
        obtain ⟨u, e3, ru⟩ := rl.get e1
        obtain ⟨q1, q2, q3, q4⟩ := ixN_seq hk
        have hsz : sizeLine ≤ 2 ^ 62 := by decide
        cases ry with | d ry =>
        cases ry
        refine mt_popAt pins st σ H _ _ v us Q I rv r ⟨a, vs, i, k, u, rfl, rfl, hl, by omega, by omega, by rw [rl.length]; exact q1, e3, ?_⟩
        obtain ⟨e, S'⟩ := S.put (o := .lst (vs.eraseIdx k)) (c := .lst (ds.eraseIdx k)) hφ fun e => ⟨_, upd_same, RpL.ext e _ _ (rl.eraseIdx k)⟩
        exact h _ φ _ e S' (.d (Rp.ext e _ _ ru))
      · cases hf
    · cases hf
  · cases hf
theorem m_clear : MtR X "list.clear" (rMut R .clear) := by
  rintro pins st σ H x xs v us Q I rv r ⟨φ, ex, s, wo, ws, S, ro, rw, h⟩
  obtain ⟨rfl, h⟩ := nil_list h
  obtain ⟨n, c, z, c', rfl, hc, hf, h⟩ := chg_of h
  cases rw
  obtain ⟨c2, ha, e⟩ := map_of hf
  cases e
  have key : ∀ a vs, x = .ref a → φ[n]? = some (some a) → H a = some (.lst vs) → c' = .lst [] → wpAny (model X.prog X.w) X.A (call (.builtin "list.clear") (v :: us)) (EP X pins σ Q) X.xe st := fun a vs e hφ hl ec => by
    subst e ec
    refine mt_clear pins st σ H _ _ v us Q I rv r ⟨a, vs, rfl, rfl, hl, ?_⟩
    obtain ⟨e, S'⟩ := S.put (o := .lst []) (c := .lst []) hφ fun e => ⟨_, upd_same, .nil⟩
    exact h _ φ _ e S' (.d .non)
  unfold clearC at ha
  split at ha
  · obtain ⟨a, vs, e, hφ, hl, rl⟩ := S.lst hc ro
    cases ha; exact key a vs e hφ hl rfl
  · obtain ⟨a, vs, e, hφ, hl, rl⟩ := S.wl hc ro
    cases ha; exact key a vs e hφ hl rfl
  · cases ha
theorem cell_ty {φ : Ph} {ex : List Addr} {H : Hp} {s : Store} {x : V} {w : W} (S : Sim R φ ex H s) (r : RpW R φ ex H x w) (h : isLstC s w = true) (K : PySem.W.Frag) : tyV K "list" x H := by
  unfold isLstC at h
  split at h
  · split at h
    · rename_i hs
      obtain ⟨a, vs, rfl, _, hl, _⟩ := S.lst hs r
      exact .inl ⟨rfl, vs, .of hl⟩
    · rename_i hs
      obtain ⟨a, vs, rfl, _, hl, _⟩ := S.wl hs r
      exact .inl ⟨rfl, vs, .of hl⟩
    · cases h
  · cases h
/-- o.m(a) of a list cell -/
theorem p_mut1 {m : Mt} {name : Str} {id : String} (hm : MtR X id (rMut R m)) (slot : Slot "list" name id) (hty : typeOf (.builtin id) = pure (.type "method_descriptor"))
    (hb : ∀ f es k p, o ≠ .Call f es k p) (hs : ∀ x p, a ≠ .Starred x p) (hl : (apos.endLine == pos.line) = true) (ho : PE X o (tD R E co)) (ha : PA X [a] (tA R E ces)) :
    PE X (.Call (.Attribute o name apos) [a] [] pos) (tD R E (.mut m co ces)) :=
  peImp (pe_bm PySem.F.plainAttrs_list slot hty hm ho ha (base_ne hb name X.env) (few1 hs pos X.env) hl (star_ne hs [] X.env)) fun σ H Q ⟨φ, ex, s, env, S, N, h⟩ => by
    simp only [runE] at h
    refine tD_mono (tD_bind mono_W S N h) fun x H1 ⟨φ1, s1, wo, S1, N1, e1, r1, h1⟩ => ?_
    dsimp only at h1
    split at h1
    · rename_i hk
      refine ⟨cell_ty S1 r1 hk _, tA_mono (tA_bind mono_W S1 N1 h1) fun xs H2 ⟨φ2, s2, ws, S2, N2, e2, r2, h2⟩ => ?_⟩
      refine ⟨φ2, ex, s2, wo, ws, S2, RpW.ext e2 _ _ r1, r2, ?_⟩
      dsimp only at h2
      cases hr : mutW m wo ws s2 with
      | ok w t => rw [hr] at h2; exact h2
      | stuck => rw [hr] at h2; exact h2
      | exc z t => exact (mut_noexc hr).elim
    · exact h1.elim
theorem p_mut0 {m : Mt} {name : Str} {id : String} (hm : MtR X id (rMut R m)) (slot : Slot "list" name id) (hty : typeOf (.builtin id) = pure (.type "method_descriptor"))
    (hb : ∀ f es k p, o ≠ .Call f es k p) (hl : (apos.endLine == pos.line) = true) (ho : PE X o (tD R E co)) :
    PE X (.Call (.Attribute o name apos) [] [] pos) (tD R E (.mut m co [])) :=
  peImp (pe_bm0 PySem.F.plainAttrs_list slot hty hm ho (base_ne hb name X.env) hl) fun σ H Q ⟨φ, ex, s, env, S, N, h⟩ => by
    simp only [runE] at h
    refine tD_mono (tD_bind mono_W S N h) fun x H1 ⟨φ1, s1, wo, S1, N1, e1, r1, h1⟩ => ?_
    dsimp only at h1
    split at h1
    · rename_i hk
      refine ⟨cell_ty S1 r1 hk _, φ1, ex, s1, wo, [], S1, r1, .nil, ?_⟩
      simp only [runEs, Res.bind_ok] at h1
      cases hr : mutW m wo [] s1 with
      | ok w t => rw [hr] at h1; exact h1
      | stuck => rw [hr] at h1; exact h1
      | exc z t => exact (mut_noexc hr).elim
    · exact h1.elim
/-! ### dicts -/
/-- {} -/
theorem p_dnew (hP : X.prog = R.P) (hw : X.w = R.w) : PE X (.Dict [] [] pos) (tD R E .dnew) := peImp Cd.pe_dnewN fun σ H Q ⟨φ, ex, s, env, S, N, h⟩ p hp => by
  simp only [runE] at h
  rw [hP, hw]
  obtain ⟨e, S'⟩ := S.push (o := Cd.dnO R.P R.w p []) (c := .dn []) hp fun e => ⟨[], upd_same, .nil⟩
  refine h (.ref p) _ _ e S' (.ref (by rw [List.length_append, S.len]; simp) fun a h2 => ?_)
  rw [← S.len] at h2
  simp at h2
  rw [h2]
/-- dict(x) -/
def rDof (R : Gt) : List V → Hp → VK → Prop := fun xs H Q => ∃ φ ex s w kvs x, xs = [x] ∧ Sim R φ ex H s ∧ RpW R φ ex H x w ∧ ((top s w).bind seqOf).bind pairsOf = some kvs ∧ RetW R ex Q φ H (.ref s.length) (s ++ [.dn (dMerge [] kvs)])
theorem call_dof (hP : X.prog = R.P) (hw : X.w = R.w) (hK : X.K = R.K) (hc : X.calm = true) (hu : X.A.units + 65 < cLine) : CallR X (.type "dict") (rDof R) := by
  rintro pins st σ H xs us Q I r ⟨φ, ex, s, w, kvs, x, rfl, S, rw, h, q⟩
  obtain ⟨ds, h1, h2⟩ := bind_of h
  obtain ⟨d, h3, h4⟩ := bind_of h1
  have fin : ∀ (a : Addr) (ps : List Addr) (es : List Cd.Ent), x = .ref a → (SqL X.K H a (ps.map V.ref) ∨ Cd.TX H a (ps.map V.ref) ∨ ∃ (o : Obj) (its : Array Value) (n : Nat), X.K.lookup a = some o ∧ o.cls = .type "tuple" ∧ o.dict = Option.none ∧ o.data = .seq its n ∧ its.size ≤ sizeLine ∧ Vals (ps.map V.ref) its.toList) → Cd.PrsAt X H ps es → DnR R φ ex H kvs es →
      wpAny (model X.prog X.w) X.A (call (.type "dict") us) (EP X pins σ Q) X.xe st := fun a ps es e1 e2 e3 e4 => by
    subst e1
    refine Cd.call_dictN hc hu pins st σ H _ us Q I r ⟨a, ps, es, rfl, e2, e3, e4.keys hK, fun p hp => ?_⟩
    rw [hP, hw]
    obtain ⟨e, S'⟩ := S.push (o := Cd.dnO R.P R.w p (Cd.mergeN [] es)) (c := .dn (dMerge [] kvs)) hp fun e => ⟨_, upd_same, DnR.merge (e4.ext e) .nil⟩
    refine q (.ref p) _ _ e S' (.ref (by rw [List.length_append, S.len]; simp) fun a h2 => ?_)
    rw [← S.len] at h2
    simp at h2
    rw [h2]
  have t := S.top rw h3
  cases d <;> simp only [seqOf] at h4 <;> first | (cases h4; done) | skip
  · cases h4
    obtain ⟨a, vs, rfl, hl, rl⟩ := sqL_of t
    obtain ⟨ps, es, rfl, pr, dr⟩ := pairs_rel hK rl h2
    exact fin a ps es rfl (.inl (hl _)) pr dr
  · cases h4
    rcases t with t | ⟨_, _, _, _, t, _⟩
    · cases t with
      | tup hr rl =>
        obtain ⟨ps, es, rfl, pr, dr⟩ := pairs_rel hK rl h2
        refine fin _ ps es rfl (.inr (hr.elim (fun q => .inl q.1) fun q => .inr ?_)) pr dr
        rw [hK]
        exact q
    · cases t
theorem p_dof {p : Pos} (hP : X.prog = R.P) (hw : X.w = R.w) (hK : X.K = R.K) (hc : X.calm = true) (hu : X.A.units + 65 < cLine) (hs : ∀ x p, a ≠ .Starred x p) (hg : Gl X "dict") (hm : X.mg "dict" = none) (ha : PE X a (tD R E ca)) :
    PE X (.Call (.Name "dict" p) [a] [] pos) (tD R E (.dof ca)) :=
  peImp (pe_callTy (call_dof hP hw hK hc hu) hg hm (by decide +kernel) (pa_consD hs ha pa_nilD) (by decide) (by decide) (star_ne hs [] X.env) rfl) fun σ H Q ⟨φ, ex, s, env, S, N, h⟩ => by
    simp only [runE] at h
    refine ⟨φ, ex, s, env, S, N, ?_⟩
    simp only [runEs, res_assoc]
    cases r : runE R.Φ R.M R.CI R.FO ca env s with
    | stuck => rw [r] at h; exact h
    | exc x t => rw [r] at h; exact h
    | ok w t =>
      rw [r] at h
      simp only [Res.bind_ok] at h ⊢
      intro vs φ' H' e S' rl
      split at h
      · rename_i kvs hk
        cases rl with
        | cons r1 rl =>
          cases rl
          exact ⟨φ', ex, t, w, kvs, _, rfl, S', r1, hk, fun v φ2 H2 e2 S2 r2 => h v φ2 H2 (e.trans e2) S2 r2⟩
      · exact h.elim
def rDoz (R : Gt) : List V → Hp → VK → Prop := fun xs H Q => ∃ φ ex s w zs x, xs = [x] ∧ Sim R φ ex H s ∧ RpW R φ ex H x w ∧ ((((top s w).bind seqOf).bind pairsOf).bind fun ps => unD (dMerge [] ps)) = some zs ∧ RetW R ex Q φ H (.fd zs) s
theorem call_doz (hP : X.prog = R.P) (hw : X.w = R.w) (hK : X.K = R.K) (hc : X.calm = true) (hu : X.A.units + 65 < cLine) : CallR X (.type "dict") (rDoz R) := by
  rintro pins st σ H xs us Q I r ⟨φ, ex, s, w, zs, x, rfl, S, rw, h, q⟩
  obtain ⟨kvs, h, hz⟩ := bind_of h
  obtain ⟨ds, h1, h2⟩ := bind_of h
  obtain ⟨d, h3, h4⟩ := bind_of h1
  have ez := unD_some hz
  have fin : ∀ (a : Addr) (ps : List Addr) (es : List Cd.Ent), x = .ref a → (SqL X.K H a (ps.map V.ref) ∨ Cd.TX H a (ps.map V.ref) ∨ ∃ (o : Obj) (its : Array Value) (n : Nat), X.K.lookup a = some o ∧ o.cls = .type "tuple" ∧ o.dict = Option.none ∧ o.data = .seq its n ∧ its.size ≤ sizeLine ∧ Vals (ps.map V.ref) its.toList) → Cd.PrsAt X H ps es → DnR R φ ex H kvs es →
      wpAny (model X.prog X.w) X.A (call (.type "dict") us) (EP X pins σ Q) X.xe st := fun a ps es e1 e2 e3 e4 => by
    subst e1
    refine Cd.call_dictZ hc hu pins st σ H _ us Q I r ⟨a, ps, es, rfl, e2, e3, e4.keys hK, fun p o hp => ?_⟩
    rw [hP, hw]
    obtain ⟨e, S'⟩ := S.new (o := Cd.fzO R.P R.w p o (Cd.mergeN [] es)) hp
    have dr : DnR R φ ex (upd H p (Cd.fzO R.P R.w p o (Cd.mergeN [] es))) (dMerge [] kvs) (Cd.mergeN [] es) := DnR.merge (e4.ext e) .nil
    rw [ez] at dr
    exact q (.ref p) _ _ e S' (.fd upd_same (S.fresh hp) dr.zn)
  have t := S.top rw h3
  cases d <;> simp only [seqOf] at h4 <;> first | (cases h4; done) | skip
  · cases h4
    obtain ⟨a, vs, rfl, hl, rl⟩ := sqL_of t
    obtain ⟨ps, es, rfl, pr, dr⟩ := pairs_rel hK rl h2
    exact fin a ps es rfl (.inl (hl _)) pr dr
  · cases h4
    rcases t with t | ⟨_, _, _, _, t, _⟩
    · cases t with
      | tup hr rl =>
        obtain ⟨ps, es, rfl, pr, dr⟩ := pairs_rel hK rl h2
        refine fin _ ps es rfl (.inr (hr.elim (fun q => .inl q.1) fun q => .inr ?_)) pr dr
        rw [hK]
        exact q
    · cases t
theorem p_dofz {p : Pos} (hP : X.prog = R.P) (hw : X.w = R.w) (hK : X.K = R.K) (hc : X.calm = true) (hu : X.A.units + 65 < cLine) (hs : ∀ x p, a ≠ .Starred x p) (hg : Gl X "dict") (hm : X.mg "dict" = none) (ha : PE X a (tD R E ca)) :
    PE X (.Call (.Name "dict" p) [a] [] pos) (tD R E (.dofz ca)) :=
  peImp (pe_callTy (call_doz hP hw hK hc hu) hg hm (by decide +kernel) (pa_consD hs ha pa_nilD) (by decide) (by decide) (star_ne hs [] X.env) rfl) fun σ H Q ⟨φ, ex, s, env, S, N, h⟩ => by
    simp only [runE] at h
    refine ⟨φ, ex, s, env, S, N, ?_⟩
    simp only [runEs, res_assoc]
    cases r : runE R.Φ R.M R.CI R.FO ca env s with
    | stuck => rw [r] at h; exact h
    | exc x t => rw [r] at h; exact h
    | ok w t =>
      rw [r] at h
      simp only [Res.bind_ok] at h ⊢
      intro vs φ' H' e S' rl
      split at h
      · rename_i zs hk
        cases rl with
        | cons r1 rl =>
          cases rl
          exact ⟨φ', ex, t, w, zs, _, rfl, S', r1, hk, fun v φ2 H2 e2 S2 r2 => h v φ2 H2 (e.trans e2) S2 r2⟩
      · exact h.elim
/-- sorted(o.items()) -/
theorem f_dsort {p p2 : Pos} {apos' pos' : Pos} (hP : X.prog = R.P) (hw : X.w = R.w) (hK : X.K = R.K) (hc : X.calm = true) (hu : X.A.units + 65 < cLine) (hb : ∀ f es k p, o ≠ .Call f es k p) (hl : (apos'.endLine == pos'.line) = true) (hg : Gl X "sorted") (hm : X.mg "sorted" = none) (ho : PE X o (tD R E co)) :
    PE X (.Call (.Name "sorted" p) [.Call (.Attribute o "items" apos') [] [] pos'] [] pos) (tF R E (.dsort co)) := by
  have hn : ∀ x p, (Expr.Call (.Attribute o "items" apos') [] [] pos') ≠ .Starred x p := fun x p z => nomatch z
  refine peImp (pe_callB (Cd.cr_sortN hc hu) hg hm (by decide +kernel) (pa_cons (Cd.pe_itemsN ho (base_ne hb "items" X.env) hl) pa_nil (star_ne hn [] X.env)) (by decide) (by decide) (star_ne hn [] X.env) rfl) fun σ H Q ⟨φ, ex, s, env, S, N, h⟩ => ?_
  simp only [runE] at h
  refine tD_mono (tD_bind mono_F S N h) fun x H1 ⟨φ1, s1, w, S1, N1, e1, r1, h1⟩ => ?_
  dsimp only at h1
  split at h1
  · rename_i ds hds
    split at h1
    · rename_i hok
      obtain ⟨kvs, h2, h3⟩ := bind_of hds
      obtain ⟨a, xs, rfl, e, r4⟩ := S1.dnW h2 r1
      refine ⟨a, xs, rfl, rfl, by rw [hP, hw]; exact e, fun pv hpv => ?_⟩
      obtain ⟨e2, S2⟩ := S1.new (o := DX.itemsO pv a) hpv
      have r5 := r4.ext e2
      obtain ⟨len, at_⟩ := r5.items h3
      unfold sortOk at hok
      simp only [Bool.and_eq_true, List.all_eq_true] at hok
      have e' : Rd (upd H1 pv (DX.itemsO pv a)) a (Cd.dnO R.P R.w a xs) := by
        rcases e with e | ⟨o, e⟩
        · exact .inl (by rw [upd_ne (ne_of_none e hpv)]; exact e)
        · exact .inr ⟨o, by rw [upd_ne (ne_of_none e hpv)]; exact e⟩
      refine ⟨pv, a, xs, ds, rfl, upd_same, by rw [hP, hw]; exact e', r5.keys hK, hK ▸ pairsD_of len at_, fun d hd d' hd' => hok.1 d hd d' hd', fun d hd => Nat.le_of_ble_eq_true (hok.2 d hd), fun H3 l zs g hl srt hz => ?_⟩
      obtain ⟨e3, S3⟩ := S2.grow g
      have rl : RpL R.K φ1 ex H3 (zs.map fun z => .ref z.1) (zs.map (·.2.2)) := by
        clear srt
        induction zs with
        | nil => exact .nil
        | cons z zs ih =>
          obtain ⟨m, fr, tx⟩ := hz z List.mem_cons_self
          obtain ⟨j, hj⟩ := List.mem_iff_getElem?.mp m
          obtain ⟨j1, j2⟩ := List.getElem?_zip_eq_some.mp hj
          obtain ⟨k, v, ed, rk, rv⟩ := at_ j _ _ j1 j2
          refine .cons ?_ (ih fun w hw => hz w (List.mem_cons_of_mem _ hw))
          dsimp only
          rw [ed]
          refine .tup (.inl ⟨tx, S2.fresh fr⟩) (.cons (Rp.ext e3 _ _ rk) (.cons (Rp.ext e3 _ _ rv) .nil))
      rw [srt] at rl
      exact h1 φ1 H3 _ l (e2.trans e3) S3 rl hl
    · exact h1.elim
  · exact h1.elim
def dmName : Dm → Str
  | .get => "get"
  | .pop => "pop"
def rDm (R : Gt) (m : Dm) : V → List V → Hp → VK → Prop := fun x vs H Q => ∃ φ ex s wo ws, Sim R φ ex H s ∧ RpW R φ ex H x wo ∧ RpWL R φ ex H vs ws ∧ RunsTo (dmetW m wo ws s) (RetW R ex Q φ H) fun _ _ => False
theorem rDm_get (hP : X.prog = R.P) (hw : X.w = R.w) (hK : X.K = R.K) {x : V} {vs : List V} {H : Hp} {Q : VK} (h : rDm R .get x vs H Q) : Cd.rGetN X x vs H Q := by
  obtain ⟨φ, ex, s, wo, ws, S, ro, rs, h⟩ := h
  simp only [dmetW] at h
  split at h
  · rename_i kvs hn
    obtain ⟨a, xs, rfl, e, r4⟩ := S.dnW hn ro
    split at h
    · rename_i k0
      split at h
      · rename_i k hk
        have hk3 := keyOf_some hk
        clear hk
        obtain ⟨rfl, hk⟩ := hk3
        cases rs with
        | cons r0 rs =>
          cases rs
          cases r0 with | d r0 =>
          obtain ⟨b, rfl⟩ := refKey hk r0
          refine ⟨a, xs, b, _, rfl, by rw [hP, hw]; exact e, r4.keys hK, nk_of hK hk r0, .inl ⟨rfl, ?_⟩⟩
          rcases r4.val hk with ⟨q1, q2⟩ | ⟨w', p, q1, q2, q3⟩
          · rw [q1] at h; rw [q2]; exact h .non φ H (Ext.refl _ _) S (.d .non)
          · rw [q1] at h; rw [q2]; exact h p.2 φ H (Ext.refl _ _) S q3
      · exact h.elim
    · rename_i k0 x0
      split at h
      · rename_i k hk
        have hk3 := keyOf_some hk
        clear hk
        obtain ⟨rfl, hk⟩ := hk3
        cases rs with
        | cons r0 rs =>
          cases rs with
          | cons r1 rs =>
            cases rs
            cases r0 with | d r0 =>
            obtain ⟨b, rfl⟩ := refKey hk r0
            refine ⟨a, xs, b, _, rfl, by rw [hP, hw]; exact e, r4.keys hK, nk_of hK hk r0, .inr ⟨_, rfl, ?_⟩⟩
            rcases r4.val hk with ⟨q1, q2⟩ | ⟨w', p, q1, q2, q3⟩
            · rw [q1] at h; rw [q2]; exact h _ φ H (Ext.refl _ _) S r1
            · rw [q1] at h; rw [q2]; exact h p.2 φ H (Ext.refl _ _) S q3
      · exact h.elim
    · exact h.elim
  · exact h.elim
theorem rDm_pop (hP : X.prog = R.P) (hw : X.w = R.w) (hK : X.K = R.K) {x : V} {vs : List V} {H : Hp} {Q : VK} (h : rDm R .pop x vs H Q) : Cd.rPopN X x vs H Q := by
  obtain ⟨φ, ex, s, wo, ws, S, ro, rs, h⟩ := h
  simp only [dmetW] at h
  split at h
  · split at h
    · rename_i n kvs hn
      obtain ⟨a, xs, rfl, hφ, e, r4⟩ := S.dn hn ro
      split at h
      · rename_i k0
        split at h
        · rename_i k hk
          have hk3 := keyOf_some hk
          clear hk
          obtain ⟨rfl, hk⟩ := hk3
          cases rs with
          | cons r0 rs =>
            cases rs
            cases r0 with | d r0 =>
            obtain ⟨b, rfl⟩ := refKey hk r0
            rcases r4.val hk with ⟨q1, q2⟩ | ⟨w', p, q1, q2, q3⟩
            · rw [q1] at h; exact h.elim
            · rw [q1] at h
              refine ⟨a, xs, b, _, p, rfl, by rw [hP, hw]; exact e, r4.keys hK, nk_of hK hk r0, rfl, q2, ?_⟩
              rw [hP, hw]
              obtain ⟨e3, S3⟩ := S.put (o := Cd.dnO R.P R.w a (Cd.dropN xs (Cd.nkOf k))) (c := .dn (dDrop kvs k)) hφ fun e => ⟨_, upd_same, DnR.drop hk (r4.ext e)⟩
              exact h p.2 _ _ e3 S3 (RpW.ext e3 _ _ q3)
        · exact h.elim
      · exact h.elim
    · exact h.elim
  · exact h.elim
theorem mt_dm (hP : X.prog = R.P) (hw : X.w = R.w) (hK : X.K = R.K) (hu : X.A.units + 65 < cLine) : MtR X "dict.get" (rDm R .get) ∧ MtR X "dict.pop" (rDm R .pop) :=
  ⟨fun pins s σ H x vs v us Q I ro rs h => Cd.mt_getN (by omega) pins s σ H x vs v us Q I ro rs (rDm_get hP hw hK h), fun pins s σ H x vs v us Q I ro rs h => Cd.mt_popN (by omega) pins s σ H x vs v us Q I ro rs (rDm_pop hP hw hK h)⟩
theorem dmet_noexc {m : Dm} {o : W} {ws : List W} {s t : Store} {x : Exn} (h : dmetW m o ws s = .exc x t) : False := by
  unfold dmetW at h
  repeat' split at h
  all_goals cases h
theorem p_dmet (hP : X.prog = R.P) (hw : X.w = R.w) {m : Dm} {name : Str} {id : String} {r : Expr} {rest : List Expr} (hm : MtR X id (rDm R m)) (slot : Slot "dict" name id) (hty : typeOf (.builtin id) = pure (.type "method_descriptor"))
    (hb : ∀ f es k p, o ≠ .Call f es k p) (hfew : ((backTo pos (starEach (r :: rest) X.env)).all (fun x => !x.1) && (backToKw pos (keywordEach [] X.env)).all (fun x => x.1.isSome)
      && decide ((r :: rest).length + ([] : List Keyword).length + (if ([] : List Keyword).isEmpty then 0 else 1) < 30)) = true) (hst : starEach (r :: rest) X.env = (false, eval r X.env) :: starEach rest X.env) (hpl : (backTo pos (starEach rest X.env)).any (·.1) = false) (hl : (apos.endLine == pos.line) = true) (ho : PE X o (tD R E co)) (ha : PA X (r :: rest) (tA R E ces)) :
    PE X (.Call (.Attribute o name apos) (r :: rest) [] pos) (tD R E (.dmet m co ces)) :=
  peImp (Cd.pe_dm slot hty hm ho ha (base_ne hb name X.env) hfew hl hst hpl) fun σ H Q ⟨φ, ex, s, env, S, N, h⟩ => by
    simp only [runE] at h
    refine tD_mono (tD_bind mono_W S N h) fun x H1 ⟨φ1, s1, wo, S1, N1, e1, r1, h1⟩ => ?_
    dsimp only at h1
    split at h1
    · rename_i hk
      obtain ⟨kvs, hk⟩ := Option.isSome_iff_exists.mp hk
      obtain ⟨a, xs, rfl, e, r4⟩ := S1.dnW hk r1
      refine ⟨⟨a, xs, rfl, by rw [hP, hw]; exact e⟩, tA_mono (tA_bind mono_W S1 N1 h1) fun xs H2 ⟨φ2, s2, ws, S2, N2, e2, r2, h2⟩ => ?_⟩
      refine ⟨φ2, ex, s2, wo, ws, S2, RpW.ext e2 _ _ r1, r2, ?_⟩
      dsimp only at h2
      cases hr : dmetW m wo ws s2 with
      | ok w t => rw [hr] at h2; exact h2
      | stuck => rw [hr] at h2; exact h2
      | exc z t => exact (dmet_noexc hr).elim
    · exact h1.elim
/-! ### attributes -/
structure GOk (R : Gt) : Prop where
  fo : ∀ c f, R.FO c f = true → Cls R.K (R.ca c) ∧ NoAttr R.K (R.ca c) f
  me : ∀ c m i, R.M c m = some i → Cls R.K (R.ca c) ∧ Meth R.K (R.ca c) m (R.fa i)
  mkC : ∀ c i, R.CI c = some i → Mk R.K (R.ca c) (R.fa i)
theorem p_fld {f : Str} (hK : X.K = R.K) (G : GOk R) (hb : ∀ f es k p, o ≠ .Call f es k p) (ho : PE X o (tD R E co)) : PE X (.Attribute o f pos) (tD R E (.fld co f)) :=
  peImp (pe_fld ho (base_ne hb f X.env)) fun σ H Q ⟨φ, ex, s, env, S, N, h⟩ => by
    simp only [runE] at h
    refine tD_mono (tD_bind mono_W S N h) fun x H1 ⟨φ1, s1, wo, S1, N1, e1, r1, h1⟩ => ?_
    obtain ⟨w, hw, q⟩ := h1.of
    unfold fldW at hw
    split at hw
    · split at hw
      · rename_i c fs hs
        split at hw
        · rename_i hfo
          obtain ⟨a, dx, fv, rfl, _, hl, rf⟩ := S1.ins hs r1
          obtain ⟨v, e, rv⟩ := rf.look hw
          obtain ⟨g1, g2⟩ := G.fo c f hfo
          rw [hK]
          exact ⟨a, _, dx, fv, v, rfl, hl, g1, g2, e, q v φ1 H1 (Ext.refl _ _) S1 rv⟩
        · cases hw
      · cases hw
    · cases hw
end
end Cc

set_option linter.all false
set_option maxRecDepth 100000
set_option maxHeartbeats 1000000
/-! Cc: calls of defs, classes, methods. -/
namespace Cc
open PySem PySem.Spec PyProof.Rows L2

/-! ### a callee that runs apart -/
section
variable {R : Gt} {K : PySem.W.Frag} {φ φ' : Ph} {ex ex' : List Addr} {H H' : Hp} {s t : Store}
theorem rd_mu (hM : ∀ a o, H a = some o → Mu φ ex a → Mu φ' ex' a) {a : Addr} {u : HO} (h : Rd H a u) (n : ¬ Mu φ' ex' a) : ¬ Mu φ ex a := by
  rcases h with h | ⟨o, h⟩
  · exact fun z => n (hM a _ h z)
  · exact fun z => n (hM a _ h z)
mutual
theorem Rp.weaken (hM : ∀ a o, H a = some o → Mu φ ex a → Mu φ' ex' a) : ∀ (d : PyData) (v : V), Rp K φ' ex' H v d → Rp K φ ex H v d
  | .none, _, h => by cases h; exact .non
  | .bool b, _, h => by cases h; exact .bl _
  | .int b, _, h => by cases h; exact .int _
  | .str b, _, h => by cases h; exact .str _
  | .list ds, _, h => by
    cases h with
    | lst h n r => exact .lst h (rd_mu hM h n) (RpL.weaken hM ds _ r)
  | .tuple ds, _, h => by
    cases h with
    | tup h r => exact .tup (h.elim (fun q => .inl ⟨q.1, rd_mu hM q.1.rd q.2⟩) .inr) (RpL.weaken hM ds _ r)
  | .dict _, _, h => by cases h
theorem RpL.weaken (hM : ∀ a o, H a = some o → Mu φ ex a → Mu φ' ex' a) : ∀ (ds : List PyData) (vs : List V), RpL K φ' ex' H vs ds → RpL K φ ex H vs ds
  | [], _, h => by cases h; exact .nil
  | d :: ds, _, h => by
    cases h with
    | cons r t => exact .cons (Rp.weaken hM d _ r) (RpL.weaken hM ds _ t)
end
theorem FsD.weaken (hM : ∀ a o, H a = some o → Mu φ ex a → Mu φ' ex' a) : ∀ {vs : List (Str × V)} {fs : List (Str × PyData)}, FsD K φ' ex' H vs fs → FsD K φ ex H vs fs
  | _, _, .nil => .nil
  | _, _, .cons r t => .cons (Rp.weaken hM _ _ r) (FsD.weaken hM t)
theorem ExnR.weaken (hM : ∀ a o, H a = some o → Mu φ ex a → Mu φ' ex' a) {od : Option Addr} {fs : List (Str × PyData)} (h : ExnR K φ' ex' H od fs) : ExnR K φ ex H od fs := by
  cases od with
  | none => exact h
  | some d => obtain ⟨z, fv, e, r⟩ := h; exact ⟨z, fv, e, FsD.weaken hM r⟩
mutual
theorem Rp.noList (S : Sim R φ ex H s) : ∀ (d : PyData) (v : V), Cc.noList d = true → Rp K φ' ex' H v d → Rp K φ ex H v d
  | .none, _, _, h => by cases h; exact .non
  | .bool b, _, _, h => by cases h; exact .bl _
  | .int b, _, _, h => by cases h; exact .int _
  | .str b, _, _, h => by cases h; exact .str _
  | .list ds, _, n, h => by simp [Cc.noList] at n
  | .tuple ds, _, n, h => by
    cases h with
    | tup h r =>
      refine .tup (h.elim (fun q => .inl ⟨q.1, fun z => ?_⟩) .inr) (RpL.noList S ds _ (by simpa [Cc.noList] using n) r)
      obtain ⟨o, e, c⟩ := S.mu z
      obtain ⟨u, q, _⟩ := q.1
      rw [q] at e
      cases e
      exact c
  | .dict _, _, _, h => by cases h
theorem RpL.noList (S : Sim R φ ex H s) : ∀ (ds : List PyData) (vs : List V), Cc.noListL ds = true → RpL K φ' ex' H vs ds → RpL K φ ex H vs ds
  | [], _, _, h => by cases h; exact .nil
  | d :: ds, _, n, h => by
    simp only [Cc.noListL, Bool.and_eq_true] at n
    cases h with
    | cons r t => exact .cons (Rp.noList S d _ n.1 r) (RpL.noList S ds _ n.2 t)
end
theorem FsD.noList (S : Sim R φ ex H s) : ∀ {vs : List (Str × V)} {fs : List (Str × PyData)}, (fs.all fun p => Cc.noList p.2) = true → FsD K φ' ex' H vs fs → FsD K φ ex H vs fs
  | _, _, _, .nil => .nil
  | _, _, n, .cons r t => by
    simp only [List.all_cons, Bool.and_eq_true] at n
    exact .cons (Rp.noList S _ _ n.1 r) (FsD.noList S n.2 t)
/-- the callee ran over no cells: ours stand -/
theorem apart (S : Sim R φ ex H s) (E : Ext [] H φ' H') (T' : NdefX.TabsN R.T H') : Ext φ H φ H' ∧ Sim R φ ex H' s := by
  have k : ∀ a o, H a = some o → (∀ ps, o ≠ .tbl ps) → H' a = some o := fun a o h t => E.keep a o h (by simp) t
  have e : Ext φ H φ H' := ⟨fun a o h _ t => k a o h t, E.any, fun _ z => .inl z, Nat.le_refl _, fun _ _ _ h => h⟩
  refine ⟨e, S.len, fun n c h => ?_, S.one, S.off, fun a ha => ?_, fun q hq => ⟨(e.mu (S.kn q hq).1 (S.kn q hq).2.1 (S.kn q hq).2.2).1, (e.mu (S.kn q hq).1 (S.kn q hq).2.1 (S.kn q hq).2.2).2, (S.kn q hq).2.2⟩, T'⟩
  · rcases S.cell n c h with q | ⟨a, e1, q⟩
    · exact .inl q
    · refine .inr ⟨a, e1, q.ext e ?_⟩
      obtain ⟨o, ho, cl⟩ := q.there
      rw [ho]; exact k a o ho (cel_nt cl)
  · obtain ⟨o, ho, c⟩ := S.exT a ha
    exact ⟨o, k a o ho (cel_nt c), c⟩
/-- all that may change, as others' -/
def allMu (φ : Ph) (ex : List Addr) : List Addr := φ.filterMap id ++ ex
theorem mu_all {a : Addr} : Mu [] (allMu φ ex) a ↔ Mu φ ex a := by
  unfold Mu allMu
  simp
theorem Sim.others (S : Sim R φ ex H s) : Sim R [] (allMu φ ex) H [] where
  len := rfl
  cell := fun n c h => by simp at h
  one := fun n m a h => by simp at h
  off := fun a _ z => by simp at z
  exT := fun a ha => S.mu (mu_all.mp (.inr ha))
  kn := fun q hq => ⟨(S.kn q hq).1, fun z => (S.kn q hq).2.1 (mu_all.mp z), (S.kn q hq).2.2⟩
  T := S.T
theorem Sim.empty (k : ∀ q ∈ R.kn, H q.1 = some q.2 ∧ ∀ ps, q.2 ≠ .tbl ps) (T : NdefX.TabsN R.T H) : Sim R [] [] H [] where
  len := rfl
  cell := fun n c h => by simp at h
  one := fun n m a h => by simp at h
  off := fun a _ z => by simp at z
  exT := fun a ha => by simp at ha
  kn := fun q hq => ⟨(k q hq).1, fun z => by rcases z with z | z <;> simp at z, (k q hq).2⟩
  T := T
theorem mu_in {a : Addr} (z : Mu φ ex a) : Mu φ' (allMu φ ex) a := by
  right
  rcases z with z | z
  · unfold allMu; simp [z]
  · unfold allMu; simp [z]
/-! what a callee hands back, frozen -/
mutual
theorem frzW_ok (S : Sim R φ ex H s) (E : Ext [] H φ' H') (S' : Sim R φ' (allMu φ ex) H' t) : ∀ (w : W) (v : V) (x : PyData), Cc.frzW t w = some x → RpW R φ' (allMu φ ex) H' v w → Rp R.K φ ex H' v x
  | .d x, v, _, h, r => by
    cases h
    cases r with | d r => exact Rp.weaken (fun a o _ z => mu_in z) _ _ r
  | .ref n, v, x, h, r => by
    simp only [Cc.frzW] at h
    split at h
    · rename_i xs hs
      cases h
      obtain ⟨a, vs, rfl, hφ, hl, rl⟩ := S'.lst hs r
      have hn : ¬ Mu φ ex a := fun z => by
        rcases E.new a (List.mem_of_getElem? hφ) with q | q
        · simp at q
        · exact S.muT z q
      exact .lst (.inl hl) hn (RpL.weaken (fun a o _ z => mu_in z) _ _ rl)
    · cases h
  | .tup ws, v, x, h, r => by
    simp only [Cc.frzW] at h
    obtain ⟨xs, e, rfl⟩ := map_of h
    cases r with
    | tup hr n r =>
      exact .tup (.inl ⟨hr, fun z => n (mu_in z)⟩) (frzL_ok S E S' ws _ xs e r)
  | .fn i, v, x, h, r => by simp [Cc.frzW] at h
  | .pr a b, v, x, h, r => by simp [Cc.frzW] at h
  | .fd a, v, x, h, r => by simp [Cc.frzW] at h
  | .clo k o ws, v, x, h, r => by cases r
theorem frzL_ok (S : Sim R φ ex H s) (E : Ext [] H φ' H') (S' : Sim R φ' (allMu φ ex) H' t) : ∀ (ws : List W) (vs : List V) (xs : List PyData), Cc.frzL t ws = some xs → RpWL R φ' (allMu φ ex) H' vs ws → RpL R.K φ ex H' vs xs
  | [], _, _, h, r => by cases h; cases r; exact .nil
  | w :: ws, _, _, h, r => by
    simp only [Cc.frzL] at h
    cases r with
    | cons r rs =>
      split at h
      · rename_i h1 h2
        cases h
        exact .cons (frzW_ok S E S' w _ _ h1 r) (frzL_ok S E S' ws _ _ h2 rs)
      · cases h
end
/-! ### shifted references -/
theorem mu_app {a : Addr} : Mu (φ ++ φ') ex a ↔ Mu φ' (allMu φ ex) a := by
  unfold Mu allMu
  simp only [List.mem_append, List.mem_filterMap, id_eq, exists_eq_right]
  constructor
  · rintro ((h | h) | h)
    · exact .inr (.inl h)
    · exact .inl h
    · exact .inr (.inr h)
  · rintro (h | h | h)
    · exact .inl (.inr h)
    · exact .inl (.inl h)
    · exact .inr h
mutual
theorem RpW.shift (hl : φ.length = s.length) : ∀ (w : W) (v : V), RpW R φ' (allMu φ ex) H' v w → RpW R (φ ++ φ') ex H' v (w.shift s.length)
  | .d x, v, r => by
    cases r with | d r => exact .d (Rp.weaken (fun a o _ z => mu_app.mp z) _ _ r)
  | .ref n, v, r => by
    cases r with
    | ref l r =>
      refine .ref (by rw [List.length_append]; omega) fun a h => r a ?_
      rw [List.getElem?_append_right (by omega)] at h
      rw [← h]; congr 1; omega
  | .tup ws, v, r => by
    cases r with
    | tup hr n r => exact .tup hr (fun z => n (mu_app.mp z)) (RpWL.shift hl ws _ r)
  | .fn i, v, r => by cases r with | fn _ z => exact .fn i z
  | .pr x y, v, r => by
    cases r with
    | pr hr n r q => exact .pr hr (fun z => n (mu_app.mp z)) (Rp.weaken (fun a o _ z => mu_app.mp z) _ _ r) (Rp.weaken (fun a o _ z => mu_app.mp z) _ _ q)
  | .fd kvs, v, r => by
    cases r with
    | fd e n r => exact .fd e (fun z => n (mu_app.mp z)) (r.map fun d v => Rp.weaken (fun a o _ z => mu_app.mp z) d v)
  | .clo k o ws, v, r => by cases r
theorem RpWL.shift (hl : φ.length = s.length) : ∀ (ws : List W) (vs : List V), RpWL R φ' (allMu φ ex) H' vs ws → RpWL R (φ ++ φ') ex H' vs (W.shiftL s.length ws)
  | [], _, r => by cases r; exact .nil
  | w :: ws, _, r => by
    cases r with
    | cons r rs => exact .cons (RpW.shift hl w _ r) (RpWL.shift hl ws _ rs)
end
theorem FsR.shift (hl : φ.length = s.length) : ∀ {vs : List (Str × V)} {ws : List (Str × W)}, FsR R φ' (allMu φ ex) H' vs ws → FsR R (φ ++ φ') ex H' vs (ws.map fun p => (p.1, p.2.shift s.length))
  | _, _, .nil => .nil
  | _, _, .cons r t => .cons (RpW.shift hl _ _ r) (FsR.shift hl t)
theorem DnR.shift (hl : φ.length = s.length) : ∀ {kvs : List (PyData × W)} {xs : List Cd.Ent}, DnR R φ' (allMu φ ex) H' kvs xs → DnR R (φ ++ φ') ex H' (kvs.map fun p => (p.1, p.2.shift s.length)) xs
  | _, _, .nil => .nil
  | _, _, .cons h r q t => .cons h (Rp.weaken (fun a o _ z => mu_app.mp z) _ _ r) (RpW.shift hl _ _ q) (DnR.shift hl t)
theorem CellR.shift (hl : φ.length = s.length) {a : Addr} {c : Cell} (h : CellR R φ' (allMu φ ex) H' a c) : CellR R (φ ++ φ') ex H' a (c.shift s.length) := by
  cases c with
  | lst ds => obtain ⟨vs, e, r⟩ := h; exact ⟨vs, e, RpL.weaken (fun a o _ z => mu_app.mp z) _ _ r⟩
  | wl ws => obtain ⟨vs, e, r⟩ := h; exact ⟨vs, e, RpWL.shift hl _ _ r⟩
  | ins c fs => obtain ⟨dx, fv, e, r⟩ := h; exact ⟨dx, fv, e, FsR.shift hl r⟩
  | dead => exact h.elim
  | dn kvs => obtain ⟨xs, e, r⟩ := h; exact ⟨xs, e, DnR.shift hl r⟩
  | dk kvs => obtain ⟨xs, e, r⟩ := h; exact ⟨xs, e, FsR.shift hl r⟩
theorem shift_dead {c : Cell} {n : Nat} (h : c = .dead) : c.shift n = .dead := by subst h; rfl
/-- the callee's cells behind ours -/
theorem kept (S : Sim R φ ex H s) (E : Ext [] H φ' H') (S' : Sim R φ' (allMu φ ex) H' t) : Ext φ H (φ ++ φ') H' ∧ Sim R (φ ++ φ') ex H' (s ++ t.map (Cell.shift s.length)) := by
  obtain ⟨e1, S1⟩ := apart S E S'.T
  have fr : ∀ a, some a ∈ φ' → H a = none := fun a z => (E.new a z).elim (fun q => by simp at q) fun q => q
  have e : Ext φ H (φ ++ φ') H' := by
    refine ⟨e1.keep, e1.any, fun a z => ?_, by simp, fun n a l h => ?_⟩
    · rcases List.mem_append.mp z with z | z
      · exact .inl z
      · exact .inr (fr a z)
    · rwa [List.getElem?_append_left l] at h
  have key : ∀ (n : Nat) (b : Addr), (φ ++ φ')[n]? = some (some b) → (n < φ.length ∧ φ[n]? = some (some b)) ∨ (φ.length ≤ n ∧ φ'[n - φ.length]? = some (some b)) := fun n b h => by
    rcases Nat.lt_or_ge n φ.length with l | l
    · rw [List.getElem?_append_left l] at h; exact .inl ⟨l, h⟩
    · rw [List.getElem?_append_right l] at h; exact .inr ⟨l, h⟩
  have cross : ∀ b, some b ∈ φ → some b ∉ φ' := fun b h h2 => by
    obtain ⟨o, ho, _⟩ := S.mem h
    rw [fr b h2] at ho; cases ho
  refine ⟨e, by simp [S.len, S'.len], fun n c h => ?_, fun n m a h1 h2 => ?_, fun a ha z => ?_, S1.exT, fun q hq => ⟨(e.mu (S.kn q hq).1 (S.kn q hq).2.1 (S.kn q hq).2.2).1, (e.mu (S.kn q hq).1 (S.kn q hq).2.1 (S.kn q hq).2.2).2, (S.kn q hq).2.2⟩, S'.T⟩
  · rcases Nat.lt_or_ge n s.length with l | l
    · rw [List.getElem?_append_left l] at h
      have l2 : n < φ.length := by rw [S.len]; exact l
      rcases S.cell n c h with ⟨q, q2⟩ | ⟨a, q1, q2⟩
      · exact .inl ⟨q, by rw [List.getElem?_append_left l2]; exact q2⟩
      · refine .inr ⟨a, by rw [List.getElem?_append_left l2]; exact q1, q2.ext e ?_⟩
        obtain ⟨o, ho, cl⟩ := q2.there
        rw [ho]; exact E.keep a o ho (by simp) (cel_nt cl)
    · have l2 : φ.length ≤ n := by rw [S.len]; exact l
      rw [List.getElem?_append_right l, List.getElem?_map] at h
      obtain ⟨c', h', rfl⟩ := map_of h
      have en : n - φ.length = n - s.length := by rw [S.len]
      rcases S'.cell _ c' h' with ⟨q, q2⟩ | ⟨a, q1, q2⟩
      · exact .inl ⟨shift_dead q, by rw [List.getElem?_append_right l2, en]; exact q2⟩
      · exact .inr ⟨a, by rw [List.getElem?_append_right l2, en]; exact q1, q2.shift S.len⟩
  · rcases key n a h1 with ⟨l1, q1⟩ | ⟨l1, q1⟩ <;> rcases key m a h2 with ⟨l2, q2⟩ | ⟨l2, q2⟩
    · exact S.one n m a q1 q2
    · exact (cross a (List.mem_of_getElem? q1) (List.mem_of_getElem? q2)).elim
    · exact (cross a (List.mem_of_getElem? q2) (List.mem_of_getElem? q1)).elim
    · have := S'.one _ _ a q1 q2
      omega
  · rcases List.mem_append.mp z with z | z
    · exact S.off a ha z
    · obtain ⟨o, ho, _⟩ := S.exT a ha
      rw [fr a z] at ho; cases ho
/-! ### the modes of a call -/
theorem RpWL.lend (S : Sim R φ ex H s) : ∀ {ws ws' : List W} {vs : List V}, lendL s ws = some ws' → RpWL R φ ex H vs ws → RpWL R [] [] H vs ws'
  | [], _, _, h, r => by cases h; cases r; exact .nil
  | w :: ws, _, _, h, r => by
    simp only [lendL] at h
    split at h
    · rename_i x xs h1 h2
      cases h
      cases r with
      | cons r rs =>
        refine .cons (.d ?_) (RpWL.lend S h2 rs)
        have t := S.top r h1
        have nm : ∀ a, ¬ Mu [] [] a := fun a z => by rcases z with z | z <;> simp at z
        rcases t with t | ⟨a, us, ds, rfl, rfl, hl, rl⟩
        · exact Rp.weaken (fun a o _ z => (nm a z).elim) _ _ t
        · exact .lst (.inl hl) (nm a) (RpL.weaken (fun a o _ z => (nm a z).elim) _ _ rl)
    · cases h
theorem RpWL.others {ws : List W} {vs : List V} {ds : List PyData} (h : allPure ws = some ds) (r : RpWL R φ ex H vs ws) : RpWL R [] (allMu φ ex) H vs ws := by
  have e := allPure_eq h
  subst e
  exact RpWL.of (RpL.weaken (fun a o _ z => mu_all.mp z) _ _ (RpWL.data r))
theorem exc_apart {E : XK} {ex' : List Addr} {x : Exn} (S : Sim R φ ex H s) (h : ExcOk R ex E φ H x s) (hw : ∀ φ' H' od, Ext [] H φ' H' → Sim R φ ex H' s → ExnR R.K φ' ex' H' od x.fs → ExnR R.K φ ex H' od x.fs) : ExcOk R ex' E [] H x t := by
  intro φ' H' od e S' r
  obtain ⟨e1, S1⟩ := apart S e S'.T
  exact h φ H' od e1 S1 (hw φ' H' od e S1 r)
theorem callM_ok {m : Cm} {i : Nat} {ws : List W} {vs : List V} {Q : VK} {E : XK} (S : Sim R φ ex H s) (r : RpWL R φ ex H vs ws) (h : RunsTo (callM m (R.Φ i) ws s) (RetW R ex Q φ H) (ExcOk R ex E φ H)) :
    ∃ φ0 ex0 s0 ws0, Sim R φ0 ex0 H s0 ∧ RpWL R φ0 ex0 H vs ws0 ∧ RunsTo (R.Φ i ws0 s0) (RetW R ex0 Q φ0 H) (ExcOk R ex0 E φ0 H) := by
  have wk : ∀ φ' H' od fs, ExnR R.K φ' (allMu φ ex) H' od fs → ExnR R.K φ ex H' od fs := fun φ' H' od fs => ExnR.weaken fun a o _ z => mu_in z
  cases m with
  | lend =>
    simp only [callM] at h
    split at h
    · rename_i ws' hl
      refine ⟨[], [], [], ws', Sim.empty (fun q hq => ⟨(S.kn q hq).1, (S.kn q hq).2.2⟩) S.T, r.lend S hl, ?_⟩
      cases hr : R.Φ i ws' [] with
      | stuck => rw [hr] at h; exact h
      | exc x t =>
        rw [hr] at h
        dsimp only at h
        split at h
        · rename_i hn
          refine exc_apart S h fun φ' H' od e S1 q => ?_
          cases od with
          | none => exact q
          | some d => obtain ⟨z, fv, e2, q⟩ := q; exact ⟨z, fv, e2, FsD.noList S1 hn q⟩
        · exact h.elim
      | ok w t =>
        rw [hr] at h
        cases w with
        | d x =>
          dsimp only at h
          split at h
          · rename_i hn
            intro v φ' H' e S' rv
            obtain ⟨e1, S1⟩ := apart S e S'.T
            cases rv with | d rv => exact h v φ H' e1 S1 (.d (Rp.noList S1 _ _ hn rv))
          · exact h.elim
        | ref n => exact h.elim
        | tup n => exact h.elim
        | fn n => exact h.elim
        | pr n m => exact h.elim
        | fd n => exact h.elim
        | clo k o ws => exact h.elim
    · exact h.elim
  | frz =>
    simp only [callM] at h
    split at h
    · rename_i ds hp
      refine ⟨[], allMu φ ex, [], ws, S.others, r.others hp, ?_⟩
      cases hr : R.Φ i ws [] with
      | stuck => rw [hr] at h; exact h
      | exc x t => rw [hr] at h; exact exc_apart S h fun φ' H' od e S1 q => wk _ _ _ _ q
      | ok w t =>
        rw [hr] at h
        dsimp only at h
        split at h
        · rename_i x hx
          intro v φ' H' e S' rv
          obtain ⟨e1, S1⟩ := apart S e S'.T
          exact h v φ H' e1 S1 (.d (frzW_ok S e S' w v x hx rv))
        · exact h.elim
    · exact ⟨φ, ex, s, ws, S, r, h⟩
  | keep =>
    simp only [callM] at h
    split at h
    · rename_i ds hp
      refine ⟨[], allMu φ ex, [], ws, S.others, r.others hp, ?_⟩
      cases hr : R.Φ i ws [] with
      | stuck => rw [hr] at h; exact h
      | exc x t => rw [hr] at h; exact exc_apart S h fun φ' H' od e S1 q => wk _ _ _ _ q
      | ok w t =>
        rw [hr] at h
        intro v φ' H' e S' rv
        obtain ⟨e1, S1⟩ := kept S e S'
        exact h v _ H' e1 S1 (RpW.shift S.len w v rv)
    · exact ⟨φ, ex, s, ws, S, r, h⟩
end
end Cc

set_option linter.all false
set_option maxRecDepth 100000
set_option maxHeartbeats 1000000
/-! Cc: calls of defs, classes, methods, by syntax. -/
namespace Cc
open PySem PySem.Spec PyProof.Rows L2

/-! ### other tables over the same ground -/
structure Same (R R' : Gt) : Prop where
  P : R.P = R'.P
  w : R.w = R'.w
  K : R.K = R'.K
  fa : R.fa = R'.fa
  ca : R.ca = R'.ca
  xa : R.xa = R'.xa
  kn : R.kn = R'.kn
  T : R.T = R'.T
  nd : R.nd = R'.nd
theorem Same.symm {R R' : Gt} (h : Same R R') : Same R' R := ⟨h.P.symm, h.w.symm, h.K.symm, h.fa.symm, h.ca.symm, h.xa.symm, h.kn.symm, h.T.symm, h.nd.symm⟩
section
variable {R R' : Gt} {φ : Ph} {ex : List Addr} {H : Hp}
mutual
theorem RpW.tr (h : Same R R') : ∀ (w : W) (v : V), RpW R φ ex H v w → RpW R' φ ex H v w
  | .d x, _, r => by cases r with | d r => exact .d (h.K ▸ r)
  | .ref n, _, r => by cases r with | ref l r => exact .ref l r
  | .tup ws, _, r => by cases r with | tup a b c => exact .tup a b (RpWL.tr h ws _ c)
  | .pr x y, _, r => by cases r with | pr a b c d => exact .pr a b (h.K ▸ c) (h.K ▸ d)
  | .fd _, _, r => by cases r with | fd e n z => exact .fd (h.P ▸ h.w ▸ e) n (h.K ▸ z)
  | .clo _ _ _, _, r => by cases r
  | .fn i, _, r => by
    cases r with
    | fn _ z =>
      rw [h.fa]
      exact .fn i (by rw [← h.nd]; exact z)
theorem RpWL.tr (h : Same R R') : ∀ (ws : List W) (vs : List V), RpWL R φ ex H vs ws → RpWL R' φ ex H vs ws
  | [], _, r => by cases r; exact .nil
  | w :: ws, _, r => by cases r with | cons a b => exact .cons (RpW.tr h w _ a) (RpWL.tr h ws _ b)
end
theorem FsR.tr (h : Same R R') : ∀ {vs : List (Str × V)} {ws : List (Str × W)}, FsR R φ ex H vs ws → FsR R' φ ex H vs ws
  | _, _, .nil => .nil
  | _, _, .cons r t => .cons (RpW.tr h _ _ r) (FsR.tr h t)
theorem DnR.tr (h : Same R R') : ∀ {kvs : List (PyData × W)} {xs : List Cd.Ent}, DnR R φ ex H kvs xs → DnR R' φ ex H kvs xs
  | _, _, .nil => .nil
  | _, _, .cons k r q t => .cons k (h.K ▸ r) (RpW.tr h _ _ q) (DnR.tr h t)
theorem Sim.tr (h : Same R R') {s : Store} (S : Sim R φ ex H s) : Sim R' φ ex H s :=
  ⟨S.len, fun n c e => by
    rcases S.cell n c e with q | ⟨a, q, r⟩
    · exact .inl q
    · refine .inr ⟨a, q, ?_⟩
      cases c with
      | lst ds => obtain ⟨vs, e, r⟩ := r; exact ⟨vs, e, h.K ▸ r⟩
      | wl ws => obtain ⟨vs, e, r⟩ := r; exact ⟨vs, e, RpWL.tr h _ _ r⟩
      | ins c fs => obtain ⟨dx, fv, e, r⟩ := r; exact ⟨dx, fv, h.ca ▸ e, r.tr h⟩
      | dn kvs => obtain ⟨xs, e, r⟩ := r; exact ⟨xs, by rw [← h.P, ← h.w]; exact e, r.tr h⟩
      | dk kvs => obtain ⟨xs, e, r⟩ := r; exact ⟨xs, e, r.tr h⟩
      | dead => exact r.elim, S.one, S.off, S.exT, h.kn ▸ S.kn, h.T ▸ S.T⟩
theorem RetW.tr (h : Same R R') {Q : VK} {w : W} {s : Store} (r : RetW R ex Q φ H w s) : RetW R' ex Q φ H w s := fun v φ' H' e S q => r v φ' H' e (S.tr h.symm) (RpW.tr h.symm _ _ q)
theorem ExcOk.tr (h : Same R R') {E : XK} {x : Exn} {s : Store} (r : ExcOk R ex E φ H x s) : ExcOk R' ex E φ H x s := fun φ' H' od e S q => by
  rw [← h.xa]; exact r φ' H' od e (S.tr h.symm) (h.K ▸ q)
end
/-- the same ground over another base -/
def Gt.at (R : Gt) (b : Heap) : Gt := { R with fm := ⟨b, [], [], default⟩ }
theorem at_same {R : Gt} {b : Heap} : Same R (R.at b) := ⟨rfl, rfl, rfl, rfl, rfl, rfl, rfl, rfl, rfl⟩
/-- what a base must bear for defs within defs -/
def Gd (R : Gt) (mg : Str → Option Value) (base : Heap) : Prop := ∀ p ∈ R.cs, LamX.TabB base mg p.1 p.2
/-- a def's promise: its run -/
def spF (R : Gt) (i np : Nat) : Sp := fun vs H Q E => vs.length = np ∧ ∃ φ ex s ws, Sim R φ ex H s ∧ RpAL R φ ex H vs ws ∧ RunsTo (R.Φ i ws s) (RetW R ex Q φ H) (ExcOk R ex E φ H)
theorem spF_a {R : Gt} {b : Heap} {i np : Nat} {vs : List V} {H : Hp} {Q : VK} {E : XK} {φ : Ph} {ex : List Addr} {s : Store} {ws : List W} (hl : vs.length = np) (S : Sim R φ ex H s) (r : RpAL (R.at b) φ ex H vs ws) (h : RunsTo (R.Φ i ws s) (RetW R ex Q φ H) (ExcOk R ex E φ H)) : spF (R.at b) i np vs H Q E :=
  ⟨hl, φ, ex, s, ws, S.tr at_same, r, h.imp (fun _ _ q => q.tr at_same) fun _ _ q => q.tr at_same⟩
theorem spF_w {R : Gt} {b : Heap} {i np : Nat} {vs : List V} {H : Hp} {Q : VK} {E : XK} {φ : Ph} {ex : List Addr} {s : Store} {ws : List W} (hl : vs.length = np) (S : Sim R φ ex H s) (r : RpWL R φ ex H vs ws) (h : RunsTo (R.Φ i ws s) (RetW R ex Q φ H) (ExcOk R ex E φ H)) : spF (R.at b) i np vs H Q E :=
  spF_a hl S (.of (RpWL.tr at_same _ _ r)) h
/-- the i-th def stands and keeps its promise -/
structure FOk (P : Program) (w : World) (K : PySem.W.Frag) (mg : Str → Option Value) (R : Gt) (i np : Nat) (dfl : List PyData) : Prop where
  ex : ∃ fd ps, ps.length = np ∧ (∀ base, Gd R mg base → FnOk P w K mg base (L2.CX P w) (2 * i + 2) (R.fa i) fd ps (spF (R.at base) i np)) ∧
    ∀ n, n ≤ np → np - n ≤ dfl.length → ∃ ds dvs, Vals dvs ds ∧ Binds K fd ps ds ∧ ∀ φ ex H, RpL R.K φ ex H dvs (dfl.drop (dfl.length - (np - n)))
  kp : PySem.W.keepIn K (.ref (R.fa i)) = true
/-- where one stands -/
structure XOk (X : Cx) (R : Gt) (E : L2.St → XK) (k : Nat) : Prop where
  hP : X.prog = R.P
  hw : X.w = R.w
  hK : X.K = R.K
  calm : X.calm = true
  nd : X.N.Nodup
  room : Room k X.A
  pass : ∀ σ, PassesAt (L2.CX X.prog X.w) X σ (E σ)
  hB : X.base = R.fm.base
  gd : Gd R X.mg X.base
def NoStar (es : List Expr) : Prop := ∀ e ∈ es, ∀ x p, e ≠ .Starred x p
theorem star_all {es : List Expr} (h : NoStar es) (env : PySem.Env) : starEach es env = es.map fun e => (false, eval e env) := by
  induction es with
  | nil => rfl
  | cons e es ih => rw [star_ne (h e (by simp)), ih fun x hx => h x (by simp [hx])]; rfl
theorem star_none {es : List Expr} (h : NoStar es) (pos : Pos) (env : PySem.Env) : (backTo pos (starEach es env)).any (·.1) = false := by
  rw [star_all h]
  unfold backTo
  rw [List.map_map]
  induction es with
  | nil => rfl
  | cons e es ih => simp only [List.map_cons, List.any_cons, ih fun x hx => h x (by simp [hx])]; rfl
theorem few_all {es : List Expr} (h : NoStar es) (hl : es.length < 20) (pos : Pos) (env : PySem.Env) : methodCallForm (es.length + ([] : List Keyword).length) (backTo pos (starEach es env)) (backToKw pos (keywordEach [] env)) = true := by
  unfold methodCallForm
  have h1 : (backTo pos (starEach es env)).all (fun x => !x.1) = true := by
    rw [star_all h]
    unfold backTo
    rw [List.map_map]
    clear hl
    induction es with
    | nil => rfl
    | cons e es ih => simp only [List.map_cons, List.all_cons, ih fun x hx => h x (by simp [hx])]; rfl
  rw [h1]
  show (true && true && decide (es.length + 0 + 0 < 30)) = true
  simp only [Bool.and_true, Bool.true_and, decide_eq_true_eq]
  omega
section
variable {R : Gt}
theorem runEs_len : ∀ {es : List Ex} {env : Env} {s t : Store} {ws : List W}, runEs R.Φ R.M R.CI R.FO es env s = .ok ws t → ws.length = es.length
  | [], _, _, _, _, h => by simp only [runEs] at h; cases h; rfl
  | e :: es, env, s, t, ws, h => by
    simp only [runEs] at h
    cases r : runE R.Φ R.M R.CI R.FO e env s with
    | ok w s1 =>
      rw [r] at h
      simp only [Res.bind_ok] at h
      cases r2 : runEs R.Φ R.M R.CI R.FO es env s1 with
      | ok ws' s2 => rw [r2] at h; cases h; simp [runEs_len r2]
      | exc x s2 => rw [r2] at h; cases h
      | stuck => rw [r2] at h; cases h
    | exc x s1 => rw [r] at h; cases h
    | stuck => rw [r] at h; cases h
theorem runEs_consts : ∀ (ds : List PyData) (env : Env) (s : Store), runEs R.Φ R.M R.CI R.FO (ds.map .const) env s = .ok (ds.map .d) s
  | [], _, _ => rfl
  | d :: ds, env, s => by simp only [List.map_cons, runEs, runE, Res.bind_ok, runEs_consts ds env s]
theorem runEs_app : ∀ (es : List Ex) (ds : List PyData) (env : Env) (s : Store), runEs R.Φ R.M R.CI R.FO (es ++ ds.map .const) env s = (runEs R.Φ R.M R.CI R.FO es env s).bind fun ws s => .ok (ws ++ ds.map .d) s
  | [], ds, env, s => by simp only [List.nil_append, runEs, Res.bind_ok, runEs_consts]
  | e :: es, ds, env, s => by
    simp only [List.cons_append, runEs, res_assoc]
    congr 1
    funext w s1
    rw [runEs_app es ds env s1, res_assoc]
    congr 1
theorem dfls_of {np n : Nat} {dfl : List PyData} {cd : List Ex} (h : dfls np n dfl = some cd) : n ≤ np ∧ np - n ≤ dfl.length ∧ cd = (dfl.drop (dfl.length - (np - n))).map .const := by
  unfold dfls at h
  split at h
  · rename_i h2; cases h; exact ⟨h2.1, h2.2, rfl⟩
  · cases h
end
section
variable {X : Cx} {R : Gt} {E : L2.St → XK} {k : Nat} {a b c e o : Expr} {ca cb cc ce co : Ex} {es : List Expr} {ces cd : List Ex} {pos p apos : Pos}
/-- with the number of arguments -/
theorem tA_len {σ : L2.St} {H : Hp} {Q : List V → Hp → Prop} (h : tA R E ces σ H fun vs H1 => vs.length = ces.length → Q vs H1) : tA R E ces σ H Q := by
  obtain ⟨φ, ex, s, env, S, N, h⟩ := h
  refine ⟨φ, ex, s, env, S, N, ?_⟩
  cases r : runEs R.Φ R.M R.CI R.FO ces env s with
  | ok ws t =>
    rw [r] at h
    intro vs φ' H' e S' rv
    exact h vs φ' H' e S' rv (by rw [rv.length, runEs_len r])
  | exc x t => rw [r] at h; exact h
  | stuck => rw [r] at h; exact h
theorem tA_nil {σ : L2.St} {H : Hp} {Q : List V → Hp → Prop} (h : tA R E [] σ H Q) : Q [] H := by
  obtain ⟨φ, ex, s, env, S, N, h⟩ := h
  exact h [] φ H (Ext.refl _ _) S .nil
/-- arguments, however many -/
theorem call_args {f : Value} {F : L2.St → List V → Hp → VK → Prop} (hs : NoStar es) (hz : es = [] → ces = []) (ha : PA X es (tA R E ces)) (hk : PySem.W.keepIn X.K f = true)
    {pins : List (Addr × Obj)} {s : Shared} {σ : L2.St} {H : Hp} {Q : VK} (I : Inv X pins σ H s) (first : List Value)
    (h : tA R E ces σ H fun vs H1 => F σ vs H1 Q)
    (run : ∀ us vs s2 H2, Inv X pins σ H2 s2 → Vals vs us → F σ vs H2 Q → wpAny (model X.prog X.w) X.A (call f (first ++ us)) (EP X pins σ Q) X.xe s2) :
    wpAny (model X.prog X.w) X.A (callWith pos f first (backTo pos (starEach es X.env)) (backToKw pos (keywordEach [] X.env))) (EP X pins σ Q) X.xe s := by
  cases es with
  | nil =>
    rw [hz rfl] at h
    exact PySem.W.callWith_K0 I.kIn hk (run [] [] s H I .nil (tA_nil h))
  | cons e es =>
    have he := star_ne (hs e (by simp)) es X.env
    refine PySem.W.callWith_K (h₀ := X.base) I.ok.mod.kin hk (thn (ha.run pos pins s σ H _ I h) fun us s1 ⟨vs, H1, I1, r, q⟩ => ⟨I1.kIn, ?_⟩) he (star_none (fun x hx => hs x (by simp [hx])) pos X.env)
    exact run us vs s1 H1 I1 r q
/-- f(e, ..), f a def of the table -/
theorem p_call {x : Str} {i np : Nat} {dfl : List PyData} {m : Cm} (C : XOk X R E k) (F : FOk X.prog X.w X.K X.mg R i np dfl) (hk : 2 * i + 2 ≤ k) (hg : Gl X x) (hm : X.mg x = some (.ref (R.fa i))) (hd : (x == ("__debug__" : Str)) = false)
    (hs : NoStar es) (hz : es = [] → ces = []) (ha : PA X es (tA R E ces)) (hcd : dfls np ces.length dfl = some cd) : PE X (.Call (.Name x p) es [] pos) (tD R E (.call m i (ces ++ cd))) := by
  refine ⟨fun pins s σ H Q I h => ?_⟩
  obtain ⟨fd, ps, hps, Fn, hB⟩ := F.ex
  obtain ⟨h1, h2, rfl⟩ := dfls_of hcd
  obtain ⟨ds, dvs, rv, hb, hr⟩ := hB _ h1 h2
  refine wpAny_Call_Name_kw (ld_glob I hg hm ?_ hd)
  refine call_args (F := fun σ vs H1 Q => spF (R.at X.base) i np (vs ++ dvs) H1 Q (E σ)) hs hz ha F.kp I [] ?_ fun us vs s2 H2 I2 r q => run_fnSD (Fn _ C.gd) (C.room.mono hk) hb rv (C.pass σ) I2 r q
  obtain ⟨φ, ex, s, env, S, N, h⟩ := h
  simp only [runE, runEs_app, res_assoc, Res.bind_ok] at h
  refine tA_len (tA_mono (tA_bind mono_W S N h) fun vs H1 ⟨φ1, s1, ws, S1, N1, e1, r1, h1'⟩ hl => ?_)
  obtain ⟨φ0, ex0, s0, ws0, S0, r0, h0⟩ := callM_ok S1 (r1.append (RpWL.of (hr φ1 ex H1))) h1'
  refine spF_w ?_ S0 r0 h0
  rw [List.length_append, hl, (hr φ1 ex H1).length, List.length_drop]
  omega
/-- f(e, ..), f a name that holds a def of the table -/
theorem p_callv {x : Str} {i b : Nat} {m : Cm} (C : XOk X R E k) (hB : ∀ j, j < b → R.nd j = none → ∃ np, FOk X.prog X.w X.K X.mg R j np [] ∧ (∀ ws s, ws.length ≠ np → R.Φ j ws s = .stuck) ∧ 2 * j + 2 ≤ k) (hN : X.N[i]? = some x) (hv : Vis X.env.scope x) (hdb : (x == ("__debug__" : Str)) = false) (hcd : (x == ("__classdict__" : Str)) = false)
    (hs : NoStar es) (hz : es = [] → ces = []) (ha : PA X es (tA R E ces)) : PE X (.Call (.Name x p) es [] pos) (tD R E (.callv m b i ces)) := by
  refine ⟨fun pins s σ H Q I h => ?_⟩
  obtain ⟨φ, ex, st, env, S, N, h⟩ := h
  simp only [runE] at h
  split at h
  · rename_i j hj
    split at h
    · rename_i hjb
      obtain ⟨v, hσ, rv0⟩ := N.get hj
      cases rv0 with | fn _ hnn =>
      obtain ⟨np, F, hne, hk⟩ := hB j hjb hnn
      obtain ⟨fd, ps, hps, Fn, hBd⟩ := F.ex
      obtain ⟨ds, dvs, rv, hbi, hr⟩ := hBd np (Nat.le_refl _) (by simp)
      have edv : dvs = [] := by
        have := (hr φ ex H).length
        simpa using this
      subst edv
      cases rv
      refine wpAny_Call_Name_kw (thn ((pe_var (pos := p) hN hv hdb hcd).run pins s σ H (fun v H1 => v = .ref (R.fa j) ∧ H1 = H) I ⟨_, hσ, rfl, rfl⟩) fun u s1 ⟨v, H1, I1, r1, q1⟩ => ?_)
      obtain ⟨rfl, rfl⟩ := q1
      cases r1
      refine call_args (F := fun σ vs H2 Q => spF (R.at X.base) j np vs H2 Q (E σ)) hs hz ha F.kp I1 [] ?_
        fun us vs s2 H2 I2 r q => run_fnSD (us := us) (vs := vs) (Fn _ C.gd) (C.room.mono hk) hbi .nil (C.pass σ) I2 r (by rw [List.append_nil]; exact q)
      refine tA_mono (tA_bind mono_W S N h) fun vs H2 ⟨φ2, st2, ws, S2, N2, e2, r2, h2⟩ => ?_
      obtain ⟨φ0, ex0, s0, ws0, S0, r0, h0⟩ := callM_ok S2 r2 h2
      refine spF_w ?_ S0 r0 h0
      by_cases hz : ws0.length = np
      · rw [← hz]; exact r0.length
      · rw [hne _ _ hz] at h0; exact h0.elim
    · exact h.elim
  · exact h.elim
/-- C.m is the def f -/
structure Base (K : PySem.W.Frag) (C : Addr) (m : Str) (f : Addr) : Prop where
  rd : PySem.W.readsIn K C (.type "type") = true
  ga : PySem.W.specialIn K (.ref C) "__getattribute__" = some (some (.builtin "type.__getattribute__"))
  at_ : PySem.W.findCls K (.ref C) (.type "type") m = some (.val (.ref f))
/-- B.m(e, ..), B a class, m a def of it -/
theorem p_base {x m : Str} {c i np : Nat} {dfl : List PyData} {md : Cm} (C : XOk X R E k) (B : Base X.K (R.ca c) m (R.fa i)) (F : FOk X.prog X.w X.K X.mg R i np dfl) (hk : 2 * i + 2 ≤ k) (hg : Gl X x) (hm : X.mg x = some (.ref (R.ca c))) (hd : (x == ("__debug__" : Str)) = false)
    (hs : NoStar es) (hz : es = [] → ces = []) (hl : (apos.endLine == pos.line) = true) (hn : es.length < 20) (ha : PA X es (tA R E ces)) (hcd : dfls np ces.length dfl = some cd) : PE X (.Call (.Attribute (.Name x p) m apos) es [] pos) (tD R E (.call md i (ces ++ cd))) := by
  refine ⟨fun pins s σ H Q I h => ?_⟩
  obtain ⟨fd, ps, hps, Fn, hB⟩ := F.ex
  obtain ⟨h1, h2, rfl⟩ := dfls_of hcd
  obtain ⟨ds, dvs, rv, hb, hr⟩ := hB _ h1 h2
  have ht : eval (.Call (.Attribute (.Name x p) m apos) es [] pos) X.env = (do
      let ov ← eval (.Name x p) X.env
      standAt apos.atName
      let (f, first) ← holding [ov] (getMethod ov m (L2.plainOf (.Name x p) X.env))
      callWith pos f first (backTo pos (starEach es X.env)) (backToKw pos (keywordEach [] X.env))) := by
    have e1 : eval (.Call (.Attribute (.Name x p) m apos) es [] pos) X.env = (do
        let ov ← attributeBase (.Name x p) m X.env (eval (.Name x p) X.env)
        standAt apos.atName
        methodCall (.Name x p) m apos pos X.env ov (es.length + ([] : List Keyword).length) (backTo pos (starEach es X.env)) (backToKw pos (keywordEach [] X.env))) := rfl
    rw [e1, base_ne (fun _ _ _ _ z => by cases z)]
    congr 1
    funext ov
    congr 1
    funext _
    exact L2.mcall_line (few_all hs hn pos X.env) hl
  refine PySem.W.methodCall_KW (pl := L2.plainOf (.Name x p) X.env) (ld_glob I hg hm ?_ hd) ht
  refine PySem.W.method_cls I.kIn B.ga (PySem.W.cls_value I.kIn B.rd B.at_ (handed_of (v := .ref _) rfl) ?_)
  refine call_args (F := fun σ vs H1 Q => spF (R.at X.base) i np (vs ++ dvs) H1 Q (E σ)) hs hz ha F.kp (I.tok _) [] ?_ fun us vs s2 H2 I2 r q => run_fnSD (Fn _ C.gd) (C.room.mono hk) hb rv (C.pass σ) I2 r q
  obtain ⟨φ, ex, s, env, S, N, h⟩ := h
  simp only [runE, runEs_app, res_assoc, Res.bind_ok] at h
  refine tA_len (tA_mono (tA_bind mono_W S N h) fun vs H1 ⟨φ1, s1, ws, S1, N1, e1, r1, h1'⟩ hl => ?_)
  obtain ⟨φ0, ex0, s0, ws0, S0, r0, h0⟩ := callM_ok S1 (r1.append (RpWL.of (hr φ1 ex H1))) h1'
  refine spF_w ?_ S0 r0 h0
  rw [List.length_append, hl, (hr φ1 ex H1).length, List.length_drop]
  omega
/-- C(..) -/
theorem run_makeS {C f : Addr} {fd : FuncData} {ps : List Str} {sp : Sp} {dvs : List V} {ds : List Value} {CX : CXT} {j : Nat} {pins : List (Addr × Obj)} {σ : L2.St} {H : Hp} {s : Shared} {Q : VK} {us : List Value} {vs : List V} {E : XK} (M : Mk X.K C f) (F : FnOk X.prog X.w X.K X.mg X.base CX j f fd ps sp) (hr : Room (j + 1) X.A) (hb : Binds X.K fd ps ds) (hd : Vals dvs ds)
    (hx : PassesAt CX X σ E) (I : Inv X pins σ H s) (r : Vals vs us)
    (h : ∀ x dx, H x = none → H dx = none → dx ≠ x → sp (.ref x :: (vs ++ dvs)) (upd (upd H dx (.own x)) x (.ins C dx [])) (fun v H2 => v = .non ∧ Q (.ref x) H2) E) :
    wpAny (model X.prog X.w) X.A (call (.ref C) us) (EP X pins σ Q) X.xe s := by
  have hq := h (s.heap.objs.size + 1) s.heap.objs.size (I.hok.fresh (Nat.le_succ _)) (I.hok.fresh (Nat.le_refl _)) (Nat.ne_of_lt (Nat.lt_succ_self _))
  have I2 := Inv.made (C := C) I
  have r2 : Vals (V.ref (s.heap.objs.size + 1) :: (vs ++ dvs)) (Value.ref (s.heap.objs.size + 1) :: (us ++ ds)) := .cons rfl (r.append hd)
  have hl : (Value.ref (s.heap.objs.size + 1) :: us ++ ds).length = ps.length := by
    have e := r2.length
    rw [F.len _ _ _ _ hq] at e
    exact e.symm
  refine wpAny_call (make_map (f := f) I.kIn M.makes M.init (beq_iff_eq.mp M.fn) (codeAny_mono (F.run _ X.stack _ _ ⟨Value.ref (s.heap.objs.size + 1) :: us, []⟩ (Value.ref (s.heap.objs.size + 1) :: (us ++ ds)) _ _ E (hr.make C us [])
    (I2.env0.make C us []) (hb _ (Value.ref (s.heap.objs.size + 1) :: us) I2.kIn hl) r2 hq) fun r s' hq' => ?_))
  cases r with
  | error e => exact hx pins _ _ e s' I2 hq'
  | ok fl =>
    cases fl with
    | ret u =>
      obtain ⟨v, H', I3, rv, ev, q3⟩ := I2.after hq'
      subst ev
      exact ⟨rv, ⟨V.ref (s.heap.objs.size + 1), H', I3, rfl, q3⟩⟩
    | next => exact False.elim hq'
    | brk => exact False.elim hq'
    | cont => exact False.elim hq'
theorem p_make {x : Str} {c i np : Nat} {dfl : List PyData} (C : XOk X R E k) (G : GOk R) (hi : R.CI c = some i) (F : FOk X.prog X.w X.K X.mg R i (np + 1) dfl) (hk : 2 * i + 3 ≤ k) (hg : Gl X x) (hm : X.mg x = some (.ref (R.ca c))) (hd : (x == ("__debug__" : Str)) = false)
    (hs : NoStar es) (hz : es = [] → ces = []) (ha : PA X es (tA R E ces)) (hcd : dfls np ces.length dfl = some cd) : PE X (.Call (.Name x p) es [] pos) (tD R E (.make c (ces ++ cd))) := by
  refine ⟨fun pins s σ H Q I h => ?_⟩
  obtain ⟨fd, ps, hps, Fn, hB⟩ := F.ex
  obtain ⟨h1, h2, rfl⟩ := dfls_of hcd
  obtain ⟨ds, dvs, rv, hb, hr⟩ := hB (ces.length + 1) (by omega) (by omega)
  have M := G.mkC c i hi
  rw [← C.hK] at M
  refine wpAny_Call_Name_kw (ld_glob I hg hm ?_ hd)
  refine call_args (F := fun σ vs H1 Q => ∀ x dx, H1 x = none → H1 dx = none → dx ≠ x → spF (R.at X.base) i (np + 1) (.ref x :: (vs ++ dvs)) (upd (upd H1 dx (.own x)) x (.ins (R.ca c) dx [])) (fun v H2 => v = .non ∧ Q (.ref x) H2) (E σ)) hs hz ha M.kp I [] ?_
    fun us vs s2 H2 I2 r q => run_makeS M (Fn _ C.gd) (C.room.mono hk) hb rv (C.pass σ) I2 r q
  obtain ⟨φ, ex, s, env, S, N, h⟩ := h
  simp only [runE, runEs_app, res_assoc, Res.bind_ok] at h
  refine tA_len (tA_mono (tA_bind mono_W S N h) fun vs H1 ⟨φ1, s1, ws, S1, N1, e1, r1, h1'⟩ hl x dx hx hdx hne => ?_)
  dsimp only at h1'
  rw [hi] at h1'
  dsimp only at h1'
  have rr := r1.append (RpWL.of (hr φ1 ex H1))
  have en : dfl.length - (np + 1 - (ces.length + 1)) = dfl.length - (np - ces.length) := by omega
  rw [en] at rr
  obtain ⟨e2, S2⟩ := S1.new (o := .own x) hdx
  have hx2 : (upd H1 dx (.own x)) x = none := by rw [upd_ne hne.symm]; exact hx
  obtain ⟨e3, S3⟩ := S2.push (o := .ins (R.ca c) dx []) (c := .ins c []) hx2 fun _ => ⟨dx, [], upd_same, .nil⟩
  refine spF_w (ws := .ref s1.length :: (ws ++ (dfl.drop (dfl.length - (np - ces.length))).map .d)) ?_ S3 (.cons (RpW.last S2) (RpWL.ext (e2.trans e3) _ _ rr)) ?_
  · rw [List.length_cons, List.length_append, hl, (hr φ1 ex H1).length, List.length_drop]
    omega
  · have h4 := h1'
    cases hc : R.Φ i (.ref s1.length :: (ws ++ (dfl.drop (dfl.length - (np - ces.length))).map .d)) (s1 ++ [.ins c []]) with
    | stuck => rw [hc] at h4; exact h4
    | exc x' t => rw [hc] at h4; exact fun φ' H' od e => h4 φ' H' od ((e2.trans e3).trans e)
    | ok w t =>
      rw [hc] at h4
      simp only [Res.bind_ok] at h4
      intro v φ' H' e S' rw'
      split at h4
      · cases rw' with | d rw' =>
        cases rw'
        exact ⟨rfl, h4 _ φ' H' ((e2.trans e3).trans e) S' (RpW.ext e _ _ (RpW.last S2))⟩
      · exact h4.elim
/-! ### methods -/
theorem p_meth {m : Str} (C : XOk X R E k) (G : GOk R) (hM : ∀ c i, R.M c m = some i → (∀ ws s, R.Φ i ws s = .stuck) ∨ ∃ np, FOk X.prog X.w X.K X.mg R i np [] ∧ (∀ ws s, ws.length ≠ np → R.Φ i ws s = .stuck) ∧ 2 * i + 2 ≤ k)
    (hb : ∀ f es k p, o ≠ .Call f es k p) (hs : NoStar es) (hz : es = [] → ces = []) (hl : (apos.endLine == pos.line) = true) (hn : es.length < 20) (ho : PE X o (tD R E co)) (ha : PA X es (tA R E ces)) :
    PE X (.Call (.Attribute o m apos) es [] pos) (tD R E (.meth co m ces)) := by
  refine ⟨fun pins s σ H Q I h => ?_⟩
  have ht : eval (.Call (.Attribute o m apos) es [] pos) X.env = (do
      let ov ← eval o X.env
      standAt apos.atName
      let (f, first) ← holding [ov] (getMethod ov m (L2.plainOf o X.env))
      callWith pos f first (backTo pos (starEach es X.env)) (backToKw pos (keywordEach [] X.env))) := by
    have e1 : eval (.Call (.Attribute o m apos) es [] pos) X.env = (do
        let ov ← attributeBase o m X.env (eval o X.env)
        standAt apos.atName
        methodCall o m apos pos X.env ov (es.length + ([] : List Keyword).length) (backTo pos (starEach es X.env)) (backToKw pos (keywordEach [] X.env))) := rfl
    rw [e1, base_ne hb]
    congr 1
    funext ov
    congr 1
    funext _
    exact L2.mcall_line (few_all hs hn pos X.env) hl
  obtain ⟨φ, ex, st, env, S, N, h⟩ := h
  simp only [runE] at h
  refine PySem.W.methodCall_KW (pl := L2.plainOf o X.env) (thn (ho.run pins s σ H _ I (tD_bind mono_W S N h)) fun u s1 ⟨x, H1, I1, rx, φ1, st1, wo, S1, N1, e1, r1, h1⟩ => ?_) ht
  dsimp only at h1
  split at h1
  · rename_i n
    split at h1
    · rename_i c fs hc
      split at h1
      · rename_i i hf hi
        obtain ⟨a, dx, fv, rfl, hφ, hl, rf⟩ := S1.ins hc r1
        obtain rfl : u = Value.ref a := rx
        obtain ⟨g1, g2⟩ := G.me c m i hi
        rw [← C.hK] at g1 g2
        refine getmeth_ok I1 hl g1 g2 (rf.lookN hf) ?_
        rcases hM c i hi with hst | ⟨np, F, hne, hk⟩
        · refine call_args (F := fun _ _ _ _ => False) hs hz ha g2.kp I1 [.ref a] ?_ fun us vs s2 H2 I2 r q => q.elim
          refine tA_mono (tA_bind mono_W S1 N1 h1) fun vs H2 ⟨φ2, st2, ws, S2, N2, e2, r2, h2⟩ => ?_
          dsimp only at h2
          rw [hst] at h2
          exact h2
        obtain ⟨fd, ps, hps, Fn, hB⟩ := F.ex
        obtain ⟨ds, dvs, rv, hbi, hr⟩ := hB np (Nat.le_refl _) (by simp)
        have edv : dvs = [] := by
          have := (hr φ1 ex H1).length
          simpa using this
        subst edv
        cases rv
        refine call_args (F := fun σ vs H2 Q => spF (R.at X.base) i np (.ref a :: vs) H2 Q (E σ)) hs hz ha g2.kp I1 [.ref a] ?_
          fun us vs s2 H2 I2 r q => run_fnSD (us := .ref a :: us) (vs := .ref a :: vs) (Fn _ C.gd) (C.room.mono hk) hbi .nil (C.pass σ) I2 (.cons rfl r) (by rw [List.append_nil]; exact q)
        refine tA_len (tA_mono (tA_bind mono_W S1 N1 h1) fun vs H2 ⟨φ2, st2, ws, S2, N2, e2, r2, h2⟩ hlen => ?_)
        dsimp only at h2
        refine spF_w (ws := .ref n :: ws) ?_ S2 (.cons (RpW.ext e2 _ _ r1) r2) h2
        by_cases hz : (W.ref n :: ws).length = np
        · rw [← hz]; simp [r2.length]
        · rw [hne _ _ hz] at h2; exact h2.elim
      · exact h1.elim
    · exact h1.elim
  · exact h1.elim
end
end Cc

set_option linter.all false
set_option maxRecDepth 100000
set_option maxHeartbeats 1000000
/-! Cc: what is walked; comprehensions. -/
namespace Cc
open PySem PySem.Spec PyProof.Rows L2

/-! ### targets -/
/-- the names of a target, in their slots -/
def gNames : List Nat → L2.TGs
  | [] => gNil
  | i :: is => gCons (gName i) (gNames is)
def setAll : List Nat → List V → L2.St → L2.St
  | i :: is, v :: vs, σ => setAll is vs (σ.set i (some v))
  | _, _, σ => σ
theorem gNames_of : ∀ {is : List Nat} {vs : List V} {σ : L2.St} {H : Hp} {Q : L2.St → Hp → Prop}, vs.length = is.length → Q (setAll is vs σ) H → gNames is vs σ H Q
  | [], [], _, _, _, _, h => ⟨rfl, h⟩
  | i :: is, v :: vs, _, _, _, l, h => ⟨v, vs, rfl, gNames_of (by simpa using l) h⟩
  | [], _ :: _, _, _, _, l, _ => by simp at l
  | _ :: _, [], _, _, _, l, _ => by simp at l
def gTgt (K : PySem.W.Frag) (is : List Nat) (one : Bool) : L2.TG := match one, is with
  | true, [i] => gName i
  | true, _ => fun _ _ _ _ => False
  | false, is => gTup K is.length (gNames is)
theorem assignEach_ne {e : Expr} (h : ∀ x p, e ≠ .Starred x p) (es : List Expr) (env : PySem.Env) : assignEach (e :: es) env = (false, assign e env) :: assignEach es env := by
  cases e <;> first | rfl | exact absurd rfl (h _ _)
section
variable {X : Cx} {R : Gt}
theorem pgs_names {T : TEnv} (hN : X.N = T.N) (nd : X.N.Nodup) (hf : ∀ x, Loc T.tsc x → Loc X.env.scope x ∧ (X.fn x = true ∨ X.env.scope.names.lookup x = some .local)) : ∀ {es : List Expr} {is : List Nat}, namesOf.go T es = some is →
    PGs X es (gNames is) ∧ (assignEach es X.env).length = is.length ∧ (assignEach es X.env).findIdx? (·.1) = none
  | [], is, h => by cases h; exact ⟨pgs_nil, rfl, rfl⟩
  | e :: es, is, h => by
    cases e <;> simp only [namesOf.go] at h <;> try (cases h; done)
    rename_i x p
    cases h1 : tgtOf T x with
    | none => rw [h1] at h; cases h
    | some i =>
      cases h2 : namesOf.go T es with
      | none => rw [h1, h2] at h; cases h
      | some is' =>
        rw [h1, h2] at h
        cases h
        obtain ⟨a, b, c⟩ := pgs_names hN nd hf h2
        obtain ⟨t1, t2⟩ := tgt_of h1
        rw [← hN] at t1
        refine ⟨pgs_cons (pg_name nd t1 (hf x t2).1 (hf x t2).2) a rfl, by simp [assignEach, b], ?_⟩
        show ((false, assign (.Name x p) X.env) :: assignEach es X.env).findIdx? (·.1) = none
        rw [List.findIdx?_cons]
        simp [c]
theorem pg_tgt {T : TEnv} {tg : Expr} {is : List Nat} {one : Bool} (hN : X.N = T.N) (hc : X.calm = true) (nd : X.N.Nodup) (hf : ∀ x, Loc T.tsc x → Loc X.env.scope x ∧ (X.fn x = true ∨ X.env.scope.names.lookup x = some .local)) (h : namesOf T tg = some (is, one)) : PG X tg (gTgt X.K is one) := by
  cases tg <;> simp only [namesOf] at h <;> try (cases h; done)
  · rename_i x p
    cases h1 : tgtOf T x with
    | none => rw [h1] at h; cases h
    | some i =>
      rw [h1] at h
      cases h
      obtain ⟨t1, t2⟩ := tgt_of h1
      rw [← hN] at t1
      exact pg_name nd t1 (hf x t2).1 (hf x t2).2
  · rename_i es k p
    obtain ⟨is', h1, h2⟩ := map_of h
    cases h2
    obtain ⟨a, b, c⟩ := pgs_names hN nd hf h1
    exact pg_tup hc a b c
theorem setAll_env : ∀ {is : List Nat} {xs : List W} {vs : List V} {env : Env} {σ : L2.St} {φ : Ph} {ex : List Addr} {H : Hp}, EnvR R φ ex H env σ → RpWL R φ ex H vs xs → vs.length = is.length →
    EnvR R φ ex H ((is.zip xs).foldl (fun e p => e.set p.1 (some p.2)) env) (setAll is vs σ)
  | [], xs, vs, env, σ, _, _, _, N, r, l => by cases vs <;> exact N
  | i :: is, x :: xs, v :: vs, env, σ, _, _, _, N, r, l => by
    cases r with
    | cons r rs => exact setAll_env (is := is) (xs := xs) (vs := vs) (env := env.set i (some x)) (σ := σ.set i (some v)) (N.set r) rs (by simpa using l)
  | i :: is, [], v :: vs, env, σ, _, _, _, N, r, l => by cases r
  | i :: is, xs, [], env, σ, _, _, _, N, r, l => by simp at l
theorem fold_map : ∀ (is : List Nat) (xs : List PyData) (env : Env), (is.zip xs).foldl (fun e p => e.set p.1 (some (W.d p.2))) env = (is.zip (xs.map W.d)).foldl (fun e p => e.set p.1 (some p.2)) env
  | [], _, _ => rfl
  | _ :: _, [], _ => rfl
  | i :: is, x :: xs, env => by simp only [List.zip_cons_cons, List.map_cons, List.foldl_cons]; exact fold_map is xs _
/-- binding a target's names -/
theorem bind_of_tgt {is : List Nat} {one : Bool} {w : W} {v : V} {env env' : Env} {σ : L2.St} {φ : Ph} {ex : List Addr} {H : Hp} {Q : L2.St → Hp → Prop} (N : EnvR R φ ex H env σ) (r : RpW R φ ex H v w) (h : bindN is one w env = some env')
    (hQ : ∀ vs, σ.length = (setAll is vs σ).length → EnvR R φ ex H env' (setAll is vs σ) → Q (setAll is vs σ) H) (hl : ∀ is vs (σ : L2.St), σ.length = (setAll is vs σ).length) : gTgt R.K is one v σ H Q := by
  unfold bindN at h
  split at h
  · rename_i i
    cases h
    exact hQ [v] (hl _ _ _) (N.set r)
  · split at h
    · split at h
      · rename_i xs hlen
        cases h
        cases r with | d r =>
        cases r with
        | tup hr rl =>
          refine ⟨_, _, rfl, hr.elim (fun q => .inl q.1.rd) fun q => .inr q.old, by rw [rl.length]; exact hlen, gNames_of (by rw [rl.length]; exact hlen) (hQ _ (hl _ _ _) ?_)⟩
          rw [fold_map]
          exact setAll_env N (RpWL.of rl) (by rw [rl.length]; exact hlen)
      · cases h
    · split at h
      · rename_i ws hlen
        cases h
        cases r with
        | tup hr n rl => exact ⟨_, _, rfl, .inl hr.rd, by rw [rl.length]; exact hlen, gNames_of (by rw [rl.length]; exact hlen) (hQ _ (hl _ _ _) (setAll_env N rl (by rw [rl.length]; exact hlen)))⟩
      · cases h
    · split at h
      · rename_i i j
        cases h
        cases r with
        | pr hr n r q => exact ⟨_, _, rfl, .inl hr, rfl, gNames_of rfl (hQ _ (hl _ _ _) (setAll_env (is := [i, j]) (xs := [_, _]) N (.cons (.d r) (.cons (.d q) .nil)) rfl))⟩
      · cases h
    · cases h
  · cases h
theorem setAll_len : ∀ (is : List Nat) (vs : List V) (σ : L2.St), σ.length = (setAll is vs σ).length
  | [], _, _ => by simp [setAll]
  | _ :: _, [], _ => by simp [setAll]
  | i :: is, v :: vs, σ => by
    show σ.length = (setAll is vs (σ.set i (some v))).length
    rw [← setAll_len is vs]; simp
/-! ### wiped names -/
theorem wipe_at {σ : L2.St} {j : Nat} : ∀ {vs : List Nat}, (wipe σ vs)[j]? = if j ∈ vs ∧ j < σ.length then some none else σ[j]?
  | [] => by simp [wipe]
  | v :: vs => by
    show ((wipe σ vs).set v none)[j]? = _
    have ih := wipe_at (σ := σ) (j := j) (vs := vs)
    by_cases e : v = j
    · subst e
      by_cases l : v < σ.length
      · rw [List.getElem?_set_self (by rw [wipe_length]; exact l)]
        simp [l]
      · rw [List.set_eq_of_length_le (by rw [wipe_length]; omega), ih]
        simp [l]
    · rw [List.getElem?_set_ne e, ih]
      have : j ∈ v :: vs ↔ j ∈ vs := by
        constructor
        · intro h
          rcases List.mem_cons.mp h with h | h
          · exact absurd h.symm e
          · exact h
        · intro h; exact List.mem_cons_of_mem _ h
      simp [this]
theorem wipe_eq {σ σ' : L2.St} {vs : List Nat} (hl : σ.length = σ'.length) (h : ∀ j, j ∉ vs → σ[j]? = σ'[j]?) : wipe σ vs = wipe σ' vs := by
  apply List.ext_getElem?
  intro j
  rw [wipe_at, wipe_at, hl]
  by_cases m : j ∈ vs
  · by_cases l : j < σ'.length
    · simp [m, l]
    · simp only [m, l, and_false, if_false]
      rw [List.getElem?_eq_none (by omega), List.getElem?_eq_none (by omega)]
  · simp only [m, false_and, if_false]
    exact h j m
theorem wipe_wipe {σ : L2.St} {vs : List Nat} : wipe (wipe σ vs) vs = wipe σ vs := wipe_eq (wipe_length _ _) fun j h => by rw [wipe_at]; simp [h]
theorem setAll_out {j : Nat} : ∀ {is : List Nat} {vs : List V} {σ : L2.St}, j ∉ is → (setAll is vs σ)[j]? = σ[j]?
  | [], _, _, _ => by simp [setAll]
  | _ :: _, [], _, _ => by simp [setAll]
  | i :: is, v :: vs, σ, h => by
    show (setAll is vs (σ.set i (some v)))[j]? = _
    rw [setAll_out (fun z => h (List.mem_cons_of_mem _ z)), List.getElem?_set_ne]
    intro z; subst z; exact h List.mem_cons_self
theorem wipe_setAll {is : List Nat} {vs : List V} {σ : L2.St} {own : List Nat} (h : ∀ i ∈ is, i ∈ own) : wipe (setAll is vs (wipe σ own)) own = wipe σ own := by
  refine (wipe_eq ?_ fun j hj => ?_).trans wipe_wipe
  · rw [← setAll_len]
  · exact setAll_out fun z => hj (h j z)
theorem EnvR.wipe {φ : Ph} {ex : List Addr} {H : Hp} {env : Env} {σ : L2.St} (N : EnvR R φ ex H env σ) : ∀ own : List Nat, EnvR R φ ex H (wipeE env own) (L2.wipe σ own)
  | [] => N
  | v :: vs => by
    have ih := EnvR.wipe N vs
    refine ⟨by simp [wipeE, L2.wipe, ih.len], fun j w e => ?_⟩
    have e' : ((wipeE env vs).set v none)[j]? = some (some w) := e
    by_cases h : v = j
    · subst h
      rcases Nat.lt_or_ge v (wipeE env vs).length with l | l
      · rw [List.getElem?_set_self l] at e'; cases e'
      · rw [List.set_eq_of_length_le l] at e'
        have := (List.getElem?_eq_some_iff.mp e').1
        omega
    · rw [List.getElem?_set_ne h] at e'
      obtain ⟨u, q, r⟩ := ih.at_ j w e'
      refine ⟨u, ?_, r⟩
      show ((L2.wipe σ vs).set v none)[j]? = _
      rw [List.getElem?_set_ne h]; exact q
end
/-! ### what is walked -/
/-- the iterator J yields ws, while the walked cell stands still -/
def JOk (R : Gt) (J : It) (ws : List W) (g : Option Nat) (s0 : Store) (v : V) (w : W) (φ1 : Ph) (H1 : Hp) : Prop := ∀ φ ex H s, Ext φ1 H1 φ H → Sim R φ ex H s → RpW R φ ex H v w → still g s0 s = true →
  (∀ (i : Nat) (x : W), ws[i]? = some x → J.go i H ∧ ∀ y H', J.yld i H y H' → Ext φ H φ H' ∧ Sim R φ ex H' s ∧ (∀ a, H a ≠ none → H' a = H a) ∧ RpW R φ ex H' y x) ∧ ∀ i, ws.length ≤ i → J.stop i H
def tI (R : Gt) (E : L2.St → XK) (walk : Wk) (its : List Ex) : L2.TI := fun σ H Rr => ∃ φ ex s env, Sim R φ ex H s ∧ EnvR R φ ex H env σ ∧
  RunsTo (runEs R.Φ R.M R.CI R.FO its env s) (fun us s' => ∃ ws g, walkW walk us s' = some (ws, g) ∧ ∀ φ' H' J v w, Ext φ H φ' H' → Sim R φ' ex H' s' → RpW R φ' ex H' v w → JOk R J ws g s' v w φ' H' → Rr J H') (ExcOk R ex (E σ) φ H)
section
variable {X : Cx} {R : Gt} {E : L2.St → XK} {a b c e o tg : Expr} {ca cb cc ce co : Ex} {es : List Expr} {ces : List Ex} {pos p : Pos} {φ1 : Ph} {H1 : Hp}
theorem dEqL_iff {xs ys : List PyData} (h : dEqL xs ys = true) : xs = ys := dEqL_eq _ _ h
mutual
theorem wEq_eq : ∀ x y : W, wEq x y = true → x = y
  | .d x, y, h => by cases y <;> simp_all [wEq]; exact dEq_eq _ _ h
  | .ref n, y, h => by cases y <;> simp_all [wEq]
  | .tup ws, y, h => by cases y <;> simp_all [wEq]; exact wEqL_eq _ _ h
  | .fn i, y, h => by cases y <;> simp_all [wEq]
  | .pr _ _, y, h => by cases y <;> simp_all [wEq]
  | .fd _, y, h => by cases y <;> simp_all [wEq]
  | .clo _ _ _, y, h => by cases y <;> simp_all [wEq]
theorem wEqL_eq : ∀ x y : List W, wEqL x y = true → x = y
  | [], y, h => by cases y <;> simp_all [wEqL]
  | x :: xs, y, h => by
    cases y with
    | nil => simp_all [wEqL]
    | cons z zs =>
      simp only [wEqL, Bool.and_eq_true] at h
      rw [wEq_eq _ _ h.1, wEqL_eq _ _ h.2]
end
/-- a list walked -/
theorem jok_list (hK : X.K = R.K) {ws : List W} {g : Option Nat} {s0 : Store} {a : Addr} {w : W} (h : ∀ φ ex H s, Sim R φ ex H s → RpW R φ ex H (.ref a) w → still g s0 s = true → ∃ vs, SqL R.K H a vs ∧ RpWL R φ ex H vs ws) : JOk R (Itl X.K a) ws g s0 (.ref a) w φ1 H1 := by
  intro φ ex H s _ S r st
  obtain ⟨vs, hl, rl⟩ := h φ ex H s S r st
  rw [← hK] at hl
  refine ⟨fun i x hx => ?_, fun i hi => ⟨vs, hl, by rw [rl.length]; exact hi⟩⟩
  obtain ⟨v, hv, rv⟩ := rl.get hx
  refine ⟨⟨vs, v, hl, hv⟩, fun y H' hy => ?_⟩
  obtain ⟨rfl, hy⟩ := hy
  have := hy vs hl
  rw [hv] at this
  cases this
  exact ⟨Ext.refl _ _, S, fun _ _ => rfl, rv⟩
theorem jok_tup (hK : X.K = R.K) {ws : List W} {g : Option Nat} {s0 : Store} {a : Addr} {w : W} (h : ∀ φ ex H s, Sim R φ ex H s → RpW R φ ex H (.ref a) w → still g s0 s = true → ∃ vs, SqT R.K H a vs ∧ RpWL R φ ex H vs ws) : JOk R (Itt X.K a) ws g s0 (.ref a) w φ1 H1 := by
  intro φ ex H s _ S r st
  obtain ⟨vs, hl, rl⟩ := h φ ex H s S r st
  rw [← hK] at hl
  refine ⟨fun i x hx => ?_, fun i hi => ⟨vs, hl, by rw [rl.length]; exact hi⟩⟩
  obtain ⟨v, hv, rv⟩ := rl.get hx
  refine ⟨⟨vs, v, hl, hv⟩, fun y H' hy => ?_⟩
  obtain ⟨rfl, hy⟩ := hy
  have := hy vs hl
  rw [hv] at this
  cases this
  exact ⟨Ext.refl _ _, S, fun _ _ => rfl, rv⟩
theorem jok_str {x : Str} {s0 : Store} {v : V} {w : W} : JOk R (Its x) (x.cps.toList.map fun c => W.d (.str ⟨#[c]⟩)) none s0 v w φ1 H1 := by
  intro φ ex H s _ S r st
  refine ⟨fun i y hy => ?_, fun i hi => by show x.cps.size ≤ i; simpa using hi⟩
  rw [List.getElem?_map] at hy
  obtain ⟨c, hc, rfl⟩ := map_of hy
  have hc' : x.cps[i]? = some c := by simpa using hc
  refine ⟨?_, fun u H' hu => ?_⟩
  · have := (Array.getElem?_eq_some_iff.mp hc').1
    exact this
  · obtain ⟨rfl, c', h1, rfl⟩ := hu
    rw [hc'] at h1
    cases h1
    exact ⟨Ext.refl _ _, S, fun _ _ => rfl, .d (.str _)⟩
theorem jok_rng {lo : Int} {n : Nat} {s0 : Store} {v : V} {w : W} : JOk R (Itr lo n) ((List.range n).map fun (k : Nat) => W.d (.int (lo + (k : Nat)))) none s0 v w φ1 H1 := by
  intro φ ex H s _ S r st
  refine ⟨fun i y hy => ?_, fun i hi => by show n ≤ i; simpa using hi⟩
  rw [List.getElem?_map] at hy
  obtain ⟨k, hk, rfl⟩ := map_of hy
  have hi : i < n := by have := (List.getElem?_eq_some_iff.mp hk).1; simpa using this
  have ek : k = i := by rw [List.getElem?_range hi] at hk; cases hk; rfl
  subst ek
  refine ⟨hi, fun u H' hu => ?_⟩
  obtain ⟨rfl, rfl⟩ := hu
  exact ⟨Ext.refl _ _, S, fun _ _ => rfl, .d (.int _)⟩
theorem jok_enum (hK : X.K = R.K) {xs : List PyData} {g : Option Nat} {s0 : Store} {a : Addr} {w : W} (h : ∀ φ ex H s, Sim R φ ex H s → RpW R φ ex H (.ref a) w → still g s0 s = true → ∃ vs, SqL R.K H a vs ∧ RpL R.K φ ex H vs xs) :
    JOk R (Ite X.K a) (xs.zipIdx.map fun p => W.pr (.int (p.2 : Nat)) p.1) g s0 (.ref a) w φ1 H1 := by
  intro φ ex H s _ S r st
  obtain ⟨vs, hl, rl⟩ := h φ ex H s S r st
  rw [← hK] at hl
  refine ⟨fun i y hy => ?_, fun i hi => ⟨vs, hl, by rw [rl.length]; simpa using hi⟩⟩
  rw [List.getElem?_map] at hy
  obtain ⟨q, hq, rfl⟩ := map_of hy
  rw [List.getElem?_zipIdx] at hq
  obtain ⟨d, hd, rfl⟩ := map_of hq
  obtain ⟨v, hv, rv⟩ := rl.get hd
  refine ⟨⟨vs, v, hl, hv⟩, fun u H' hu => ?_⟩
  obtain ⟨T, x, rfl, hT, rfl, hx⟩ := hu
  have := hx vs hl
  rw [hv] at this
  cases this
  obtain ⟨e, S'⟩ := S.new (o := .tup [.int (i : Nat), v]) hT
  refine ⟨e, S', fun a ha => upd_ne fun z => ha (by rw [z]; exact hT), ?_⟩
  simp only [Nat.zero_add]
  exact .pr (.inl upd_same) (S.fresh hT) (.int _) (Rp.ext e _ _ rv)
/-- a frozen dict walked -/
theorem jok_kN {kvs : List (PyData × PyData)} {xs : List Cd.Ent} {a : Addr} {o : Obj} {s0 : Store} (h1 : H1 a = some (Cd.fzO R.P R.w a o xs)) (n1 : some a ∉ φ1) (l1 : kvs.length = xs.length) : JOk R (Cd.ItkN R.P R.w a o xs.length) (kvs.map fun p => W.d p.1) none s0 (.ref a) (.fd kvs) φ1 H1 := by
  intro φ ex H s e S r st
  have hH := e.keep a _ h1 n1 (fun ps z => HO.noConfusion z)
  refine ⟨fun i x hx => ?_, fun i hi => ⟨⟨xs, hH, rfl⟩, by simpa [l1] using hi⟩⟩
  rw [List.getElem?_map] at hx
  obtain ⟨p, hp, rfl⟩ := map_of hx
  have li := (List.getElem?_eq_some_iff.mp hp).1
  refine ⟨⟨⟨xs, hH, rfl⟩, by omega⟩, fun y H' hy => ?_⟩
  obtain ⟨rfl, hy⟩ := hy
  cases r with
  | @fd _ o' xs' _ e2 n z =>
    have eo := e2.symm.trans hH
    have e3 : H' a = some (Cd.fzO R.P R.w a o xs') := by
      rw [e2]
      have := (Option.some.inj eo)
      injection this with q1 q2
      rw [q1]
    obtain ⟨ent, he, rfl⟩ := hy _ e3
    obtain ⟨p', hp', r1, _⟩ := z.at_ he
    rw [hp] at hp'
    cases hp'
    exact ⟨Ext.refl _ _, S, fun _ _ => rfl, .d r1⟩
theorem jok_iN {kvs : List (PyData × PyData)} {xs : List Cd.Ent} {a : Addr} {o : Obj} {s0 : Store} (h1 : H1 a = some (Cd.fzO R.P R.w a o xs)) (n1 : some a ∉ φ1) (l1 : kvs.length = xs.length) : JOk R (Cd.ItiN R.P R.w a o xs.length) (kvs.map fun p => W.pr p.1 p.2) none s0 (.ref a) (.fd kvs) φ1 H1 := by
  intro φ ex H s e S r st
  have hH := e.keep a _ h1 n1 (fun ps z => HO.noConfusion z)
  refine ⟨fun i x hx => ?_, fun i hi => ⟨⟨xs, hH, rfl⟩, by simpa [l1] using hi⟩⟩
  rw [List.getElem?_map] at hx
  obtain ⟨p, hp, rfl⟩ := map_of hx
  have li := (List.getElem?_eq_some_iff.mp hp).1
  refine ⟨⟨⟨xs, hH, rfl⟩, by omega⟩, fun y H' hy => ?_⟩
  obtain ⟨T, q, v, rfl, hT, rfl, hy⟩ := hy
  cases r with
  | @fd _ o' xs' _ e2 n z =>
    have eo := e2.symm.trans hH
    have e3 : H a = some (Cd.fzO R.P R.w a o xs') := by
      rw [e2]
      have := (Option.some.inj eo)
      injection this with q1 q2
      rw [q1]
    obtain ⟨ent, he, rfl, rfl⟩ := hy _ e3
    obtain ⟨p', hp', r1, r2⟩ := z.at_ he
    rw [hp] at hp'
    cases hp'
    obtain ⟨e4, S'⟩ := S.new (o := .tup [.ref ent.2.1, ent.2.2]) hT
    exact ⟨e4, S', fun b hb => upd_ne fun z => hb (by rw [z]; exact hT), .pr (.inl upd_same) (S.fresh hT) (Rp.ext e4 _ _ r1) (Rp.ext e4 _ _ r2)⟩
/-! ### the walks by syntax -/
theorem lst_back {φ : Ph} {ex : List Addr} {H : Hp} {s s0 : Store} {n : Nat} {a : Addr} {xs : List PyData} (S : Sim R φ ex H s) (h0 : s0[n]? = some (.lst xs)) (st : still (some n) s0 s = true) (r : RpW R φ ex H (.ref a) (.ref n)) : ∃ vs, SqL R.K H a vs ∧ RpL R.K φ ex H vs xs := by
  simp only [still, h0] at st
  split at st
  · rename_i h1 h2
    cases h1
    cases dEqL_iff st
    obtain ⟨b, vs, e, _, hl, rl⟩ := S.lst h2 r
    cases e
    exact ⟨vs, .of hl, rl⟩
  · rename_i h1 h2; cases h1
  · cases st
theorem wl_back {φ : Ph} {ex : List Addr} {H : Hp} {s s0 : Store} {n : Nat} {a : Addr} {xs : List W} (S : Sim R φ ex H s) (h0 : s0[n]? = some (.wl xs)) (st : still (some n) s0 s = true) (r : RpW R φ ex H (.ref a) (.ref n)) : ∃ vs, SqL R.K H a vs ∧ RpWL R φ ex H vs xs := by
  simp only [still, h0] at st
  split at st
  · rename_i h1 h2; cases h1
  · rename_i h1 h2
    cases h1
    cases wEqL_eq _ _ st
    obtain ⟨b, vs, e, _, hl, rl⟩ := S.wl h2 r
    cases e
    exact ⟨vs, .of hl, rl⟩
  · cases st
theorem pi_seq (hK : X.K = R.K) (hP : X.prog = R.P) (hw' : X.w = R.w) (ha : PE X a (tD R E ca)) : PI X tg a (tI R E .seq [ca]) := by
  refine ⟨fun pins s σ H Rr I h => ?_⟩
  obtain ⟨φ, ex, st, env, S, N, h⟩ := h
  simp only [runEs] at h
  cases r : runE R.Φ R.M R.CI R.FO ca env st with
  | stuck => rw [r] at h; exact h.elim
  | exc x t =>
    rw [r] at h
    -- an exception: any reading will do
    exact (pi_list (tl := tD R E ca) ha).run pins s σ H Rr I ⟨φ, ex, st, env, S, N, by rw [r]; exact h⟩
  | ok w t =>
    rw [r] at h
    obtain ⟨ws, g, hw, q⟩ := h
    have lst : (∀ φ' H', Ext φ H φ' H' → Sim R φ' ex H' t → ∀ v, RpW R φ' ex H' v w → ∃ a, v = .ref a ∧ (∃ xs, SqL X.K H' a xs) ∧ JOk R (Itl X.K a) ws g t v w φ' H') → wpAny (model X.prog X.w) X.A (eval a X.env) (fun v s1 => wpAny (model X.prog X.w) X.A (pyIter v) (PIE X pins σ tg Rr) X.xe s1) X.xe s := fun hh =>
      (pi_list (tl := tD R E ca) ha).run pins s σ H Rr I ⟨φ, ex, st, env, S, N, by
        rw [r]
        intro v φ' H' e S' rv
        obtain ⟨a', rfl, hx, j⟩ := hh φ' H' e S' v rv
        exact ⟨a', rfl, hx, q φ' H' _ _ w e S' rv j⟩⟩
    have tup : (∀ φ' H', Ext φ H φ' H' → Sim R φ' ex H' t → ∀ v, RpW R φ' ex H' v w → ∃ a, v = .ref a ∧ (∃ xs, SqT X.K H' a xs) ∧ JOk R (Itt X.K a) ws g t v w φ' H') → wpAny (model X.prog X.w) X.A (eval a X.env) (fun v s1 => wpAny (model X.prog X.w) X.A (pyIter v) (PIE X pins σ tg Rr) X.xe s1) X.xe s := fun hh =>
      (pi_tup (tl := tD R E ca) ha).run pins s σ H Rr I ⟨φ, ex, st, env, S, N, by
        rw [r]
        intro v φ' H' e S' rv
        obtain ⟨a', rfl, hx, j⟩ := hh φ' H' e S' v rv
        exact ⟨a', rfl, hx, q φ' H' _ _ w e S' rv j⟩⟩
    cases w with
    | clo k o ws => simp [walkW, wSeq, items] at hw
    | fn i => simp [walkW, wSeq, items] at hw
    | pr x y => simp [walkW, wSeq, items] at hw
    | fd kvs =>
      simp only [walkW, wSeq, items] at hw
      cases hw
      exact (Cd.pi_kN (td := tD R E ca) ha).run pins s σ H Rr I ⟨φ, ex, st, env, S, N, by
        rw [r]
        intro v φ' H' e S' rv
        cases rv with
        | fd h1 n z => exact ⟨_, _, _, rfl, by rw [hP, hw']; exact h1, by rw [hP, hw']; exact q φ' H' _ _ _ e S' (.fd h1 n z) (jok_kN h1 (fun m => n (.inl m)) z.len)⟩⟩
    | ref n =>
      simp only [walkW, wSeq, items] at hw
      obtain ⟨ws', hi, e⟩ := map_of hw
      cases e
      refine lst fun φ' H' e S' v rv => ?_
      split at hi
      · rename_i xs hs
        cases hi
        obtain ⟨b, vs, rfl, _, hl, rl⟩ := S'.lst hs rv
        refine ⟨b, rfl, ⟨vs, .of hl⟩, jok_list hK fun φ2 ex2 H2 s2 S2 r2 st => ?_⟩
        obtain ⟨us, h1, h2⟩ := lst_back S2 hs st r2
        exact ⟨us, h1, RpWL.of h2⟩
      · rename_i xs hs
        cases hi
        obtain ⟨b, vs, rfl, _, hl, rl⟩ := S'.wl hs rv
        exact ⟨b, rfl, ⟨vs, .of hl⟩, jok_list hK fun φ2 ex2 H2 s2 S2 r2 st => wl_back S2 hs st r2⟩
      · cases hi
    | tup us =>
      simp only [walkW, wSeq, items] at hw
      cases hw
      refine tup fun φ' H' e S' v rv => ?_
      cases rv with
      | tup hr n rl =>
        refine ⟨_, rfl, ⟨_, .inl hr.rd⟩, jok_tup hK fun φ2 ex2 H2 s2 S2 r2 st => ?_⟩
        cases r2 with
        | tup hr n rl => exact ⟨_, .inl hr.rd, rl⟩
    | d x =>
      simp only [walkW, wSeq] at hw
      cases x <;> simp only [items] at hw <;> try (cases hw; done)
      · rename_i x
        cases hw
        exact (pi_str (te := tD R E ca) ha).run pins s σ H Rr I ⟨φ, ex, st, env, S, N, by
          rw [r]
          intro v φ' H' e S' rv
          exact ⟨x, rv.str, q φ' H' _ _ _ e S' rv jok_str⟩⟩
      · rename_i xs
        cases hw
        refine lst fun φ' H' e S' v rv => ?_
        cases rv with | d rv =>
        cases rv with
        | lst hr n rl =>
          refine ⟨_, rfl, ⟨_, .inl hr⟩, jok_list hK fun φ2 ex2 H2 s2 S2 r2 st => ?_⟩
          cases r2 with | d r2 => cases r2 with | lst hr n rl => exact ⟨_, .inl hr, RpWL.of rl⟩
      · rename_i xs
        cases hw
        refine tup fun φ' H' e S' v rv => ?_
        cases rv with | d rv =>
        cases rv with
        | tup hr rl =>
          refine ⟨_, rfl, ⟨_, by rw [hK]; exact hr.elim (fun q => .inl q.1.rd) fun q => .inr q.old⟩, jok_tup hK fun φ2 ex2 H2 s2 S2 r2 st => ?_⟩
          cases r2 with | d r2 => cases r2 with | tup hr rl => exact ⟨_, hr.elim (fun q => .inl q.1.rd) fun q => .inr q.old, RpWL.of rl⟩
theorem tI_args {walk : Wk} {σ : L2.St} {H : Hp} {Rr : It → Hp → Prop} (h : tI R E walk ces σ H Rr) : tA R E ces σ H fun vs H' => ∃ φ' ex s' us ws g, Sim R φ' ex H' s' ∧ RpWL R φ' ex H' vs us ∧ walkW walk us s' = some (ws, g) ∧ ∀ J v w, RpW R φ' ex H' v w → JOk R J ws g s' v w φ' H' → Rr J H' := by
  obtain ⟨φ, ex, st, env, S, N, h⟩ := h
  refine ⟨φ, ex, st, env, S, N, ?_⟩
  cases r : runEs R.Φ R.M R.CI R.FO ces env st with
  | stuck => rw [r] at h; exact h.elim
  | exc x t => rw [r] at h; exact h
  | ok us t =>
    rw [r] at h
    obtain ⟨ws, g, hw, q⟩ := h
    exact fun vs φ' H' e S' rv => ⟨φ', ex, t, us, ws, g, S', rv, hw, fun J v w rw j => q φ' H' J v w e S' rw j⟩
theorem piImp {iter : Expr} {w w' : L2.TI} (h : PI X tg iter w) (i : ∀ σ H Q, w' σ H Q → w σ H Q) : PI X tg iter w' := ⟨fun pins s σ H Q I q => h.run pins s σ H Q I (i σ H Q q)⟩
/-- for k, v in a.items(), a frozen -/
theorem pi_items {elts : List Expr} {kk : Nat} {tpos apos : Pos} (hP : X.prog = R.P) (hw' : X.w = R.w) (ha : PE X a (tD R E ca)) (hbase : attributeBase a "items" X.env (eval a X.env) = eval a X.env) (hline : (apos.endLine == pos.line) = true) :
    PI X (.Tuple elts kk tpos) (.Call (.Attribute a "items" apos) [] [] pos) (tI R E .items [ca]) := by
  refine piImp (Cd.pi_iN ha hbase hline) fun σ H Rr ⟨φ, ex, s, env, S, N, h⟩ => ⟨φ, ex, s, env, S, N, ?_⟩
  simp only [runEs] at h
  cases r : runE R.Φ R.M R.CI R.FO ca env s with
  | stuck => rw [r] at h; exact h.elim
  | exc x t => rw [r] at h; exact h
  | ok w t =>
    rw [r] at h
    obtain ⟨ws, g, hw, q⟩ := h
    intro v φ' H' e S' rv
    cases rv with
    | fd h1 n z =>
      simp only [walkW] at hw
      cases hw
      exact ⟨_, _, _, rfl, by rw [hP, hw']; exact h1, by rw [hP, hw']; exact q φ' H' _ _ _ e S' (.fd h1 n z) (jok_iN h1 (fun m => n (.inl m)) z.len)⟩
    | d h1 => simp only [walkW] at hw; try (cases hw)
    | ref h1 h2 => simp only [walkW] at hw; try (cases hw)
    | pr h1 h2 h3 h4 => simp only [walkW] at hw; try (cases hw)
    | tup h1 h2 h3 => simp only [walkW] at hw; try (cases hw)
    | fn i => simp only [walkW] at hw; try (cases hw)
theorem w1_of {ws : List W} {f : W → Option (List W × Option Nat)} {z : List W × Option Nat} (h : (match ws with | [w] => f w | _ => none) = some z) : ∃ w, ws = [w] ∧ f w = some z := by
  split at h
  · exact ⟨_, rfl, h⟩
  · cases h
theorem w2_of {ws : List W} {f : W → W → Option (List W × Option Nat)} {z : List W × Option Nat} (h : (match ws with | [w, u] => f w u | _ => none) = some z) : ∃ w u, ws = [w, u] ∧ f w u = some z := by
  split at h
  · exact ⟨_, _, rfl, h⟩
  · cases h
theorem pi_r1 (hs : ∀ x p, a ≠ .Starred x p) (hg : Gl X "range") (hm : X.mg "range" = none) (ha : PA X [a] (tA R E [ca])) : PI X tg (.Call (.Name "range" p) [a] [] pos) (tI R E .rng1 [ca]) :=
  piImp (pi_range1 hg hm ha (star_ne hs [] X.env)) fun σ H Rr h => tA_mono (tI_args h) fun vs H' ⟨φ', ex, s', us, ws, g, S', rv, hw, q⟩ => by
    obtain ⟨w, rfl, hw⟩ := w1_of hw
    obtain ⟨x, rfl, rx⟩ := one_of rv
    change wRng1 w = _ at hw
    unfold wRng1 at hw
    split at hw
    · split at hw
      · rename_i hz
        cases hw
        have hz := rngB_iff hz
        exact ⟨_, by rw [rx.int], hz.1, hz.2, q _ .non (.d .none) (.d .non) jok_rng⟩
      · cases hw
    · cases hw
theorem rp_rng0 {K : PySem.W.Frag} {φ : Ph} {ex : List Addr} {H : Hp} : ∀ l : List Nat, RpL K φ ex H (l.map fun i => V.int (0 + (i : Nat))) (l.map fun k => PyData.int (0 + (k : Nat)))
  | [] => .nil
  | i :: l => .cons (.int _) (rp_rng0 l)
/-- list(range(a)) -/
theorem f_lrng {p2 pos2 : Pos} (hc : X.calm = true) (hs : ∀ x p, a ≠ .Starred x p) (hg : Gl X "list") (hm : X.mg "list" = none) (hg2 : Gl X "range") (hm2 : X.mg "range" = none) (ha : PE X a (tD R E ca)) :
    PE X (.Call (.Name "list" p) [.Call (.Name "range" p2) [a] [] pos2] [] pos) (tF R E (.bf .lrng [ca])) :=
  peImp (pe_listRg hc hg hm (prg_1 hg2 hm2 ha (star_ne hs [] X.env))) fun σ H Q ⟨φ, ex, s, env, S, N, h⟩ => by
    simp only [runE, runEs, res_assoc] at h
    refine tD_mono (tD_bind mono_F S N h) fun x H1 ⟨φ1, s1, w, S1, N1, e1, r1, h1⟩ => ?_
    dsimp only [Res.bind] at h1
    obtain ⟨z, hz, q⟩ := h1.of
    obtain ⟨d, hd, rfl⟩ := map_of hz
    change bfLrng w = some d at hd
    unfold bfLrng at hd
    split at hd
    · rename_i n
      split at hd
      · rename_i hn
        cases hd
        have hn := Nat.le_of_ble_eq_true hn
        refine ⟨(n : Nat), by rw [r1.int]; rfl, RgOk.of_le (by omega) (by omega) (by omega) (by omega), fun q0 hq0 => ?_⟩
        have en : ((n : Int) - 0).toNat = n := by omega
        refine q φ1 H1 (rgV 0 (n : Nat)) q0 (Ext.refl _ _) S1 ?_ hq0
        unfold rgV
        rw [en]
        exact rp_rng0 (List.range n)
      · cases hd
    · cases hd
/-- len(set(a)) -/
theorem f_lens {p2 pos2 : Pos} (hK : X.K = R.K) (hc : X.calm = true) (hs : ∀ x p, a ≠ .Starred x p) (hg : Gl X "len") (hm : X.mg "len" = none) (hg2 : Gl X "set") (hm2 : X.mg "set" = none) (ha : PE X a (tD R E ca)) :
    PE X (.Call (.Name "len" p) [.Call (.Name "set" p2) [a] [] pos2] [] pos) (tD R E (.bf .lens [ca])) :=
  peImp (pe_lens hc hg hm hg2 hm2 ha (star_ne hs [] X.env)) fun σ H Q ⟨φ, ex, s, env, S, N, h⟩ => by
    simp only [runE, runEs, res_assoc] at h
    refine tD_mono (tD_bind mono_W S N h) fun x H1 ⟨φ1, s1, w, S1, N1, e1, r1, h1⟩ => ?_
    dsimp only [Res.bind] at h1
    obtain ⟨z, hz, q⟩ := h1.of
    obtain ⟨d, hd, rfl⟩ := map_of hz
    change bfLens s1 w = some d at hd
    unfold bfLens at hd
    obtain ⟨l, hl, hd⟩ := bind_of hd
    obtain ⟨y, hy, hl⟩ := bind_of hl
    obtain ⟨ds, hds, hl⟩ := bind_of hl
    split at hd
    · rename_i hb
      cases hd
      have hb := Nat.le_of_ble_eq_true hb
      obtain rfl : y = .list ds := by
        cases y <;> simp only [listOf] at hds <;> first | (cases hds; rfl) | cases hds
      obtain ⟨a, vs, rfl, hq, rr⟩ := sqL_of (S1.top r1 hy)
      cases strs_of rr hl
      exact ⟨a, l, rfl, hq _, by omega, q _ φ1 H1 (Ext.refl _ _) S1 (.d (.int _))⟩
    · cases hd
theorem pi_r2 (hs : ∀ x p, a ≠ .Starred x p) (hs2 : ∀ x p, b ≠ .Starred x p) (hg : Gl X "range") (hm : X.mg "range" = none) (ha : PA X [a, b] (tA R E [ca, cb])) : PI X tg (.Call (.Name "range" p) [a, b] [] pos) (tI R E .rng2 [ca, cb]) :=
  piImp (pi_range2 hg hm ha (by rw [star_ne hs, star_ne hs2]; rfl) (star_ne hs2 [] X.env)) fun σ H Rr h => tA_mono (tI_args h) fun vs H' ⟨φ', ex, s', us, ws, g, S', rv, hw, q⟩ => by
    obtain ⟨w, u, rfl, hw⟩ := w2_of hw
    obtain ⟨x, y, rfl, rx, ry⟩ := two_of rv
    change wRng2 w u = _ at hw
    unfold wRng2 at hw
    split at hw
    · split at hw
      · rename_i hz
        cases hw
        have hz := Bool.and_eq_true_iff.mp hz
        have hz1 := rngB_iff hz.1
        have hz2 := rngB_iff hz.2
        exact ⟨_, _, by rw [rx.int, ry.int], ⟨hz1.1, hz1.2, hz2.1, hz2.2⟩, q _ .non (.d .none) (.d .non) jok_rng⟩
      · cases hw
    · cases hw
theorem pi_en {elts : List Expr} {kk : Nat} {tpos : Pos} (hK : X.K = R.K) (hs : ∀ x p, a ≠ .Starred x p) (hg : Gl X "enumerate") (hm : X.mg "enumerate" = none) (ha : PA X [a] (tA R E [ca])) :
    PI X (.Tuple elts kk tpos) (.Call (.Name "enumerate" p) [a] [] pos) (tI R E .enum [ca]) :=
  piImp (pi_enum hg hm ha (star_ne hs [] X.env)) fun σ H Rr h => tA_mono (tI_args h) fun vs H' ⟨φ', ex, s', us, ws, g, S', rv, hw, q⟩ => by
    obtain ⟨w, rfl, hw⟩ := w1_of hw
    obtain ⟨x, rfl, rx⟩ := one_of rv
    change wEnum s' w = _ at hw
    unfold wEnum at hw
    split at hw
    · rename_i xs
      cases hw
      have rx' := rx
      cases rx with | d rx =>
      cases rx with
      | lst hr n rl =>
        refine ⟨_, _, rfl, .inl hr, q _ _ _ rx' (jok_enum hK fun φ2 ex2 H2 s2 S2 r2 st => ?_)⟩
        cases r2 with | d r2 => cases r2 with | lst hr n rl => exact ⟨_, .inl hr, rl⟩
    · rename_i n
      split at hw
      · rename_i xs hc
        cases hw
        obtain ⟨b, us, rfl, _, hl, rl⟩ := S'.lst hc rx
        exact ⟨b, us, rfl, .of hl, q _ _ _ rx (jok_enum hK fun φ2 ex2 H2 s2 S2 r2 st => lst_back S2 hc st r2)⟩
      · cases hw
    · cases hw
end
end Cc

set_option linter.all false
set_option maxRecDepth 100000
set_option maxHeartbeats 1000000
/-! Cc: comprehensions. -/
namespace Cc
open PySem PySem.Spec PyProof.Rows L2

section
variable {R : Gt} {K : PySem.W.Frag} {φ φ' : Ph} {ex : List Addr} {H H' : Hp} {s : Store} {D : Addr}
/-! ### an object of the loop's own beside the cells -/
theorem rd_upd {a : Addr} {u o : HO} (h : Rd H a u) (ne : a ≠ D) : Rd (upd H D o) a u := by
  rcases h with h | ⟨z, h⟩
  · exact .inl (by rw [upd_ne ne]; exact h)
  · exact .inr ⟨z, by rw [upd_ne ne]; exact h⟩
theorem tx_upd {a : Addr} {vs : List V} {o : HO} (h : Cd.TX H a vs) (ne : a ≠ D) : Cd.TX (upd H D o) a vs := let ⟨z, h, d⟩ := h; ⟨z, by rw [upd_ne ne]; exact h, d⟩
mutual
/-- facts that do not lean on D -/
theorem Rp.updEx {o : HO} (hD : D ∈ ex) : ∀ (d : PyData) (v : V), Rp K φ ex H v d → Rp K φ ex (upd H D o) v d
  | .none, _, h => by cases h; exact .non
  | .bool b, _, h => by cases h; exact .bl _
  | .int b, _, h => by cases h; exact .int _
  | .str b, _, h => by cases h; exact .str _
  | .list ds, _, h => by
    cases h with
    | lst h n r => exact .lst (rd_upd h fun z => n (.inr (by rw [z]; exact hD))) n (RpL.updEx hD ds _ r)
  | .tuple ds, _, h => by
    cases h with
    | tup h r => exact .tup (h.elim (fun q => .inl ⟨tx_upd q.1 fun z => q.2 (.inr (by rw [z]; exact hD)), q.2⟩) .inr) (RpL.updEx hD ds _ r)
  | .dict _, _, h => by cases h
theorem RpL.updEx {o : HO} (hD : D ∈ ex) : ∀ (ds : List PyData) (vs : List V), RpL K φ ex H vs ds → RpL K φ ex (upd H D o) vs ds
  | [], _, h => by cases h; exact .nil
  | d :: ds, _, h => by
    cases h with
    | cons r t => exact .cons (Rp.updEx hD d _ r) (RpL.updEx hD ds _ t)
end
mutual
theorem RpW.updEx {o : HO} (hD : D ∈ ex) : ∀ (w : W) (v : V), RpW R φ ex H v w → RpW R φ ex (upd H D o) v w
  | .d x, _, h => by cases h with | d h => exact .d (Rp.updEx hD x _ h)
  | .ref n, _, h => by cases h with | ref l h => exact .ref l h
  | .tup ws, _, h => by
    cases h with
    | tup h n r => exact .tup (tx_upd h fun z => n (.inr (by rw [z]; exact hD))) n (RpWL.updEx hD ws _ r)
  | .fn i, _, h => by cases h with | fn _ z => exact .fn i z
  | .pr x y, _, h => by cases h with | pr h n r q => exact .pr (rd_upd h fun z => n (.inr (by rw [z]; exact hD))) n (Rp.updEx hD x _ r) (Rp.updEx hD y _ q)
  | .clo _ _ _, _, h => by cases h
  | .fd _, _, h => by cases h with | fd e n r => exact .fd (by rw [upd_ne fun z => n (.inr (by rw [z]; exact hD))]; exact e) n (r.map fun d v => Rp.updEx hD d v)
theorem RpWL.updEx {o : HO} (hD : D ∈ ex) : ∀ (ws : List W) (vs : List V), RpWL R φ ex H vs ws → RpWL R φ ex (upd H D o) vs ws
  | [], _, h => by cases h; exact .nil
  | w :: ws, _, h => by
    cases h with
    | cons r t => exact .cons (RpW.updEx hD w _ r) (RpWL.updEx hD ws _ t)
end
theorem FsR.updEx {o : HO} (hD : D ∈ ex) : ∀ {vs : List (Str × V)} {ws : List (Str × W)}, FsR R φ ex H vs ws → FsR R φ ex (upd H D o) vs ws
  | _, _, .nil => .nil
  | _, _, .cons r t => .cons (RpW.updEx hD _ _ r) (FsR.updEx hD t)
theorem DnR.updEx {o : HO} (hD : D ∈ ex) : ∀ {kvs : List (PyData × W)} {xs : List Cd.Ent}, DnR R φ ex H kvs xs → DnR R φ ex (upd H D o) kvs xs
  | _, _, .nil => .nil
  | _, _, .cons h r q t => .cons h (Rp.updEx hD _ _ r) (RpW.updEx hD _ _ q) (DnR.updEx hD t)
theorem CellR.updEx {o : HO} (hD : D ∈ ex) {a : Addr} {c : Cell} (ne : a ≠ D) (h : CellR R φ ex H a c) : CellR R φ ex (upd H D o) a c := by
  cases c with
  | lst ds => obtain ⟨vs, h, r⟩ := h; exact ⟨vs, by rw [upd_ne ne]; exact h, RpL.updEx hD _ _ r⟩
  | wl ws => obtain ⟨vs, h, r⟩ := h; exact ⟨vs, by rw [upd_ne ne]; exact h, RpWL.updEx hD _ _ r⟩
  | ins c fs => obtain ⟨dx, fv, h, r⟩ := h; exact ⟨dx, fv, by rw [upd_ne ne]; exact h, FsR.updEx hD r⟩
  | dead => exact h.elim
  | dn kvs => obtain ⟨xs, h, r⟩ := h; exact ⟨xs, by rw [upd_ne ne]; exact h, DnR.updEx hD r⟩
  | dk kvs => obtain ⟨xs, h, r⟩ := h; exact ⟨xs, by rw [upd_ne ne]; exact h, FsR.updEx hD r⟩
theorem Sim.updEx {o : HO} (hD : D ∈ ex) (ho : Cel o) (S : Sim R φ ex H s) : Sim R φ ex (upd H D o) s where
  len := S.len
  cell := fun n c h => by
    rcases S.cell n c h with q | ⟨a, e, q⟩
    · exact .inl q
    · exact .inr ⟨a, e, q.updEx hD fun z => S.off D hD (by rw [← z]; exact List.mem_of_getElem? e)⟩
  one := S.one
  off := S.off
  exT := fun a ha => by
    by_cases e : a = D
    · subst e; exact ⟨o, upd_same, ho⟩
    · obtain ⟨u, h, c⟩ := S.exT a ha
      exact ⟨u, by rw [upd_ne e]; exact h, c⟩
  kn := fun q hq => ⟨by rw [upd_ne fun z => (S.kn q hq).2.1 (.inr (by rw [z]; exact hD))]; exact (S.kn q hq).1, (S.kn q hq).2⟩
  T := tabs_keep S.T fun b u h n => by
    rw [upd_ne fun z => ?_]
    · exact h
    · obtain ⟨v, hv, c⟩ := S.exT D hD
      rw [z, hv] at h
      cases h
      exact n c
theorem FnR.updEx {o : HO} (hD : D ∈ ex) {k : Nat} {f : Addr} {F : NdefX.NF} {n : Nd} (h : FnR R φ ex H k f F n) : FnR R φ ex (upd H D o) k f F n :=
  ⟨h.nd, h.is, by rw [upd_ne fun z => h.fm (.inr (by rw [z]; exact hD))]; exact h.fo, h.fm, by rw [upd_ne fun z => h.cm (.inr (by rw [z]; exact hD))]; exact h.co, h.cm⟩
theorem EntR.updEx {o : HO} (hD : D ∈ ex) {w : W} {v : V} (h : EntR R φ ex H v w) : EntR R φ ex (upd H D o) v w :=
  EntR.map (fun _ => True) (fun _ _ _ _ _ => trivial) rfl (fun w v _ r => RpW.updEx hD w v r) (fun _ _ _ _ r => r.updEx hD) trivial h
theorem EnvR.updEx {o : HO} (hD : D ∈ ex) {env : Env} {σ : L2.St} (N : EnvR R φ ex H env σ) : EnvR R φ ex (upd H D o) env σ :=
  ⟨N.len, fun i w h => let ⟨v, e, r⟩ := N.at_ i w h; ⟨v, e, r.updEx hD⟩⟩
/-- a new one beside: facts stand with it among what may change -/
theorem mu_cons {a : Addr} (h : H a ≠ none) (hD : H D = none) (n : ¬ Mu φ ex a) : ¬ Mu φ (D :: ex) a := fun z => by
  rcases z with z | z
  · exact n (.inl z)
  · rcases List.mem_cons.mp z with z | z
    · exact h (by rw [z]; exact hD)
    · exact n (.inr z)
theorem rd_there {a : Addr} {u : HO} (h : Rd H a u) : H a ≠ none := by
  rcases h with h | ⟨o, h⟩ <;> (rw [h]; exact fun z => nomatch z)
mutual
theorem Rp.addEx (hD : H D = none) : ∀ (d : PyData) (v : V), Rp K φ ex H v d → Rp K φ (D :: ex) H v d
  | .none, _, h => by cases h; exact .non
  | .bool b, _, h => by cases h; exact .bl _
  | .int b, _, h => by cases h; exact .int _
  | .str b, _, h => by cases h; exact .str _
  | .list ds, _, h => by
    cases h with
    | lst h n r => exact .lst h (mu_cons (rd_there h) hD n) (RpL.addEx hD ds _ r)
  | .tuple ds, _, h => by
    cases h with
    | tup h r => exact .tup (h.elim (fun q => .inl ⟨q.1, mu_cons (rd_there q.1.rd) hD q.2⟩) .inr) (RpL.addEx hD ds _ r)
  | .dict _, _, h => by cases h
theorem RpL.addEx (hD : H D = none) : ∀ (ds : List PyData) (vs : List V), RpL K φ ex H vs ds → RpL K φ (D :: ex) H vs ds
  | [], _, h => by cases h; exact .nil
  | d :: ds, _, h => by
    cases h with
    | cons r t => exact .cons (Rp.addEx hD d _ r) (RpL.addEx hD ds _ t)
end
mutual
theorem RpW.addEx (hD : H D = none) : ∀ (w : W) (v : V), RpW R φ ex H v w → RpW R φ (D :: ex) H v w
  | .d x, _, h => by cases h with | d h => exact .d (Rp.addEx hD x _ h)
  | .ref n, _, h => by cases h with | ref l h => exact .ref l h
  | .tup ws, _, h => by
    cases h with
    | tup h n r => exact .tup h (mu_cons (rd_there h.rd) hD n) (RpWL.addEx hD ws _ r)
  | .fn i, _, h => by cases h with | fn _ z => exact .fn i z
  | .pr x y, _, h => by cases h with | pr h n r q => exact .pr h (mu_cons (rd_there h) hD n) (Rp.addEx hD x _ r) (Rp.addEx hD y _ q)
  | .clo _ _ _, _, h => by cases h
  | .fd _, _, h => by cases h with | fd e n r => exact .fd e (mu_cons (by rw [e]; exact fun z => nomatch z) hD n) (r.map fun d v => Rp.addEx hD d v)
theorem RpWL.addEx (hD : H D = none) : ∀ (ws : List W) (vs : List V), RpWL R φ ex H vs ws → RpWL R φ (D :: ex) H vs ws
  | [], _, h => by cases h; exact .nil
  | w :: ws, _, h => by
    cases h with
    | cons r t => exact .cons (RpW.addEx hD w _ r) (RpWL.addEx hD ws _ t)
end
theorem FsR.addEx (hD : H D = none) : ∀ {vs : List (Str × V)} {ws : List (Str × W)}, FsR R φ ex H vs ws → FsR R φ (D :: ex) H vs ws
  | _, _, .nil => .nil
  | _, _, .cons r t => .cons (RpW.addEx hD _ _ r) (FsR.addEx hD t)
theorem FnR.addEx (hD : H D = none) {k : Nat} {f : Addr} {F : NdefX.NF} {n : Nd} (h : FnR R φ ex H k f F n) : FnR R φ (D :: ex) H k f F n :=
  ⟨h.nd, h.is, h.fo, mu_cons (by rw [h.fo]; exact fun z => nomatch z) hD h.fm, h.co, mu_cons (by rw [h.co]; exact fun z => nomatch z) hD h.cm⟩
theorem EntR.addEx (hD : H D = none) {w : W} {v : V} (h : EntR R φ ex H v w) : EntR R φ (D :: ex) H v w :=
  EntR.map (fun _ => True) (fun _ _ _ _ _ => trivial) rfl (fun w v _ r => RpW.addEx hD w v r) (fun _ _ _ _ r => r.addEx hD) trivial h
theorem EnvR.addEx (hD : H D = none) {env : Env} {σ : L2.St} (N : EnvR R φ ex H env σ) : EnvR R φ (D :: ex) H env σ :=
  ⟨N.len, fun i w h => let ⟨v, e, r⟩ := N.at_ i w h; ⟨v, e, r.addEx hD⟩⟩
theorem DnR.addEx (hD : H D = none) : ∀ {kvs : List (PyData × W)} {xs : List Cd.Ent}, DnR R φ ex H kvs xs → DnR R φ (D :: ex) H kvs xs
  | _, _, .nil => .nil
  | _, _, .cons h r q t => .cons h (Rp.addEx hD _ _ r) (RpW.addEx hD _ _ q) (DnR.addEx hD t)
theorem CellR.addEx (hD : H D = none) {a : Addr} {c : Cell} (h : CellR R φ ex H a c) : CellR R φ (D :: ex) H a c := by
  cases c with
  | lst ds => obtain ⟨vs, h, r⟩ := h; exact ⟨vs, h, RpL.addEx hD _ _ r⟩
  | wl ws => obtain ⟨vs, h, r⟩ := h; exact ⟨vs, h, RpWL.addEx hD _ _ r⟩
  | ins c fs => obtain ⟨dx, fv, h, r⟩ := h; exact ⟨dx, fv, h, FsR.addEx hD r⟩
  | dead => exact h.elim
  | dn kvs => obtain ⟨xs, h, r⟩ := h; exact ⟨xs, h, DnR.addEx hD r⟩
  | dk kvs => obtain ⟨xs, h, r⟩ := h; exact ⟨xs, h, FsR.addEx hD r⟩
/-- the loop's own list begins -/
theorem Sim.enter {o : HO} (ho : Cel o) (S : Sim R φ ex H s) (hD : H D = none) : Sim R φ (D :: ex) (upd H D o) s where
  len := S.len
  cell := fun n c h => by
    rcases S.cell n c h with q | ⟨a, e, q⟩
    · exact .inl q
    · refine .inr ⟨a, e, (q.addEx hD).updEx List.mem_cons_self fun z => ?_⟩
      obtain ⟨u, hu, _⟩ := q.there
      rw [z, hD] at hu; cases hu
  one := S.one
  off := fun a ha z => by
    rcases List.mem_cons.mp ha with e | ha
    · subst e
      obtain ⟨u, hu, _⟩ := S.mem z
      rw [hD] at hu; cases hu
    · exact S.off a ha z
  exT := fun a ha => by
    by_cases e : a = D
    · subst e; exact ⟨o, upd_same, ho⟩
    · rcases List.mem_cons.mp ha with e2 | ha
      · exact absurd e2 e
      · obtain ⟨u, h, c⟩ := S.exT a ha
        exact ⟨u, by rw [upd_ne e]; exact h, c⟩
  kn := fun q hq => by
    have hne : q.1 ≠ D := fun z => by
      have := (S.kn q hq).1
      rw [z, hD] at this; cases this
    refine ⟨by rw [upd_ne hne]; exact (S.kn q hq).1, fun z => ?_, (S.kn q hq).2.2⟩
    rcases z with z | z
    · exact (S.kn q hq).2.1 (.inl z)
    · rcases List.mem_cons.mp z with z | z
      · exact hne z
      · exact (S.kn q hq).2.1 (.inr z)
  T := tabs_keep S.T fun b u h _ => by rw [upd_ne (ne_of_none h hD)]; exact h
/-- .. and goes: what is left without it -/
def rmv (H : Hp) (D : Addr) : Hp := fun b => if b = D then none else H b
theorem rmv_ne {a : Addr} (h : a ≠ D) : rmv H D a = H a := by unfold rmv; rw [if_neg h]
theorem rmv_same : rmv H D D = none := by unfold rmv; rw [if_pos rfl]
theorem upd_rmv {o : HO} (h : H D = some o) : upd (rmv H D) D o = H := by
  funext b
  by_cases e : b = D
  · subst e; rw [upd_same, h]
  · rw [upd_ne e, rmv_ne e]
theorem rd_rmv {a : Addr} {u : HO} (h : Rd H a u) (ne : a ≠ D) : Rd (rmv H D) a u := by
  rcases h with h | ⟨z, h⟩
  · exact .inl (by rw [rmv_ne ne]; exact h)
  · exact .inr ⟨z, by rw [rmv_ne ne]; exact h⟩
theorem mu_less {a : Addr} (n : ¬ Mu φ (D :: ex) a) : ¬ Mu φ ex a ∧ a ≠ D := ⟨fun z => n (z.elim .inl fun z => .inr (List.mem_cons_of_mem _ z)), fun z => n (.inr (by rw [z]; exact List.mem_cons_self))⟩
theorem tx_rmv {a : Addr} {vs : List V} (h : Cd.TX H a vs) (ne : a ≠ D) : Cd.TX (rmv H D) a vs := let ⟨z, h, d⟩ := h; ⟨z, by rw [rmv_ne ne]; exact h, d⟩
mutual
theorem Rp.leave : ∀ (d : PyData) (v : V), Rp K φ (D :: ex) H v d → Rp K φ ex (rmv H D) v d
  | .none, _, h => by cases h; exact .non
  | .bool b, _, h => by cases h; exact .bl _
  | .int b, _, h => by cases h; exact .int _
  | .str b, _, h => by cases h; exact .str _
  | .list ds, _, h => by
    cases h with
    | lst h n r => exact .lst (rd_rmv h (mu_less n).2) (mu_less n).1 (RpL.leave ds _ r)
  | .tuple ds, _, h => by
    cases h with
    | tup h r => exact .tup (h.elim (fun q => .inl ⟨tx_rmv q.1 (mu_less q.2).2, (mu_less q.2).1⟩) .inr) (RpL.leave ds _ r)
  | .dict _, _, h => by cases h
theorem RpL.leave : ∀ (ds : List PyData) (vs : List V), RpL K φ (D :: ex) H vs ds → RpL K φ ex (rmv H D) vs ds
  | [], _, h => by cases h; exact .nil
  | d :: ds, _, h => by
    cases h with
    | cons r t => exact .cons (Rp.leave d _ r) (RpL.leave ds _ t)
end
mutual
theorem RpW.leave : ∀ (w : W) (v : V), RpW R φ (D :: ex) H v w → RpW R φ ex (rmv H D) v w
  | .d x, _, h => by cases h with | d h => exact .d (Rp.leave x _ h)
  | .ref n, _, h => by cases h with | ref l h => exact .ref l h
  | .tup ws, _, h => by
    cases h with
    | tup h n r => exact .tup (tx_rmv h (mu_less n).2) (mu_less n).1 (RpWL.leave ws _ r)
  | .fn i, _, h => by cases h with | fn _ z => exact .fn i z
  | .pr x y, _, h => by cases h with | pr h n r q => exact .pr (rd_rmv h (mu_less n).2) (mu_less n).1 (Rp.leave x _ r) (Rp.leave y _ q)
  | .clo _ _ _, _, h => by cases h
  | .fd _, _, h => by cases h with | fd e n r => exact .fd (by rw [rmv_ne (mu_less n).2]; exact e) (mu_less n).1 (r.map fun d v => Rp.leave d v)
theorem RpWL.leave : ∀ (ws : List W) (vs : List V), RpWL R φ (D :: ex) H vs ws → RpWL R φ ex (rmv H D) vs ws
  | [], _, h => by cases h; exact .nil
  | w :: ws, _, h => by
    cases h with
    | cons r t => exact .cons (RpW.leave w _ r) (RpWL.leave ws _ t)
end
theorem FsR.leave : ∀ {vs : List (Str × V)} {ws : List (Str × W)}, FsR R φ (D :: ex) H vs ws → FsR R φ ex (rmv H D) vs ws
  | _, _, .nil => .nil
  | _, _, .cons r t => .cons (RpW.leave _ _ r) (FsR.leave t)
theorem DnR.leave : ∀ {kvs : List (PyData × W)} {xs : List Cd.Ent}, DnR R φ (D :: ex) H kvs xs → DnR R φ ex (rmv H D) kvs xs
  | _, _, .nil => .nil
  | _, _, .cons h r q t => .cons h (Rp.leave _ _ r) (RpW.leave _ _ q) (DnR.leave t)
theorem CellR.leave {a : Addr} {c : Cell} (ne : a ≠ D) (h : CellR R φ (D :: ex) H a c) : CellR R φ ex (rmv H D) a c := by
  cases c with
  | lst ds => obtain ⟨vs, h, r⟩ := h; exact ⟨vs, by rw [rmv_ne ne]; exact h, RpL.leave _ _ r⟩
  | wl ws => obtain ⟨vs, h, r⟩ := h; exact ⟨vs, by rw [rmv_ne ne]; exact h, RpWL.leave _ _ r⟩
  | ins c fs => obtain ⟨dx, fv, h, r⟩ := h; exact ⟨dx, fv, by rw [rmv_ne ne]; exact h, FsR.leave r⟩
  | dead => exact h.elim
  | dn kvs => obtain ⟨xs, h, r⟩ := h; exact ⟨xs, by rw [rmv_ne ne]; exact h, DnR.leave r⟩
  | dk kvs => obtain ⟨xs, h, r⟩ := h; exact ⟨xs, by rw [rmv_ne ne]; exact h, FsR.leave r⟩
theorem Sim.leave (hx : D ∉ ex) (S : Sim R φ (D :: ex) H s) : Sim R φ ex (rmv H D) s where
  len := S.len
  cell := fun n c h => by
    rcases S.cell n c h with q | ⟨a, e, q⟩
    · exact .inl q
    · exact .inr ⟨a, e, q.leave fun z => S.off D List.mem_cons_self (by rw [← z]; exact List.mem_of_getElem? e)⟩
  one := S.one
  off := fun a ha => S.off a (List.mem_cons_of_mem _ ha)
  exT := fun a ha => by
    obtain ⟨u, h, c⟩ := S.exT a (List.mem_cons_of_mem _ ha)
    exact ⟨u, by rw [rmv_ne fun z => hx (by rw [← z]; exact ha)]; exact h, c⟩
  kn := fun q hq => ⟨by rw [rmv_ne fun z => (S.kn q hq).2.1 (.inr (by rw [z]; exact List.mem_cons_self))]; exact (S.kn q hq).1, fun z => (S.kn q hq).2.1 (z.elim .inl fun z => .inr (List.mem_cons_of_mem _ z)), (S.kn q hq).2.2⟩
  T := tabs_keep S.T fun b u h n => by
    rw [rmv_ne fun z => ?_]
    · exact h
    · obtain ⟨v, hv, c⟩ := S.exT D List.mem_cons_self
      rw [z, hv] at h
      cases h
      exact n c
theorem Ext.updD {o : HO} (e : Ext φ H φ' H') (hD : H D = none) : Ext φ H φ' (upd H' D o) :=
  ⟨fun a u h n t => by rw [upd_ne (ne_of_none h hD)]; exact e.keep a u h n t, fun a h => e.any a (NdefX.upd_none h), e.new, e.len, e.pre⟩
theorem Ext.rmvD (e : Ext φ H φ' H') (hD : H D = none) : Ext φ H φ' (rmv H' D) :=
  ⟨fun a u h n t => by rw [rmv_ne (ne_of_none h hD)]; exact e.keep a u h n t, fun a h => by
    by_cases z : a = D
    · rw [z]; exact hD
    · rw [rmv_ne z] at h; exact e.any a h, e.new, e.len, e.pre⟩
/-! ### a turn's cells dropped -/
theorem Ext.take {n : Nat} (e : Ext φ H φ' H') (hn : n = φ.length) : Ext φ H (φ'.take n) H' where
  keep := e.keep
  any := e.any
  new := fun a z => e.new a (List.mem_of_mem_take z)
  len := by
    rw [List.length_take, hn]
    exact Nat.le_min.mpr ⟨Nat.le_refl _, e.len⟩
  pre := fun m a l h => by
    rw [List.getElem?_take] at h
    split at h
    · exact e.pre m a l h
    · cases h
theorem mu_take {n : Nat} {a : Addr} (h : Mu (φ.take n) ex a) : Mu φ ex a := h.elim (fun z => .inl (List.mem_of_mem_take z)) .inr
theorem Rp.take {n : Nat} {v : V} {d : PyData} (r : Rp K φ ex H v d) : Rp K (φ.take n) ex H v d := Rp.weaken (fun a o _ z => mu_take z) _ _ r
theorem RpL.takeφ {n : Nat} {v : List V} {d : List PyData} (r : RpL K φ ex H v d) : RpL K (φ.take n) ex H v d := RpL.weaken (fun a o _ z => mu_take z) _ _ r
mutual
theorem RpW.takeφ {n : Nat} (hn : n ≤ φ.length) : ∀ (w : W) (v : V), w.lo n = true → RpW R φ ex H v w → RpW R (φ.take n) ex H v w
  | .d x, _, _, h => by cases h with | d h => exact .d h.take
  | .ref k, _, l, h => by
    cases h with
    | ref l2 h =>
      have lk : k < n := by simpa [W.lo] using l
      refine .ref (by rw [List.length_take]; omega) fun a e => h a ?_
      rw [List.getElem?_take, if_pos lk] at e; exact e
  | .tup ws, _, l, h => by
    cases h with
    | tup h m r => exact .tup h (fun z => m (mu_take z)) (RpWL.takeφ hn ws _ (by simpa [W.lo] using l) r)
  | .fn i, _, _, h => by cases h with | fn _ z => exact .fn i z
  | .pr x y, _, _, h => by cases h with | pr h m r q => exact .pr h (fun z => m (mu_take z)) r.take q.take
  | .clo _ _ _, _, _, h => by cases h
  | .fd _, _, _, h => by cases h with | fd e m r => exact .fd e (fun z => m (mu_take z)) (r.map fun d v q => Rp.take q)
theorem RpWL.takeφ {n : Nat} (hn : n ≤ φ.length) : ∀ (ws : List W) (vs : List V), W.loL n ws = true → RpWL R φ ex H vs ws → RpWL R (φ.take n) ex H vs ws
  | [], _, _, h => by cases h; exact .nil
  | w :: ws, _, l, h => by
    simp only [W.loL, Bool.and_eq_true] at l
    cases h with
    | cons r t => exact .cons (RpW.takeφ hn w _ l.1 r) (RpWL.takeφ hn ws _ l.2 t)
end
theorem FsR.takeφ {n : Nat} (hn : n ≤ φ.length) : ∀ {vs : List (Str × V)} {ws : List (Str × W)}, (ws.all fun p => p.2.lo n) = true → FsR R φ ex H vs ws → FsR R (φ.take n) ex H vs ws
  | _, _, _, .nil => .nil
  | _, _, l, .cons r t => by
    simp only [List.all_cons, Bool.and_eq_true] at l
    exact .cons (RpW.takeφ hn _ _ l.1 r) (FsR.takeφ hn l.2 t)
theorem DnR.takeφ {n : Nat} (hn : n ≤ φ.length) : ∀ {kvs : List (PyData × W)} {xs : List Cd.Ent}, (kvs.all fun p => p.2.lo n) = true → DnR R φ ex H kvs xs → DnR R (φ.take n) ex H kvs xs
  | _, _, _, .nil => .nil
  | _, _, l, .cons h r q t => by
    simp only [List.all_cons, Bool.and_eq_true] at l
    exact .cons h (Rp.weaken (fun a o _ z => mu_take z) _ _ r) (RpW.takeφ hn _ _ l.1 q) (DnR.takeφ hn l.2 t)
theorem CellR.takeφ {n : Nat} (hn : n ≤ φ.length) {a : Addr} {c : Cell} (l : c.lo n = true) (h : CellR R φ ex H a c) : CellR R (φ.take n) ex H a c := by
  cases c with
  | lst ds => obtain ⟨vs, h, r⟩ := h; exact ⟨vs, h, r.takeφ⟩
  | wl ws => obtain ⟨vs, h, r⟩ := h; exact ⟨vs, h, RpWL.takeφ hn _ _ l r⟩
  | ins c fs => obtain ⟨dx, fv, h, r⟩ := h; exact ⟨dx, fv, h, FsR.takeφ hn l r⟩
  | dead => exact h.elim
  | dn kvs => obtain ⟨xs, h, r⟩ := h; exact ⟨xs, h, DnR.takeφ hn l r⟩
  | dk kvs => obtain ⟨xs, h, r⟩ := h; exact ⟨xs, h, FsR.takeφ hn l r⟩
theorem Sim.takeφ {n : Nat} (hn : n ≤ φ.length) (S : Sim R φ ex H s) (l : (s.take n).all (Cell.lo n) = true) : Sim R (φ.take n) ex H (s.take n) where
  len := by rw [List.length_take, List.length_take, S.len]
  cell := fun m c h => by
    have lc : c.lo n = true := List.all_eq_true.mp l c (List.mem_of_getElem? h)
    rw [List.getElem?_take] at h
    split at h
    · rename_i hm
      rcases S.cell m c h with ⟨q, q2⟩ | ⟨a, e, q⟩
      · exact .inl ⟨q, by rw [List.getElem?_take, if_pos hm]; exact q2⟩
      · exact .inr ⟨a, by rw [List.getElem?_take, if_pos hm]; exact e, q.takeφ hn lc⟩
    · cases h
  one := fun i j a h1 h2 => by
    rw [List.getElem?_take] at h1 h2
    split at h1 <;> split at h2 <;> first | exact S.one i j a h1 h2 | cases h1 | cases h2
  off := fun a ha z => S.off a ha (List.mem_of_mem_take z)
  exT := S.exT
  kn := fun q hq => ⟨(S.kn q hq).1, fun z => (S.kn q hq).2.1 (z.elim (fun z => .inl (List.mem_of_mem_take z)) .inr), (S.kn q hq).2.2⟩
  T := S.T
theorem loL_mem {n : Nat} : ∀ {ws : List W}, W.loL n ws = true → ∀ w ∈ ws, w.lo n = true
  | [], _, w, h => by simp at h
  | x :: ws, l, w, h => by
    simp only [W.loL, Bool.and_eq_true] at l
    rcases List.mem_cons.mp h with rfl | h
    · exact l.1
    · exact loL_mem l.2 w h
theorem FnR.takeφ {n : Nat} {k : Nat} {f : Addr} {F : NdefX.NF} {d : Nd} (h : FnR R φ ex H k f F d) : FnR R (φ.take n) ex H k f F d :=
  ⟨h.nd, h.is, h.fo, fun z => h.fm (mu_take z), h.co, fun z => h.cm (mu_take z)⟩
theorem EntR.takeφ {n : Nat} (hn : n ≤ φ.length) {w : W} {v : V} (l : w.lo n = true) (h : EntR R φ ex H v w) : EntR R (φ.take n) ex H v w :=
  EntR.map (fun w => w.lo n = true) (fun k ws l w hw => loL_mem (by simpa [W.lo] using l) w hw) rfl (fun w v l r => RpW.takeφ hn w v l r) (fun _ _ _ _ r => r.takeφ) l h
theorem EnvR.takeφ {n : Nat} (hn : n ≤ φ.length) {env : Env} {σ : L2.St} (N : EnvR R φ ex H env σ) : EnvR R (φ.take n) ex H (env.map (dropRef n)) σ := by
  refine ⟨by simp [N.len], fun i w h => ?_⟩
  rw [List.getElem?_map] at h
  obtain ⟨o, ho, e⟩ := map_of h
  cases o with
  | none => cases e
  | some u =>
    simp only [dropRef] at e
    split at e
    · rename_i l
      cases e
      obtain ⟨v, q, r⟩ := N.at_ i _ ho
      exact ⟨v, q, r.takeφ hn l⟩
    · cases e
end
end Cc

set_option linter.all false
set_option maxRecDepth 100000
set_option maxHeartbeats 1000000
/-! Cc: a comprehension by the interpreter. -/
namespace Cc
open PySem PySem.Spec PyProof.Rows L2

def never : L2.St → XK := fun _ _ _ _ => False
/-- a block's tests -/
def tCt (R : Gt) : Option Bx → L2.TT
  | none => tYes
  | some b => tT R never b
section
variable {R : Gt} {φ φ' φ1 : Ph} {ex : List Addr} {H H' H1 : Hp} {s s1 : Store} {D : Addr}
mutual
theorem RpW.low : ∀ (w : W) (v : V), RpW R φ ex H v w → w.lo φ.length = true
  | .d x, _, _ => rfl
  | .ref k, _, h => by cases h with | ref l h => simpa [W.lo] using l
  | .tup ws, _, h => by
    cases h with
    | tup h m r => simpa [W.lo] using RpWL.low ws _ r
  | .fn i, _, _ => rfl
  | .pr _ _, _, _ => rfl
  | .fd _, _, _ => rfl
  | .clo _ _ _, _, h => by cases h
theorem RpWL.low : ∀ (ws : List W) (vs : List V), RpWL R φ ex H vs ws → W.loL φ.length ws = true
  | [], _, _ => rfl
  | w :: ws, _, h => by
    cases h with
    | cons r t => simp [W.loL, RpW.low w _ r, RpWL.low ws _ t]
end
theorem low_list {n : Nat} : ∀ {ws : List W}, (∀ w ∈ ws, w.lo n = true) → W.loL n ws = true
  | [], _ => rfl
  | w :: ws, h => by simp [W.loL, h w (by simp), low_list (ws := ws) fun x hx => h x (by simp [hx])]
mutual
theorem RpA.low : ∀ (w : W) (v : V), RpA R φ ex H v w → w.lo φ.length = true
  | .clo k none ws, v, h => by
    cases h with
    | w h => cases h
    | clo a b c => simpa [W.lo] using RpAL.low ws _ c
  | .clo k (some js) ws, v, h => by cases h with | w h => cases h
  | .d x, v, h => by cases h with | w h => exact RpW.low _ _ h
  | .ref n, v, h => by cases h with | w h => exact RpW.low _ _ h
  | .tup ws, v, h => by cases h with | w h => exact RpW.low _ _ h
  | .fn i, v, h => by cases h with | w h => exact RpW.low _ _ h
  | .pr x y, v, h => by cases h with | w h => exact RpW.low _ _ h
  | .fd x, v, h => by cases h with | w h => exact RpW.low _ _ h
theorem RpAL.low : ∀ (ws : List W) (vs : List V), RpAL R φ ex H vs ws → W.loL φ.length ws = true
  | [], _, _ => rfl
  | w :: ws, _, h => by
    cases h with
    | cons r t => simp [W.loL, RpA.low w _ r, RpAL.low ws _ t]
end
theorem EntR.low {w : W} {v : V} (h : EntR R φ ex H v w) : w.lo φ.length = true := by
  rcases h with h | ⟨k, js, rfl, _⟩
  · exact RpA.low w v h
  · rfl
theorem lo_pure {n : Nat} : ∀ {ws : List W}, ws.all isPure = true → W.loL n ws = true
  | [], _ => rfl
  | .d x :: ws, h => by simp only [W.loL, W.lo, Bool.true_and]; exact lo_pure (by simpa [isPure] using h)
  | .ref _ :: _, h => by simp [isPure] at h
  | .tup _ :: _, h => by simp [isPure] at h
  | .fn _ :: _, h => by simp [isPure] at h
theorem EnvR.take {n : Nat} (hn : n ≤ φ.length) {env : Env} {σ : L2.St} (hl : ∀ (i : Nat) (w : W), env[i]? = some (some w) → w.lo n = true) (N : EnvR R φ ex H env σ) : EnvR R (φ.take n) ex H env σ :=
  ⟨N.len, fun i w h => let ⟨v, e, r⟩ := N.at_ i w h; ⟨v, e, r.takeφ hn (hl i w h)⟩⟩
theorem mu_more {a : Addr} (n : ¬ Mu φ (D :: ex) a) : ¬ Mu φ ex a := (mu_less n).1
theorem Rp.less {K : PySem.W.Frag} {d : PyData} {v : V} (r : Rp K φ (D :: ex) H v d) : Rp K φ ex H v d := Rp.weaken (fun a o _ z => z.elim .inl fun z => .inr (List.mem_cons_of_mem _ z)) _ _ r
theorem RpL.less {K : PySem.W.Frag} {d : List PyData} {v : List V} (r : RpL K φ (D :: ex) H v d) : RpL K φ ex H v d := RpL.weaken (fun a o _ z => z.elim .inl fun z => .inr (List.mem_cons_of_mem _ z)) _ _ r
mutual
theorem RpW.less : ∀ (w : W) (v : V), RpW R φ (D :: ex) H v w → RpW R φ ex H v w
  | .d x, _, h => by cases h with | d h => exact .d h.less
  | .ref n, _, h => by cases h with | ref l h => exact .ref l h
  | .tup ws, _, h => by
    cases h with
    | tup h n r => exact .tup h (mu_more n) (RpWL.less ws _ r)
  | .fn i, _, h => by cases h with | fn _ z => exact .fn i z
  | .pr x y, _, h => by cases h with | pr h n r q => exact .pr h (fun z => n (z.elim .inl fun z => .inr (List.mem_cons_of_mem _ z))) r.less q.less
  | .fd _, _, h => by cases h with | fd e n r => exact .fd e (mu_more n) (r.map fun d v q => q.less)
  | .clo _ _ _, _, h => by cases h
theorem RpWL.less : ∀ (ws : List W) (vs : List V), RpWL R φ (D :: ex) H vs ws → RpWL R φ ex H vs ws
  | [], _, h => by cases h; exact .nil
  | w :: ws, _, h => by
    cases h with
    | cons r t => exact .cons (RpW.less w _ r) (RpWL.less ws _ t)
end
theorem FsR.less : ∀ {vs : List (Str × V)} {ws : List (Str × W)}, FsR R φ (D :: ex) H vs ws → FsR R φ ex H vs ws
  | _, _, .nil => .nil
  | _, _, .cons r t => .cons (RpW.less _ _ r) (FsR.less t)
theorem DnR.less : ∀ {kvs : List (PyData × W)} {xs : List Cd.Ent}, DnR R φ (D :: ex) H kvs xs → DnR R φ ex H kvs xs
  | _, _, .nil => .nil
  | _, _, .cons h r q t => .cons h r.less (RpW.less _ _ q) (DnR.less t)
theorem Sim.less (S : Sim R φ (D :: ex) H s) : Sim R φ ex H s :=
  ⟨S.len, fun n c h => by
    rcases S.cell n c h with q | ⟨a, e, q⟩
    · exact .inl q
    · refine .inr ⟨a, e, ?_⟩
      cases c with
      | lst ds => obtain ⟨vs, h, r⟩ := q; exact ⟨vs, h, r.less⟩
      | wl ws => obtain ⟨vs, h, r⟩ := q; exact ⟨vs, h, RpWL.less _ _ r⟩
      | ins c fs => obtain ⟨dx, fv, h, r⟩ := q; exact ⟨dx, fv, h, FsR.less r⟩
      | dn kvs => obtain ⟨xs, h, r⟩ := q; exact ⟨xs, h, DnR.less r⟩
      | dk kvs => obtain ⟨xs, h, r⟩ := q; exact ⟨xs, h, FsR.less r⟩
      | dead => exact q.elim, S.one, fun a ha => S.off a (List.mem_cons_of_mem _ ha), fun a ha => S.exT a (List.mem_cons_of_mem _ ha), fun q hq => ⟨(S.kn q hq).1, fun z => (S.kn q hq).2.1 (z.elim .inl fun z => .inr (List.mem_cons_of_mem _ z)), (S.kn q hq).2.2⟩, S.T⟩
/-- a loop's standing point -/
structure LI (R : Gt) (φ1 : Ph) (ex : List Addr) (H1 : Hp) (D : Addr) (σ : L2.St) (env : Env) (v0 : V) (w0 : W) (gc : Bool) (φ : Ph) (s : Store) (acc : List W) (vs : List V) (H : Hp) : Prop where
  S : Sim R φ (D :: ex) H s
  N : EnvR R φ (D :: ex) H env σ
  r0 : RpW R φ (D :: ex) H v0 w0
  hd : H D = some (.lst vs)
  ra : RpWL R φ (D :: ex) H vs acc
  e : Ext φ1 H1 φ H
  gcp : gc = true → acc.all isPure = true
variable {σ : L2.St} {env : Env} {v0 : V} {w0 : W} {gc : Bool} {acc : List W} {vs : List V}
/-- a turn's end: cells dropped or not, something pushed or not -/
theorem LI.turn (L : LI R φ1 ex H1 D σ env v0 w0 gc φ s acc vs H) (hD : H1 D = none) (hs1 : φ1.length = s1.length) (N1 : EnvR R φ1 ex H1 env σ) (r1 : RpW R φ1 ex H1 v0 w0) {φ4 : Ph} {H4 : Hp} {s3 s4 : Store} (e : Ext φ H φ4 H4) (S4 : Sim R φ4 (D :: ex) H4 s3)
    {u : Env} (ht : turnEnd gc s1.length [] s3 = some (u, s4)) : ∃ φ5, LI R φ1 ex H1 D σ env v0 w0 gc φ5 s4 acc vs H4 ∧ (∀ v w, RpW R φ4 (D :: ex) H4 v w → (gc = true → isPure w = true) → RpW R φ5 (D :: ex) H4 v w) := by
  have hd4 : H4 D = some (.lst vs) := e.keep D _ L.hd (L.S.off D List.mem_cons_self) (fun ps z => HO.noConfusion z)
  unfold turnEnd at ht
  cases gc with
  | false =>
    simp only [Bool.false_eq_true, if_false] at ht
    cases ht
    exact ⟨φ4, ⟨S4, L.N.ext e, RpW.ext e _ _ L.r0, hd4, RpWL.ext e _ _ L.ra, L.e.trans e, fun z => by cases z⟩, fun v w r _ => r⟩
  | true =>
    simp only [if_true, gcE] at ht
    split at ht
    · rename_i hl
      cases ht
      have hn : s1.length ≤ φ4.length := by rw [← hs1]; exact (L.e.trans e).len
      refine ⟨φ4.take s1.length, ⟨S4.takeφ hn hl, (L.N.ext e).take hn fun i w h => ?_, RpW.takeφ hn _ _ ?_ (RpW.ext e _ _ L.r0), hd4, RpWL.takeφ hn _ _ (lo_pure (L.gcp rfl)) (RpWL.ext e _ _ L.ra), (L.e.trans e).take hs1.symm, L.gcp⟩, fun v w r hp => ?_⟩
      · obtain ⟨v, _, r⟩ := N1.at_ i w h
        rw [← hs1]; exact EntR.low r
      · rw [← hs1]; exact RpW.low _ _ r1
      · have := hp rfl
        cases w <;> simp only [isPure] at this <;> first | (cases this; done) | skip
        exact RpW.takeφ hn _ _ rfl r
    · cases ht
theorem LI.push (L : LI R φ1 ex H1 D σ env v0 w0 gc φ s acc vs H) (hD : H1 D = none) {y : V} {w : W} (r : RpW R φ (D :: ex) H y w) (hp : gc = true → isPure w = true) :
    LI R φ1 ex H1 D σ env v0 w0 gc φ s (acc ++ [w]) (vs ++ [y]) (upd H D (.lst (vs ++ [y]))) where
  S := L.S.updEx List.mem_cons_self trivial
  N := L.N.updEx List.mem_cons_self
  r0 := RpW.updEx List.mem_cons_self _ _ L.r0
  hd := upd_same
  ra := RpWL.updEx List.mem_cons_self _ _ (L.ra.append (.cons r .nil))
  e := L.e.updD hD
  gcp := fun z => by simp [L.gcp z, hp z]
theorem LI.yld (L : LI R φ1 ex H1 D σ env v0 w0 gc φ s acc vs H) (e : Ext φ H φ H') (S' : Sim R φ (D :: ex) H' s) : LI R φ1 ex H1 D σ env v0 w0 gc φ s acc vs H' where
  S := S'
  N := L.N.ext e
  r0 := RpW.ext e _ _ L.r0
  hd := e.keep D _ L.hd (L.S.off D List.mem_cons_self) (fun ps z => HO.noConfusion z)
  ra := RpWL.ext e _ _ L.ra
  e := L.e.trans e
  gcp := L.gcp
theorem LI.start (S1 : Sim R φ1 ex H1 s1) (N1 : EnvR R φ1 ex H1 env σ) (r1 : RpW R φ1 ex H1 v0 w0) (hD : H1 D = none) : LI R φ1 ex H1 D σ env v0 w0 gc φ1 s1 [] [] (upd H1 D (.lst [])) where
  S := S1.enter trivial hD
  N := (N1.addEx hD).updEx List.mem_cons_self
  r0 := RpW.updEx List.mem_cons_self _ _ (RpW.addEx hD _ _ r1)
  hd := upd_same
  ra := .nil
  e := (Ext.refl _ _).updD hD
  gcp := fun _ => rfl
/-- the end: the list as data, or as a cell -/
theorem LI.done (L : LI R φ1 ex H1 D σ env v0 w0 gc φ s acc vs H) (hx : D ∉ ex) (hD : H1 D = none) {cell : Bool} {Q : VK} {xc : Exn → Store → Prop} (h : RunsTo (compEnd cell acc s) (RetW R ex Q φ1 H1) xc) : Q (.ref D) H := by
  unfold compEnd at h
  have eL : Ext φ1 H1 φ (rmv H D) := L.e.rmvD hD
  have cellR : ∀ c, (∃ ws, c = .wl ws ∧ ws = acc) ∨ (∃ xs, c = .lst xs ∧ acc = xs.map .d) → RetW R ex Q φ1 H1 (.ref s.length) (s ++ [c]) → Q (.ref D) H := fun c hc q => by
    have S2 := L.S.leave hx
    obtain ⟨e2, S3⟩ := S2.push (p := D) (o := .lst vs) (c := c) rmv_same fun e => by
      rcases hc with ⟨ws, rfl, rfl⟩ | ⟨xs, rfl, hc⟩
      · exact ⟨vs, upd_same, RpWL.ext e _ _ (RpWL.leave _ _ L.ra)⟩
      · subst hc
        exact ⟨vs, upd_same, RpL.ext e _ _ (RpL.leave _ _ L.ra.data)⟩
    have eu : upd (rmv H D) D (.lst vs) = H := upd_rmv L.hd
    rw [eu] at e2 S3
    exact q _ _ _ (eL.trans e2) S3 (RpW.last S2)
  split at h
  · rename_i xs hp
    have ea := allPure_eq hp
    split at h
    · exact cellR _ (.inr ⟨xs, rfl, ea⟩) h
    · subst ea
      refine h _ _ _ L.e L.S.less (.d (.lst (.inl L.hd) (fun z => ?_) L.ra.data.less))
      rcases z with z | z
      · exact L.S.off D List.mem_cons_self z
      · exact hx z
  · split at h
    · exact cellR _ (.inl ⟨acc, rfl, rfl⟩) h
    · exact h.elim
theorem RunsTo.bindOk {α β : Type} {r : Res α} {f : α → Store → Res β} {ok : β → Store → Prop} {xc : Exn → Store → Prop} (h : RunsTo (r.bind f) ok xc) (hx : ∀ x s, ¬ xc x s) : ∃ a s, r = .ok a s ∧ RunsTo (f a s) ok xc := by
  cases r with
  | ok a s => exact ⟨a, s, rfl, h⟩
  | exc x s => exact absurd h (hx x s)
  | stuck => exact h.elim
/-- a comprehension's loop -/
theorem comp_W {J : It} {ws : List W} {g : Option Nat} {tg : List Nat} {one : Bool} {own : List Nat} {c : Option Bx} {e : Ex} {cell : Bool} {Q : VK} {xc : Exn → Store → Prop}
    (S1 : Sim R φ1 ex H1 s1) (N1 : EnvR R φ1 ex H1 env σ) (r1 : RpW R φ1 ex H1 v0 w0) (hJ : JOk R J ws g s1 v0 w0 φ1 H1) (hown : ∀ i ∈ tg, i ∈ own)
    (h : RunsTo ((compL (still g s1) gc s1.length (fun w s => match bindN tg one w (wipeE env own) with
          | some env => (runC R.Φ R.M R.CI R.FO c env s).bind fun k s => if k then (runE R.Φ R.M R.CI R.FO e env s).bind fun x s => .ok (some x) s else .ok none s
          | none => .stuck) ws [] s1).bind fun ws s => compEnd cell ws s) (RetW R ex Q φ1 H1) xc) (hD : H1 D = none) :
    ∃ W : Nat → Nat → Hp → Prop, (∃ m, W 0 m (upd H1 D (.lst []))) ∧ ∀ i m H, W i m H →
      (J.stop i H ∧ Q (.ref D) H) ∨ (J.go i H ∧ ∃ Nx : Hp → Prop, (∀ H', Nx H' → ∃ m', m' < m ∧ W (i + 1) m' H') ∧ ∀ x H', J.yld i H x H' → gTgt R.K tg one x (wipe σ own) H' fun σ2 H2 => wipe σ2 own = wipe σ own ∧ tCt R c σ2 H2 fun b H3 =>
        if b = true then tD R never e σ2 H3 fun y H4 => ∃ acc, H4 D = some (.lst acc) ∧ acc.length < sizeLine ∧ Nx (upd H4 D (.lst (acc ++ [y]))) else Nx H3) := by
  have hx : D ∉ ex := fun z => by
    obtain ⟨o, ho, _⟩ := S1.exT D z
    rw [hD] at ho; cases ho
  generalize hstep : (fun (w : W) (s : Store) => match bindN tg one w (wipeE env own) with
          | some env => (runC R.Φ R.M R.CI R.FO c env s).bind fun k s => if k then (runE R.Φ R.M R.CI R.FO e env s).bind fun x s => Res.ok (some x) s else .ok none s
          | none => .stuck) = step at h
  refine ⟨fun i m H => m = (ws.drop i).length ∧ i ≤ ws.length ∧ ∃ φ s acc vs, LI R φ1 ex H1 D σ env v0 w0 gc φ s acc vs H ∧ RunsTo ((compL (still g s1) gc s1.length step (ws.drop i) acc s).bind fun ws s => compEnd cell ws s) (RetW R ex Q φ1 H1) xc,
    ⟨_, rfl, Nat.zero_le _, φ1, s1, [], [], LI.start S1 N1 r1 hD, h⟩, ?_⟩
  rintro i m H ⟨rfl, hi, φ, s, acc, vs, L, hr⟩
  cases hd : ws.drop i with
  | nil =>
    left
    rw [hd] at hr
    have hle : ws.length ≤ i := by simpa using hd
    simp only [compL] at hr
    split at hr
    · rename_i st
      exact ⟨(hJ φ (D :: ex) H s L.e L.S L.r0 st).2 i hle, L.done hx hD hr⟩
    · exact hr.elim
  | cons w rest =>
    right
    have hwi : ws[i]? = some w := by
      have : (ws.drop i)[0]? = some w := by rw [hd]; rfl
      simpa using this
    have hrest : ws.drop (i + 1) = rest := by
      have : (ws.drop i).drop 1 = rest := by rw [hd]; rfl
      rwa [List.drop_drop] at this
    have hlt : i < ws.length := (List.getElem?_eq_some_iff.mp hwi).1
    rw [hd] at hr
    simp only [compL] at hr
    split at hr
    · rename_i st
      obtain ⟨hgo, hyld⟩ := (hJ φ (D :: ex) H s L.e L.S L.r0 st).1 i w hwi
      refine ⟨hgo, fun H' => ∃ φ s acc vs, LI R φ1 ex H1 D σ env v0 w0 gc φ s acc vs H' ∧ RunsTo ((compL (still g s1) gc s1.length step (ws.drop (i + 1)) acc s).bind fun ws s => compEnd cell ws s) (RetW R ex Q φ1 H1) xc, fun H' q => ⟨rest.length, by simp, by rw [hrest], hlt, q⟩, fun x H' hy => ?_⟩
      obtain ⟨e1, S', keep, rx⟩ := hyld x H' hy
      have L' := L.yld e1 S'
      -- the step
      cases hs : step w s with
      | stuck => rw [hs] at hr; exact hr.elim
      | exc x' t => rw [hs] at hr; exact hr.elim
      | ok o s3 =>
        rw [hs] at hr
        dsimp only at hr
        have hs' := hs
        rw [← hstep] at hs'
        dsimp only at hs'
        cases hb : bindN tg one w (wipeE env own) with
        | none => rw [hb] at hs'; cases hs'
        | some env2 =>
          rw [hb] at hs'
          dsimp only at hs'
          refine bind_of_tgt (L'.N.wipe own) rx hb (fun us _ N2 => ⟨wipe_setAll hown, ?_⟩) setAll_len
          have fin : ∀ (φ4 : Ph) (H4 : Hp) (o' : Option W), Ext φ H' φ4 H4 → Sim R φ4 (D :: ex) H4 s3 → o' = o → (o' = none → ∃ φ s acc vs, LI R φ1 ex H1 D σ env v0 w0 gc φ s acc vs H4 ∧ RunsTo ((compL (still g s1) gc s1.length step (ws.drop (i + 1)) acc s).bind fun ws s => compEnd cell ws s) (RetW R ex Q φ1 H1) xc) ∧
              (∀ y z, o' = some z → RpW R φ4 (D :: ex) H4 y z → ∃ acc, H4 D = some (.lst acc) ∧ acc.length < sizeLine ∧ ∃ φ s acc2 vs, LI R φ1 ex H1 D σ env v0 w0 gc φ s acc2 vs (upd H4 D (.lst (acc ++ [y]))) ∧ RunsTo ((compL (still g s1) gc s1.length step (ws.drop (i + 1)) acc2 s).bind fun ws s => compEnd cell ws s) (RetW R ex Q φ1 H1) xc) := by
            intro φ4 H4 o' e4 S4 ho
            subst ho
            cases ht : turnEnd gc s1.length [] s3 with
            | none => rw [ht] at hr; exact hr.elim
            | some p =>
              obtain ⟨u, s4⟩ := p
              rw [ht] at hr
              dsimp only at hr
              obtain ⟨φ5, L5, grow⟩ := L'.turn hD S1.len N1 r1 e4 S4 ht
              constructor
              · intro ho
                subst ho
                rw [hrest]
                exact ⟨_, _, _, _, L5, hr⟩
              · intro y z ho rz
                subst ho
                dsimp only at hr
                split at hr
                · rename_i hz
                  refine ⟨vs, L5.hd, by rw [L5.ra.length]; exact hz.1, _, _, _, _, L5.push hD (grow y z rz hz.2) hz.2, ?_⟩
                  rw [hrest]
                  exact hr
                · exact hr.elim
          have rest' : ∀ (φ3 : Ph) (H3 : Hp) (s2 : Store) (k : Bool), Ext φ H' φ3 H3 → Sim R φ3 (D :: ex) H3 s2 → EnvR R φ3 (D :: ex) H3 env2 (setAll tg us (wipe σ own)) →
              (if k then (runE R.Φ R.M R.CI R.FO e env2 s2).bind fun x s => Res.ok (some x) s else .ok none s2) = .ok o s3 →
              if k = true then tD R never e (setAll tg us (wipe σ own)) H3 fun y H4 => ∃ acc, H4 D = some (.lst acc) ∧ acc.length < sizeLine ∧ ∃ φ s acc2 vs, LI R φ1 ex H1 D σ env v0 w0 gc φ s acc2 vs (upd H4 D (.lst (acc ++ [y]))) ∧ RunsTo ((compL (still g s1) gc s1.length step (ws.drop (i + 1)) acc2 s).bind fun ws s => compEnd cell ws s) (RetW R ex Q φ1 H1) xc
              else ∃ φ s acc vs, LI R φ1 ex H1 D σ env v0 w0 gc φ s acc vs H3 ∧ RunsTo ((compL (still g s1) gc s1.length step (ws.drop (i + 1)) acc s).bind fun ws s => compEnd cell ws s) (RetW R ex Q φ1 H1) xc := by
            intro φ3 H3 s2 k e3 S3 N3 hk
            cases k with
            | false =>
              simp only [Bool.false_eq_true, if_false] at hk ⊢
              cases hk
              exact (fin φ3 H3 _ e3 S3 rfl).1 rfl
            | true =>
              simp only [if_true] at hk ⊢
              refine ⟨φ3, D :: ex, s2, env2, S3, N3, ?_⟩
              cases he : runE R.Φ R.M R.CI R.FO e env2 s2 with
              | stuck => rw [he] at hk; cases hk
              | exc x' t => rw [he] at hk; cases hk
              | ok z s3' =>
                rw [he] at hk
                cases hk
                intro y φ4 H4 e4 S4 rz
                exact (fin φ4 H4 _ (e3.trans e4) S4 rfl).2 y z rfl rz
          cases c with
          | none =>
            simp only [runC, Res.bind_ok] at hs'
            exact rest' φ H' s true (Ext.refl _ _) S' N2 hs'
          | some b =>
            simp only [runC] at hs'
            refine ⟨φ, D :: ex, s, env2, S', N2, ?_⟩
            cases hb2 : runT R.Φ R.M R.CI R.FO b env2 s with
            | stuck => rw [hb2] at hs'; cases hs'
            | exc x' t => rw [hb2] at hs'; cases hs'
            | ok k s2 =>
              rw [hb2] at hs'
              intro φ3 H3 e3 S3
              exact rest' φ3 H3 s2 k e3 S3 (N2.ext e3) hs'
    · exact hr.elim
end
end Cc

set_option linter.all false
set_option maxRecDepth 100000
set_option maxHeartbeats 1000000
/-! Cc: comprehensions by syntax; statements. -/
namespace Cc
open PySem PySem.Spec PyProof.Rows L2

section
variable {X : Cx} {R : Gt} {E : L2.St → XK}
theorem comp_lc {its : List Ex} {walk : Wk} {tg : List Nat} {one : Bool} {own : List Nat} {c : Option Bx} {e : Ex} {cell gc : Bool} (hown : ∀ i ∈ tg, i ∈ own) {σ : L2.St} {H : Hp} {Q : VK}
    (h : tD R E (.comp own cell gc tg one walk its c e) σ H Q) : tLc (tI R E walk its) (gTgt R.K tg one) (tCt R c) (tD R never e) own σ H Q := by
  obtain ⟨φ, ex, s, env, S, N, h⟩ := h
  refine ⟨φ, ex, s, env, S, N, ?_⟩
  simp only [runE] at h
  cases r : runEs R.Φ R.M R.CI R.FO its env s with
  | stuck => rw [r] at h; exact h
  | exc x t => rw [r] at h; exact h
  | ok us s1 =>
    rw [r] at h
    simp only [Res.bind_ok] at h
    cases hw : walkW walk us s1 with
    | none => rw [hw] at h; exact h.elim
    | some p =>
      obtain ⟨ws, g⟩ := p
      rw [hw] at h
      refine ⟨ws, g, hw, fun φ' H' J v w e1 S1 rw' hJ D hD => ?_⟩
      exact comp_W S1 (N.ext e1) rw' hJ hown (h.imp (fun _ _ q => mono_W _ _ _ _ _ _ e1 q) fun x s2 q => q) hD
theorem folded_ne {it : Expr} (h : ∀ es k p, it ≠ .Set es k p) (env : PySem.Env) (x : Value) : foldedSetIterable it env x = pure x := by
  cases it <;> first | rfl | exact absurd rfl (h _ _ _)
/-! ### statements -/
def EndOk (R : Gt) (ex : List Addr) (D : Ends) : Kn (Flow × Env) := fun φ H p s' => ∀ φ' H', Ext φ H φ' H' → Sim R φ' ex H' s' → match p.1 with
  | .next => ∀ σ', EnvR R φ' ex H' p.2 σ' → D.nx σ' H'
  | .brk => ∀ σ', EnvR R φ' ex H' p.2 σ' → D.bk σ' H'
  | .cont => ∀ σ', EnvR R φ' ex H' p.2 σ' → D.ct σ' H'
  | .ret w => ∀ v, RpW R φ' ex H' v w → D.rt v H'
theorem mono_S {ex : List Addr} {D : Ends} : Mono (EndOk R ex D) := fun _ _ _ _ _ _ e h φ2 H2 e2 => h φ2 H2 (e.trans e2)
def tS (R : Gt) (E : XK) (b : Sx) : L2.TS := fun D σ H => ∃ φ ex s env, Sim R φ ex H s ∧ EnvR R φ ex H env σ ∧ RunsTo (runS R.Φ R.M R.CI R.FO R.XI b env s) (EndOk R ex D φ H) (ExcOk R ex E φ H)
abbrev con (E : XK) : L2.St → XK := fun _ => E
end
section
variable {X : Cx} {R : Gt} {E : XK} {φ : Ph} {ex : List Addr} {H : Hp} {s : Store} {env : Env} {σ : L2.St} {e : Ex} {D : Ends} {a b : Sx}
theorem psImp {st : Stmt} {t t' : L2.TS} (h : PS X st t) (i : ∀ D σ H, t' D σ H → t D σ H) : PS X st t' := ⟨fun pins s σ H D I q => h.run pins s σ H D I (i D σ H q)⟩
theorem pssImp {st : List Stmt} {t t' : L2.TS} (h : PSs X st t) (i : ∀ D σ H, t' D σ H → t D σ H) : PSs X st t' := ⟨fun pins s σ H D I q => h.run pins s σ H D I (i D σ H q)⟩
theorem pgImp {tg : Expr} {t t' : L2.TG} (h : PG X tg t) (i : ∀ v σ H Q, t' v σ H Q → t v σ H Q) : PG X tg t' := ⟨fun pins s σ H v u Q I r q => h.run pins s σ H v u Q I r (i v σ H Q q)⟩
theorem pgsImp {tg : List Expr} {t t' : L2.TGs} (h : PGs X tg t) (i : ∀ v σ H Q, t' v σ H Q → t v σ H Q) : PGs X tg t' := ⟨fun pins s σ H v u Q I r q => h.run pins s σ H v u Q I r (i v σ H Q q)⟩
theorem i_next (h : tS R E .pass D σ H) : tNext D σ H := by
  obtain ⟨φ, ex, s, env, S, N, h⟩ := h
  exact h φ H (Ext.refl _ _) S σ N
theorem i_brk (h : tS R E .brk D σ H) : tBreak D σ H := by
  obtain ⟨φ, ex, s, env, S, N, h⟩ := h
  exact h φ H (Ext.refl _ _) S σ N
theorem i_cont (h : tS R E .cont D σ H) : tCont D σ H := by
  obtain ⟨φ, ex, s, env, S, N, h⟩ := h
  exact h φ H (Ext.refl _ _) S σ N
theorem i_ret (h : tS R E (.ret e) D σ H) : tRet (tD R (con E) e) D σ H := by
  obtain ⟨φ, ex, s, env, S, N, h⟩ := h
  simp only [runS] at h
  exact tD_mono (tD_bind mono_S S N h) fun v H1 ⟨φ1, s1, w, S1, N1, e1, r1, h1⟩ => h1 φ1 H1 (Ext.refl _ _) S1 v r1
theorem i_expr (h : tS R E (.expr e) D σ H) : tDrop (tD R (con E) e) D σ H := by
  obtain ⟨φ, ex, s, env, S, N, h⟩ := h
  simp only [runS] at h
  exact tD_mono (tD_bind mono_S S N h) fun v H1 ⟨φ1, s1, w, S1, N1, e1, r1, h1⟩ => h1 φ1 H1 (Ext.refl _ _) S1 σ N1
theorem i_if {c : Bx} (h : tS R E (.ite c a b) D σ H) : tIfS (tT R (con E) c) (tS R E a) (tS R E b) D σ H := by
  obtain ⟨φ, ex, s, env, S, N, h⟩ := h
  simp only [runS] at h
  refine tT_mono (tT_bind mono_S S N h) fun k H1 ⟨φ1, s1, w, S1, N1, e1, r1, h1⟩ => ?_
  subst r1
  cases w with
  | true => simp only [if_true] at h1 ⊢; exact ⟨φ1, ex, s1, env, S1, N1, h1⟩
  | false => simp only [Bool.false_eq_true, if_false] at h1 ⊢; exact ⟨φ1, ex, s1, env, S1, N1, h1⟩
theorem i_seq (h : tS R E (.seq a b) D σ H) : tSeq (tS R E a) (tS R E b) D σ H := by
  obtain ⟨φ, ex, s, env, S, N, h⟩ := h
  simp only [runS] at h
  refine ⟨φ, ex, s, env, S, N, ?_⟩
  cases r : runS R.Φ R.M R.CI R.FO R.XI a env s with
  | stuck => rw [r] at h; exact h
  | exc x t => rw [r] at h; exact h
  | ok p t =>
    rw [r] at h
    simp only [Res.bind_ok] at h
    intro φ' H' e1 S1
    obtain ⟨f, env'⟩ := p
    cases f with
    | next => exact fun σ' N' => ⟨φ', ex, t, env', S1, N', RunsTo.grow (E := E) mono_S e1 h⟩
    | brk => exact h φ' H' e1 S1
    | cont => exact h φ' H' e1 S1
    | ret w => exact h φ' H' e1 S1
/-! ### targets -/
def TgOk (R : Gt) (ex : List Addr) (Q : L2.St → Hp → Prop) : Kn Env := fun φ H env' s' => ∀ φ' H' σ', Ext φ H φ' H' → Sim R φ' ex H' s' → EnvR R φ' ex H' env' σ' → Q σ' H'
theorem mono_G {Q : L2.St → Hp → Prop} : Mono (TgOk R ex Q) := fun _ _ _ _ _ _ e h φ2 H2 σ2 e2 => h φ2 H2 σ2 (e.trans e2)
def gT (R : Gt) (E : XK) (t : Tx) : L2.TG := fun v σ H Q => ∃ φ ex s env w, Sim R φ ex H s ∧ EnvR R φ ex H env σ ∧ RpW R φ ex H v w ∧ RunsTo (assignT R.Φ R.M R.CI R.FO t w env s) (TgOk R ex Q φ H) (ExcOk R ex E φ H)
def gTs (R : Gt) (E : XK) (ts : List Tx) : L2.TGs := fun vs σ H Q => ∃ φ ex s env ws, Sim R φ ex H s ∧ EnvR R φ ex H env σ ∧ RpWL R φ ex H vs ws ∧ RunsTo (assignTs R.Φ R.M R.CI R.FO ts ws env s) (TgOk R ex Q φ H) (ExcOk R ex E φ H)
theorem i_gname {i : Nat} {v : V} {Q : L2.St → Hp → Prop} (h : gT R E (.name i) v σ H Q) : gName i v σ H Q := by
  obtain ⟨φ, ex, s, env, w, S, N, r, h⟩ := h
  exact h φ H _ (Ext.refl _ _) S (N.set r)
/-- an index that is set -/
theorem i_gsub {X : Cx} (hP : X.prog = R.P) (hw : X.w = R.w) (hK : X.K = R.K) {co ci : Ex} {v : V} {Q : L2.St → Hp → Prop} (h : gT R E (.sub co ci) v σ H Q) : gSub (tD R (con E) co) (tD R (con E) ci) (fun o i v H Q => rSetL o i v H Q ∨ Cd.rSetN X o i v H Q ∨ rSetD o i v H Q) v σ H Q := by
  obtain ⟨φ, ex, s, env, w, S, N, r, h⟩ := h
  simp only [assignT] at h
  refine tD_mono (tD_bind mono_G S N h) fun o H1 ⟨φ1, s1, wo, S1, N1, e1, r1, h1⟩ => ?_
  refine tD_mono (tD_bind mono_G S1 N1 h1) fun i H2 ⟨φ2, s2, wi, S2, N2, e2, r2, h2⟩ => ?_
  dsimp only at h2
  have ro := RpW.ext e2 _ _ r1
  have rv := RpW.ext (e1.trans e2) _ _ r
  have key : (∃ n k, wo = .ref n ∧ wi = .d (.int k)) ∨ (∃ n ks, wo = .ref n ∧ wi = .d (.tuple ks)) ∨ ∃ n kx, wo = .ref n ∧ wi = .d (.str kx) := by
    cases wo with
    | ref n => cases wi with
      | d x => cases x with
        | int k => exact .inl ⟨n, k, rfl, rfl⟩
        | tuple ks => exact .inr (.inl ⟨n, ks, rfl, rfl⟩)
        | str kx => exact .inr (.inr ⟨n, kx, rfl, rfl⟩)
        | _ => exact False.elim h2
      | _ => exact False.elim h2
    | _ => exact False.elim h2
  rcases key with ⟨n, k, rfl, rfl⟩ | ⟨n, ks, rfl, rfl⟩ | ⟨n, kx, rfl, rfl⟩
  case inr.inr =>
    refine .inr (.inr ?_)
    cases r2 with | d r2 =>
    cases r2
    simp only [setIx] at h2
    split at h2
    · rename_i kvs hc
      split at h2
      · rename_i hk
        obtain ⟨a, fv, rfl, hφ, e, rf⟩ := S2.dk hc ro
        have hl : kvs.length < sizeLine := by
          have := Nat.le_of_ble_eq_true hk
          show kvs.length < 16777216
          omega
        obtain ⟨e3, S3⟩ := S2.put (o := .dK (kk (putS fv kx v))) (c := .dk (dkPut kvs kx w)) hφ fun e => ⟨_, upd_same, FsR.putS (RpW.ext e _ _ rv) (FsR.ext e rf)⟩
        refine ⟨a, _, rfl, DPut.k (k := .inr kx) e (by rw [kk, List.length_map, rf.length]; exact hl), ?_⟩
        rw [kk_put]
        exact h2 _ _ _ e3 S3 (N2.ext e3)
      · exact h2.elim
    · exact h2.elim
  case inr.inl =>
    refine .inr (.inl ?_)
    cases r2 with | d r2 =>
    simp only [setIx] at h2
    split at h2
    · rename_i kvs hc
      split at h2
      · rename_i hk
        obtain ⟨a, xs, rfl, hφ, e, r4⟩ := S2.dn hc ro
        obtain ⟨b, rfl⟩ := ref_of_key hk.1 r2
        refine ⟨a, xs, b, _, rfl, rfl, by rw [hP, hw]; exact e, r4.keys hK, nk_of hK hk.1 r2, by rw [← r4.length]; exact hk.2, ?_⟩
        obtain ⟨e3, S3⟩ := S2.put (o := Cd.dnO R.P R.w a (Cd.putN xs (Cd.nkOf (.tuple ks)) b v)) (c := .dn (dPut kvs (.tuple ks) w)) hφ fun e => ⟨_, upd_same, DnR.put hk.1 (Rp.ext e _ _ r2) (RpW.ext e _ _ rv) (r4.ext e)⟩
        rw [hP, hw]
        exact h2 _ _ _ e3 S3 (N2.ext e3)
      · exact h2.elim
    · exact h2.elim
  refine .inl ?_
  cases r2 with | d r2 =>
  cases r2
  simp only [setIx] at h2
  cases hc : s2[n]? with
  | none => rw [hc] at h2; exact h2.elim
  | some c =>
    rw [hc] at h2
    cases c with
    | dead => exact h2.elim
    | dn _ => exact h2.elim
    | dk _ => exact h2.elim
    | ins _ _ => exact h2.elim
    | lst xs =>
      dsimp only at h2
      obtain ⟨a, us, rfl, hφ, hl, rl⟩ := S2.lst hc ro
      have el := rl.length
      cases hj : ixN xs.length k with
      | none => rw [hj] at h2; exact h2.elim
      | some j =>
        rw [hj] at h2
        refine ⟨a, us, k, j, rfl, rfl, hl, by rw [el]; exact hj, ?_⟩
        cases w with
        | d x =>
          dsimp only at h2
          cases rv with | d rv =>
          obtain ⟨e3, S3⟩ := S2.put (o := .lst (us.set j v)) (c := .lst (xs.set j x)) hφ fun e => ⟨_, upd_same, RpL.set j (RpL.ext e _ _ rl) (Rp.ext e _ _ rv)⟩
          exact h2 _ _ _ e3 S3 (N2.ext e3)
        | ref m =>
          dsimp only at h2
          obtain ⟨e3, S3⟩ := S2.put (o := .lst (us.set j v)) (c := .wl ((xs.map W.d).set j (.ref m))) hφ fun e => ⟨_, upd_same, RpWL.set j (RpWL.ext e _ _ (RpWL.of rl)) (RpW.ext e _ _ rv)⟩
          exact h2 _ _ _ e3 S3 (N2.ext e3)
        | tup ws =>
          dsimp only at h2
          obtain ⟨e3, S3⟩ := S2.put (o := .lst (us.set j v)) (c := .wl ((xs.map W.d).set j (.tup ws))) hφ fun e => ⟨_, upd_same, RpWL.set j (RpWL.ext e _ _ (RpWL.of rl)) (RpW.ext e _ _ rv)⟩
          exact h2 _ _ _ e3 S3 (N2.ext e3)
        | fn m =>
          dsimp only at h2
          obtain ⟨e3, S3⟩ := S2.put (o := .lst (us.set j v)) (c := .wl ((xs.map W.d).set j (.fn m))) hφ fun e => ⟨_, upd_same, RpWL.set j (RpWL.ext e _ _ (RpWL.of rl)) (RpW.ext e _ _ rv)⟩
          exact h2 _ _ _ e3 S3 (N2.ext e3)
        | pr m k =>
          dsimp only at h2
          obtain ⟨e3, S3⟩ := S2.put (o := .lst (us.set j v)) (c := .wl ((xs.map W.d).set j (.pr m k))) hφ fun e => ⟨_, upd_same, RpWL.set j (RpWL.ext e _ _ (RpWL.of rl)) (RpW.ext e _ _ rv)⟩
          exact h2 _ _ _ e3 S3 (N2.ext e3)
        | clo k o ws => cases rv
        | fd m =>
          dsimp only at h2
          obtain ⟨e3, S3⟩ := S2.put (o := .lst (us.set j v)) (c := .wl ((xs.map W.d).set j (.fd m))) hφ fun e => ⟨_, upd_same, RpWL.set j (RpWL.ext e _ _ (RpWL.of rl)) (RpW.ext e _ _ rv)⟩
          exact h2 _ _ _ e3 S3 (N2.ext e3)
    | wl ws =>
      dsimp only at h2
      obtain ⟨a, us, rfl, hφ, hl, rl⟩ := S2.wl hc ro
      have el := rl.length
      cases hj : ixN ws.length k with
      | none => rw [hj] at h2; exact h2.elim
      | some j =>
        rw [hj] at h2
        refine ⟨a, us, k, j, rfl, rfl, hl, by rw [el]; exact hj, ?_⟩
        obtain ⟨e3, S3⟩ := S2.put (o := .lst (us.set j v)) (c := .wl (ws.set j w)) hφ fun e => ⟨_, upd_same, RpWL.set j (RpWL.ext e _ _ rl) (RpW.ext e _ _ rv)⟩
        exact h2 _ _ _ e3 S3 (N2.ext e3)
end
end Cc

set_option linter.all false
set_option maxRecDepth 100000
set_option maxHeartbeats 1000000
/-! Cc: assignments, loops. -/
namespace Cc
open PySem PySem.Spec PyProof.Rows L2

section
variable {X : Cx} {R : Gt} {E : XK} {φ : Ph} {ex : List Addr} {H : Hp} {s : Store} {env : Env} {σ : L2.St} {e : Ex} {D : Ends} {a b : Sx}
theorem i_asg {t : Tx} (h : tS R E (.assign t e) D σ H) : tAsg (tD R (con E) e) (gT R E t) D σ H := by
  obtain ⟨φ, ex, s, env, S, N, h⟩ := h
  simp only [runS] at h
  refine tD_mono (tD_bind mono_S S N h) fun v H1 ⟨φ1, s1, w, S1, N1, e1, r1, h1⟩ => ?_
  refine ⟨φ1, ex, s1, env, w, S1, N1, r1, ?_⟩
  dsimp only at h1
  cases r : assignT R.Φ R.M R.CI R.FO t w env s1 with
  | stuck => rw [r] at h1; exact h1
  | exc x t => rw [r] at h1; exact h1
  | ok env' s' => rw [r] at h1; exact fun φ' H' σ' e S' N' => h1 φ' H' e S' σ' N'
theorem i_gts_nil {vs : List V} {Q : L2.St → Hp → Prop} (h : gTs R E [] vs σ H Q) : gNil vs σ H Q := by
  obtain ⟨φ, ex, s, env, ws, S, N, r, h⟩ := h
  cases ws with
  | nil => cases r; exact ⟨rfl, h φ H σ (Ext.refl _ _) S N⟩
  | cons w ws => exact h.elim
theorem i_gts_cons {t : Tx} {ts : List Tx} {vs : List V} {Q : L2.St → Hp → Prop} (h : gTs R E (t :: ts) vs σ H Q) : gCons (gT R E t) (gTs R E ts) vs σ H Q := by
  obtain ⟨φ, ex, s, env, ws, S, N, r, h⟩ := h
  cases ws with
  | nil => exact h.elim
  | cons w ws =>
    cases r with
    | cons r rs =>
      simp only [assignTs] at h
      refine ⟨_, _, rfl, φ, ex, s, env, w, S, N, r, ?_⟩
      cases q : assignT R.Φ R.M R.CI R.FO t w env s with
      | stuck => rw [q] at h; exact h
      | exc x t => rw [q] at h; exact h
      | ok env' s' =>
        rw [q] at h
        exact fun φ' H' σ' e S' N' => ⟨φ', ex, s', env', ws, S', N', RpWL.ext e _ _ rs, RunsTo.grow (E := E) mono_G e h⟩
theorem i_unpack {ts : List Tx} (h : tS R E (.unpack ts e) D σ H) : tAsg (tD R (con E) e) (gTup R.K ts.length (gTs R E ts)) D σ H := by
  obtain ⟨φ, ex, s, env, S, N, h⟩ := h
  simp only [runS] at h
  refine tD_mono (tD_bind mono_S S N h) fun v H1 ⟨φ1, s1, w, S1, N1, e1, r1, h1⟩ => ?_
  dsimp only at h1
  have fin : ∀ (a : Addr) (vs : List V) (ws : List W), v = .ref a → SqT R.K H1 a vs → RpWL R φ1 ex H1 vs ws → parts w = some ws → gTup R.K ts.length (gTs R E ts) v σ H1 D.nx := by
    intro a vs ws ev hs rv hp
    rw [hp] at h1
    dsimp only at h1
    split at h1
    · rename_i hl
      refine ⟨a, vs, ev, hs, by rw [rv.length, hl], φ1, ex, s1, env, ws, S1, N1, rv, ?_⟩
      cases r : assignTs R.Φ R.M R.CI R.FO ts ws env s1 with
      | stuck => rw [r] at h1; exact h1
      | exc x t => rw [r] at h1; exact h1
      | ok env' s' => rw [r] at h1; exact fun φ' H' σ' e S' N' => h1 φ' H' e S' σ' N'
    · exact h1.elim
  cases w with
  | fn i => exact False.elim h1
  | pr x y => exact False.elim h1
  | fd _ => exact False.elim h1
  | clo _ _ _ => exact False.elim h1
  | ref n => exact False.elim h1
  | tup ws =>
    cases r1 with
    | tup hr n rl => exact fin _ _ _ rfl (.inl hr.rd) rl rfl
  | d x => cases x with
    | tuple xs =>
      cases r1 with | d r1 =>
      cases r1 with
      | tup hr rl => exact fin _ _ _ rfl (hr.elim (fun q => .inl q.1.rd) fun q => .inr q.old) (RpWL.of rl) rfl
    | _ => exact False.elim h1
/-- an attribute that is set -/
theorem i_fld {o : Ex} {f : Str} (G : GOk R) (h : tS R E (.assign (.fld o f) e) D σ H) : sFld R.K (tD R (con E) o) (tD R (con E) e) f D σ H := by
  obtain ⟨φ, ex, s, env, S, N, h⟩ := h
  simp only [runS, assignT] at h
  refine tD_mono (tD_bind mono_S S N h) fun v H1 ⟨φ1, s1, w, S1, N1, e1, r1, h1⟩ => ?_
  dsimp only at h1
  rw [res_assoc] at h1
  refine tD_mono (tD_bind mono_S S1 N1 h1) fun x H2 ⟨φ2, s2, wo, S2, N2, e2, r2, h2⟩ => ?_
  dsimp only at h2
  rw [res_assoc] at h2
  cases wo with
  | d x => exact False.elim h2
  | tup ws => exact False.elim h2
  | fn i => exact False.elim h2
  | pr x y => exact False.elim h2
  | fd _ => exact False.elim h2
  | clo _ _ _ => exact False.elim h2
  | ref n =>
    simp only [setFld] at h2
    cases hc : s2[n]? with
    | none => rw [hc] at h2; exact False.elim h2
    | some c =>
      rw [hc] at h2
      cases c with
      | lst xs => exact False.elim h2
      | wl xs => exact False.elim h2
      | dead => exact False.elim h2
      | dn _ => exact False.elim h2
      | dk _ => exact False.elim h2
      | ins c fs =>
        dsimp only at h2
        split at h2
        · rename_i hz
          obtain ⟨a, dx, fv, rfl, hφ, hl, rf⟩ := S2.ins hc r2
          obtain ⟨g1, g2⟩ := G.fo c f hz.1
          refine ⟨a, _, dx, fv, rfl, hl, g1, g2, by rw [rf.length]; exact hz.2, ?_⟩
          obtain ⟨e3, S3⟩ := S2.put (o := .ins (R.ca c) dx (putF f v fv)) (c := .ins c (fput f w fs)) hφ fun e => ⟨dx, _, upd_same, (rf.ext e).put (RpW.ext (e2.trans e) _ _ r1)⟩
          exact h2 _ _ e3 S3 σ (N2.ext e3)
        · exact False.elim h2
/-- an attribute as one of several targets -/
def gFld (K : PySem.W.Frag) (to : L2.TE) (f : Str) : L2.TG := fun v σ H Q => to σ H fun x H1 => ∃ a C dx fs, x = .ref a ∧ H1 a = some (.ins C dx fs) ∧ Cls K C ∧ NoAttr K C f ∧ fs.length < 1000 ∧ Q σ (upd H1 a (.ins C dx (putF f v fs)))
theorem pg_fld {o : Expr} {to : L2.TE} {f : Str} {pos : Pos} (ho : PE X o to) : PG X (.Attribute o f pos) (gFld X.K to f) := by
  refine ⟨fun pins s σ H v u Q I r h => ?_⟩
  rw [assign_Attribute]
  refine wpAny_bind (wpAny_holding (thn (ho.run pins s σ H _ I h) fun ov s1 ⟨x, H1, I1, rx, a, C, dx, fs, ex, ea, c, n, l, q⟩ => ?_))
  subst ex
  obtain rfl : ov = Value.ref a := rx
  refine wpAny_bind (wpAny_standAt (wpAny_bind (wpAny_holding (setattr_ok I1 ea c n l r fun s2 I2 => ?_))))
  exact wpAny_release ⟨σ, _, I2, q⟩
theorem i_gfld {o : Ex} {f : Str} {v : V} {Q : L2.St → Hp → Prop} (G : GOk R) (h : gT R E (.fld o f) v σ H Q) : gFld R.K (tD R (con E) o) f v σ H Q := by
  obtain ⟨φ, ex, s, env, w, S, N, r, h⟩ := h
  simp only [assignT] at h
  refine tD_mono (tD_bind mono_G S N h) fun x H2 ⟨φ2, s2, wo, S2, N2, e2, r2, h2⟩ => ?_
  dsimp only at h2
  cases wo with
  | d x => exact False.elim h2
  | tup ws => exact False.elim h2
  | fn i => exact False.elim h2
  | pr x y => exact False.elim h2
  | fd _ => exact False.elim h2
  | clo _ _ _ => exact False.elim h2
  | ref n =>
    simp only [setFld] at h2
    cases hc : s2[n]? with
    | none => rw [hc] at h2; exact False.elim h2
    | some c =>
      rw [hc] at h2
      cases c with
      | lst xs => exact False.elim h2
      | wl xs => exact False.elim h2
      | dead => exact False.elim h2
      | dn _ => exact False.elim h2
      | dk _ => exact False.elim h2
      | ins c fs =>
        dsimp only at h2
        split at h2
        · rename_i hz
          obtain ⟨a, dx, fv, rfl, hφ, hl, rf⟩ := S2.ins hc r2
          obtain ⟨g1, g2⟩ := G.fo c f hz.1
          refine ⟨a, _, dx, fv, rfl, hl, g1, g2, by rw [rf.length]; exact hz.2, ?_⟩
          obtain ⟨e3, S3⟩ := S2.put (o := .ins (R.ca c) dx (putF f v fv)) (c := .ins c (fput f w fs)) hφ fun e => ⟨dx, _, upd_same, (rf.ext e).put (RpW.ext (e2.trans e) _ _ r)⟩
          exact h2 _ _ σ e3 S3 (N2.ext e3)
        · exact False.elim h2
/-! ### loops -/
theorem i_for {gc : Bool} {tg : List Nat} {one : Bool} {walk : Wk} {its : List Ex} {body : Sx} (h : tS R E (.for gc tg one walk its body) D σ H) : tFor (tI R (con E) walk its) (gTgt R.K tg one) (tS R E body) D σ H := by
  obtain ⟨φ0, ex, s0, env0, S0, N0, h⟩ := h
  simp only [runS] at h
  refine ⟨φ0, ex, s0, env0, S0, N0, ?_⟩
  cases r : runEs R.Φ R.M R.CI R.FO its env0 s0 with
  | stuck => rw [r] at h; exact h
  | exc x t => rw [r] at h; exact h
  | ok us s1 =>
    rw [r] at h
    simp only [Res.bind_ok] at h
    cases hw : walkW walk us s1 with
    | none => rw [hw] at h; exact h.elim
    | some p =>
      obtain ⟨ws, g⟩ := p
      rw [hw] at h
      dsimp only at h
      refine ⟨ws, g, hw, fun φ1 H1 J v0 w0 e1 S1 rw' hJ => ?_⟩
      generalize hstep : (fun (w : W) (env : Env) (s : Store) => match bindN tg one w env with
        | some env => runS R.Φ R.M R.CI R.FO R.XI body env s
        | none => .stuck) = step at h
      have h := RunsTo.grow (E := E) mono_S e1 h
      refine ⟨fun i m σ H => m = (ws.drop i).length ∧ i ≤ ws.length ∧ ∃ φ s env, Sim R φ ex H s ∧ EnvR R φ ex H env σ ∧ Ext φ1 H1 φ H ∧ RpW R φ ex H v0 w0 ∧ RunsTo (forL (still g s1) gc s1.length step (ws.drop i) env s) (EndOk R ex D φ1 H1) (ExcOk R ex E φ1 H1),
        ⟨_, rfl, Nat.zero_le _, φ1, s1, env0, S1, N0.ext e1, Ext.refl _ _, rw', h⟩, ?_⟩
      rintro i m σ H ⟨rfl, hi, φ, s, env, S, N, e, r0, hr⟩
      cases hd : ws.drop i with
      | nil =>
        left
        rw [hd] at hr
        have hle : ws.length ≤ i := by simpa using hd
        simp only [forL] at hr
        split at hr
        · rename_i st
          exact ⟨(hJ φ ex H s e S r0 st).2 i hle, hr φ H e S σ N⟩
        · exact hr.elim
      | cons w rest =>
        right
        have hwi : ws[i]? = some w := by
          have : (ws.drop i)[0]? = some w := by rw [hd]; rfl
          simpa using this
        have hrest : ws.drop (i + 1) = rest := by
          have : (ws.drop i).drop 1 = rest := by rw [hd]; rfl
          rwa [List.drop_drop] at this
        have hlt : i < ws.length := (List.getElem?_eq_some_iff.mp hwi).1
        rw [hd] at hr
        simp only [forL] at hr
        split at hr
        · rename_i st
          obtain ⟨hgo, hyld⟩ := (hJ φ ex H s e S r0 st).1 i w hwi
          refine ⟨hgo, fun σ H => ∃ φ s env, Sim R φ ex H s ∧ EnvR R φ ex H env σ ∧ Ext φ1 H1 φ H ∧ RpW R φ ex H v0 w0 ∧ RunsTo (forL (still g s1) gc s1.length step (ws.drop (i + 1)) env s) (EndOk R ex D φ1 H1) (ExcOk R ex E φ1 H1), fun σ' H' q => ⟨rest.length, by simp, by rw [hrest], hlt, q⟩, fun x H' hy => ?_⟩
          obtain ⟨e2, S2, keep, rx⟩ := hyld x H' hy
          cases hb : bindN tg one w env with
          | none =>
            rw [← hstep] at hr
            dsimp only at hr
            rw [hb] at hr
            exact hr.elim
          | some env2 =>
            have hs : step w env s = runS R.Φ R.M R.CI R.FO R.XI body env2 s := by rw [← hstep]; dsimp only; rw [hb]
            rw [hs] at hr
            refine bind_of_tgt (N.ext e2) rx hb (fun us _ N2 => ?_) setAll_len
            refine ⟨φ, ex, s, env2, S2, N2, ?_⟩
            cases rb : runS R.Φ R.M R.CI R.FO R.XI body env2 s with
            | stuck => rw [rb] at hr; exact hr
            | exc x t => rw [rb] at hr; exact excOk_mono (e.trans e2) hr
            | ok p s3 =>
              rw [rb] at hr
              obtain ⟨f, env3⟩ := p
              intro φ3 H3 e3 S3
              have e03 := (e.trans e2).trans e3
              have again : ∀ σ', EnvR R φ3 ex H3 env3 σ' → RunsTo (match turnEnd gc s1.length env3 s3 with
                  | some (env, s) => forL (still g s1) gc s1.length step rest env s
                  | none => .stuck) (EndOk R ex D φ1 H1) (ExcOk R ex E φ1 H1) → ∃ φ s env, Sim R φ ex H3 s ∧ EnvR R φ ex H3 env σ' ∧ Ext φ1 H1 φ H3 ∧ RpW R φ ex H3 v0 w0 ∧ RunsTo (forL (still g s1) gc s1.length step (ws.drop (i + 1)) env s) (EndOk R ex D φ1 H1) (ExcOk R ex E φ1 H1) := by
                intro σ' N3 hn
                rw [hrest]
                cases ht : turnEnd gc s1.length env3 s3 with
                | none => rw [ht] at hn; exact hn.elim
                | some q =>
                  obtain ⟨env4, s4⟩ := q
                  rw [ht] at hn
                  dsimp only at hn
                  unfold turnEnd at ht
                  cases gc with
                  | false =>
                    simp only [Bool.false_eq_true, if_false] at ht
                    cases ht
                    exact ⟨φ3, _, _, S3, N3, e03, RpW.ext (e2.trans e3) _ _ r0, hn⟩
                  | true =>
                    simp only [if_true, gcE] at ht
                    split at ht
                    · rename_i hl
                      cases ht
                      have hn1 : s1.length ≤ φ3.length := by rw [← S1.len]; exact e03.len
                      refine ⟨φ3.take s1.length, _, _, S3.takeφ hn1 hl, N3.takeφ hn1, e03.take S1.len.symm, RpW.takeφ hn1 _ _ ?_ (RpW.ext (e2.trans e3) _ _ r0), hn⟩
                      rw [← S1.len]; exact RpW.low _ _ rw'
                    · cases ht
              cases f with
              | next => exact fun σ' N3 => again σ' N3 hr
              | cont => exact fun σ' N3 => again σ' N3 hr
              | brk => exact fun σ' N3 => hr φ3 H3 e03 S3 σ' N3
              | ret w => exact fun v rv => hr φ3 H3 e03 S3 v rv
        · exact hr.elim
theorem i_while {k : Nat} {c : Bx} {body : Sx} (h : tS R E (.while k c body) D σ H) : tWhile (tT R (con E) c) (tS R E body) D σ H := by
  obtain ⟨φ1, ex, s1, env1, S1, N1, h⟩ := h
  simp only [runS] at h
  refine ⟨fun m σ H' => ∃ φ s env, Sim R φ ex H' s ∧ EnvR R φ ex H' env σ ∧ RunsTo (whileL (fun env s => runT R.Φ R.M R.CI R.FO c env s) (fun env s => runS R.Φ R.M R.CI R.FO R.XI body env s) m env s) (EndOk R ex D φ H') (ExcOk R ex E φ H'), ⟨k, φ1, s1, env1, S1, N1, h⟩, ?_⟩
  rintro m σ H' ⟨φ, s, env, S, N, hr⟩
  cases m with
  | zero => exact hr.elim
  | succ m =>
    simp only [whileL] at hr
    refine tT_mono (tT_bind mono_S S N hr) fun b H2 ⟨φ2, s2, w, S2, N2, e2, r2, h2⟩ => ?_
    subst r2
    cases w with
    | false =>
      simp only [Bool.false_eq_true, if_false] at h2 ⊢
      exact h2 φ2 H2 (Ext.refl _ _) S2 σ N2
    | true =>
      simp only [if_true] at h2 ⊢
      refine ⟨fun σ H' => ∃ φ s env, Sim R φ ex H' s ∧ EnvR R φ ex H' env σ ∧ RunsTo (whileL (fun env s => runT R.Φ R.M R.CI R.FO c env s) (fun env s => runS R.Φ R.M R.CI R.FO R.XI body env s) m env s) (EndOk R ex D φ H') (ExcOk R ex E φ H'), fun σ' H' q => ⟨m, Nat.lt_succ_self _, q⟩, ?_⟩
      refine ⟨φ2, ex, s2, env, S2, N2, ?_⟩
      cases rb : runS R.Φ R.M R.CI R.FO R.XI body env s2 with
      | stuck => rw [rb] at h2; exact h2
      | exc x t => rw [rb] at h2; exact h2
      | ok p s3 =>
        rw [rb] at h2
        obtain ⟨f, env3⟩ := p
        intro φ3 H3 e3 S3
        cases f with
        | next => exact fun σ' N3 => ⟨φ3, s3, env3, S3, N3, RunsTo.grow (E := E) mono_S e3 h2⟩
        | cont => exact fun σ' N3 => ⟨φ3, s3, env3, S3, N3, RunsTo.grow (E := E) mono_S e3 h2⟩
        | brk => exact fun σ' N3 => h2 φ3 H3 e3 S3 σ' N3
        | ret w => exact fun v rv => h2 φ3 H3 e3 S3 v rv
end
end Cc

set_option Elab.async false
set_option linter.all false
set_option maxRecDepth 100000
set_option maxHeartbeats 4000000
/-! Cd8: the base's __init__, called by an own exception class's name. -/
namespace Cd
open PySem PySem.Spec PyProof.Rows PySem.OEX L2
/-- an own class whose __init__ is ValueError's -/
structure VeC (K : PySem.W.Frag) (C : Addr) : Prop where
  rd : PySem.W.readsIn K C (.type "type") = true
  ga : PySem.W.specialIn K (.ref C) "__getattribute__" = some (some (.builtin "type.__getattribute__"))
  at_ : PySem.W.findCls K (.ref C) (.type "type") "__init__" = some (.val (.builtin "ValueError.__init__"))
variable {X : Cx} {e : Expr} {es : List Expr} {ta : TA} {p1 p2 pos : Pos} {B : Addr} {x : Str}
theorem pe_ceinit {pl : PySem.Sem Bool} (T : VeC X.K B) (hg : Gl X x) (hm : X.mg x = some (.ref B)) (hd : (x == ("__debug__" : Str)) = false) (ha : PA X (e :: es) ta)
    (hc : eval (.Call (.Attribute (.Name x p1) "__init__" p2) (e :: es) [] pos) X.env = (do
      let ov ← eval (.Name x p1) X.env
      standAt p2.atName
      let (f, first) ← holding [ov] (getMethod ov "__init__" pl)
      callWith pos f first (backTo pos (starEach (e :: es) X.env)) (backToKw pos (keywordEach [] X.env))))
    (he : starEach (e :: es) X.env = (false, eval e X.env) :: starEach es X.env) (hpl : (backTo pos (starEach es X.env)).any (·.1) = false) :
    PE X (.Call (.Attribute (.Name x p1) "__init__" p2) (e :: es) [] pos) (tVeI X.K ta) := by
  refine ⟨fun pins s σ H Q I h => ?_⟩
  refine PySem.W.methodCall_KW (ld_glob I hg hm ?_ hd) hc
  refine PySem.W.method_cls I.kIn T.ga (PySem.W.cls_value I.kIn T.rd T.at_ (by decide +kernel) ?_)
  show wpAny _ _ (callWith pos (Value.builtin "ValueError.__init__") [] (backTo pos (starEach (e :: es) X.env)) []) _ _ _
  refine PyProof.Rows.callWith_method1 (thn (ha.run pos pins _ σ H _ (I.tok _) h) fun us s1 ⟨vs, H1, I1, r1, a, C, ws, ev, hl, T, ea, q⟩ => ?_) he hpl
  subst ev
  cases r1 with
  | @cons _ u0 _ ur ra rw' =>
    obtain rfl : u0 = Value.ref a := ra
    have hlen : ur.length ≤ PySem.sizeLine := by
      rw [← Paired.length rw', PySem.sizeLine_eq]
      omega
    exact oinit_ok T I1 ea hlen fun s' J => ⟨.non, H1, J, rfl, q⟩
end Cd

set_option Elab.async false
set_option linter.all false
set_option maxRecDepth 100000
set_option maxHeartbeats 4000000
/-! Cd9: what an own exception's __init__ promises: it keeps one field. -/
namespace Cd
open PySem PySem.Spec PyProof.Rows PySem.OEX L2 Cc
/-- the promise of __init__(self, v): the base's __init__, then self.f = v -/
def initSp (K : PySem.W.Frag) (f : Str) : Sp := fun vs H Q _ => ∃ (a C : Addr) (y : V), vs = [.ref a, y] ∧ OexC K C ∧ PySem.W.findIn K (.ref C) f = some none ∧ H a = some (exo a C none) ∧
  ∀ dx, H dx = none → dx ≠ a → Q .non (upd (upd H dx (exd dx [(f, y)])) a (exo a C (some dx)))
variable {K : PySem.W.Frag} {P : Program} {w : World} {mg : Str → Option Value} {base : Heap} {CX : CXT} {N : List Str} {x qual self num bn msg f : Str} {params : Arguments} {scope : Scope} {dvs : List V} {kws : List (Str × V)} {fa B : Addr} {fd : FuncData} {j : Nat} {p1 p2 p3 p4 p5 p6 p7 p8 p9 p10 : Pos}
theorem init_ok {k : Nat} (F : FunD K x qual params [.Expr (.Call (.Attribute (.Name bn p1) "__init__" p2) [.Name self p3, .Constant (.str msg) j p4] [] p5) p6, .Assign [.Attribute (.Name self p7) f p8] (.Name num p9) p10] scope dvs kws fa fd)
    (S : FnScope [self, num] [self, num] scope) (T : VeC K B) (hm : mg bn = some (.ref B)) (hd : (bn == ("__debug__" : Str)) = false) (hg : ∀ X : Cx, X.env.scope = scope → Gl X bn)
    (ds : (self == ("__debug__" : Str)) = false) (dn : (num == ("__debug__" : Str)) = false) (cs : (self == ("__classdict__" : Str)) = false) (cn : (num == ("__classdict__" : Str)) = false)
    (hl : (p2.endLine == p5.line) = true) (hq : ∀ X : Cx, swapsWith (.Call (.Attribute (.Name bn p1) "__init__" p2) [.Name self p3, .Constant (.str msg) j p4] [] p5) none p6.line X.env = pure false) (hq2 : ∀ X : Cx, swapsWith (.Name num p9) (some (.Attribute (.Name self p7) f p8)) p10.line X.env = pure false) :
    FnOk P w K mg base CX (k + 1) fa fd [self, num] (initSp K f) := by
  refine FunD.ok F S (fun vs H Q E ⟨a, C, y, e, _⟩ => by rw [e]; rfl) fun cdv A outer s H vs Q E hr hsp => ?_
  obtain ⟨a, C, y, rfl, T2, hno, ha, hq0⟩ := hsp
  have vis : ∀ z, z ∈ [self, num] → Vis scope z := fun z hz => (S.par z hz).elim .inl fun q => .inr (.inl q)
  generalize hX : cxOf CX P w K mg base [self, num] qual scope fa cdv A outer s H E = X
  have XN : X.N = [self, num] := by subst hX; rfl
  have Xs : X.env.scope = scope := by subst hX; rfl
  have XK : X.K = K := by subst hX; rfl
  have Xm : X.mg = mg := by subst hX; rfl
  have v0 : ∀ p, PE X (.Name self p) (tVar 0) := fun p => pe_var (by rw [XN]; rfl) (by rw [Xs]; exact vis _ (by simp)) ds cs
  have v1 : ∀ p, PE X (.Name num p) (tVar 1) := fun p => pe_var (by rw [XN]; rfl) (by rw [Xs]; exact vis _ (by simp)) dn cn
  have ns : NoStar [.Name self p3, .Constant (.str msg) j p4] := fun e he x p z => by
    simp only [List.mem_cons, List.not_mem_nil, or_false] at he
    rcases he with rfl | rfl <;> cases z
  have ht : eval (.Call (.Attribute (.Name bn p1) "__init__" p2) [.Name self p3, .Constant (.str msg) j p4] [] p5) X.env = (do
      let ov ← eval (.Name bn p1) X.env
      standAt p2.atName
      let (f, first) ← holding [ov] (getMethod ov "__init__" (L2.plainOf (.Name bn p1) X.env))
      callWith p5 f first (backTo p5 (starEach [.Name self p3, .Constant (.str msg) j p4] X.env)) (backToKw p5 (keywordEach [] X.env))) := by
    have e1 : eval (.Call (.Attribute (.Name bn p1) "__init__" p2) [.Name self p3, .Constant (.str msg) j p4] [] p5) X.env = (do
        let ov ← attributeBase (.Name bn p1) "__init__" X.env (eval (.Name bn p1) X.env)
        standAt p2.atName
        methodCall (.Name bn p1) "__init__" p2 p5 X.env ov (2 + ([] : List Keyword).length) (backTo p5 (starEach [.Name self p3, .Constant (.str msg) j p4] X.env)) (backToKw p5 (keywordEach [] X.env))) := rfl
    rw [e1, base_ne (fun _ _ _ _ z => by cases z)]
    congr 1
    funext ov
    congr 1
    funext _
    exact L2.mcall_line (few_all ns (by simp) p5 X.env) hl
  have c1 := pe_ceinit (X := X) (x := bn) (B := B) (e := .Name self p3) (es := [.Constant (.str msg) j p4]) (by rw [XK]; exact T) (hg X Xs) (by rw [Xm]; exact hm) hd (pa_cons (v0 p3) (pa_cons pe_str pa_nil)) ht rfl rfl
  have s1 := ps_expr (pos := p6) c1 (hq X)
  have s2 := ps_ost (f := f) (p' := p8) (pos := p10) (v0 p7) (v1 p9) (hq2 X)
  refine ⟨_, pss_cons s1 (pss_one s2), ?_⟩
  rw [XK]
  refine ⟨.ref a, rfl, a, C, [.str msg], rfl, by simp, T2, ha, ?_⟩
  exact ⟨y, rfl, .ref a, rfl, a, C, rfl, T2, hno, .inl ⟨ha, hq0⟩⟩
end Cd

set_option Elab.async false
set_option linter.all false
set_option maxRecDepth 100000
set_option maxHeartbeats 4000000
/-! Cd10: raise C(e), C an own exception whose __init__ keeps one field. -/
namespace Cd
open PySem PySem.Spec PyProof.Rows PySem.OEX L2 Cc
theorem i_raiseF {R : Gt} {E : XK} {D : Ends} {σ : L2.St} {H : Hp} {c : Nat} {ce : Ex} {f : Str} (T : OexC R.K (R.xa c)) (hno : PySem.W.findIn R.K (.ref (R.xa c)) f = some none)
    (hx : ∀ xs fs, R.XI c xs = some fs → ∃ i, xs = [.int i] ∧ fs = [(f, .int i)]) (h : tS R E (.raise c [ce]) D σ H) :
    tMkO (R.xa c) (initSp R.K f) [] (tA R (con E) [ce]) σ H fun cls d H' => E cls d H' := by
  obtain ⟨φ, ex, s, env, S, N, h⟩ := h
  simp only [runS] at h
  refine tA_mono (tA_bind mono_S S N h) fun vs H1 ⟨φ1, s1, ws, S1, N1, e1, r1, h1⟩ => ?_
  dsimp only at h1 r1
  cases hp : allPure ws with
  | none => rw [hp] at h1; exact h1.elim
  | some xs =>
    rw [hp] at h1
    dsimp only at h1
    cases hxi : R.XI c xs with
    | none => rw [hxi] at h1; exact h1.elim
    | some fs =>
      rw [hxi] at h1
      obtain ⟨i, rfl, rfl⟩ := hx _ _ hxi
      have h1 : ExcOk R ex E φ1 H1 ⟨c, [(f, .int i)]⟩ s1 := h1
      have hw : ws = [.d (.int i)] := by
        cases ws with
        | nil => simp [allPure] at hp
        | cons w ws =>
          cases w with
          | d x =>
            cases q : allPure ws with
            | none => simp [allPure, q] at hp
            | some ys =>
              simp only [allPure, q, Option.some.injEq, List.cons.injEq] at hp
              obtain ⟨rfl, rfl⟩ := hp
              cases ws with
              | nil => rfl
              | cons w2 ws2 =>
                exfalso
                simp only [allPure] at q
                split at q
                · cases q
                · cases q
          | _ => simp [allPure] at hp
      subst hw
      have hv : vs = [.int i] := by
        cases r1 with
        | cons r0 rr =>
          cases rr
          cases r0 with
          | d q =>
            cases q
            rfl
      subst hv
      refine ⟨by simp, fun a ha => ⟨a, R.xa c, .int i, rfl, T, hno, upd_same, fun dx hdx hne => ⟨rfl, dx, [(f, .int i)], upd_same, ?_, ?_, ?_⟩⟩⟩
      · rw [upd_ne hne, upd_same]
      · rw [upd_ne hne] at hdx; exact hdx
      · have hd1 : H1 dx = none := by rw [upd_ne hne] at hdx; exact hdx
        have e : upd (del (upd (upd (upd H1 a (exo a (R.xa c) none)) dx (exd dx [(f, V.int i)])) a (exo a (R.xa c) (some dx))) a) dx (.xd [(f, .int i)]) = upd H1 dx (.xd [(f, .int i)]) := by
          funext b
          by_cases h1 : b = dx
          · subst h1; rw [upd_same, upd_same]
          · rw [upd_ne h1, upd_ne h1]
            by_cases h2 : b = a
            · subst h2; rw [del_same, ha]
            · rw [del_ne h2, upd_ne h2, upd_ne h1, upd_ne h2]
        show E (.ref (R.xa c)) (some dx) _
        rw [e]
        obtain ⟨e2, S2⟩ := S1.new (o := .xd [(f, .int i)]) hd1
        exact h1 φ1 _ (some dx) e2 S2 ⟨by simp, _, upd_same, .cons (.int i) .nil⟩
end Cd

set_option Elab.async false
set_option linter.all false
set_option maxRecDepth 100000
set_option maxHeartbeats 4000000
/-! Cd11: the statement raise C(e). -/
namespace Cd
open PySem PySem.Spec PyProof.Rows PySem.OEX L2 Cc
theorem ps_raiseF {X : Cx} {R : Gt} {E : XK} {CX : CXT} {c k : Nat} {ce : Ex} {e : Expr} {f x : Str} {fI : Addr} {fd : FuncData} {ps : List Str} {p pos pos2 : Pos} (hc : X.calm = true) (tk : Takes X fun cls d _ H => E cls d H) (hK : X.K = R.K)
    (T : OexC R.K (R.xa c)) (hno : PySem.W.findIn R.K (.ref (R.xa c)) f = some none) (iC : PySem.W.findIn R.K (.ref (R.xa c)) "__init__" = some (some (.ref fI))) (tI : PySem.W.typeIn R.K (.ref fI) = some (.type "function"))
    (F1 : FnOk X.prog X.w R.K X.mg X.base CX k fI fd ps (initSp R.K f)) (hr : Room (k + 1) X.A) (hb : Binds R.K fd ps []) (hx : Passes CX X (fun _ _ _ => False)) (hg : Gl X x) (hm : X.mg x = some (.ref (R.xa c))) (hd : (x == ("__debug__" : Str)) = false)
    (ha : PA X [e] (tA R (con E) [ce])) (hs : ∀ y p, e ≠ .Starred y p) (hxi : ∀ xs fs, R.XI c xs = some fs → ∃ i, xs = [.int i] ∧ fs = [(f, .int i)]) :
    PS X (.Raise (some (.Call (.Name x p) [e] [] pos)) none pos2) (tS R E (.raise c [ce])) := by
  have h1 : starEach [e] X.env = (false, eval e X.env) :: starEach [] X.env := by
    have := star_all (es := [e]) (fun e' he y p => by rw [List.mem_singleton.mp he]; exact hs y p) X.env
    rw [this]
    rfl
  rw [← hK] at T iC tI F1 hb
  exact psImp (ps_raise hc tk (pmk_oex (p := p) (pos := pos) T iC tI F1 hr hb .nil hx hg hm ha hd h1 rfl)) fun D σ H q => by
    have q2 := i_raiseF (by rw [← hK]; exact T) hno hxi q
    rw [← hK] at q2
    exact q2
end Cd

set_option linter.all false
set_option maxRecDepth 100000
set_option maxHeartbeats 1000000
/-! Ce: functions made within defs: what stands fast under a callee. -/
namespace Cc
open PySem PySem.Spec PyProof.Rows L2

/-! ### a heap of which only some objects are shown -/
def onlyAt (h : Heap) (p : Addr → Bool) : Heap := { h with objs := h.objs.mapIdx fun i o => if p i then o else { o with data := .freed } }
theorem onlyAt_get {h : Heap} {p : Addr → Bool} {b : Addr} : (onlyAt h p).get? b = if p b then h.get? b else none := by
  unfold onlyAt Heap.get?
  simp only [Array.getElem?_mapIdx]
  cases e : h.objs[b]? with
  | none => simp
  | some o =>
    simp only [Option.map_some]
    by_cases hp : p b = true
    · simp [hp]
    · have hp : p b = false := by simpa using hp
      simp [hp]
theorem onlyAt_size {h : Heap} {p : Addr → Bool} : (onlyAt h p).objs.size = h.objs.size := by
  unfold onlyAt
  simp
/-- the base with the running def's cells -/
def ownCellB (cells : List (Str × Addr)) (b : Addr) : Bool := cells.any fun q => decide (q.2 = b) && decide (cells.lookup q.1 = some b)
theorem ownCellB_iff {cells : List (Str × Addr)} {b : Addr} : ownCellB cells b = true ↔ ∃ y, cells.lookup y = some b := by
  unfold ownCellB
  simp only [List.any_eq_true, Bool.and_eq_true, decide_eq_true_eq]
  constructor
  · rintro ⟨q, _, _, h⟩
    exact ⟨q.1, h⟩
  · rintro ⟨y, h⟩
    exact ⟨(y, b), PySem.mem_of_lookup h, rfl, h⟩
def exB (X : Cx) (h : Heap) : Heap := onlyAt h fun b => (X.base.get? b).isSome || ownCellB X.env.cells b
/-- the running def itself (no block of it), its cells all its own -/
structure OwnX (X : Cx) (R : Gt) : Prop where
  ec : X.env.cells = R.fm.ec
  N : X.N = R.fm.N
  sc : X.env.scope = R.fm.sc
  fn : ∀ x, X.fn x = true
section
variable {X : Cx} {R : Gt} {pins : List (Addr × Obj)} {σ : L2.St} {H : Hp} {s : Shared}
theorem exB_up (I : Inv X pins σ H s) {b : Addr} {o : Obj} (h : X.base.get? b = some o) : (exB X s.heap).get? b = some o := by
  unfold exB
  rw [onlyAt_get, h]
  simp only [Option.isSome_some, Bool.true_or, if_true]
  exact I.bk b o h
theorem exB_of (I : Inv X pins σ H s) {b : Addr} {o : Obj} (h : (exB X s.heap).get? b = some o) : s.heap.get? b = some o ∧ H b = none ∧ ((∃ o, X.base.get? b = some o) ∨ ∃ y, X.env.cells.lookup y = some b) := by
  unfold exB at h
  rw [onlyAt_get] at h
  split at h
  · rename_i hp
    simp only [Bool.or_eq_true] at hp
    rcases hp with hp | hp
    · obtain ⟨u, hu⟩ := Option.isSome_iff_exists.mp hp
      exact ⟨h, (I.bs b u hu).2, .inl ⟨u, hu⟩⟩
    · obtain ⟨y, hy⟩ := ownCellB_iff.mp hp
      exact ⟨h, I.freeC y b hy, .inr ⟨y, hy⟩⟩
  · cases h
theorem exB_cell {y : Str} {c : Addr} {v : Option Value} (hc : X.env.cells.lookup y = some c) (h : s.heap.IsCell c v) : (exB X s.heap).IsCell c v := by
  obtain ⟨o, e, d⟩ := h
  refine ⟨o, ?_, d⟩
  unfold exB
  rw [onlyAt_get, ownCellB_iff.mpr ⟨y, hc⟩]
  simpa using e
theorem gd_up {mg : Str → Option Value} {b b' : Heap} (g : Gd R mg b) (k : ∀ a o, b.get? a = some o → b'.get? a = some o) : Gd R mg b' := fun p hp => ⟨(g p hp).code.keeps k, (g p hp).bm.keeps k, (g p hp).gP⟩
theorem mod_up {K : PySem.W.Frag} {mg : Str → Option Value} {b b' : Heap} (m : L2.Mod K mg b) (k : ∀ a o, b.get? a = some o → b'.get? a = some o) : L2.Mod K mg b' :=
  ⟨m.kin.keeps k, m.glob.keeps k, let ⟨mb, h1, h2⟩ := m.blt; ⟨mb, h1.keeps k, h2⟩, m.nolimit.keeps k⟩
theorem frames_up {h base base' : Heap} : ∀ {l : List PySem.Env}, (∀ b ∈ frs l, base'.get? b = none) → h.FunFrames base l → h.FunFrames base' l
  | [], _, _ => trivial
  | env :: r, hk, ⟨h1, ⟨L, o, hf, hn, ho, hd⟩, hr⟩ => by
    refine ⟨h1, ⟨L, o, hf, hk L ?_, ho, hd⟩, frames_up (fun b hb => hk b ?_) hr⟩
    · unfold frs; rw [List.filterMap_cons, hf]; exact List.mem_cons_self
    · unfold frs; rw [List.filterMap_cons, hf]; exact List.mem_cons_of_mem _ hb
theorem base_nofr (I : Inv X pins σ H s) : ∀ b ∈ frs X.stack, X.base.get? b = none := fun b hb => by
  have := (I.stack.mem hb).1
  exact this
theorem env0_ex (I : Inv X pins σ H s) (O : ∀ x, X.fn x = true) : Env0 X.prog X.w X.K X.mg (exB X s.heap) X.A X.stack s H where
  frames := I.ok.frames
  mod := mod_up I.ok.mod fun a o e => exB_up I e
  bs := fun b o e => ⟨(exB_of I e).1, (exB_of I e).2.1⟩
  bsz := by unfold exB; rw [onlyAt_size]; exact Nat.le_refl _
  funs := frames_up (fun b hb => by
    cases e : (exB X s.heap).get? b with
    | none => rfl
    | some o =>
      rcases (exB_of I e).2.2 with ⟨u, hu⟩ | ⟨y, hy⟩
      · rw [base_nofr I b hb] at hu; cases hu
      · rcases List.mem_cons.mp (I.stkSub b hb) with z | z
        · exact absurd z (I.cne y b hy)
        · have h1 := I.ok.cab y b (O y) hy
          obtain ⟨_, o', ho', _⟩ := I.ok.funs.mem z
          exact absurd (Heap.lt_size ho') (Nat.not_lt.mpr h1)) I.stack
  frf := I.stkFree
  hok := I.hok
  bare := I.bare
theorem capt_at {base : Heap} {cl : List (Str × Addr)} {fr : List Str} {us : List V} (c : Capt base cl fr us) (k : ∀ b o, base.get? b = some o → s.heap.get? b = some o ∧ H b = none) : NdefX.CellsAt cl fr (us.map some) s.heap H := by
  refine ⟨by rw [List.length_map]; exact c.len, fun y a e => ?_, c.inj, fun i y e => ?_⟩
  · obtain ⟨v, o, ho, hd⟩ := c.all y a e
    exact ⟨(k _ _ ho).2, v, o, (k _ _ ho).1, hd⟩
  · obtain ⟨a, ha, hv⟩ := c.has i y e
    refine ⟨a, ha, fun v ev => ?_⟩
    rw [List.getElem?_map] at ev
    cases eu : us[i]? with
    | none => rw [eu] at ev; cases ev
    | some u0 =>
      rw [eu] at ev
      cases ev
      obtain ⟨u, r, o, ho, hd⟩ := hv _ eu
      exact ⟨u, r, o, (k _ _ ho).1, hd⟩
theorem capt_up {b b' : Heap} (k : ∀ a o, b.get? a = some o → b'.get? a = some o) {cl : List (Str × Addr)} {fr : List Str} {us : List V} (c : Capt b cl fr us) : Capt b' cl fr us := by
  refine ⟨c.len, fun y a e => ?_, c.inj, fun i y e => ?_⟩
  · obtain ⟨v, o, ho, hd⟩ := c.all y a e
    exact ⟨v, o, k _ _ ho, hd⟩
  · obtain ⟨a, ha, hv⟩ := c.has i y e
    refine ⟨a, ha, fun v ev => ?_⟩
    obtain ⟨u, r, o, ho, hd⟩ := hv v ev
    exact ⟨u, r, o, k _ _ ho, hd⟩
end
section
variable {X : Cx} {R : Gt} {pins : List (Addr × Obj)} {σ : L2.St} {H : Hp} {s : Shared} {φ : Ph} {ex : List Addr} {env : Env}
theorem RpA.same {b b' : Heap} (hb : R.fm.base = b') (k : ∀ cl fr us, Capt b' cl fr us → Capt b cl fr us) {w : W} {v : V} (h : RpA R φ ex H v w) : RpA (R.at b) φ ex H v w :=
  RpA.map (fun _ => True) (fun _ _ _ _ _ => trivial) (fun cl fr us c => k cl fr us (hb ▸ c)) (fun w v _ r => RpW.tr at_same w v r) (fun _ _ _ _ r => ⟨r.nd, r.is, r.fo, r.fm, r.co, r.cm⟩) w v trivial h
theorem convJ_ok {b : Heap} {g : W → Option W} (hg : ∀ w w' v, EntR R φ ex H v w → g w = some w' → RpA (R.at b) φ ex H v w') (N : EnvR R φ ex H env σ) : ∀ {js : List Nat} {ws : List W}, convJ g env js = some ws →
    ∃ us : List V, js.map (NdefX.slotAt σ) = us.map some ∧ RpAL (R.at b) φ ex H us ws
  | [], ws, h => by
    simp only [convJ] at h
    cases h
    exact ⟨[], rfl, .nil⟩
  | j :: js, ws, h => by
    simp only [convJ] at h
    split at h
    · rename_i w ws' h1 h2
      cases h
      cases e : raw env j with
      | none => rw [e] at h1; cases h1
      | some w0 =>
        rw [e] at h1
        obtain ⟨v, hv, r⟩ := N.raw e
        obtain ⟨us, q1, q2⟩ := convJ_ok hg N h2
        refine ⟨v :: us, ?_, .cons (hg _ _ _ r h1) q2⟩
        rw [List.map_cons, List.map_cons, q1, NdefX.slotAt_of hv]
    · cases h
/-- what is handed over is known under the larger base -/
theorem conv_ex (I : Inv X pins σ H s) (hB : X.base = R.fm.base) (O : OwnX X R) (N : EnvR R φ ex H env σ) : ∀ (f : Nat) (w w' : W) (v : V), EntR R φ ex H v w → conv env f w = some w' → RpA (R.at (exB X s.heap)) φ ex H v w'
  | f, w, w', v, r, h => by
    have up : ∀ cl fr us, Capt X.base cl fr us → Capt (exB X s.heap) cl fr us := fun cl fr us c => capt_up (fun a o e => exB_up I e) c
    rcases r with r | ⟨k, js, rfl, f0, F, n, rfl, q1, q2, q3, q4⟩
    · have e : w' = w := by
        cases r with
        | w r => cases f <;> cases w <;> simp only [conv] at h <;> first | (cases h; rfl) | (cases r; done)
        | clo a b c => cases f <;> simp only [conv] at h <;> (cases h; rfl)
      subst e
      exact r.same hB.symm up
    · cases f with
      | zero => simp only [conv] at h; cases h
      | succ f =>
        simp only [conv] at h
        obtain ⟨ws, hws, rfl⟩ := map_of h
        obtain ⟨us, e1, r1⟩ := convJ_ok (fun w w' v r h => conv_ex I hB O N f w w' v r h) N hws
        refine .clo ⟨q1.nd, q1.is, q1.fo, q1.fm, q1.co, q1.cm⟩ ?_ r1
        rw [← O.ec] at q2
        rw [← O.sc] at q3
        rw [← O.N] at q4
        have cp := NdefX.Caps.made (scope := n.scope) (fr := n.fr) (js := js) I.ok (NdefX.ndef_free q3) (NdefX.ndef_fr q3) q4
        have ca := NdefX.cells_of I cp
        rw [← q2, e1] at ca
        rw [← q2] at cp
        refine ⟨?_, fun y c e => ?_, ca.inj, fun i y e => ?_⟩
        · have := ca.len
          rwa [List.length_map] at this
        · obtain ⟨_, v, z⟩ := ca.all y c e
          exact ⟨v, exB_cell (cp.sub y c e) z⟩
        · obtain ⟨c, hc, hv⟩ := ca.has i y e
          refine ⟨c, hc, fun v ev => ?_⟩
          obtain ⟨u, ru, z⟩ := hv v (by rw [List.getElem?_map, ev]; rfl)
          exact ⟨u, ru, exB_cell (cp.sub y c hc) z⟩
theorem conv_no (hB : X.base = R.fm.base) (w w' : W) (v : V) (r : EntR R φ ex H v w) (h : conv env 0 w = some w') : RpA (R.at X.base) φ ex H v w' := by
  rcases r with r | ⟨k, js, rfl, f0, F, n, rfl, q1, q2, q3, q4⟩
  · have e : w' = w := by
      cases r with
      | w r => cases w <;> simp only [conv] at h <;> first | (cases h; rfl) | (cases r; done)
      | clo a b c => simp only [conv] at h; cases h; rfl
    subst e
    exact r.same hB.symm fun _ _ _ z => z
  · simp only [conv] at h; cases h
/-- a base for a callee that gets such functions -/
theorem base_for {E : L2.St → XK} {k : Nat} (C : XOk X R E k) {f : Nat} (O : 0 < f → OwnX X R) (I : Inv X pins σ H s) (N : EnvR R φ ex H env σ) :
    ∃ b, Gd R X.mg b ∧ Env0 X.prog X.w X.K X.mg b X.A X.stack s H ∧ ∀ w w' v, EntR R φ ex H v w → conv env f w = some w' → RpA (R.at b) φ ex H v w' := by
  cases f with
  | zero => exact ⟨X.base, C.gd, I.env0, fun w w' v r h => conv_no C.hB w w' v r h⟩
  | succ f =>
    have O := O (Nat.succ_pos _)
    exact ⟨exB X s.heap, gd_up C.gd fun a o e => exB_up I e, env0_ex I O.fn, fun w w' v r h => conv_ex I C.hB O N (f + 1) w w' v r h⟩
end
end Cc

set_option linter.all false
set_option maxRecDepth 100000
set_option maxHeartbeats 1000000
/-! Ce: calls of functions made within defs, calls that hand such over. -/
namespace Cc
open PySem PySem.Spec PyProof.Rows L2

/-- the k-th def, made within another, keeps its promise -/
structure NOkD (P : Program) (w : World) (K : PySem.W.Frag) (mg : Str → Option Value) (R : Gt) (k : Nat) (n : Nd) : Prop where
  run : ∀ (base : Heap) (f : Addr) (F : NdefX.NF), Gd R mg base → IsNd n F → ∀ (A : Around) (outer : List PySem.Env) (s : Shared) (H : Hp) (us : List Value) (vs cs : List V) (Q : VK) (E : XK), Room (2 * k + 2) A → Env0 P w K mg base A outer s H →
    H f = some (FnG f F n.lam) → H F.c = some (LamX.CodeO F.c F.qual) → NdefX.CellsAt F.cl n.fr (cs.map some) s.heap H → Vals vs us → vs.length = n.ps.length → spF (R.at base) k (n.ps.length + n.fr.length) (vs ++ cs) H Q E →
    codeAny (model P w) A (.call (.ref f) ⟨us, []⟩) (CR (L2.CX P w) outer P w H s Q E) s
section
variable {R : Gt} {φ : Ph} {ex : List Addr} {H : Hp} {s : Store}
theorem allPure_clo {k : Nat} {o : Option (List Nat)} {cs ws : List W} : allPure (.clo k o cs :: ws) = none := by simp only [allPure]
theorem RpAL.split : ∀ {ws : List W} {vs : List V}, RpAL R φ ex H vs ws → RpWL R φ ex H vs ws ∨ (allPure ws = none ∧ ∀ s, lendL s ws = none)
  | _, _, .nil => .inl .nil
  | w :: ws, _, .cons r t => by
    rcases RpAL.split t with t | ⟨h1, h2⟩
    · cases r with
      | w r => exact .inl (.cons r t)
      | clo a b c => exact .inr ⟨allPure_clo, fun s => by simp only [lendL, top]⟩
    · refine .inr ⟨?_, fun s => ?_⟩
      · cases w <;> simp only [allPure, h1]
      · simp only [lendL, h2]
        cases top s w <;> rfl
theorem callM_a {m : Cm} {i : Nat} {ws : List W} {vs : List V} {Q : VK} {E : XK} {b : Heap} (S : Sim R φ ex H s) (r : RpAL (R.at b) φ ex H vs ws) (h : RunsTo (callM m (R.Φ i) ws s) (RetW R ex Q φ H) (ExcOk R ex E φ H)) :
    ∃ φ0 ex0 s0 ws0, Sim R φ0 ex0 H s0 ∧ RpAL (R.at b) φ0 ex0 H vs ws0 ∧ RunsTo (R.Φ i ws0 s0) (RetW R ex0 Q φ0 H) (ExcOk R ex0 E φ0 H) := by
  rcases r.split with r2 | ⟨h1, h2⟩
  · obtain ⟨φ0, ex0, s0, ws0, S0, r0, h0⟩ := callM_ok S (RpWL.tr at_same.symm _ _ r2) h
    exact ⟨φ0, ex0, s0, ws0, S0, .of (RpWL.tr at_same _ _ r0), h0⟩
  · cases m with
    | lend => simp only [callM, h2] at h; exact h.elim
    | frz => simp only [callM, h1] at h; exact ⟨φ, ex, s, ws, S, r, h⟩
    | keep => simp only [callM, h1] at h; exact ⟨φ, ex, s, ws, S, r, h⟩
end
section
variable {X : Cx} {R : Gt} {E : L2.St → XK} {k : Nat} {p pos apos : Pos} {o : Expr} {es : List Expr} {co : Ex} {ces : List Ex}
theorem fnG_at {P : Program} {w : World} {H : Hp} {h : Heap} {f : Addr} {F : NdefX.NF} {o : Option Expr} (hok : HOk P w H h) (e : H f = some (FnG f F o)) : PySem.W.FnAt f h := by
  cases o with
  | none =>
    obtain ⟨od, sl, doc, pm, ctv, ho⟩ := NdefX.fnO_at hok e
    exact ⟨_, od, _, sl, ho⟩
  | some b =>
    obtain ⟨⟨od, sl, pm, ctv, ho⟩, _, _⟩ := hok f _ e
    exact ⟨_, od, _, sl, ho⟩
/-- the callee's run, told to the caller -/
theorem run_d {pins : List (Addr × Obj)} {σ : L2.St} {H : Hp} {s : Shared} {Q : VK} {E : XK} {f : Addr} {us : List Value} (hx : PassesAt (L2.CX X.prog X.w) X σ E) (I : Inv X pins σ H s)
    (h : codeAny (model X.prog X.w) X.A (.call (.ref f) ⟨us, []⟩) (CR (L2.CX X.prog X.w) X.stack X.prog X.w H s Q E) s) : wpAny (model X.prog X.w) X.A (call (.ref f) us) (EP X pins σ Q) X.xe s := by
  refine wpAny_call (codeAny_mono h fun r s' hq => ?_)
  cases r with
  | error e => exact hx pins H s e s' I hq
  | ok fl =>
    cases fl with
    | ret u => exact I.after hq
    | next => exact False.elim hq
    | brk => exact False.elim hq
    | cont => exact False.elim hq
theorem conv_clo {env : Env} {f k : Nat} {w : W} {cs : List W} (h : conv env f w = some (.clo k none cs)) : ∃ o ws, w = .clo k o ws := by
  cases w with
  | clo k' o ws =>
    cases o with
    | none => cases f <;> simp only [conv] at h <;> (cases h; exact ⟨_, _, rfl⟩)
    | some js =>
      cases f with
      | zero => simp only [conv] at h; cases h
      | succ f =>
        simp only [conv] at h
        obtain ⟨ws, _, e⟩ := map_of h
        cases e
        exact ⟨_, _, rfl⟩
  | _ => cases f <;> simp only [conv] at h <;> cases h
theorem EntR.fn {φ : Ph} {ex : List Addr} {H : Hp} {v : V} {j : Nat} {o : Option (List Nat)} {ws : List W} (h : EntR R φ ex H v (.clo j o ws)) : ∃ f F n, v = .ref f ∧ FnR R φ ex H j f F n := by
  rcases h with h | ⟨k, js, e, f, F, n, hv, q, _⟩
  · cases h with
    | w h => cases h
    | clo a b c => exact ⟨_, _, _, rfl, a⟩
  · cases e
    exact ⟨f, F, n, hv, q⟩
/-- f(e, ..), f a name that holds a function made within a def -/
theorem p_callc {x : Str} {i b f : Nat} {m : Cm} (C : XOk X R E k) (O : 0 < f → OwnX X R) (hB : ∀ j, j < b → ∀ n, R.nd j = some n → NOkD X.prog X.w X.K X.mg R j n ∧ (∀ ws s, ws.length ≠ n.ps.length + n.fr.length → R.Φ j ws s = .stuck) ∧ 2 * j + 2 ≤ k)
    (hN : X.N[i]? = some x) (hv : Vis X.env.scope x) (hdb : (x == ("__debug__" : Str)) = false) (hcd : (x == ("__classdict__" : Str)) = false)
    (hs : NoStar es) (hz : es = [] → ces = []) (ha : PA X es (tA R E ces)) : PE X (.Call (.Name x p) es [] pos) (tD R E (.callc m f b i ces)) := by
  refine ⟨fun pins s σ H Q I h => ?_⟩
  obtain ⟨φ, ex, st, env, S, N, h⟩ := h
  simp only [runE] at h
  split at h
  · rename_i j cs hj
    split at h
    · rename_i hjb
      cases hr : raw env i with
      | none => rw [hr] at hj; cases hj
      | some w0 =>
        rw [hr] at hj
        have hj : conv env f w0 = some (.clo j none cs) := hj
        obtain ⟨o0, ws0, rfl⟩ := conv_clo hj
        obtain ⟨v, hσ, r0⟩ := N.raw hr
        obtain ⟨fa, F0, n0, rfl, q0⟩ := r0.fn
        have fin : ∀ (us : List Value) (vs : List V) (s2 : Shared) (H2 : Hp), Inv X pins σ H2 s2 → Vals vs us →
            (∃ φ2 st2 ws, Sim R φ2 ex H2 st2 ∧ EnvR R φ2 ex H2 env σ ∧ EntR R φ2 ex H2 (.ref fa) (.clo j o0 ws0) ∧ RpWL R φ2 ex H2 vs ws ∧ RunsTo (callM m (R.Φ j) (ws ++ cs) st2) (RetW R ex Q φ2 H2) (ExcOk R ex (E σ) φ2 H2)) →
            wpAny (model X.prog X.w) X.A (call (.ref fa) us) (EP X pins σ Q) X.xe s2 := by
          rintro us vs s2 H2 I2 r ⟨φ2, st2, ws, S2, N2, rr, r2, h2⟩
          obtain ⟨bs, gb, e0, hc⟩ := base_for C O I2 N2
          have ra := hc _ _ _ rr hj
          cases ra with
          | w z => cases z
          | @clo _ F n _ cu _ q1 q2 q3 =>
            obtain ⟨D, hne, hk⟩ := hB j hjb n q1.nd
            have hcl : cu.length = n.fr.length := q2.len
            obtain ⟨φ0, ex0, s0, ws1, S0, r0', h0⟩ := callM_a S2 (RpAL.append (.of (RpWL.tr (at_same (b := bs)) _ _ r2)) q3) h2
            have hlen : (vs ++ cu).length = n.ps.length + n.fr.length := by
              rw [r0'.length]
              by_cases hz : ws1.length = n.ps.length + n.fr.length
              · exact hz
              · rw [hne _ _ hz] at h0; exact h0.elim
            have hl2 : vs.length = n.ps.length := by
              rw [List.length_append, hcl] at hlen
              omega
            exact run_d (C.pass σ) I2 (D.run bs fa F gb q1.is X.A X.stack s2 H2 us vs cu Q (E σ) (C.room.mono hk) e0 q1.fo q1.co (capt_at q2 e0.bs) r hl2 (spF_a hlen S0 r0' h0))
        refine wpAny_Call_Name_kw (thn ((pe_var (pos := p) hN hv hdb hcd).run pins s σ H (fun v H1 => v = .ref fa ∧ H1 = H) I ⟨_, hσ, rfl, rfl⟩) fun u s1 ⟨v, H1, I1, r1, e1⟩ => ?_)
        obtain ⟨rfl, rfl⟩ := e1
        obtain rfl : u = Value.ref fa := r1
        cases es with
        | nil =>
          refine PySem.W.callWith_F0 (first := []) (fnG_at I1.hok q0.fo) ?_
          show wpAny _ _ (call (.ref fa) []) _ _ _
          refine fin [] [] s1 _ I1 .nil ?_
          rw [hz rfl] at h
          simp only [runEs, Res.bind_ok] at h
          exact ⟨φ, st, [], S, N, r0, .nil, h⟩
        | cons e es =>
          have he := star_ne (hs e (by simp)) es X.env
          refine PySem.W.callWith_F (first := []) (fnG_at I1.hok q0.fo) (thn (ha.run pos pins s1 σ _ _ I1 (tA_bind mono_W S N h)) fun us s2 ⟨vs, H2, I2, r, φ2, st2, ws, S2, N2, e2, r2, h2⟩ => ⟨fnG_at I2.hok (q0.ext e2).fo, ?_⟩) he (star_none (fun x hx => hs x (by simp [hx])) pos X.env)
          show wpAny _ _ (call (.ref fa) us) _ _ _
          exact fin us vs s2 H2 I2 r ⟨φ2, st2, ws, S2, N2, r0.ext e2, r2, h2⟩
    · exact h.elim
  · exact h.elim
end
end Cc

set_option linter.all false
set_option maxRecDepth 100000
set_option maxHeartbeats 1000000
/-! Ce: functions made within defs: how they are made. -/
namespace Cc
open PySem PySem.Spec PyProof.Rows L2

/-! ### the looks at texts are right -/
theorem eqArgs_eq : ∀ {a b : List Arg}, eqArgs a b = true → a = b
  | [], [], _ => rfl
  | ⟨x, none, p⟩ :: r, ⟨y, none, q⟩ :: t, h => by
    simp only [eqArgs, Bool.and_eq_true, decide_eq_true_eq] at h
    obtain ⟨⟨rfl, rfl⟩, h⟩ := h
    rw [eqArgs_eq h]
  | [], _ :: _, h => by simp [eqArgs] at h
  | _ :: _, [], h => by simp [eqArgs] at h
  | ⟨x, some _, p⟩ :: r, _ :: _, h => by simp [eqArgs] at h
  | ⟨x, none, p⟩ :: r, ⟨y, some _, q⟩ :: t, h => by simp [eqArgs] at h
theorem eqArgs_plain : ∀ {a b : List Arg}, eqArgs a b = true → ∀ x ∈ b, x.annotation = none
  | [], [], _, x, h => by simp at h
  | ⟨x, none, p⟩ :: r, ⟨y, none, q⟩ :: t, h, z, hz => by
    simp only [eqArgs, Bool.and_eq_true, decide_eq_true_eq] at h
    rcases List.mem_cons.mp hz with rfl | hz
    · rfl
    · exact eqArgs_plain h.2 z hz
  | [], _ :: _, h, _, _ => by simp [eqArgs] at h
  | _ :: _, [], h, _, _ => by simp [eqArgs] at h
  | ⟨x, some _, p⟩ :: r, _ :: _, h, _, _ => by simp [eqArgs] at h
  | ⟨x, none, p⟩ :: r, ⟨y, some _, q⟩ :: t, h, _, _ => by simp [eqArgs] at h
theorem eqPars_eq {a b : Arguments} (h : eqPars a b = true) : a = b ∧ ∃ as, b = ⟨[], as, none, [], [], none, []⟩ ∧ ∀ x ∈ as, x.annotation = none := by
  unfold eqPars at h
  split at h
  · rw [eqArgs_eq h]
    exact ⟨rfl, _, rfl, eqArgs_plain h⟩
  · cases h
mutual
theorem eqX_eq : ∀ {n : Nat} {x y : Expr}, eqX n x y = true → x = y
  | 0, _, _, h => by simp [eqX] at h
  | n + 1, x, y, h => by
    unfold eqX at h
    split at h <;> (try simp only [Bool.and_eq_true, decide_eq_true_eq] at h)
    · obtain ⟨rfl, rfl⟩ := h; rfl
    · obtain ⟨⟨rfl, rfl⟩, rfl⟩ := h; rfl
    · obtain ⟨⟨a, rfl⟩, rfl⟩ := h; rw [eqX_eq a]
    · obtain ⟨⟨a, b⟩, rfl⟩ := h; rw [eqX_eq a, eqX_eq b]
    · obtain ⟨⟨⟨a, b⟩, c⟩, rfl⟩ := h; rw [eqXo_eq a, eqXo_eq b, eqXo_eq c]
    · obtain ⟨⟨a, rfl⟩, rfl⟩ := h; rw [eqXs_eq a]
    · obtain ⟨a, rfl⟩ := h; rw [eqXs_eq a]
    · obtain ⟨⟨⟨a, rfl⟩, b⟩, rfl⟩ := h; rw [eqX_eq a, eqX_eq b]
    · obtain ⟨⟨rfl, a⟩, rfl⟩ := h; rw [eqXs_eq a]
    · obtain ⟨⟨rfl, a⟩, rfl⟩ := h; rw [eqX_eq a]
    · obtain ⟨⟨⟨a, rfl⟩, b⟩, rfl⟩ := h; rw [eqX_eq a, eqXs_eq b]
    · obtain ⟨⟨⟨a, b⟩, c⟩, rfl⟩ := h; rw [eqX_eq a, eqX_eq b, eqX_eq c]
    · obtain ⟨⟨a, b⟩, rfl⟩ := h; rw [eqX_eq a, eqXs_eq b]
    · obtain ⟨⟨⟨⟨⟨⟨a, b⟩, c⟩, d⟩, rfl⟩, rfl⟩, rfl⟩ := h; rw [eqX_eq a, eqX_eq b, eqX_eq c, eqXs_eq d]
    · cases h
theorem eqXs_eq : ∀ {n : Nat} {x y : List Expr}, eqXs n x y = true → x = y
  | 0, _, _, h => by simp [eqXs] at h
  | n + 1, x, y, h => by
    unfold eqXs at h
    split at h <;> (try simp only [Bool.and_eq_true] at h)
    · rfl
    · rw [eqX_eq h.1, eqXs_eq h.2]
    · cases h
theorem eqXo_eq : ∀ {n : Nat} {x y : Option Expr}, eqXo n x y = true → x = y
  | 0, _, _, h => by simp [eqXo] at h
  | n + 1, x, y, h => by
    unfold eqXo at h
    split at h
    · rfl
    · rw [eqX_eq h]
    · cases h
end
mutual
theorem eqS_eq : ∀ {n : Nat} {x y : Stmt}, eqS n x y = true → x = y
  | 0, _, _, h => by simp [eqS] at h
  | n + 1, x, y, h => by
    unfold eqS at h
    split at h <;> (try simp only [Bool.and_eq_true, decide_eq_true_eq] at h)
    · obtain ⟨a, rfl⟩ := h; rw [eqXo_eq a]
    · obtain ⟨a, rfl⟩ := h; rw [eqX_eq a]
    · obtain ⟨⟨a, b⟩, rfl⟩ := h; rw [eqXs_eq a, eqX_eq b]
    · obtain ⟨⟨⟨a, b⟩, c⟩, rfl⟩ := h; rw [eqX_eq a, eqSs_eq b, eqSs_eq c]
    · cases h
theorem eqSs_eq : ∀ {n : Nat} {x y : List Stmt}, eqSs n x y = true → x = y
  | 0, _, _, h => by simp [eqSs] at h
  | n + 1, x, y, h => by
    unfold eqSs at h
    split at h <;> (try simp only [Bool.and_eq_true] at h)
    · rfl
    · rw [eqS_eq h.1, eqSs_eq h.2]
    · cases h
end
/-- what madeB tells -/
structure Made (T : TEnv) (pos : Pos) (name : Str) (n : Nd) (js : List Nat) (params : Arguments) (scope : Scope) : Prop where
  hown : T.own = true
  hnm : T.nm pos.line pos.col = T.qual ++ name
  hqual : n.qual = T.qual ++ name
  hname : n.name = name
  hpar : n.params = params
  hpl : ∃ as, params = ⟨[], as, none, [], [], none, []⟩ ∧ ∀ x ∈ as, x.annotation = none
  hsc : n.scope = scope
  hfr : NdefX.ndefB T.sc scope n.fr = true
  hjs : jsOf T.N n.fr = some js
theorem made_of {T : TEnv} {pos : Pos} {name : Str} {n : Nd} {js : List Nat} {params : Arguments} {scope : Scope} (h : madeB T pos name n js params scope = true) : Made T pos name n js params scope := by
  unfold madeB at h
  simp only [Bool.and_eq_true, decide_eq_true_eq] at h
  obtain ⟨⟨⟨⟨⟨⟨⟨h1, h2⟩, h3⟩, h4⟩, h5⟩, h6⟩, h7⟩, h8⟩ := h
  obtain ⟨e, pl⟩ := eqPars_eq h5
  exact ⟨h1, h2, h3, h4, e, pl, h6, h7, h8⟩
theorem pickN_of {p : Nd → List Nat → Bool} {N : List Str} : ∀ {l : List (Nat × Nd)} {k : Nat} {js : List Nat}, pickN p N l = some (k, js) → ∃ n, (k, n) ∈ l ∧ p n js = true
  | [], _, _, h => by simp [pickN] at h
  | (k', n) :: r, k, js, h => by
    simp only [pickN] at h
    split at h
    · split at h
      · rename_i hp
        cases h
        exact ⟨n, List.mem_cons_self, hp⟩
      · obtain ⟨m, h1, h2⟩ := pickN_of h
        exact ⟨m, List.mem_cons_of_mem _ h1, h2⟩
    · obtain ⟨m, h1, h2⟩ := pickN_of h
      exact ⟨m, List.mem_cons_of_mem _ h1, h2⟩
theorem jsOf_map {N : List Str} : ∀ {fr : List Str} {js : List Nat}, jsOf N fr = some js → js.map (fun j => N[j]?) = fr.map some
  | [], js, h => by simp only [jsOf] at h; cases h; rfl
  | y :: ys, js, h => by
    simp only [jsOf] at h
    split at h
    · rename_i j js' h1 h2
      cases h
      have e := (ixOf_at h1).2
      rw [List.map_cons, List.map_cons, jsOf_map h2, ← e]
      simp
    · cases h
theorem lamOf_of {T : TEnv} {params : Arguments} {body : Expr} {scope : Scope} {pos : Pos} {k : Nat} {js : List Nat} (h : lamOf T params body scope pos = some (k, js)) : ∃ n, (k, n) ∈ T.nd ∧ n.lam = some body ∧ n.body = [] ∧ Made T pos "<lambda>" n js params scope := by
  obtain ⟨n, hm, hp⟩ := pickN_of h
  simp only [Bool.and_eq_true] at hp
  obtain ⟨h1, h2⟩ := hp
  unfold isLamB at h1
  simp only [Bool.and_eq_true] at h1
  obtain ⟨h3, h4⟩ := h1
  refine ⟨n, hm, ?_, by simpa using h4, made_of h2⟩
  split at h3
  · rename_i e he; rw [he, eqX_eq h3]
  · cases h3
theorem defOf_of {T : TEnv} {name : Str} {params : Arguments} {body : List Stmt} {scope : Scope} {pos : Pos} {k : Nat} {js : List Nat} (h : defOf T name params body scope pos = some (k, js)) : ∃ n, (k, n) ∈ T.nd ∧ n.lam = none ∧ n.body = body ∧ Made T pos name n js params scope := by
  obtain ⟨n, hm, hp⟩ := pickN_of h
  simp only [Bool.and_eq_true] at hp
  obtain ⟨h1, h2⟩ := hp
  unfold isDefB at h1
  simp only [Bool.and_eq_true] at h1
  exact ⟨n, hm, by simpa using h1.1, eqSs_eq h1.2, made_of h2⟩
theorem annOf_none : ∀ {as : List Arg} {env : PySem.Env}, (∀ x ∈ as, x.annotation = none) → annotationsOf as env = []
  | [], _, _ => rfl
  | ⟨x, a, p⟩ :: r, env, h => by
    have e : a = none := h _ List.mem_cons_self
    subst e
    have ih := annOf_none (env := env) fun x hx => h x (List.mem_cons_of_mem _ hx)
    simp only [annotationsOf, ih]
section
variable {R : Gt} {φ : Ph} {ex : List Addr} {H H' : Hp} {s : Store}
/-- all but the code tables stays, nothing goes -/
theorem Sim.growN (S : Sim R φ ex H s) (g : LamX.ExtN H H') (nn : ∀ b, H' b = none → H b = none) (T : NdefX.TabsN R.T H') : Ext φ H φ H' ∧ Sim R φ ex H' s := by
  have E : Ext φ H φ H' := ⟨fun a u h _ t => g a u h t, nn, fun _ z => .inl z, Nat.le_refl _, fun _ _ _ h => h⟩
  refine ⟨E, S.len, fun n c h => ?_, S.one, S.off, fun a ha => ?_, fun q hq => ⟨(E.mu (S.kn q hq).1 (S.kn q hq).2.1 (S.kn q hq).2.2).1, (E.mu (S.kn q hq).1 (S.kn q hq).2.1 (S.kn q hq).2.2).2, (S.kn q hq).2.2⟩, T⟩
  · rcases S.cell n c h with q | ⟨a, e, q⟩
    · exact .inl q
    · refine .inr ⟨a, e, q.ext E ?_⟩
      obtain ⟨o', ho, c'⟩ := q.there
      rw [ho, g _ _ ho (cel_nt c')]
  · obtain ⟨u, e, c⟩ := S.exT a ha
    exact ⟨u, g _ _ e (cel_nt c), c⟩
/-- the def's own function, new -/
theorem own_new {T : TEnv} {pos : Pos} {name : Str} {n : Nd} {js : List Nat} {params : Arguments} {scope : Scope} {X : Cx} {k : Nat} {f : Addr} {F : NdefX.NF} (M : Made T pos name n js params scope) (O : OwnX X R) (hN : X.N = T.N) (hsc : X.env.scope = T.sc) (hnd : R.nd k = some n) (is : IsNd n F)
    (hcl : F.cl = cloFrom X.env.cells scope.names []) (S : Sim R φ ex H s) (E : Ext φ H φ H') (S' : Sim R φ ex H' s) (f0 : H f = none) (f1 : H' f = some (FnG f F n.lam)) (c1 : H' F.c = some (LamX.CodeO F.c F.qual)) : EntR R φ ex H' (.ref f) (.clo k (some js) []) := by
  refine .inr ⟨k, js, rfl, f, F, n, rfl, ⟨hnd, is, f1, S.fresh f0, c1, fun z => ?_⟩, ?_, ?_, ?_⟩
  · obtain ⟨o, e, c⟩ := S'.mu z
    rw [c1] at e
    cases e
    exact cel_nc c _ _ rfl
  · rw [hcl, O.ec, M.hsc]
  · rw [← O.sc, hsc, M.hsc]; exact M.hfr
  · rw [← O.N, hN]; exact jsOf_map M.hjs
end
/-- where defs within defs are made -/
structure MkX (T : TEnv) (X : Cx) (R : Gt) : Prop where
  ex : ∃ c P, X.env.code = .ref c ∧ (c, P) ∈ R.cs ∧ (P, T.nm) ∈ R.T ∧ (∀ p ∈ R.T, p.1 = P → p.2 = T.nm) ∧ X.env.qual = T.qual
section
variable {T : TEnv} {X : Cx} {R : Gt} {E : L2.St → XK} {k : Nat} {pos : Pos}
/-- def within a def -/
theorem i_ndef {D : L2.Ends} {σ : L2.St} {H : Hp} {i j : Nat} {js : List Nat} {E1 : XK} {mk : Addr → NdefX.NF} (hq : ∀ (φ : Ph) (ex : List Addr) (s : Store) (f c' : Addr) (H1 : Hp), Sim R φ ex H s → Ext φ H φ H1 → Sim R φ ex H1 s → H f = none → H1 f = some (NdefX.FnO f (mk c')) → H1 c' = some (LamX.CodeO c' (mk c').qual) → EntR R φ ex H1 (.ref f) (.clo j (some js) []))
    (h : tS R E1 (.ndef i j js) D σ H) : NdefX.tNdefM R.T i mk D σ H := by
  obtain ⟨φ, ex, s, env, S, N, h⟩ := h
  simp only [runS] at h
  refine ⟨S.T, fun f c' H1 eN nn T1 f0 f1 c1 => ?_⟩
  obtain ⟨e, S1⟩ := S.growN eN nn T1
  exact h φ H1 e S1 _ ((N.ext e).setE (hq φ ex s f c' H1 S e S1 f0 f1 c1))
theorem s_ndef {E1 : XK} {name : Str} {params : Arguments} {body : List Stmt} {scope : Scope} {i j : Nat} {js : List Nat} {n : Nd} (C : XOk X R (fun _ => E1) k) (O : OwnX X R) (M : MkX T X R) (hN : X.N = T.N) (hsc : X.env.scope = T.sc) (hnd : R.nd j = some n) (hl : n.lam = none) (hb : n.body = body) (W : Made T pos name n js params scope)
    (hi : X.N[i]? = some name) (hx : Loc X.env.scope name) : PS X (.FunctionDef name params body [] none [] scope none name pos) (tS R E1 (.ndef i j js)) := by
  obtain ⟨c, P, hc, hcs, hT, hu, hqual⟩ := M.ex
  obtain ⟨as, rfl, ha⟩ := W.hpl
  have q := NdefX.ps_ndefM (X := X) (T := R.T) (nm := T.nm) (c := c) (P := P) (name := name) (params := ⟨[], as, none, [], [], none, []⟩) (body := body) (scope := scope) (pos := pos) (i := i) (C.gd _ hcs) hc hT (by rw [hqual]; exact W.hnm) hu
    (NdefX.ndef_free (by rw [hsc]; exact W.hfr)) rfl rfl (by simp [annTrees, annOf_none ha, evalOpt]) C.nd hi hx (.inl (O.fn name))
  refine psImp q fun D σ H h => i_ndef (fun φ ex s f c' H1 S e S1 f0 f1 c1 => ?_) h
  refine own_new W O hN hsc hnd ⟨W.hname.symm, ?_, W.hpar.symm, hb.symm, W.hsc.symm⟩ rfl S e S1 f0 (by rw [hl]; exact f1) c1
  show X.env.qual ++ name = n.qual
  rw [hqual]; exact W.hqual.symm
end
/-! ### lambdas -/
theorem lmO_ok {P : Program} {w : World} {H : Hp} {h : Heap} {f : Addr} {F : NdefX.NF} {e : Expr} {od : Option Addr} {sl : Array (Option Value)} {pm ctv : Value} (z : h.get? f = some (⟨.type "function", od, .func (PySem.W.kla_fn F.name F.qual F.params e F.scope F.cl pm (.ref F.c) ctv), sl⟩ : Obj)) : ObjOk P w H h f (LmO f F e) :=
  ⟨⟨od, sl, pm, ctv, z⟩, ⟨_, z⟩, fun h1 h2 ⟨od, sl, p, t, z⟩ st => ⟨od, sl, p, t, st _ z⟩⟩
section
variable {X : Cx} {pins : List (Addr × Obj)} {σ : L2.St} {H : Hp} {s : Shared}
theorem inv_lam {F : NdefX.NF} {e : Expr} {t' : Nat} {pm ctv : Value} (I : Inv X pins σ H s) :
    Inv X pins σ (upd H s.heap.objs.size (LmO s.heap.objs.size F e)) { s with heap := s.heap.push { cls := .type "function", data := .func (PySem.W.kla_fn F.name F.qual F.params e F.scope F.cl pm (.ref F.c) ctv) }, toks := t' } :=
  I.laid (a := s.heap.objs.size) (fun b u e => Heap.get?_push_of_some _ e) (Nat.le_refl _) (lmO_ok (Heap.get?_push_size _ rfl))
/-- a lambda is made -/
theorem lam_mk {T : List NdefX.NTab} {nm : Nat → Nat → Str} {c P : Addr} {params : Arguments} {body : Expr} {scope : Scope} {pos : Pos} {E : Value → Shared → Prop} {Q : Value → Shared → Prop} (I : Inv X pins σ H s) (TB : LamX.TabB X.base X.mg c P) (hcode : X.env.code = .ref c)
    (hm : (P, nm) ∈ T) (hn : nm pos.line pos.col = X.env.qual ++ "<lambda>") (hu : ∀ p ∈ T, p.1 = P → p.2 = nm) (hT : NdefX.TabsN T H) (hdef : defaultsOf params X.env = ([], [])) (hfree : ∀ y ∈ scope.names, y.2 = .free → ∃ c, X.env.cells.lookup y.1 = some c)
    (h : ∀ (f c' : Addr) (H1 : Hp) (s' : Shared), Inv X pins σ H1 s' → LamX.ExtN H H1 → (∀ b, H1 b = Option.none → H b = Option.none) → NdefX.TabsN T H1 → H f = none → H1 f = some (LmO f ⟨"<lambda>", X.env.qual ++ "<lambda>", params, [], scope, cloFrom X.env.cells scope.names [], c'⟩ body) → H1 c' = some (LamX.CodeO c' (X.env.qual ++ "<lambda>")) → Q (.ref f) s') :
    wpAny (model X.prog X.w) X.A (eval (.Lambda params body scope pos) X.env) Q E s := by
  obtain ⟨ps, hP, ht, ha⟩ := hT _ hm
  refine PySem.W.kla_eval hdef ?_
  have bP : s.heap.BuiltinsAt X.mg P := TB.bm.keeps I.bk
  have hP' : s.heap.get? P = some { cls := .none, data := .fields ps } := I.hok P _ hP
  cases hc : codeAmong pos ps.toList with
  | none =>
    refine PySem.W.kla_makeFunction (mg := X.mg) (c := c) (P := P) (ps := ps) (closure_ok hfree) I.ok.glob (I.mod.glob.keeps I.bk) hcode (TB.code.keeps I.bk) hP' ht hc TB.gP bP fun c' ctv h' tk hx hge hlt hrec htb => ?_
    obtain ⟨c2, oc, vs, t, e2, hoc, hd, hv⟩ := hrec
    cases e2
    have nC : H c' = none := I.hok.fresh hge
    have I1 := LamX.inv_table (t' := tk) (more := #[rawInt pos.line, rawInt pos.col, .ref c']) (h' := h') I hP (fun b o hb e => hx b o hb e) htb hge ⟨oc, vs, t, hoc, hd, hv⟩
    have hE : LamX.ExtN H (upd (upd H P (.tbl (ps ++ #[rawInt pos.line, rawInt pos.col, .ref c']))) c' (LamX.CodeO c' (X.env.qual ++ "<lambda>"))) := fun b o e n => by
      rw [upd_ne (ne_of_none e nC), upd_ne fun z => n ps (by rw [z, hP] at e; exact (Option.some.inj e).symm)]
      exact e
    have tabs : NdefX.TabsN T (upd (upd H P (.tbl (ps ++ #[rawInt pos.line, rawInt pos.col, .ref c']))) c' (LamX.CodeO c' (X.env.qual ++ "<lambda>"))) := by
      intro p hp
      by_cases hb : p.1 = P
      · rw [hu p hp hb, hb]
        refine ⟨ps ++ #[rawInt pos.line, rawInt pos.col, .ref c'], by rw [upd_ne (ne_of_none hP nC), upd_same], by simpa using PySem.TriplesOk_snoc _ _ _ _ ht, fun p' cv hcv => ?_⟩
        rcases NdefX.among_app2 (pos := pos) (c := .ref c') _ ht (by simpa using hcv) with z | ⟨z, z1, z2⟩
        · obtain ⟨c0, e1, e2⟩ := ha p' cv z
          exact ⟨c0, e1, hE _ _ e2 LamX.codeO_ne⟩
        · exact ⟨c', z, by rw [← z1, ← z2, hn]; exact upd_same⟩
      · obtain ⟨qs, a1, a2, a3⟩ := hT p hp
        refine ⟨qs, by rw [upd_ne (ne_of_none a1 nC), upd_ne hb]; exact a1, a2, fun p' cv hcv => ?_⟩
        obtain ⟨c0, e1, e2⟩ := a3 p' cv hcv
        exact ⟨c0, e1, hE _ _ e2 LamX.codeO_ne⟩
    have nF := I1.hok.fresh (Nat.le_refl _)
    refine h h'.objs.size c' _ _ (inv_lam (F := ⟨"<lambda>", X.env.qual ++ "<lambda>", params, [], scope, cloFrom X.env.cells scope.names [], c'⟩) (e := body) (t' := tk) (pm := (X.mg "__name__").getD .none) (ctv := ctv) I1) (fun b o e n => ?_)
      (fun b e => NdefX.upd_none (NdefX.upd_none (NdefX.upd_none e))) (tabs.ext fun b o e => (upd_ne (ne_of_none e nF)).trans e) (I.hok.fresh (Nat.le_trans hge (Nat.le_of_lt hlt))) upd_same ((upd_ne (Nat.ne_of_lt hlt)).trans upd_same)
    have e1 := hE b o e n
    exact (upd_ne (ne_of_none e1 nF)).trans e1
  | some cv =>
    obtain ⟨c', e, hco⟩ := ha pos cv hc
    subst e
    have hco : H c' = some (LamX.CodeO c' (nm pos.line pos.col)) := hco
    rw [hn] at hco
    refine PySem.W.kla_makeFunctionHit (mg := X.mg) (c := c) (P := P) (ps := ps) (closure_ok hfree) I.ok.glob (I.mod.glob.keeps I.bk) hcode (TB.code.keeps I.bk) hP' ht hc bP fun ctv h' tk hx hsz => ?_
    have I1 : Inv X pins σ H { s with heap := h', toks := tk } := I.kept hx
    have nF : H h'.objs.size = none := I1.hok.fresh (Nat.le_refl _)
    exact h h'.objs.size c' _ _ (inv_lam (F := ⟨"<lambda>", X.env.qual ++ "<lambda>", params, [], scope, cloFrom X.env.cells scope.names [], c'⟩) (e := body) (t' := tk) (pm := (X.mg "__name__").getD .none) (ctv := ctv) I1)
      (fun b o e n => (upd_ne (ne_of_none e nF)).trans e) (fun b e => NdefX.upd_none e) (hT.ext fun b o e => (upd_ne (ne_of_none e nF)).trans e) nF upd_same ((upd_ne (ne_of_none hco nF)).trans hco)
end
/-! ### arguments -/
inductive EntL (R : Gt) (φ : Ph) (ex : List Addr) (H : Hp) : List V → List W → Prop
  | nil : EntL R φ ex H [] []
  | cons {v : V} {vs : List V} {w : W} {ws : List W} : EntR R φ ex H v w → EntL R φ ex H vs ws → EntL R φ ex H (v :: vs) (w :: ws)
def RetE (R : Gt) (ex : List Addr) (Q : VK) : Kn W := fun φ H w s' => ∀ v φ' H', Ext φ H φ' H' → Sim R φ' ex H' s' → EntR R φ' ex H' v w → Q v H'
def RetA (R : Gt) (ex : List Addr) (Q : List V → Hp → Prop) : Kn (List W) := fun φ H ws s' => ∀ vs φ' H', Ext φ H φ' H' → Sim R φ' ex H' s' → EntL R φ' ex H' vs ws → Q vs H'
def runA1 (R : Gt) (c : Ex) (env : Env) (s : Store) : Res W := match argC env c with
  | some o => Res.of o s
  | none => runE R.Φ R.M R.CI R.FO c env s
def tAr (R : Gt) (E : L2.St → XK) (c : Ex) : L2.TE := fun σ H Q => ∃ φ ex s env, Sim R φ ex H s ∧ EnvR R φ ex H env σ ∧ RunsTo (runA1 R c env s) (RetE R ex Q φ H) (ExcOk R ex (E σ) φ H)
def tAA (R : Gt) (E : L2.St → XK) (es : List Ex) : L2.TA := fun σ H Q => ∃ φ ex s env, Sim R φ ex H s ∧ EnvR R φ ex H env σ ∧ RunsTo (runAs R.Φ R.M R.CI R.FO es env s) (RetA R ex Q φ H) (ExcOk R ex (E σ) φ H)
section
variable {R : Gt} {ex : List Addr} {E : L2.St → XK} {φ : Ph} {H : Hp} {s : Store} {env : Env} {σ : L2.St}
theorem mono_A {Q : List V → Hp → Prop} : Mono (RetA R ex Q) := fun _ _ _ _ _ _ e h v φ2 H2 e2 => h v φ2 H2 (e.trans e2)
theorem tAr_bind {β : Type} {C : Kn β} (m : Mono C) {e : Ex} {f : W → Store → Res β} (S : Sim R φ ex H s) (N : EnvR R φ ex H env σ)
    (h : RunsTo ((runA1 R e env s).bind f) (C φ H) (ExcOk R ex (E σ) φ H)) : tAr R E e σ H fun v H1 => Beh R ex (E σ) env σ φ H C f (fun φ1 H1 w => EntR R φ1 ex H1 v w) H1 := by
  refine ⟨φ, ex, s, env, S, N, ?_⟩
  cases r : runA1 R e env s with
  | ok w s1 =>
    rw [r] at h
    exact fun v φ1 H1 e1 S1 q => ⟨φ1, s1, w, S1, N.ext e1, e1, q, h.grow m e1⟩
  | exc x s1 => rw [r] at h; exact h
  | stuck => rw [r] at h; exact h
theorem tAA_bind {β : Type} {C : Kn β} (m : Mono C) {e : List Ex} {f : List W → Store → Res β} (S : Sim R φ ex H s) (N : EnvR R φ ex H env σ)
    (h : RunsTo ((runAs R.Φ R.M R.CI R.FO e env s).bind f) (C φ H) (ExcOk R ex (E σ) φ H)) : tAA R E e σ H fun v H1 => Beh R ex (E σ) env σ φ H C f (fun φ1 H1 w => EntL R φ1 ex H1 v w) H1 := by
  refine ⟨φ, ex, s, env, S, N, ?_⟩
  cases r : runAs R.Φ R.M R.CI R.FO e env s with
  | ok w s1 =>
    rw [r] at h
    exact fun v φ1 H1 e1 S1 q => ⟨φ1, s1, w, S1, N.ext e1, e1, q, h.grow m e1⟩
  | exc x s1 => rw [r] at h; exact h
  | stuck => rw [r] at h; exact h
theorem tAr_mono {e : Ex} {Q Q' : VK} (h : tAr R E e σ H Q) (hQ : ∀ v H', Q v H' → Q' v H') : tAr R E e σ H Q' := by
  obtain ⟨φ, ex, s, env, S, N, h⟩ := h
  exact ⟨φ, ex, s, env, S, N, h.imp (fun _ _ q v φ' H' e S r => hQ _ _ (q v φ' H' e S r)) fun _ _ q => q⟩
theorem tAA_mono {e : List Ex} {Q Q' : List V → Hp → Prop} (h : tAA R E e σ H Q) (hQ : ∀ v H', Q v H' → Q' v H') : tAA R E e σ H Q' := by
  obtain ⟨φ, ex, s, env, S, N, h⟩ := h
  exact ⟨φ, ex, s, env, S, N, h.imp (fun _ _ q v φ' H' e S r => hQ _ _ (q v φ' H' e S r)) fun _ _ q => q⟩
end
section
variable {X : Cx} {R : Gt} {E : L2.St → XK} {e : Expr} {es : List Expr} {c : Ex} {cs : List Ex} {T : TEnv} {k : Nat} {pos : Pos}
theorem pa_nilA : PA X [] (tAA R E []) := paImp pa_nil fun σ H Q ⟨φ, ex, s, env, S, N, h⟩ => h [] φ H (Ext.refl _ _) S .nil
theorem pa_consA (hs : ∀ x p, e ≠ .Starred x p) (ha : PE X e (tAr R E c)) (hr : PA X es (tAA R E cs)) : PA X (e :: es) (tAA R E (c :: cs)) :=
  paImp (pa_cons ha hr (star_ne hs es X.env)) fun σ H Q ⟨φ, ex, s, env, S, N, h⟩ => by
    simp only [runAs] at h
    refine tAr_mono (tAr_bind mono_A S N h) fun x H1 ⟨φ1, s1, wx, S1, N1, e1, r1, h1⟩ => ?_
    refine tAA_mono (tAA_bind mono_A S1 N1 h1) fun y H2 ⟨φ2, s2, wy, S2, N2, e2, r2, h2⟩ => ?_
    exact h2 _ φ2 H2 (Ext.refl _ _) S2 (.cons (r1.ext e2) r2)
theorem p_argP (h : PE X e (tD R E c)) (hp : plainX c = true) : PE X e (tAr R E c) :=
  peImp h fun σ H Q ⟨φ, ex, s, env, S, N, h⟩ => by
    have e0 : runA1 R c env s = runE R.Φ R.M R.CI R.FO c env s := by
      unfold runA1
      cases c <;> first | rfl | simp [plainX] at hp
    rw [e0] at h
    exact ⟨φ, ex, s, env, S, N, h.imp (fun _ _ q v φ' H' e S r => q v φ' H' e S (.inl (.w r))) fun _ _ q => q⟩
theorem p_argV {i : Nat} {x : Str} (hN : X.N[i]? = some x) (hv : Vis X.env.scope x) (hd : (x == ("__debug__" : Str)) = false) (hc : (x == ("__classdict__" : Str)) = false) : PE X (.Name x pos) (tAr R E (.cv i)) := by
  refine peImp (pe_var hN hv hd hc) fun σ H Q ⟨φ, ex, s, env, S, N, h⟩ => ?_
  unfold runA1 at h
  simp only [argC] at h
  split at h
  · rename_i k o ws hr
    obtain ⟨v, hv, r⟩ := N.raw hr
    exact ⟨v, hv, h v φ H (Ext.refl _ _) S r⟩
  · exact h.elim
theorem p_argL {params : Arguments} {body : Expr} {scope : Scope} {j : Nat} {js : List Nat} {n : Nd} (C : XOk X R E k) (O : OwnX X R) (M : MkX T X R) (hN : X.N = T.N) (hsc : X.env.scope = T.sc) (hnd : R.nd j = some n) (hl : n.lam = some body) (hb : n.body = []) (W : Made T pos "<lambda>" n js params scope) : PE X (.Lambda params body scope pos) (tAr R E (.lam j js)) := by
  obtain ⟨c, P, hc, hcs, hT, hu, hqual⟩ := M.ex
  obtain ⟨as, rfl, ha⟩ := W.hpl
  refine ⟨fun pins s σ H Q I h => ?_⟩
  obtain ⟨φ, ex, st, env, S, N, h⟩ := h
  have hfr := NdefX.ndef_free (sc := X.env.scope) (nsc := scope) (fr := n.fr) (by rw [hsc]; exact W.hfr)
  refine lam_mk I (C.gd _ hcs) hc hT (by rw [hqual]; exact W.hnm) hu S.T rfl (fun y hy e => (hfr y hy e).elim (fun z => I.ok.has _ (.inl z)) fun z => I.ok.has _ (.inr z)) fun f c' H1 s' I1 eN nn T1 f0 f1 c1 => ?_
  obtain ⟨e, S1⟩ := S.growN eN nn T1
  refine ⟨.ref f, H1, I1, rfl, h _ φ H1 e S1 (own_new W O hN hsc hnd ⟨W.hname.symm, ?_, W.hpar.symm, hb.symm, W.hsc.symm⟩ rfl S e S1 f0 (by rw [hl]; exact f1) c1)⟩
  show X.env.qual ++ "<lambda>" = n.qual
  rw [hqual]; exact W.hqual.symm
theorem convL_ok {b : Heap} {f : Nat} {env : Env} {φ : Ph} {ex : List Addr} {H : Hp} (hc : ∀ w w' v, EntR R φ ex H v w → conv env f w = some w' → RpA (R.at b) φ ex H v w') : ∀ {ws ws' : List W} {vs : List V}, EntL R φ ex H vs ws → convL env f ws = some ws' → RpAL (R.at b) φ ex H vs ws'
  | _, _, _, .nil, h => by simp only [convL] at h; cases h; exact .nil
  | w :: ws, _, _, .cons r t, h => by
    simp only [convL] at h
    split at h
    · rename_i h1 h2
      cases h
      exact .cons (hc _ _ _ r h1) (convL_ok hc t h2)
    · cases h
/-- f(e, ..), f a def of the table that is handed functions -/
theorem p_calla {x : Str} {i np f : Nat} {dfl : List PyData} {m : Cm} {p : Pos} {ces : List Ex} (C : XOk X R E k) (O : 0 < f → OwnX X R) (F : FOk X.prog X.w X.K X.mg R i np dfl) (hk : 2 * i + 2 ≤ k) (hg : Gl X x) (hm : X.mg x = some (.ref (R.fa i))) (hd : (x == ("__debug__" : Str)) = false)
    (hst : ∀ ws s, ws.length ≠ np → R.Φ i ws s = .stuck) (hs : NoStar (e :: es)) (ha : PA X (e :: es) (tAA R E ces)) : PE X (.Call (.Name x p) (e :: es) [] pos) (tD R E (.calla m f i ces)) := by
  refine ⟨fun pins s σ H Q I h => ?_⟩
  obtain ⟨fd, ps, hps, Fn, hB⟩ := F.ex
  obtain ⟨ds, dvs, rv, hb, hr⟩ := hB np (Nat.le_refl _) (by simp)
  obtain ⟨φ, ex, st, env, S, N, h⟩ := h
  have edv : dvs = [] := by
    have := (hr φ ex H).length
    simpa using this
  subst edv
  cases rv
  simp only [runE] at h
  refine wpAny_Call_Name_kw (ld_glob I hg hm ?_ hd)
  have he := star_ne (hs e (by simp)) es X.env
  refine PySem.W.callWith_K (h₀ := X.base) I.ok.mod.kin F.kp (thn (ha.run pos pins s σ H _ I (tAA_bind mono_W S N h)) fun us s2 ⟨vs, H2, I2, r, φ2, st2, ws, S2, N2, e2, r2, h2⟩ => ⟨I2.kIn, ?_⟩) he (star_none (fun x hx => hs x (by simp [hx])) pos X.env)
  show wpAny _ _ (call (.ref (R.fa i)) us) _ _ _
  dsimp only at h2
  split at h2
  · rename_i ws' hcv
    obtain ⟨bs, gb, e0, hc⟩ := base_for C O I2 N2
    have ra := convL_ok hc r2 hcv
    obtain ⟨φ0, ex0, s0, ws1, S0, r0', h0⟩ := callM_a S2 ra h2
    have hlen : vs.length = np := by
      rw [r0'.length]
      by_cases hz : ws1.length = np
      · exact hz
      · rw [hst _ _ hz] at h0; exact h0.elim
    have r3 : Vals vs (us ++ []) := by rw [List.append_nil]; exact r
    have hl : (us ++ []).length = ps.length := by rw [← r3.length, hlen, hps]
    have q := (Fn bs gb).run X.A X.stack s2 H2 ⟨us, []⟩ (us ++ []) vs Q (E σ) (C.room.mono hk) e0 (hb s2 us I2.kIn hl) r3 (spF_a hlen S0 r0' h0)
    exact run_d (C.pass σ) I2 q
  · exact h2.elim
/-- o.m(e, ..), m handed functions -/
theorem p_metha {m : Str} {f : Nat} {apos : Pos} {o : Expr} {co : Ex} {ces : List Ex} (C : XOk X R E k) (O : 0 < f → OwnX X R) (G : GOk R) (hM : ∀ c i, R.M c m = some i → (∀ ws s, R.Φ i ws s = .stuck) ∨ ∃ np, FOk X.prog X.w X.K X.mg R i np [] ∧ (∀ ws s, ws.length ≠ np → R.Φ i ws s = .stuck) ∧ 2 * i + 2 ≤ k)
    (hb : ∀ f es k p, o ≠ .Call f es k p) (hs : NoStar (e :: es)) (hl : (apos.endLine == pos.line) = true) (hn : (e :: es).length < 20) (ho : PE X o (tD R E co)) (ha : PA X (e :: es) (tAA R E ces)) :
    PE X (.Call (.Attribute o m apos) (e :: es) [] pos) (tD R E (.metha f co m ces)) := by
  refine ⟨fun pins s σ H Q I h => ?_⟩
  have ht : eval (.Call (.Attribute o m apos) (e :: es) [] pos) X.env = (do
      let ov ← eval o X.env
      standAt apos.atName
      let (f, first) ← holding [ov] (getMethod ov m (L2.plainOf o X.env))
      callWith pos f first (backTo pos (starEach (e :: es) X.env)) (backToKw pos (keywordEach [] X.env))) := by
    have e1 : eval (.Call (.Attribute o m apos) (e :: es) [] pos) X.env = (do
        let ov ← attributeBase o m X.env (eval o X.env)
        standAt apos.atName
        methodCall o m apos pos X.env ov ((e :: es).length + ([] : List Keyword).length) (backTo pos (starEach (e :: es) X.env)) (backToKw pos (keywordEach [] X.env))) := rfl
    rw [e1, base_ne hb]
    congr 1
    funext ov
    congr 1
    funext _
    exact L2.mcall_line (few_all hs hn pos X.env) hl
  obtain ⟨φ, ex, st, env, S, N, h⟩ := h
  simp only [runE] at h
  refine PySem.W.methodCall_KW (pl := L2.plainOf o X.env) (thn (ho.run pins s σ H _ I (tD_bind mono_W S N h)) fun u s1 ⟨x, H1, I1, rx, φ1, st1, wo, S1, N1, e1, r1, h1⟩ => ?_) ht
  dsimp only at h1
  split at h1
  · rename_i n
    split at h1
    · rename_i c fs hc
      split at h1
      · rename_i i hf hi
        obtain ⟨a, dx, fv, rfl, hφ, hl, rf⟩ := S1.ins hc r1
        obtain rfl : u = Value.ref a := rx
        obtain ⟨g1, g2⟩ := G.me c m i hi
        rw [← C.hK] at g1 g2
        refine getmeth_ok I1 hl g1 g2 (rf.lookN hf) ?_
        have he := star_ne (hs e (by simp)) es X.env
        refine PySem.W.callWith_K (h₀ := X.base) I1.ok.mod.kin g2.kp (thn (ha.run pos pins s1 σ H1 _ I1 (tAA_bind mono_W S1 N1 h1)) fun us s2 ⟨vs, H2, I2, r, φ2, st2, ws, S2, N2, e2, r2, h2⟩ => ⟨I2.kIn, ?_⟩) he (star_none (fun x hx => hs x (by simp [hx])) pos X.env)
        show wpAny _ _ (call (.ref (R.fa i)) (.ref a :: us)) _ _ _
        dsimp only at h2
        split at h2
        · rename_i ws' hcv
          rcases hM c i hi with hst | ⟨np, F, hne, hk⟩
          · rw [hst] at h2; exact h2.elim
          obtain ⟨fd, ps, hps, Fn, hB⟩ := F.ex
          obtain ⟨ds, dvs, rv, hbi, hr⟩ := hB np (Nat.le_refl _) (by simp)
          have edv : dvs = [] := by
            have := (hr φ1 ex H1).length
            simpa using this
          subst edv
          cases rv
          obtain ⟨bs, gb, e0, hc2⟩ := base_for C O I2 N2
          have ra := convL_ok hc2 r2 hcv
          have ra2 : RpAL (R.at bs) φ2 ex H2 (.ref a :: vs) (.ref n :: ws') := .cons (.w (RpW.tr at_same _ _ (RpW.ext e2 _ _ r1))) ra
          have hlen : (V.ref a :: vs).length = np := by
            rw [ra2.length]
            by_cases hz : (W.ref n :: ws').length = np
            · exact hz
            · rw [hne _ _ hz] at h2; exact h2.elim
          have r3 : Vals (.ref a :: vs) (.ref a :: us ++ []) := by rw [List.append_nil]; exact .cons rfl r
          have hl : (Value.ref a :: us ++ []).length = ps.length := by rw [← r3.length, hlen, hps]
          have q := (Fn bs gb).run X.A X.stack s2 H2 ⟨.ref a :: us, []⟩ (.ref a :: us ++ []) (.ref a :: vs) Q (E σ) (C.room.mono hk) e0 (hbi s2 (.ref a :: us) I2.kIn hl) r3 (spF_a hlen S2 ra2 h2)
          exact run_d (C.pass σ) I2 q
        · exact h2.elim
      · exact h1.elim
    · exact h1.elim
  · exact h1.elim
end
end Cc

set_option linter.all false
set_option maxRecDepth 100000
set_option maxHeartbeats 1000000
/-! Cc: the translator is right about expressions. -/
namespace Cc
open PySem PySem.Spec PyProof.Rows L2

/-- an exception class without own __init__ -/
def excVE : List Value := [.type "ValueError", .type "Exception", .type "BaseException", .type "object"]
structure PexK (K : PySem.W.Frag) (C : Addr) : Prop where
  exc : PySem.W.excIn K C excVE "ValueError.__new__" = true
  keep : PySem.W.keepIn K (.ref C) = true
  sub : PySem.W.subIn K (.ref C) (.type "BaseException") = some true
  ty : PySem.W.typeIn K (.ref C) = some (.type "type")
/-- an exception class whose own __init__ keeps one field -/
structure PxiK (P : Program) (w : World) (K : PySem.W.Frag) (mg : Str → Option Value) (base : Heap) (C fI : Addr) (f : Str) : Prop where
  oex : OexC K C
  no : PySem.W.findIn K (.ref C) f = some none
  ini : PySem.W.findIn K (.ref C) "__init__" = some (some (.ref fI))
  ty : PySem.W.typeIn K (.ref fI) = some (.type "function")
  fn : ∃ (fd : FuncData) (ps : List Str), Binds K fd ps [] ∧ ∀ k, FnOk P w K mg base (L2.CX P w) (k + 1) fI fd ps (Cd.initSp K f)
/-- the place in the translator's terms and in the proof's -/
structure Lk (T : TEnv) (X : Cx) (R : Gt) (E : L2.St → XK) (k : Nat) : Prop where
  C : XOk X R E k
  G : GOk R
  N : X.N = T.N
  sc : X.env.scope = T.sc
  tsc : ∀ x, Loc T.tsc x → Loc X.env.scope x ∧ (X.fn x = true ∨ X.env.scope.names.lookup x = some .local)
  ndb : ∀ x ∈ T.N, (x == ("__debug__" : Str)) = false ∧ (x == ("__classdict__" : Str)) = false
  fnF : ∀ x i ps dfl, T.G x = some (.fn i ps dfl) → X.mg x = some (.ref (R.fa i)) ∧ FOk X.prog X.w X.K X.mg R i ps dfl ∧ 2 * i + 2 ≤ k ∧ (x == ("__debug__" : Str)) = false
  clsF : ∀ x c ps dfl, T.G x = some (.cls c ps dfl) → X.mg x = some (.ref (R.ca c)) ∧ (∃ i, R.CI c = some i ∧ FOk X.prog X.w X.K X.mg R i (ps + 1) dfl ∧ 2 * i + 3 ≤ k) ∧ (x == ("__debug__" : Str)) = false
  conF : ∀ x d, T.G x = some (.con d) → (∃ u, X.mg x = some u ∧ ConK R.K u d) ∧ (x == ("__debug__" : Str)) = false
  bltF : ∀ x, T.G x = some .blt → X.mg x = none
  basF : ∀ x c m i ps dfl, T.G x = some (.bas c m i ps dfl) → Base X.K (R.ca c) m (R.fa i) ∧ FOk X.prog X.w X.K X.mg R i ps dfl ∧ 2 * i + 2 ≤ k
  pexF : ∀ x c, T.G x = some (.pex c) → X.mg x = some (.ref (R.xa c)) ∧ PexK R.K (R.xa c) ∧ (x == ("__debug__" : Str)) = false
  xiF : ∀ c m fs, R.XI c [.str m] = some fs → fs = []
  pxiF : ∀ x c i f, T.G x = some (.pexi c i f) → X.mg x = some (.ref (R.xa c)) ∧ PxiK X.prog X.w R.K X.mg X.base (R.xa c) (R.fa i) f ∧ 2 ≤ k ∧ (x == ("__debug__" : Str)) = false ∧ ∀ xs fs, R.XI c xs = some fs → ∃ i, xs = [.int i] ∧ fs = [(f, .int i)]
  xsF : ∀ x l, T.xs x = some l → ∃ v, ((x == ("__debug__" : Str)) = false ∧ (X.mg x = some v ∨ (X.mg x = none ∧ bootBuiltins x = some v ∧ x ≠ "__name__"))) ∧ (∃ cv : V, RelV cv v ∧ ∀ u, RelV cv u → u = v) ∧ ∀ c b, l.lookup c = some b → PySem.W.exmOne R.K (.ref (R.xa c)) v = some b ∧ PySem.W.kitOne R.K (.ref (R.xa c)) v = some b ∧ ExcC R.K (R.xa c)
  bdF : ∀ j, j < T.bd → R.nd j = none → ∃ np, FOk X.prog X.w X.K X.mg R j np [] ∧ (∀ ws s, ws.length ≠ np → R.Φ j ws s = .stuck) ∧ 2 * j + 2 ≤ k
  meF : ∀ c m i, R.M c m = some i → (∀ ws s, R.Φ i ws s = .stuck) ∨ ∃ np, FOk X.prog X.w X.K X.mg R i np [] ∧ (∀ ws s, ws.length ≠ np → R.Φ i ws s = .stuck) ∧ 2 * i + 2 ≤ k
  fnN : ∀ x i ps dfl, T.G x = some (.fn i ps dfl) → R.nd i = none
  fnS : ∀ x i ps dfl, T.G x = some (.fn i ps dfl) → ∀ ws s, ws.length ≠ ps → R.Φ i ws s = .stuck
  ndF : ∀ j, j < T.bd → ∀ n, R.nd j = some n → NOkD X.prog X.w X.K X.mg R j n ∧ (∀ ws s, ws.length ≠ n.ps.length + n.fr.length → R.Φ j ws s = .stuck) ∧ 2 * j + 2 ≤ k
  ow : T.own = true → OwnX X R
  mkF : T.own = true → T.nd ≠ [] → MkX T X R
  ndT : ∀ k n, (k, n) ∈ T.nd → R.nd k = some n
section
variable {T : TEnv} {X : Cx} {R : Gt} {E : L2.St → XK} {k : Nat}
theorem Lk.hu (L : Lk T X R E k) : X.A.units + 65 < cLine := by
  have := L.C.room.un
  omega
theorem Lk.gl (L : Lk T X R E k) {x : Str} (h : gloB T.sc x = true) : Gl X x := by
  rw [← L.sc] at h; exact glo_of h
theorem Lk.vis (L : Lk T X R E k) {x : Str} {i : Nat} (h : slotOf T x = some i) : X.N[i]? = some x ∧ Vis X.env.scope x ∧ (x == ("__debug__" : Str)) = false ∧ (x == ("__classdict__" : Str)) = false := by
  obtain ⟨h1, h2⟩ := slot_of h
  have m := L.ndb x (List.mem_of_getElem? h1)
  rw [← L.N] at h1; rw [← L.sc] at h2
  exact ⟨h1, h2, m⟩
/-- in a block -/
theorem Lk.blk (L : Lk T X R E k) {scope : Scope} (s : Shared) (H : Hp) (C : Addr) (cl : List (Str × Addr)) (fp : List Addr) :
    Lk { T with sc := blkScope T.sc scope, tsc := scope, own := false } (X.blk s H scope (compEnvC scope cl C X.env) fp) R never k where
  C := ⟨L.C.hP, L.C.hw, L.C.hK, L.C.calm, L.C.nd, L.C.room, fun σ pins H s e s' I c => by
    obtain ⟨a, B, H', cls, d, _, _, _, _, _, _, _, z⟩ := c
    exact z.elim, L.C.hB, L.C.gd⟩
  G := L.G
  N := L.N
  sc := by show relabel scope X.env = relS scope T.sc; rw [← L.sc]; rfl
  tsc := fun x h => by
    show Loc (relS scope X.env.scope) x ∧ ((scope.names.lookup x == some .cell) = true ∨ (relS scope X.env.scope).names.lookup x = some .local)
    rcases h with h | h
    · have := lookup_relS_keep (sc := X.env.scope) (by decide) h
      exact ⟨.inl this, .inr this⟩
    · have := lookup_relS_keep (sc := X.env.scope) (by decide) h
      exact ⟨.inr this, .inl (by rw [h]; rfl)⟩
  ndb := L.ndb
  fnF := L.fnF
  clsF := L.clsF
  conF := L.conF
  bltF := L.bltF
  basF := L.basF
  pexF := L.pexF
  xiF := L.xiF
  pxiF := L.pxiF
  xsF := L.xsF
  bdF := L.bdF
  meF := L.meF
  fnN := L.fnN
  fnS := L.fnS
  ndF := L.ndF
  ow := fun h => by cases h
  mkF := fun h => by cases h
  ndT := L.ndT
end
section
variable {X : Cx} {R : Gt} {E : L2.St → XK} {a : Expr} {ca : Ex} {T : TEnv}
theorem p_wrap {pos : Pos} (h : PE X a (tF R E ca)) : PE X a (tD R E (wrap T pos ca)) := by
  unfold wrap
  split
  · exact p_cell h
  · exact p_ofF h
theorem isTrue_plain (h1 : ∀ x p, a ≠ .UnaryOp .Not x p) (h2 : ∀ op es p, a ≠ .BoolOp op es p) (h3 : ∀ c x y p, a ≠ .IfExp c x y p) (h4 : ∀ l o c p, a ≠ .Compare l o c p) (env : PySem.Env) (whole : Sem Value) :
    isTrue a env whole = (do let v ← whole; standAt a.pos; holding [v] (truthy v)) := by
  cases a <;> first | rfl | exact absurd rfl (h2 _ _ _) | exact absurd rfl (h3 _ _ _ _) | exact absurd rfl (h4 _ _ _ _) | skip
  rename_i op x p
  cases op <;> first | rfl | exact absurd rfl (h1 _ _)
end
/-- what the translator promises at a fuel -/
structure Snd (n : Nat) : Prop where
  e : ∀ {T : TEnv} {X : Cx} {R : Gt} {E : L2.St → XK} {k : Nat}, Lk T X R E k → ∀ (a : Expr) (c : Ex), trE T n a = some c → PE X a (tD R E c)
  b : ∀ {T : TEnv} {X : Cx} {R : Gt} {E : L2.St → XK} {k : Nat}, Lk T X R E k → ∀ (op : BoolOp) (es : List Expr) (pos : Pos) (c : Ex), trBool T n op es pos = some c → PE X (.BoolOp op es pos) (tD R E c)
  es : ∀ {T : TEnv} {X : Cx} {R : Gt} {E : L2.St → XK} {k : Nat}, Lk T X R E k → ∀ (es : List Expr) (cs : List Ex), trEs T n es = some cs → PA X es (tA R E cs) ∧ NoStar es ∧ es.length = cs.length
  as : ∀ {T : TEnv} {X : Cx} {R : Gt} {E : L2.St → XK} {k : Nat}, Lk T X R E k → ∀ (es : List Expr) (cs : List Ex), trAs T n es = some cs → PA X es (tAA R E cs) ∧ NoStar es ∧ es.length = cs.length
  o : ∀ {T : TEnv} {X : Cx} {R : Gt} {E : L2.St → XK} {k : Nat}, Lk T X R E k → ∀ (o : Option Expr) (c : Option Ex), trO T n o = some c → PO X o (tO R E c)
  c : ∀ {T : TEnv} {X : Cx} {R : Gt} {k : Nat}, Lk T X R never k → ∀ (es : List Expr) (c : Option Bx), trC T n es = some c → PTs X es (tCt R c)
  i : ∀ {T : TEnv} {X : Cx} {R : Gt} {E : L2.St → XK} {k : Nat}, Lk T X R E k → ∀ (tg it : Expr) (w : Wk) (cs : List Ex), trI T n tg it = some (w, cs) → PI X tg it (tI R E w cs) ∧ ∀ es k p, it ≠ .Set es k p
  t : ∀ {T : TEnv} {X : Cx} {R : Gt} {E : L2.St → XK} {k : Nat}, Lk T X R E k → ∀ (a : Expr) (c : Bx), trB T n a = some c → PT X a (tT R E c)
  tb : ∀ {T : TEnv} {X : Cx} {R : Gt} {E : L2.St → XK} {k : Nat}, Lk T X R E k → ∀ (op : BoolOp) (es : List Expr) (pos : Pos) (c : Bx), trBoolB T n op es pos = some c → PW X (.BoolOp op es pos) (tT R E c)
section
variable {T : TEnv} {X : Cx} {R : Gt} {E : L2.St → XK} {k n : Nat}
theorem snd_b (S : Snd n) (L : Lk T X R E k) {op : BoolOp} {es : List Expr} {pos : Pos} {c : Ex} (h : trBool T (n + 1) op es pos = some c) : PE X (.BoolOp op es pos) (tD R E c) := by
  match es, h with
  | [], h => simp [trBool] at h
  | [a], h => exact pe_one (S.e L a c (by simpa [trBool] using h))
  | a :: b :: r, h =>
    simp only [trBool, Option.bind_eq_bind, Option.bind_eq_some_iff, Option.some.injEq] at h
    obtain ⟨x, hx, y, hy, rfl⟩ := h
    cases op with
    | And => exact p_and (S.e L a x hx) (S.b L _ _ pos y hy)
    | Or => exact p_or (S.e L a x hx) (S.b L _ _ pos y hy)
theorem snd_es (S : Snd n) (L : Lk T X R E k) {es : List Expr} {cs : List Ex} (h : trEs T (n + 1) es = some cs) : PA X es (tA R E cs) ∧ NoStar es ∧ es.length = cs.length := by
  cases es with
  | nil =>
    simp only [trEs] at h
    cases h
    exact ⟨pa_nilD, fun e he => by simp at he, rfl⟩
  | cons e es =>
    have hs : ∀ x p, e ≠ .Starred x p := by
      rintro x p rfl
      simp [trEs] at h
    have h2 : ∃ x y, trE T n e = some x ∧ trEs T n es = some y ∧ cs = x :: y := by
      cases e <;> first
        | exact absurd rfl (hs _ _)
        | (simp only [trEs, Option.bind_eq_bind, Option.bind_eq_some_iff, Option.some.injEq] at h
           obtain ⟨x, hx, y, hy, rfl⟩ := h
           exact ⟨x, y, hx, hy, rfl⟩)
    obtain ⟨x, y, hx, hy, rfl⟩ := h2
    obtain ⟨p, q, l⟩ := S.es L es y hy
    exact ⟨pa_consD hs (S.e L e x hx) p, fun z hz => by
      rcases List.mem_cons.mp hz with rfl | hz
      · exact hs
      · exact q z hz, by simp [l]⟩
theorem Lk.fu (L : Lk T X R E k) : 0 < fu T → OwnX X R := fun h => by
  unfold Cc.fu at h
  split at h
  · rename_i h2; exact L.ow h2
  · omega
theorem snd_arg (L : Lk T X R E k) {e : Expr} {o : Option Ex} {c : Ex} (h : argOf T e = some o) (ho : o = some c) : PE X e (tAr R E c) := by
  subst ho
  cases e <;> simp only [argOf] at h <;> try (cases h; done)
  case Lambda params body scope pos =>
    simp only [Option.some.injEq] at h
    obtain ⟨⟨j, js⟩, hl, rfl⟩ := map_of h
    obtain ⟨n, hm, h1, h2, W⟩ := lamOf_of hl
    exact p_argL L.C (L.ow W.hown) (L.mkF W.hown fun z => by rw [z] at hm; cases hm) L.N L.sc (L.ndT _ _ hm) h1 h2 W
  case Name x pos =>
    split at h
    · simp only [Option.some.injEq] at h
      obtain ⟨i, hi, rfl⟩ := map_of h
      obtain ⟨h1, h2, h3, h4⟩ := L.vis hi
      exact p_argV h1 h2 h3 h4
    · cases h
theorem arg_star {T : TEnv} {x : Expr} {p : Pos} : argOf T (.Starred x p) = none := rfl
theorem snd_as (S : Snd n) (L : Lk T X R E k) {es : List Expr} {cs : List Ex} (h : trAs T (n + 1) es = some cs) : PA X es (tAA R E cs) ∧ NoStar es ∧ es.length = cs.length := by
  cases es with
  | nil =>
    simp only [trAs] at h
    cases h
    exact ⟨pa_nilA, fun e he => by simp at he, rfl⟩
  | cons e es =>
    have hs : ∀ x p, e ≠ .Starred x p := by
      rintro x p rfl
      simp [trAs] at h
    have h2 : ∃ x y, ((∃ o, argOf T e = some o ∧ o = some x) ∨ (trE T n e = some x ∧ plainX x = true)) ∧ trAs T n es = some y ∧ cs = x :: y := by
      have two : (match argOf T e with
          | some o => do some ((← o) :: (← trAs T n es))
          | none => do
            let c ← trE T n e
            if plainX c then some (c :: (← trAs T n es)) else none) = some cs → ∃ x y, ((∃ o, argOf T e = some o ∧ o = some x) ∨ (trE T n e = some x ∧ plainX x = true)) ∧ trAs T n es = some y ∧ cs = x :: y := by
        intro h
        split at h
        · rename_i o ho
          simp only [Option.bind_eq_bind, Option.bind_eq_some_iff, Option.some.injEq] at h
          obtain ⟨x, hx, y, hy, rfl⟩ := h
          exact ⟨x, y, .inl ⟨o, ho, hx⟩, hy, rfl⟩
        · simp only [Option.bind_eq_bind, Option.bind_eq_some_iff] at h
          obtain ⟨x, hx, h⟩ := h
          split at h
          · rename_i hp
            simp only [Option.bind_eq_some_iff, Option.some.injEq] at h
            obtain ⟨y, hy, rfl⟩ := h
            exact ⟨x, y, .inr ⟨hx, hp⟩, hy, rfl⟩
          · cases h
      cases e <;> first
        | exact absurd rfl (hs _ _)
        | exact two (by simp only [trAs] at h; exact h)
    obtain ⟨x, y, hx, hy, rfl⟩ := h2
    obtain ⟨p, q, l⟩ := S.as L es y hy
    refine ⟨pa_consA hs ?_ p, fun z hz => ?_, by simp [l]⟩
    · rcases hx with ⟨o, ho, e⟩ | ⟨hx, hp⟩
      · exact snd_arg L ho e
      · exact p_argP (S.e L e x hx) hp
    · rcases List.mem_cons.mp hz with rfl | hz
      · exact hs
      · exact q z hz
theorem snd_o (S : Snd n) (L : Lk T X R E k) {o : Option Expr} {c : Option Ex} (h : trO T (n + 1) o = some c) : PO X o (tO R E c) := by
  cases o with
  | none => simp only [trO] at h; cases h; exact po_noneD
  | some e =>
    simp only [trO, Option.bind_eq_bind, Option.bind_eq_some_iff, Option.some.injEq] at h
    obtain ⟨x, hx, rfl⟩ := h
    exact po_someD (S.e L e x hx)
theorem snd_c (S : Snd n) (L : Lk T X R never k) {es : List Expr} {c : Option Bx} (h : trC T (n + 1) es = some c) : PTs X es (tCt R c) := by
  match es, h with
  | [], h => simp only [trC] at h; cases h; exact pts_nil
  | [e], h =>
    simp only [trC, Option.bind_eq_bind, Option.bind_eq_some_iff, Option.some.injEq] at h
    obtain ⟨x, hx, rfl⟩ := h
    exact pts_one (S.t L e x hx)
  | _ :: _ :: _, h => simp [trC] at h
theorem snd_tb (S : Snd n) (L : Lk T X R E k) {op : BoolOp} {es : List Expr} {pos : Pos} {c : Bx} (h : trBoolB T (n + 1) op es pos = some c) : PW X (.BoolOp op es pos) (tT R E c) := by
  match es, h with
  | [], h => simp [trBoolB] at h
  | [a], h =>
    have p := S.t L a c (by simpa [trBoolB] using h)
    cases op with
    | And => exact pwt_and1 p
    | Or => exact pwt_or1 p
  | a :: b :: r, h =>
    simp only [trBoolB, Option.bind_eq_bind, Option.bind_eq_some_iff, Option.some.injEq] at h
    obtain ⟨x, hx, y, hy, rfl⟩ := h
    cases op with
    | And => exact pwt_and (S.t L a x hx) (S.tb L _ _ pos y hy)
    | Or => exact pwt_or (S.t L a x hx) (S.tb L _ _ pos y hy)
end
end Cc

set_option linter.all false
set_option maxRecDepth 100000
set_option maxHeartbeats 4000000
/-! Cc: the translator is right about expressions, constructor by constructor. -/
namespace Cc
open PySem PySem.Spec PyProof.Rows L2

section
variable {T : TEnv} {X : Cx} {R : Gt} {E : L2.St → XK} {k n : Nat} {pos : Pos}
theorem snd_cmp (S : Snd n) (L : Lk T X R E k) {a : Expr} {ops : List CmpOp} {bs : List Expr} {c : Ex} (h : trE T (n + 1) (.Compare a ops bs pos) = some c) :
    PE X (.Compare a ops bs pos) (tD R E c) ∧ PT X (.Compare a ops bs pos) (tT R E (.tru c)) := by
  match ops, bs, h with
  | [op], [b], h =>
    simp only [trE] at h
    split at h
    · cases h
    · rename_i hm
      simp only [Option.bind_eq_bind, Option.bind_eq_some_iff, Option.some.injEq] at h
      obtain ⟨x, hx, y, hy, rfl⟩ := h
      have hm : behindInMarks op b = false := by simpa using hm
      exact ⟨p_cmp L.C.hP L.C.hw L.C.hK L.hu hm (S.e L _ _ hx) (S.e L _ _ hy), pt_cmpD L.C.hP L.C.hw L.C.hK L.hu hm (S.e L _ _ hx) (S.e L _ _ hy)⟩
  | [op, op'], [b, d], h =>
    simp only [trE] at h
    split at h
    · cases h
    · rename_i hm
      simp only [Option.bind_eq_bind, Option.bind_eq_some_iff, Option.some.injEq] at h
      obtain ⟨x, hx, y, hy, z, hz, rfl⟩ := h
      have hm : lastMarks [op, op'] [b, d] = false := by simpa using hm
      exact ⟨p_chain L.C.hP L.C.hw L.C.hK L.hu hm (S.e L _ _ hx) (S.e L _ _ hy) (S.e L _ _ hz), pt_chainD L.C.hP L.C.hw L.C.hK L.hu hm (S.e L _ _ hx) (S.e L _ _ hy) (S.e L _ _ hz)⟩
  | [], _, h => simp [trE] at h
  | [_], [], h => simp [trE] at h
  | [_], _ :: _ :: _, h => simp [trE] at h
  | [_, _], [], h => simp [trE] at h
  | [_, _], [_], h => simp [trE] at h
  | [_, _], _ :: _ :: _ :: _, h => simp [trE] at h
  | _ :: _ :: _ :: _, _, h => simp [trE] at h
theorem snd_t (S : ∀ m, m ≤ n → Snd m) (L : Lk T X R E k) {a : Expr} {c : Bx} (h : trB T (n + 1) a = some c) : PT X a (tT R E c) := by
  have Sn := S n (Nat.le_refl _)
  have plain : (∃ x, trE T n a = some x ∧ c = .tru x) → (∀ l o c p, a ≠ .Compare l o c p) → (∀ x p, a ≠ .UnaryOp .Not x p) → (∀ op es p, a ≠ .BoolOp op es p) → (∀ c x y p, a ≠ .IfExp c x y p) → PT X a (tT R E c) := by
    rintro ⟨x, hx, rfl⟩ h4 h1 h2 h3
    exact pt_tru L.C.hK (Sn.e L _ _ hx) (isTrue_plain h1 h2 h3 h4 X.env)
  cases a
  case BoolOp op es p => exact (Sn.tb L op es p c (by simpa only [trB] using h)).pt
  case IfExp t x y p =>
    simp only [trB, Option.bind_eq_bind, Option.bind_eq_some_iff, Option.some.injEq] at h
    obtain ⟨u, hu, v, hv, w, hw, rfl⟩ := h
    exact ptt_ite (Sn.t L _ _ hu) (Sn.t L _ _ hv) (Sn.t L _ _ hw)
  case UnaryOp op x p =>
    cases op
    case Not =>
      simp only [trB, Option.bind_eq_bind, Option.bind_eq_some_iff, Option.some.injEq] at h
      obtain ⟨u, hu, rfl⟩ := h
      exact ptt_not (Sn.t L _ _ hu)
    all_goals
      simp only [trB, Option.bind_eq_bind, Option.bind_eq_some_iff, Option.some.injEq] at h
      obtain ⟨u, hu, rfl⟩ := h
      exact plain ⟨u, hu, rfl⟩ (fun _ _ _ _ z => by cases z) (fun _ _ z => by cases z) (fun _ _ _ z => by cases z) (fun _ _ _ _ z => by cases z)
  case Compare l ops bs p =>
    simp only [trB, Option.bind_eq_bind, Option.bind_eq_some_iff, Option.some.injEq] at h
    obtain ⟨u, hu, rfl⟩ := h
    cases n with
    | zero => simp [trE] at hu
    | succ m => exact (snd_cmp (S m (Nat.le_succ _)) L hu).2
  all_goals
    simp only [trB, Option.bind_eq_bind, Option.bind_eq_some_iff, Option.some.injEq] at h
    obtain ⟨u, hu, rfl⟩ := h
    exact plain ⟨u, hu, rfl⟩ (fun _ _ _ _ z => by cases z) (fun _ _ z => by cases z) (fun _ _ _ z => by cases z) (fun _ _ _ _ z => by cases z)
theorem free_glo (L : Lk T X R E k) {x : Str} (h : freeB T x = true) : Gl X x ∧ X.mg x = none := by
  unfold freeB at h
  simp only [Bool.and_eq_true] at h
  refine ⟨L.gl h.1, ?_⟩
  have h2 := h.2
  split at h2
  · exact L.bltF x (by assumption)
  · cases h2
theorem itOf_of {tg it o : Expr} (h : itOf tg it = some o) : ∃ elts kk tpos apos pos, tg = .Tuple elts kk tpos ∧ it = .Call (.Attribute o "items" apos) [] [] pos ∧ (apos.endLine == pos.line) = true ∧ ∀ env, attributeBase o "items" env (eval o env) = eval o env := by
  unfold itOf at h
  split at h
  · rename_i o' m apos pos
    split at h
    · rename_i hm
      obtain ⟨rfl, hl, ht⟩ := hm
      have nc : ∀ f es k p, o' ≠ .Call f es k p := by
        rintro f es k p rfl
        cases h
      obtain rfl : o' = o := by
        cases o' <;> first
          | exact absurd rfl (nc _ _ _ _)
          | (cases h; rfl)
      cases tg <;> simp only [isTupE] at ht <;> first | (cases ht; done) | skip
      exact ⟨_, _, _, _, _, rfl, rfl, hl, fun env => base_ne nc _ env⟩
    · cases h
  · cases h
theorem snd_i (S : Snd n) (L : Lk T X R E k) {tg it : Expr} {w : Wk} {cs : List Ex} (h : trI T (n + 1) tg it = some (w, cs)) : PI X tg it (tI R E w cs) ∧ ∀ es k p, it ≠ .Set es k p := by
  simp only [trI] at h
  split at h
  · rename_i kk es hw
    simp only [Option.bind_eq_bind, Option.bind_eq_some_iff, Option.some.injEq] at h
    obtain ⟨cs', hcs, e⟩ := h
    cases e
    obtain ⟨pa, ns, hl⟩ := S.es L es cs hcs
    unfold walkOf at hw
    split at hw
    · rename_i x p es' pos
      split at hw
      · rename_i hx
        cases hw
        obtain ⟨rfl, hf, l1⟩ := hx
        obtain ⟨g, m⟩ := free_glo L hf
        match es, cs, l1, hl, pa, ns with
        | [a], [ca], _, _, pa, ns => exact ⟨pi_r1 (ns a (by simp)) g m pa, fun _ _ _ z => by cases z⟩
      · split at hw
        · rename_i hx
          cases hw
          obtain ⟨rfl, hf, l1⟩ := hx
          obtain ⟨g, m⟩ := free_glo L hf
          match es, cs, l1, hl, pa, ns with
          | [a, b], [ca, cb], _, _, pa, ns => exact ⟨pi_r2 (ns a (by simp)) (ns b (by simp)) g m pa, fun _ _ _ z => by cases z⟩
        · split at hw
          · rename_i hx
            cases hw
            obtain ⟨rfl, hf, l1, ht⟩ := hx
            obtain ⟨g, m⟩ := free_glo L hf
            match es, cs, l1, hl, pa, ns with
            | [a], [ca], _, _, pa, ns =>
              cases tg <;> simp only [isTupE] at ht <;> first | (cases ht; done) | skip
              exact ⟨pi_en L.C.hK (ns a (by simp)) g m pa, fun _ _ _ z => by cases z⟩
          · cases hw
    · cases hw
  · split at h
    · rename_i o ho
      simp only [Option.bind_eq_bind, Option.bind_eq_some_iff, Option.some.injEq, Prod.mk.injEq] at h
      obtain ⟨x, hx, rfl, rfl⟩ := h
      obtain ⟨elts, kk, tpos, apos, pos, rfl, rfl, hl, hb⟩ := itOf_of ho
      exact ⟨pi_items L.C.hP L.C.hw (S.e L _ _ hx) (hb _) hl, fun _ _ _ z => by cases z⟩
    have hs : ∀ es k p, it ≠ .Set es k p := by
      rintro es k p rfl
      cases h
    have h2 : ∃ x, trE T n it = some x ∧ w = .seq ∧ cs = [x] := by
      cases it <;> first
        | exact absurd rfl (hs _ _ _)
        | (simp only [Option.bind_eq_bind, Option.bind_eq_some_iff, Option.some.injEq, Prod.mk.injEq] at h
           obtain ⟨x, hx, rfl, rfl⟩ := h
           exact ⟨x, hx, rfl, rfl⟩)
    obtain ⟨x, hx, rfl, rfl⟩ := h2
    exact ⟨pi_seq L.C.hK L.C.hP L.C.hw (S.e L _ _ hx), hs⟩
end
end Cc

set_option linter.all false
set_option maxRecDepth 100000
set_option maxHeartbeats 4000000
/-! Cc: the translator is right about calls and all expressions. -/
namespace Cc
open PySem PySem.Spec PyProof.Rows L2

section
variable {T : TEnv} {X : Cx} {R : Gt} {E : L2.St → XK} {k n : Nat} {pos p apos : Pos}
theorem f_bfAny (L : Lk T X R E k) {x : Str} {f : Bf} {e : Expr} {es : List Expr} {ces : List Ex} (hf : bfOf x (e :: es).length = some f) (hg : Gl X x) (hm : X.mg x = none) (ns : NoStar (e :: es)) (pa : PA X (e :: es) (tA R E ces)) :
    PE X (.Call (.Name x p) (e :: es) [] pos) (tF R E (.bf f ces)) := by
  have h1 := ns e (by simp)
  have h2 : (backTo pos (starEach es X.env)).any (·.1) = false := star_none (fun z hz => ns z (by simp [hz])) pos X.env
  unfold bfOf at hf
  split at hf
  · split at hf
    · rename_i hx; cases hf; subst hx; exact f_bfB h1 (c_len L.C.hK) hg hm (by decide +kernel) (by decide) (by decide) pa h2
    split at hf
    · rename_i hx; cases hf; subst hx; exact f_bfB h1 (c_sum L.C.calm) hg hm (by decide +kernel) (by decide) (by decide) pa h2
    split at hf
    · rename_i hx; cases hf; subst hx; exact f_bfB h1 (c_any L.C.calm) hg hm (by decide +kernel) (by decide) (by decide) pa h2
    split at hf
    · rename_i hx; cases hf; subst hx; exact f_bfB h1 (c_all L.C.calm) hg hm (by decide +kernel) (by decide) (by decide) pa h2
    split at hf
    · rename_i hx; cases hf; subst hx; exact f_bfT h1 c_int hg hm (by decide +kernel) (by decide) (by decide) pa h2
    split at hf
    · rename_i hx; cases hf; subst hx; exact f_bfT h1 c_str hg hm (by decide +kernel) (by decide) (by decide) pa h2
    split at hf
    · rename_i hx; cases hf; subst hx; exact f_bfT h1 (c_tuple L.C.hK) hg hm (by decide +kernel) (by decide) (by decide) pa h2
    split at hf
    · rename_i hx; cases hf; subst hx; exact f_bfT h1 (c_list L.C.hK L.C.hP L.C.hw L.C.calm) hg hm (by decide +kernel) (by decide) (by decide) pa h2
    · cases hf
  · split at hf
    · split at hf
      · rename_i hx; cases hf; subst hx; exact f_bfB h1 (c_min L.C.calm) hg hm (by decide +kernel) (by decide) (by decide) pa h2
      split at hf
      · rename_i hx; cases hf; subst hx; exact f_bfB h1 (c_max L.C.calm) hg hm (by decide +kernel) (by decide) (by decide) pa h2
      · cases hf
    · cases hf
theorem tyOf_ok {y : Str} {t : Ty} (h : tyOf y = some t) : y = Str.ofString (tyN t) := by
  unfold tyOf at h
  split at h
  · rename_i hx; cases h; exact hx
  split at h
  · rename_i hx; cases h; exact hx
  split at h
  · rename_i hx; cases h; exact hx
  split at h
  · rename_i hx; cases h; exact hx
  split at h
  · rename_i hx; cases h; exact hx
  · cases h
theorem itArg_of {x : Str} {es : List Expr} {o : Expr} (h : itArg x es = some o) : ∃ apos pos, x = ("sorted" : Str) ∧ es = [.Call (.Attribute o "items" apos) [] [] pos] ∧ (apos.endLine == pos.line) = true ∧ ∀ f es k p, o ≠ .Call f es k p := by
  unfold itArg at h
  split at h
  · rename_i o' m apos pos
    split at h
    · rename_i hx
      obtain ⟨rfl, rfl, hl⟩ := hx
      split at h
      · cases h
      · rename_i hb
        cases h
        exact ⟨apos, pos, rfl, rfl, hl, fun f es k p z => hb f es k p z⟩
    · cases h
  · cases h
theorem rngArg_of {x : Str} {es : List Expr} {a : Expr} (h : rngArg x es = some a) : ∃ y p pos, x = ("list" : Str) ∧ y = ("range" : Str) ∧ es = [.Call (.Name y p) [a] [] pos] := by
  unfold rngArg at h
  split at h
  · split at h
    · rename_i hx
      cases h
      exact ⟨_, _, _, hx.1, hx.2, rfl⟩
    · cases h
  · cases h
theorem setArg_of {x : Str} {es : List Expr} {a : Expr} (h : setArg x es = some a) : ∃ y p pos, x = ("len" : Str) ∧ y = ("set" : Str) ∧ es = [.Call (.Name y p) [a] [] pos] := by
  unfold setArg at h
  split at h
  · split at h
    · rename_i hx
      cases h
      exact ⟨_, _, _, hx.1, hx.2, rfl⟩
    · cases h
  · cases h
theorem baseOf_of {o : Expr} {m : Str} {i np : Nat} {dfl : List PyData} (h : baseOf T o m = some (i, np, dfl)) : ∃ x p c a b, o = .Name x p ∧ gloB T.sc x = true ∧ T.G x = some (.cls c a b) ∧ T.G (bkey x m) = some (.bas c m i np dfl) := by
  unfold baseOf at h
  split at h
  · rename_i x p
    split at h
    · rename_i hg
      split at h
      · rename_i c a b c' m' i' np' dfl' h1 h2
        split at h
        · rename_i hc
          cases h
          obtain ⟨rfl, rfl⟩ := hc
          exact ⟨x, p, c, a, b, rfl, (Bool.and_eq_true_iff.mp hg).2, h1, h2⟩
        · cases h
      · cases h
    · cases h
  · cases h
/-- a call of a name -/
theorem snd_call (S : Snd n) (L : Lk T X R E k) {x : Str} {es : List Expr} {c : Ex} (h : trE T (n + 1) (.Call (.Name x p) es [] pos) = some c) : PE X (.Call (.Name x p) es [] pos) (tD R E c) := by
  simp only [trE] at h
  split at h
  · split at h
    · rename_i i hi
      simp only [Option.bind_eq_bind, Option.bind_eq_some_iff, Option.some.injEq] at h
      obtain ⟨cs, hcs, rfl⟩ := h
      obtain ⟨pa, ns, hl⟩ := S.es L _ cs hcs
      obtain ⟨h1, h2, h3, h4⟩ := L.vis hi
      exact p_callc L.C L.fu L.ndF h1 h2 h3 h4 ns (fun z => by subst z; exact List.length_eq_zero_iff.mp hl.symm) pa
    · cases h
  split at h
  · rename_i hC
    split at h
    · cases h
    · split at h
      · rename_i hgl
        split at h
        · rename_i i ps dfl hG
          simp only [Option.bind_eq_bind, Option.bind_eq_some_iff] at h
          obtain ⟨cs, hcs, h⟩ := h
          split at h
          · cases h
            obtain ⟨pa, ns, hl⟩ := S.as L es cs hcs
            obtain ⟨hm, F, hk, hd⟩ := L.fnF _ _ _ _ hG
            cases es with
            | nil => simp [hasC] at hC
            | cons e es => exact p_calla L.C L.fu F hk (L.gl hgl) hm hd (L.fnS _ _ _ _ hG) ns pa
          · cases h
        · cases h
      · cases h
  split at h
  · rename_i i hi
    split at h
    · cases h
    · rename_i e es'
      simp only [Option.bind_eq_bind, Option.bind_eq_some_iff, Option.some.injEq] at h
      obtain ⟨cs, hcs, rfl⟩ := h
      obtain ⟨pa, ns, hl⟩ := S.es L _ cs hcs
      obtain ⟨h1, h2, h3, h4⟩ := L.vis hi
      exact p_callv L.C L.bdF h1 h2 h3 h4 ns (fun z => nomatch z) pa
  split at h
  · rename_i hgl
    have hg := L.gl hgl
    split at h
    · rename_i i ps dfl hG
      simp only [Option.bind_eq_bind, Option.bind_eq_some_iff, Option.some.injEq] at h
      obtain ⟨cs, hcs, cd, hcd, rfl⟩ := h
      obtain ⟨pa, ns, hl⟩ := S.es L es cs hcs
      obtain ⟨hm, F, hk, hd⟩ := L.fnF _ _ _ _ hG
      exact p_call L.C F hk hg hm hd ns (fun z => by subst z; exact List.length_eq_zero_iff.mp hl.symm) pa hcd
    · rename_i cc ps dfl hG
      simp only [Option.bind_eq_bind, Option.bind_eq_some_iff, Option.some.injEq] at h
      obtain ⟨cs, hcs, cd, hcd, rfl⟩ := h
      obtain ⟨pa, ns, hl⟩ := S.es L es cs hcs
      obtain ⟨hm, ⟨i, hi, F, hk⟩, hd⟩ := L.clsF _ _ _ _ hG
      exact p_make L.C L.G hi F hk hg hm hd ns (fun z => by subst z; exact List.length_eq_zero_iff.mp hl.symm) pa hcd
    · rename_i hG
      have hm := L.bltF x hG
      split at h
      · rename_i hx
        subst hx
        split at h
        · rename_i a y p2 _
          split at h
          · rename_i hf
            obtain ⟨g2, m2⟩ := free_glo L hf
            simp only [Option.bind_eq_bind, Option.bind_eq_some_iff, Option.some.injEq] at h
            obtain ⟨t, ht, u, hu, rfl⟩ := h
            have hs : ∀ x p, a ≠ .Starred x p := by
              rintro x p rfl
              cases n with
              | zero => simp [trE] at hu
              | succ m => simp [trE] at hu
            exact p_isa L.C.hK hs hg hm (tyOf_ok ht) g2 m2 (S.e L _ _ hu)
          · cases h
        · cases h
      · split at h
        · rename_i hx
          obtain ⟨rfl, hl1⟩ := hx
          match es, hl1, h with
          | [a], _, h =>
            simp only [Option.bind_eq_bind, Option.bind_eq_some_iff, Option.some.injEq] at h
            obtain ⟨u, hu, rfl⟩ := h
            have hs : ∀ x p, a ≠ .Starred x p := by
              rintro x p rfl
              cases n with
              | zero => simp [trE] at hu
              | succ m => simp [trE] at hu
            split
            · exact p_dofz L.C.hP L.C.hw L.C.hK L.C.calm L.hu hs hg hm (S.e L _ _ hu)
            · exact p_dof L.C.hP L.C.hw L.C.hK L.C.calm L.hu hs hg hm (S.e L _ _ hu)
        split at h
        · rename_i o hr
          obtain ⟨apos', pos', rfl, rfl, hl', hb'⟩ := itArg_of hr
          simp only [Option.bind_eq_bind, Option.bind_eq_some_iff, Option.some.injEq] at h
          obtain ⟨u, hu, rfl⟩ := h
          exact p_wrap (f_dsort (p2 := pos) L.C.hP L.C.hw L.C.hK L.C.calm L.hu hb' hl' hg hm (S.e L _ _ hu))
        split at h
        · rename_i a hr
          obtain ⟨y, p2, pos2, rfl, rfl, rfl⟩ := rngArg_of hr
          split at h
          · rename_i hf
            obtain ⟨g2, m2⟩ := free_glo L hf
            simp only [Option.bind_eq_bind, Option.bind_eq_some_iff, Option.some.injEq] at h
            obtain ⟨u, hu, rfl⟩ := h
            have hs : ∀ x p, a ≠ .Starred x p := by
              rintro x p rfl
              cases n with
              | zero => simp [trE] at hu
              | succ m => simp [trE] at hu
            exact p_wrap (f_lrng L.C.calm hs hg hm g2 m2 (S.e L _ _ hu))
          · cases h
        split at h
        · rename_i a hr
          obtain ⟨y, p2, pos2, rfl, rfl, rfl⟩ := setArg_of hr
          split at h
          · rename_i hf
            obtain ⟨g2, m2⟩ := free_glo L hf
            simp only [Option.bind_eq_bind, Option.bind_eq_some_iff, Option.some.injEq] at h
            obtain ⟨u, hu, rfl⟩ := h
            have hs : ∀ x p, a ≠ .Starred x p := by
              rintro x p rfl
              cases n with
              | zero => simp [trE] at hu
              | succ m => simp [trE] at hu
            exact f_lens L.C.hK L.C.calm hs hg hm g2 m2 (S.e L _ _ hu)
          · cases h
        · simp only [Option.bind_eq_bind, Option.bind_eq_some_iff, Option.some.injEq] at h
          obtain ⟨f, hf, cs, hcs, rfl⟩ := h
          obtain ⟨pa, ns, hl⟩ := S.es L es cs hcs
          cases es with
          | nil => simp [bfOf] at hf
          | cons e es => exact p_wrap (f_bfAny L hf hg hm ns pa)
    · cases h
  · cases h
theorem ne_call {o : Expr} (h : ∀ f es k p, o ≠ .Call f es k p) : True := trivial
theorem few2 {a b : Expr} (h : ∀ x p, a ≠ .Starred x p) (h' : ∀ x p, b ≠ .Starred x p) (cpos : Pos) (env : PySem.Env) : ((backTo cpos (starEach [a, b] env)).all (fun x => !x.1) && (backToKw cpos (keywordEach [] env)).all (fun x => x.1.isSome)
    && decide (([a, b] : List Expr).length + ([] : List Keyword).length + (if ([] : List Keyword).isEmpty then 0 else 1) < 30)) = true := by
  rw [star_ne h, star_ne h']
  rfl
theorem oneArg_of {es : List Expr} {a : Expr} (h : oneArg es = some a) : es = [a] ∧ ∀ x p, a ≠ .Starred x p := by
  unfold oneArg at h
  split at h
  · split at h
    · cases h
    · rename_i hn
      cases h
      exact ⟨rfl, fun x p z => hn _ _ z⟩
  · cases h
theorem tupName_of {m : Str} {o : Expr} {ds : List PyData} (h : tupName T m o = some ds) : ∃ x p, o = .Name x p ∧ m = ("index" : Str) ∧ gloB T.sc x = true ∧ T.G x = some (.con (.tuple ds)) := by
  unfold tupName at h
  split at h
  · split at h
    · rename_i hx
      split at h
      · rename_i hG
        cases h
        exact ⟨_, _, rfl, hx.1, hx.2.2, hG⟩
      · cases h
    · cases h
  · cases h
theorem snd_meth (S : Snd n) (L : Lk T X R E k) {o : Expr} {m : Str} {es : List Expr} {c : Ex} (h : trE T (n + 1) (.Call (.Attribute o m apos) es [] pos) = some c) : PE X (.Call (.Attribute o m apos) es [] pos) (tD R E c) := by
  simp only [trE] at h
  split at h
  · rename_i hl
    simp only [Bool.and_eq_true, decide_eq_true_eq, oneLine] at hl
    split at h
    · rename_i hC
      have hb : ∀ f es k p, o ≠ .Call f es k p := by
        rintro f es' k p rfl
        cases h
      have h3 : ∃ co cs, trE T n o = some co ∧ trAs T n es = some cs ∧ c = .metha (fu T) co m cs := by
        cases o <;> first
          | exact absurd rfl (hb _ _ _ _)
          | (simp only [Option.bind_eq_bind, Option.bind_eq_some_iff, Option.some.injEq] at h
             obtain ⟨co, hco, cs, hcs, rfl⟩ := h
             exact ⟨co, cs, hco, hcs, rfl⟩)
      obtain ⟨co, cs, hco, hcs, rfl⟩ := h3
      obtain ⟨pa, ns, hle⟩ := S.as L es cs hcs
      cases es with
      | nil => simp [hasC] at hC
      | cons e es => exact p_metha L.C L.fu L.G (fun c i hi => L.meF c m i hi) hb ns hl.1 hl.2 (S.e L _ _ hco) pa
    split at h
    · rename_i i np dfl hbo
      obtain ⟨x, p0, c0, a0, b0, rfl, hgl, hG, hG2⟩ := baseOf_of hbo
      simp only [Option.bind_eq_bind, Option.bind_eq_some_iff, Option.some.injEq] at h
      obtain ⟨cs, hcs, cd, hcd, rfl⟩ := h
      obtain ⟨pa, ns, hle⟩ := S.es L es cs hcs
      obtain ⟨B, F, hk⟩ := L.basF _ _ _ _ _ _ hG2
      obtain ⟨hm, _, hd⟩ := L.clsF _ _ _ _ hG
      exact p_base L.C B F hk (L.gl hgl) hm hd ns (fun z => by subst z; exact List.length_eq_zero_iff.mp hle.symm) hl.1 hl.2 pa hcd
    have hb : ∀ f es k p, o ≠ .Call f es k p := by
      rintro f es' k p rfl
      cases h
    have h3 : (match tupName T m o with
         | some ds => do some (.tix ds (← trE T n (← oneArg es)))
         | none => match dmOf T pos m es.length with
         | some k => do some (.dmet k (← trE T n o) (← trEs T n es))
         | none => match mutOf m es.length with
          | some k => do some (.mut k (← trE T n o) (← trEs T n es))
          | none => match (if es.length = 1 then bmOf m else none) with
            | some k => do some (wrap T pos (.bm k (← trE T n o) (← trEs T n es)))
            | none => match (if es.length = 1 then lmOf m else none) with
              | some k => do some (.lm k (← trE T n o) (← trEs T n es))
              | none => do some (.meth (← trE T n o) m (← trEs T n es))) = some c := by
      cases o <;> first | exact absurd rfl (hb _ _ _ _) | exact h
    split at h3
    · rename_i ds hds
      obtain ⟨x, p0, rfl, rfl, hgl, hG⟩ := tupName_of hds
      simp only [Option.bind_eq_bind, Option.bind_eq_some_iff, Option.some.injEq] at h3
      obtain ⟨a, ha, ca, hca, rfl⟩ := h3
      obtain ⟨rfl, hna⟩ := oneArg_of ha
      obtain ⟨⟨u, hu, hc⟩, hd⟩ := L.conF _ _ hG
      exact p_tix L.C.hK (L.gl hgl) hu hc hd hna hl.1 (S.e L _ _ hca)
    have h2 : (match dmOf T pos m es.length with
         | some k => do some (.dmet k (← trE T n o) (← trEs T n es))
         | none => match mutOf m es.length with
          | some k => do some (.mut k (← trE T n o) (← trEs T n es))
          | none => match (if es.length = 1 then bmOf m else none) with
            | some k => do some (wrap T pos (.bm k (← trE T n o) (← trEs T n es)))
            | none => match (if es.length = 1 then lmOf m else none) with
              | some k => do some (.lm k (← trE T n o) (← trEs T n es))
              | none => do some (.meth (← trE T n o) m (← trEs T n es))) = some c := by
      exact h3
    clear h
    clear h3
    split at h2
    · rename_i mk hmk
      simp only [Option.bind_eq_bind, Option.bind_eq_some_iff, Option.some.injEq] at h2
      obtain ⟨co, hco, cs, hcs, rfl⟩ := h2
      have po := S.e L _ _ hco
      obtain ⟨pa, ns, hle⟩ := S.es L es cs hcs
      obtain ⟨mg, mp⟩ := mt_dm (X := X) (R := R) L.C.hP L.C.hw L.C.hK L.hu
      unfold dmOf at hmk
      split at hmk
      · rename_i hx
        cases hmk
        obtain ⟨rfl, l1⟩ := hx
        rcases l1 with l1 | l1
        · match es, l1, ns, pa, hl with
          | [a], _, ns, pa, hl => exact p_dmet L.C.hP L.C.hw mg PySem.F.slot_dict_get PySem.F.type_dict_get hb (few1 (ns a (by simp)) pos X.env) (star_ne (ns a (by simp)) [] X.env) rfl hl.1 po pa
        · match es, l1, ns, pa, hl with
          | [a, b], _, ns, pa, hl => exact p_dmet L.C.hP L.C.hw mg PySem.F.slot_dict_get PySem.F.type_dict_get hb (few2 (ns a (by simp)) (ns b (by simp)) pos X.env) (star_ne (ns a (by simp)) [b] X.env) (star_none (fun e he => ns e (List.mem_cons_of_mem _ he)) pos X.env) hl.1 po pa
      split at hmk
      · rename_i hx
        cases hmk
        obtain ⟨rfl, l1, _⟩ := hx
        match es, l1, ns, pa, hl with
        | [a], _, ns, pa, hl => exact p_dmet L.C.hP L.C.hw mp PySem.F.slot_dict_pop PySem.F.type_dict_pop hb (few1 (ns a (by simp)) pos X.env) (star_ne (ns a (by simp)) [] X.env) rfl hl.1 po pa
      · cases hmk
    split at h2
    · rename_i mk hmk
      simp only [Option.bind_eq_bind, Option.bind_eq_some_iff, Option.some.injEq] at h2
      obtain ⟨co, hco, cs, hcs, rfl⟩ := h2
      have po := S.e L _ _ hco
      obtain ⟨pa, ns, hle⟩ := S.es L es cs hcs
      unfold mutOf at hmk
      split at hmk
      · rename_i hx
        cases hmk
        obtain ⟨rfl, l1⟩ := hx
        match es, l1, ns, pa, hl with
        | [a], _, ns, pa, hl => exact p_mut1 m_append PySem.F.slot_list_append PySem.F.type_list_append hb (ns a (by simp)) hl.1 po pa
      split at hmk
      · rename_i hx
        cases hmk
        obtain ⟨rfl, l1⟩ := hx
        match es, l1, ns, pa, hl with
        | [a], _, ns, pa, hl => exact p_mut1 m_extend PySem.F.slot_list_extend PySem.F.type_list_extend hb (ns a (by simp)) hl.1 po pa
      split at hmk
      · rename_i hx
        cases hmk
        obtain ⟨rfl, l1⟩ := hx
        match es, cs, l1, hle, hl with
        | [], [], _, _, hl => exact p_mut0 m_pop PySem.F.slot_list_pop PySem.F.type_list_pop hb hl.1 po
      split at hmk
      · rename_i hx
        cases hmk
        obtain ⟨rfl, l1⟩ := hx
        match es, cs, l1, hle, hl with
        | [], [], _, _, hl => exact p_mut0 m_clear PySem.F.slot_list_clear PySem.F.type_list_clear hb hl.1 po
      split at hmk
      · rename_i hx
        cases hmk
        obtain ⟨rfl, l1⟩ := hx
        match es, l1, ns, pa, hl with
        | [a], _, ns, pa, hl => exact p_mut1 m_popAt PySem.F.slot_list_pop PySem.F.type_list_pop hb (ns a (by simp)) hl.1 po pa
      · cases hmk
    · split at h2
      · rename_i mk hmk
        simp only [Option.bind_eq_bind, Option.bind_eq_some_iff, Option.some.injEq] at h2
        obtain ⟨co, hco, cs, hcs, rfl⟩ := h2
        have po := S.e L _ _ hco
        obtain ⟨pa, ns, hle⟩ := S.es L es cs hcs
        split at hmk
        · rename_i l1
          match es, l1, ns, pa, hl with
          | [a], _, ns, pa, hl =>
            unfold bmOf at hmk
            split at hmk
            · rename_i hx; cases hmk; subst hx; exact p_wrap (f_bm (m_join L.C.hK) PySem.F.slot_str_join PySem.F.type_str_join hb (ns a (by simp)) hl.1 po pa)
            split at hmk
            · rename_i hx; cases hmk; subst hx; exact p_wrap (f_bm m_split PySem.F.slot_str_split PySem.F.type_str_split hb (ns a (by simp)) hl.1 po pa)
            split at hmk
            · rename_i hx; cases hmk; subst hx; exact p_wrap (f_bm m_partition PySem.F.slot_str_partition PySem.F.type_str_partition hb (ns a (by simp)) hl.1 po pa)
            split at hmk
            · rename_i hx; cases hmk; subst hx; exact p_wrap (f_bm m_startswith PySem.F.slot_str_startswith PySem.F.type_str_startswith hb (ns a (by simp)) hl.1 po pa)
            · cases hmk
        · cases hmk
      split at h2
      · rename_i mk hmk
        simp only [Option.bind_eq_bind, Option.bind_eq_some_iff, Option.some.injEq] at h2
        obtain ⟨co, hco, cs, hcs, rfl⟩ := h2
        have po := S.e L _ _ hco
        obtain ⟨pa, ns, hle⟩ := S.es L es cs hcs
        split at hmk
        · rename_i l1
          match es, l1, ns, pa, hl with
          | [a], _, ns, pa, hl =>
            unfold lmOf at hmk
            split at hmk
            · rename_i hx; cases hmk; subst hx; exact p_lm (m_count L.C.hK L.hu) PySem.F.slot_list_count PySem.F.type_list_count hb (ns a (by simp)) hl.1 po pa
            split at hmk
            · rename_i hx; cases hmk; subst hx; exact p_lm (m_index L.C.hK L.hu) PySem.F.slot_list_index PySem.F.type_list_index hb (ns a (by simp)) hl.1 po pa
            · cases hmk
        · cases hmk
      · simp only [Option.bind_eq_bind, Option.bind_eq_some_iff, Option.some.injEq] at h2
        obtain ⟨co, hco, cs, hcs, rfl⟩ := h2
        obtain ⟨pa, ns, hle⟩ := S.es L es cs hcs
        exact p_meth L.C L.G (fun c i hi => L.meF c m i hi) hb ns (fun z => by subst z; exact List.length_eq_zero_iff.mp hle.symm) hl.1 hl.2 (S.e L _ _ hco) pa
  · cases h
/-- a list comprehension -/
theorem snd_lc (S : Snd n) (L : Lk T X R E k) {elt : Expr} {gs : List Comprehension} {scope : Scope} {c : Ex} (h : trE T (n + 1) (.ListComp elt gs scope pos) = some c) :
    ∃ tg it ifs own cell gc is one w its b e, gs = [⟨tg, it, ifs, 0⟩] ∧ c = .comp (own.map (·.2)) cell gc is one w its b e ∧ PI X tg it (tI R E w its) ∧ (∀ es k p, it ≠ .Set es k p) ∧ BlkOk X.N X.env.scope scope own ∧ (∀ i ∈ is, i ∈ own.map (·.2)) ∧
      (∀ (s : Shared) (H : Hp) (C : Addr) (cl : List (Str × Addr)) (fp : List Addr), PG (X.blk s H scope (compEnvC scope cl C X.env) fp) tg (gTgt R.K is one)) ∧
      (∀ (s : Shared) (H : Hp) (C : Addr) (cl : List (Str × Addr)) (fp : List Addr), PTs (X.blk s H scope (compEnvC scope cl C X.env) fp) ifs (tCt R b)) ∧
      (∀ (s : Shared) (H : Hp) (C : Addr) (cl : List (Str × Addr)) (fp : List Addr), PE (X.blk s H scope (compEnvC scope cl C X.env) fp) elt (tD R never e)) := by
  have hg : ∃ tg it ifs, gs = [⟨tg, it, ifs, 0⟩] := by
    match gs, h with
    | [⟨tg, it, ifs, i⟩], h =>
      by_cases e : i = 0
      · subst e; exact ⟨tg, it, ifs, rfl⟩
      · simp [trE, e] at h
    | [], h => simp [trE] at h
    | _ :: _ :: _, h => simp [trE] at h
  obtain ⟨tg, it, ifs, rfl⟩ := hg
  · simp only [trE, Option.bind_eq_bind, Option.bind_eq_some_iff, Option.some.injEq] at h
    obtain ⟨⟨w, its⟩, hi, h⟩ := h
    dsimp only at h
    split at h
    · rename_i hb
      simp only [Option.bind_eq_bind, Option.bind_eq_some_iff, Option.some.injEq] at h
      obtain ⟨⟨is, one⟩, ht, b, hc, e, he, h⟩ := h
      dsimp only at h
      split at h
      · rename_i hown
        cases h
        obtain ⟨p1, p2⟩ := S.i L _ _ _ _ hi
        refine ⟨tg, it, ifs, ownOf T.N scope, _, _, is, one, w, its, b, e, rfl, rfl, p1, p2, ?_, fun i hi => ?_, fun s H C cl fp => ?_, fun s H C cl fp => S.c (L.blk s H C cl fp) _ _ hc, fun s H C cl fp => S.e (L.blk s H C cl fp) _ _ he⟩
        · rw [L.N, L.sc]; exact blkOk_by hb
        · have := List.all_eq_true.mp hown i hi
          simpa using this
        · have L2 := L.blk (scope := scope) s H C cl fp
          have q := pg_tgt L2.N L2.C.calm L2.C.nd L2.tsc ht
          have hK : (X.blk s H scope (compEnvC scope cl C X.env) fp).K = R.K := L.C.hK
          rw [hK] at q
          exact q
      · cases h
    · cases h
theorem strC_of {k : Option Expr} {x : Str} (h : strC k = some x) : ∃ j p, k = some (.Constant (.str x) j p) := by
  unfold strC at h
  split at h
  · cases h; exact ⟨_, _, rfl⟩
  · cases h
theorem keysOf_cons {ks : List (Option Expr)} {x : Str} {xs : List Str} (h : keysOf ks = some (x :: xs)) : ∃ j p r, ks = some (.Constant (.str x) j p) :: r ∧ keysOf r = some xs := by
  match ks, h with
  | [], h => cases h
  | k :: ks, h =>
    simp only [keysOf] at h
    obtain ⟨y, hy, h⟩ := bind_of h
    obtain ⟨ys, hys, e⟩ := map_of h
    cases e
    obtain ⟨j, p, rfl⟩ := strC_of hy
    exact ⟨_, _, _, rfl, hys⟩
theorem keysOf_len : ∀ {xs : List Str} {ks : List (Option Expr)}, keysOf ks = some xs → ks.length = xs.length ∧ ks.all (·.isSome) = true
  | [], ks, h => by
    match ks, h with
    | [], h => exact ⟨rfl, rfl⟩
    | k :: ks, h =>
      simp only [keysOf] at h
      obtain ⟨y, hy, h⟩ := bind_of h
      obtain ⟨ys, hys, e⟩ := map_of h
      cases e
  | x :: xs, ks, h => by
    obtain ⟨j, p, r, rfl, hr⟩ := keysOf_cons h
    obtain ⟨h1, h2⟩ := keysOf_len hr
    exact ⟨by simp [h1], by simpa using h2⟩
theorem pe_strC (R : Gt) {X : Cx} {z : Str} {j : Nat} {p : Pos} : PE X (.Constant (.str z) j p) (fun _ H Q => Q (.str z) H) := by
  refine ⟨fun pins s σ H Q I q => ?_⟩
  obtain ⟨v, r, p⟩ := rp_const (X := X) (R := R) (k := .str z) (x := .str z) rfl [] [] H
  cases r
  exact p.run pins s σ H Q I q
theorem keysOf_nil {ks : List (Option Expr)} (h : keysOf ks = some []) : ks = [] := by
  have := (keysOf_len h).1
  exact List.length_eq_zero_iff.mp this
theorem snd_prs : ∀ (vs : List Expr) {n : Nat} (S : ∀ m, m ≤ n → Snd m) (L : Lk T X R E k) {ks : List (Option Expr)} {xs : List Str} {cs : List Ex}, keysOf ks = some xs → trEs T n vs = some cs → xs.length = cs.length → PPs X pos ks vs (dispTr R E xs cs) ∧ ks.length = vs.length
  | [], n, S, L, ks, xs, cs, hk, hv, hl => by
    cases n with
    | zero => simp [trEs] at hv
    | succ n =>
      simp only [trEs, Option.some.injEq] at hv
      subst hv
      have : xs = [] := List.length_eq_zero_iff.mp (by simpa using hl)
      subst this
      have := keysOf_nil hk
      subst this
      exact ⟨pps_nil, rfl⟩
  | e :: vs, n, S, L, ks, xs, cs, hk, hv, hl => by
    cases n with
    | zero => simp [trEs] at hv
    | succ n =>
      have h2 : ∃ x y, trE T n e = some x ∧ trEs T n vs = some y ∧ cs = x :: y := by
        cases e <;> first
          | (simp [trEs] at hv; done)
          | (simp only [trEs, Option.bind_eq_bind, Option.bind_eq_some_iff, Option.some.injEq] at hv
             obtain ⟨x, hx, y, hy, rfl⟩ := hv
             exact ⟨x, y, hx, hy, rfl⟩)
      obtain ⟨x, y, hx, hy, rfl⟩ := h2
      match xs, hl, hk with
      | k0 :: xs, hl, hk =>
        obtain ⟨j, p, r, rfl, hr⟩ := keysOf_cons hk
        obtain ⟨p1, p2⟩ := snd_prs vs (fun m hm => S m (Nat.le_succ_of_le hm)) L hr hy (by simpa using hl)
        exact ⟨pps_cons (pe_strC R) ((S n (Nat.le_succ n)).e L _ _ hx) p1, by simp [p2]⟩
theorem dictArg_of (L : Lk T X R E k) {a d : Expr} (h : dictArg T a = some d) : ∃ p p2, a = .Call (.Name "dict" p) [d] [] p2 ∧ (∀ x p, d ≠ .Starred x p) ∧ Gl X "dict" ∧ X.mg "dict" = none := by
  unfold dictArg at h
  split at h
  · split at h
    · rename_i hx
      obtain ⟨rfl, _, hf⟩ := hx
      obtain ⟨rfl, hs⟩ := oneArg_of h
      obtain ⟨g, m⟩ := free_glo L hf
      exact ⟨_, _, rfl, hs, g, m⟩
    · cases h
  · cases h
theorem snd_e (S : ∀ m, m ≤ n → Snd m) (L : Lk T X R E k) {a : Expr} {c : Ex} (h : trE T (n + 1) a = some c) : PE X a (tD R E c) := by
  have Sn := S n (Nat.le_refl _)
  cases a
  case Constant kk j pos =>
    simp only [trE] at h
    obtain ⟨x, hx, rfl⟩ := map_of h
    exact p_const hx
  case Name x pos =>
    simp only [trE] at h
    split at h
    · rename_i i hi
      obtain ⟨h1, h2, h3, h4⟩ := L.vis hi
      have pv : PE X (.Name x pos) (tD R E (.var i)) := p_var h1 h2 h3 h4
      split at h
      · cases h; exact p_frz pv
      · cases h; exact pv
    · split at h
      · rename_i hgl
        split at h
        · rename_i d hG
          cases h
          obtain ⟨⟨u, hu, hc⟩, hd⟩ := L.conF _ _ hG
          exact p_con (L.gl hgl) hu hc hd
        · rename_i i ps dfl hG
          cases h
          obtain ⟨hm, F, hk, hd⟩ := L.fnF _ _ _ _ hG
          exact p_gfn (L.gl hgl) hm hd (L.fnN _ _ _ _ (by assumption))
        · cases h
      · cases h
  case BinOp a op b pos =>
    simp only [trE, Option.bind_eq_bind, Option.bind_eq_some_iff, Option.some.injEq] at h
    obtain ⟨o, ho, x, hx, y, hy, rfl⟩ := h
    split
    · rename_i e
      subst e
      exact p_wrap (f_add L.C.hK ho (Sn.e L _ _ hx) (Sn.e L _ _ hy))
    · exact p_bin L.C.hK ho (Sn.e L _ _ hx) (Sn.e L _ _ hy)
  case UnaryOp op a pos =>
    cases op <;> simp only [trE, Option.bind_eq_bind, Option.bind_eq_some_iff, Option.some.injEq] at h <;> first | (cases h; done) | skip
    · obtain ⟨x, hx, rfl⟩ := h
      exact p_not (Sn.e L _ _ hx)
    · obtain ⟨x, hx, rfl⟩ := h
      exact p_neg (Sn.e L _ _ hx)
  case BoolOp op es pos => exact Sn.b L op es pos c (by simpa only [trE] using h)
  case Compare a ops bs pos => exact (snd_cmp Sn L h).1
  case IfExp t a b pos =>
    simp only [trE, Option.bind_eq_bind, Option.bind_eq_some_iff, Option.some.injEq] at h
    obtain ⟨u, hu, v, hv, w, hw, rfl⟩ := h
    exact p_ite (Sn.t L _ _ hu) (Sn.e L _ _ hv) (Sn.e L _ _ hw)
  case Tuple es kk pos =>
    simp only [trE, Option.bind_eq_bind, Option.bind_eq_some_iff, Option.some.injEq] at h
    obtain ⟨cs, hcs, rfl⟩ := h
    exact p_tup (Sn.es L _ _ hcs).1
  case Dict ks vs pos =>
    cases ks with
    | cons k ks =>
      simp only [trE, Option.bind_eq_bind, Option.bind_eq_some_iff] at h
      obtain ⟨xs, hxs, cs, hcs, h⟩ := h
      split at h
      · rename_i hz
        cases h
        obtain ⟨hz1, hz2, hz3⟩ := hz
        obtain ⟨ps, l1⟩ := snd_prs (pos := pos) vs S L hxs hcs hz1
        have lk := (keysOf_len hxs).1
        exact p_dlit ps (keysOf_len hxs).2 l1 (fun z => nomatch z) (by rw [lk]; exact hz2) hz1 hz3
      · cases h
    | nil => cases vs with
      | cons v vs => simp [trE] at h
      | nil =>
        simp only [trE, Option.some.injEq] at h
        subst h
        exact p_dnew L.C.hP L.C.hw
  case List es pos =>
    simp only [trE, Option.bind_eq_bind, Option.bind_eq_some_iff, Option.some.injEq] at h
    obtain ⟨cs, hcs, rfl⟩ := h
    exact p_lst (Sn.es L _ _ hcs).1
  case Subscript a b pos =>
    cases b
    case Slice lo hi st p2 =>
      cases st with
      | none =>
        simp only [trE, Option.bind_eq_bind, Option.bind_eq_some_iff, Option.some.injEq] at h
        obtain ⟨x, hx, l, hl, u, hu, rfl⟩ := h
        exact p_wrap (f_slice L.C.hK (Sn.e L _ _ hx) (Sn.o L _ _ hl) (Sn.o L _ _ hu))
      | some st =>
        have key : ∃ k p1 p2, lo = none ∧ hi = none ∧ st = .UnaryOp .USub (.Constant (.int 1) k p1) p2 := by
          cases lo with
          | some lo => simp [trE] at h
          | none => cases hi with
            | some hi => simp [trE] at h
            | none =>
              cases st <;> try (simp [trE] at h; done)
              rename_i op x p2
              cases op <;> try (simp [trE] at h; done)
              cases x <;> try (simp [trE] at h; done)
              rename_i cst k p1
              cases cst <;> try (simp [trE] at h; done)
              rename_i i
              by_cases e : i = 1
              · subst e; exact ⟨_, _, _, rfl, rfl, rfl⟩
              · simp [trE, e] at h
        obtain ⟨k, p1, p2, rfl, rfl, rfl⟩ := key
        simp only [trE, Option.bind_eq_bind, Option.bind_eq_some_iff, Option.some.injEq] at h
        obtain ⟨x, hx, rfl⟩ := h
        exact p_wrap (f_rev L.C.hK (Sn.e L _ _ hx))
    all_goals
      simp only [trE] at h
      split at h
      · rename_i d hd
        obtain ⟨pp, pos2, rfl, hs, hg, hm⟩ := dictArg_of L hd
        simp only [Option.bind_eq_bind, Option.bind_eq_some_iff, Option.some.injEq] at h
        obtain ⟨x, hx, y, hy, rfl⟩ := h
        exact p_dlk L.C.hK L.C.calm L.hu hs (fun _ _ _ _ z => by cases z) hg hm (Sn.e L _ _ hx) (Sn.e L _ _ hy)
      · simp only [Option.bind_eq_bind, Option.bind_eq_some_iff, Option.some.injEq] at h
        obtain ⟨x, hx, y, hy, rfl⟩ := h
        exact p_idx L.C.hP L.C.hw L.hu L.C.hK (fun _ _ _ _ z => by cases z) (Sn.e L _ _ hx) (Sn.e L _ _ hy)
  case Attribute o f pos =>
    cases o
    case Call => simp [trE] at h
    all_goals
      simp only [trE, Option.bind_eq_bind, Option.bind_eq_some_iff, Option.some.injEq] at h
      obtain ⟨x, hx, rfl⟩ := h
      exact p_fld L.C.hK L.G (fun _ _ _ _ z => by cases z) (Sn.e L _ _ hx)
  case ListComp elt gs scope pos =>
    obtain ⟨tg, it, ifs, own, cell, gc, is, one, w, its, b, e, rfl, rfl, p1, p2, ok, hown, g, t, ee⟩ := snd_lc Sn L h
    exact peImp (pe_lc L.C.calm L.C.nd p1 ok g t ee (folded_ne p2 X.env)) fun σ H Q q => comp_lc hown q
  case Call f es kw pos =>
    cases kw with
    | cons q r => cases f <;> simp [trE] at h
    | nil =>
      cases f
      case Name x p => exact snd_call Sn L h
      case Attribute o m apos => exact snd_meth Sn L h
      all_goals simp [trE] at h
  all_goals simp [trE] at h
theorem snd_zero : Snd 0 where
  e := fun _ _ _ h => by simp [trE] at h
  b := fun _ _ _ _ _ h => by simp [trBool] at h
  es := fun _ _ _ h => by simp [trEs] at h
  as := fun _ _ _ h => by simp [trAs] at h
  o := fun _ _ _ h => by simp [trO] at h
  c := fun _ _ _ h => by simp [trC] at h
  i := fun _ _ _ _ _ h => by simp [trI] at h
  t := fun _ _ _ h => by simp [trB] at h
  tb := fun _ _ _ _ _ h => by simp [trBoolB] at h
theorem snd_succ (S : ∀ m, m ≤ n → Snd m) : Snd (n + 1) where
  e := fun L _ _ h => snd_e S L h
  b := fun L _ _ _ _ h => snd_b (S n (Nat.le_refl _)) L h
  es := fun L _ _ h => snd_es (S n (Nat.le_refl _)) L h
  as := fun L _ _ h => snd_as (S n (Nat.le_refl _)) L h
  o := fun L _ _ h => snd_o (S n (Nat.le_refl _)) L h
  c := fun L _ _ h => snd_c (S n (Nat.le_refl _)) L h
  i := fun L _ _ _ _ h => snd_i (S n (Nat.le_refl _)) L h
  t := fun L _ _ h => snd_t S L h
  tb := fun L _ _ _ _ h => snd_tb (S n (Nat.le_refl _)) L h
theorem snd_le : ∀ n m, m ≤ n → Snd m
  | 0, m, h => by cases Nat.le_zero.mp h; exact snd_zero
  | n + 1, m, h => by
    rcases Nat.lt_or_ge m (n + 1) with l | l
    · exact snd_le n m (Nat.le_of_lt_succ l)
    · have : m = n + 1 := Nat.le_antisymm h l
      subst this
      exact snd_succ (snd_le n)
theorem snd (n : Nat) : Snd n := snd_le n n (Nat.le_refl _)
end
end Cc

set_option linter.all false
set_option maxRecDepth 100000
set_option maxHeartbeats 4000000
/-! Ce5: isinstance of a caught exception that has fields. -/
namespace Ce
open PySem PySem.Spec PySem.Calls PyProof.Rows
section
variable {prog : Program} {w : World} {A : Around} {E : Value → Shared → Prop} {s : Shared} {K : PySem.W.Frag} {x D : Addr} {ox od : Obj}
open PySem.W in
theorem found_cls (C : L2.ExcC K D) : findObj K D (some od) "__class__" = some (.bind (.builtin "getset_descriptor.__get__") (.builtin "object.__class__")) := by
  obtain ⟨cd, hc, _⟩ := any_some C.hd
  unfold findObj
  rw [hc, Option.bind_some, C.ha, Option.bind_some]
  simp [C.hn, C.ht]
open PySem.W in
theorem cls_of {Q : Option Value → Shared → Prop} (C : L2.ExcC K D) (X : K.In s.heap) (I : InstAt s.heap x ox D (some od)) (h : Q (some (.ref D)) { s with toks := s.toks + 1 }) :
    wpAny (model prog w) A (getAttr? (.ref x) "__class__") Q E s := by
  have hf := found_cls (od := od) C
  obtain ⟨hp, g, d, t, os⟩ := s
  have k0 := I.type (M := model prog w); have k1 := looks_findIn (M := model prog w) X C.hg
  have k2 := looks_findIn (M := model prog w) X C.hk; have k3 := looks_find (M := model prog w) X I hf
  have kS : Looks (model prog w) hp (isInstance (.ref x) (.type "BaseException")) true := k0.andThen (looks_subIn X C.hs)
  have n0 : (false && onTheHeap (Value.builtin "BaseException.__getattribute__")) = false := rfl
  have n2 : (Value.builtin "BaseException.__getattribute__" == Value.builtin "object.__getattribute__") = false := by decide +kernel
  have n1 : (onTheHeap (Value.ref D) && Value.builtin "BaseException.__getattribute__" == Value.builtin "object.__getattribute__") = false := by rw [n2]; rfl
  unfold getAttr? getAttrBy? getAttrBy
  refine wpAny_bind (wpAny_mkText (wpAny_bind (wpAny_attempt (wpAny_holding (wpAny_bind (k0.at (wpAny_bind (k1.at ?_))))))))
  show wpAny _ _ (if (onTheHeap (Value.ref D) && Value.builtin "BaseException.__getattribute__" == Value.builtin "object.__getattribute__") = true then _ else _) _ _ _
  rw [n1, if_neg Bool.false_ne_true]
  unfold getAttrByItsOwn hookBefore
  refine wpAny_bind ?_
  rw [if_pos (show onTheHeap (Value.ref D) = true from rfl)]
  refine k2.at ?_
  refine wpAny_bind (wpAny_attempt (wpAny_holding ?_))
  unfold callGetattribute
  rw [n0, if_neg Bool.false_ne_true]
  unfold boundAndCalled
  rw [PySem.F.excAttr_ValueError.ga.bind (.ref x)]
  refine wpAny_bind (wpAny_pure ?_)
  show wpAny _ _ (call (.builtin "BaseException.__getattribute__") [.ref x, .str "__class__" t]) _ _ _
  refine wpAny_call (codeAny_call_builtin PySem.F.excAttr_ValueError.ga.plain PySem.F.entry_bexc_ga ?_)
  refine @check_slot (model prog w) _ _ ⟨hp, g, d, t + 1, os⟩ "BaseException.__getattribute__" "BaseException" "__getattribute__" (.ref x) [.str "__class__" t] [] _ (by decide +kernel) (by decide +kernel) kS (PySem.F.args_bexc_ga (.ref x) (.str "__class__" t)) ?_
  unfold Builtin.«object.__getattribute__»
  refine wpAny_bind (wpAny_of_eq (a := ((Value.ref x : Value), [Value.str "__class__" t])) (by first | rfl | (simp only [slotArgs]; rfl)) ?_)
  refine wpAny_bind (wpAny_pure (wpAny_bind (k0.at (wpAny_bind (k3.at ?_)))))
  show wpAny _ _ (holding [Value.builtin "object.__class__"] (call (.builtin "getset_descriptor.__get__") [.builtin "object.__class__", .ref x, .ref D]) >>= ret) _ _ _
  refine wpAny_bind (wpAny_holding (wpAny_call (class_get (s := ⟨hp, g, d, t + 1, os⟩) (ox := ox) (od := some od) X I C.hm ?_)))
  refine wpAny_pure ?_
  show wpAny _ _ (handedOut (.ref D)) _ _ _
  rw [handedOut_of (v := .ref D) rfl]
  first
    | exact wpAny_pure (wpAny_pure h)
    | exact wpAny_pure h
    | exact wpAny_pure (wpAny_bind (wpAny_pure (wpAny_pure h)))
open PySem.W in
theorem kitS (C : L2.ExcC K D) : KitX K (.ref x) (.ref D) (fun h => InstAt h x ox D (some od)) where
  ty := fun _ _ _ I => I.type
  it := fun M h X _ A' Q' E' s' k q => by
    obtain ⟨cd, hc, _⟩ := any_some C.hd
    unfold clsIn at hc
    split at hc <;> first | contradiction | skip
    unfold isType loadHead
    rename_i ho
    exact wpAny_bind (wpAny_loadPart (k _ _ (X _ _ ho)) (wpAny_pure q))
  ne := (handS_kitx_exc (x := x) (ox := ox) C.hg C.hk C.hs C.hd C.ha C.hn C.ht C.hm).ne
  ca := fun X I k => cls_of C X I k
end
open L2
theorem call_isS {X : Cx} {a D dd : Addr} {oe : Obj} {pn : List (Addr × Obj)} (C : ExcC X.K D) (hz : Zc (.ref D) (some dd) oe) (hf : ∃ vs, oe.data = .fields vs) :
    CallR (X.suite a ((a, oe) :: pn)) (.builtin "isinstance") (fun xs H Q => (∃ fs, H dd = some (.xd fs)) ∧ rIsE X.K D a xs H Q) := by
  intro pins s σ H xs us Q I r h
  obtain ⟨⟨fs, ed⟩, c, cv, b, rfl, hcv, e, q⟩ := h
  match us, r with
  | [u1, u2], .cons rx (.cons rt .nil) =>
    cases rx
    have ec := hcv _ rt
    subst ec
    obtain ⟨hget, _⟩ := I.pin (a, oe) (List.mem_append.mpr (.inl List.mem_cons_self))
    obtain ⟨vs, hv⟩ := hf
    obtain ⟨mA, hns, _⟩ := I.hok dd _ ed
    obtain ⟨od, ho, hl⟩ := lookIn_ns hns
    have J : PySem.W.InstAt s.heap a oe D (some od) := ⟨hget, hz.1, by unfold PySem.W.notCls; rw [hv] <;> rfl, by rw [hz.2]; exact ho⟩
    exact PySem.W.kia_one (kitS C) I.kIn J e (fun z => nomatch z) fun tk => ⟨.bl b, H, I.kept (t' := tk) fun _ _ z => z, rfl, q⟩
end Ce

set_option linter.all false
set_option maxRecDepth 100000
set_option maxHeartbeats 4000000
/-! Cc: the translator is right about statements. -/
namespace Cc
open PySem PySem.Spec PyProof.Rows L2

section
variable {T : TEnv} {X : Cx} {R : Gt} {E : XK} {k n : Nat} {pos p : Pos}
theorem sw_plain {e : Expr} (h : isComp e = false) (t : Option Expr) (l : Nat) (env : PySem.Env) : swapsWith e t l env = pure false := by
  cases e <;> first | (cases h; done) | (unfold swapsWith; rfl)
theorem sw_other {e t : Expr} (h : ∀ x p, t ≠ .Name x p) (l : Nat) (env : PySem.Env) : swapsWith e (some t) l env = pure false := by
  cases e <;> first
    | rfl
    | (cases t <;> first | rfl | exact absurd rfl (h _ _))
theorem sw_sole {e t : Expr} (h : ∀ x p, t ≠ .Name x p) (l : Nat) (env : PySem.Env) : swapsWithSole [t] e l env = pure false := sw_other h l env
def swB (scope : Scope) (line : Nat) (t : Str) (p : Pos) (env : PySem.Env) : Bool :=
  env.blockKind == .function && env.kindOf t == some .local && p.line == line && !(scope.names.any fun (n, k) => n == t && (k == .local || k == .cell))
theorem sw_lc {elt : Expr} {gs : List Comprehension} {scope : Scope} {y : Str} {py : Pos} {l : Nat} {env : PySem.Env} : swapsWith (.ListComp elt gs scope pos) (some (.Name y py)) l env = pure (swB scope pos.line y py env) := rfl
theorem lc_local {scope : Scope} {line : Nat} {t : Str} {env : PySem.Env} (h : swB scope line t p env = true) : env.scope.names.lookup t = some .local := by
  unfold swB at h
  simp only [Bool.and_eq_true] at h
  have h2 := h.1.1.2
  have ky : env.kindOf t = env.scope.names.lookup t := rfl
  rw [← ky]
  cases q : env.kindOf t with
  | none => rw [q] at h2; cases h2
  | some kd =>
    rw [q] at h2
    cases kd <;> first | rfl | (cases h2; done)
theorem comp_tr {e : Expr} {c : Ex} (h : trE T n e = some c) (hc : isComp e = true) : ∃ elt gs scope pos, e = .ListComp elt gs scope pos := by
  cases n with
  | zero => simp [trE] at h
  | succ n =>
    cases e <;> simp only [isComp] at hc <;> try (cases hc; done)
    · exact ⟨_, _, _, _, rfl⟩
    · simp [trE] at h
    · simp [trE] at h
/-- name = e -/
theorem s_name (L : Lk T X R (con E) k) {x : Str} {e : Expr} {i : Nat} {c : Ex} (hx : tgtOf T x = some i) (he : trE T n e = some c) : PS X (.Assign [.Name x p] e pos) (tS R E (.assign (.name i) c)) := by
  obtain ⟨h1, h2⟩ := tgt_of hx
  obtain ⟨h3, h4⟩ := L.tsc x h2
  rw [← L.N] at h1
  have imp : ∀ D σ H, tS R E (.assign (.name i) c) D σ H → tAsg (tD R (con E) c) (gName i) D σ H := fun D σ H h => tD_mono (i_asg h) fun v H1 q => i_gname q
  cases hc : isComp e with
  | false => exact psImp (ps_set L.C.nd h1 h3 ((snd n).e L _ _ he) (sw_plain hc _ _ _) h4) imp
  | true =>
    obtain ⟨elt, gs, scope, ps, rfl⟩ := comp_tr he hc
    cases hb : swB scope ps.line x p X.env with
    | false => exact psImp (ps_set L.C.nd h1 h3 ((snd n).e L _ _ he) (by rw [sw_lc, hb]) h4) imp
    | true =>
      cases n with
      | zero => simp [trE] at he
      | succ n =>
        obtain ⟨tg, it, ifs, own, cell, gc, is, one, w, its, b, e, rfl, rfl, p1, p2, ok, hown, g, t, ee⟩ := snd_lc (snd n) L he
        exact psImp (ps_setLc L.C.calm L.C.nd h1 (lc_local hb) (by rw [sw_lc, hb]) p1 ok g t ee (folded_ne p2 X.env)) fun D σ H h => comp_lc hown (imp D σ H h)
theorem g_sub (L : Lk T X R (con E) k) {o i : Expr} {co ci : Ex} (ho : trE T n o = some co) (hi : trE T n i = some ci) (hs : ∀ l u s p, i ≠ .Slice l u s p) : PG X (.Subscript o i pos) (gT R E (.sub co ci)) :=
  pgImp (pg_sub ((snd n).e L _ _ ho) ((snd n).e L _ _ hi) (Cd.PSet.or set_list (Cd.PSet.or (Cd.set_dn (by have := L.hu; omega)) (set_dict (by have := L.hu; omega)))) (by
    intro v
    cases i <;> first | rfl | exact absurd rfl (hs _ _ _ _))) fun v σ H Q h => i_gsub L.C.hP L.C.hw L.C.hK h
theorem g_u (L : Lk T X R (con E) k) {t : Expr} {ct : Tx} (h : trU T n t = some ct) : PG X t (gT R E ct) ∧ ∀ x p, t ≠ .Starred x p := by
  cases t
  case Name x p =>
    simp only [trU] at h
    obtain ⟨i, hi, rfl⟩ := map_of h
    obtain ⟨h1, h2⟩ := tgt_of hi
    obtain ⟨h3, h4⟩ := L.tsc x h2
    rw [← L.N] at h1
    exact ⟨pgImp (pg_name L.C.nd h1 h3 h4) fun v σ H Q q => i_gname q, fun _ _ z => by cases z⟩
  case Subscript o i p =>
    cases i
    case Slice => simp [trU] at h
    all_goals
      simp only [trU, Option.bind_eq_bind, Option.bind_eq_some_iff, Option.some.injEq] at h
      obtain ⟨x, hx, y, hy, rfl⟩ := h
      exact ⟨g_sub L hx hy (fun _ _ _ _ z => by cases z), fun _ _ z => by cases z⟩
  case Attribute o f p =>
    cases o
    case Call => simp [trU] at h
    all_goals
      simp only [trU, Option.bind_eq_bind, Option.bind_eq_some_iff, Option.some.injEq] at h
      obtain ⟨x, hx, rfl⟩ := h
      refine ⟨?_, fun _ _ z => by cases z⟩
      have q := pg_fld (X := X) (f := f) (pos := p) ((snd n).e L _ _ hx)
      rw [L.C.hK] at q
      exact pgImp q fun v σ H Q q => i_gfld L.G q
  all_goals simp [trU] at h
theorem g_us (L : Lk T X R (con E) k) : ∀ {ts : List Expr} {cts : List Tx}, trTs T n ts = some cts → PGs X ts (gTs R E cts) ∧ (assignEach ts X.env).length = cts.length ∧ (assignEach ts X.env).findIdx? (·.1) = none
  | [], cts, h => by
    simp only [trTs] at h
    cases h
    exact ⟨pgsImp pgs_nil fun v σ H Q q => i_gts_nil q, rfl, rfl⟩
  | t :: ts, cts, h => by
    simp only [trTs, Option.bind_eq_bind, Option.bind_eq_some_iff, Option.some.injEq] at h
    obtain ⟨x, hx, y, hy, rfl⟩ := h
    obtain ⟨g, hs⟩ := g_u L hx
    obtain ⟨gs, l, f⟩ := g_us L hy
    refine ⟨pgsImp (pgs_cons g gs (by rw [assignEach_ne hs]; rfl)) fun v σ H Q q => i_gts_cons q, by rw [assignEach_ne hs]; simp [l], ?_⟩
    rw [assignEach_ne hs, List.findIdx?_cons]
    simp [f]
theorem i_setfld {o : Ex} {f : Str} {c : Ex} (G : GOk R) {D : Ends} {σ : L2.St} {H : Hp} (h : tS R E (.assign (.fld o f) c) D σ H) : sFld R.K (tD R (con E) o) (tD R (con E) c) f D σ H := i_fld G h
end
theorem i_stk {R : Gt} {E : XK} {D : Ends} {σ : L2.St} {H : Hp} (h : tS R E .stk D σ H) : False := by
  obtain ⟨φ, ex, s, env, S, N, h⟩ := h
  simp only [runS] at h
  exact h
theorem ps_stk {X : Cx} {R : Gt} {E : XK} {st : Stmt} : PS X st (tS R E .stk) := ⟨fun pins s σ H D I h => (i_stk h).elim⟩
/-! ### raise -/
theorem i_raise {R : Gt} {E : XK} {D : Ends} {σ : L2.St} {H : Hp} {c : Nat} {m : Str} (hx : ∀ c m fs, R.XI c [.str m] = some fs → fs = []) (h : tS R E (.raise c [.const (.str m)]) D σ H) : E (.ref (R.xa c)) none H := by
  obtain ⟨φ, ex, s, env, S, N, h⟩ := h
  simp only [runS, runEs, runE, Res.bind_ok, allPure] at h
  cases e : R.XI c [.str m] with
  | none => rw [e] at h; exact h.elim
  | some fs =>
    rw [e] at h
    exact h φ H none (Ext.refl _ _) S (hx _ _ _ e)
/-! ### try -/
/-- where a body is tried -/
theorem Lk.tr {T : TEnv} {X : Cx} {R : Gt} {E : L2.St → XK} {k : Nat} (L : Lk T X R E k) {W : WX} {pn : List (Addr × Obj)} {xe : Value → Shared → Prop} (tk : Takes (X.tr pn xe) W) : Lk T (X.tr pn xe) R (WE W) k where
  C := ⟨L.C.hP, L.C.hw, L.C.hK, L.C.calm, L.C.nd, L.C.room, fun σ => passAt tk σ, L.C.hB, L.C.gd⟩
  G := L.G
  N := L.N
  sc := L.sc
  tsc := L.tsc
  ndb := L.ndb
  fnF := L.fnF
  clsF := L.clsF
  conF := L.conF
  bltF := L.bltF
  basF := L.basF
  pexF := L.pexF
  xiF := L.xiF
  pxiF := L.pxiF
  xsF := L.xsF
  bdF := L.bdF
  meF := L.meF
  fnN := L.fnN
  fnS := L.fnS
  ndF := L.ndF
  ow := fun h => ⟨(L.ow h).ec, (L.ow h).N, (L.ow h).sc, (L.ow h).fn⟩
  mkF := fun h z => ⟨(L.mkF h z).ex⟩
  ndT := L.ndT
/-- a frame that may be left by an exception -/
structure FrOk (X : Cx) (E : XK) : Prop where
  tk : Takes X fun cls d _ H => E cls d H
  hs : X.stack = X.env :: X.outer
  hf : X.env.frame = some X.env.locals
structure SndS (n : Nat) : Prop where
  s : ∀ {T : TEnv} {X : Cx} {R : Gt} {E : XK} {k : Nat}, Lk T X R (con E) k → PassesOwn (model X.prog X.w) X.A X.env X.xe → FrOk X E → ∀ (st : Stmt) (c : Sx), trS T n st = some c → PS X st (tS R E c)
  ss : ∀ {T : TEnv} {X : Cx} {R : Gt} {E : XK} {k : Nat}, Lk T X R (con E) k → PassesOwn (model X.prog X.w) X.A X.env X.xe → FrOk X E → ∀ (sts : List Stmt) (c : Sx), trSs T n sts = some c → PSs X sts (tS R E c)
section
variable {T : TEnv} {X : Cx} {R : Gt} {E : XK} {k n : Nat} {pos p : Pos}
theorem snd_ss (S : SndS n) (L : Lk T X R (con E) k) (hp : PassesOwn (model X.prog X.w) X.A X.env X.xe) (fo : FrOk X E) {sts : List Stmt} {c : Sx} (h : trSs T (n + 1) sts = some c) : PSs X sts (tS R E c) := by
  have any : ∀ a, PS X a (tS R E ((trS T n a).getD .stk)) := fun a => by
    cases q : trS T n a with
    | none => exact ps_stk
    | some x => exact S.s L hp fo a x q
  match sts, h with
  | [], h => simp only [trSs] at h; cases h; exact pssImp pss_nil fun D σ H q => i_next q
  | [a], h =>
    simp only [trSs, Option.some.injEq] at h
    subst h
    exact pss_one (any a)
  | a :: b :: r, h =>
    simp only [trSs, Option.bind_eq_bind, Option.bind_eq_some_iff, Option.some.injEq] at h
    obtain ⟨y, hy, rfl⟩ := h
    exact pssImp (pss_cons (any a) (S.ss L hp fo _ y hy)) fun D σ H q => i_seq q
/-- the body of a try, by what an exception out of it must answer -/
def tbOf (R : Gt) (i : Option Nat) (e : Ex) : WX → TS := fun W => match i with
  | none => tDrop (tD R (WE W) e)
  | some i => tAsg (tD R (WE W) e) (gName i)
theorem ps_one (L : Lk T X R (con E) k) {W : WX} {pn : List (Addr × Obj)} {xe : Value → Shared → Prop} (tk : Takes (X.tr pn xe) W) {b : Stmt} {i : Option Nat} {e : Ex} (h : oneOf T n b = some (i, e)) : PS (X.tr pn xe) b (tbOf R i e W) := by
  have L' := L.tr tk
  unfold oneOf at h
  split at h
  · split at h
    · cases h
    · rename_i hc
      simp only [Option.bind_eq_bind, Option.bind_eq_some_iff, Option.some.injEq, Prod.mk.injEq] at h
      obtain ⟨x, hx, rfl, rfl⟩ := h
      exact ps_expr ((snd n).e L' _ _ hx) (sw_plain (by simpa using hc) _ _ _)
  · split at h
    · cases h
    · rename_i hc
      simp only [Option.bind_eq_bind, Option.bind_eq_some_iff, Option.some.injEq, Prod.mk.injEq] at h
      obtain ⟨j, hj, x, hx, rfl, rfl⟩ := h
      obtain ⟨h1, h2⟩ := tgt_of hj
      obtain ⟨h3, h4⟩ := L'.tsc _ h2
      rw [← L'.N] at h1
      exact ps_set L'.C.nd h1 h3 ((snd n).e L' _ _ hx) (sw_plain (by simpa using hc) _ _ _) h4
  · cases h
def setO (σ : L2.St) (v : V) : Option Nat → L2.St
  | none => σ
  | some i => σ.set i (some v)
theorem i_try {i : Option Nat} {e : Ex} {l : List (Nat × Bool)} {j : Nat} {d : PyData} {v : Value} {D : Ends} {σ : L2.St} {H : Hp} (hl : ∀ c b, l.lookup c = some b → PySem.W.exmOne R.K (.ref (R.xa c)) v = some b)
    (h : tS R E (.tr i e l (.flag j d)) D σ H) : tbOf R i e (wOnly R.K v (fun _ _ _ => tAsg (tD R (con E) (.const d)) (gName j)) (fun c d _ H => E c d H) D) D σ H := by
  obtain ⟨φ, ex, s, env, S, N, h⟩ := h
  simp only [runS] at h
  have main : tD R (WE (wOnly R.K v (fun _ _ _ => tAsg (tD R (con E) (.const d)) (gName j)) (fun c d _ H => E c d H) D)) e σ H (fun v H1 => D.nx (setO σ v i) H1) := by
    refine ⟨φ, ex, s, env, S, N, ?_⟩
    cases r : runE R.Φ R.M R.CI R.FO e env s with
    | stuck => rw [r] at h; exact h
    | ok w s1 =>
      rw [r] at h
      intro v1 φ1 H1 e1 S1 r1
      cases i with
      | none => exact h φ1 H1 e1 S1 σ (N.ext e1)
      | some i => exact h φ1 H1 e1 S1 _ ((N.ext e1).set r1)
    | exc x s1 =>
      rw [r] at h
      dsimp only at h
      intro φ1 H1 od e1 S1 fs
      cases q : l.lookup x.cls with
      | none => rw [q] at h; exact h.elim
      | some b =>
        rw [q] at h
        refine ⟨b, hl _ _ q, fun hb a ha => ?_, fun hb => ?_⟩
        · subst hb
          simp only [runH] at h
          refine ⟨φ1, ex, s1, env, S1, N.ext e1, fun v2 φ2 H2 e2 S2 r2 => ?_⟩
          exact h φ2 H2 (e1.trans e2) S2 _ (((N.ext e1).ext e2).set r2)
        · subst hb
          exact h φ1 H1 od e1 S1 fs
  cases i with
  | none => exact main
  | some i => exact main
/-! ### except X as e: y = (isinstance(e, A), ..) -/
theorem lookup_local {sc : Scope} {x : Str} (h : sc.names.lookup x = some .local) : sc.names.lookup x = some .local := h
theorem names_xs (L : Lk T X R (con E) k) {x : Str} {l : List (Nat × Bool)} (h : xsOf T x = some l) : ∃ v, Names X x v ∧ (∃ cv : V, RelV cv v ∧ ∀ u, RelV cv u → u = v) ∧ ∀ c b, l.lookup c = some b → PySem.W.exmOne R.K (.ref (R.xa c)) v = some b ∧ PySem.W.kitOne R.K (.ref (R.xa c)) v = some b ∧ ExcC R.K (R.xa c) := by
  unfold xsOf at h
  split at h
  · rename_i hg
    simp only [Bool.and_eq_true] at hg
    obtain ⟨v, hv, hc, hx⟩ := L.xsF _ _ h
    exact ⟨v, ⟨L.gl hg.2, hv⟩, hc, hx⟩
  · cases h
/-- a class's name, as a value -/
theorem pe_clsN {X : Cx} {x : Str} {cv : V} {v : Value} (h : Names X x v) (r : RelV cv v) : PE X (.Name x p) (fun _ H Q => Q cv H) := by
  refine ⟨fun pins s σ H Q I q => ?_⟩
  obtain ⟨hg, hdbg, hm | ⟨hm, hv, hnn⟩⟩ := h
  · exact ld_glob I hg hm ⟨cv, H, I, r, q⟩ hdbg
  · exact ld_blt I hg hm hv ⟨cv, H, I, r, q⟩ hnn hdbg
theorem pe_isE {X : Cx} {a : Addr} {oe : Obj} {pn : List (Addr × Obj)} {D : Addr} {e y : Str} {i : Nat} {p1 p2 p3 pos : Pos} {cv : V} {v : Value} {b : Bool} (C : ExcC X.K D) (hz : Zc (.ref D) none oe) (hf : ∃ vs, oe.data = .fields vs)
    (hN : X.N[i]? = some e) (hv : Vis X.env.scope e) (h1 : (e == ("__debug__" : Str)) = false) (h2 : (e == ("__classdict__" : Str)) = false) (hg : Gl X "isinstance") (hm : X.mg "isinstance" = none) (hy : Names X y v) (rv : RelV cv v) (ru : ∀ u, RelV cv u → u = v) (hk : PySem.W.kitOne X.K (.ref D) v = some b) :
    PE (X.suite a ((a, oe) :: pn)) (.Call (.Name "isinstance" p1) [.Name e p2, .Name y p3] [] pos) (fun σ H Q => σ[i]? = some (some (.ref a)) ∧ Q (.bl b) H) :=
  peImp (pe_callB (X := X.suite a ((a, oe) :: pn)) (call_isE C hz hf) hg hm boot_isinstance (pa_cons (pe_var (X := X.suite a ((a, oe) :: pn)) hN hv h1 h2) (pa_cons (pe_clsN (X := X.suite a ((a, oe) :: pn)) hy rv) pa_nil rfl) rfl) (by decide) (by decide) rfl rfl) fun σ H Q ⟨hs, q⟩ => ⟨.ref a, hs, cv, v, b, rfl, ru, hk, q⟩
theorem pa_isas (L : Lk T X R (con E) k) {a : Addr} {oe : Obj} {pn : List (Addr × Obj)} {c : Nat} {e : Str} {i : Nat} (C : ExcC R.K (R.xa c)) (hz : Zc (.ref (R.xa c)) none oe) (hf : ∃ vs, oe.data = .fields vs) (hi : slotOf T e = some i) :
    ∀ {es : List Expr} {ls : List (List (Nat × Bool))} {bs : List Bool}, isasOf T e es = some ls → runIs c ls = some bs → PA (X.suite a ((a, oe) :: pn)) es (fun σ H Q => σ[i]? = some (some (.ref a)) ∧ Q (bs.map V.bl) H) := by
  intro es
  induction es with
  | nil =>
    intro ls bs h hr
    simp only [isasOf, Option.some.injEq] at h
    subst h
    simp only [runIs, Option.some.injEq] at hr
    subst hr
    exact paImp pa_nil fun σ H Q h => h.2
  | cons e0 es ih =>
    intro ls bs h hr
    have key : ∃ f p1 y p2 x p3 pos l ls', e0 = .Call (.Name f p1) [.Name y p2, .Name x p3] [] pos ∧ f = ("isinstance" : Str) ∧ y = e ∧ freeB T f = true ∧ xsOf T x = some l ∧ isasOf T e es = some ls' ∧ ls = l :: ls' := by
      unfold isasOf at h
      split at h <;> first | contradiction | skip
      · rename_i f p1 y p2 x p3 pos es' heq
        split at h
        · rename_i hx
          cases heq
          simp only [Option.bind_eq_bind, Option.bind_eq_some_iff, Option.some.injEq] at h
          obtain ⟨l, hl, ls', hls, rfl⟩ := h
          exact ⟨_, _, _, _, _, _, _, _, _, rfl, hx.1, hx.2.1, hx.2.2, hl, hls, rfl⟩
        · cases h
    obtain ⟨f, p1, y, p2, x, p3, pos, l, ls', rfl, rfl, rfl, hfr, hl, hls, rfl⟩ := key
    unfold runIs at hr
    split at hr
    · rename_i b bs' hb hbs
      cases hr
      obtain ⟨g1, m1⟩ := free_glo L hfr
      obtain ⟨v, hn, ⟨cv, rv, ru⟩, hx⟩ := names_xs L hl
      obtain ⟨_, hk, _⟩ := hx c b hb
      obtain ⟨q1, q2, q3, q4⟩ := L.vis hi
      rw [← L.C.hK] at C hk
      exact paImp (pa_cons (pe_isE (p1 := p1) (p2 := p2) (p3 := p3) (pos := pos) C hz hf q1 q2 q3 q4 g1 m1 hn rv ru hk) (ih hls hbs) rfl) fun σ H Q ⟨hs, q⟩ => ⟨hs, hs, q⟩
    · cases hr
/-- what the suite does -/
def tIsas (R : Gt) (i j : Nat) (ls : List (List (Nat × Bool))) : Addr → Value → Option Addr → L2.TS := fun a cls d D σ H => ∃ c bs, cls = .ref (R.xa c) ∧ d = none ∧ runIs c ls = some bs ∧ ExcC R.K (R.xa c) ∧ σ[i]? = some (some (.ref a)) ∧ bs.length ≤ sizeLine ∧
  ∀ (p : Addr) (o : Obj), H p = none → o.dict = Option.none → D.nx (σ.set j (some (.ref p))) (upd H p (.frz o (.tup (bs.map V.bl))))
theorem ps_isas (L : Lk T X R (con E) k) {e y : Str} {i j : Nat} {py pa : Pos} {es : List Expr} {kk : Nat} {pt : Pos} {ls : List (List (Nat × Bool))} (hi : slotOf T e = some i) (hj : tgtOf T y = some j) (hls : isasOf T e es = some ls) (a : Addr) (oe : Obj) (cls : Value) (d : Option Addr) (pn : List (Addr × Obj)) (hz : Zc cls d oe) (hf : ∃ vs, oe.data = .fields vs) :
    PS (X.suite a ((a, oe) :: pn)) (.Assign [.Name y py] (.Tuple es kk pt) pa) (tIsas R i j ls a cls d) := by
  obtain ⟨h1, h2⟩ := tgt_of hj
  obtain ⟨h3, h4⟩ := L.tsc _ h2
  rw [← L.N] at h1
  refine ⟨fun pins s σ H D I ⟨c, bs, e1, e2, hr, C, hs, hl, q⟩ => ?_⟩
  subst e1 e2
  refine (ps_set (X := X.suite a ((a, oe) :: pn)) L.C.nd h1 h3 (Cd.pe_tupX (pa_isas L C hz hf hi hls hr)) (sw_plain rfl _ _ _) h4).run pins s σ H D I ?_
  exact ⟨hs, by rw [List.length_map]; exact hl, fun p o hp ho => q p o hp ho⟩
theorem i_tryAs {i0 : Option Nat} {e : Ex} {l : List (Nat × Bool)} {i j : Nat} {ls : List (List (Nat × Bool))} {v : Value} {D : Ends} {σ : L2.St} {H : Hp} (hl : ∀ c b, l.lookup c = some b → PySem.W.exmOne R.K (.ref (R.xa c)) v = some b ∧ ExcC R.K (R.xa c)) (hne : i ≠ j) (hz : ls.length ≤ 100) (hlt : i < σ.length)
    (h : tS R E (.tr i0 e l (.isas i j ls)) D σ H) : tbOf R i0 e (wAs R.K v i (tIsas R i j ls) (fun c d _ H => E c d H) D) D σ H := by
  obtain ⟨φ, ex, s, env, S, N, h⟩ := h
  simp only [runS] at h
  have main : tD R (WE (wAs R.K v i (tIsas R i j ls) (fun c d _ H => E c d H) D)) e σ H (fun v H1 => D.nx (setO σ v i0) H1) := by
    refine ⟨φ, ex, s, env, S, N, ?_⟩
    cases r : runE R.Φ R.M R.CI R.FO e env s with
    | stuck => rw [r] at h; exact h
    | ok w s1 =>
      rw [r] at h
      intro v1 φ1 H1 e1 S1 r1
      cases i0 with
      | none => exact h φ1 H1 e1 S1 σ (N.ext e1)
      | some i => exact h φ1 H1 e1 S1 _ ((N.ext e1).set r1)
    | exc x s1 =>
      rw [r] at h
      dsimp only at h
      intro φ1 H1 od e1 S1 fs
      cases q : l.lookup x.cls with
      | none => rw [q] at h; exact h.elim
      | some b =>
        rw [q] at h
        refine ⟨b, (hl _ _ q).1, fun hb a ha => ?_, fun hb => ?_⟩
        · subst hb
          simp only [runH] at h
          by_cases hif : (x.fs.isEmpty && Nat.ble ls.length 100) = true
          · rw [if_pos hif] at h
            rw [Bool.and_eq_true] at hif
            cases hr : runIs x.cls ls with
            | none => rw [hr] at h; exact h.elim
            | some bs =>
              rw [hr] at h
              dsimp only [Option.map] at h
              have hfs : x.fs = [] := by simpa using hif.1
              have hod : od = none := by
                cases od with
                | none => rfl
                | some d => exact absurd hfs fs.1
              have N1 := N.ext e1
              have lb : ∀ (ls : List (List (Nat × Bool))) (bs : List Bool), runIs x.cls ls = some bs → bs.length = ls.length := by
                intro ls
                induction ls with
                | nil => intro bs h; simp only [runIs, Option.some.injEq] at h; subst h; rfl
                | cons l ls ih =>
                  intro bs h
                  unfold runIs at h
                  split at h
                  · rename_i b' bs' _ hb2; cases h; simp [ih _ hb2]
                  · cases h
              refine ⟨x.cls, bs, rfl, hod, hr, (hl _ _ q).2, ?_, by rw [lb _ _ hr]; exact Nat.le_trans hz (by decide), fun p o hp ho => ?_⟩
              · exact List.getElem?_set_self hlt
              · have rb : RpL R.K φ1 ex H1 (bs.map V.bl) (bs.map PyData.bool) := by
                  clear hr h
                  induction bs with
                  | nil => exact .nil
                  | cons b bs ih => exact .cons (.bl b) ih
                obtain ⟨e3, S3, r3⟩ := S1.newTup rb hp ho
                refine h φ1 _ (e1.trans e3) S3 _ ?_
                have N3 := N1.ext e3
                have N4 := N3.set (i := j) (RpW.d r3)
                refine ⟨by simp [N3.len], fun m w hw => ?_⟩
                by_cases hm : i = m
                · subst hm
                  rcases Nat.lt_or_ge i (env.set j (some (W.d (PyData.tuple (bs.map PyData.bool))))).length with lt | ge
                  · rw [List.getElem?_set_self lt] at hw; cases hw
                  · rw [List.set_eq_of_length_le ge] at hw
                    have e0 : (env.set j (some (W.d (PyData.tuple (bs.map PyData.bool)))))[i]? = none := List.getElem?_eq_none ge
                    have hw' : (env.set j (some (W.d (PyData.tuple (bs.map PyData.bool)))))[i]? = some (some w) := hw
                    rw [e0] at hw'
                    cases hw'
                · rw [List.getElem?_set_ne hm] at hw
                  obtain ⟨v4, hv4, r4⟩ := N4.at_ m w hw
                  refine ⟨v4, ?_, r4⟩
                  rw [List.getElem?_set_ne hm]
                  by_cases hjm : j = m
                  · subst hjm
                    rw [List.getElem?_set] at hv4 ⊢
                    simpa using hv4
                  · rw [List.getElem?_set_ne hjm] at hv4 ⊢
                    rw [List.getElem?_set_ne hm]
                    exact hv4
          · rw [if_neg hif] at h
            exact h.elim
        · subst hb
          exact h φ1 H1 od e1 S1 fs
  cases i0 with
  | none => exact main
  | some i => exact main
theorem rp_int {K : PySem.W.Frag} {φ : Ph} {ex : List Addr} {H : Hp} {v : V} {i : Int} (r : Rp K φ ex H v (.int i)) : v = .int i := by
  cases r
  rfl
theorem i_aug {i : Nat} {e : Ex} {D : Ends} {σ : L2.St} {H : Hp} (h : tS R E (.aug i e) D σ H) : tAug i (tD R (con E) e) (ipI fun a b => a + b) D σ H := by
  obtain ⟨φ, ex, s, env, S, N, h⟩ := h
  simp only [runS] at h
  split at h
  · rename_i a hg
    obtain ⟨v, hv, rv⟩ := N.get hg
    cases rv with
    | d r =>
      have := rp_int r
      subst this
      refine ⟨_, hv, tD_mono (tD_bind mono_S S N h) fun y H1 ⟨φ1, s1, w, S1, N1, e1, r1, h1⟩ => ?_⟩
      dsimp only at h1
      split at h1
      · rename_i b
        cases r1 with
        | d r1 =>
          have := rp_int r1
          subst this
          exact ⟨_, _, rfl, rfl, h1 φ1 H1 (Ext.refl _ _) S1 _ (N1.set (.d (.int _)))⟩
      · exact h1.elim
  · exact h.elim
/-! ### except X as e: a suite that tells whether it is the one that is asked for -/
def stT (a dd : Addr) (i : Nat) (σ : L2.St) (H : Hp) : Prop := (∃ fs, H dd = some (.xd fs)) ∧ σ[i]? = some (some (.ref a))
theorem pe_isS {X : Cx} {a : Addr} {oe : Obj} {pn : List (Addr × Obj)} {D dd : Addr} {e y : Str} {i : Nat} {p1 p2 p3 pos : Pos} {cv : V} {v : Value} {b : Bool} (C : ExcC X.K D) (hz : Zc (.ref D) (some dd) oe) (hf : ∃ vs, oe.data = .fields vs)
    (hN : X.N[i]? = some e) (hv : Vis X.env.scope e) (h1 : (e == ("__debug__" : Str)) = false) (h2 : (e == ("__classdict__" : Str)) = false) (hg : Gl X "isinstance") (hm : X.mg "isinstance" = none) (hy : Names X y v) (rv : RelV cv v) (ru : ∀ u, RelV cv u → u = v) (hk : PySem.W.kitOne X.K (.ref D) v = some b) :
    PE (X.suite a ((a, oe) :: pn)) (.Call (.Name "isinstance" p1) [.Name e p2, .Name y p3] [] pos) (fun σ H Q => stT a dd i σ H ∧ Q (.bl b) H) :=
  peImp (pe_callB (X := X.suite a ((a, oe) :: pn)) (Ce.call_isS C hz hf) hg hm boot_isinstance (pa_cons (pe_var (X := X.suite a ((a, oe) :: pn)) hN hv h1 h2) (pa_cons (pe_clsN (X := X.suite a ((a, oe) :: pn)) hy rv) pa_nil rfl) rfl) (by decide) (by decide) rfl rfl) fun σ H Q ⟨hs, q⟩ => ⟨.ref a, hs.2, hs.1, cv, v, b, rfl, ru, hk, q⟩
theorem isas_cons {T : TEnv} {e : Str} {e0 : Expr} {es : List Expr} {ls : List (List (Nat × Bool))} (h : isasOf T e (e0 :: es) = some ls) : ∃ p1 p2 x p3 pos l ls', e0 = .Call (.Name "isinstance" p1) [.Name e p2, .Name x p3] [] pos ∧ freeB T "isinstance" = true ∧ xsOf T x = some l ∧ isasOf T e es = some ls' ∧ ls = l :: ls' := by
  unfold isasOf at h
  split at h <;> first | contradiction | skip
  rename_i f p1 y p2 x p3 pos es' heq
  split at h
  · rename_i hx
    cases heq
    simp only [Option.bind_eq_bind, Option.bind_eq_some_iff, Option.some.injEq] at h
    obtain ⟨l, hl, ls', hls, rfl⟩ := h
    obtain ⟨rfl, rfl, hfr⟩ := hx
    exact ⟨_, _, _, _, _, _, _, rfl, hfr, hl, hls, rfl⟩
  · cases h
theorem runIs_cons {c : Nat} {l : List (Nat × Bool)} {ls : List (List (Nat × Bool))} {bs : List Bool} (h : runIs c (l :: ls) = some bs) : ∃ b bs', l.lookup c = some b ∧ runIs c ls = some bs' ∧ bs = b :: bs' := by
  unfold runIs at h
  split at h
  · rename_i b bs' hb hbs
    cases h
    exact ⟨_, _, hb, hbs, rfl⟩
  · cases h
section
variable (L : Lk T X R (con E) k) {a dd : Addr} {oe : Obj} {pn : List (Addr × Obj)} {c : Nat} {e : Str} {i : Nat} (C : ExcC R.K (R.xa c)) (hz : Zc (.ref (R.xa c)) (some dd) oe) (hf : ∃ vs, oe.data = .fields vs) (hi : slotOf T e = some i)
include L C hz hf hi
theorem pe_isA {e0 : Expr} {es : List Expr} {ls : List (List (Nat × Bool))} {bs : List Bool} (h : isasOf T e (e0 :: es) = some ls) (hr : runIs c ls = some bs) : ∃ b ls' bs', isasOf T e es = some ls' ∧ runIs c ls' = some bs' ∧ bs = b :: bs' ∧
    PE (X.suite a ((a, oe) :: pn)) e0 (fun σ H Q => stT a dd i σ H ∧ Q (.bl b) H) ∧ PT (X.suite a ((a, oe) :: pn)) e0 (fun σ H Q => stT a dd i σ H ∧ Q b H) := by
  obtain ⟨p1, p2, x, p3, pos, l, ls', rfl, hfr, hl, hls, rfl⟩ := isas_cons h
  obtain ⟨b, bs', hb, hbs, rfl⟩ := runIs_cons hr
  obtain ⟨g1, m1⟩ := free_glo L hfr
  obtain ⟨v, hn, ⟨cv, rv, ru⟩, hx⟩ := names_xs L hl
  obtain ⟨_, hk, _⟩ := hx c b hb
  obtain ⟨q1, q2, q3, q4⟩ := L.vis hi
  rw [← L.C.hK] at C hk
  have P := pe_isS (a := a) (p1 := p1) (p2 := p2) (p3 := p3) (pos := pos) (pn := pn) C hz hf q1 q2 q3 q4 g1 m1 hn rv ru hk
  exact ⟨b, ls', bs', hls, hbs, rfl, P, ptImp (pt_val P) fun σ H Q ⟨h1, h2⟩ => ⟨h1, b, rfl, h2⟩⟩
theorem pe_ors {pos : Pos} : ∀ {es : List Expr} {e0 : Expr} {ls : List (List (Nat × Bool))} {bs : List Bool}, isasOf T e (e0 :: es) = some ls → runIs c ls = some bs → PE (X.suite a ((a, oe) :: pn)) (.BoolOp .Or (e0 :: es) pos) (fun σ H Q => stT a dd i σ H ∧ Q (.bl (bs.any id)) H)
  | [], e0, ls, bs, h, hr => by
    obtain ⟨b, ls', bs', h1, h2, rfl, P, _⟩ := pe_isA (a := a) (pn := pn) L C hz hf hi h hr
    simp only [isasOf, Option.some.injEq] at h1
    subst h1
    simp only [runIs, Option.some.injEq] at h2
    subst h2
    exact peImp (pe_one P) fun σ H Q ⟨q1, q2⟩ => ⟨q1, by simpa using q2⟩
  | e1 :: es, e0, ls, bs, h, hr => by
    obtain ⟨b, ls', bs', h1, h2, rfl, P, _⟩ := pe_isA (a := a) (pn := pn) L C hz hf hi h hr
    refine peImp (pe_or P (pe_ors h1 h2)) fun σ H Q ⟨q1, q2⟩ => ⟨q1, b, rfl, ?_⟩
    cases b with
    | true => simpa using q2
    | false => exact ⟨q1, by simpa using q2⟩
end
/-- what the suite tells -/
def tTell (R : Gt) (cl i j m : Nat) (os ms : List (List (Nat × Bool))) (f : Str) : Addr → Value → Option Addr → L2.TS := fun a cls d D σ H => ∃ (dd : Addr) (fv : List (Str × V)) (v w : Int) (bo bm : List Bool), cls = .ref (R.xa cl) ∧ d = some dd ∧ H dd = some (.xd fv) ∧ fv.lookup f = some (.int v) ∧
  runIs cl os = some bo ∧ runIs cl ms = some bm ∧ ExcC R.K (R.xa cl) ∧ σ[i]? = some (some (.ref a)) ∧ σ[m]? = some (some (.int w)) ∧ j < σ.length ∧ D.rt (.bl (tells bo bm v w)) H
theorem pss_tell (L : Lk T X R (con E) k) {e y n f : Str} {cl i j m : Nat} {o c1 c2 : Expr} {os : List Expr} {lo lm : List (List (Nat × Bool))} {py pb pa p2 p3 p4 p5 p6 p7 p8 p9 q1 q2 q3 q4 q5 q6 q7 q8 q9 p10 p11 : Pos} {kk : Nat}
    (hi : slotOf T e = some i) (hj : tgtOf T y = some j) (hjs : slotOf T y = some j) (hm : slotOf T n = some m) (hij : i ≠ j) (hjm : j ≠ m) (ho : isasOf T e (o :: os) = some lo) (hc : isasOf T e [c1, c2] = some lm) (hb : freeB T "isinstance" = true) (hbt : freeB T "bool" = true)
    (hno : PySem.W.findIn R.K (.ref (R.xa cl)) f = some none) (a : Addr) (oe : Obj) (cls : Value) (d : Option Addr) (pn : List (Addr × Obj)) (hz : Zc cls d oe) (hf : ∃ vs, oe.data = .fields vs) :
    PSs (X.suite a ((a, oe) :: pn)) [.Assign [.Name y py] (.BoolOp .Or (o :: os) pb) pa, .If (.BoolOp .Or [.Name y p2, .UnaryOp .Not c1 p3, .UnaryOp .Not c2 p4] p5) [.Return (some (.Constant (.bool false) kk p6)) p7] [] p8,
      .Return (some (.BoolOp .And [.Compare (.Attribute (.Name e q1) f q2) [.Eq] [.Name n q3] q4, .UnaryOp .Not (.Call (.Name "isinstance" q5) [.Attribute (.Name e q6) f q7, .Name "bool" q8] [] q9) p9] p10)) p11] (tTell R cl i j m lo lm f a cls d) := by
  refine ⟨fun pins s σ H D I ⟨dd, fv, v, w, bo, bm, e1, e2, ed, el, hro, hrm, C, hs, hw, hlt, q⟩ => ?_⟩
  subst e1 e2
  obtain ⟨h1, h2⟩ := tgt_of hj
  obtain ⟨h3, h4⟩ := L.tsc _ h2
  rw [← L.N] at h1
  obtain ⟨u1, u2, u3, u4⟩ := L.vis hi
  obtain ⟨j1, j2, j3, j4⟩ := L.vis hjs
  obtain ⟨m1, m2, m3, m4⟩ := L.vis hm
  obtain ⟨g1, g2⟩ := free_glo L hb
  obtain ⟨k1, k2⟩ := free_glo L hbt
  obtain ⟨b1, lm1, bm1, hc1, hr1, rfl, P1, T1⟩ := pe_isA (a := a) (pn := pn) L C hz hf hi hc hrm
  obtain ⟨b2, lm2, bm2, hc2, hr2, rfl, P2, T2⟩ := pe_isA (a := a) (pn := pn) L C hz hf hi hc1 hr1
  simp only [isasOf, Option.some.injEq] at hc2
  subst hc2
  simp only [runIs, Option.some.injEq] at hr2
  subst hr2
  have P0 := pe_ors (a := a) (pn := pn) (pos := pb) L C hz hf hi ho hro
  have hK := L.C.hK
  have S1 := ps_set (X := X.suite a ((a, oe) :: pn)) (pos := pa) (pos' := py) L.C.nd h1 h3 P0 (sw_plain rfl _ _ _) h4
  have Vy : PE (X.suite a ((a, oe) :: pn)) (.Name y p2) (tVar j) := pe_var j1 j2 j3 j4
  have T0 := (pw_or (pos := p5) (pt_val Vy) (pw_or (pt_not (pos := p3) T1) (pw_or1 (pt_not (pos := p4) T2)))).pt
  have S2 := ps_if (X := X.suite a ((a, oe) :: pn)) (pos := p8) T0 (pss_one (ps_ret (pos := p7) (pe_bl (b := false) (j := kk) (pos := p6)))) pss_nil
  have A1 := fun p p' => pe_xf (X := X) (n := f) (pos := p') (pn := pn) (⟨by rw [hK]; exact C.hg, by rw [hK]; exact C.hk, by rw [hK]; exact C.hs, by rw [hK]; exact C.hd⟩ : XfC X.K (R.xa cl)) (by rw [hK]; exact hno) hz hf (pe_var (X := X.suite a ((a, oe) :: pn)) (pos := p) u1 u2 u3 u4) rfl
  have Vn : PE (X.suite a ((a, oe) :: pn)) (.Name n q3) (tVar m) := pe_var m1 m2 m3 m4
  have B0 : PE (X.suite a ((a, oe) :: pn)) (.Name "bool" q8) (tC (.ty "bool")) := pe_bltn k1 k2 (by decide +kernel) rfl (by decide +kernel) (by decide +kernel)
  have E1 := pe_cmp (X := X.suite a ((a, oe) :: pn)) (pos := q4) (pc_eqI (A1 q1 q2) Vn)
  have E2 := pe_callB (X := X.suite a ((a, oe) :: pn)) (pos := q9) (p := q5) call_isi g1 g2 boot_isinstance (pa_cons (A1 q6 q7) (pa_cons B0 pa_nil rfl) rfl) (by decide) (by decide) rfl rfl
  have S3 := ps_ret (pos := p11) (pe_and (pos := p10) E1 (pe_one (pe_not (pos := p9) E2)))
  refine (pss_cons S1 (pss_cons S2 (pss_one S3))).run pins s σ H D I ?_
  have st : stT a dd i σ H := ⟨⟨fv, ed⟩, hs⟩
  have st' : stT a dd i (σ.set j (some (.bl (bo.any id)))) H := ⟨⟨fv, ed⟩, by rw [List.getElem?_set_ne (Ne.symm hij)]; exact hs⟩
  have y' : (σ.set j (some (V.bl (bo.any id))))[j]? = some (some (.bl (bo.any id))) := List.getElem?_set_self hlt
  have m' : (σ.set j (some (V.bl (bo.any id))))[m]? = some (some (.int w)) := by rw [List.getElem?_set_ne hjm]; exact hw
  have i' : (σ.set j (some (V.bl (bo.any id))))[i]? = some (some (.ref a)) := st'.2
  refine ⟨st, ?_⟩
  unfold gName tSeq tIfS tOr tB tVar tNot
  dsimp only
  refine ⟨_, y', _, rfl, ?_⟩
  cases h0 : bo.any id with
  | true =>
    rw [if_pos rfl, if_pos rfl]
    have : tells bo [b1, b2] v w = false := by simp [tells, h0]
    rw [this] at q
    exact q
  | false =>
    rw [if_neg (by decide)]
    rw [h0] at st' y' m' i'
    refine ⟨st', ?_⟩
    cases b1 with
    | false =>
      have : tells bo [false, b2] v w = false := by simp [tells]
      rw [this] at q
      exact q
    | true =>
      refine ⟨st', ?_⟩
      cases b2 with
      | false =>
        have : tells bo [true, false] v w = false := by simp [tells]
        rw [this] at q
        exact q
      | true =>
        have : tells bo [true, true] v w = decide (v = w) := by simp [tells, h0]
        rw [this] at q
        refine ⟨_, i', rfl, rfl, dd, fv, _, rfl, ed, el, ?_⟩
        refine ⟨_, m', v, w, rfl, rfl, _, rfl, ?_⟩
        by_cases hvw : v = w
        · rw [if_pos (decide_eq_true hvw)]
          have e0 : decide (v = w) = true := decide_eq_true hvw
          rw [e0] at q
          refine ⟨_, i', rfl, rfl, dd, fv, _, rfl, ed, el, ?_⟩
          refine ⟨.int v, .ty "bool", .type "int", .type "bool", false, rfl, .ty _, .base (.int _), kit_ty (by decide +kernel), false, rfl, ?_⟩
          exact q
        · rw [if_neg (by simpa using hvw)]
          have e0 : decide (v = w) = false := decide_eq_false hvw
          rw [e0] at q
          exact q
theorem fsd_at {K : PySem.W.Frag} {φ : Ph} {ex : List Addr} {H : Hp} {f : Str} {i : Int} : ∀ {fv : List (Str × V)} {fs : List (Str × PyData)}, FsD K φ ex H fv fs → fs.lookup f = some (.int i) → fv.lookup f = some (.int i)
  | _, _, .nil, h => by cases h
  | (g, v) :: fv, (_, w) :: fs, .cons r t, h => by
    rw [List.lookup_cons] at h ⊢
    cases q : f == g with
    | true =>
      rw [q] at h
      simp only [Option.some.injEq] at h
      subst h
      rw [rp_int r]
    | false =>
      rw [q] at h
      exact fsd_at t h
theorem i_tryTell {i0 : Option Nat} {e : Ex} {l : List (Nat × Bool)} {c i j m : Nat} {os ms : List (List (Nat × Bool))} {f : Str} {v : Value} {D : Ends} {σ : L2.St} {H : Hp} (hl : ∀ c b, l.lookup c = some b → PySem.W.exmOne R.K (.ref (R.xa c)) v = some b ∧ ExcC R.K (R.xa c)) (him : i ≠ m) (hlt : i < σ.length) (hjl : j < σ.length)
    (h : tS R E (.tr i0 e l (.tell c i j m os ms f)) D σ H) : tbOf R i0 e (wAs R.K v i (tTell R c i j m os ms f) (fun c d _ H => E c d H) D) D σ H := by
  obtain ⟨φ, ex, s, env, S, N, h⟩ := h
  simp only [runS] at h
  have main : tD R (WE (wAs R.K v i (tTell R c i j m os ms f) (fun c d _ H => E c d H) D)) e σ H (fun v H1 => D.nx (setO σ v i0) H1) := by
    refine ⟨φ, ex, s, env, S, N, ?_⟩
    cases r : runE R.Φ R.M R.CI R.FO e env s with
    | stuck => rw [r] at h; exact h
    | ok w s1 =>
      rw [r] at h
      intro v1 φ1 H1 e1 S1 r1
      cases i0 with
      | none => exact h φ1 H1 e1 S1 σ (N.ext e1)
      | some i => exact h φ1 H1 e1 S1 _ ((N.ext e1).set r1)
    | exc x s1 =>
      rw [r] at h
      dsimp only at h
      intro φ1 H1 od e1 S1 fs
      cases q : l.lookup x.cls with
      | none => rw [q] at h; exact h.elim
      | some b =>
        rw [q] at h
        refine ⟨b, (hl _ _ q).1, fun hb a ha => ?_, fun hb => ?_⟩
        · subst hb
          simp only [runH] at h
          split at h
          · rename_i p hp
            split at hp
            · rename_i hx
              subst hx
              split at hp
              · rename_i bo bm v1 w1 g1 g2 g3 g4
                cases hp
                have N1 := N.ext e1
                cases od with
                | none =>
                  have hn : x.fs = [] := fs
                  rw [hn] at g3
                  cases g3
                | some dd =>
                  obtain ⟨_, fv, hd, F⟩ := fs
                  obtain ⟨v4, hv4, r4⟩ := N1.get (i := m) (w := .d (.int w1)) (by unfold Cc.get; rw [g4])
                  have r5 : v4 = .int w1 := by
                    cases r4 with
                    | d r => exact rp_int r
                  subst r5
                  refine ⟨dd, fv, v1, w1, bo, bm, rfl, rfl, hd, fsd_at F g3, g1, g2, (hl _ _ q).2, List.getElem?_set_self hlt, by rw [List.getElem?_set_ne him]; exact hv4, by simpa using hjl, ?_⟩
                  exact h φ1 H1 e1 S1 _ (.d (.bl _))
              · cases hp
            · cases hp
          · exact h.elim
        · subst hb
          exact h φ1 H1 od e1 S1 fs
  cases i0 with
  | none => exact main
  | some i => exact main
/-- the suite that tells -/
def TellC (T : TEnv) (e : Str) (st : List Stmt) (c : Hd) : Prop := ∃ y py o os pb pa p2 c1 p3 c2 p4 p5 kk p6 p7 p8 q1 f q2 n q3 q4 q5 q6 q7 q8 q9 p9 p10 p11 i j m lo lm cl,
  st = [.Assign [.Name y py] (.BoolOp .Or (o :: os) pb) pa, .If (.BoolOp .Or [.Name y p2, .UnaryOp .Not c1 p3, .UnaryOp .Not c2 p4] p5) [.Return (some (.Constant (.bool false) kk p6)) p7] [] p8,
    .Return (some (.BoolOp .And [.Compare (.Attribute (.Name e q1) f q2) [.Eq] [.Name n q3] q4, .UnaryOp .Not (.Call (.Name "isinstance" q5) [.Attribute (.Name e q6) f q7, .Name "bool" q8] [] q9) p9] p10)) p11] ∧
  c = .tell cl i j m lo lm f ∧ tgtOf T e = some i ∧ tgtOf T y = some j ∧ slotOf T n = some m ∧ isasOf T e (o :: os) = some lo ∧ isasOf T e [c1, c2] = some lm ∧ pexiOf T f c1 = some cl ∧ i ≠ j ∧ i ≠ m ∧ j ≠ m ∧ slotOf T e = some i ∧ slotOf T y = some j ∧ T.sc.names.lookup e = some .local ∧ freeB T "isinstance" = true ∧ freeB T "bool" = true
theorem tellC_of {T : TEnv} {e y f n bt y2 e2 e3 f2 g : Str} {py pb pa p2 p3 p4 p5 p6 p7 p8 p9 p10 p11 q1 q2 q3 q4 q5 q6 q7 q8 q9 : Pos} {kk : Nat} {o c1 c2 : Expr} {os : List Expr} {c : Hd}
    (h : (do
    let i ← tgtOf T e
    let j ← tgtOf T y
    let m ← slotOf T n
    let lo ← isasOf T e (o :: os)
    let lm ← isasOf T e [c1, c2]
    let c ← pexiOf T f c1
    if i ≠ j ∧ i ≠ m ∧ j ≠ m ∧ slotOf T e = some i ∧ slotOf T y = some j ∧ T.sc.names.lookup e = some .local ∧ y2 = y ∧ e2 = e ∧ e3 = e ∧ f2 = f ∧ g = ("isinstance" : Str) ∧ freeB T g = true ∧ bt = ("bool" : Str) ∧ freeB T bt = true then some (Hd.tell c i j m lo lm f) else none) = some c) :
    TellC T e [.Assign [.Name y py] (.BoolOp .Or (o :: os) pb) pa, .If (.BoolOp .Or [.Name y2 p2, .UnaryOp .Not c1 p3, .UnaryOp .Not c2 p4] p5) [.Return (some (.Constant (.bool false) kk p6)) p7] [] p8,
      .Return (some (.BoolOp .And [.Compare (.Attribute (.Name e2 q1) f q2) [.Eq] [.Name n q3] q4, .UnaryOp .Not (.Call (.Name g q5) [.Attribute (.Name e3 q6) f2 q7, .Name bt q8] [] q9) p9] p10)) p11] c := by
  simp only [Option.bind_eq_bind, Option.bind_eq_some_iff] at h
  obtain ⟨i, hi, j, hj, m, hm, lo, hlo, lm, hlm, cl, hcl, h⟩ := h
  split at h
  · rename_i hz
    obtain ⟨z1, z2, z3, z4, z5, z6, rfl, rfl, rfl, rfl, rfl, z7, rfl, z8⟩ := hz
    cases h
    exact ⟨_, _, _, _, _, _, _, _, _, _, _, _, _, _, _, _, _, _, _, _, _, _, _, _, _, _, _, _, _, _, i, j, m, lo, lm, cl, rfl, rfl, hi, hj, hm, hlo, hlm, hcl, z1, z2, z3, z4, z5, z6, z7, z8⟩
  · cases h
theorem pexi_no (L : Lk T X R (con E) k) {f : Str} {c1 : Expr} {cl : Nat} (h : pexiOf T f c1 = some cl) : PySem.W.findIn R.K (.ref (R.xa cl)) f = some none := by
  unfold pexiOf at h
  split at h
  · split at h
    · split at h
      · rename_i hG hg
        cases h
        subst hg
        exact (L.pxiF _ _ _ _ hG).2.1.no
      · cases h
    · cases h
  · cases h
theorem pss_tellC (L : Lk T X R (con E) k) {e : Str} {st : List Stmt} {c : Hd} (TC : TellC T e st c) : ∃ b0 rest, st = b0 :: rest ∧ ∃ cl i j m lo lm f, c = .tell cl i j m lo lm f ∧ slotOf T e = some i ∧ (∃ y, slotOf T y = some j) ∧ T.sc.names.lookup e = some .local ∧ i ≠ m ∧
    ∀ (a : Addr) (oe : Obj) (cls : Value) (d : Option Addr) (pn : List (Addr × Obj)), Zc cls d oe → (∃ vs, oe.data = .fields vs) → PSs (X.suite a ((a, oe) :: pn)) (b0 :: rest) (tTell R cl i j m lo lm f a cls d) := by
  obtain ⟨y, py, o, oo, pb, pa, p2, c1, p3, c2, p4, p5, kk, p6, p7, p8, q1, f, q2, nn, q3, q4, q5, q6, q7, q8, q9, p9, p10, p11, i2, j, m, lo, lm, cl, rfl, rfl, hi2, hj, hm, ho, hc, hpx, n1, n2, n3, s1, s2, s3, fb, fbt⟩ := TC
  exact ⟨_, _, rfl, cl, i2, j, m, lo, lm, f, rfl, s1, ⟨y, s2⟩, s3, n2, fun a oe cls d pn hz hf => pss_tell L s1 hj s2 hm n1 n3 ho hc fb fbt (pexi_no L hpx) a oe cls d pn hz hf⟩
theorem snd_s (S : SndS n) (L : Lk T X R (con E) k) (hp : PassesOwn (model X.prog X.w) X.A X.env X.xe) (fo : FrOk X E) {st : Stmt} {c : Sx} (h : trS T (n + 1) st = some c) : PS X st (tS R E c) := by
  have B := snd n
  cases st
  case Pass p => simp only [trS] at h; cases h; exact psImp ps_pass fun D σ H q => i_next q
  case FunctionDef name params body decs rets tps scope tscope bname p =>
    have key : decs = [] ∧ rets = none ∧ tps = [] ∧ tscope = none ∧ bname = name ∧ ∃ i j js, tgtOf T name = some i ∧ defOf T name params body scope p = some (j, js) ∧ c = .ndef i j js := by
      unfold trS at h
      split at h <;> first | contradiction | skip
      rename_i heq
      cases heq
      simp only [Option.bind_eq_bind, Option.bind_eq_some_iff] at h
      obtain ⟨i, hi, ⟨j, js⟩, hj, h⟩ := h
      dsimp only at h
      split at h
      · rename_i hb
        cases h
        exact ⟨rfl, rfl, rfl, rfl, hb, i, j, js, hi, hj, rfl⟩
      · cases h
    obtain ⟨rfl, rfl, rfl, rfl, rfl, i, j, js, hi, hj, rfl⟩ := key
    obtain ⟨m, hm, h1, h2, W⟩ := defOf_of hj
    obtain ⟨h3, h4⟩ := tgt_of hi
    obtain ⟨h5, _⟩ := L.tsc _ h4
    rw [← L.N] at h3
    exact s_ndef L.C (L.ow W.hown) (L.mkF W.hown fun z => by rw [z] at hm; cases hm) L.N L.sc (L.ndT _ _ hm) h1 h2 W h3 h5
  case Break p => simp only [trS] at h; cases h; exact psImp ps_break fun D σ H q => i_brk q
  case Continue p => simp only [trS] at h; cases h; exact psImp ps_continue fun D σ H q => i_cont q
  case Return o p =>
    cases o with
    | none =>
      simp only [trS] at h
      cases h
      refine psImp ps_retN fun D σ H ⟨φ, ex, s, env, S, N, h⟩ => ?_
      simp only [runS, runE, Res.bind_ok] at h
      exact h φ H (Ext.refl _ _) S .non (.d .non)
    | some e =>
      simp only [trS, Option.bind_eq_bind, Option.bind_eq_some_iff, Option.some.injEq] at h
      obtain ⟨x, hx, rfl⟩ := h
      exact psImp (ps_ret (B.e L _ _ hx)) fun D σ H q => i_ret q
  case Expr e p =>
    have main : (∃ x, trE T n e = some x ∧ c = .expr x) → isComp e = false → PS X (.Expr e p) (tS R E c) := by
      rintro ⟨x, hx, rfl⟩ hc
      exact psImp (ps_expr (B.e L _ _ hx) (sw_plain hc _ _ _)) fun D σ H q => i_expr q
    have key : (c = .pass ∧ ∃ x j q, e = .Constant (.str x) j q) ∨ ((∃ x, trE T n e = some x ∧ c = .expr x) ∧ isComp e = false) := by
      have two : (if isComp e = true then none else (trE T n e).bind fun x => some (Sx.expr x)) = some c → ((∃ x, trE T n e = some x ∧ c = .expr x) ∧ isComp e = false) := by
        intro h
        split at h
        · cases h
        · rename_i hc
          obtain ⟨x, hx, e2⟩ := bind_of h
          cases e2
          exact ⟨⟨x, hx, rfl⟩, by simpa using hc⟩
      cases e
      case Constant kk j q =>
        cases kk
        case str x =>
          simp only [trS] at h
          cases h
          exact .inl ⟨rfl, _, _, _, rfl⟩
        all_goals exact .inr (two (by simp only [trS] at h; exact h))
      all_goals exact .inr (two (by simp only [trS] at h; exact h))
    rcases key with ⟨rfl, x, j, q, rfl⟩ | ⟨h1, h2⟩
    · exact psImp ps_doc fun D σ H q => i_next q
    · exact main h1 h2
  case If t a b p =>
    simp only [trS, Option.bind_eq_bind, Option.bind_eq_some_iff, Option.some.injEq] at h
    obtain ⟨x, hx, y, hy, z, hz, rfl⟩ := h
    exact psImp (ps_if (B.t L _ _ hx) (S.ss L hp fo _ _ hy) (S.ss L hp fo _ _ hz)) fun D σ H q => i_if q
  case Raise o fr p =>
    have key : (∃ x px m j pc pk c', o = some (.Call (.Name x px) [.Constant (.str m) j pc] [] pk) ∧ fr = none ∧ gloB T.sc x = true ∧ T.G x = some (.pex c') ∧ c = .raise c' [.const (.str m)]) ∨
        ∃ x px e pk c' i f ce, o = some (.Call (.Name x px) [e] [] pk) ∧ fr = none ∧ gloB T.sc x = true ∧ T.G x = some (.pexi c' i f) ∧ trE T n e = some ce ∧ c = .raise c' [ce] := by
      unfold trS at h
      split at h <;> first | contradiction | skip
      · rename_i heq
        cases heq
        split at h
        · rename_i hg
          simp only [Bool.and_eq_true] at hg
          split at h
          · rename_i c' hG
            cases h
            exact .inl ⟨_, _, _, _, _, _, _, rfl, rfl, hg.2, hG, rfl⟩
          · cases h
        · cases h
      · rename_i heq
        cases heq
        split at h
        · rename_i hg
          simp only [Bool.and_eq_true] at hg
          split at h
          · rename_i c' i f hG
            simp only [Option.bind_eq_bind, Option.bind_eq_some_iff, Option.some.injEq] at h
            obtain ⟨ce, hce, rfl⟩ := h
            exact .inr ⟨_, _, _, _, _, _, _, _, rfl, rfl, hg.2, hG, hce, rfl⟩
          · cases h
        · cases h
    rcases key with key | key
    · obtain ⟨x, px, m, j, pc, pk, c', rfl, rfl, hg, hG, rfl⟩ := key
      obtain ⟨m1, px', dbg⟩ := L.pexF _ _ hG
      rw [← L.C.hK] at px'
      exact psImp (ps_raise L.C.calm fo.tk (pmk_own PySem.F.excBase_ValueError px'.exc m1 px'.keep (raises_own px'.sub px'.ty) (L.gl hg) dbg)) fun D σ H q => i_raise L.xiF q
    · obtain ⟨x, px, e, pk, c', i, f, ce, rfl, rfl, hg, hG, hce, rfl⟩ := key
      obtain ⟨m1, ⟨oex, no, ini, ty, fd, ps, hb, hfn⟩, hk, dbg, hxi⟩ := L.pxiF _ _ _ _ hG
      have he := B.e L _ _ hce
      have hs : ∀ y p, e ≠ .Starred y p := fun y p z => by subst z; cases n <;> simp [trE] at hce
      have ha : PA X [e] (tA R (con E) [ce]) := pa_consD hs he pa_nilD
      exact Cd.ps_raiseF L.C.calm fo.tk L.C.hK oex no ini ty (hfn 0) (L.C.room.mono hk) hb (fun pins σ H s e s' I c => by
        obtain ⟨a, B, H', cls, d, _, _, _, _, _, _, _, z⟩ := c
        exact z.elim) (L.gl hg) m1 dbg ha hs hxi
  case Try body hs os fs p =>
    have three : (∃ b x np en pos' l i e st c', body = [b] ∧ hs = [.ExceptHandler (some (.Name x np)) (some en) st pos'] ∧ os = [] ∧ fs = [] ∧ xsOf T x = some l ∧ oneOf T n b = some (i, e) ∧ c = .tr i e l c' ∧ TellC T en st c') ∨ (∃ b x np y py kk kj kp pa pos' l i e j d, body = [b] ∧ hs = [.ExceptHandler (some (.Name x np)) none [.Assign [.Name y py] (.Constant kk kj kp) pa] pos'] ∧ os = [] ∧ fs = [] ∧ xsOf T x = some l ∧ oneOf T n b = some (i, e) ∧ tgtOf T y = some j ∧ constOf kk = some d ∧ c = .tr i e l (.flag j d)) ∨
        (∃ b x np en y py es kk pt pa pos' l i e i2 j ls, body = [b] ∧ hs = [.ExceptHandler (some (.Name x np)) (some en) [.Assign [.Name y py] (.Tuple es kk pt) pa] pos'] ∧ os = [] ∧ fs = [] ∧ xsOf T x = some l ∧ oneOf T n b = some (i, e) ∧ tgtOf T en = some i2 ∧ tgtOf T y = some j ∧ isasOf T en es = some ls ∧ i2 ≠ j ∧ slotOf T en = some i2 ∧ T.sc.names.lookup en = some .local ∧ ls.length ≤ 100 ∧ c = .tr i e l (.isas i2 j ls)) := by
      unfold trS at h
      split at h <;> first | contradiction | skip
      rename_i heq
      cases heq
      simp only [Option.bind_eq_bind, Option.bind_eq_some_iff, Option.some.injEq] at h
      obtain ⟨l, hl, ⟨i, e⟩, hi, hd, hh, rfl⟩ := h
      unfold hdOf at hh
      split at hh <;> first | contradiction | skip
      · simp only [Option.bind_eq_bind, Option.bind_eq_some_iff, Option.some.injEq] at hh
        obtain ⟨j, hj, d, hd, rfl⟩ := hh
        exact .inr (.inl ⟨_, _, _, _, _, _, _, _, _, _, l, i, e, j, d, rfl, rfl, rfl, rfl, hl, hi, hj, hd, rfl⟩)
      · simp only [Option.bind_eq_bind, Option.bind_eq_some_iff] at hh
        obtain ⟨i2, hi2, j, hj, ls, hls, hh⟩ := hh
        split at hh
        · rename_i hz
          cases hh
          exact .inr (.inr ⟨_, _, _, _, _, _, _, _, _, _, _, l, i, e, i2, j, ls, rfl, rfl, rfl, rfl, hl, hi, hi2, hj, hls, hz.1, hz.2.1, hz.2.2.1, hz.2.2.2, rfl⟩)
        · cases hh
      · exact .inl ⟨_, _, _, _, _, l, i, e, _, _, rfl, rfl, rfl, rfl, hl, hi, rfl, tellC_of hh⟩
    rcases three with ⟨b, x, np, en, pos', l, i, e, st, c', rfl, rfl, rfl, rfl, hl, hi, rfl, TC⟩ | two | two
    case inl =>
      obtain ⟨b0, rest, rfl, cl, i2, j, m, lo, lm, f, rfl, s1, ⟨_, s2⟩, s3, n2, P⟩ := pss_tellC L TC
      obtain ⟨v, hn, _, hx⟩ := names_xs L hl
      obtain ⟨q1', q2', _, _⟩ := L.vis s1
      obtain ⟨r1', _, _, _⟩ := L.vis s2
      have hlt : i2 < X.N.length := (List.getElem?_eq_some_iff.mp q1').1
      have hjl : j < X.N.length := (List.getElem?_eq_some_iff.mp r1').1
      refine ⟨fun pins s σ H D I h => ?_⟩
      have q := ps_try_as (X := X) (i := i2) (n := en) (b₀ := b0) (suite := rest) (body := [b]) (pos := p) (pos' := pos') (np := np) (ts := tTell R cl i2 j m lo lm f) (tb := tbOf R i e) fo.hs fo.hf L.C.nd q1' (by show X.env.scope.names.lookup en = _; rw [L.sc]; exact s3) hn fo.tk
        (fun W pn xe tk _ => pss_one (ps_one L tk hi)) P
      rw [L.C.hK] at q
      refine q.run pins s σ H D I (i_tryTell (fun c b h => ⟨(hx c b h).1, (hx c b h).2.2⟩) n2 ?_ ?_ h)
      · have := I.len
        rw [this]; exact hlt
      · have := I.len
        rw [this]; exact hjl
    case inr.inr =>
      obtain ⟨b, x, np, en, y, py, es, kk, pt, pa, pos', l, i, e, i2, j, ls, rfl, rfl, rfl, rfl, hl, hi, hi2, hj, hls, hne, hsl, hlo, hlen, rfl⟩ := two
      obtain ⟨v, hn, _, hx⟩ := names_xs L hl
      obtain ⟨q1, q2, _, _⟩ := L.vis hsl
      have hlt : i2 < X.N.length := (List.getElem?_eq_some_iff.mp q1).1
      refine ⟨fun pins s σ H D I h => ?_⟩
      have q := ps_try_as (X := X) (i := i2) (n := en) (b₀ := .Assign [.Name y py] (.Tuple es kk pt) pa) (suite := []) (body := [b]) (pos := p) (pos' := pos') (np := np) (ts := tIsas R i2 j ls) (tb := tbOf R i e) fo.hs fo.hf L.C.nd q1 (by show X.env.scope.names.lookup en = _; rw [L.sc]; exact hlo) hn fo.tk
        (fun W pn xe tk _ => pss_one (ps_one L tk hi)) (fun a oe cls dd pn hz hf => pss_one (ps_isas L hsl hj hls a oe cls dd pn hz hf))
      rw [L.C.hK] at q
      refine q.run pins s σ H D I (i_tryAs (fun c b h => ⟨(hx c b h).1, (hx c b h).2.2⟩) hne hlen ?_ h)
      have := I.len
      rw [this]; exact hlt
    have key : ∃ b x np y py kk kj kp pa pos' l i e j d, body = [b] ∧ hs = [.ExceptHandler (some (.Name x np)) none [.Assign [.Name y py] (.Constant kk kj kp) pa] pos'] ∧ os = [] ∧ fs = [] ∧ xsOf T x = some l ∧ oneOf T n b = some (i, e) ∧ tgtOf T y = some j ∧ constOf kk = some d ∧ c = .tr i e l (.flag j d) := by
      exact two
    obtain ⟨b, x, np, y, py, kk, kj, kp, pa, pos', l, i, e, j, d, rfl, rfl, rfl, rfl, hl, hi, hj, hd, rfl⟩ := key
    unfold xsOf at hl
    split at hl
    · rename_i hg
      simp only [Bool.and_eq_true] at hg
      obtain ⟨v, hv, _, hx⟩ := L.xsF _ _ hl
      have hx := fun c b h => (hx c b h).1
      have q := ps_try_only (b₀ := .Assign [.Name y py] (.Constant kk kj kp) pa) (suite := []) (body := [b]) (pos := p) (pos' := pos') (np := np) (ts := fun _ _ _ => tAsg (tD R (con E) (.const d)) (gName j)) (tb := tbOf R i e) fo.hs fo.hf ⟨L.gl hg.2, hv⟩ fo.tk
        (fun W pn xe tk _ => pss_one (ps_one L tk hi)) (fun a oe cls dd pn hz hf => by
          obtain ⟨h1, h2⟩ := tgt_of hj
          obtain ⟨h3, h4⟩ := L.tsc _ h2
          rw [← L.N] at h1
          exact pss_one (ps_set (X := X.suite a ((a, oe) :: pn)) L.C.nd h1 h3 (p_const hd) (sw_plain rfl _ _ _) h4))
      rw [L.C.hK] at q
      exact psImp q fun D σ H q => i_try hx q
    · cases hl
  case AugAssign tg op e p =>
    have key : ∃ x px i c', tg = .Name x px ∧ op = .Add ∧ tgtOf T x = some i ∧ slotOf T x = some i ∧ trE T n e = some c' ∧ c = .aug i c' := by
      unfold trS at h
      split at h <;> first | contradiction | skip
      rename_i heq
      cases heq
      simp only [Option.bind_eq_bind, Option.bind_eq_some_iff] at h
      obtain ⟨i, hi, j, hj, c', hc, h⟩ := h
      split at h
      · rename_i hz
        subst hz
        cases h
        exact ⟨_, _, _, _, rfl, rfl, hi, hj, hc, rfl⟩
      · cases h
    obtain ⟨x, px, i, c', rfl, rfl, hi, hj, hc, rfl⟩ := key
    obtain ⟨h1, h2⟩ := tgt_of hi
    obtain ⟨h3, h4⟩ := L.tsc _ h2
    rw [← L.N] at h1
    exact psImp (ps_aug L.C.nd h1 h3 (B.e L _ _ hc) ip_add h4) fun D σ H q => i_aug q
  case While t a o p =>
    cases o with
    | cons o os => simp [trS] at h
    | nil =>
      simp only [trS, Option.bind_eq_bind, Option.bind_eq_some_iff, Option.some.injEq] at h
      obtain ⟨x, hx, y, hy, rfl⟩ := h
      exact psImp (ps_while hp (B.t L _ _ hx) (S.ss L hp fo _ _ hy)) fun D σ H q => i_while q
  case For tg it body o p =>
    cases o with
    | cons o os => simp [trS] at h
    | nil =>
      simp only [trS, Option.bind_eq_bind, Option.bind_eq_some_iff, Option.some.injEq] at h
      obtain ⟨⟨w, its⟩, hi, ⟨is, one⟩, ht, b, hb, rfl⟩ := h
      obtain ⟨p1, p2⟩ := B.i L _ _ _ _ hi
      have q := pg_tgt L.N L.C.calm L.C.nd L.tsc ht
      rw [L.C.hK] at q
      exact psImp (ps_for hp L.C.calm p1 q (S.ss L hp fo _ _ hb) (folded_ne p2 X.env)) fun D σ H q => i_for q
  case Assign ts e p =>
    match ts, h with
    | [t], h =>
      cases t
      case Name x px =>
        simp only [trS, trT, Option.bind_eq_bind, Option.bind_eq_some_iff, Option.some.injEq] at h
        obtain ⟨ct, ht, y, hy, rfl⟩ := h
        obtain ⟨i, hi, rfl⟩ := map_of ht
        exact s_name L hi hy
      case Tuple es kk pt =>
        have hne : ∀ es k p, e ≠ .Tuple es k p := by
          rintro es k p rfl
          simp [trS] at h
        have h2 : ∃ cts y, trTs T n es = some cts ∧ trE T n e = some y ∧ c = .unpack cts y := by
          cases e <;> first
            | exact absurd rfl (hne _ _ _)
            | (simp only [trS, Option.bind_eq_bind, Option.bind_eq_some_iff, Option.some.injEq] at h
               obtain ⟨x, hx, y, hy, rfl⟩ := h
               exact ⟨x, y, hx, hy, rfl⟩)
        obtain ⟨cts, y, hx, hy, rfl⟩ := h2
        obtain ⟨gs, l, f⟩ := g_us L hx
        have q := pg_tup (pos := pt) (k := kk) L.C.calm gs l f
        rw [L.C.hK] at q
        refine psImp (ps_asg (B.e L _ _ hy) q (sw_sole (fun _ _ z => by cases z) _ _) ?_ rfl) fun D σ H q => i_unpack q
        cases e <;> first | rfl | exact absurd rfl (hne _ _ _)
      case Subscript o i pt =>
        cases i
        case Slice => simp [trS, trT] at h
        all_goals
          simp only [trS, trT, Option.bind_eq_bind, Option.bind_eq_some_iff, Option.some.injEq] at h
          obtain ⟨ct, ⟨x, hx, y, hy, rfl⟩, z, hz, rfl⟩ := h
          refine psImp (ps_asg (B.e L _ _ hz) (g_sub L hx hy (fun _ _ _ _ z => by cases z)) (sw_sole (fun _ _ z => by cases z) _ _) ?_ rfl) fun D σ H q => i_asg q
          cases e <;> rfl
      case Attribute o f pt =>
        cases o
        case Call => simp [trS, trT] at h
        all_goals
          simp only [trS, trT, Option.bind_eq_bind, Option.bind_eq_some_iff, Option.some.injEq] at h
          obtain ⟨ct, ⟨x, hx, rfl⟩, z, hz, rfl⟩ := h
          refine psImp (ps_fld (B.e L _ _ hx) (B.e L _ _ hz) (sw_other (fun _ _ z => by cases z) _ _)) fun D σ H q => ?_
          rw [L.C.hK]
          exact i_fld L.G q
      all_goals simp [trS, trT] at h
    | [], h => simp [trS] at h
    | a :: b :: r, h => simp [trS] at h
  all_goals simp [trS] at h
theorem sndS : ∀ n, SndS n
  | 0 => ⟨fun _ _ _ _ _ h => by simp [trS] at h, fun _ _ _ _ _ h => by simp [trSs] at h⟩
  | n + 1 => ⟨fun L hp fo _ _ h => snd_s (sndS n) L hp fo h, fun L hp fo _ _ h => snd_ss (sndS n) L hp fo h⟩
end
end Cc

set_option linter.all false
set_option maxRecDepth 100000
set_option maxHeartbeats 1000000
/-! Cc: a table of defs keeps its promises. -/
namespace Cc
open PySem PySem.Spec PyProof.Rows L2

section
variable {R R' : Gt} {φ : Ph} {ex : List Addr} {H : Hp}
theorem RpAL.tr (h : Same R R') (hb : R.fm.base = R'.fm.base) {ws : List W} {vs : List V} (r : RpAL R φ ex H vs ws) : RpAL R' φ ex H vs ws :=
  RpAL.map (fun _ => True) (fun _ _ _ _ _ => trivial) (fun _ _ _ z => hb ▸ z) (fun w v _ r => RpW.tr h w v r) (fun _ _ _ _ r => ⟨h.nd ▸ r.nd, r.is, r.fo, r.fm, r.co, r.cm⟩) ws vs (fun _ _ => trivial) r
theorem spF.tr (h : Same R R') {i np : Nat} (hb : R.fm.base = R'.fm.base) (hi : R.Φ i = R'.Φ i) {vs : List V} {Q : VK} {E : XK} (q : spF R i np vs H Q E) : spF R' i np vs H Q E := by
  obtain ⟨l, φ, ex, s, ws, S, r, run⟩ := q
  exact ⟨l, φ, ex, s, ws, S.tr h, r.tr h hb, by rw [← hi]; exact run.imp (fun _ _ q => q.tr h) fun _ _ q => q.tr h⟩
theorem Same.at {b : Heap} (h : Same R R') : Same (R.at b) (R'.at b) := ⟨h.P, h.w, h.K, h.fa, h.ca, h.xa, h.kn, h.T, h.nd⟩
theorem Gd.tr {mg : Str → Option Value} {b : Heap} (hc : R.cs = R'.cs) (g : Gd R mg b) : Gd R' mg b := fun p hp => g p (by rw [hc]; exact hp)
theorem FOk.tr {P : Program} {w : World} {mg : Str → Option Value} {i np : Nat} {dfl : List PyData} (h : Same R R') (hc : R.cs = R'.cs) (hi : R.Φ i = R'.Φ i) (F : FOk P w R.K mg R i np dfl) : FOk P w R'.K mg R' i np dfl := by
  obtain ⟨fd, ps, h1, h2, h3⟩ := F.ex
  refine ⟨⟨fd, ps, h1, fun b gb => ?_, fun n a b => ?_⟩, by rw [← h.K, ← h.fa]; exact F.kp⟩
  · rw [← h.K, ← h.fa]
    exact (h2 b (gb.tr hc.symm)).imp fun vs H Q E q => q.tr h.at.symm rfl hi.symm
  · rw [← h.K]; exact h3 n a b
theorem FOk.nodfl {P : Program} {w : World} {K : PySem.W.Frag} {mg : Str → Option Value} {i np : Nat} {dfl : List PyData} (F : FOk P w K mg R i np dfl) : FOk P w K mg R i np [] := by
  obtain ⟨fd, ps, h1, h2, h3⟩ := F.ex
  refine ⟨⟨fd, ps, h1, h2, fun n a b => ?_⟩, F.kp⟩
  have en : n = np := by simp at b; omega
  subst en
  obtain ⟨ds, dvs, q1, q2, q3⟩ := h3 n (Nat.le_refl _) (by simp)
  exact ⟨ds, dvs, q1, q2, by simpa using q3⟩
theorem NOkD.tr {P : Program} {w : World} {K : PySem.W.Frag} {mg : Str → Option Value} {k : Nat} {n : Nd} (h : Same R R') (hc : R.cs = R'.cs) (hi : R.Φ k = R'.Φ k) (F : NOkD P w K mg R k n) : NOkD P w K mg R' k n :=
  ⟨fun b f F0 gb is A outer s H us vs cs Q E hr e0 hf hcd C r hl q => F.run b f F0 (gb.tr hc.symm) is A outer s H us vs cs Q E hr e0 hf hcd C r hl (q.tr h.at.symm rfl hi.symm)⟩
end
/-! ### a def of the text -/
structure DefS where
  N : List Str
  ps : List Str
  name : Str
  qual : Str
  params : Arguments
  body : List Stmt
  scope : Scope
  dfl : List PyData
  ann : Pos → Nat
  wf : Nat
  /-- made within a def: whether so, the names that it captures, a lambda's body -/
  nst : Bool
  fr : List Str
  lam : Option Expr
  /-- which defs are made within this one, names that hold such, how the code table names them (place and name) -/
  nd : List Nat
  cvs : List Str
  nml : List (Nat × Nat × Str)
def DefS.toNd (d : DefS) : Nd := ⟨d.name, d.qual, d.params, d.body, d.lam, d.scope, d.ps, d.fr, d.N⟩
def nmOf (l : List (Nat × Nat × Str)) (a b : Nat) : Str := match l.find? fun q => Nat.beq q.1 a && Nat.beq q.2.1 b with
  | some q => q.2.2
  | none => ""
def cutG (CI : Nat → Option Nat) (i : Nat) : GI → Option GI
  | .fn j a b => if j < i then some (.fn j a b) else none
  | .cls c a b => match CI c with
    | some j => if j < i then some (.cls c a b) else none
    | none => none
  | .bas c m j a b => if j < i then some (.bas c m j a b) else none
  | .pexi c j f => if j < i then some (.pexi c j f) else none
  | g => some g
def teOf (CI : Nat → Option Nat) (G : Str → Option GI) (XS : Str → Option (List (Nat × Bool))) (D : Nat → DefS) (i : Nat) : TEnv :=
  ⟨(D i).N, (D i).scope, (D i).scope, fun x => (G x).bind (cutG CI i), (D i).ann, (D i).wf, XS, i, (D i).nd.map fun k => (k, (D k).toNd), (D i).cvs, nmOf (D i).nml, (D i).qual ++ ".<locals>.", !(D i).nst⟩
/-- a body's statements, or what a lambda tells -/
def trBody (T : TEnv) (m : Nat) (d : DefS) : Option Sx := match d.lam with
  | none => trSs T m d.body
  | some e => (trE T m e).map .ret
/-- the tables up to a number -/
def Rn (P : Program) (w : World) (K : PySem.W.Frag) (M : CTab) (CI : Nat → Option Nat) (FO : Nat → Str → Bool) (XI : Nat → List PyData → Option (List (Str × PyData))) (ds : Nat → Def) (fa ca xa : Nat → Addr) (T : List NdefX.NTab) (cs : List (Addr × Addr)) (nd : Nat → Option Nd) (n : Nat) (fm : Fm) : Gt := ⟨P, w, K, table M CI FO XI ds n, M, CI, FO, XI, fa, ca, xa, [], T, cs, nd, fm⟩
theorem table_out {M : CTab} {CI : Nat → Option Nat} {FO : Nat → Str → Bool} {XI : Nat → List PyData → Option (List (Str × PyData))} {ds : Nat → Def} : ∀ {n i : Nat}, n ≤ i → ∀ ws s, table M CI FO XI ds n i ws s = .stuck
  | 0, _, _, _, _ => rfl
  | n + 1, i, h, ws, s => by
    have e : table M CI FO XI ds (n + 1) i = if i = n then runF (table M CI FO XI ds n) M CI FO XI (ds n) else table M CI FO XI ds n i := rfl
    rw [e, if_neg (by omega)]
    exact table_out (by omega) ws s
theorem table_up {M : CTab} {CI : Nat → Option Nat} {FO : Nat → Str → Bool} {XI : Nat → List PyData → Option (List (Str × PyData))} {ds : Nat → Def} {n i : Nat} (h : i < n) : table M CI FO XI ds n i = table M CI FO XI ds (n + 1) i := by
  show _ = (if i = n then _ else _)
  rw [if_neg (by omega)]
theorem runF_len {Φ : FT} {M : CTab} {CI : Nat → Option Nat} {FO : Nat → Str → Bool} {XI : Nat → List PyData → Option (List (Str × PyData))} {f : Def} {ws : List W} {s : Store} (h : ws.length ≠ f.ps) : runF Φ M CI FO XI f ws s = .stuck := by
  unfold runF
  rw [if_neg h]
theorem startEnv {R : Gt} {φ : Ph} {ex : List Addr} {H : Hp} : ∀ {vs : List V} {ws : List W} {k : Nat}, RpAL R φ ex H vs ws → EnvR R φ ex H (ws.map some ++ List.replicate k none) (vs.map some ++ List.replicate k none) := by
  intro vs ws k r
  refine ⟨by simp [r.length], fun i w h => ?_⟩
  rcases Nat.lt_or_ge i ws.length with l | l
  · rw [List.getElem?_append_left (by simpa using l), List.getElem?_map] at h
    obtain ⟨u, hu, e⟩ := map_of h
    cases e
    obtain ⟨v, hv, q⟩ := r.get hu
    refine ⟨v, ?_, .inl q⟩
    rw [List.getElem?_append_left (by simpa [r.length] using l), List.getElem?_map, hv]
    rfl
  · rw [List.getElem?_append_right (by simpa using l), List.getElem?_replicate] at h
    split at h <;> cases h
section
variable {P : Program} {w : World} {K : PySem.W.Frag} {mg : Str → Option Value} {M : CTab} {CI : Nat → Option Nat} {FO : Nat → Str → Bool} {XI : Nat → List PyData → Option (List (Str × PyData))} {ds : Nat → Def} {fa ca xa : Nat → Addr} {TT : List NdefX.NTab} {cs : List (Addr × Addr)} {nd : Nat → Option Nd} {D : Nat → DefS} {G : Nat → Str → Option GI} {XS : Str → Option (List (Nat × Bool))} {n : Nat}
/-- what a program's text must be -/
structure Text (P : Program) (w : World) (K : PySem.W.Frag) (mg : Str → Option Value) (M : CTab) (CI : Nat → Option Nat) (FO : Nat → Str → Bool) (XI : Nat → List PyData → Option (List (Str × PyData))) (ds : Nat → Def) (fa ca xa : Nat → Addr) (TT : List NdefX.NTab) (cs : List (Addr × Addr)) (nd : Nat → Option Nd) (D : Nat → DefS) (G : Nat → Str → Option GI) (XS : Str → Option (List (Nat × Bool))) (n : Nat) : Prop where
  gok : GOk (Rn P w K M CI FO XI ds fa ca xa TT cs nd 0 ⟨default, [], [], default⟩)
  fs : ∀ i, i < n → (D i).nst = false → FnScope (D i).N (D i).ps (D i).scope
  fsN : ∀ i, i < n → (D i).nst = true → NdefX.NScope (D i).N (D i).ps (D i).fr (D i).scope
  frN : ∀ i, i < n → (D i).nst = false → (D i).fr = [] ∧ (D i).lam = none
  ndN : ∀ i, i < n → (D i).nst = true → (D i).nd = []
  ndb : ∀ i, i < n → ∀ x ∈ (D i).N, (x == ("__debug__" : Str)) = false ∧ (x == ("__classdict__" : Str)) = false
  tr : ∀ i, i < n → ∃ m, trBody (teOf CI (G i) XS D i) m (D i) = some (ds i).body
  shp : ∀ i, i < n → (ds i).ps = (D i).ps.length + (D i).fr.length ∧ (ds i).ns = (D i).N.length
  fun_ : ∀ i, i < n → (D i).nst = false → ∃ fd dvs kws, FunD K (D i).name (D i).qual (D i).params (D i).body (D i).scope dvs kws (fa i) fd ∧
    ((D i).nd ≠ [] → ∃ c Pt, fd.code = .ref c ∧ (c, Pt) ∈ cs ∧ (Pt, nmOf (D i).nml) ∈ TT ∧ ∀ p ∈ TT, p.1 = Pt → p.2 = nmOf (D i).nml) ∧
    ∀ m, m ≤ (D i).ps.length → (D i).ps.length - m ≤ (D i).dfl.length → ∃ us dvs, Vals dvs us ∧ Binds K fd (D i).ps us ∧ ∀ φ ex H, RpL K φ ex H dvs ((D i).dfl.drop ((D i).dfl.length - ((D i).ps.length - m)))
  funN : ∀ i, i < n → (D i).nst = true → ∀ (F : NdefX.NF), IsNd (D i).toNd F → ∀ us : List Value, us.length = (D i).ps.length → (∀ doc pm ctv : Value, bindArgs (F.fd doc pm ctv) ⟨us, []⟩ = pure ((D i).ps.zip us)) ∧ ∀ (e : Expr) (pm ctv : Value), bindArgs (PySem.W.kla_fn F.name F.qual F.params e F.scope F.cl pm (.ref F.c) ctv) ⟨us, []⟩ = pure ((D i).ps.zip us)
  ndE : ∀ i, nd i = if decide (i < n) && (D i).nst then some (D i).toNd else none
  ndI : ∀ i, i < n → ∀ k ∈ (D i).nd, k < n ∧ (D k).nst = true
  fnF : ∀ k x i np dfl, G k x = some (.fn i np dfl) → i < n → (D i).nst = false ∧ mg x = some (.ref (fa i)) ∧ np = (D i).ps.length ∧ dfl = (D i).dfl ∧ (x == ("__debug__" : Str)) = false
  clsF : ∀ k x c np dfl, G k x = some (.cls c np dfl) → mg x = some (.ref (ca c)) ∧ (∀ i, CI c = some i → i < n → (D i).nst = false ∧ np + 1 = (D i).ps.length ∧ dfl = (D i).dfl) ∧ (x == ("__debug__" : Str)) = false
  conF : ∀ k x d, G k x = some (.con d) → (∃ u, mg x = some u ∧ ConK K u d) ∧ (x == ("__debug__" : Str)) = false
  bltF : ∀ k x, G k x = some .blt → mg x = none
  pexF : ∀ k x c, G k x = some (.pex c) → mg x = some (.ref (xa c)) ∧ PexK K (xa c) ∧ (x == ("__debug__" : Str)) = false
  xiF : ∀ c m fs, XI c [.str m] = some fs → fs = []
  pxiF : ∀ k x c i f, G k x = some (.pexi c i f) → mg x = some (.ref (xa c)) ∧ (∀ base, PxiK P w K mg base (xa c) (fa i) f) ∧ (x == ("__debug__" : Str)) = false ∧ ∀ xs fs, XI c xs = some fs → ∃ i, xs = [.int i] ∧ fs = [(f, .int i)]
  xsF : ∀ x l, XS x = some l → ∃ v, ((x == ("__debug__" : Str)) = false ∧ (mg x = some v ∨ (mg x = none ∧ bootBuiltins x = some v ∧ x ≠ "__name__"))) ∧ (∃ cv : V, RelV cv v ∧ ∀ u, RelV cv u → u = v) ∧ ∀ c b, l.lookup c = some b → PySem.W.exmOne K (.ref (xa c)) v = some b ∧ PySem.W.kitOne K (.ref (xa c)) v = some b ∧ ExcC K (xa c)
  basF : ∀ k x c m i np dfl, G k x = some (.bas c m i np dfl) → i < n → (D i).nst = false ∧ Base K (ca c) m (fa i) ∧ np = (D i).ps.length ∧ dfl = (D i).dfl
  meN : ∀ c m i, M c m = some i → i < n → (D i).nst = false
theorem same_n {a b : Nat} {f g : Fm} : Same (Rn P w K M CI FO XI ds fa ca xa TT cs nd a f) (Rn P w K M CI FO XI ds fa ca xa TT cs nd b g) := ⟨rfl, rfl, rfl, rfl, rfl, rfl, rfl, rfl, rfl⟩
theorem same_at {a b : Nat} {f g : Fm} {h : Heap} : Same ((Rn P w K M CI FO XI ds fa ca xa TT cs nd a f).at h) (Rn P w K M CI FO XI ds fa ca xa TT cs nd b g) := ⟨rfl, rfl, rfl, rfl, rfl, rfl, rfl, rfl, rfl⟩
theorem Text.gokN (X : Text P w K mg M CI FO XI ds fa ca xa TT cs nd D G XS n) (m : Nat) (fm : Fm) : GOk (Rn P w K M CI FO XI ds fa ca xa TT cs nd m fm) := ⟨X.gok.fo, X.gok.me, X.gok.mkC⟩
/-- what stands below -/
def IhT (P : Program) (w : World) (K : PySem.W.Frag) (mg : Str → Option Value) (M : CTab) (CI : Nat → Option Nat) (FO : Nat → Str → Bool) (XI : Nat → List PyData → Option (List (Str × PyData))) (ds : Nat → Def) (fa ca xa : Nat → Addr) (TT : List NdefX.NTab) (cs : List (Addr × Addr)) (nd : Nat → Option Nd) (D : Nat → DefS) (i : Nat) : Prop :=
  ∀ fm j, j < i → ((D j).nst = false → FOk P w K mg (Rn P w K M CI FO XI ds fa ca xa TT cs nd i fm) j (D j).ps.length (D j).dfl) ∧ ((D j).nst = true → NOkD P w K mg (Rn P w K M CI FO XI ds fa ca xa TT cs nd i fm) j (D j).toNd)
theorem Text.ndS (X : Text P w K mg M CI FO XI ds fa ca xa TT cs nd D G XS n) {k : Nat} {m : Nd} (h : nd k = some m) : k < n ∧ (D k).nst = true ∧ m = (D k).toNd := by
  rw [X.ndE] at h
  split at h
  · rename_i hk
    simp only [Bool.and_eq_true, decide_eq_true_eq] at hk
    cases h
    exact ⟨hk.1, hk.2, rfl⟩
  · cases h
theorem Text.ndO (X : Text P w K mg M CI FO XI ds fa ca xa TT cs nd D G XS n) {k : Nat} (hk : k < n) (h : nd k = none) : (D k).nst = false := by
  rw [X.ndE] at h
  cases e : (D k).nst with
  | false => rfl
  | true => rw [if_pos (by simp [hk, e])] at h; cases h
theorem Text.ndP (X : Text P w K mg M CI FO XI ds fa ca xa TT cs nd D G XS n) {k : Nat} (h : (D k).nst = false) : nd k = none := by
  rw [X.ndE, if_neg (by simp [h])]
theorem Text.stk (X : Text P w K mg M CI FO XI ds fa ca xa TT cs nd D G XS n) {i j : Nat} (hi : i ≤ n) (hj : j < i) (ws : List W) (s : Store) (hl : ws.length ≠ (D j).ps.length + (D j).fr.length) : table M CI FO XI ds i j ws s = .stuck := by
  rw [table_at hj]
  exact runF_len (by rw [(X.shp j (Nat.lt_of_lt_of_le hj hi)).1]; exact hl)
/-- the tables' place in a def -/
theorem Text.lk (X : Text P w K mg M CI FO XI ds fa ca xa TT cs nd D G XS n) {i : Nat} (hi : i < n) (ih : IhT P w K mg M CI FO XI ds fa ca xa TT cs nd D i) {base : Heap} {A : Around} {s0 : Shared} {H0 : Hp} {env : PySem.Env} {outer stack : List PySem.Env} {ex : List Addr} {fn : Str → Bool} {calm : Bool} {pn : List (Addr × Obj)} {xe : Value → Shared → Prop} {E : L2.St → XK}
    (hcalm : calm = true) (hnd : (D i).N.Nodup) (hr : Room (2 * i + 1) A) (hp : ∀ σ, PassesAt (L2.CX P w) (⟨P, w, K, mg, base, A, (D i).N, s0, H0, env, outer, stack, ex, fn, calm, pn, xe⟩ : Cx) σ (E σ)) (gd : Gd (Rn P w K M CI FO XI ds fa ca xa TT cs nd i ⟨base, env.cells, (D i).N, env.scope⟩) mg base)
    (hsc : env.scope = (D i).scope) (htsc : ∀ x, Loc (D i).scope x → Loc env.scope x ∧ (fn x = true ∨ env.scope.names.lookup x = some .local)) (hfn : (D i).nst = false → ∀ x, fn x = true) (hq : env.qual = (D i).qual ++ ".<locals>.")
    (hmk : (D i).nst = false → (D i).nd ≠ [] → ∃ c Pt, env.code = .ref c ∧ (c, Pt) ∈ cs ∧ (Pt, nmOf (D i).nml) ∈ TT ∧ ∀ p ∈ TT, p.1 = Pt → p.2 = nmOf (D i).nml) :
    Lk (teOf CI (G i) XS D i) (⟨P, w, K, mg, base, A, (D i).N, s0, H0, env, outer, stack, ex, fn, calm, pn, xe⟩ : Cx) (Rn P w K M CI FO XI ds fa ca xa TT cs nd i ⟨base, env.cells, (D i).N, env.scope⟩) E (2 * i + 1) where
  C := ⟨rfl, rfl, rfl, hcalm, hnd, hr, hp, rfl, gd⟩
  G := X.gokN i _
  N := rfl
  sc := hsc
  tsc := htsc
  ndb := X.ndb i hi
  fnF := fun x j ps dfl h => by
    obtain ⟨g, hg, e⟩ := bind_of (show (G i x).bind (cutG CI i) = _ from h)
    cases g <;> simp only [cutG] at e <;> try (first | (cases e; done) | (split at e <;> (try split at e) <;> cases e; done))
    split at e
    · rename_i hj
      cases e
      obtain ⟨h0, h1, rfl, rfl, h4⟩ := X.fnF _ _ _ _ _ hg (Nat.lt_trans hj hi)
      exact ⟨h1, (ih _ _ hj).1 h0, by omega, h4⟩
    · cases e
  clsF := fun x c ps dfl h => by
    obtain ⟨g, hg, e⟩ := bind_of (show (G i x).bind (cutG CI i) = _ from h)
    cases g <;> simp only [cutG] at e <;> try (first | (cases e; done) | (split at e <;> cases e; done))
    split at e
    · rename_i j hc
      split at e
      · rename_i hj
        cases e
        obtain ⟨h1, h2, h3⟩ := X.clsF _ _ _ _ _ hg
        obtain ⟨h0, h4, h5⟩ := h2 j hc (Nat.lt_trans hj hi)
        refine ⟨h1, ⟨j, hc, ?_, by omega⟩, h3⟩
        rw [h4, h5]
        exact (ih _ j hj).1 h0
      · cases e
    · cases e
  conF := fun x d h => by
    obtain ⟨g, hg, e⟩ := bind_of (show (G i x).bind (cutG CI i) = _ from h)
    cases g <;> simp only [cutG] at e <;> try (first | (cases e; done) | (split at e <;> (try split at e) <;> cases e; done))
    cases e
    exact X.conF _ _ _ hg
  bltF := fun x h => by
    obtain ⟨g, hg, e⟩ := bind_of (show (G i x).bind (cutG CI i) = _ from h)
    cases g <;> simp only [cutG] at e <;> try (first | (cases e; done) | (split at e <;> (try split at e) <;> cases e; done))
    exact X.bltF _ _ hg
  basF := fun x c m j ps dfl h => by
    obtain ⟨g, hg, e⟩ := bind_of (show (G i x).bind (cutG CI i) = _ from h)
    cases g <;> simp only [cutG] at e <;> try (first | (cases e; done) | (split at e <;> (try split at e) <;> cases e; done))
    split at e
    · rename_i hj
      cases e
      obtain ⟨h0, h1, rfl, rfl⟩ := X.basF _ _ _ _ _ _ _ hg (Nat.lt_trans hj hi)
      exact ⟨h1, (ih _ _ hj).1 h0, by omega⟩
    · cases e
  pexF := fun x c h => by
    obtain ⟨g, hg, e⟩ := bind_of (show (G i x).bind (cutG CI i) = _ from h)
    cases g <;> simp only [cutG] at e <;> try (first | (cases e; done) | (split at e <;> (try split at e) <;> cases e; done))
    cases e
    exact X.pexF _ _ _ hg
  xiF := X.xiF
  pxiF := fun x c j f h => by
    obtain ⟨g, hg, e⟩ := bind_of (show (G i x).bind (cutG CI i) = _ from h)
    cases g <;> simp only [cutG] at e <;> try (first | (cases e; done) | (split at e <;> (try split at e) <;> cases e; done))
    split at e
    · rename_i hj
      cases e
      obtain ⟨h1, h2, h3, h4⟩ := X.pxiF _ _ _ _ _ hg
      exact ⟨h1, h2 base, by omega, h3, h4⟩
    · cases e
  xsF := X.xsF
  bdF := fun j (hj : j < i) hn => by
    have h0 := X.ndO (Nat.lt_trans hj hi) hn
    exact ⟨_, ((ih _ j hj).1 h0).nodfl, fun ws s hl => X.stk (Nat.le_of_lt hi) hj ws s (by rw [(X.frN j (Nat.lt_trans hj hi) h0).1]; exact hl), by omega⟩
  meF := fun c m j h => by
    by_cases hj : j < i
    · have h0 := X.meN c m j h (Nat.lt_trans hj hi)
      exact .inr ⟨_, ((ih _ j hj).1 h0).nodfl, fun ws s hl => X.stk (Nat.le_of_lt hi) hj ws s (by rw [(X.frN j (Nat.lt_trans hj hi) h0).1]; exact hl), by omega⟩
    · exact .inl (table_out (by omega))
  fnN := fun x j ps dfl h => by
    obtain ⟨g, hg, e⟩ := bind_of (show (G i x).bind (cutG CI i) = _ from h)
    cases g <;> simp only [cutG] at e <;> try (first | (cases e; done) | (split at e <;> (try split at e) <;> cases e; done))
    split at e
    · rename_i hj
      cases e
      exact X.ndP (X.fnF _ _ _ _ _ hg (Nat.lt_trans hj hi)).1
    · cases e
  fnS := fun x j ps dfl h ws s hl => by
    obtain ⟨g, hg, e⟩ := bind_of (show (G i x).bind (cutG CI i) = _ from h)
    cases g <;> simp only [cutG] at e <;> try (first | (cases e; done) | (split at e <;> (try split at e) <;> cases e; done))
    split at e
    · rename_i hj
      cases e
      obtain ⟨h0, _, rfl, _⟩ := X.fnF _ _ _ _ _ hg (Nat.lt_trans hj hi)
      exact X.stk (Nat.le_of_lt hi) hj ws s (by rw [(X.frN j (Nat.lt_trans hj hi) h0).1]; exact hl)
    · cases e
  ndF := fun j (hj : j < i) m hm => by
    obtain ⟨_, h1, rfl⟩ := X.ndS hm
    exact ⟨(ih _ j hj).2 h1, fun ws s hl => X.stk (Nat.le_of_lt hi) hj ws s hl, by omega⟩
  ow := fun h => ⟨rfl, rfl, rfl, hfn (by simpa [teOf] using h)⟩
  mkF := fun h z => by
    have h0 : (D i).nst = false := by simpa [teOf] using h
    obtain ⟨c, Pt, h1, h2, h3, h4⟩ := hmk h0 (fun e => z (by simp [teOf, e]))
    exact ⟨c, Pt, h1, h2, h3, h4, hq⟩
  ndT := fun k m h => by
    have h : (k, m) ∈ (D i).nd.map fun k => (k, (D k).toNd) := h
    obtain ⟨k', hk, e⟩ := List.mem_map.mp h
    cases e
    obtain ⟨h1, h2⟩ := X.ndI i hi _ hk
    show nd k = _
    rw [X.ndE, if_pos (by simp [h1, h2])]
/-- a run of the table, told as a run of the body -/
theorem run_body {j : Nat} {fm fm' : Fm} {φ : Ph} {ex : List Addr} {H : Hp} {st : Store} {ws : List W} {Q : VK} {E : XK} (hlw : ws.length = (ds j).ps)
    (run : RunsTo ((Rn P w K M CI FO XI ds fa ca xa TT cs nd (j + 1) fm).Φ j ws st) (RetW (Rn P w K M CI FO XI ds fa ca xa TT cs nd (j + 1) fm) ex Q φ H) (ExcOk (Rn P w K M CI FO XI ds fa ca xa TT cs nd (j + 1) fm) ex E φ H)) :
    RunsTo (runS (table M CI FO XI ds j) M CI FO XI (ds j).body (startE (ds j).ns ws) st) (EndOk (Rn P w K M CI FO XI ds fa ca xa TT cs nd j fm') ex { nx := fun _ H' => Q .non H', rt := Q } φ H) (ExcOk (Rn P w K M CI FO XI ds fa ca xa TT cs nd j fm') ex E φ H) := by
  have same := same_n (P := P) (w := w) (K := K) (M := M) (CI := CI) (FO := FO) (XI := XI) (ds := ds) (fa := fa) (ca := ca) (xa := xa) (TT := TT) (cs := cs) (nd := nd) (a := j + 1) (b := j) (f := fm) (g := fm')
  have run2 : RunsTo (runF (table M CI FO XI ds j) M CI FO XI (ds j) ws st) (RetW (Rn P w K M CI FO XI ds fa ca xa TT cs nd (j + 1) fm) ex Q φ H) (ExcOk (Rn P w K M CI FO XI ds fa ca xa TT cs nd (j + 1) fm) ex E φ H) := by
    have : (Rn P w K M CI FO XI ds fa ca xa TT cs nd (j + 1) fm).Φ j = runF (table M CI FO XI ds j) M CI FO XI (ds j) := table_at (Nat.lt_succ_self _)
    rw [this] at run
    exact run
  unfold runF at run2
  rw [if_pos hlw] at run2
  cases q : runS (table M CI FO XI ds j) M CI FO XI (ds j).body (startE (ds j).ns ws) st with
  | stuck => rw [q] at run2; exact run2
  | exc x t => rw [q] at run2; exact ExcOk.tr same run2
  | ok p t =>
    rw [q] at run2
    obtain ⟨f, env'⟩ := p
    intro φ' H' e S'
    cases f with
    | ret w => exact fun v rv => RetW.tr same run2 v φ' H' e S' rv
    | next => exact fun σ' N' => RetW.tr same run2 .non φ' H' e S' (.d .non)
    | brk => exact False.elim run2
    | cont => exact False.elim run2
theorem Text.fn (X : Text P w K mg M CI FO XI ds fa ca xa TT cs nd D G XS n) {j : Nat} (hin : j < n) (h0 : (D j).nst = false) (ih : IhT P w K mg M CI FO XI ds fa ca xa TT cs nd D j) {fd : FuncData} {dvs : List V} {kws : List (Str × V)}
    (F : FunD K (D j).name (D j).qual (D j).params (D j).body (D j).scope dvs kws (fa j) fd) (hmk : (D j).nd ≠ [] → ∃ c Pt, fd.code = .ref c ∧ (c, Pt) ∈ cs ∧ (Pt, nmOf (D j).nml) ∈ TT ∧ ∀ p ∈ TT, p.1 = Pt → p.2 = nmOf (D j).nml)
    {base : Heap} {fm : Fm} (gd : Gd (Rn P w K M CI FO XI ds fa ca xa TT cs nd (j + 1) fm) mg base) :
    FnOk P w K mg base (L2.CX P w) (2 * j + 2) (fa j) fd (D j).ps (spF ((Rn P w K M CI FO XI ds fa ca xa TT cs nd (j + 1) fm).at base) j (D j).ps.length) := by
  obtain ⟨m, htr⟩ := X.tr j hin
  obtain ⟨s1, s2⟩ := X.shp j hin
  obtain ⟨f1, f2⟩ := X.frN j hin h0
  have S0 := X.fs j hin h0
  have htr : trSs (teOf CI (G j) XS D j) m (D j).body = some (ds j).body := by
    unfold trBody at htr
    rw [f2] at htr
    exact htr
  obtain ⟨oc, od, dV, kV, doc, pm, an, cdv, ct, osl, rfl, lk, hcd, _, _⟩ := F.ex
  refine fn_of lk hcd S0 (fun vs H Q E q => q.1) fun A outer s H vs Q E hr hsp => ?_
  refine ⟨_, (sndS m).ss (X.lk hin ih (env := envOfC (D j).qual (D j).scope s.heap.objs.size (fa j) cdv) (fn := fun _ => true) rfl S0.nd hr (fun σ => passAt (takes_of (E := E) rfl rfl rfl rfl) σ) gd rfl (fun x h => ⟨h, .inl rfl⟩) (fun _ _ => rfl) rfl fun _ z => hmk z) (passes_of rfl) ⟨takes_of rfl rfl rfl rfl, rfl, rfl⟩ _ _ htr, ?_⟩
  obtain ⟨hl, φ, ex, st, ws, S, r, run⟩ := hsp
  have hlw : ws.length = (ds j).ps := by rw [s1, f1, ← hl, r.length]; rfl
  refine ⟨φ, ex, st, startE (ds j).ns ws, S.tr same_n, ?_, run_body hlw run⟩
  unfold startE L2.start
  rw [s2, ← r.length]
  refine startEnv ?_
  refine RpAL.tr (R' := Rn P w K M CI FO XI ds fa ca xa TT cs nd j ⟨base, (envOfC (D j).qual (D j).scope s.heap.objs.size (fa j) cdv).cells, (D j).N, (envOfC (D j).qual (D j).scope s.heap.objs.size (fa j) cdv).scope⟩) same_at ?_ r
  rfl
theorem startF_eq {N : List Str} {vs us : List V} : NdefX.startF N vs (us.map some) = (vs ++ us).map some ++ List.replicate (N.length - (vs ++ us).length) none := by
  unfold NdefX.startF
  rw [List.map_append, List.append_assoc, List.length_append, List.length_map]
  congr 3
  omega
/-- a def made within another -/
theorem Text.fnN (X : Text P w K mg M CI FO XI ds fa ca xa TT cs nd D G XS n) {j : Nat} (hin : j < n) (h1 : (D j).nst = true) (ih : IhT P w K mg M CI FO XI ds fa ca xa TT cs nd D j) {fm : Fm} :
    NOkD P w K mg (Rn P w K M CI FO XI ds fa ca xa TT cs nd (j + 1) fm) j (D j).toNd := by
  obtain ⟨m, htr⟩ := X.tr j hin
  obtain ⟨s1, s2⟩ := X.shp j hin
  have S0 := X.fsN j hin h1
  refine ⟨fun base f F gd is A outer s H us vs zs Q E hr e0 hf hc C r hl hsp => ?_⟩
  have bnd := X.funN j hin h1 F is us (by rw [← r.length]; exact hl)
  have S1 : NdefX.NScope (D j).N (D j).ps (D j).fr F.scope := by rw [is.scope]; exact S0
  have isq : F.qual = (D j).qual := is.qual
  have iss : F.scope = (D j).scope := is.scope
  have lkk : ∀ (A : Around) (outer : List PySem.Env) (s : Shared) (H : Hp) (E : XK), Room (2 * j + 1) (A.deeper (NdefX.envF F f s.heap.objs.size)) → Lk (teOf CI (G j) XS D j) (NdefX.ncx (L2.CX P w) P w K mg base (D j).N F f A outer s H E) (Rn P w K M CI FO XI ds fa ca xa TT cs nd j ⟨base, F.cl, (D j).N, F.scope⟩) (con E) (2 * j + 1) := fun A outer s H E hr =>
    X.lk hin ih (env := NdefX.envF F f s.heap.objs.size) (fn := fun _ => false) rfl S0.nd hr (fun σ => passAt (takes_of (E := E) rfl rfl rfl rfl) σ) gd iss (fun x h => by
      have e : (NdefX.envF F f s.heap.objs.size).scope = (D j).scope := iss
      rw [e]
      refine ⟨h, .inr ?_⟩
      rcases h with h | h
      · exact h
      · exact absurd rfl (S0.nocell _ (PySem.mem_of_lookup h))) (fun z => by rw [h1] at z; cases z) (by show F.qual ++ ".<locals>." = _; rw [isq]) (fun z => by rw [h1] at z; cases z)
  obtain ⟨hl2, φ, ex, st, ws, S, ra, run⟩ := hsp
  have hlw : ws.length = (ds j).ps := by rw [s1, ← ra.length, hl2]; rfl
  have body : ∀ (fm' : Fm), fm'.base = base → tS (Rn P w K M CI FO XI ds fa ca xa TT cs nd j fm') E (ds j).body { nx := fun _ H' => Q .non H', rt := Q } (NdefX.startF (D j).N vs (zs.map some)) H := fun fm' hb => by
    refine ⟨φ, ex, st, startE (ds j).ns ws, S.tr same_n, ?_, run_body hlw run⟩
    unfold startE
    rw [startF_eq, s2, ← ra.length]
    exact startEnv (RpAL.tr same_at hb.symm ra)
  cases hlam : (D j).lam with
  | none =>
    have htr : trSs (teOf CI (G j) XS D j) m (D j).body = some (ds j).body := by
      unfold trBody at htr
      rw [hlam] at htr
      exact htr
    have hb : F.body = (D j).body := is.body
    have nk : NdefX.NOk P w K mg base (L2.CX P w) (2 * j + 2) f F (D j).ps (D j).fr (fun ws vs' H' Q' E' => ws = zs.map some ∧ vs' = vs ∧ H' = H ∧ Q' = Q ∧ E' = E) := by
      refine NdefX.nok_of (k := 2 * j + 1) S1 (fun doc pm ctv us' h => ?_) (fun ws vs' H' Q' E' h => by rw [h.2.1]; exact hl) fun A' outer' s' H' vs' ws' Q' E' hr' hf' hc' hlen hq => ?_
      · exact (X.funN j hin h1 F is us' h).1 doc pm ctv
      · obtain ⟨rfl, rfl, rfl, rfl, rfl⟩ := hq
        refine ⟨_, (sndS m).ss (lkk A' outer' s' H' E' hr') (passes_of rfl) ⟨takes_of rfl rfl rfl rfl, rfl, rfl⟩ _ _ (by rw [hb]; exact htr), body _ rfl⟩
    have hf2 : H f = some (NdefX.FnO f F) := by
      have : (D j).toNd.lam = none := hlam
      rw [this] at hf
      exact hf
    exact nk.run A outer s H us vs (zs.map some) Q E hr e0 hf2 hc C r ⟨rfl, rfl, rfl, rfl, rfl⟩
  | some e =>
    obtain ⟨c, htr, hds⟩ : ∃ c, trE (teOf CI (G j) XS D j) m e = some c ∧ (ds j).body = .ret c := by
      unfold trBody at htr
      rw [hlam] at htr
      obtain ⟨c, h1, h2⟩ := map_of htr
      exact ⟨c, h1, h2.symm⟩
    have hf2 : H f = some (LmO f F e) := by
      have : (D j).toNd.lam = some e := hlam
      rw [this] at hf
      exact hf
    obtain ⟨⟨od, sl, pm, ctv, ho⟩, _, _⟩ := e0.hok f _ hf2
    have lim : s.heap.NoLimit := e0.mod.nolimit.keeps fun b o e => (e0.bs b o e).1
    refine PySem.W.kla_callFunE hr.depth ho rfl S1.co S1.gen rfl (NdefX.codeO_at e0.hok hc) ?_
    rw [bnd.2 e pm ctv]
    have hr1 := Room.deeper (k := 2 * j + 1) hr (NdefX.envF F f s.heap.objs.size)
    refine wpAny_pure (wpAny_newFunctionEnv S1.nocell (fun ⟨x, _⟩ hy => S1.par x (List.of_mem_zip hy).1) (fun h₁ hns hsb => ⟨lim.fresh _ hsb, ?_⟩) S1.kind)
    show codeAny _ _ (.expr e (NdefX.envF F f s.heap.objs.size)) _ _
    have up : ∀ b o, s.heap.get? b = some o → h₁.get? b = some o := fun b o q => hsb.extBut b o (Nat.ne_of_lt (Heap.lt_size q)) (Heap.get?_push_of_some _ q)
    have I : Inv (NdefX.ncx (L2.CX P w) P w K mg base (D j).N F f A outer s H E) [] (NdefX.startF (D j).N vs (zs.map some)) H { s with heap := h₁, toks := s.toks + ((D j).ps.zip us).length } := NdefX.inv_startN S1 hr.hd e0 hl r C hns up
    have pe := (snd m).e (lkk A outer s H E hr1) e c htr
    have bd := body ⟨base, F.cl, (D j).N, F.scope⟩ rfl
    have hq : tD (Rn P w K M CI FO XI ds fa ca xa TT cs nd j ⟨base, F.cl, (D j).N, F.scope⟩) (con E) c (NdefX.startF (D j).N vs (zs.map some)) H Q := by
      obtain ⟨φ1, ex1, st1, env1, S1', N1, b1⟩ := bd
      refine ⟨φ1, ex1, st1, env1, S1', N1, ?_⟩
      rw [hds] at b1
      simp only [runS] at b1
      cases q : runE (Rn P w K M CI FO XI ds fa ca xa TT cs nd j ⟨base, F.cl, (D j).N, F.scope⟩).Φ M CI FO c env1 st1 with
      | stuck =>
        have b1 := b1
        rw [show runE (Rn P w K M CI FO XI ds fa ca xa TT cs nd j ⟨base, F.cl, (D j).N, F.scope⟩).Φ (Rn P w K M CI FO XI ds fa ca xa TT cs nd j ⟨base, F.cl, (D j).N, F.scope⟩).M (Rn P w K M CI FO XI ds fa ca xa TT cs nd j ⟨base, F.cl, (D j).N, F.scope⟩).CI (Rn P w K M CI FO XI ds fa ca xa TT cs nd j ⟨base, F.cl, (D j).N, F.scope⟩).FO c env1 st1 = _ from q] at b1
        exact b1.elim
      | exc x t =>
        rw [show runE (Rn P w K M CI FO XI ds fa ca xa TT cs nd j ⟨base, F.cl, (D j).N, F.scope⟩).Φ (Rn P w K M CI FO XI ds fa ca xa TT cs nd j ⟨base, F.cl, (D j).N, F.scope⟩).M (Rn P w K M CI FO XI ds fa ca xa TT cs nd j ⟨base, F.cl, (D j).N, F.scope⟩).CI (Rn P w K M CI FO XI ds fa ca xa TT cs nd j ⟨base, F.cl, (D j).N, F.scope⟩).FO c env1 st1 = _ from q] at b1 ⊢
        exact b1
      | ok w0 t =>
        rw [show runE (Rn P w K M CI FO XI ds fa ca xa TT cs nd j ⟨base, F.cl, (D j).N, F.scope⟩).Φ (Rn P w K M CI FO XI ds fa ca xa TT cs nd j ⟨base, F.cl, (D j).N, F.scope⟩).M (Rn P w K M CI FO XI ds fa ca xa TT cs nd j ⟨base, F.cl, (D j).N, F.scope⟩).CI (Rn P w K M CI FO XI ds fa ca xa TT cs nd j ⟨base, F.cl, (D j).N, F.scope⟩).FO c env1 st1 = _ from q] at b1 ⊢
        exact fun v φ' H' e' S' rv => b1 φ' H' e' S' v rv
    refine PySem.W.kla_codeExpr (wpAny_mono (pe.run [] _ _ H Q I hq) (fun v s' hs => ?_) fun e' s' hs => hs)
    obtain ⟨w', H', J, rv, q⟩ := hs
    exact ⟨w', H', J.os, J.bare, J.base, J.hok, rv, q⟩
theorem Text.ok (X : Text P w K mg M CI FO XI ds fa ca xa TT cs nd D G XS n) : ∀ i, i ≤ n → IhT P w K mg M CI FO XI ds fa ca xa TT cs nd D i
  | 0, _, fm, j, h => by omega
  | i + 1, hi, fm, j, h => by
    have ih := Text.ok X i (by omega)
    by_cases hj : j < i
    · refine ⟨fun h0 => FOk.tr (R := Rn P w K M CI FO XI ds fa ca xa TT cs nd i fm) (R' := Rn P w K M CI FO XI ds fa ca xa TT cs nd (i + 1) fm) same_n rfl (table_up hj) ((ih fm j hj).1 h0), fun h1 => NOkD.tr (R := Rn P w K M CI FO XI ds fa ca xa TT cs nd i fm) same_n rfl (table_up hj) ((ih fm j hj).2 h1)⟩
    · have e : j = i := by omega
      subst e
      have hin : j < n := by omega
      refine ⟨fun h0 => ?_, fun h1 => X.fnN hin h1 ih⟩
      obtain ⟨fd, dvs, kws, F, hmk, hb⟩ := X.fun_ j hin h0
      exact ⟨⟨fd, (D j).ps, rfl, fun base gd => X.fn hin h0 ih F hmk gd, hb⟩, F.kp⟩
end
end Cc

set_option Elab.async false
set_option linter.all false
set_option maxRecDepth 100000
set_option maxHeartbeats 4000000
/-! Cd12: what the fragment must tell of an exception class with own __init__, and of its base: asked by decision. -/
namespace Cd
open PySem PySem.Spec PyProof.Rows PySem.OEX L2 Cc
def oexShape (K : PySem.W.Frag) (C : Addr) : Bool := match K.lookup C with
  | some ⟨.type t, _, .cls cd, sl⟩ => decide (t = "type") && (match cd.mro, sl.toList with
    | .ref C' :: bm, [_, _, _, _, some (.builtin n), _] => decide (C' = C) && (decide (n = "ValueError.__new__") && (!cd.hasDel && (cd.hasDict && PySem.HandSPX.refsVE bm)))
    | _, _ => false)
  | _ => false
theorem oexShape_ok {K : PySem.W.Frag} {C : Addr} (q : oexShape K C = true) : ∃ nm q N bs bm sn sub ab col dd k0 k1 k2 k3 k5, K.lookup C = some (excClassObj nm q C N bs bm true sn sub ab col dd k0 k1 k2 k3 k5 "ValueError.__new__") ∧ PySem.HandSPX.refsVE bm = true := by
  unfold oexShape at q
  split at q
  · rename_i t dd cd sl ho
    obtain ⟨ht, q⟩ := Bool.and_eq_true_iff.mp q
    have ht := of_decide_eq_true ht
    subst ht
    split at q
    · rename_i C' bm k0 k1 k2 k3 n k5 hm hs
      simp only [Bool.and_eq_true, decide_eq_true_eq, Bool.not_eq_true'] at q
      obtain ⟨_, rfl, rfl, hdel, hdi, hr⟩ := q
      obtain ⟨nm, bs, mro, ns, qn, hd, sn, sub, ab, col, del⟩ := cd
      dsimp only at hm hdel hdi
      subst hm hdel hdi
      have hsl : sl = #[k0, k1, k2, k3, some (.builtin "ValueError.__new__"), k5] := by
        obtain ⟨l⟩ := sl
        simp only at hs
        rw [hs]
      subst hsl
      exact ⟨nm, qn, ns, bs, bm, sn, sub, ab, col, dd, k0, k1, k2, k3, k5, ho, hr⟩
    · cases q
  · cases q
def oexB (K : PySem.W.Frag) (C : Addr) : Bool := oexShape K C && (He.eqO (PySem.W.findIn K (.ref C) "__setattr__") (some (some (.builtin "object.__setattr__"))) && (decide (PySem.W.subIn K (.ref C) (.type "BaseException") = some true) &&
  (decide (PySem.W.typeIn K (.ref C) = some (.type "type")) && PySem.W.keepIn K (.ref C))))
theorem oexB_ok {K : PySem.W.Frag} {C : Addr} (h : oexB K C = true) : OexC K C := by
  obtain ⟨c1, c⟩ := He.ba h
  obtain ⟨c2, c⟩ := He.ba c
  obtain ⟨c3, c⟩ := He.ba c
  obtain ⟨c4, c5⟩ := He.ba c
  exact ⟨oexShape_ok c1, He.eqO_ok c2, of_decide_eq_true c3, of_decide_eq_true c4, c5⟩
def veFB (K : PySem.W.Frag) (C : Addr) : Bool := match PySem.W.findCls K (.ref C) (.type "type") "__init__" with
  | some (.val (.builtin n)) => decide (n = "ValueError.__init__")
  | _ => false
def vecB (K : PySem.W.Frag) (C : Addr) : Bool := PySem.W.readsIn K C (.type "type") && (He.eqO (PySem.W.specialIn K (.ref C) "__getattribute__") (some (some (.builtin "type.__getattribute__"))) && veFB K C)
theorem vecB_ok {K : PySem.W.Frag} {C : Addr} (h : vecB K C = true) : VeC K C := by
  obtain ⟨c1, c⟩ := He.ba h
  obtain ⟨c2, c3⟩ := He.ba c
  refine ⟨c1, He.eqO_ok c2, ?_⟩
  unfold veFB at c3
  split at c3
  · rename_i n e
    rw [e, of_decide_eq_true c3]
  · cases c3
end Cd

set_option linter.all false
set_option maxRecDepth 100000
set_option maxHeartbeats 1000000
/-! Cc: the head: what stands behind the text's top, as the tables want it. -/
namespace Cc
open PySem PySem.Spec PyProof.Rows L2

/-- a text by lists -/
structure Cf where
  dl : List DefS
  pl : List (Str × Option Str)
  gl : List (Str × GI)
  cn : List Str
  ml : List ((Nat × Str) × Nat)
  cil : List (Nat × Nat)
  fol : List (Nat × Str)
  xl : List Nat
  xsl : List (Str × List (Nat × Bool))
  /-- exception classes whose __init__ keeps a field -/
  xfl : List (Nat × Str) := []
namespace Cf
variable (C : Cf)
def nod : DefS := ⟨[], [], ⟨#[]⟩, ⟨#[]⟩, ⟨[], [], none, [], [], none, []⟩, [], ⟨.function, [], false, false, []⟩, [], fun _ => 0, 0, false, [], none, [], [], []⟩
def D (i : Nat) : DefS := C.dl.getD i nod
def n : Nat := C.dl.length
def p (i : Nat) : Str × Option Str := C.pl.getD i (⟨#[]⟩, none)
def c (i : Nat) : Str := C.cn.getD i ⟨#[]⟩
def M : CTab := fun c m => C.ml.lookup (c, m)
def CI (c : Nat) : Option Nat := C.cil.lookup c
def FO (c : Nat) (f : Str) : Bool := C.fol.contains (c, f)
/-- what a name means in the i-th def: the first that stands below it -/
def G (i : Nat) (x : Str) : Option GI := (C.gl.find? fun q => decide (q.1 = x) && (cutG C.CI i q.2).isSome).map (·.2)
def xi (c : Nat) (ds : List PyData) : Option (List (Str × PyData)) := if C.xl.contains c then match ds with | [.str _] => some [] | _ => none else match C.xfl.lookup c with | some f => (match ds with | [.int i] => some [(f, .int i)] | _ => none) | none => none
def xs (x : Str) : Option (List (Nat × Bool)) := C.xsl.lookup x
def tr (i : Nat) : Option Sx := trBody (teOf C.CI (C.G i) C.xs C.D i) 400 (C.D i)
def ds (i : Nat) : Def := ⟨(C.D i).ps.length + (C.D i).fr.length, (C.D i).N.length, (C.tr i).getD .pass⟩
/-- defs within defs; defs that make such -/
def ndF (i : Nat) : Option Nd := if decide (i < C.n) && (C.D i).nst then some (C.D i).toNd else none
def mks : List Nat := (List.range C.n).filter fun i => !(C.D i).nst && !(C.D i).nd.isEmpty
def csK (K : PySem.W.Frag) : List (Addr × Addr) := C.mks.map fun i => He.cT K (C.p i)
def TK (K : PySem.W.Frag) : List NdefX.NTab := C.mks.map fun i => ((He.cT K (C.p i)).2, nmOf (C.D i).nml)
def tabB (K : PySem.W.Frag) : Bool := (C.csK K).all (fun p => PySem.W.codeHdIn K p.1 p.2) && decide ((C.csK K).map (·.2)).Nodup
def tabE (g : Addr → Option Obj) (K : PySem.W.Frag) : Bool := (C.csK K).all fun p => match g p.2 with
  | some o => He.emptyTab o
  | none => false
def Φ (n : Nat) : FT := table C.M C.CI C.FO C.xi C.ds n
end Cf
def scB (N P : List Str) (sc : Scope) : Bool :=
  (match sc.kind with | .function => true | _ => false) && !sc.isCoroutine && !sc.isGenerator && decide N.Nodup && decide (N.take P.length = P) &&
  (P.all fun x => locB sc x) && (sc.names.all fun y => match y.2 with | .free => false | _ => true)
theorem scB_ok {N P : List Str} {sc : Scope} (h : scB N P sc = true) : FnScope N P sc := by
  unfold scB at h
  simp only [Bool.and_eq_true, decide_eq_true_eq, Bool.not_eq_true', List.all_eq_true] at h
  obtain ⟨⟨⟨⟨⟨⟨h1, h2⟩, h3⟩, h4⟩, h5⟩, h6⟩, h7⟩ := h
  refine ⟨?_, h2, h3, h4, h5, fun x hx => loc_of (h6 x hx), fun y hy e => ?_⟩
  · split at h1
    · assumption
    · cases h1
  · have := h7 y hy
    rw [e] at this
    cases this
def dvB : PyData → Bool
  | .none => true | .bool _ => true | .int _ => true | .str _ => true
  | _ => false
def dvOf : PyData → He.Dv
  | .bool b => .bl b | .int i => .int i | .str x => .str x
  | _ => .non
theorem rp_dv {K : PySem.W.Frag} {φ : Ph} {ex : List Addr} {H : Hp} : ∀ {ds : List PyData}, ds.all dvB = true → RpL K φ ex H (ds.map fun d => (dvOf d).v K) ds
  | [], _ => .nil
  | d :: ds, h => by
    simp only [List.all_cons, Bool.and_eq_true] at h
    refine .cons ?_ (rp_dv h.2)
    cases d <;> first | exact .non | exact .bl _ | exact .int _ | exact .str _ | (have := h.1; cases this)
def strDbg (x : Str) : Bool := x == ("__debug__" : Str)
def strCd (x : Str) : Bool := x == ("__classdict__" : Str)
def Cf.chkN (C : Cf) (i : Nat) : Bool := if (C.D i).nst then NdefX.nscB (C.D i).N (C.D i).ps (C.D i).fr (C.D i).scope && (C.D i).nd.isEmpty else scB (C.D i).N (C.D i).ps (C.D i).scope && ((C.D i).fr.isEmpty && ((C.D i).lam.isNone && (C.D i).nd.all fun k => decide (k < C.n) && (C.D k).nst))
def Cf.chkD (C : Cf) (i : Nat) : Bool := C.chkN i && ((C.D i).N.all fun x => !strDbg x && !strCd x) && (C.tr i).isSome && (C.D i).dfl.all dvB
def placeB (p : Str × Option Str) (x : Str) (m : Option Str) : Bool := decide (p.1 = x) && decide (p.2 = m)
theorem placeB_ok {p : Str × Option Str} {x : Str} {m : Option Str} (h : placeB p x m = true) : p = (x, m) := by
  unfold placeB at h
  simp only [Bool.and_eq_true, decide_eq_true_eq] at h
  exact Prod.ext h.1 h.2
/-- an __init__ that calls the base's and keeps one field: base, self, parameter, field -/
def iniOf : List Stmt → Option (Str × Str × Str × Str)
  | [.Expr (.Call (.Attribute (.Name bn _) m p2) [.Name self _, .Constant (.str _) _ _] [] p5) _, .Assign [.Attribute (.Name self2 _) f _] (.Name num _) _] => if (m = "__init__" ∧ self = self2) ∧ (p2.endLine == p5.line) = true then some (bn, self, num, f) else none
  | _ => none
def Cf.chkG (C : Cf) (q : Str × GI) : Bool := match q.2 with
  | .fn i np dfl => !(C.D i).nst && placeB (C.p i) q.1 none && decide (np = (C.D i).ps.length) && dEqL dfl (C.D i).dfl && !strDbg q.1
  | .cls c np dfl => decide (C.c c = q.1) && (match C.CI c with | some i => !(C.D i).nst && decide (np + 1 = (C.D i).ps.length) && dEqL dfl (C.D i).dfl | none => true) && !strDbg q.1
  | .con _ => !strDbg q.1
  | .bas _ _ i np dfl => !(C.D i).nst && decide (np = (C.D i).ps.length) && dEqL dfl (C.D i).dfl
  | .pex c => decide (C.c c = q.1) && !strDbg q.1
  | .pexi c i f => (match iniOf (C.D i).body with
    | some (bn, self, num, g) => decide (g = f ∧ (C.D i).nst = false) && (decide ((C.D i).N = [self, num]) && (decide ((C.D i).ps = [self, num]) && (decide (i < C.n) && (decide (C.c c = q.1) && (!strDbg q.1 && (!strDbg bn && (!strDbg self && (!strDbg num && (!strCd self && (!strCd num && (gloB (C.D i).scope bn && (!C.xl.contains c && decide (C.xfl.lookup c = some f)))))))))))))
    | none => false)
  | _ => true
def Cf.chk (C : Cf) : Bool := ((List.range C.n).all C.chkD) && (C.gl.all C.chkG && C.ml.all fun q => !(C.D q.2).nst)
theorem strDbg_no {x : Str} (h : (!strDbg x) = true) : (x == ("__debug__" : Str)) = false := by
  unfold strDbg at h; simpa using h
theorem strCd_no {x : Str} (h : (!strCd x) = true) : (x == ("__classdict__" : Str)) = false := by
  unfold strCd at h; simpa using h
/-! ### what K must tell -/
mutual
def conB (K : PySem.W.Frag) : PyData → Value → Bool
  | .none, .none => true
  | .bool b, .bool c => b == c
  | .int i, .int j _ => decide (i = j)
  | .str x, .str y _ => decide (x = y)
  | .tuple ds, .ref a => match K.lookup a with
    | some ⟨.type c, Option.none, .seq its _, _⟩ => decide (c = "tuple") && decide (its.size ≤ sizeLine) && conL K ds its.toList
    | _ => false
  | _, _ => false
def conL (K : PySem.W.Frag) : List PyData → List Value → Bool
  | [], [] => true
  | d :: ds, u :: us => conB K d u && conL K ds us
  | _, _ => false
end
def ConL (K : PySem.W.Frag) (us : List Value) (ds : List PyData) : Prop := ∀ φ ex H, ∃ vs, Vals vs us ∧ RpL K φ ex H vs ds
mutual
theorem conB_ok {K : PySem.W.Frag} : ∀ (d : PyData) (u : Value), conB K d u = true → ConK K u d
  | .none, u, h => by cases u <;> simp only [conB] at h <;> first | (cases h; done) | exact fun φ ex H => ⟨.non, rfl, .non⟩
  | .bool b, u, h => by
    cases u <;> simp only [conB] at h <;> first | (cases h; done) | skip
    have e := eq_of_beq h
    subst e
    exact fun φ ex H => ⟨.bl b, rfl, .bl b⟩
  | .int i, u, h => by
    cases u <;> simp only [conB] at h <;> first | (cases h; done) | skip
    have e := of_decide_eq_true h
    subst e
    exact fun φ ex H => ⟨.int i, ⟨_, rfl⟩, .int i⟩
  | .str i, u, h => by
    cases u <;> simp only [conB] at h <;> first | (cases h; done) | skip
    have e := of_decide_eq_true h
    subst e
    exact fun φ ex H => ⟨.str i, ⟨_, rfl⟩, .str i⟩
  | .tuple ds, u, h => by
    cases u <;> simp only [conB] at h <;> first | (cases h; done) | skip
    rename_i a
    split at h
    · rename_i cl its m sl q
      simp only [Bool.and_eq_true, decide_eq_true_eq] at h
      have r := conL_ok ds _ h.2
      intro φ ex H
      obtain ⟨vs, r1, r2⟩ := r φ ex H
      exact ⟨.ref a, rfl, .tup (.inr ⟨_, its, m, q, congrArg Value.type h.1.1, rfl, rfl, h.1.2, r1⟩) r2⟩
    · cases h
  | .list _, u, h => by cases u <;> simp only [conB] at h <;> cases h
  | .dict _, u, h => by cases u <;> simp only [conB] at h <;> cases h
theorem conL_ok {K : PySem.W.Frag} : ∀ (ds : List PyData) (us : List Value), conL K ds us = true → ConL K us ds
  | [], us, h => by
    cases us with
    | nil => exact fun φ ex H => ⟨[], .nil, .nil⟩
    | cons u us => simp [conL] at h
  | d :: ds, us, h => by
    cases us with
    | nil => simp [conL] at h
    | cons u us =>
      simp only [conL, Bool.and_eq_true] at h
      have r1 := conB_ok d u h.1
      have r2 := conL_ok ds us h.2
      intro φ ex H
      obtain ⟨v, a, b⟩ := r1 φ ex H
      obtain ⟨vs, a2, b2⟩ := r2 φ ex H
      exact ⟨v :: vs, .cons a a2, .cons b b2⟩
end
def methB (K : PySem.W.Frag) (C : Addr) (m : Str) (f : Addr) : Bool := He.eqO (PySem.W.findIn K (.ref C) m) (some (some (.ref f))) && (PySem.W.isFn K (.ref f) && PySem.W.keepIn K (.ref f))
theorem methB_ok {K : PySem.W.Frag} {C : Addr} {m : Str} {f : Addr} (h : methB K C m f = true) : Meth K C m f := by
  obtain ⟨c1, c⟩ := He.ba h
  obtain ⟨c2, c3⟩ := He.ba c
  exact ⟨He.eqO_ok c1, c2, c3⟩
def mkB (K : PySem.W.Frag) (C f : Addr) : Bool := PySem.W.makesIn K C && (He.eqO (PySem.W.findIn K (.ref C) "__init__") (some (some (.ref f))) && (PySem.W.isFn K (.ref f) && PySem.W.keepIn K (.ref C)))
theorem mkB_ok {K : PySem.W.Frag} {C f : Addr} (h : mkB K C f = true) : Mk K C f := by
  obtain ⟨c1, c⟩ := He.ba h
  obtain ⟨c2, c⟩ := He.ba c
  obtain ⟨c3, c4⟩ := He.ba c
  exact ⟨c1, He.eqO_ok c2, c3, c4⟩
def fndB (K : PySem.W.Frag) (C : Addr) (m : Str) (f : Addr) : Bool := match PySem.W.findCls K (.ref C) (.type "type") m with
  | some (.val (.ref g)) => g == f
  | _ => false
def baseB (K : PySem.W.Frag) (C : Addr) (m : Str) (f : Addr) : Bool := PySem.W.readsIn K C (.type "type") && (He.eqO (PySem.W.specialIn K (.ref C) "__getattribute__") (some (some (.builtin "type.__getattribute__"))) && fndB K C m f)
theorem baseB_ok {K : PySem.W.Frag} {C : Addr} {m : Str} {f : Addr} (h : baseB K C m f = true) : Base K C m f := by
  obtain ⟨c1, c⟩ := He.ba h
  obtain ⟨c2, c3⟩ := He.ba c
  refine ⟨c1, He.eqO_ok c2, ?_⟩
  unfold fndB at c3
  split at c3
  · rename_i g e
    cases eq_of_beq c3
    exact e
  · cases c3
def Cf.okG (C : Cf) (K : PySem.W.Frag) (q : Str × GI) : Bool := match q.2 with
  | .bas c m i _ _ => baseB K (He.ga K (C.c c)) m (He.fAd K (C.p i))
  | .blt => (He.Fa.free q.1).ok K
  | .con d => match PySem.W.nsIn K mainGlobals q.1 with
    | some (some u) => conB K d u
    | _ => false
  | .pex c => (He.Fa.glo q.1).ok K && (He.Fa.exc q.1).ok K
  | .pexi c i f => (He.Fa.glo q.1).ok K && (match iniOf (C.D i).body with
    | some (bn, _, _, _) => (He.Fa.glo bn).ok K && (Cd.oexB K (He.ga K (C.c c)) && (He.eqO (PySem.W.findIn K (.ref (He.ga K (C.c c))) f) (some none) && (He.eqO (PySem.W.findIn K (.ref (He.ga K (C.c c))) "__init__") (some (some (.ref (He.fAd K (C.p i))))) && (decide (PySem.W.typeIn K (.ref (He.fAd K (C.p i))) = some (.type "function")) && Cd.vecB K (He.ga K bn)))))
    | none => false)
  | _ => (He.Fa.glo q.1).ok K
def exOB (a : Option Bool) (b : Bool) : Bool := match a with | some c => c == b | none => false
/-- instances of D are asked rightly -/
def excCB (K : PySem.W.Frag) (D : Addr) : Bool := He.eqO (PySem.W.findIn K (.ref D) "__getattribute__") (some (some (.builtin "BaseException.__getattribute__"))) && (He.eqO (PySem.W.findIn K (.ref D) "__getattr__") (some none) &&
  (exOB (PySem.W.subIn K (.ref D) (.type "BaseException")) true && (PySem.W.hasDictIn K D && (He.eqO (PySem.W.findIn K (.ref D) "__class__") (some (some (.builtin "object.__class__"))) &&
  (He.eqO (PySem.W.specialIn K (.builtin "object.__class__") "__get__") (some (some (.builtin "getset_descriptor.__get__"))) && (exOB (PySem.W.takesIn K (.builtin "object.__class__")) true && exOB (PySem.W.mroIn K D (.type "object")) true))))))
theorem exOB_ok {a : Option Bool} {b : Bool} (h : exOB a b = true) : a = some b := by
  unfold exOB at h
  split at h
  · rw [eq_of_beq h]
  · cases h
theorem excCB_ok {K : PySem.W.Frag} {D : Addr} (h : excCB K D = true) : ExcC K D := by
  obtain ⟨c1, c⟩ := He.ba h
  obtain ⟨c2, c⟩ := He.ba c
  obtain ⟨c3, c⟩ := He.ba c
  obtain ⟨c4, c⟩ := He.ba c
  obtain ⟨c5, c⟩ := He.ba c
  obtain ⟨c6, c⟩ := He.ba c
  obtain ⟨c7, c8⟩ := He.ba c
  exact ⟨He.eqO_ok c1, He.eqO_ok c2, exOB_ok c3, c4, He.eqO_ok c5, He.eqO_ok c6, exOB_ok c7, exOB_ok c8⟩
def clsVB : Value → Bool
  | .ref _ => true
  | .type _ => true
  | _ => false
theorem clsVB_ok {v : Value} (h : clsVB v = true) : ∃ cv : V, RelV cv v ∧ ∀ u, RelV cv u → u = v := by
  cases v <;> simp only [clsVB] at h <;> try (cases h; done)
  · exact ⟨.ty _, rfl, fun u r => r⟩
  · exact ⟨.ref _, rfl, fun u r => r⟩
def xsB (K : PySem.W.Frag) (C : Cf) (v : Value) (l : List (Nat × Bool)) : Bool := clsVB v && l.all fun y => exOB (PySem.W.exmOne K (.ref (He.ga K (C.c y.1))) v) y.2 && (exOB (PySem.W.kitOne K (.ref (He.ga K (C.c y.1))) v) y.2 && excCB K (He.ga K (C.c y.1)))
def Cf.okX (C : Cf) (K : PySem.W.Frag) (q : Str × List (Nat × Bool)) : Bool := !strDbg q.1 && match PySem.W.nsIn K mainGlobals q.1 with
  | some (some u) => xsB K C u q.2
  | some none => decide (q.1 ≠ "__name__") && match bootBuiltins q.1 with
    | some u => xsB K C u q.2
    | none => false
  | none => false
def Cf.okK (C : Cf) (K : PySem.W.Frag) : Bool :=
  (C.gl.all (C.okG K)) && (C.fol.all fun q => (He.Fa.cls (C.c q.1)).ok K && (He.Fa.noat (C.c q.1) q.2).ok K) &&
  (C.ml.all fun q => (He.Fa.cls (C.c q.1.1)).ok K && methB K (He.ga K (C.c q.1.1)) q.1.2 (He.fAd K (C.p q.2))) &&
  (C.cil.all fun q => mkB K (He.ga K (C.c q.1)) (He.fAd K (C.p q.2))) && (C.xsl.all (C.okX K)) && C.tabB K
def Cf.dd (C : Cf) (i : Nat) : He.DefD := ⟨C.p i, (C.D i).name, (C.D i).qual, (C.D i).params, (C.D i).body, (C.D i).scope, (C.D i).dfl.map dvOf, []⟩
def Cf.dds (C : Cf) : List He.DefD := ((List.range C.n).filter fun i => !(C.D i).nst).map C.dd
/-- how the i-th def binds its arguments -/
def Cf.Bd0 (C : Cf) (i : Nat) : Prop := ((C.D i).dfl = [] ∧ ∀ (kV doc pm : Value) (an : Option Addr) (cdv ct : Value) (us : List Value), us.length = (C.D i).ps.length →
    bindArgs (PySem.W.fnOf (C.D i).name (C.D i).qual (C.D i).params (C.D i).body (C.D i).scope .none kV doc pm an cdv ct) ⟨us, []⟩ = pure ((C.D i).ps.zip us)) ∨
  ((C.D i).dfl ≠ [] ∧ ∀ m, m ≤ (C.D i).ps.length → (C.D i).ps.length - m ≤ (C.D i).dfl.length → ∀ (T : Addr) (kV doc pm : Value) (an : Option Addr) (cdv ct : Value) (us its : List Value), us.length = m → its.length = (C.D i).dfl.length →
      ∃ k, bindArgs (PySem.W.fnOf (C.D i).name (C.D i).qual (C.D i).params (C.D i).body (C.D i).scope (.ref T) kV doc pm an cdv ct) ⟨us, []⟩ = seqItems? (.ref T) >>= k ∧ k (some its.toArray) = pure ((C.D i).ps.zip (us ++ its.drop ((C.D i).dfl.length - ((C.D i).ps.length - m)))))
def Cf.Bd1 (C : Cf) (i : Nat) : Prop := ∀ (name qual : Str) (body : List Stmt) (scope : Scope) (cl : List (Str × Addr)) (c : Addr) (us : List Value), us.length = (C.D i).ps.length →
    (∀ doc pm ctv : Value, bindArgs (PySem.W.fnX name qual (C.D i).params body scope cl .none .none doc pm none (.ref c) ctv) ⟨us, []⟩ = pure ((C.D i).ps.zip us)) ∧ ∀ (e : Expr) (pm ctv : Value), bindArgs (PySem.W.kla_fn name qual (C.D i).params e scope cl pm (.ref c) ctv) ⟨us, []⟩ = pure ((C.D i).ps.zip us)
def Cf.Bd (C : Cf) (i : Nat) : Prop := ((C.D i).nst = true → C.Bd1 i) ∧ ((C.D i).nst = false → C.Bd0 i)
theorem nodup_inj {α β : Type} {f : α → β} : ∀ {l : List α}, (l.map f).Nodup → ∀ {x y : α}, x ∈ l → y ∈ l → f x = f y → x = y
  | [], _, _, _, h, _, _ => by cases h
  | a :: l, nd, x, y, hx, hy, e => by
    rw [List.map_cons, List.nodup_cons] at nd
    rcases List.mem_cons.mp hx with e1 | hx1
    · rcases List.mem_cons.mp hy with e2 | hy2
      · rw [e1, e2]
      · exact (nd.1 (List.mem_map.mpr ⟨y, hy2, by rw [← e1]; exact e.symm⟩)).elim
    · rcases List.mem_cons.mp hy with e2 | hy2
      · exact (nd.1 (List.mem_map.mpr ⟨x, hx1, by rw [← e2]; exact e⟩)).elim
      · exact nodup_inj nd.2 hx1 hy2 e
theorem mem_lookup {α β : Type} [BEq α] [LawfulBEq α] {l : List (α × β)} {a : α} {b : β} (h : l.lookup a = some b) : (a, b) ∈ l := by
  induction l with
  | nil => simp at h
  | cons q l ih =>
    obtain ⟨x, y⟩ := q
    rw [List.lookup_cons] at h
    cases e : a == x with
    | true =>
      rw [e] at h
      cases h
      cases eq_of_beq e
      exact List.mem_cons_self
    | false => rw [e] at h; exact List.mem_cons_of_mem _ (ih h)
theorem says_def {C : Cf} {K : PySem.W.Frag} (s : He.SaysD [] C.dds K) {i : Nat} (hi : i < C.n) (h0 : (C.D i).nst = false) : ∃ fd, FunD K (C.dd i).name (C.dd i).qual (C.dd i).params (C.dd i).body (C.dd i).scope ((C.dd i).dvs K) ((C.dd i).kws K) (He.fAd K (C.dd i).at_) fd := by
  refine He.SaysD.defs s (List.mem_map.mpr ⟨i, List.mem_filter.mpr ⟨List.mem_range.mpr hi, by simp [h0]⟩, rfl⟩)
section
variable {P : Program} {w : World} {K : PySem.W.Frag} {mg : Str → Option Value} {base : Heap} {C : Cf} {h : Heap}
theorem Cf.binds {i : Nat} (B : C.Bd i) (h0 : (C.D i).nst = false) (hd : (C.D i).dfl.all dvB = true) {fd : FuncData} {f : Addr} {kws : List (Str × V)} (F : FunD K (C.D i).name (C.D i).qual (C.D i).params (C.D i).body (C.D i).scope (((C.D i).dfl.map dvOf).map (He.Dv.v K)) kws f fd) :
    ∀ m, m ≤ (C.D i).ps.length → (C.D i).ps.length - m ≤ (C.D i).dfl.length → ∃ us dvs, Vals dvs us ∧ Binds K fd (C.D i).ps us ∧ ∀ φ ex H, RpL K φ ex H dvs ((C.D i).dfl.drop ((C.D i).dfl.length - ((C.D i).ps.length - m))) := by
  intro m h1 h2
  rcases B.2 h0 with ⟨e, hb⟩ | ⟨e, hb⟩
  · rw [e] at F ⊢
    exact ⟨[], [], .nil, FunD.bindsN F hb, fun φ ex H => by simpa using RpL.nil⟩
  · have e2 : ((C.D i).dfl.map dvOf).map (He.Dv.v K) = (C.D i).dfl.map fun d => (dvOf d).v K := by rw [List.map_map]; rfl
    rw [e2] at F
    have hl : ((C.D i).dfl.map fun d => (dvOf d).v K).length = (C.D i).dfl.length := List.length_map _
    obtain ⟨ds, q1, q2⟩ := FunD.binds1 (ps := (C.D i).ps) F m ((C.D i).dfl.length - ((C.D i).ps.length - m)) (fun z => e (List.map_eq_nil_iff.mp z)) (by rw [hl]; omega) fun T kV doc pm an cdv ct us its a b => hb m h1 h2 T kV doc pm an cdv ct us its a (by rw [b, hl])
    exact ⟨ds, _, q1, q2, fun φ ex H => RpL.drop _ (rp_dv hd)⟩
/-- the text, by what the head tells -/
theorem Cf.text (hc : C.chk = true) (hB : ∀ i, i < C.n → C.Bd i) (X : K.In h) (Gn : h.Ns mainGlobals mg) (s : He.SaysD [] C.dds K) (ok : C.okK K = true) :
    Text P w K mg C.M C.CI C.FO C.xi C.ds (fun i => He.fAd K (C.p i)) (fun c => He.ga K (C.c c)) (fun c => He.ga K (C.c c)) (C.TK K) (C.csK K) C.ndF C.D C.G C.xs C.n := by
  unfold Cf.chk at hc
  simp only [Bool.and_eq_true, List.all_eq_true, List.mem_range] at hc
  obtain ⟨c1, c2, c3⟩ := hc
  unfold Cf.okK at ok
  simp only [Bool.and_eq_true, List.all_eq_true] at ok
  obtain ⟨⟨⟨⟨⟨o1, o2⟩, o3⟩, o4⟩, o5⟩, o6⟩ := ok
  have cN : ∀ i, i < C.n → C.chkN i = true := fun i hi => by
    have := c1 i hi
    unfold Cf.chkD at this
    simp only [Bool.and_eq_true] at this
    exact this.1.1.1
  have cN0 : ∀ i, i < C.n → (C.D i).nst = false → scB (C.D i).N (C.D i).ps (C.D i).scope = true ∧ (C.D i).fr = [] ∧ (C.D i).lam = none ∧ ∀ k ∈ (C.D i).nd, k < C.n ∧ (C.D k).nst = true := fun i hi h0 => by
    have := cN i hi
    unfold Cf.chkN at this
    rw [h0, if_neg (by decide)] at this
    simp only [Bool.and_eq_true, List.all_eq_true, decide_eq_true_eq] at this
    exact ⟨this.1, by simpa using this.2.1, by simpa using this.2.2.1, this.2.2.2⟩
  have cN1 : ∀ i, i < C.n → (C.D i).nst = true → NdefX.nscB (C.D i).N (C.D i).ps (C.D i).fr (C.D i).scope = true ∧ (C.D i).nd = [] := fun i hi h0 => by
    have := cN i hi
    unfold Cf.chkN at this
    rw [h0, if_pos rfl] at this
    simp only [Bool.and_eq_true] at this
    exact ⟨this.1, by simpa using this.2⟩
  have cD : ∀ i, i < C.n → ((C.D i).N.all fun x => !strDbg x && !strCd x) = true ∧ (C.tr i).isSome = true ∧ (C.D i).dfl.all dvB = true := fun i hi => by
    have := c1 i hi
    unfold Cf.chkD at this
    simp only [Bool.and_eq_true] at this
    exact ⟨this.1.1.2, this.1.2, this.2⟩
  have hG : ∀ k x g, C.G k x = some g → C.chkG (x, g) = true ∧ C.okG K (x, g) = true := fun k x g e => by
    have m : (x, g) ∈ C.gl := by
      unfold Cf.G at e
      obtain ⟨q, hq, rfl⟩ := map_of e
      have hx := List.find?_some hq
      simp only [Bool.and_eq_true, decide_eq_true_eq] at hx
      have := List.mem_of_find?_eq_some hq
      rw [← hx.1]
      exact this
    exact ⟨c2 _ m, o1 _ m⟩
  refine ⟨⟨fun c f e => ?_, fun c m i e => ?_, fun c i e => ?_⟩, fun i hi h0 => scB_ok (cN0 i hi h0).1, fun i hi h1 => NdefX.nscope_by (cN1 i hi h1).1, fun i hi h0 => ⟨(cN0 i hi h0).2.1, (cN0 i hi h0).2.2.1⟩, fun i hi h1 => (cN1 i hi h1).2, fun i hi x hx => ?_, fun i hi => ?_, fun i hi => ⟨rfl, rfl⟩, fun i hi h0 => ?_, fun i hi h1 F is us hl => ?_, fun i => rfl, fun i hi k hk => ?_, fun k x i np dfl e hi => ?_, fun k x c np dfl e => ?_, fun k x d e => ?_, fun k x e => ?_, fun k x c e => ?_, fun c m fs e => ?_, fun k x c i f e => ?_, fun x l e => ?_, fun k x c m i np dfl e hi => ?_, fun c m i e hi => ?_⟩
  · have m : (c, f) ∈ C.fol := by simpa [Cf.FO] using (show C.FO c f = true from e)
    have := o2 _ m
    exact ⟨He.cls_ok this.1, He.noat_ok this.2⟩
  · have := o3 _ (mem_lookup (show C.ml.lookup (c, m) = some i from e))
    exact ⟨He.cls_ok this.1, methB_ok this.2⟩
  · exact mkB_ok (o4 _ (mem_lookup (show C.cil.lookup c = some i from e)))
  · have := List.all_eq_true.mp (cD i hi).1 x hx
    simp only [Bool.and_eq_true] at this
    exact ⟨strDbg_no this.1, by have := this.2; unfold strCd at this; simpa using this⟩
  · refine ⟨400, ?_⟩
    show C.tr i = some ((C.tr i).getD .pass)
    have := (cD i hi).2.1
    cases q : C.tr i with
    | none => rw [q] at this; cases this
    | some b => rfl
  · obtain ⟨fd, F⟩ := says_def s hi h0
    refine ⟨fd, _, _, F, fun hz => ?_, Cf.binds (hB i hi) h0 (cD i hi).2.2 F⟩
    obtain ⟨oc, od, dV, kV, doc, pm, an, cdv, ct, osl, rfl, lk, hcd, _, _⟩ := F.ex
    obtain ⟨c, rfl⟩ := He.codeIn_ref hcd
    have im : i ∈ C.mks := List.mem_filter.mpr ⟨List.mem_range.mpr hi, by
      cases e : (C.D i).nd with
      | nil => exact absurd e hz
      | cons a r => simp [h0, e]⟩
    have ec : He.codeOf K (C.p i) = c := He.codeOf_eq lk rfl
    unfold Cf.tabB at o6
    simp only [Bool.and_eq_true, decide_eq_true_eq] at o6
    refine ⟨c, (He.cT K (C.p i)).2, rfl, List.mem_map.mpr ⟨i, im, ?_⟩, List.mem_map.mpr ⟨i, im, rfl⟩, fun p hp e => ?_⟩
    · unfold He.cT
      rw [ec]
    · obtain ⟨j, jm, rfl⟩ := List.mem_map.mp hp
      have nd : ((C.mks.map fun i => He.cT K (C.p i)).map (·.2)).Nodup := o6.2
      rw [List.map_map] at nd
      have := nodup_inj nd jm im e
      rw [this]
  · obtain ⟨nm, ql, pr, bd, sc, cl, c⟩ := F
    have e : pr = (C.D i).params := is.params
    subst e
    exact (hB i hi).1 h1 nm ql bd sc cl c us hl
  · exact (cN0 i hi (by
      cases e : (C.D i).nst with
      | false => rfl
      | true => rw [(cN1 i hi e).2] at hk; cases hk)).2.2.2 k hk
  · obtain ⟨g1, g2⟩ := hG _ _ _ e
    simp only [Cf.chkG, Bool.and_eq_true, decide_eq_true_eq, Bool.not_eq_true'] at g1
    refine ⟨g1.1.1.1.1, ?_, g1.1.1.2, dEqL_eq _ _ g1.1.2, strDbg_no (by simpa using g1.2)⟩
    rw [placeB_ok g1.1.1.1.2]
    exact He.glo_ok X Gn g2
  · obtain ⟨g1, g2⟩ := hG _ _ _ e
    simp only [Cf.chkG, Bool.and_eq_true, decide_eq_true_eq] at g1
    refine ⟨?_, fun i hi _ => ?_, strDbg_no g1.2⟩
    · rw [g1.1.1]
      exact He.glo_ok X Gn g2
    · have q := g1.1.2
      rw [hi] at q
      simp only [Bool.and_eq_true, decide_eq_true_eq, Bool.not_eq_true'] at q
      exact ⟨q.1.1, q.1.2, dEqL_eq _ _ q.2⟩
  · obtain ⟨g1, g2⟩ := hG _ _ _ e
    simp only [Cf.okG] at g2
    split at g2
    · rename_i u hu
      exact ⟨⟨u, PySem.W.mg_of X Gn hu, conB_ok _ _ g2⟩, strDbg_no g1⟩
    · cases g2
  · obtain ⟨g1, g2⟩ := hG _ _ _ e
    exact He.free_ok X Gn g2
  · obtain ⟨g1, g2⟩ := hG _ _ _ e
    simp only [Cf.chkG, Bool.and_eq_true, decide_eq_true_eq] at g1
    simp only [Cf.okG, Bool.and_eq_true] at g2
    rw [g1.1]
    obtain ⟨c1, c⟩ := He.ba g2.2
    obtain ⟨c2, c⟩ := He.ba c
    obtain ⟨c3, c4⟩ := He.ba c
    exact ⟨He.glo_ok X Gn g2.1, ⟨c1, c2, of_decide_eq_true c3, of_decide_eq_true c4⟩, strDbg_no g1.2⟩
  · unfold Cf.xi at e
    split at e
    · exact (Option.some.inj e).symm
    · split at e
      · cases e
      · cases e
  · obtain ⟨g1, g2⟩ := hG _ _ _ e
    simp only [Cf.chkG] at g1
    simp only [Cf.okG] at g2
    cases hi : iniOf (C.D i).body with
    | none => rw [hi] at g1; cases g1
    | some z =>
      obtain ⟨bn, self, num, g⟩ := z
      rw [hi] at g1 g2
      simp only [Bool.and_eq_true, decide_eq_true_eq] at g1 g2
      obtain ⟨⟨rfl, h0⟩, hN, hp, hin, hcx, d0, db, ds, dn, ks, kn, hgl, hxl, hxf⟩ := g1
      obtain ⟨u0, u1, u2, u3, u4, u5, u6⟩ := g2
      obtain ⟨fd, F⟩ := says_def s hin h0
      have Bn := Cf.binds (hB i hin) h0 (cD i hin).2.2 F
      have S := scB_ok (cN0 i hin h0).1
      rw [hN, hp] at S
      refine ⟨by rw [hcx]; exact He.glo_ok X Gn u0, fun base => ⟨Cd.oexB_ok u2, He.eqO_ok u3, He.eqO_ok u4, u5, fd, [self, num], ?_, fun k => ?_⟩, strDbg_no d0, fun xs fs e2 => ?_⟩
      · obtain ⟨us, dvs, v, b, r⟩ := Bn (C.D i).ps.length (Nat.le_refl _) (by omega)
        have r0 := r [] [] (fun _ => none)
        rw [Nat.sub_self, Nat.sub_zero, List.drop_length] at r0
        cases r0
        cases v
        rw [hp] at b
        exact b
      · unfold iniOf at hi
        split at hi
        · rename_i bn' p1 m' p2 self' p3 msg j p4 p5 p6 self2 p7 f' p8 num' p9 p10 hb
          split at hi
          · rename_i hq
            obtain ⟨⟨rfl, rfl⟩, hl⟩ := hq
            cases hi
            have F2 : FunD K (C.D i).name (C.D i).qual (C.D i).params (C.D i).body (C.D i).scope (((C.D i).dfl.map dvOf).map (He.Dv.v K)) (He.DefD.kws K (C.dd i)) (He.fAd K (C.p i)) fd := F
            rw [hb] at F2
            exact Cd.init_ok F2 S (Cd.vecB_ok u6) (He.glo_ok X Gn u1) (strDbg_no db) (fun Y hY => glo_of (by rw [hY]; exact hgl)) (strDbg_no ds) (strDbg_no dn) (strCd_no ks) (strCd_no kn) hl (fun Y => sw_plain rfl _ _ _) (fun Y => sw_plain rfl _ _ _)
          · cases hi
        · cases hi
      · unfold Cf.xi at e2
        rw [if_neg (by simpa using hxl), hxf] at e2
        dsimp only at e2
        split at e2
        · cases e2
          exact ⟨_, rfl, rfl⟩
        · cases e2
  · have q := o5 _ (mem_lookup (show C.xsl.lookup x = some l from e))
    unfold Cf.okX at q
    obtain ⟨q1, q2⟩ := He.ba q
    have ex : ∀ v, xsB K C v l = true → (∃ cv : V, RelV cv v ∧ ∀ u, RelV cv u → u = v) ∧ ∀ c b, l.lookup c = some b → PySem.W.exmOne K (.ref (He.ga K (C.c c))) v = some b ∧ PySem.W.kitOne K (.ref (He.ga K (C.c c))) v = some b ∧ ExcC K (He.ga K (C.c c)) := fun v h => by
      obtain ⟨h1, h2⟩ := He.ba h
      refine ⟨clsVB_ok h1, fun c b hl => ?_⟩
      have z := List.all_eq_true.mp h2 _ (mem_lookup hl)
      obtain ⟨z1, z⟩ := He.ba z
      obtain ⟨z2, z3⟩ := He.ba z
      exact ⟨exOB_ok z1, exOB_ok z2, excCB_ok z3⟩
    split at q2
    · rename_i u hu
      exact ⟨u, ⟨strDbg_no q1, .inl (PySem.W.mg_of X Gn hu)⟩, ex u q2⟩
    · rename_i hu
      obtain ⟨q3, q4⟩ := He.ba q2
      split at q4
      · rename_i u hb
        exact ⟨u, ⟨strDbg_no q1, .inr ⟨PySem.W.mg_none_of X Gn hu, hb, of_decide_eq_true q3⟩⟩, ex u q4⟩
      · cases q4
    · cases q2
  · obtain ⟨g1, g2⟩ := hG _ _ _ e
    simp only [Cf.chkG, Bool.and_eq_true, decide_eq_true_eq, Bool.not_eq_true'] at g1
    exact ⟨g1.1.1, baseB_ok g2, g1.1.2, dEqL_eq _ _ g1.2⟩
  · have := c3 _ (mem_lookup (show C.ml.lookup (c, m) = some i from e))
    simpa using this
end
/-! ### the Hook -/
def noLst (g : Addr → Option Obj) (a : Addr) : Option Obj := match g a with
  | some o => match o.cls with
    | .type "list" => none
    | _ => if He.emptyTab o then none else some o
  | none => none
theorem noLst_of {g : Addr → Option Obj} {a : Addr} {o : Obj} (h : noLst g a = some o) : g a = some o ∧ o.cls ≠ .type "list" ∧ He.emptyTab o = false := by
  unfold noLst at h
  cases q : g a with
  | none => rw [q] at h; cases h
  | some u =>
    rw [q] at h
    dsimp only at h
    split at h
    · cases h
    · rename_i hne
      split at h
      · cases h
      · rename_i he
        cases h
        exact ⟨rfl, fun z => hne z, by simpa using he⟩
def frC (n : Nat) (g : Addr → Option Obj) : PySem.W.Frag := He.frG (noLst g) (He.asD g n ++ [cStatics])
def NoL (K : PySem.W.Frag) : Prop := ∀ a o, K.lookup a = some o → o.cls ≠ .type "list"
abbrev AlC : Type := He.AlD × Bool
def obsC (n : Nat) (C : Cf) (g : Addr → Option Obj) : AlC := (He.obsD [] C.dds (frC n g), C.okK (frC n g) && C.tabE g (frC n g))
/-- the code tables stand empty, apart from K -/
def TabO (C : Cf) (h : Heap) (K : PySem.W.Frag) : Prop := ∀ p ∈ C.csK K, K.lookup p.2 = none ∧ h.get? p.2 = some { cls := .none, data := .fields #[] }
theorem tabO_of {C : Cf} {h : Heap} {n : Nat} (e : C.tabE h.get? (frC n h.get?) = true) : TabO C h (frC n h.get?) := fun p hp => by
  have q := List.all_eq_true.mp e p hp
  cases ho : h.get? p.2 with
  | none => rw [ho] at q; cases q
  | some o =>
    rw [ho] at q
    have q : He.emptyTab o = true := q
    refine ⟨?_, by rw [He.emptyTab_eq q]⟩
    cases hl : (frC n h.get?).lookup p.2 with
    | none => rfl
    | some u =>
      obtain ⟨h1, _, h3⟩ := noLst_of (He.frG_at _ hl)
      rw [ho] at h1
      cases h1
      rw [q] at h3; cases h3
def hookC (n : Nat) (C : Cf) : PySem.W.Hook where
  α := AlC
  obs := fun s => obsC n C s.heap.get?
  val := fun _ => (He.valD C.dds, true)
  says := fun _ h => ∃ K : PySem.W.Frag, K.In h ∧ He.SaysD [] C.dds K ∧ C.okK K = true ∧ NoL K ∧ TabO C h K
  of := fun _ s e => ⟨frC n s.heap.get?, fun a o q => (noLst_of (He.frG_at _ q)).1, congrArg (fun z : AlC => z.1) e, (He.ba (congrArg (fun z : AlC => z.2) e)).1, fun a o q => (noLst_of (He.frG_at _ q)).2.1, tabO_of (He.ba (congrArg (fun z : AlC => z.2) e)).2⟩
  keeps := fun _ _ _ ⟨K, hK, c1, c2, c3, c4⟩ k => ⟨K, PySem.W.Frag.In.keeps hK k, c1, c2, c3, fun p hp => ⟨(c4 p hp).1, k _ _ (c4 p hp).2⟩⟩
theorem obsC_eq {n : Nat} {C : Cf} {g : Addr → Option Obj} {s : Shared} (h : ∀ a, g a = s.heap.get? a) : obsC n C g = (hookC n C).obs s := by
  have e : g = s.heap.get? := funext h
  rw [e] <;> rfl
def obC (n : Nat) (C : Cf) (s : PySem.W.SharedT) : AlC := obsC n C (HandSHeadRun.getT s)
theorem obC_eq (n : Nat) (C : Cf) (s : PySem.W.SharedT) : obC n C s = (hookC n C).obs s.abs := obsC_eq (HandSHeadRun.getT_eq s)
/-! ### the law -/
def spLaw (TT : List NdefX.NTab) : Sp := fun vs H Q _ => ∃ (a : Addr) (ns : List Int), vs = [.ref a] ∧ Rd H a (.lst (ns.map V.int)) ∧ ns.length ≤ 63 ∧ (∀ p ∈ TT, H p.1 = some (.tbl #[])) ∧ ∀ H', Q (.bl true) H'
theorem rd_of {K : PySem.W.Frag} {H : Hp} {a : Addr} {xs : List V} (N : NoL K) (h : SqL K H a xs) : Rd H a (.lst xs) := by
  rcases h with h | ⟨o, its, n, e, c, _⟩
  · exact h
  · exact absurd c (N _ _ e)
theorem rp_ints {K : PySem.W.Frag} {φ : Ph} {ex : List Addr} {H : Hp} : ∀ ns : List Int, RpL K φ ex H (ns.map V.int) (ns.map PyData.int)
  | [] => .nil
  | n :: ns => .cons (.int n) (rp_ints ns)
section
variable {P : Program} {w : World} {K : PySem.W.Frag} {mg : Str → Option Value} {C : Cf} {h : Heap}
/-- the law's def keeps the law, by the interpreter's answer -/
theorem Cf.law (hc : C.chk = true) (hB : ∀ i, i < C.n → C.Bd i) (X : K.In h) (Gn : h.Ns mainGlobals mg) (s : He.SaysD [] C.dds K) (ok : C.okK K = true) (l : Nat) (x : Str) (hl : l < C.n) (hp : (C.D l).ps = [x]) (hd : (C.D l).dfl = []) (hx : C.G C.n ("law" : Str) = some (.fn l 1 []))
    (pure : ∀ ns : List Int, ns.length ≤ 63 → ∃ t, C.Φ (l + 1) l [.d (.list (ns.map .int))] [] = .ok (.d (.bool true)) t) :
    mg ("law" : Str) = some (.ref (He.fAd K (C.p l))) ∧ ∃ fd : FuncData, (∀ (s : Shared) (v : Value), BindsTo s fd ⟨[v], []⟩ [(x, v)]) ∧ ∀ base : Heap, (∀ p ∈ C.csK K, LamX.TabB base mg p.1 p.2) → FnOk P w K mg base (L2.CX P w) (2 * l + 2) (He.fAd K (C.p l)) fd [x] (spLaw (C.TK K)) := by
  have T := Cf.text (P := P) (w := w) hc hB X Gn s ok
  have h0 := (T.fnF _ _ _ _ _ hx hl).1
  refine ⟨(T.fnF _ _ _ _ _ hx hl).2.1, ?_⟩
  obtain ⟨fd, dvs, kws, F, hmk, _⟩ := T.fun_ l hl h0
  obtain ⟨fd2, F2⟩ := says_def s hl h0
  have efd : fd2 = fd := by
    obtain ⟨oc, od, dV, kV, doc, pm, an, cdv, ct, osl, rfl, lk, _⟩ := F.ex
    obtain ⟨oc2, od2, dV2, kV2, doc2, pm2, an2, cdv2, ct2, osl2, rfl, lk2, _⟩ := F2.ex
    have := lk.symm.trans lk2
    cases this
    rfl
  subst efd
  refine ⟨fd2, fun st v => ?_, fun base gd => ?_⟩
  · rcases (hB l hl).2 h0 with ⟨_, hb⟩ | ⟨e, _⟩
    · have F' : FunD K (C.D l).name (C.D l).qual (C.D l).params (C.D l).body (C.D l).scope [] ((C.dd l).kws K) (He.fAd K (C.dd l).at_) fd2 := by
        have e : (C.dd l).dvs K = [] := by
          show ((C.D l).dfl.map dvOf).map (He.Dv.v K) = []
          rw [hd]; rfl
        rw [← e]; exact F2
      have := FunD.bindsA (ps := (C.D l).ps) F' hb st [v] (by rw [hp]; rfl)
      rw [hp] at this
      exact this
    · exact absurd hd e
  · have Fn := T.fn hl h0 (T.ok l (Nat.le_of_lt hl)) F hmk (base := base) (fm := ⟨base, [], [], default⟩) gd
    rw [hp] at Fn
    refine Fn.imp fun vs H Q E q => ?_
    obtain ⟨a, ns, rfl, hr, hn, hT, hQ⟩ := q
    obtain ⟨t, ht⟩ := pure ns hn
    refine ⟨rfl, [], [], [], [.d (.list (ns.map .int))], Sim.empty (fun q hq => by cases hq) (fun p hp => NdefX.TabN.nil (hT p hp)), .of (.cons (.d (.lst hr (fun z => ?_) (rp_ints ns))) .nil), ?_⟩
    · rcases z with z | z <;> simp at z
    · show RunsTo (C.Φ (l + 1) l _ _) _ _
      rw [ht]
      intro v φ' H' e S' rv
      cases rv with | d rv =>
      cases rv
      exact hQ H'
end
end Cc

set_option linter.all false
set_option maxRecDepth 100000
set_option maxHeartbeats 1000000
/-! Cc: the end of a law. -/
namespace Cc
open PySem PySem.Spec PyProof.Rows L2
theorem walk_c {l : PySem.W.OpenLaw} {C : Cf} {q : Program} {loose : List Str} {XP : (Str → Option Value) → Heap → Prop} {d : DefRec} {hk lx : Nat} {x : Str}
    (hn : l.most = some 63) (hdf : d.params.defaults = []) (hname : d.name = ("law" : Str)) (hr : Room (2 * lx + 2) callerA) (hc : C.chk = true) (hB : ∀ i, i < C.n → C.Bd i) (hl : lx < C.n) (hp : (C.D lx).ps = [x]) (hd : (C.D lx).dfl = []) (hx : C.G C.n ("law" : Str) = some (.fn lx 1 []))
    (pure : ∀ ns : List Int, ns.length ≤ 63 → ∃ t, C.Φ (lx + 1) lx [.d (.list (ns.map .int))] [] = .ok (.d (.bool true)) t) :
    PySem.W.WalkO q loose XP (hookC hk C).says l.row.toRowW d [] (fun f vs => PySem.call f vs) := by
  refine Att.attach_call hn hdf fun w s₀ s₁ mg mb fa o pm cd doc a vs ns G Y ho hd2 hcd hmg hobj hints hlen hg => ?_
  obtain ⟨K, KX, s, ok, NL, TO⟩ := Y
  obtain ⟨e, fd, hb, hF⟩ := Cf.law (P := l.prog) (w := w) hc hB KX G.T.g s ok lx x hl hp hd hx pure
  have ef : fa = He.fAd K (C.p lx) := by
    rw [hname, e] at hmg
    cases hmg
    rfl
  subst ef
  have tb : C.tabB K = true := by
    unfold Cf.okK at ok
    exact (Bool.and_eq_true_iff.mp ok).2
  unfold Cf.tabB at tb
  simp only [Bool.and_eq_true, List.all_eq_true] at tb
  exact LamX.law_callTs (cs := C.csK K) KX G.T.g G.T.b G.T.builtins G.T.nolimit hg (fun p hp => (TO p hp).2) (fun p hp => (TO p hp).1) (fun p hp => PySem.W.codeHd_of_K KX (tb.1 p hp)) G.T.bmain hobj hints (Nat.le_trans hlen (by decide)) hr (fun base _ _ gd => hF base gd) hb
    (fun H hH hS => ⟨a, ns, rfl, rd_of NL hS, hlen, fun p hp => by
      obtain ⟨i, hi, rfl⟩ := List.mem_map.mp hp
      exact hH _ (List.mem_map.mpr ⟨i, hi, rfl⟩), fun _ => rfl⟩) fun H e s' c => by
      obtain ⟨_, _, _, _, _, _, _, _, _, _, _, _, z⟩ := c
      exact z
end Cc

set_option linter.all false
set_option maxRecDepth 100000
set_option maxHeartbeats 1000000
/-! Cc: how the interpreter's runs are told. -/
namespace Cc
open PySem

def Ok {α : Type} (r : Res α) (Q : α → Store → Prop) : Prop := match r with
  | .ok a s => Q a s
  | _ => False
section
variable {α β : Type} {r : Res α} {f : α → Store → Res β} {Q : β → Store → Prop} {s : Store}
@[simp] theorem Ok_ok {a : α} {Q : α → Store → Prop} : Ok (.ok a s) Q ↔ Q a s := Iff.rfl
@[simp] theorem Ok_stuck {Q : α → Store → Prop} : Ok (.stuck : Res α) Q ↔ False := Iff.rfl
@[simp] theorem Ok_exc {x : Exn} {Q : α → Store → Prop} : Ok (.exc x s : Res α) Q ↔ False := Iff.rfl
theorem Ok_bind : Ok (r.bind f) Q ↔ Ok r fun a s => Ok (f a s) Q := by cases r <;> rfl
theorem Ok_of {o : Option α} {Q : α → Store → Prop} : Ok (Res.of o s) Q ↔ ∃ a, o = some a ∧ Q a s := by
  cases o with
  | none => simp
  | some a => simp
@[simp] theorem Ok_ite {c : Prop} [Decidable c] {r r' : Res α} {Q : α → Store → Prop} : Ok (if c then r else r') Q ↔ if c then Ok r Q else Ok r' Q := by split <;> rfl
theorem Ok.mono {Q Q' : α → Store → Prop} (h : Ok r Q) (i : ∀ a s, Q a s → Q' a s) : Ok r Q' := by
  cases r with
  | ok a s => exact i a s h
  | exc x s => exact h.elim
  | stuck => exact h.elim
theorem Ok.ex {Q : α → Store → Prop} (h : Ok r Q) : ∃ a s, r = .ok a s ∧ Q a s := by
  cases r with
  | ok a s => exact ⟨a, s, rfl, h⟩
  | exc x s => exact h.elim
  | stuck => exact h.elim
theorem Ok.of_eq {a : α} {Q : α → Store → Prop} (e : r = .ok a s) (h : Q a s) : Ok r Q := by rw [e]; exact h
end
theorem phi_at {C : Cf} {n i : Nat} (h : i < n) (ws : List W) (s : Store) : C.Φ n i ws s = runF (C.Φ i) C.M C.CI C.FO C.xi (C.ds i) ws s := by
  show table _ _ _ _ _ n i ws s = _
  rw [table_at h]
  rfl
/-- a def's run -/
theorem runF_ok {Φ : FT} {M : CTab} {CI : Nat → Option Nat} {FO : Nat → Str → Bool} {XI : Nat → List PyData → Option (List (Str × PyData))} {f : Def} {ws : List W} {s : Store} {Q : W → Store → Prop} (hl : ws.length = f.ps)
    (h : Ok (runS Φ M CI FO XI f.body (startE f.ns ws) s) fun p s => match p.1 with | .ret w => Q w s | .next => Q (.d .none) s | _ => False) : Ok (runF Φ M CI FO XI f ws s) Q := by
  unfold runF
  rw [if_pos hl]
  cases r : runS Φ M CI FO XI f.body (startE f.ns ws) s with
  | stuck => rw [r] at h; exact h
  | exc x t => rw [r] at h; exact h
  | ok p t =>
    rw [r] at h
    obtain ⟨f, e⟩ := p
    cases f <;> exact h
theorem Ok_forL {chk : Store → Bool} {gc : Bool} {n : Nat} {step : W → Env → Store → Res (Flow × Env)} {Q : Flow × Env → Store → Prop} (ws : List W) (I : Nat → Env → Store → Prop) (hc : ∀ i env s, I i env s → chk s = true)
    (hs : ∀ i w env s, ws[i]? = some w → I i env s → Ok (step w env s) fun p s => match p.1 with
      | .next => ∃ env' s', turnEnd gc n p.2 s = some (env', s') ∧ I (i + 1) env' s'
      | .cont => ∃ env' s', turnEnd gc n p.2 s = some (env', s') ∧ I (i + 1) env' s'
      | .brk => Q (.next, p.2) s
      | .ret w => Q (.ret w, p.2) s)
    (he : ∀ env s, I ws.length env s → Q (.next, env) s) : ∀ (env : Env) (s : Store), I 0 env s → Ok (forL chk gc n step ws env s) Q := by
  have key : ∀ (rest : List W) (i : Nat) (env : Env) (s : Store), ws.drop i = rest → i ≤ ws.length → I i env s → Ok (forL chk gc n step rest env s) Q := by
    intro rest
    induction rest with
    | nil =>
      intro i env s hd hi h
      have : i = ws.length := by
        have : ws.length ≤ i := by simpa using hd
        omega
      subst this
      simp only [forL, hc _ _ _ h, if_true]
      exact he _ _ h
    | cons w rest ih =>
      intro i env s hd hi h
      have hwi : ws[i]? = some w := by
        have : (ws.drop i)[0]? = some w := by rw [hd]; rfl
        simpa using this
      have hrest : ws.drop (i + 1) = rest := by
        have : (ws.drop i).drop 1 = rest := by rw [hd]; rfl
        rwa [List.drop_drop] at this
      have hlt : i < ws.length := (List.getElem?_eq_some_iff.mp hwi).1
      simp only [forL, hc _ _ _ h, if_true]
      have q := hs i w env s hwi h
      cases r : step w env s with
      | stuck => rw [r] at q; exact q.elim
      | exc x t => rw [r] at q; exact q.elim
      | ok p t =>
        rw [r] at q
        obtain ⟨f, env2⟩ := p
        cases f with
        | next =>
          obtain ⟨env', s', e, q⟩ := q
          dsimp only
          rw [e]
          exact ih (i + 1) env' s' hrest hlt q
        | cont =>
          obtain ⟨env', s', e, q⟩ := q
          dsimp only
          rw [e]
          exact ih (i + 1) env' s' hrest hlt q
        | brk => exact q
        | ret w => exact q
  exact fun env s h => key ws 0 env s rfl (Nat.zero_le _) h
/-- a comprehension that computes: over data, no cell made -/
theorem compL_pure {chk : Store → Bool} {n : Nat} {step : W → Store → Res (Option W)} {s : Store} (hc : chk s = true) (f : W → Option W) : ∀ (ws acc : List W), (∀ w ∈ ws, step w s = .ok (f w) s) → acc.length + ws.length ≤ sizeLine →
    compL chk false n step ws acc s = .ok (acc ++ ws.filterMap f) s
  | [], acc, _, _ => by simp [compL, hc]
  | w :: ws, acc, h, hl => by
    simp only [compL, hc, if_true, h w List.mem_cons_self, turnEnd, Bool.false_eq_true, if_false]
    simp only [List.length_cons] at hl
    cases e : f w with
    | none =>
      dsimp only
      rw [compL_pure hc f ws acc (fun w hw => h w (List.mem_cons_of_mem _ hw)) (by omega), List.filterMap_cons, e]
    | some x =>
      dsimp only
      rw [if_pos ⟨by omega, fun z => by cases z⟩, compL_pure hc f ws (acc ++ [x]) (fun w hw => h w (List.mem_cons_of_mem _ hw)) (by simp; omega), List.filterMap_cons, e]
      simp
@[simp] theorem get_nil (i : Nat) : get [] i = none := rfl
@[simp] theorem get_zn (e : Env) : get (none :: e) 0 = none := rfl
@[simp] theorem get_zd (x : PyData) (e : Env) : get (some (.d x) :: e) 0 = some (.d x) := rfl
@[simp] theorem get_zr (n : Nat) (e : Env) : get (some (.ref n) :: e) 0 = some (.ref n) := rfl
@[simp] theorem get_zt (ws : List W) (e : Env) : get (some (.tup ws) :: e) 0 = some (.tup ws) := rfl
@[simp] theorem get_zf (n : Nat) (e : Env) : get (some (.fn n) :: e) 0 = some (.fn n) := rfl
@[simp] theorem get_zp (x y : PyData) (e : Env) : get (some (.pr x y) :: e) 0 = some (.pr x y) := rfl
@[simp] theorem get_zk (x : List (PyData × PyData)) (e : Env) : get (some (.fd x) :: e) 0 = some (.fd x) := rfl
@[simp] theorem get_zc (k : Nat) (o : Option (List Nat)) (ws : List W) (e : Env) : get (some (.clo k o ws) :: e) 0 = none := rfl
theorem get_zero (w : W) (e : Env) (h : ∀ k o ws, w ≠ .clo k o ws) : get (some w :: e) 0 = some w := by
  cases w <;> first | rfl | exact absurd rfl (h _ _ _)
@[simp] theorem raw_nil (i : Nat) : raw [] i = none := rfl
@[simp] theorem raw_zero (w : Option W) (e : Env) : raw (w :: e) 0 = w := by cases w <;> rfl
@[simp] theorem raw_succ (w : Option W) (e : Env) (i : Nat) : raw (w :: e) (i + 1) = raw e i := rfl
@[simp] theorem get_succ (w : Option W) (e : Env) (i : Nat) : get (w :: e) (i + 1) = get e i := rfl
end Cc

set_option linter.all false
set_option maxRecDepth 100000
set_option maxHeartbeats 1000000
/-! Cc: rows for simp. -/
namespace Cc
open PySem
section
variable {Φ : FT} {M : CTab} {CI : Nat → Option Nat} {FO : Nat → Str → Bool} {XI : Nat → List PyData → Option (List (Str × PyData))} {env : Env} {s : Store} {a b c e o : Ex} {es : List Ex} {x y : PyData} {i : Nat}
@[simp] theorem runE_const : runE Φ M CI FO (.const x) env s = .ok (.d x) s := by simp only [runE]
@[simp] theorem runE_var : runE Φ M CI FO (.var i) env s = .of (get env i) s := by simp only [runE]
@[simp] theorem runE_bin {p : Bop} : runE Φ M CI FO (.bin p a b) env s = (runE Φ M CI FO a env s).bind fun x s => (runE Φ M CI FO b env s).bind fun y s => .of ((top s x).bind fun dx => (top s y).bind fun dy => (bopD p dx dy).map .d) s := by simp only [runE]; rfl
@[simp] theorem runE_neg : runE Φ M CI FO (.neg a) env s = (runE Φ M CI FO a env s).bind fun x s => .of ((top s x).bind fun dx => (Cc.neg dx).map .d) s := by simp only [runE]; rfl
@[simp] theorem runE_cmp {p : Cop} : runE Φ M CI FO (.cmp p a b) env s = (runE Φ M CI FO a env s).bind fun x s => (runE Φ M CI FO b env s).bind fun y s => .of ((cmpW p s x y).map fun b => .d (.bool b)) s := by simp only [runE]
@[simp] theorem runE_tup : runE Φ M CI FO (.tup es) env s = (runEs Φ M CI FO es env s).bind fun ws s => .of (mkTupW ws) s := by simp only [runE]
@[simp] theorem runE_lst {cell : Bool} : runE Φ M CI FO (.lst cell es) env s = (runEs Φ M CI FO es env s).bind fun ws s => newLst cell ws s := by simp only [runE]
@[simp] theorem runE_idx : runE Φ M CI FO (.idx a b) env s = (runE Φ M CI FO a env s).bind fun x s => (runE Φ M CI FO b env s).bind fun y s => .of (idxW s x y) s := by simp only [runE]
@[simp] theorem runE_slice {lo hi : Option Ex} : runE Φ M CI FO (.slice a lo hi) env s = (runE Φ M CI FO a env s).bind fun x s => (runO Φ M CI FO lo env s).bind fun l s => (runO Φ M CI FO hi env s).bind fun h s => .of ((top s x).bind fun dx => (cutD dx l h).map .d) s := by simp only [runE]; rfl
@[simp] theorem runE_rev : runE Φ M CI FO (.rev a) env s = (runE Φ M CI FO a env s).bind fun x s => .of ((top s x).bind fun d => (revD d).map .d) s := by simp only [runE]
@[simp] theorem runE_call {m : Cm} : runE Φ M CI FO (.call m i es) env s = (runEs Φ M CI FO es env s).bind fun ws s => callM m (Φ i) ws s := by simp only [runE]
@[simp] theorem runE_bf {f : Bf} : runE Φ M CI FO (.bf f es) env s = (runEs Φ M CI FO es env s).bind fun ws s => .of ((bfD s f ws).map .d) s := by simp only [runE]
@[simp] theorem runE_fld {f : Str} : runE Φ M CI FO (.fld o f) env s = (runE Φ M CI FO o env s).bind fun x s => .of (fldW FO s f x) s := by simp only [runE]
@[simp] theorem runE_lm {m : Lm} : runE Φ M CI FO (.lm m o es) env s = (runE Φ M CI FO o env s).bind fun x s => if lmOk s x then (runEs Φ M CI FO es env s).bind fun ws s => .of ((lmD s m x ws).map .d) s else .stuck := by simp only [runE]
@[simp] theorem runE_dlk : runE Φ M CI FO (.dlk a b) env s = (runE Φ M CI FO a env s).bind fun x s => match ((top s x).bind seqOf).bind prsS with
    | some ps => (runE Φ M CI FO b env s).bind fun y s => .of (dlkW ps y) s
    | none => .stuck := by
  simp only [runE] <;> rfl
@[simp] theorem runE_dlit {ks : List Str} : runE Φ M CI FO (.dlit ks es) env s = (runEs Φ M CI FO es env (s ++ [.dk []])).bind fun ws s2 => fillDk s.length ks ws s2 := by simp only [runE]
@[simp] theorem runE_tix {xs : List PyData} : runE Φ M CI FO (.tix xs b) env s = (runE Φ M CI FO b env s).bind fun y s => .of ((tixW xs y).map .d) s := by simp only [runE]
@[simp] theorem runE_callv {m : Cm} {l i : Nat} : runE Φ M CI FO (.callv m l i es) env s = match get env i with
    | some (.fn j) => if j < l then (runEs Φ M CI FO es env s).bind fun ws s => callM m (Φ j) ws s else .stuck
    | _ => .stuck := by
  simp only [runE] <;> rfl
@[simp] theorem runE_callc {m : Cm} {f l i : Nat} : runE Φ M CI FO (.callc m f l i es) env s = match (raw env i).bind (conv env f) with
    | some (.clo k none cs) => if k < l then (runEs Φ M CI FO es env s).bind fun ws s => callM m (Φ k) (ws ++ cs) s else .stuck
    | _ => .stuck := by
  simp only [runE] <;> rfl
@[simp] theorem runE_calla {m : Cm} {f i : Nat} : runE Φ M CI FO (.calla m f i es) env s = (runAs Φ M CI FO es env s).bind fun ws s => match convL env f ws with
    | some ws => callM m (Φ i) ws s
    | none => .stuck := by
  simp only [runE] <;> rfl
@[simp] theorem runE_metha {f : Nat} {m : Str} : runE Φ M CI FO (.metha f o m es) env s = (runE Φ M CI FO o env s).bind fun x s => match x with
      | .ref n => match s[n]? with
        | some (.ins c fs) => match fs.lookup m, M c m with
          | none, some i => (runAs Φ M CI FO es env s).bind fun ws s => match convL env f ws with
            | some ws => Φ i (.ref n :: ws) s
            | none => .stuck
          | _, _ => .stuck
        | _ => .stuck
      | _ => .stuck := by
  simp only [runE] <;> rfl
@[simp] theorem runAs_nil : runAs Φ M CI FO [] env s = .ok [] s := by simp only [runAs]
@[simp] theorem runAs_cons : runAs Φ M CI FO (e :: es) env s = (match argC env e with
    | some o => Res.of o s
    | none => runE Φ M CI FO e env s).bind fun w s => (runAs Φ M CI FO es env s).bind fun ws s => .ok (w :: ws) s := by simp only [runAs] <;> rfl
@[simp] theorem runE_gfn {i : Nat} : runE Φ M CI FO (.gfn i) env s = .ok (.fn i) s := by simp only [runE]
@[simp] theorem runE_cell : runE Φ M CI FO (.cell a) env s = (runE Φ M CI FO a env s).bind fun x s => toCell x s := by simp only [runE]
@[simp] theorem runE_frz : runE Φ M CI FO (.frz a) env s = (runE Φ M CI FO a env s).bind fun x s => doFrz x s := by simp only [runE]
@[simp] theorem runE_not : runE Φ M CI FO (.not a) env s = (runE Φ M CI FO a env s).bind fun x s => match x with
      | .d (.bool b) => .ok (.d (.bool !b)) s
      | _ => .stuck := by simp only [runE] <;> rfl
@[simp] theorem runE_and : runE Φ M CI FO (.and a b) env s = (runE Φ M CI FO a env s).bind fun x s => match x with
      | .d (.bool true) => runE Φ M CI FO b env s
      | .d (.bool false) => .ok (.d (.bool false)) s
      | _ => .stuck := by simp only [runE] <;> rfl
@[simp] theorem runE_or : runE Φ M CI FO (.or a b) env s = (runE Φ M CI FO a env s).bind fun x s => match x with
      | .d (.bool true) => .ok (.d (.bool true)) s
      | .d (.bool false) => runE Φ M CI FO b env s
      | _ => .stuck := by simp only [runE] <;> rfl
@[simp] theorem runE_ite {t : Bx} : runE Φ M CI FO (.ite t a b) env s = (runT Φ M CI FO t env s).bind fun k s => if k then runE Φ M CI FO a env s else runE Φ M CI FO b env s := by simp only [runE]
@[simp] theorem runE_mut {m : Mt} : runE Φ M CI FO (.mut m o es) env s = (runE Φ M CI FO o env s).bind fun x s => if isLstC s x then (runEs Φ M CI FO es env s).bind fun ws s => mutW m x ws s else .stuck := by simp only [runE]
@[simp] theorem runEs_nil : runEs Φ M CI FO [] env s = .ok [] s := by simp only [runEs]
@[simp] theorem runEs_cons : runEs Φ M CI FO (e :: es) env s = (runE Φ M CI FO e env s).bind fun w s => (runEs Φ M CI FO es env s).bind fun ws s => .ok (w :: ws) s := by simp only [runEs]
@[simp] theorem runO_none : runO Φ M CI FO none env s = .ok none s := by simp only [runO]
@[simp] theorem runO_some : runO Φ M CI FO (some e) env s = (runE Φ M CI FO e env s).bind fun w s => .of ((partW w).map some) s := by simp only [runO]
@[simp] theorem runC_none : runC Φ M CI FO none env s = .ok true s := by simp only [runC]
@[simp] theorem runC_some {t : Bx} : runC Φ M CI FO (some t) env s = runT Φ M CI FO t env s := by simp only [runC]
@[simp] theorem runT_tru : runT Φ M CI FO (.tru e) env s = (runE Φ M CI FO e env s).bind fun w s => .of (truW s w) s := by simp only [runT, truR]
@[simp] theorem runT_and {t u : Bx} : runT Φ M CI FO (.and t u) env s = (runT Φ M CI FO t env s).bind fun k s => if k then runT Φ M CI FO u env s else .ok false s := by simp only [runT]
@[simp] theorem runT_or {t u : Bx} : runT Φ M CI FO (.or t u) env s = (runT Φ M CI FO t env s).bind fun k s => if k then .ok true s else runT Φ M CI FO u env s := by simp only [runT]
@[simp] theorem runT_not {t : Bx} : runT Φ M CI FO (.not t) env s = (runT Φ M CI FO t env s).bind fun k s => .ok (!k) s := by simp only [runT]
@[simp] theorem assign_name {w : W} : assignT Φ M CI FO (.name i) w env s = .ok (env.set i (some w)) s := rfl
@[simp] theorem assign_sub {w : W} : assignT Φ M CI FO (.sub o a) w env s = (runE Φ M CI FO o env s).bind fun x s => (runE Φ M CI FO a env s).bind fun y s => (setIx x y w s).bind fun _ s => .ok env s := rfl
@[simp] theorem assign_fld {w : W} {f : Str} : assignT Φ M CI FO (.fld o f) w env s = (runE Φ M CI FO o env s).bind fun x s => (setFld FO x f w s).bind fun _ s => .ok env s := rfl
@[simp] theorem runS_pass : runS Φ M CI FO XI .pass env s = .ok (.next, env) s := by simp only [runS]
@[simp] theorem runS_brk : runS Φ M CI FO XI .brk env s = .ok (.brk, env) s := by simp only [runS]
@[simp] theorem runS_cont : runS Φ M CI FO XI .cont env s = .ok (.cont, env) s := by simp only [runS]
def seqK (Φ : FT) (M : CTab) (CI : Nat → Option Nat) (FO : Nat → Str → Bool) (XI : Nat → List PyData → Option (List (Str × PyData))) (b : Sx) : Flow × Env → Store → Res (Flow × Env)
  | (.next, env), s => runS Φ M CI FO XI b env s
  | p, s => .ok p s
@[simp] theorem seqK_next {t : Sx} : seqK Φ M CI FO XI t (.next, env) s = runS Φ M CI FO XI t env s := rfl
@[simp] theorem seqK_brk {t : Sx} : seqK Φ M CI FO XI t (.brk, env) s = .ok (.brk, env) s := rfl
@[simp] theorem seqK_cont {t : Sx} : seqK Φ M CI FO XI t (.cont, env) s = .ok (.cont, env) s := rfl
@[simp] theorem seqK_ret {t : Sx} {w : W} : seqK Φ M CI FO XI t (.ret w, env) s = .ok (.ret w, env) s := rfl
@[simp] theorem runS_seq {t u : Sx} : runS Φ M CI FO XI (.seq t u) env s = (runS Φ M CI FO XI t env s).bind (seqK Φ M CI FO XI u) := by
  simp only [runS]
  congr 1
  funext p s
  obtain ⟨f, e⟩ := p
  cases f <;> rfl
@[simp] theorem runS_assign {t : Tx} : runS Φ M CI FO XI (.assign t e) env s = (runE Φ M CI FO e env s).bind fun w s => (assignT Φ M CI FO t w env s).bind fun env s => .ok (.next, env) s := by simp only [runS]
@[simp] theorem runS_ndef {i k : Nat} {js : List Nat} : runS Φ M CI FO XI (.ndef i k js) env s = .ok (.next, env.set i (some (.clo k (some js) []))) s := by simp only [runS]
@[simp] theorem runS_expr : runS Φ M CI FO XI (.expr e) env s = (runE Φ M CI FO e env s).bind fun _ s => .ok (.next, env) s := by simp only [runS]
@[simp] theorem runS_ret : runS Φ M CI FO XI (.ret e) env s = (runE Φ M CI FO e env s).bind fun w s => .ok (.ret w, env) s := by simp only [runS]
@[simp] theorem runS_ite {t : Bx} {u v : Sx} : runS Φ M CI FO XI (.ite t u v) env s = (runT Φ M CI FO t env s).bind fun k s => if k then runS Φ M CI FO XI u env s else runS Φ M CI FO XI v env s := by simp only [runS]
@[simp] theorem runS_for {gc : Bool} {tg : List Nat} {one : Bool} {walk : Wk} {its : List Ex} {body : Sx} : runS Φ M CI FO XI (.for gc tg one walk its body) env s = (runEs Φ M CI FO its env s).bind fun ws s => match walkW walk ws s with
    | some (ws, g) => forL (still g s) gc s.length (fun w env s => match bindN tg one w env with
        | some env => runS Φ M CI FO XI body env s
        | none => .stuck) ws env s
    | none => .stuck := by
  simp only [runS] <;> rfl
end
@[simp] theorem top_d {s : Store} {x : PyData} : top s (.d x) = some x := rfl
@[simp] theorem bop_add {i j : Int} : bopD .add (.int i) (.int j) = some (.int (i + j)) := rfl
@[simp] theorem bop_addL {x y : List PyData} : bopD .add (.list x) (.list y) = if x.length + y.length ≤ sizeLine then some (.list (x ++ y)) else none := rfl
@[simp] theorem bop_addT {x y : List PyData} : bopD .add (.tuple x) (.tuple y) = if x.length + y.length ≤ sizeLine then some (.tuple (x ++ y)) else none := rfl
@[simp] theorem bop_addS {x y : Str} : bopD .add (.str x) (.str y) = if x.length + y.length ≤ sizeLine then some (.str (x ++ y)) else none := rfl
@[simp] theorem bop_sub {i j : Int} : bopD .sub (.int i) (.int j) = some (.int (i - j)) := rfl
@[simp] theorem bop_mul {i j : Int} : bopD .mul (.int i) (.int j) = if mulOk i j then some (.int (i * j)) else none := rfl
@[simp] theorem bop_mulS {x : Str} {j : Int} : bopD .mul (.str x) (.int j) = if j = 1 then some (.str x) else if j = 0 then some (.str ⟨#[]⟩) else if 1 < j ∧ j ≤ 1000 ∧ 0 < x.length ∧ x.length ≤ 1000 then some (.str (repS x j.toNat)) else none := rfl
@[simp] theorem bop_mulT {xs : List PyData} {j : Int} : bopD .mul (.tuple xs) (.int j) = if j = 1 then some (.tuple xs) else if j = 0 ∧ xs.isEmpty = false then some (.tuple []) else if j = 2 ∧ xs.isEmpty = false ∧ xs.length * 2 ≤ sizeLine then some (.tuple (xs ++ xs)) else none := rfl
@[simp] theorem bop_fdiv {i j : Int} : bopD .fdiv (.int i) (.int j) = if 0 < j ∧ j.natAbs.log2 < 9000 then some (.int (i / j)) else none := rfl
@[simp] theorem bop_mod {i j : Int} : bopD .mod (.int i) (.int j) = if 0 < j then some (.int (i % j)) else none := rfl
@[simp] theorem bop_pow {i j : Int} : bopD .pow (.int i) (.int j) = if 0 ≤ j ∧ j ≤ 1000000 ∧ i.natAbs < 2 ^ 64 then some (.int (i ^ j.toNat)) else none := rfl
@[simp] theorem neg_int {i : Int} : Cc.neg (.int i) = some (.int (-i)) := rfl
@[simp] theorem cmpW_eq {s : Store} {x y : PyData} : cmpW .eq s (.d x) (.d y) = eqD x y := rfl
@[simp] theorem cmpW_ne {s : Store} {x y : PyData} : cmpW .ne s (.d x) (.d y) = (eqD x y).map (!·) := rfl
@[simp] theorem cmpW_lt {s : Store} {i j : Int} : cmpW .lt s (.d (.int i)) (.d (.int j)) = some (decide (i < j)) := rfl
@[simp] theorem cmpW_le {s : Store} {i j : Int} : cmpW .le s (.d (.int i)) (.d (.int j)) = some (decide (i ≤ j)) := rfl
@[simp] theorem cmpW_gt {s : Store} {i j : Int} : cmpW .gt s (.d (.int i)) (.d (.int j)) = some (decide (j < i)) := rfl
@[simp] theorem cmpW_ge {s : Store} {i j : Int} : cmpW .ge s (.d (.int i)) (.d (.int j)) = some (decide (j ≤ i)) := rfl
@[simp] theorem cmpW_is {s : Store} {x y : W} : cmpW .is_ s x y = isW s x y := rfl
@[simp] theorem cmpW_isnot {s : Store} {x y : W} : cmpW .isnot s x y = (isW s x y).map (!·) := rfl
theorem int_eqv {i j : Int} : PyData.eqv (.int i) (.int j) = decide (i = j) := by
  simp only [PyData.eqv]
  rfl
@[simp] theorem eqD_int {i j : Int} : eqD (.int i) (.int j) = some (decide (i = j)) := by
  simp [eqD, scP, int_eqv]
@[simp] theorem eqD_str {i j : Str} : eqD (.str i) (.str j) = some (decide (i = j)) := by
  have e : PyData.eqv (.str i) (.str j) = decide (i = j) := by
    simp only [PyData.eqv]
    by_cases h : i = j
    · subst h; simp
    · simp [h]
  simp [eqD, scP, e]
@[simp] theorem truW_bool {s : Store} {b : Bool} : truW s (.d (.bool b)) = some b := rfl
@[simp] theorem truW_int {s : Store} {i : Int} : truW s (.d (.int i)) = some (i != 0) := rfl
@[simp] theorem partW_int {i : Int} : partW (.d (.int i)) = some i := rfl
section
variable {s : Store} {k : Nat} {xs : List PyData} {i : Int}
theorem idx_cell (h : s[k]? = some (.lst xs)) : idxW s (.ref k) (.d (.int i)) = (L2.atI xs i).map .d := by
  simp only [idxW]
  rw [h]
theorem top_cell (h : s[k]? = some (.lst xs)) : top s (.ref k) = some (.list xs) := by
  simp only [top]
  rw [h]
theorem set_cell {j : Nat} {x : PyData} (h : s[k]? = some (.lst xs)) (hj : L2.ixN xs.length i = some j) : setIx (.ref k) (.d (.int i)) (.d x) s = .ok () (s.set k (.lst (xs.set j x))) := by
  simp only [setIx]
  rw [h]
  dsimp only
  rw [hj]
theorem set_at {c : Cell} (h : s[k]? = some (.lst xs)) : (s.set k c)[k]? = some c := List.getElem?_set_self (List.getElem?_eq_some_iff.mp h).1
theorem pop_cell {j : Nat} {x : PyData} (h : s[k]? = some (.lst xs)) (hz : xs.length ≤ sizeLine) (hj : L2.ixN xs.length i = some j) (hx : xs[j]? = some x) : mutW .popAt (.ref k) [.d (.int i)] s = .ok (.d x) (s.set k (.lst (xs.eraseIdx j))) := by
  simp only [mutW, chg]
  rw [h, Option.bind_some]
  simp only [popAtC]
  rw [if_pos hz, hj, Option.bind_some, hx]
  rfl
@[simp] theorem atI_0 {α : Type} {x : α} {r : List α} : L2.atI (x :: r) 0 = some x := by
  simp [L2.atI, L2.ixN]
@[simp] theorem atI_1 {α : Type} {x y : α} {r : List α} : L2.atI (x :: y :: r) 1 = some y := by
  have h : (1 : Int) < ((x :: y :: r).length : Nat) := by simp; omega
  simp only [L2.atI, L2.ixN]
  rw [if_pos (by omega), if_pos h]
  rfl
@[simp] theorem atI_2 {α : Type} {x y z : α} {r : List α} : L2.atI (x :: y :: z :: r) 2 = some z := by
  have h : (2 : Int) < ((x :: y :: z :: r).length : Nat) := by simp; omega
  simp only [L2.atI, L2.ixN]
  rw [if_pos (by omega), if_pos h]
  rfl
@[simp] theorem atI_3 {α : Type} {x y z u : α} {r : List α} : L2.atI (x :: y :: z :: u :: r) 3 = some u := by
  have h : (3 : Int) < ((x :: y :: z :: u :: r).length : Nat) := by simp; omega
  simp only [L2.atI, L2.ixN]
  rw [if_pos (by omega), if_pos h]
  rfl
end
/-- what a run of a body ends in -/
def retQ (Q : W → Store → Prop) : Flow × Env → Store → Prop := fun p s => match p.1 with | .ret w => Q w s | .next => Q (.d .none) s | _ => False
@[simp] theorem retQ_ret {Q : W → Store → Prop} {w : W} {e : Env} {s : Store} : retQ Q (.ret w, e) s ↔ Q w s := Iff.rfl
@[simp] theorem retQ_next {Q : W → Store → Prop} {e : Env} {s : Store} : retQ Q (.next, e) s ↔ Q (.d .none) s := Iff.rfl
theorem phi_ok {C : Cf} {n i ps ns : Nat} {b : Sx} {ws : List W} {s : Store} {Q : W → Store → Prop} (h : i < n) (hd : C.ds i = ⟨ps, ns, b⟩) (hl : ws.length = ps) (hr : Ok (runS (C.Φ i) C.M C.CI C.FO C.xi b (startE ns ws) s) (retQ Q)) : Ok (C.Φ n i ws s) Q := by
  rw [phi_at h, hd]
  exact runF_ok hl hr
theorem set_cell' {s : Store} {k : Nat} {xs : List PyData} {i : Int} {x : PyData} (h : s[k]? = some (.lst xs)) : setIx (.ref k) (.d (.int i)) (.d x) s = match L2.ixN xs.length i with
    | some j => .ok () (s.set k (.lst (xs.set j x)))
    | none => .stuck := by
  simp only [setIx]
  rw [h]
  dsimp only
  cases L2.ixN xs.length i <;> rfl
theorem idx_set {s : Store} {k : Nat} {c : Cell} (h : s[k]? = some c) (xs : List PyData) (i : Int) : idxW (s.set k (.lst xs)) (.ref k) (.d (.int i)) = (L2.atI xs i).map .d :=
  idx_cell (List.getElem?_set_self (List.getElem?_eq_some_iff.mp h).1)
theorem set_set {s : Store} {k : Nat} {c : Cell} (h : s[k]? = some c) (xs : List PyData) (i : Int) (x : PyData) : setIx (.ref k) (.d (.int i)) (.d x) (s.set k (.lst xs)) = match L2.ixN xs.length i with
    | some j => .ok () (s.set k (.lst (xs.set j x)))
    | none => .stuck := by
  rw [set_cell' (List.getElem?_set_self (List.getElem?_eq_some_iff.mp h).1)]
  simp only [List.set_set]
theorem top_set {s : Store} {k : Nat} {c : Cell} (h : s[k]? = some c) (xs : List PyData) : top (s.set k (.lst xs)) (.ref k) = some (.list xs) := top_cell (List.getElem?_set_self (List.getElem?_eq_some_iff.mp h).1)
@[simp] theorem ix20 : L2.ixN 2 0 = some 0 := rfl
@[simp] theorem ix21 : L2.ixN 2 1 = some 1 := rfl
/-- a product that the machine's line allows -/
theorem mulOk_r {i j : Int} (h1 : -18446744073709551616 < j) (h2 : j < 18446744073709551616) : mulOk i j = true := by
  unfold mulOk
  rw [mulB_of h1 h2]
  simp
theorem mulOk_l {i j : Int} (h1 : -18446744073709551616 < i) (h2 : i < 18446744073709551616) : mulOk i j = true := by
  unfold mulOk
  rw [mulB_of h1 h2]
  simp
@[simp] theorem cutX_map {α β : Type} (f : α → β) (xs : List α) (lo hi : Option Int) : cutX (xs.map f) lo hi = (cutX xs lo hi).map f := by simp [cutX]
theorem cutX_len {α : Type} (xs : List α) (lo hi : Option Int) : (cutX xs lo hi).length ≤ xs.length := by
  simp only [cutX, List.length_take, List.length_drop]
  omega
theorem cutX_pre {α : Type} (xs : List α) (k : Nat) : cutX xs none (some (k : Int)) = xs.take k := by
  simp only [cutX, HT.sIx]
  rw [if_neg (by omega)]
  simp only [List.drop_zero, Nat.sub_zero, Int.toNat_natCast]
  rcases Nat.le_total k xs.length with h | h
  · rw [Nat.min_eq_left h]
  · rw [Nat.min_eq_right h, List.take_of_length_le h, List.take_of_length_le (Nat.le_refl _)]
@[simp] theorem intsOf_map (l : List Int) : intsOf (l.map PyData.int) = some l := by
  induction l with
  | nil => rfl
  | cons x l ih => simp [intsOf, ih]
@[simp] theorem boolsOf_map (l : List Bool) : boolsOf (l.map PyData.bool) = some l := by
  induction l with
  | nil => rfl
  | cons x l ih => simp [boolsOf, ih]
@[simp] theorem strsOf_map (l : List Str) : strsOf (l.map PyData.str) = some l := by
  induction l with
  | nil => rfl
  | cons x l ih => simp [strsOf, ih]
@[simp] theorem still_none {s0 s : Store} : still none s0 s = true := rfl
section
variable {F : List W → Store → Res W} {k : Nat} {ws : List W} {s : Store} {x : PyData} {Q : W → Store → Prop}
@[simp] theorem allPure_ref : allPure (.ref k :: ws) = none := by
  simp only [allPure]
@[simp] theorem allPure_d : allPure (.d x :: ws) = (allPure ws).map (x :: ·) := allPure_cons_d x ws
@[simp] theorem callM_frz_ref : callM .frz F (.ref k :: ws) s = F (.ref k :: ws) s := by
  simp only [callM, allPure_ref]
@[simp] theorem callM_keep_ref : callM .keep F (.ref k :: ws) s = F (.ref k :: ws) s := by
  simp only [callM, allPure_ref]
theorem frz_ok {xs : List PyData} (hp : allPure ws = some xs) (h : Ok (F ws []) fun w t => ∃ x, frzW t w = some x ∧ Q (.d x) s) : Ok (callM .frz F ws s) Q := by
  simp only [callM, hp]
  cases r : F ws [] with
  | stuck => rw [r] at h; exact h
  | exc x t => rw [r] at h; exact h
  | ok w t =>
    rw [r] at h
    obtain ⟨x, e, q⟩ := h
    dsimp only
    rw [e]
    exact q
theorem frz_eq {xs : List PyData} (hp : allPure ws = some xs) {w : W} {t : Store} (h : F ws [] = .ok w t) (he : frzW t w = some x) : callM .frz F ws s = .ok (.d x) s := by
  simp only [callM, hp, h, he]
theorem keep_eq {xs : List PyData} (hp : allPure ws = some xs) {w : W} {t : Store} (h : F ws [] = .ok w t) : callM .keep F ws s = .ok (w.shift s.length) (s ++ t.map (Cell.shift s.length)) := by
  simp only [callM, hp, h]
@[simp] theorem frzW_d : frzW s (.d x) = some x := by simp only [frzW]
@[simp] theorem shift_ref {n : Nat} : W.shift k (.ref n) = .ref (n + k) := by simp only [W.shift]
@[simp] theorem shift_d : W.shift k (.d x) = .d x := by simp only [W.shift]
@[simp] theorem cshift_lst {xs : List PyData} : Cell.shift k (.lst xs) = .lst xs := rfl
@[simp] theorem lo_d {n : Nat} : W.lo n (.d x) = true := by simp only [W.lo]
@[simp] theorem lo_ref {n : Nat} : W.lo n (.ref k) = decide (k < n) := by simp only [W.lo]
@[simp] theorem clo_lst {n : Nat} {xs : List PyData} : Cell.lo n (.lst xs) = true := rfl
@[simp] theorem drop_none {n : Nat} : dropRef n none = none := rfl
@[simp] theorem drop_d {n : Nat} : dropRef n (some (.d x)) = some (.d x) := by simp [dropRef]
@[simp] theorem drop_ref {n : Nat} : dropRef n (some (.ref k)) = if k < n then some (.ref k) else none := by
  simp only [dropRef, lo_ref]
  by_cases h : k < n <;> simp [h]
end
section
variable {Φ : FT} {M : CTab} {CI : Nat → Option Nat} {FO : Nat → Str → Bool} {XI : Nat → List PyData → Option (List (Str × PyData))} {env : Env} {s : Store} {a b c e o : Ex} {es : List Ex} {i : Nat}
@[simp] theorem runE_make {c : Nat} : runE Φ M CI FO (.make c es) env s = (runEs Φ M CI FO es env s).bind fun ws s => match CI c with
      | some i => (Φ i (.ref s.length :: ws) (s ++ [.ins c []])).bind fun w s' => match w with
        | .d .none => .ok (.ref s.length) s'
        | _ => .stuck
      | none => .stuck := by
  simp only [runE] <;> rfl
@[simp] theorem runE_meth {m : Str} : runE Φ M CI FO (.meth o m es) env s = (runE Φ M CI FO o env s).bind fun x s => match x with
      | .ref n => match s[n]? with
        | some (.ins c fs) => match fs.lookup m, M c m with
          | none, some i => (runEs Φ M CI FO es env s).bind fun ws s => Φ i (.ref n :: ws) s
          | _, _ => .stuck
        | _ => .stuck
      | _ => .stuck := by
  simp only [runE] <;> rfl
@[simp] theorem runE_comp {own tg : List Nat} {cell gc one : Bool} {walk : Wk} {its : List Ex} {c : Option Bx} : runE Φ M CI FO (.comp own cell gc tg one walk its c e) env s = (runEs Φ M CI FO its env s).bind fun ws s => match walkW walk ws s with
      | some (ws, g) => (compL (still g s) gc s.length (fun w s => match bindN tg one w (wipeE env own) with
          | some env => (runC Φ M CI FO c env s).bind fun k s => if k then (runE Φ M CI FO e env s).bind fun x s => .ok (some x) s else .ok none s
          | none => .stuck) ws [] s).bind fun ws s => compEnd cell ws s
      | none => .stuck := by
  simp only [runE] <;> rfl
@[simp] theorem runE_bm {m : Bm} : runE Φ M CI FO (.bm m o es) env s = (runE Φ M CI FO o env s).bind fun x s => if bmOk x then (runEs Φ M CI FO es env s).bind fun ws s => .of ((bmD s m x ws).map .d) s else .stuck := by
  simp only [runE]
end
@[simp] theorem isW_none {s : Store} {w : W} : isW s w (.d .none) = someW s w := by
  unfold isW
  rfl
@[simp] theorem isW_bool {s : Store} {a b : Bool} : isW s (.d (.bool a)) (.d (.bool b)) = some (decide (a = b)) := rfl
@[simp] theorem someW_none {s : Store} : someW s (.d .none) = some true := rfl
@[simp] theorem someW_int {s : Store} {i : Int} : someW s (.d (.int i)) = some false := rfl
@[simp] theorem someW_str {s : Store} {i : Str} : someW s (.d (.str i)) = some false := rfl
@[simp] theorem someW_tup {s : Store} {i : List PyData} : someW s (.d (.tuple i)) = some false := rfl
@[simp] theorem someW_list {s : Store} {i : List PyData} : someW s (.d (.list i)) = some false := rfl
@[simp] theorem someW_bool {s : Store} {i : Bool} : someW s (.d (.bool i)) = some false := rfl
@[simp] theorem eqD_none : eqD .none .none = some true := by simp [eqD, scP, PyData.eqv]
@[simp] theorem eqD_none_int {i : Int} : eqD .none (.int i) = some false := by simp [eqD, scP, PyData.eqv]
@[simp] theorem eqD_int_none {i : Int} : eqD (.int i) .none = some false := by simp [eqD, scP, PyData.eqv]
@[simp] theorem eqD_none_str {i : Str} : eqD .none (.str i) = some false := by simp [eqD, scP, PyData.eqv]
@[simp] theorem eqD_str_none {i : Str} : eqD (.str i) .none = some false := by simp [eqD, scP, PyData.eqv]
@[simp] theorem eqD_bool {i j : Bool} : eqD (.bool i) (.bool j) = some (decide (i = j)) := by
  cases i <;> cases j <;> simp [eqD, scP, PyData.eqv]
theorem eqD_refl {x : PyData} (h : SeqAt.shaped x = true) : eqD x x = some true := by
  have h2 := SeqAt.canLay_of_shaped h
  have h3 := SeqAt.eqv_refl x h2
  unfold eqD
  rw [h3]
  split
  · rfl
  · rw [h, h2]; rfl
@[simp] theorem walk_seq {w : W} {s : Store} : walkW .seq [w] s = wSeq s w := by simp only [walkW]
@[simp] theorem walk_rng1 {w : W} {s : Store} : walkW .rng1 [w] s = wRng1 w := by simp only [walkW]
@[simp] theorem walk_rng2 {w u : W} {s : Store} : walkW .rng2 [w, u] s = wRng2 w u := by simp only [walkW]
@[simp] theorem walk_enum {w : W} {s : Store} : walkW .enum [w] s = wEnum s w := by simp only [walkW]
/-- the numbers from i on, n of them -/
def rngW (i : Int) (n : Nat) : List W := (List.range n).map fun (k : Nat) => .d (.int (i + (k : Nat)))
theorem rng1_nat {n : Nat} (h : n < 4611686018427387904) : wRng1 (.d (.int (n : Nat))) = some (rngW 0 n, none) := by
  unfold wRng1
  dsimp only
  rw [if_pos (rngB_of (by omega) (by omega))]
  rfl
theorem rng1_int {i : Int} (h0 : 0 ≤ i) (h : i < 4611686018427387904) : wRng1 (.d (.int i)) = some (rngW 0 i.toNat, none) := by
  unfold wRng1
  dsimp only
  rw [if_pos (rngB_of (by omega) h)]
  rfl
theorem rng2_int {i j : Int} (h1 : -4611686018427387904 ≤ i) (h2 : i < 4611686018427387904) (h3 : -4611686018427387904 ≤ j) (h4 : j < 4611686018427387904) : wRng2 (.d (.int i)) (.d (.int j)) = some (rngW i (j - i).toNat, none) := by
  unfold wRng2
  dsimp only
  rw [if_pos (by rw [rngB_of h1 h2, rngB_of h3 h4]; rfl)]
  rfl
theorem rngW_at {i : Int} {n k : Nat} {w : W} (h : (rngW i n)[k]? = some w) : k < n ∧ w = .d (.int (i + (k : Nat))) := by
  unfold rngW at h
  rw [List.getElem?_map] at h
  obtain ⟨q, hq, rfl⟩ := map_of h
  have hk : k < n := by have := (List.getElem?_eq_some_iff.mp hq).1; simpa using this
  rw [List.getElem?_range hk] at hq
  cases hq
  exact ⟨hk, rfl⟩
@[simp] theorem rngW_len {i : Int} {n : Nat} : (rngW i n).length = n := by simp [rngW]
@[simp] theorem wSeq_d {x : PyData} {s : Store} : wSeq s (.d x) = (items s (.d x)).map (·, none) := rfl
@[simp] theorem wSeq_tup {x : List W} {s : Store} : wSeq s (.tup x) = some (x, none) := rfl
@[simp] theorem items_list {x : List PyData} {s : Store} : items s (.d (.list x)) = some (x.map .d) := rfl
@[simp] theorem items_tuple {x : List PyData} {s : Store} : items s (.d (.tuple x)) = some (x.map .d) := rfl
@[simp] theorem bind_one {i : Nat} {w : W} {env : Env} : bindN [i] true w env = some (env.set i (some w)) := rfl
/-- a comprehension whose turns compute -/
theorem comp_run {α : Type} {xs : List α} {s : Store} {step : W → Store → Res (Option W)} (g : α → W) (f : α → Option PyData) {chk : Store → Bool} (hg : chk s = true) {n : Nat} : ∀ (xs : List α) (acc : List W), (∀ x ∈ xs, step (g x) s = .ok ((f x).map .d) s) → acc.length + xs.length ≤ 16777216 →
    compL chk false n step (xs.map g) acc s = .ok (acc ++ (xs.filterMap f).map .d) s := by
  intro xs
  induction xs with
  | nil => intro acc _ _; simp [compL, hg]
  | cons x xs ih =>
    intro acc h hl
    simp only [List.map_cons, compL, hg, if_true, h x List.mem_cons_self, turnEnd, Bool.false_eq_true, if_false]
    simp only [List.length_cons] at hl
    have z : sizeLine = 16777216 := rfl
    cases e : f x with
    | none =>
      dsimp only [Option.map]
      rw [ih acc (fun w hw => h w (List.mem_cons_of_mem _ hw)) (by omega), List.filterMap_cons, e]
    | some y =>
      dsimp only [Option.map]
      rw [if_pos ⟨by omega, fun z => by cases z⟩, ih (acc ++ [W.d y]) (fun w hw => h w (List.mem_cons_of_mem _ hw)) (by simp; omega), List.filterMap_cons, e]
      simp
theorem comp_ok {α : Type} {xs : List α} {s : Store} {step : W → Store → Res (Option W)} {cell : Bool} {Q : W → Store → Prop} (g : α → W) (f : α → Option PyData) {chk : Store → Bool} (hg : chk s = true) {n : Nat} (hs : ∀ x ∈ xs, step (g x) s = .ok ((f x).map .d) s) (hl : xs.length ≤ 16777216)
    (hq : if cell then Q (.ref s.length) (s ++ [.lst (xs.filterMap f)]) else Q (.d (.list (xs.filterMap f))) s) : Ok (compL chk false n step (xs.map g) [] s) fun a s => Ok (compEnd cell a s) Q := by
  rw [comp_run (xs := xs) g f hg xs [] hs (by simpa using hl)]
  simp only [List.nil_append, Ok_ok, compEnd, allPure_map]
  cases cell <;> simpa using hq
theorem atI_nat {α : Type} {xs : List α} {i : Nat} {x : α} (h : xs[i]? = some x) : L2.atI xs (i : Nat) = some x := by
  have hi := (List.getElem?_eq_some_iff.mp h).1
  unfold L2.atI L2.ixN
  rw [if_pos (by omega), if_pos (by omega)]
  simp [h]
@[simp] theorem atI_map {α β : Type} {xs : List α} {i : Int} {f : α → β} : L2.atI (xs.map f) i = (L2.atI xs i).map f := by
  unfold L2.atI
  rw [List.length_map]
  cases L2.ixN xs.length i <;> simp
@[simp] theorem idx_list {s : Store} {xs : List PyData} {i : Int} : idxW s (.d (.list xs)) (.d (.int i)) = (L2.atI xs i).map .d := rfl
@[simp] theorem idx_tuple {s : Store} {xs : List PyData} {i : Int} : idxW s (.d (.tuple xs)) (.d (.int i)) = (L2.atI xs i).map .d := rfl
/-- the last item -/
theorem atI_last {α : Type} {xs : List α} {x : α} : L2.atI (xs ++ [x]) (-1) = some x := by
  unfold L2.atI L2.ixN
  rw [if_neg (by omega), if_pos (by simp; omega)]
  have e : (-1 + ((xs.length : Int) + 1)).toNat = xs.length := by omega
  simp [e]
end Cc

set_option linter.all false
set_option maxRecDepth 100000
set_option maxHeartbeats 4000000
/-! Cc: draws; more loops. -/
namespace Cc
open PySem hiding Env listOf
def drawB : Sx := Sx.ret (Ex.lst true [Ex.bin (Bop.mul) (Ex.bin (Bop.fdiv) (Ex.var 0) (Ex.const (PyData.int 2))) (Ex.bin (Bop.sub) (Ex.const (PyData.int 1)) (Ex.bin (Bop.mod) (Ex.var 0) (Ex.const (PyData.int 2)))), Ex.var 0])
def nextB : Sx := Sx.seq
  (Sx.assign (Tx.sub (Ex.var 0) (Ex.const (PyData.int 1))) (Ex.bin (Bop.mod) (Ex.bin (Bop.add) (Ex.bin (Bop.mul) (Ex.idx (Ex.var 0) (Ex.const (PyData.int 1))) (Ex.const (PyData.int 48271))) (Ex.const (PyData.int 11))) (Ex.const (PyData.int 2147483647))))
  (Sx.seq
    (Sx.ite
      (Bx.tru (Ex.cmp (Cop.gt) (Ex.idx (Ex.var 0) (Ex.const (PyData.int 0))) (Ex.const (PyData.int 0))))
      (Sx.seq (Sx.assign (Tx.name 3) (Ex.bin (Bop.mod) (Ex.idx (Ex.var 0) (Ex.const (PyData.int 0))) (Ex.var 1))) (Sx.seq (Sx.assign (Tx.sub (Ex.var 0) (Ex.const (PyData.int 0))) (Ex.bin (Bop.fdiv) (Ex.idx (Ex.var 0) (Ex.const (PyData.int 0))) (Ex.var 1))) (Sx.ret (Ex.var 3))))
      (Sx.pass))
    (Sx.seq
      (Sx.assign (Tx.name 2) (Ex.bin (Bop.mod) (Ex.bin (Bop.mul) (Ex.idx (Ex.var 0) (Ex.const (PyData.int 1))) (Ex.bin (Bop.add) (Ex.bin (Bop.fdiv) (Ex.idx (Ex.var 0) (Ex.const (PyData.int 1))) (Ex.const (PyData.int 1009))) (Ex.const (PyData.int 69621)))) (Ex.const (PyData.int 2147483647))))
      (Sx.ret (Ex.bin (Bop.mod) (Ex.bin (Bop.mod) (Ex.bin (Bop.mul) (Ex.var 2) (Ex.bin (Bop.add) (Ex.bin (Bop.fdiv) (Ex.var 2) (Ex.const (PyData.int 757))) (Ex.const (PyData.int 16807)))) (Ex.const (PyData.int 2147483629))) (Ex.var 1)))))

/-- a number below z was drawn, the drawing cell is another -/
def Dr (k : Nat) (z : Int) (s : Store) : W → Store → Prop := fun w s' => ∃ a' b' v, w = .d (.int v) ∧ s' = s.set k (.lst [.int a', .int b']) ∧ 0 ≤ v ∧ v < z
theorem next_gen {C : Cf} {i : Nat} (hd : C.ds i = ⟨2, 4, nextB⟩) {n : Nat} (hn : i < n) {k : Nat} {a b z : Int} {s : Store} (hk : s[k]? = some (.lst [.int a, .int b])) (hz : 0 < z) (hz2 : z.natAbs.log2 < 9000) :
    Ok (C.Φ n i [.ref k, .d (.int z)] s) (Dr k z s) := by
  refine phi_ok hn hd rfl ?_
  unfold nextB
  have m1 : ∀ i : Int, mulOk i 48271 = true := fun i => mulOk_r (by decide) (by decide)
  have m2 : ∀ i j : Int, mulOk (i % 2147483647) j = true := fun i j => mulOk_l (by omega) (by omega)
  have l1 : Nat.log2 1009 < 9000 := by decide
  have l2 : Nat.log2 757 < 9000 := by decide
  simp [startE, Ok_bind, idx_cell hk, m1, m2, set_cell' hk, idx_set hk, set_set hk, l1, l2, hz, hz2]
  split <;> exact ⟨_, _, _, rfl, rfl, Int.emod_nonneg _ (by omega), Int.emod_lt_of_pos _ hz⟩
theorem draw_gen {C : Cf} {i : Nat} (hd : C.ds i = ⟨1, 1, drawB⟩) {n : Nat} (hn : i < n) (c : Int) : C.Φ n i [.d (.int c)] [] = .ok (.ref 0) [.lst [.int (c / 2 * (1 - c % 2)), .int c]] := by
  have m : mulOk (c / 2) (1 - c % 2) = true := mulOk_r (by omega) (by omega)
  have l : Nat.log2 2 < 9000 := by decide
  have h : Ok (C.Φ n i [.d (.int c)] []) fun w s => w = .ref 0 ∧ s = [.lst [.int (c / 2 * (1 - c % 2)), .int c]] := by
    refine phi_ok hn hd rfl ?_
    unfold drawB
    simp [startE, Ok_bind, m, l, newLst, sizeLine]
  obtain ⟨w, s, e, rfl, rfl⟩ := h.ex
  exact e
/-- a new drawing cell behind the store's -/
theorem keep_draw {C : Cf} {i : Nat} (hd : C.ds i = ⟨1, 1, drawB⟩) {n : Nat} (hn : i < n) (c : Int) (s : Store) : callM .keep (C.Φ n i) [.d (.int c)] s = .ok (.ref s.length) (s ++ [.lst [.int (c / 2 * (1 - c % 2)), .int c]]) := by
  rw [keep_eq (ws := [.d (.int c)]) (xs := [.int c]) (by simp) (draw_gen hd hn c)]
  simp
/-- what is drawn from a row of items -/
theorem pick {α : Type} {xs : List α} {v : Int} (h0 : 0 ≤ v) (h : v < xs.length) : ∃ x, x ∈ xs ∧ L2.atI xs v = some x := by
  have hv : v.toNat < xs.length := by omega
  refine ⟨xs[v.toNat], List.getElem_mem hv, ?_⟩
  unfold L2.atI L2.ixN
  rw [if_pos h0, if_pos h]
  simp [List.getElem?_eq_getElem hv]
/-- a loop that looks for the first of its kind -/
theorem Ok_find {α : Type} {chk : Store → Bool} {n : Nat} {step : W → Env → Store → Res (Flow × Env)} {Q : Flow × Env → Store → Prop} (xs : List α) (g : α → W) (p : α → Bool) (h : α → W) (J : Env → Prop) (s : Store) (hc : chk s = true)
    (hs : ∀ x ∈ xs, ∀ env, J env → Ok (step (g x) env s) fun r s' => s' = s ∧ if p x then r.1 = .ret (h x) else r.1 = .next ∧ J r.2)
    (hr : ∀ x env, xs.find? p = some x → Q (.ret (h x), env) s) (hno : xs.find? p = none → ∀ env, J env → Q (.next, env) s) : ∀ env, J env → Ok (forL chk false n step (xs.map g) env s) Q := by
  induction xs with
  | nil =>
    intro env hJ
    simp only [List.map_nil, forL, hc, if_true]
    exact hno rfl env hJ
  | cons x xs ih =>
    intro env hJ
    simp only [List.map_cons, forL, hc, if_true]
    have q := hs x List.mem_cons_self env hJ
    cases r : step (g x) env s with
    | stuck => rw [r] at q; exact q.elim
    | exc x t => rw [r] at q; exact q.elim
    | ok f t =>
      rw [r] at q
      obtain ⟨f, e⟩ := f
      obtain ⟨rfl, q⟩ := q
      cases hp : p x with
      | true =>
        rw [hp, if_pos rfl] at q
        have : f = .ret (h x) := q
        subst this
        exact hr x e (by simp [hp])
      | false =>
        rw [hp, if_neg (by decide)] at q
        obtain ⟨q1, q2⟩ := q
        have : f = .next := q1
        subst this
        simp only [turnEnd, Bool.false_eq_true, if_false]
        exact ih (fun y hy => hs y (List.mem_cons_of_mem _ hy)) (fun y env hf => hr y env (by rw [List.find?_cons, hp]; exact hf)) (fun hf => hno (by rw [List.find?_cons, hp]; exact hf)) e q2
/-- a loop in whose turns all is well -/
theorem Ok_all {α : Type} {chk : Store → Bool} {n : Nat} {step : W → Env → Store → Res (Flow × Env)} {Q : Flow × Env → Store → Prop} (xs : List α) (g : α → W) (J : Env → Prop) (s : Store) (hc : chk s = true)
    (hs : ∀ x ∈ xs, ∀ env, J env → Ok (step (g x) env s) fun r s' => s' = s ∧ r.1 = .next ∧ J r.2)
    (hno : ∀ env, J env → Q (.next, env) s) : ∀ env, J env → Ok (forL chk false n step (xs.map g) env s) Q :=
  Ok_find xs g (fun _ => false) (fun _ => .d .none) J s hc (fun x hx env hJ => (hs x hx env hJ).mono fun r s' q => ⟨q.1, by simpa using q.2⟩) (fun x env hf => by
    have := List.find?_some hf
    cases this) fun _ => hno
theorem Ok_compL {chk : Store → Bool} {n : Nat} {step : W → Store → Res (Option W)} {Q : List W → Store → Prop} (ws : List W) (I : Nat → List W → Store → Prop) (hc : ∀ i acc s, I i acc s → chk s = true)
    (hs : ∀ i w acc s, ws[i]? = some w → I i acc s → Ok (step w s) fun o s' => match o with
      | some x => acc.length < 16777216 ∧ I (i + 1) (acc ++ [x]) s'
      | none => I (i + 1) acc s')
    (he : ∀ acc s, I ws.length acc s → Q acc s) : ∀ (s : Store), I 0 [] s → Ok (compL chk false n step ws [] s) Q := by
  have key : ∀ (rest : List W) (i : Nat) (acc : List W) (s : Store), ws.drop i = rest → i ≤ ws.length → I i acc s → Ok (compL chk false n step rest acc s) Q := by
    intro rest
    induction rest with
    | nil =>
      intro i acc s hd hi h
      have : i = ws.length := by
        have : ws.length ≤ i := by simpa using hd
        omega
      subst this
      simp only [compL, hc _ _ _ h, if_true]
      exact he _ _ h
    | cons w rest ih =>
      intro i acc s hd hi h
      have hwi : ws[i]? = some w := by
        have : (ws.drop i)[0]? = some w := by rw [hd]; rfl
        simpa using this
      have hrest : ws.drop (i + 1) = rest := by
        have : (ws.drop i).drop 1 = rest := by rw [hd]; rfl
        rwa [List.drop_drop] at this
      have hlt : i < ws.length := (List.getElem?_eq_some_iff.mp hwi).1
      simp only [compL, hc _ _ _ h, if_true]
      have q := hs i w acc s hwi h
      cases r : step w s with
      | stuck => rw [r] at q; exact q.elim
      | exc x t => rw [r] at q; exact q.elim
      | ok o t =>
        rw [r] at q
        simp only [turnEnd, Bool.false_eq_true, if_false]
        cases o with
        | none => exact ih (i + 1) acc t hrest hlt q
        | some x =>
          dsimp only
          rw [if_pos ⟨q.1, fun z => by cases z⟩]
          exact ih (i + 1) (acc ++ [x]) t hrest hlt q.2
  exact fun s h => key ws 0 [] s rfl (Nat.zero_le _) h
end Cc

set_option linter.all false
set_option maxRecDepth 100000
set_option maxHeartbeats 1000000
/-! Cc: texts and rows of texts, compared. -/
namespace Cc
open PySem hiding Env listOf
/-- a text of signs that there are -/
abbrev SOk (x : Str) : Prop := PyData.canLay0 (.str x) = true
theorem shaped_str {x : Str} (h : SOk x) : SeqAt.shaped (.str x) = true := by
  unfold SeqAt.shaped
  rw [h, show PyData.depth (.str x) = 0 from by simp only [PyData.depth]]
  rfl
theorem layAll {f : PyData → Prop} : ∀ {xs : List PyData}, (∀ x ∈ xs, x.canLay0 = true) → PyData.canLayAll0 xs = true
  | [], _ => by simp only [PyData.canLayAll0]
  | x :: xs, h => by
    simp only [PyData.canLayAll0, Bool.and_eq_true]
    exact ⟨h x List.mem_cons_self, layAll (f := f) fun y hy => h y (List.mem_cons_of_mem _ hy)⟩
theorem lay_of {x : PyData} : ∀ {xs : List PyData}, PyData.canLayAll0 xs = true → x ∈ xs → x.canLay0 = true
  | [], _, h => by simp at h
  | y :: ys, h, hx => by
    simp only [PyData.canLayAll0, Bool.and_eq_true] at h
    rcases List.mem_cons.mp hx with rfl | hx
    · exact h.1
    · exact lay_of h.2 hx
theorem layAll_strs {xs : List Str} (h : ∀ x ∈ xs, SOk x) : PyData.canLayAll0 (xs.map .str) = true := layAll (f := fun _ => True) fun y hy => by
  obtain ⟨x, hx, rfl⟩ := List.mem_map.mp hy
  exact h x hx
theorem str_eqv {x y : Str} : PyData.eqv (.str x) (.str y) = decide (x = y) := by
  have := eqD_str (i := x) (j := y)
  unfold eqD at this
  rw [if_pos (by rfl)] at this
  exact Option.some.inj this
theorem eqvAll_strs : ∀ (xs ys : List Str), PyData.eqvAll (xs.map .str) (ys.map .str) = decide (xs = ys)
  | [], [] => by simp [PyData.eqvAll]
  | [], y :: ys => by simp [PyData.eqvAll]
  | x :: xs, [] => by simp [PyData.eqvAll]
  | x :: xs, y :: ys => by
    simp only [List.map_cons, PyData.eqvAll, str_eqv, eqvAll_strs xs ys]
    by_cases h1 : x = y <;> by_cases h2 : xs = ys <;> simp [h1, h2]
theorem depth_strs : ∀ xs : List Str, PyData.depthAll (xs.map .str) = 0
  | [] => by simp [PyData.depthAll]
  | x :: xs => by simp [PyData.depthAll, PyData.depth, depth_strs xs]
theorem eqD_strs {xs ys : List Str} (hx : ∀ x ∈ xs, SOk x) (hy : ∀ x ∈ ys, SOk x) : eqD (.tuple (xs.map .str)) (.tuple (ys.map .str)) = some (decide (xs = ys)) := by
  have h1 : PyData.canLay0 (.tuple (xs.map .str)) = true := by simp only [PyData.canLay0]; exact layAll_strs hx
  have h2 : PyData.canLay0 (.tuple (ys.map .str)) = true := by simp only [PyData.canLay0]; exact layAll_strs hy
  have h3 : SeqAt.shaped (.tuple (xs.map .str)) = true := by
    unfold SeqAt.shaped
    rw [h1, show PyData.depth (.tuple (xs.map .str)) = PyData.depthAll (xs.map .str) + 1 from by simp only [PyData.depth], depth_strs]
    rfl
  unfold eqD
  rw [if_neg (by simp [scP]), h3, h2, if_pos (by decide)]
  simp only [PyData.eqv, eqvAll_strs]
theorem eqD_str3 {a b c x y z : Str} (ha : SOk a) (hb : SOk b) (hc : SOk c) (hx : SOk x) (hy : SOk y) (hz : SOk z) : eqD (.tuple [.str a, .str b, .str c]) (.tuple [.str x, .str y, .str z]) = some (decide (a = x) && (decide (b = y) && decide (c = z))) := by
  have := eqD_strs (xs := [a, b, c]) (ys := [x, y, z]) (fun u hu => by simp only [List.mem_cons, List.not_mem_nil, or_false] at hu; rcases hu with rfl | rfl | rfl <;> assumption) (fun u hu => by simp only [List.mem_cons, List.not_mem_nil, or_false] at hu; rcases hu with rfl | rfl | rfl <;> assumption)
  simp only [List.map_cons, List.map_nil] at this
  rw [this]
  by_cases h1 : a = x <;> by_cases h2 : b = y <;> by_cases h3 : c = z <;> simp [h1, h2, h3]
theorem any_strs (xs : List Str) (x : Str) : ((xs.map PyData.str).any fun z => PyData.eqv z (.str x)) = decide (x ∈ xs) := by
  induction xs with
  | nil => simp
  | cons y xs ih =>
    simp only [List.map_cons, List.any_cons, ih, str_eqv]
    by_cases h : y = x
    · simp [h]
    · have h' : ¬ x = y := fun e => h e.symm
      by_cases h2 : x ∈ xs <;> simp [h, h', h2]
theorem inD_list {xs : List Str} {x : Str} (h : SOk x) (hx : ∀ y ∈ xs, SOk y) : inD (.str x) (.list (xs.map .str)) = some (decide (x ∈ xs)) := by
  unfold inD
  dsimp only
  rw [shaped_str h, layAll_strs hx]
  simp only [Bool.and_self, if_true, any_strs]
theorem inD_tuple {xs : List Str} {x : Str} (h : SOk x) (hx : ∀ y ∈ xs, SOk y) : inD (.str x) (.tuple (xs.map .str)) = some (decide (x ∈ xs)) := by
  unfold inD
  dsimp only
  rw [shaped_str h, layAll_strs hx]
  simp only [Bool.and_self, if_true, any_strs]
@[simp] theorem cmpW_in {s : Store} {x y : PyData} : cmpW .isin s (.d x) (.d y) = inD x y := rfl
@[simp] theorem cmpW_notin {s : Store} {x y : PyData} : cmpW .notin s (.d x) (.d y) = (inD x y).map (!·) := rfl
/-- a list against the empty one -/
theorem eqD_nil {xs : List PyData} (h : SeqAt.shaped (.list xs) = true) : eqD (.list xs) (.list []) = some xs.isEmpty := by
  unfold eqD
  rw [if_neg (by simp [scP]), h]
  have e : PyData.canLay0 (.list []) = true := by simp [PyData.canLay0, PyData.canLayAll0]
  rw [e, if_pos (by decide)]
  cases xs <;> simp [PyData.eqv, PyData.eqvAll]
theorem shaped_list {xs : List PyData} (h : ∀ x ∈ xs, x.canLay0 = true ∧ x.depth ≤ 63) : SeqAt.shaped (.list xs) = true := by
  have h1 : PyData.canLay0 (.list xs) = true := by simp only [PyData.canLay0]; exact layAll (f := fun _ => True) fun x hx => (h x hx).1
  have h2 : PyData.depthAll xs ≤ 63 := by
    clear h1
    induction xs with
    | nil => simp [PyData.depthAll]
    | cons x xs ih =>
      simp only [PyData.depthAll]
      exact Nat.max_le.mpr ⟨(h x List.mem_cons_self).2, ih fun y hy => h y (List.mem_cons_of_mem _ hy)⟩
  unfold SeqAt.shaped
  rw [h1, show PyData.depth (.list xs) = PyData.depthAll xs + 1 from by simp only [PyData.depth]]
  simp
  omega
mutual
theorem dEq_refl : ∀ d : PyData, d.canLay0 = true → dEq d d = true
  | .none, _ => by simp [dEq]
  | .bool b, _ => by simp [dEq]
  | .int i, _ => by simp [dEq]
  | .str x, _ => by simp [dEq]
  | .list xs, h => by
    rw [dEq]
    exact dEqL_refl xs (by simpa only [PyData.canLay0] using h)
  | .tuple xs, h => by
    rw [dEq]
    exact dEqL_refl xs (by simpa only [PyData.canLay0] using h)
  | .dict _, h => by simp [PyData.canLay0] at h
theorem dEqL_refl : ∀ xs : List PyData, PyData.canLayAll0 xs = true → dEqL xs xs = true
  | [], _ => by simp [dEqL]
  | x :: xs, h => by
    simp only [PyData.canLayAll0, Bool.and_eq_true] at h
    rw [dEqL, dEq_refl x h.1, dEqL_refl xs h.2]
    rfl
end
theorem still_cell {s0 s : Store} {k : Nat} {xs : List PyData} (h0 : s0[k]? = some (.lst xs)) (h : s[k]? = some (.lst xs)) (hl : PyData.canLayAll0 xs = true) : still (some k) s0 s = true := by
  unfold still
  dsimp only
  rw [h0, h]
  exact dEqL_refl xs hl
theorem wSeq_cell {s : Store} {k : Nat} {xs : List PyData} (h : s[k]? = some (.lst xs)) : wSeq s (.ref k) = some (xs.map .d, some k) := by
  unfold wSeq
  dsimp only
  unfold items
  dsimp only
  rw [h]
  rfl
theorem cutX_mid {α : Type} (xs : List α) (i j : Nat) : (cutX xs (some (i : Int)) (some (j : Int))).length ≤ j - i := by
  simp only [cutX, HT.sIx]
  rw [if_neg (by omega), if_neg (by omega)]
  simp only [List.length_take, List.length_drop, Int.toNat_natCast]
  omega
section
variable {Φ : FT} {M : CTab} {CI : Nat → Option Nat} {FO : Nat → Str → Bool} {XI : Nat → List PyData → Option (List (Str × PyData))} {env : Env} {s : Store} {e : Ex}
@[simp] theorem runS_unpack {ts : List Tx} : runS Φ M CI FO XI (.unpack ts e) env s = (runE Φ M CI FO e env s).bind fun w s => match parts w with
    | some ws => if ws.length = ts.length then (assignTs Φ M CI FO ts ws env s).bind fun env s => .ok (.next, env) s else .stuck
    | none => .stuck := by
  simp only [runS] <;> rfl
@[simp] theorem assignTs_nil : assignTs Φ M CI FO [] [] env s = .ok env s := by simp only [assignTs]
@[simp] theorem assignTs_cons {t : Tx} {ts : List Tx} {w : W} {ws : List W} : assignTs Φ M CI FO (t :: ts) (w :: ws) env s = (assignT Φ M CI FO t w env s).bind fun env s => assignTs Φ M CI FO ts ws env s := by simp only [assignTs]
@[simp] theorem parts_tuple {xs : List PyData} : parts (.d (.tuple xs)) = some (xs.map .d) := rfl
@[simp] theorem parts_tup {xs : List W} : parts (.tup xs) = some xs := rfl
end
end Cc

set_option linter.all false
set_option maxRecDepth 100000
set_option maxHeartbeats 4000000
/-! Cc: cells of a script, digits. -/
namespace Cc
open PySem hiding Env listOf
theorem callf_gen {C : Cf} {n i : Nat} {ws : List W} {xs : List PyData} {s : Store} {y : PyData} (hp : allPure ws = some xs) (h : Ok (C.Φ n i ws []) fun w _ => w = .d y) : callM .frz (C.Φ n i) ws s = .ok (.d y) s := by
  obtain ⟨w, t, e, rfl⟩ := h.ex
  exact frz_eq hp e (by simp)
theorem callfL_gen {C : Cf} {n i : Nat} {ws : List W} {xs : List PyData} {s : Store} {y : List PyData} (hp : allPure ws = some xs) (h : Ok (C.Φ n i ws []) fun w t => w = .ref 0 ∧ t = [.lst y]) : callM .frz (C.Φ n i) ws s = .ok (.d (.list y)) s := by
  obtain ⟨w, t, e, rfl, rfl⟩ := h.ex
  exact frz_eq hp e (by simp [frzW])
/-- with what is told of the result -/
theorem callf_ex {C : Cf} {n i : Nat} {ws : List W} {xs : List PyData} {P : PyData → Prop} (hp : allPure ws = some xs) (h : Ok (C.Φ n i ws []) fun w t => ∃ y, frzW t w = some y ∧ P y) : ∃ y, P y ∧ ∀ s, callM .frz (C.Φ n i) ws s = .ok (.d y) s := by
  obtain ⟨w, t, e, y, hy, hP⟩ := h.ex
  exact ⟨y, hP, fun s => frz_eq hp e hy⟩
/-- a loop without dropped cells -/
theorem Ok_for0 {chk : Store → Bool} {n : Nat} {step : W → Env → Store → Res (Flow × Env)} {Q : Flow × Env → Store → Prop} (ws : List W) (I : Nat → Env → Store → Prop) (hc : ∀ i env s, I i env s → chk s = true)
    (hs : ∀ i w env s, ws[i]? = some w → I i env s → Ok (step w env s) fun p s => match p.1 with
      | .next => I (i + 1) p.2 s
      | .cont => I (i + 1) p.2 s
      | .brk => Q (.next, p.2) s
      | .ret w => Q (.ret w, p.2) s)
    (he : ∀ env s, I ws.length env s → Q (.next, env) s) (env : Env) (s : Store) (h : I 0 env s) : Ok (forL chk false n step ws env s) Q :=
  Ok_forL ws I hc (fun i w env s hw hI => (hs i w env s hw hI).mono fun p s h => by
    obtain ⟨f, e⟩ := p
    cases f with
    | next => exact ⟨e, s, rfl, h⟩
    | cont => exact ⟨e, s, rfl, h⟩
    | brk => exact h
    | ret w => exact h) he env s h
section
variable {env : Env} {n k : Nat} {js : List Nat} {ws : List W}
@[simp] theorem conv_d {x : PyData} : conv env n (.d x) = some (.d x) := by cases n <;> rfl
@[simp] theorem conv_ref {x : Nat} : conv env n (.ref x) = some (.ref x) := by cases n <;> rfl
@[simp] theorem conv_h : conv env n (.clo k none ws) = some (.clo k none ws) := by cases n <;> rfl
@[simp] theorem conv_3 : conv env 3 (.clo k (some js) ws) = (convJ (conv env 2) env js).map (.clo k none) := rfl
@[simp] theorem conv_2 : conv env 2 (.clo k (some js) ws) = (convJ (conv env 1) env js).map (.clo k none) := rfl
@[simp] theorem conv_1 : conv env 1 (.clo k (some js) ws) = (convJ (conv env 0) env js).map (.clo k none) := rfl
@[simp] theorem convJ_nil {f : W → Option W} : convJ f env [] = some [] := rfl
@[simp] theorem convJ_cons {f : W → Option W} {j : Nat} : convJ f env (j :: js) = match (raw env j).bind f, convJ f env js with
    | some w, some ws => some (w :: ws)
    | _, _ => none := rfl
@[simp] theorem convL_nil : convL env n [] = some [] := rfl
@[simp] theorem convL_cons {w : W} : convL env n (w :: ws) = match conv env n w, convL env n ws with
    | some w, some ws => some (w :: ws)
    | _, _ => none := rfl
@[simp] theorem argC_cv {i : Nat} : argC env (.cv i) = some (match raw env i with
    | some (.clo k o ws) => some (.clo k o ws)
    | _ => none) := rfl
@[simp] theorem argC_lam {k : Nat} : argC env (.lam k js) = some (some (.clo k (some js) [])) := rfl
@[simp] theorem argC_var {i : Nat} : argC env (.var i) = none := rfl
@[simp] theorem argC_const {x : PyData} : argC env (.const x) = none := rfl
@[simp] theorem argC_call {m : Cm} {i : Nat} {es : List Ex} : argC env (.call m i es) = none := rfl
@[simp] theorem argC_fld {o : Ex} {f : Str} : argC env (.fld o f) = none := rfl
@[simp] theorem argC_tup {es : List Ex} : argC env (.tup es) = none := rfl
@[simp] theorem argC_idx {a b : Ex} : argC env (.idx a b) = none := rfl
end
def cellB : Sx := Sx.seq (Sx.ite (Bx.tru (Ex.cmp (Cop.lt) (Ex.var 1) (Ex.bf (Bf.len) [Ex.var 0]))) (Sx.ret (Ex.idx (Ex.var 0) (Ex.var 1))) (Sx.pass)) (Sx.ret (Ex.const (PyData.int 0)))
def cellAt (ns : List Int) (k : Int) : Int := (ns[k.toNat]?).getD 0
@[simp] theorem bf_len_list {s : Store} {xs : List PyData} : bfD s .len [W.d (.list xs)] = some (.int (xs.length : Nat)) := rfl
@[simp] theorem bf_len_tuple {s : Store} {xs : List PyData} : bfD s .len [W.d (.tuple xs)] = some (.int (xs.length : Nat)) := rfl
theorem atI_of {α : Type} {xs : List α} {i : Int} {x : α} (h0 : 0 ≤ i) (h : xs[i.toNat]? = some x) : L2.atI xs i = some x := by
  have := atI_nat h
  rwa [Int.toNat_of_nonneg h0] at this
theorem cell_gen {C : Cf} {i : Nat} (hd : C.ds i = ⟨2, 2, cellB⟩) {n : Nat} (hn : i < n) (ns : List Int) {k : Int} (hk : 0 ≤ k) (s : Store) : callM .frz (C.Φ n i) [.d (.list (ns.map .int)), .d (.int k)] s = .ok (.d (.int (cellAt ns k))) s := by
  refine callf_gen (xs := [.list (ns.map .int), .int k]) (by simp) (phi_ok hn hd rfl ?_)
  unfold cellB
  by_cases h : k < (ns.length : Nat)
  · have e : ns[k.toNat]? = some ns[k.toNat] := List.getElem?_eq_getElem (by omega)
    have a : L2.atI ns k = some ns[k.toNat] := atI_of hk e
    simp [startE, Ok_bind, h, a, cellAt, e]
  · have e : ns[k.toNat]? = none := List.getElem?_eq_none (by omega)
    simp [startE, Ok_bind, h, cellAt, e]
def digB : Sx := Sx.seq
  (Sx.assign (Tx.name 3) (Ex.lst true []))
  (Sx.seq
    (Sx.assign (Tx.name 4) (Ex.bin (Bop.mod) (Ex.bin (Bop.mul) (Ex.bin (Bop.add) (Ex.var 0) (Ex.const (PyData.int 1))) (Ex.const (PyData.int 48271))) (Ex.const (PyData.int 2147483647))))
    (Sx.seq
      (Sx.assign (Tx.name 5) (Ex.bin (Bop.fdiv) (Ex.var 0) (Ex.const (PyData.int 2))))
      (Sx.seq
        (Sx.for
          false
          [6]
          true
          (Wk.rng1)
          [Ex.var 2]
          (Sx.seq
            (Sx.assign
              (Tx.name 4)
              (Ex.bin
                (Bop.mod)
                (Ex.bin (Bop.mul) (Ex.bin (Bop.add) (Ex.bin (Bop.add) (Ex.var 4) (Ex.bin (Bop.mul) (Ex.const (PyData.int 7919)) (Ex.var 6))) (Ex.const (PyData.int 1))) (Ex.bin (Bop.add) (Ex.bin (Bop.fdiv) (Ex.var 4) (Ex.const (PyData.int 1009))) (Ex.const (PyData.int 69621))))
                (Ex.const (PyData.int 2147483647))))
            (Sx.seq
              (Sx.expr
                (Ex.mut
                  (Mt.append)
                  (Ex.var 3)
                  [Ex.idx
                     (Ex.lst false [Ex.bin (Bop.mod) (Ex.bin (Bop.fdiv) (Ex.var 4) (Ex.const (PyData.int 7))) (Ex.var 1), Ex.bin (Bop.mod) (Ex.var 5) (Ex.var 1)])
                     (Ex.bf (Bf.int) [Ex.and (Ex.cmp (Cop.eq) (Ex.bin (Bop.mod) (Ex.var 0) (Ex.const (PyData.int 2))) (Ex.const (PyData.int 0))) (Ex.cmp (Cop.gt) (Ex.var 5) (Ex.const (PyData.int 0)))])]))
              (Sx.assign (Tx.name 5) (Ex.bin (Bop.fdiv) (Ex.var 5) (Ex.var 1))))))
        (Sx.ret (Ex.var 3)))))
@[simp] theorem bf_int_bool {s : Store} {b : Bool} : bfD s .int [W.d (.bool b)] = some (.int (if b then 1 else 0)) := rfl
@[simp] theorem bf_int_int {s : Store} {i : Int} : bfD s .int [W.d (.int i)] = some (.int i) := rfl
/-- numbers from 0 to below z -/
def Dg (z : Int) (m : Nat) (ds : List Int) : Prop := ds.length = m ∧ ∀ d ∈ ds, 0 ≤ d ∧ d < z
theorem Dg.at' {z : Int} {m : Nat} {ds : List Int} (h : Dg z m ds) {k : Int} (h0 : 0 ≤ k) (hk : k < m) : ∃ v, L2.atI ds k = some v ∧ 0 ≤ v ∧ v < z := by
  have hk : k.toNat < ds.length := by rw [h.1]; omega
  exact ⟨ds[k.toNat], atI_of h0 (List.getElem?_eq_getElem hk), h.2 _ (List.getElem_mem hk)⟩
theorem dig_gen {C : Cf} {i : Nat} (hd : C.ds i = ⟨3, 7, digB⟩) {n : Nat} (hn : i < n) (c z : Int) (m : Nat) (hz : 0 < z) (hz2 : z.natAbs.log2 < 9000) (hm : m ≤ 1000) : ∃ ds, Dg z m ds ∧ ∀ s, callM .frz (C.Φ n i) [.d (.int c), .d (.int z), .d (.int (m : Nat))] s = .ok (.d (.list (ds.map .int))) s := by
  have key : Ok (C.Φ n i [.d (.int c), .d (.int z), .d (.int (m : Nat))] []) fun w t => ∃ y, frzW t w = some y ∧ ∃ ds, Dg z m ds ∧ y = .list (ds.map .int) := by
    refine phi_ok hn hd rfl ?_
    unfold digB
    have m1 : ∀ i : Int, mulOk i 48271 = true := fun i => mulOk_r (by decide) (by decide)
    have m2 : ∀ i : Int, mulOk 7919 i = true := fun i => mulOk_l (by decide) (by decide)
    have l1 : Nat.log2 1009 < 9000 := by decide
    have l2 : Nat.log2 2 < 9000 := by decide
    have l7 : Nat.log2 7 < 9000 := by decide
    simp [startE, Ok_bind, newLst, sizeLine, m1, l2, rng1_nat (n := m) (by omega)]
    obtain ⟨I, hI⟩ : ∃ I : Nat → Env → Store → Prop, ∀ i env s, I i env s ↔ ∃ (ds : List Int) (a b : Int) (x6 : Option W), env = [some (.d (.int c)), some (.d (.int z)), some (.d (.int m)), some (.ref 0), some (.d (.int a)), some (.d (.int b)), x6] ∧ s = [.lst (ds.map .int)] ∧ 0 ≤ a ∧ a < 2147483647 ∧ Dg z i ds := ⟨_, fun _ _ _ => Iff.rfl⟩
    refine Ok_for0 _ I (fun _ _ _ _ => rfl) ?_ ?_ _ _ ((hI _ _ _).mpr ⟨[], _, _, _, rfl, rfl, Int.emod_nonneg _ (by decide), Int.emod_lt_of_pos _ (by decide), rfl, by simp⟩)
    · intro i u env s hu h
      obtain ⟨ds, a, b, x6, rfl, rfl, ha, ha2, hds⟩ := (hI _ _ _).mp h
      obtain ⟨hi, rfl⟩ := rngW_at hu
      have hl : ds.length < 16777216 := by rw [hds.1]; omega
      have m3 : ∀ i : Int, mulOk i (a / 1009 + 69621) = true := fun i => mulOk_r (by omega) (by omega)
      generalize hmx : (a + 7919 * (i : Int) + 1) * (a / 1009 + 69621) % 2147483647 = mx
      have mx1 : 0 ≤ mx ∧ mx < 2147483647 := hmx ▸ ⟨Int.emod_nonneg _ (by decide), Int.emod_lt_of_pos _ (by decide)⟩
      have r1 : 0 ≤ mx / 7 % z ∧ mx / 7 % z < z := ⟨Int.emod_nonneg _ (by omega), Int.emod_lt_of_pos _ hz⟩
      have r2 : 0 ≤ b % z ∧ b % z < z := ⟨Int.emod_nonneg _ (by omega), Int.emod_lt_of_pos _ hz⟩
      have app : ∀ v : Int, 0 ≤ v ∧ v < z → Dg z (i + 1) (ds ++ [v]) := fun v hv => ⟨by simp [hds.1], fun d hd => by
        rcases List.mem_append.mp hd with h | h
        · exact hds.2 d h
        · simp at h; subst h; exact hv⟩
      by_cases h1 : c % 2 = 0 <;> by_cases h2 : 0 < b <;>
        simp [Ok_bind, m2, l1, m3, hmx, l7, hz, hz2, isLstC, mutW, chg, appC, appL, sizeLine, h1, h2, hl, newLst]
      · exact (hI _ _ _).mpr ⟨ds ++ [b % z], _, _, _, rfl, by simp, mx1.1, mx1.2, app _ r2⟩
      all_goals exact (hI _ _ _).mpr ⟨ds ++ [mx / 7 % z], _, _, _, rfl, by simp, mx1.1, mx1.2, app _ r1⟩
    · intro env s h
      obtain ⟨ds, a, b, x6, rfl, rfl, ha, ha2, hds⟩ := (hI _ _ _).mp h
      rw [rngW_len] at hds
      simp [Ok_bind, frzW]
      exact ⟨ds, hds, rfl⟩
  obtain ⟨y, ⟨ds, h, rfl⟩, e⟩ := callf_ex (xs := [.int c, .int z, .int (m : Nat)]) (by simp) key
  exact ⟨ds, h, e⟩
end Cc

set_option linter.all false
set_option maxRecDepth 100000
set_option maxHeartbeats 1000000
/-! Cc: texts put together and taken apart. -/
namespace Cc
open PySem hiding Env listOf
open PySem.StrLaws PySem.Builtin.Str
/-- the signs of a text -/
abbrev cl (x : Str) : List Nat := x.cps.toList
@[simp] theorem cl_mk (l : List Nat) : cl ⟨l.toArray⟩ = l := by simp [cl]
theorem cl_inj {x y : Str} (h : cl x = cl y) : x = y := Str.ext' (Array.toList_inj.mp h)
@[simp] theorem cl_append (x y : Str) : cl (x ++ y) = cl x ++ cl y := by
  show (x.cps ++ y.cps).toList = _
  simp
theorem cl_length (x : Str) : (cl x).length = x.length := by simp [cl, Str.length]
theorem cl_sub (x : Str) (i j : Nat) : cl (strSub x i j) = ((cl x).drop i).take (j - i) := by
  have := strSub_toList x i j
  first | exact this | (rw [show cl (strSub x i j) = (strSub x i j).cps.toList from rfl, this]; simp [List.take_drop, List.drop_take])
/-- places of a walk that are taken, none within w behind one -/
def greedy (P : Nat → Bool) (w : Nat) : Nat → Nat → Nat → List Nat
  | 0, _, _ => []
  | n + 1, a, f => if f ≤ a ∧ P a = true then a :: greedy P w n (a + 1) (a + w) else greedy P w n (a + 1) f
theorem occ_greedy (s y : Str) (hi limit : Nat) : ∀ (n a f : Nat) (fd : Array Nat),
    (forIn (List.range' a n) (fd, f) (occBody s y hi limit)).run.fst.toList = fd.toList ++ (greedy (fun i => decide (i + y.length ≤ hi) && subAt s y i) y.length n a f).take (limit - fd.size)
  | 0, a, f, fd => by simp [greedy]
  | n + 1, a, f, fd => by
    rw [List.range'_succ, List.forIn_cons]
    unfold occBody greedy
    by_cases hl : fd.size < limit
    · by_cases hc : f ≤ a ∧ (decide (a + y.length ≤ hi) && subAt s y a) = true
      · have hc2 := hc.2
        simp only [Bool.and_eq_true, decide_eq_true_eq] at hc2
        rw [if_pos ⟨⟨⟨hl, hc.1⟩, hc2.1⟩, hc2.2⟩, if_pos hc]
        have := occ_greedy s y hi limit n (a + 1) (a + y.length) (fd.push a)
        refine this.trans ?_
        rw [Array.toList_push, Array.size_push, List.append_assoc]
        have e : limit - fd.size = limit - (fd.size + 1) + 1 := by omega
        rw [e, List.take_succ_cons]
        rfl
      · have hc3 : ¬ (((fd.size < limit ∧ f ≤ a) ∧ a + y.length ≤ hi) ∧ subAt s y a = true) := fun h => hc ⟨h.1.1.2, by simp [h.1.2, h.2]⟩
        rw [if_neg hc3, if_neg hc]
        exact occ_greedy s y hi limit n (a + 1) f fd
    · have hc3 : ¬ (((fd.size < limit ∧ f ≤ a) ∧ a + y.length ≤ hi) ∧ subAt s y a = true) := fun h => hl h.1.1.1
      rw [if_neg hc3]
      refine (occ_greedy s y hi limit n (a + 1) f fd).trans ?_
      have e : limit - fd.size = 0 := by omega
      rw [e]
      simp
def occP (s y : Str) : Nat → Bool := fun i => decide (i + y.length ≤ s.length) && subAt s y i
theorem occ_is (s y : Str) (limit : Nat) : occurrences s y 0 s.length limit = (greedy (occP s y) y.length (s.length + 1) 0 0).take limit := by
  rw [occ_eq]
  have := occ_greedy s y s.length limit (s.length + 1) 0 0 #[]
  rw [show (fun i => decide (i + y.length ≤ s.length) && subAt s y i) = occP s y from rfl] at this
  simpa using this
theorem greedy_len (P : Nat → Bool) (w : Nat) : ∀ n a f, (greedy P w n a f).length ≤ n
  | 0, _, _ => by simp [greedy]
  | n + 1, a, f => by
    unfold greedy
    split
    · have := greedy_len P w n (a + 1) (a + w); simp; omega
    · have := greedy_len P w n (a + 1) f; omega
theorem greedy_skip (P : Nat → Bool) (w : Nat) : ∀ (m n a f : Nat), (∀ i, a ≤ i → i < a + m → ¬ (f ≤ i ∧ P i = true)) → m ≤ n → greedy P w n a f = greedy P w (n - m) (a + m) f
  | 0, n, a, f, _, _ => by simp
  | m + 1, 0, _, _, _, h => by omega
  | m + 1, n + 1, a, f, h, hm => by
    have h0 := h a (Nat.le_refl _) (by omega)
    rw [greedy, if_neg h0, greedy_skip P w m n (a + 1) f (fun i h1 h2 => h i (by omega) (by omega)) (by omega)]
    congr 1 <;> omega
theorem occP_iff (s y : Str) (i : Nat) : occP s y i = true ↔ i + y.length ≤ s.length ∧ ((cl s).drop i).take y.length = cl y := by
  unfold occP
  rw [subAt_eq]
  simp only [Bool.and_eq_true, decide_eq_true_eq, beq_iff_eq]
/-- a sign of the parting text that stands nowhere in the parts: no other place -/
structure Sep (y : Str) (k c : Nat) : Prop where
  at_ : (cl y)[k]? = some c
  one : ∀ j, j < k → (cl y)[j]? ≠ some c
theorem no_at {s y : Str} {k c : Nat} (S : Sep y k c) {pre p post : List Nat} (e : cl s = pre ++ p ++ post) (hp : c ∉ p) (hq : post = [] ∨ ∃ r, post = cl y ++ r) {i : Nat} (h1 : pre.length ≤ i) (h2 : i < pre.length + p.length ∨ (post = [] ∧ True)) : ¬ occP s y i = true := by
  intro h
  rw [occP_iff] at h
  obtain ⟨hl, ht⟩ := h
  have hk : k < (cl y).length := (List.getElem?_eq_some_iff.mp S.at_).1
  rw [cl_length] at hk
  have hc : (cl s)[i + k]? = some c := by
    have : (((cl s).drop i).take y.length)[k]? = some c := by rw [ht]; exact S.at_
    rw [List.getElem?_take_of_lt hk, List.getElem?_drop] at this
    exact this
  rw [e] at hc
  have ls : s.length = pre.length + p.length + post.length := by rw [← cl_length, e]; simp; omega
  rcases Nat.lt_or_ge (i + k) (pre.length + p.length) with hlt | hge
  · rw [List.getElem?_append_left (by simpa using hlt), List.getElem?_append_right (by omega)] at hc
    exact hp (List.mem_of_getElem? hc)
  · rcases hq with rfl | ⟨r, rfl⟩
    · simp at ls; omega
    · have h2 : i < pre.length + p.length := by
        rcases h2 with h | ⟨h, _⟩
        · exact h
        · have : (cl y) = [] := (List.append_eq_nil_iff.mp h).1
          have e1 := cl_length y
          rw [this] at e1
          simp at e1
          omega
      rw [List.getElem?_append_right (by simpa using hge), List.getElem?_append_left (by rw [cl_length]; simp; omega)] at hc
      exact S.one _ (by simp; omega) hc
theorem at_sep {s y : Str} {pre post : List Nat} (e : cl s = pre ++ cl y ++ post) : occP s y pre.length = true := by
  rw [occP_iff]
  have ls : s.length = pre.length + y.length + post.length := by rw [← cl_length, e]; simp [Str.length]; omega
  refine ⟨by omega, ?_⟩
  rw [e, List.append_assoc, List.drop_left]
  rw [List.take_left' (by rw [cl_length])]
/-- the places of the cuts -/
def cutsOf (w : Nat) : Nat → List Str → List Nat
  | _, [] => []
  | _, [_] => []
  | a, p :: q :: r => (a + p.length) :: cutsOf w (a + p.length + w) (q :: r)
theorem cl_join (y : Str) : ∀ (p q : Str) (r : List Str), cl (Str.join y (p :: q :: r)) = cl p ++ cl y ++ cl (Str.join y (q :: r))
  | p, q, r => by
    show cl (p ++ y ++ Str.join y (q :: r)) = _
    simp
theorem greedy_join {s y : Str} {k c : Nat} (S : Sep y k c) : ∀ (p : Str) (r : List Str) (pre : List Nat) (f n : Nat), cl s = pre ++ cl (Str.join y (p :: r)) → (∀ x ∈ p :: r, c ∉ cl x) → f ≤ pre.length → n = s.length + 1 - pre.length →
    greedy (occP s y) y.length n pre.length f = cutsOf y.length pre.length (p :: r)
  | p, [], pre, f, n, e, hc, hf, hn => by
    have ls : s.length = pre.length + p.length := by rw [← cl_length, e]; show (pre ++ cl p).length = _; simp [Str.length]
    rw [greedy_skip _ _ n n _ _ (fun i h1 h2 => fun h => no_at S (pre := pre) (p := cl p) (post := []) (by rw [e]; simp [Str.join]) (hc p (by simp)) (.inl rfl) h1 (.inr ⟨rfl, trivial⟩) h.2) (Nat.le_refl _)]
    simp [greedy, cutsOf]
  | p, q :: r, pre, f, n, e, hc, hf, hn => by
    rw [cl_join] at e
    have lp : p.length = (cl p).length := (cl_length p).symm
    have ly := cl_length y
    have hk : k < (cl y).length := (List.getElem?_eq_some_iff.mp S.at_).1
    have ls : s.length = pre.length + p.length + y.length + (cl (Str.join y (q :: r))).length := by rw [← cl_length, e]; simp [Str.length]; omega
    have e1 : cl s = pre ++ cl p ++ (cl y ++ cl (Str.join y (q :: r))) := by rw [e]; simp
    rw [greedy_skip _ _ p.length n _ _ (fun i h1 h2 => fun h => no_at S e1 (hc p (by simp)) (.inr ⟨_, rfl⟩) h1 (.inl (by omega)) h.2) (by omega)]
    have hat : occP s y (pre.length + p.length) = true := by
      have := at_sep (s := s) (y := y) (pre := pre ++ cl p) (post := cl (Str.join y (q :: r))) (by rw [e1]; simp)
      simpa [lp] using this
    obtain ⟨m, hm⟩ : ∃ m, n - p.length = m + 1 := ⟨n - p.length - 1, by omega⟩
    rw [hm, greedy, if_pos ⟨by omega, hat⟩, cutsOf]
    congr 1
    have e2 : cl s = (pre ++ cl p ++ cl y) ++ cl (Str.join y (q :: r)) := by rw [e]; simp
    have l2 : (pre ++ cl p ++ cl y).length = pre.length + p.length + y.length := by simp [Str.length]; omega
    have ih := greedy_join S q r (pre ++ cl p ++ cl y) (pre.length + p.length + y.length) (s.length + 1 - (pre.length + p.length + y.length)) e2 (fun x hx => hc x (List.mem_cons_of_mem _ hx)) (by omega) (by rw [l2])
    rw [l2] at ih
    rw [← ih, greedy_skip _ _ (y.length - 1) m _ _ (fun i h1 h2 => fun h => by omega) (by omega)]
    congr 1 <;> omega
theorem parts_join {s y : Str} : ∀ (p : Str) (r : List Str) (pre : List Nat), cl s = pre ++ cl (Str.join y (p :: r)) → partsFrom s y.length pre.length (cutsOf y.length pre.length (p :: r)) = p :: r
  | p, [], pre, e => by
    have ls : s.length = pre.length + p.length := by rw [← cl_length, e]; show (pre ++ cl p).length = _; simp [Str.length]
    rw [cutsOf, partsFrom]
    congr 1
    refine cl_inj ?_
    rw [cl_sub, e]
    show ((pre ++ cl p).drop pre.length).take (s.length - pre.length) = _
    rw [List.drop_left, List.take_of_length_le (by rw [cl_length]; omega)]
  | p, q :: r, pre, e => by
    rw [cl_join] at e
    rw [cutsOf, partsFrom]
    have lp := cl_length p
    congr 1
    · refine cl_inj ?_
      rw [cl_sub, e]
      rw [show pre ++ (cl p ++ cl y ++ cl (Str.join y (q :: r))) = pre ++ (cl p ++ (cl y ++ cl (Str.join y (q :: r)))) by simp, List.drop_left]
      rw [List.take_left' (by omega)]
    · have e2 : cl s = (pre ++ cl p ++ cl y) ++ cl (Str.join y (q :: r)) := by rw [e]; simp
      have l2 : (pre ++ cl p ++ cl y).length = pre.length + p.length + y.length := by simp [Str.length]; omega
      have ih := parts_join q r (pre ++ cl p ++ cl y) e2
      rw [l2] at ih
      exact ih
theorem kind_le {x y : Str} (hy : y.cps.all (· < 256) = true) : decide (Builtin.Str.strKind x < Builtin.Str.strKind y) = false := by
  have h1 : Builtin.Str.strKind y = 1 := by unfold Builtin.Str.strKind; rw [if_pos hy]
  have h2 : 1 ≤ Builtin.Str.strKind x := by unfold Builtin.Str.strKind; split <;> (try split) <;> omega
  exact decide_eq_false (by omega)
/-- what was put together is taken apart -/
theorem split_join {y : Str} {k c : Nat} (S : Sep y k c) (hy : y.cps.all (· < 256) = true) {xs : List Str} (hx : xs ≠ []) (hc : ∀ x ∈ xs, c ∉ cl x) : Txt.split (Txt.join y xs) y = xs := by
  obtain ⟨p, r, rfl⟩ : ∃ p r, xs = p :: r := by cases xs with | nil => exact absurd rfl hx | cons p r => exact ⟨p, r, rfl⟩
  have ej : Txt.join y (p :: r) = Str.join y (p :: r) := StrLaws.glued_eq_join y (p :: r)
  rw [ej]
  have g := greedy_join (s := Str.join y (p :: r)) S p r [] 0 _ (by simp) hc (Nat.le_refl _) rfl
  have q := parts_join (s := Str.join y (p :: r)) (y := y) p r [] (by simp)
  simp only [List.length_nil, Nat.sub_zero] at g q
  have o := occ_is (Str.join y (p :: r)) y ((Str.join y (p :: r)).length + 1)
  rw [List.take_of_length_le (greedy_len _ _ _ _ _), g] at o
  unfold Txt.split
  rw [kind_le hy, o]
  cases r with
  | nil => simp [cutsOf, Str.join]
  | cons z r =>
    have ll : ¬ (Str.join y (p :: z :: r)).length < y.length := by
      rw [← cl_length, cl_join]
      simp [Str.length]
      omega
    rw [if_neg (by simpa using ll), if_neg (by simp [cutsOf]), partsBetween_eq, q]
/-- the first place of a parting text -/
theorem partition_at {x y : Str} {k c : Nat} (S : Sep y k c) {p r : Str} (e : x = p ++ y ++ r) (hc : c ∉ cl p) : Txt.partition x y = (p, y, r) := by
  have e1 : cl x = [] ++ cl p ++ (cl y ++ cl r) := by rw [e]; simp
  have lx : x.length = p.length + y.length + r.length := by rw [← cl_length, e1]; simp [Str.length]; omega
  have g : occurrences x y 0 x.length 1 = [p.length] := by
    rw [occ_is, greedy_skip _ _ p.length _ _ _ (fun i h1 h2 => fun h => no_at S e1 hc (.inr ⟨_, rfl⟩) (Nat.zero_le _) (.inl (by rw [cl_length]; simpa using h2)) h.2) (by omega)]
    have hat : occP x y p.length = true := by
      have := at_sep (s := x) (y := y) (pre := cl p) (post := cl r) (by rw [e1]; simp)
      rwa [cl_length] at this
    obtain ⟨m, hm⟩ : ∃ m, x.length + 1 - p.length = m + 1 := ⟨x.length - p.length, by omega⟩
    rw [hm, Nat.zero_add, greedy, if_pos ⟨Nat.zero_le _, hat⟩]
    rfl
  unfold Txt.partition
  rw [g]
  dsimp only
  have a1 : strSub x 0 p.length = p := cl_inj (by
    rw [cl_sub, e1]
    simp only [List.nil_append, List.drop_zero, Nat.sub_zero]
    rw [List.take_left' (cl_length p)])
  have a2 : strSub x (p.length + y.length) x.length = r := cl_inj (by
    rw [cl_sub, e1]
    have : [] ++ cl p ++ (cl y ++ cl r) = (cl p ++ cl y) ++ cl r := by simp
    rw [this, List.drop_left' (by simp [Str.length]), List.take_of_length_le (by rw [cl_length]; omega)])
  rw [a1, a2]
theorem partition_not {x y : Str} {k c : Nat} (S : Sep y k c) (hc : c ∉ cl x) : Txt.partition x y = (x, Str.empty, Str.empty) := by
  have g : occurrences x y 0 x.length 1 = [] := by
    rw [occ_is, greedy_skip _ _ (x.length + 1) _ _ _ (fun i h1 h2 => fun h => no_at S (pre := []) (p := cl x) (post := []) (by simp) hc (.inl rfl) (Nat.zero_le _) (.inr ⟨rfl, trivial⟩) h.2) (Nat.le_refl _)]
    simp [greedy]
  unfold Txt.partition
  rw [g]
end Cc

set_option linter.all false
set_option maxRecDepth 100000
/-! Ce: where a def within a def stands in its text. -/
namespace Cc
open PySem
inductive Nod where
  | st (x : Stmt) | ex (x : Expr)
def noS : Stmt := .Pass ⟨0, 0, 0, 0⟩
def noE : Expr := .Constant .none 0 ⟨0, 0, 0, 0⟩
def sAt (l : List Stmt) (i : Nat) : Nod := .st (l.getD i noS)
def eAt (l : List Expr) (i : Nat) : Nod := .ex (l.getD i noE)
/-- the part (a, i) -/
def Nod.step : Nod → Nat × Nat → Nod
  | .st (.FunctionDef _ _ b _ _ _ _ _ _ _), (_, i) => sAt b i
  | .st (.If t _ _ _), (0, _) => .ex t
  | .st (.If _ a _ _), (1, i) => sAt a i
  | .st (.If _ _ b _), (_, i) => sAt b i
  | .st (.For _ it _ _ _), (0, _) => .ex it
  | .st (.For _ _ b _ _), (_, i) => sAt b i
  | .st (.While t _ _ _), (0, _) => .ex t
  | .st (.While _ b _ _), (_, i) => sAt b i
  | .st (.Try b _ _ _ _), (_, i) => sAt b i
  | .st (.Expr e _), _ => .ex e
  | .st (.Return (some e) _), _ => .ex e
  | .st (.Assign _ e _), _ => .ex e
  | .ex (.Call f _ _ _), (0, _) => .ex f
  | .ex (.Call _ as _ _), (_, i) => eAt as i
  | .ex (.Attribute v _ _), _ => .ex v
  | .ex (.BoolOp _ vs _), (_, i) => eAt vs i
  | .ex (.UnaryOp _ v _), _ => .ex v
  | .ex (.Compare l _ _ _), (0, _) => .ex l
  | .ex (.Compare _ _ cs _), (_, i) => eAt cs i
  | _, _ => .st noS
def Nod.go (n : Nod) (p : List (Nat × Nat)) : Nod := p.foldl Nod.step n
def Nod.args : Nod → Arguments
  | .st (.FunctionDef _ a _ _ _ _ _ _ _ _) => a
  | .ex (.Lambda a _ _ _) => a
  | _ => ⟨[], [], none, [], [], none, []⟩
def Nod.body : Nod → List Stmt
  | .st (.FunctionDef _ _ b _ _ _ _ _ _ _) => b
  | _ => []
def Nod.lam : Nod → Option Expr
  | .ex (.Lambda _ b _ _) => some b
  | _ => none
def Nod.scope : Nod → Scope
  | .st (.FunctionDef _ _ _ _ _ _ s _ _ _) => s
  | .ex (.Lambda _ _ s _) => s
  | _ => ⟨.function, [], false, false, []⟩
end Cc

set_option linter.all false
set_option maxRecDepth 100000
/-! printed by gen.py: the defs of the text by places, names, classes, notes -/
namespace K82
open PySem L2 Cc
def top (i : Nat) : Stmt := PySem.Challenge.pw_copyclerk_k82_rows_that_are_no_shapes.main.body.getD i (.Pass ⟨0, 0, 0, 0⟩)
abbrev st0 : Stmt := inClass (top 3) 0
def n0 : List Str := ["self", "number"]
def p0 : List Str := ["self", "number"]
abbrev st1 : Stmt := top 9
def n1 : List Str := ["text", "sign"]
def p1 : List Str := ["text"]
abbrev st2 : Stmt := top 10
def n2 : List Str := ["text"]
def p2 : List Str := ["text"]
abbrev st3 : Stmt := top 17
def n3 : List Str := ["way", "kind", "mark"]
def p3 : List Str := ["way"]
abbrev st4 : Stmt := top 18
def n4 : List Str := ["config", "state", "mark", "to", "back", "flags"]
def p4 : List Str := ["config"]
abbrev st5 : Stmt := top 19
def n5 : List Str := ["shape", "head", "config", "count"]
def p5 : List Str := ["shape"]
abbrev st6 : Stmt := top 20
def n6 : List Str := ["paper", "shape"]
def p6 : List Str := ["paper"]
abbrev st7 : Stmt := top 21
def n7 : List Str := ["deed", "part"]
def p7 : List Str := ["deed"]
abbrev st8 : Stmt := top 22
def n8 : List Str := ["deeds", "deed"]
def p8 : List Str := ["deeds"]
abbrev st9 : Stmt := top 23
def n9 : List Str := ["text", "kind", "dot", "mark"]
def p9 : List Str := ["text"]
abbrev st10 : Stmt := top 24
def n10 : List Str := ["text", "letters", "part"]
def p10 : List Str := ["text"]
abbrev st11 : Stmt := top 25
def n11 : List Str := ["text", "words", "to", "back"]
def p11 : List Str := ["text"]
abbrev st12 : Stmt := top 26
def n12 : List Str := ["text", "lines", "k", "part"]
def p12 : List Str := ["text"]
abbrev st13 : Stmt := top 27
def n13 : List Str := ["text", "words", "lines", "head", "colon", "tail"]
def p13 : List Str := ["text"]
abbrev st14 : Stmt := top 28
def n14 : List Str := ["text", "figures", "sign"]
def p14 : List Str := ["text", "figures"]
abbrev st15 : Stmt := top 29
def n15 : List Str := ["text", "number"]
def p15 : List Str := ["text"]
abbrev st16 : Stmt := top 30
def n16 : List Str := ["text", "words", "hand"]
def p16 : List Str := ["text"]
abbrev st17 : Stmt := top 31
def n17 : List Str := ["text", "reads", "found", "row", "one"]
def p17 : List Str := ["text", "reads"]
abbrev st18 : Stmt := top 32
def n18 : List Str := ["text"]
def p18 : List Str := ["text"]
abbrev st19 : Stmt := top 33
def n19 : List Str := ["text"]
def p19 : List Str := ["text"]
abbrev st20 : Stmt := top 35
def n20 : List Str := ["_law_cell"]
def p20 : List Str := ["_law_cell"]
abbrev st21 : Stmt := top 36
def n21 : List Str := ["_law_draw_here", "_law_size", "_law_number", "_law_digit"]
def p21 : List Str := ["_law_draw_here", "_law_size"]
abbrev st22 : Stmt := top 37
def n22 : List Str := ["_law_some", "_law_line"]
def p22 : List Str := []
abbrev st23 : Stmt := top 38
def n23 : List Str := ["_law_line", "_law_some"]
def p23 : List Str := []
abbrev st24 : Stmt := top 39
def n24 : List Str := ["_law_some"]
def p24 : List Str := []
abbrev st25 : Stmt := top 40
def n25 : List Str := ["_law_some"]
def p25 : List Str := []
def q26 : Nod := Nod.go (.st (top 43)) [(0, 0), (1, 2), (0, 0), (0, 0), (1, 1)]
def n26 : List Str := ["_law_text"]
def p26 : List Str := ["_law_text"]
def q27 : Nod := Nod.go (.st (top 43)) [(0, 0), (1, 4), (0, 0), (0, 0), (1, 1)]
def n27 : List Str := ["_law_text"]
def p27 : List Str := ["_law_text"]
def q28 : Nod := Nod.go (.st (top 43)) [(0, 0), (1, 6), (0, 0), (0, 0), (1, 0)]
def n28 : List Str := ["_law_text"]
def p28 : List Str := ["_law_text"]
def q29 : Nod := Nod.go (.st (top 43)) [(0, 0), (1, 7), (0, 0), (0, 0), (1, 0)]
def n29 : List Str := ["_law_text"]
def p29 : List Str := ["_law_text"]
abbrev st30 : Stmt := top 41
def n30 : List Str := ["_law_reads", "_law_text", "_law_number", "e", "_law_other"]
def p30 : List Str := ["_law_reads", "_law_text", "_law_number"]
abbrev st31 : Stmt := top 42
def n31 : List Str := ["_law_draw_here", "_law_reads", "_law_good", "_law_bad", "_law_rows", "_law_at", "_law_later", "_law_worse", "_law_k"]
def p31 : List Str := ["_law_draw_here", "_law_reads", "_law_good", "_law_bad"]
abbrev st32 : Stmt := top 43
def n32 : List Str := ["_law_script", "_law_cell", "_law_shapes", "_law_deeds", "_law_draw_here", "_law_other"]
def p32 : List Str := ["_law_script"]
def gl : List (Str × GI) := [(("ASKS" : Str), .con (.tuple [.str ⟨#[114, 101, 97, 100]⟩, .str ⟨#[119, 114, 105, 116, 101]⟩, .str ⟨#[100, 114, 111, 112]⟩])),
  (("BadPaper" : Str), .pexi 2 0 ("number" : Str)),
  (("BadTable" : Str), .exn 1),
  (("COUNTS" : Str), .con (.tuple [.str ⟨#[111, 110, 101]⟩, .str ⟨#[115, 111, 109, 101]⟩, .str ⟨#[97, 110, 121]⟩])),
  (("CopyError" : Str), .pex 0),
  (("FIGURES" : Str), .con (.str ⟨#[48, 49, 50, 51, 52, 53, 54, 55, 56, 57]⟩)),
  (("FLAGS" : Str), .con (.tuple [.str ⟨#[45]⟩, .str ⟨#[115]⟩, .str ⟨#[111]⟩, .str ⟨#[115, 111]⟩])),
  (("LETTERS" : Str), .con (.str ⟨#[97, 98, 99, 100, 101, 102, 103, 104, 105, 106, 107, 108, 109, 110, 111, 112, 113, 114, 115, 116, 117, 118, 119, 120, 121, 122]⟩)),
  (("LETTER_MARKS" : Str), .con (.tuple [.str ⟨#[98, 97, 114, 101]⟩, .str ⟨#[108, 97, 115, 116]⟩, .str ⟨#[111, 108, 100]⟩])),
  (("MARKS" : Str), .con (.tuple [.str ⟨#[110, 111, 110, 101]⟩, .str ⟨#[108, 97, 115, 116]⟩, .str ⟨#[111, 108, 100]⟩])),
  (("NoDeed" : Str), .pex 3),
  (("NoRow" : Str), .pex 4),
  (("ValueError" : Str), .blt),
  (("_law_bad_deeds" : Str), .fn 25 0 []),
  (("_law_bad_shapes" : Str), .fn 23 0 []),
  (("_law_draw" : Str), .fn 20 1 []),
  (("_law_good_deeds" : Str), .fn 24 0 []),
  (("_law_good_shapes" : Str), .fn 22 0 []),
  (("_law_next" : Str), .fn 21 2 []),
  (("_law_refused" : Str), .fn 30 3 []),
  (("_law_spoiled" : Str), .fn 31 4 []),
  (("all" : Str), .blt),
  (("any_number_in" : Str), .fn 15 1 []),
  (("bool" : Str), .blt),
  (("config_text" : Str), .fn 4 1 []),
  (("deed_in" : Str), .fn 16 1 []),
  (("deed_text" : Str), .fn 7 1 []),
  (("deeds_text" : Str), .fn 8 1 []),
  (("int" : Str), .blt),
  (("is_kind" : Str), .fn 2 1 []),
  (("is_word" : Str), .fn 1 1 []),
  (("isinstance" : Str), .blt),
  (("law" : Str), .fn 32 1 []),
  (("len" : Str), .blt),
  (("letter_in" : Str), .fn 9 1 []),
  (("line_in" : Str), .fn 11 1 []),
  (("lines_in" : Str), .fn 12 1 []),
  (("list" : Str), .blt),
  (("number_in" : Str), .fn 14 2 []),
  (("paper_text" : Str), .fn 6 1 []),
  (("range" : Str), .blt),
  (("read_deeds" : Str), .fn 19 1 []),
  (("read_paper" : Str), .fn 18 1 []),
  (("rows_in" : Str), .fn 17 2 []),
  (("shape_in" : Str), .fn 13 1 []),
  (("shape_text" : Str), .fn 5 1 []),
  (("str" : Str), .blt),
  (("tuple" : Str), .blt),
  (("way_in" : Str), .fn 10 1 []),
  (("way_text" : Str), .fn 3 1 [])]
def annL : List (Pos × Nat) := [(⟨121, 12, 121, 14⟩, 1), (⟨144, 16, 144, 63⟩, 1), (⟨145, 16, 145, 89⟩, 1), (⟨148, 16, 148, 106⟩, 1), (⟨206, 17, 206, 32⟩, 1), (⟨215, 25, 215, 45⟩, 2), (⟨134, 11, 134, 60⟩, 1), (⟨214, 4, 226, 24⟩, 4)]
def ann (p : Pos) : Nat := (annL.lookup p).getD 0
def ml : List ((Nat × Str) × Nat) := []
def cil : List (Nat × Nat) := []
def fol : List (Nat × Str) := []
def cn : List Str := [("CopyError" : Str), ("BadTable" : Str), ("BadPaper" : Str), ("NoDeed" : Str), ("NoRow" : Str)]
def pl : List (Str × Option Str) := [(("BadPaper" : Str), some ("__init__" : Str)), (("is_word" : Str), none), (("is_kind" : Str), none), (("way_text" : Str), none), (("config_text" : Str), none), (("shape_text" : Str), none), (("paper_text" : Str), none), (("deed_text" : Str), none), (("deeds_text" : Str), none), (("letter_in" : Str), none), (("way_in" : Str), none), (("line_in" : Str), none), (("lines_in" : Str), none), (("shape_in" : Str), none), (("number_in" : Str), none), (("any_number_in" : Str), none), (("deed_in" : Str), none), (("rows_in" : Str), none), (("read_paper" : Str), none), (("read_deeds" : Str), none), (("_law_draw" : Str), none), (("_law_next" : Str), none), (("_law_good_shapes" : Str), none), (("_law_bad_shapes" : Str), none), (("_law_good_deeds" : Str), none), (("_law_bad_deeds" : Str), none), (("law" : Str), none), (("law" : Str), none), (("law" : Str), none), (("law" : Str), none), (("_law_refused" : Str), none), (("_law_spoiled" : Str), none), (("law" : Str), none)]
def d0 : DefS := ⟨n0, p0, ("__init__" : Str), ("BadPaper.__init__" : Str), defArgs st0, defBody st0, defScope st0, [], ann, 100000, false, [], none, [], [], []⟩
def d1 : DefS := ⟨n1, p1, ("is_word" : Str), ("is_word" : Str), defArgs st1, defBody st1, defScope st1, [], ann, 100000, false, [], none, [], [], []⟩
def d2 : DefS := ⟨n2, p2, ("is_kind" : Str), ("is_kind" : Str), defArgs st2, defBody st2, defScope st2, [], ann, 100000, false, [], none, [], [], []⟩
def d3 : DefS := ⟨n3, p3, ("way_text" : Str), ("way_text" : Str), defArgs st3, defBody st3, defScope st3, [], ann, 100000, false, [], none, [], [], []⟩
def d4 : DefS := ⟨n4, p4, ("config_text" : Str), ("config_text" : Str), defArgs st4, defBody st4, defScope st4, [], ann, 100000, false, [], none, [], [], []⟩
def d5 : DefS := ⟨n5, p5, ("shape_text" : Str), ("shape_text" : Str), defArgs st5, defBody st5, defScope st5, [], ann, 100000, false, [], none, [], [], []⟩
def d6 : DefS := ⟨n6, p6, ("paper_text" : Str), ("paper_text" : Str), defArgs st6, defBody st6, defScope st6, [], ann, 100000, false, [], none, [], [], []⟩
def d7 : DefS := ⟨n7, p7, ("deed_text" : Str), ("deed_text" : Str), defArgs st7, defBody st7, defScope st7, [], ann, 100000, false, [], none, [], [], []⟩
def d8 : DefS := ⟨n8, p8, ("deeds_text" : Str), ("deeds_text" : Str), defArgs st8, defBody st8, defScope st8, [], ann, 100000, false, [], none, [], [], []⟩
def d9 : DefS := ⟨n9, p9, ("letter_in" : Str), ("letter_in" : Str), defArgs st9, defBody st9, defScope st9, [], ann, 100000, false, [], none, [], [], []⟩
def d10 : DefS := ⟨n10, p10, ("way_in" : Str), ("way_in" : Str), defArgs st10, defBody st10, defScope st10, [], ann, 100000, false, [], none, [], [], []⟩
def d11 : DefS := ⟨n11, p11, ("line_in" : Str), ("line_in" : Str), defArgs st11, defBody st11, defScope st11, [], ann, 100000, false, [], none, [], [], []⟩
def d12 : DefS := ⟨n12, p12, ("lines_in" : Str), ("lines_in" : Str), defArgs st12, defBody st12, defScope st12, [], ann, 100000, false, [], none, [], [], []⟩
def d13 : DefS := ⟨n13, p13, ("shape_in" : Str), ("shape_in" : Str), defArgs st13, defBody st13, defScope st13, [], ann, 100000, false, [], none, [], [], []⟩
def d14 : DefS := ⟨n14, p14, ("number_in" : Str), ("number_in" : Str), defArgs st14, defBody st14, defScope st14, [], ann, 100000, false, [], none, [], [], []⟩
def d15 : DefS := ⟨n15, p15, ("any_number_in" : Str), ("any_number_in" : Str), defArgs st15, defBody st15, defScope st15, [], ann, 100000, false, [], none, [], [], []⟩
def d16 : DefS := ⟨n16, p16, ("deed_in" : Str), ("deed_in" : Str), defArgs st16, defBody st16, defScope st16, [], ann, 100000, false, [], none, [], [], []⟩
def d17 : DefS := ⟨n17, p17, ("rows_in" : Str), ("rows_in" : Str), defArgs st17, defBody st17, defScope st17, [], ann, 100000, false, [], none, [], [], []⟩
def d18 : DefS := ⟨n18, p18, ("read_paper" : Str), ("read_paper" : Str), defArgs st18, defBody st18, defScope st18, [], ann, 100000, false, [], none, [], [], []⟩
def d19 : DefS := ⟨n19, p19, ("read_deeds" : Str), ("read_deeds" : Str), defArgs st19, defBody st19, defScope st19, [], ann, 100000, false, [], none, [], [], []⟩
def d20 : DefS := ⟨n20, p20, ("_law_draw" : Str), ("_law_draw" : Str), defArgs st20, defBody st20, defScope st20, [], ann, 100000, false, [], none, [], [], []⟩
def d21 : DefS := ⟨n21, p21, ("_law_next" : Str), ("_law_next" : Str), defArgs st21, defBody st21, defScope st21, [], ann, 100000, false, [], none, [], [], []⟩
def d22 : DefS := ⟨n22, p22, ("_law_good_shapes" : Str), ("_law_good_shapes" : Str), defArgs st22, defBody st22, defScope st22, [], ann, 100000, false, [], none, [], [], []⟩
def d23 : DefS := ⟨n23, p23, ("_law_bad_shapes" : Str), ("_law_bad_shapes" : Str), defArgs st23, defBody st23, defScope st23, [], ann, 100000, false, [], none, [], [], []⟩
def d24 : DefS := ⟨n24, p24, ("_law_good_deeds" : Str), ("_law_good_deeds" : Str), defArgs st24, defBody st24, defScope st24, [], ann, 100000, false, [], none, [], [], []⟩
def d25 : DefS := ⟨n25, p25, ("_law_bad_deeds" : Str), ("_law_bad_deeds" : Str), defArgs st25, defBody st25, defScope st25, [], ann, 100000, false, [], none, [], [], []⟩
def d26 : DefS := ⟨n26, p26, ("<lambda>" : Str), ("law.<locals>.<lambda>" : Str), q26.args, q26.body, q26.scope, [], ann, 100000, true, [], q26.lam, [], [], []⟩
def d27 : DefS := ⟨n27, p27, ("<lambda>" : Str), ("law.<locals>.<lambda>" : Str), q27.args, q27.body, q27.scope, [], ann, 100000, true, [], q27.lam, [], [], []⟩
def d28 : DefS := ⟨n28, p28, ("<lambda>" : Str), ("law.<locals>.<lambda>" : Str), q28.args, q28.body, q28.scope, [], ann, 100000, true, [], q28.lam, [], [], []⟩
def d29 : DefS := ⟨n29, p29, ("<lambda>" : Str), ("law.<locals>.<lambda>" : Str), q29.args, q29.body, q29.scope, [], ann, 100000, true, [], q29.lam, [], [], []⟩
def d30 : DefS := ⟨n30, p30, ("_law_refused" : Str), ("_law_refused" : Str), defArgs st30, defBody st30, defScope st30, [], ann, 100000, false, [], none, [], [("_law_reads" : Str)], []⟩
def d31 : DefS := ⟨n31, p31, ("_law_spoiled" : Str), ("_law_spoiled" : Str), defArgs st31, defBody st31, defScope st31, [], ann, 100000, false, [], none, [], [("_law_reads" : Str)], []⟩
def d32 : DefS := ⟨n32, p32, ("law" : Str), ("law" : Str), defArgs st32, defBody st32, defScope st32, [], ann, 100000, false, [], none, [26, 27, 28, 29], [], [(217, 44, ("law.<locals>.<lambda>" : Str)), (220, 44, ("law.<locals>.<lambda>" : Str)), (223, 28, ("law.<locals>.<lambda>" : Str)), (225, 28, ("law.<locals>.<lambda>" : Str))]⟩
def dl : List DefS := [d0, d1, d2, d3, d4, d5, d6, d7, d8, d9, d10, d11, d12, d13, d14, d15, d16, d17, d18, d19, d20, d21, d22, d23, d24, d25, d26, d27, d28, d29, d30, d31, d32]
def xl : List Nat := [0, 3, 4]
def xsl : List (Str × List (Nat × Bool)) := [(("CopyError" : Str), [(0, true), (1, true), (2, true), (3, true), (4, true)]), (("BadTable" : Str), [(0, false), (1, true), (2, false), (3, false), (4, false)]), (("NoDeed" : Str), [(0, false), (1, false), (2, false), (3, true), (4, false)]), (("NoRow" : Str), [(0, false), (1, false), (2, false), (3, false), (4, true)]), (("BadPaper" : Str), [(0, false), (1, false), (2, true), (3, false), (4, false)]), (("ValueError" : Str), [(0, true), (1, true), (2, true), (3, true), (4, true)])]
def xfl : List (Nat × Str) := [(2, ("number" : Str))]
def C : Cf := ⟨dl, pl, gl, cn, ml, cil, fol, xl, xsl, xfl⟩
def defNames : List String := ["BadPaper.__init__", "is_word", "is_kind", "way_text", "config_text", "shape_text", "paper_text", "deed_text", "deeds_text", "letter_in", "way_in", "line_in", "lines_in", "shape_in", "number_in", "any_number_in", "deed_in", "rows_in", "read_paper", "read_deeds", "_law_draw", "_law_next", "_law_good_shapes", "_law_bad_shapes", "_law_good_deeds", "_law_bad_deeds", "law.<locals>.<lambda>0", "law.<locals>.<lambda>1", "law.<locals>.<lambda>2", "law.<locals>.<lambda>3", "_law_refused", "_law_spoiled", "law"]
end K82

set_option linter.all false
set_option maxRecDepth 100000
namespace K82
open PySem Cc PyProof.Rows
def b0 : Sx := Sx.seq (Sx.stk) (Sx.assign (Tx.fld (Ex.var 0) { cps := #[110, 117, 109, 98, 101, 114] }) (Ex.var 1))
theorem ds0 : C.ds 0 = ⟨2, 2, b0⟩ := by kernel_rfl
def b1 : Sx := Sx.ret
  (Ex.and
    (Ex.chain (Cop.le) (Cop.le) (Ex.const (PyData.int 1)) (Ex.bf (Bf.len) [Ex.var 0]) (Ex.const (PyData.int 8)))
    (Ex.bf (Bf.all) [Ex.comp [1] false false [1] true (Wk.seq) [Ex.var 0] none (Ex.cmp (Cop.isin) (Ex.var 1) (Ex.const (PyData.str { cps := #[97, 98, 99, 100, 101, 102, 103, 104, 105, 106, 107, 108, 109, 110, 111, 112, 113, 114, 115, 116, 117, 118, 119, 120, 121, 122] })))]))
theorem ds1 : C.ds 1 = ⟨1, 2, b1⟩ := by kernel_rfl
def b2 : Sx := Sx.ret (Ex.and (Ex.call (Cm.frz) 1 [Ex.var 0]) (Ex.cmp (Cop.notin) (Ex.var 0) (Ex.const (PyData.tuple [PyData.str { cps := #[114, 101, 97, 100] }, PyData.str { cps := #[119, 114, 105, 116, 101] }, PyData.str { cps := #[100, 114, 111, 112] }]))))
theorem ds2 : C.ds 2 = ⟨1, 1, b2⟩ := by kernel_rfl
def b3 : Sx := Sx.seq
  (Sx.ite (Bx.tru (Ex.cmp (Cop.eq) (Ex.var 0) (Ex.tup []))) (Sx.ret (Ex.const (PyData.str { cps := #[45] }))) (Sx.pass))
  (Sx.ret (Ex.bm (Bm.join) (Ex.const (PyData.str { cps := #[43] })) [Ex.comp [1, 2] false false [1, 2] false (Wk.seq) [Ex.var 0] none (Ex.bin (Bop.add) (Ex.bin (Bop.add) (Ex.var 1) (Ex.const (PyData.str { cps := #[46] }))) (Ex.var 2))]))
theorem ds3 : C.ds 3 = ⟨1, 3, b3⟩ := by kernel_rfl
def b4 : Sx := Sx.seq
  (Sx.unpack [Tx.name 1, Tx.name 2, Tx.name 3, Tx.name 4, Tx.name 5] (Ex.var 0))
  (Sx.ret
    (Ex.bm
      (Bm.join)
      (Ex.const (PyData.str { cps := #[32] }))
      [Ex.lst false [Ex.var 1, Ex.var 2, Ex.call (Cm.frz) 3 [Ex.var 3], Ex.call (Cm.frz) 3 [Ex.var 4], Ex.idx (Ex.const (PyData.tuple [PyData.str { cps := #[45] }, PyData.str { cps := #[115] }, PyData.str { cps := #[111] }, PyData.str { cps := #[115, 111] }])) (Ex.var 5)]]))
theorem ds4 : C.ds 4 = ⟨1, 6, b4⟩ := by kernel_rfl
def b5 : Sx := Sx.seq
  (Sx.assign (Tx.name 1) (Ex.bin (Bop.add) (Ex.bin (Bop.add) (Ex.idx (Ex.var 0) (Ex.const (PyData.int 0))) (Ex.const (PyData.str { cps := #[32] }))) (Ex.idx (Ex.var 0) (Ex.const (PyData.int 1)))))
  (Sx.seq
    (Sx.ite (Bx.tru (Ex.cmp (Cop.eq) (Ex.idx (Ex.var 0) (Ex.const (PyData.int 2))) (Ex.tup []))) (Sx.ret (Ex.var 1)) (Sx.pass))
    (Sx.ret
      (Ex.bin
        (Bop.add)
        (Ex.bin (Bop.add) (Ex.var 1) (Ex.const (PyData.str { cps := #[58, 32] })))
        (Ex.bm (Bm.join) (Ex.const (PyData.str { cps := #[59, 32] })) [Ex.comp [2, 3] false false [2, 3] false (Wk.seq) [Ex.idx (Ex.var 0) (Ex.const (PyData.int 2))] none (Ex.bin (Bop.add) (Ex.bin (Bop.add) (Ex.call (Cm.frz) 4 [Ex.var 2]) (Ex.const (PyData.str { cps := #[32] }))) (Ex.var 3))]))))
theorem ds5 : C.ds 5 = ⟨1, 4, b5⟩ := by kernel_rfl
def b6 : Sx := Sx.ret (Ex.bm (Bm.join) (Ex.const (PyData.str { cps := #[10] })) [Ex.comp [1] false false [1] true (Wk.seq) [Ex.var 0] none (Ex.call (Cm.frz) 5 [Ex.var 1])])
theorem ds6 : C.ds 6 = ⟨1, 2, b6⟩ := by kernel_rfl
def b7 : Sx := Sx.ret (Ex.bm (Bm.join) (Ex.const (PyData.str { cps := #[32] })) [Ex.comp [1] false false [1] true (Wk.seq) [Ex.var 0] none (Ex.bf (Bf.str) [Ex.var 1])])
theorem ds7 : C.ds 7 = ⟨1, 2, b7⟩ := by kernel_rfl
def b8 : Sx := Sx.ret (Ex.bm (Bm.join) (Ex.const (PyData.str { cps := #[10] })) [Ex.comp [1] false false [1] true (Wk.seq) [Ex.var 0] none (Ex.call (Cm.frz) 7 [Ex.var 1])])
theorem ds8 : C.ds 8 = ⟨1, 2, b8⟩ := by kernel_rfl
def b9 : Sx := Sx.seq
  (Sx.unpack [Tx.name 1, Tx.name 2, Tx.name 3] (Ex.bm (Bm.partition) (Ex.var 0) [Ex.const (PyData.str { cps := #[46] })]))
  (Sx.seq
    (Sx.ite (Bx.and (Bx.tru (Ex.call (Cm.frz) 2 [Ex.var 1])) (Bx.tru (Ex.cmp (Cop.isin) (Ex.var 3) (Ex.const (PyData.tuple [PyData.str { cps := #[98, 97, 114, 101] }, PyData.str { cps := #[108, 97, 115, 116] }, PyData.str { cps := #[111, 108, 100] }]))))) (Sx.ret (Ex.tup [Ex.var 1, Ex.var 3])) (Sx.pass))
    (Sx.ret (Ex.const (PyData.none))))
theorem ds9 : C.ds 9 = ⟨1, 4, b9⟩ := by kernel_rfl
def b10 : Sx := Sx.seq
  (Sx.ite (Bx.tru (Ex.cmp (Cop.eq) (Ex.var 0) (Ex.const (PyData.str { cps := #[45] })))) (Sx.ret (Ex.tup [])) (Sx.pass))
  (Sx.seq
    (Sx.assign (Tx.name 1) (Ex.comp [2] false false [2] true (Wk.seq) [Ex.bm (Bm.split) (Ex.var 0) [Ex.const (PyData.str { cps := #[43] })]] none (Ex.call (Cm.frz) 9 [Ex.var 2])))
    (Sx.seq (Sx.ite (Bx.or (Bx.tru (Ex.cmp (Cop.isin) (Ex.const (PyData.none)) (Ex.var 1))) (Bx.tru (Ex.cmp (Cop.gt) (Ex.bf (Bf.len) [Ex.var 1]) (Ex.const (PyData.int 2))))) (Sx.ret (Ex.const (PyData.none))) (Sx.pass)) (Sx.ret (Ex.bf (Bf.tuple) [Ex.var 1]))))
theorem ds10 : C.ds 10 = ⟨1, 3, b10⟩ := by kernel_rfl
def b11 : Sx := Sx.seq
  (Sx.assign (Tx.name 1) (Ex.bm (Bm.split) (Ex.var 0) [Ex.const (PyData.str { cps := #[32] })]))
  (Sx.seq
    (Sx.ite
      (Bx.or
        (Bx.tru (Ex.cmp (Cop.ne) (Ex.bf (Bf.len) [Ex.var 1]) (Ex.const (PyData.int 6))))
        (Bx.or
          (Bx.not (Bx.tru (Ex.call (Cm.frz) 1 [Ex.idx (Ex.var 1) (Ex.const (PyData.int 0))])))
          (Bx.tru (Ex.cmp (Cop.notin) (Ex.idx (Ex.var 1) (Ex.const (PyData.int 1))) (Ex.const (PyData.tuple [PyData.str { cps := #[110, 111, 110, 101] }, PyData.str { cps := #[108, 97, 115, 116] }, PyData.str { cps := #[111, 108, 100] }]))))))
      (Sx.ret (Ex.const (PyData.none)))
      (Sx.pass))
    (Sx.seq
      (Sx.assign (Tx.name 2) (Ex.call (Cm.frz) 10 [Ex.idx (Ex.var 1) (Ex.const (PyData.int 2))]))
      (Sx.seq
        (Sx.assign (Tx.name 3) (Ex.call (Cm.frz) 10 [Ex.idx (Ex.var 1) (Ex.const (PyData.int 3))]))
        (Sx.seq
          (Sx.ite
            (Bx.or
              (Bx.tru (Ex.cmp (Cop.is_) (Ex.var 2) (Ex.const (PyData.none))))
              (Bx.or
                (Bx.tru (Ex.cmp (Cop.is_) (Ex.var 3) (Ex.const (PyData.none))))
                (Bx.or
                  (Bx.tru (Ex.cmp (Cop.notin) (Ex.idx (Ex.var 1) (Ex.const (PyData.int 4))) (Ex.const (PyData.tuple [PyData.str { cps := #[45] }, PyData.str { cps := #[115] }, PyData.str { cps := #[111] }, PyData.str { cps := #[115, 111] }]))))
                  (Bx.tru (Ex.cmp (Cop.notin) (Ex.idx (Ex.var 1) (Ex.const (PyData.int 5))) (Ex.const (PyData.tuple [PyData.str { cps := #[111, 110, 101] }, PyData.str { cps := #[115, 111, 109, 101] }, PyData.str { cps := #[97, 110, 121] }])))))))
            (Sx.ret (Ex.const (PyData.none)))
            (Sx.pass))
          (Sx.ret
            (Ex.tup
              [Ex.tup [Ex.idx (Ex.var 1) (Ex.const (PyData.int 0)), Ex.idx (Ex.var 1) (Ex.const (PyData.int 1)), Ex.var 2, Ex.var 3, Ex.tix [PyData.str { cps := #[45] }, PyData.str { cps := #[115] }, PyData.str { cps := #[111] }, PyData.str { cps := #[115, 111] }] (Ex.idx (Ex.var 1) (Ex.const (PyData.int 4)))],
               Ex.idx (Ex.var 1) (Ex.const (PyData.int 5))]))))))
theorem ds11 : C.ds 11 = ⟨1, 4, b11⟩ := by kernel_rfl
def b12 : Sx := Sx.seq
  (Sx.assign (Tx.name 1) (Ex.comp [3] false false [3] true (Wk.seq) [Ex.bm (Bm.split) (Ex.var 0) [Ex.const (PyData.str { cps := #[59, 32] })]] none (Ex.call (Cm.frz) 11 [Ex.var 3])))
  (Sx.seq
    (Sx.ite (Bx.tru (Ex.cmp (Cop.isin) (Ex.const (PyData.none)) (Ex.var 1))) (Sx.ret (Ex.const (PyData.none))) (Sx.pass))
    (Sx.seq
      (Sx.for
        false
        [2]
        true
        (Wk.rng1)
        [Ex.bin (Bop.sub) (Ex.bf (Bf.len) [Ex.var 1]) (Ex.const (PyData.int 1))]
        (Sx.ite (Bx.tru (Ex.cmp (Cop.ge) (Ex.idx (Ex.idx (Ex.var 1) (Ex.var 2)) (Ex.const (PyData.int 0))) (Ex.idx (Ex.idx (Ex.var 1) (Ex.bin (Bop.add) (Ex.var 2) (Ex.const (PyData.int 1)))) (Ex.const (PyData.int 0))))) (Sx.ret (Ex.const (PyData.none))) (Sx.pass)))
      (Sx.ret (Ex.bf (Bf.tuple) [Ex.var 1]))))
theorem ds12 : C.ds 12 = ⟨1, 4, b12⟩ := by kernel_rfl
def b13 : Sx := Sx.seq
  (Sx.unpack [Tx.name 3, Tx.name 4, Tx.name 5] (Ex.bm (Bm.partition) (Ex.var 0) [Ex.const (PyData.str { cps := #[58, 32] })]))
  (Sx.seq
    (Sx.assign (Tx.name 1) (Ex.bm (Bm.split) (Ex.var 3) [Ex.const (PyData.str { cps := #[32] })]))
    (Sx.seq
      (Sx.ite
        (Bx.or
          (Bx.tru (Ex.cmp (Cop.ne) (Ex.bf (Bf.len) [Ex.var 1]) (Ex.const (PyData.int 2))))
          (Bx.or
            (Bx.not (Bx.tru (Ex.call (Cm.frz) 1 [Ex.idx (Ex.var 1) (Ex.const (PyData.int 0))])))
            (Bx.tru (Ex.cmp (Cop.notin) (Ex.idx (Ex.var 1) (Ex.const (PyData.int 1))) (Ex.const (PyData.tuple [PyData.str { cps := #[110, 111, 110, 101] }, PyData.str { cps := #[108, 97, 115, 116] }, PyData.str { cps := #[111, 108, 100] }]))))))
        (Sx.ret (Ex.const (PyData.none)))
        (Sx.pass))
      (Sx.seq
        (Sx.assign (Tx.name 2) (Ex.tup []))
        (Sx.seq
          (Sx.ite (Bx.tru (Ex.cmp (Cop.ne) (Ex.var 4) (Ex.const (PyData.str { cps := #[] })))) (Sx.assign (Tx.name 2) (Ex.call (Cm.frz) 12 [Ex.var 5])) (Sx.pass))
          (Sx.seq (Sx.ite (Bx.tru (Ex.cmp (Cop.is_) (Ex.var 2) (Ex.const (PyData.none)))) (Sx.ret (Ex.const (PyData.none))) (Sx.pass)) (Sx.ret (Ex.tup [Ex.idx (Ex.var 1) (Ex.const (PyData.int 0)), Ex.idx (Ex.var 1) (Ex.const (PyData.int 1)), Ex.var 2])))))))
theorem ds13 : C.ds 13 = ⟨1, 6, b13⟩ := by kernel_rfl
def b14 : Sx := Sx.seq
  (Sx.ite
    (Bx.or
      (Bx.not (Bx.tru (Ex.chain (Cop.le) (Cop.le) (Ex.const (PyData.int 1)) (Ex.bf (Bf.len) [Ex.var 0]) (Ex.var 1))))
      (Bx.not (Bx.tru (Ex.bf (Bf.all) [Ex.comp [2] false false [2] true (Wk.seq) [Ex.var 0] none (Ex.cmp (Cop.isin) (Ex.var 2) (Ex.const (PyData.str { cps := #[48, 49, 50, 51, 52, 53, 54, 55, 56, 57] })))]))))
    (Sx.ret (Ex.const (PyData.none)))
    (Sx.pass))
  (Sx.seq (Sx.ite (Bx.and (Bx.tru (Ex.cmp (Cop.eq) (Ex.idx (Ex.var 0) (Ex.const (PyData.int 0))) (Ex.const (PyData.str { cps := #[48] })))) (Bx.tru (Ex.cmp (Cop.ne) (Ex.var 0) (Ex.const (PyData.str { cps := #[48] }))))) (Sx.ret (Ex.const (PyData.none))) (Sx.pass)) (Sx.ret (Ex.bf (Bf.int) [Ex.var 0])))
theorem ds14 : C.ds 14 = ⟨2, 3, b14⟩ := by kernel_rfl
def b15 : Sx := Sx.seq
  (Sx.ite (Bx.not (Bx.tru (Ex.bm (Bm.startswith) (Ex.var 0) [Ex.const (PyData.str { cps := #[45] })]))) (Sx.ret (Ex.call (Cm.frz) 14 [Ex.var 0, Ex.const (PyData.int 40)])) (Sx.pass))
  (Sx.seq
    (Sx.assign (Tx.name 1) (Ex.call (Cm.frz) 14 [Ex.slice (Ex.var 0) (some (Ex.const (PyData.int 1))) none, Ex.const (PyData.int 40)]))
    (Sx.seq (Sx.ite (Bx.or (Bx.tru (Ex.cmp (Cop.is_) (Ex.var 1) (Ex.const (PyData.none)))) (Bx.tru (Ex.cmp (Cop.eq) (Ex.var 1) (Ex.const (PyData.int 0))))) (Sx.ret (Ex.const (PyData.none))) (Sx.pass)) (Sx.ret (Ex.bin (Bop.sub) (Ex.const (PyData.int 0)) (Ex.var 1)))))
theorem ds15 : C.ds 15 = ⟨1, 2, b15⟩ := by kernel_rfl
def b16 : Sx := Sx.seq
  (Sx.assign (Tx.name 1) (Ex.bm (Bm.split) (Ex.var 0) [Ex.const (PyData.str { cps := #[32] })]))
  (Sx.seq
    (Sx.ite (Bx.tru (Ex.cmp (Cop.lt) (Ex.bf (Bf.len) [Ex.var 1]) (Ex.const (PyData.int 3)))) (Sx.ret (Ex.const (PyData.none))) (Sx.pass))
    (Sx.seq
      (Sx.assign (Tx.name 2) (Ex.call (Cm.frz) 14 [Ex.idx (Ex.var 1) (Ex.const (PyData.int 1)), Ex.const (PyData.int 2)]))
      (Sx.seq
        (Sx.ite (Bx.tru (Ex.cmp (Cop.is_) (Ex.var 2) (Ex.const (PyData.none)))) (Sx.ret (Ex.const (PyData.none))) (Sx.pass))
        (Sx.seq
          (Sx.ite
            (Bx.and
              (Bx.tru (Ex.cmp (Cop.eq) (Ex.bf (Bf.len) [Ex.var 1]) (Ex.const (PyData.int 4))))
              (Bx.and
                (Bx.tru (Ex.cmp (Cop.eq) (Ex.idx (Ex.var 1) (Ex.const (PyData.int 0))) (Ex.const (PyData.str { cps := #[97, 115, 107] }))))
                (Bx.and (Bx.tru (Ex.cmp (Cop.eq) (Ex.idx (Ex.var 1) (Ex.const (PyData.int 2))) (Ex.const (PyData.str { cps := #[119, 114, 105, 116, 101] })))) (Bx.tru (Ex.cmp (Cop.isnot) (Ex.call (Cm.frz) 15 [Ex.idx (Ex.var 1) (Ex.const (PyData.int 3))]) (Ex.const (PyData.none)))))))
            (Sx.ret (Ex.tup [Ex.const (PyData.str { cps := #[97, 115, 107] }), Ex.var 2, Ex.const (PyData.str { cps := #[119, 114, 105, 116, 101] }), Ex.call (Cm.frz) 15 [Ex.idx (Ex.var 1) (Ex.const (PyData.int 3))]]))
            (Sx.pass))
          (Sx.seq
            (Sx.ite
              (Bx.and
                (Bx.tru (Ex.cmp (Cop.eq) (Ex.bf (Bf.len) [Ex.var 1]) (Ex.const (PyData.int 3))))
                (Bx.and
                  (Bx.tru (Ex.cmp (Cop.eq) (Ex.idx (Ex.var 1) (Ex.const (PyData.int 0))) (Ex.const (PyData.str { cps := #[97, 115, 107] }))))
                  (Bx.tru (Ex.cmp (Cop.isin) (Ex.idx (Ex.var 1) (Ex.const (PyData.int 2))) (Ex.tup [Ex.const (PyData.str { cps := #[114, 101, 97, 100] }), Ex.const (PyData.str { cps := #[100, 114, 111, 112] })])))))
              (Sx.ret (Ex.tup [Ex.const (PyData.str { cps := #[97, 115, 107] }), Ex.var 2, Ex.idx (Ex.var 1) (Ex.const (PyData.int 2))]))
              (Sx.pass))
            (Sx.seq
              (Sx.ite
                (Bx.and
                  (Bx.tru (Ex.cmp (Cop.eq) (Ex.bf (Bf.len) [Ex.var 1]) (Ex.const (PyData.int 3))))
                  (Bx.and
                    (Bx.tru (Ex.cmp (Cop.isin) (Ex.idx (Ex.var 1) (Ex.const (PyData.int 0))) (Ex.tup [Ex.const (PyData.str { cps := #[116, 97, 107, 101] }), Ex.const (PyData.str { cps := #[103, 101, 116] })])))
                    (Bx.tru (Ex.cmp (Cop.isnot) (Ex.call (Cm.frz) 14 [Ex.idx (Ex.var 1) (Ex.const (PyData.int 2)), Ex.const (PyData.int 2)]) (Ex.const (PyData.none))))))
                (Sx.ret (Ex.tup [Ex.idx (Ex.var 1) (Ex.const (PyData.int 0)), Ex.var 2, Ex.call (Cm.frz) 14 [Ex.idx (Ex.var 1) (Ex.const (PyData.int 2)), Ex.const (PyData.int 2)]]))
                (Sx.pass))
              (Sx.ret (Ex.const (PyData.none)))))))))
theorem ds16 : C.ds 16 = ⟨1, 3, b16⟩ := by kernel_rfl
def b17 : Sx := Sx.seq
  (Sx.ite (Bx.not (Bx.tru (Ex.bf (Bf.isa (Ty.str)) [Ex.var 0]))) (Sx.raise 2 [Ex.const (PyData.int 0)]) (Sx.pass))
  (Sx.seq
    (Sx.ite (Bx.tru (Ex.cmp (Cop.eq) (Ex.var 0) (Ex.const (PyData.str { cps := #[] })))) (Sx.ret (Ex.lst false [])) (Sx.pass))
    (Sx.seq
      (Sx.assign (Tx.name 2) (Ex.lst true []))
      (Sx.seq
        (Sx.for
          false
          [3]
          true
          (Wk.seq)
          [Ex.bm (Bm.split) (Ex.var 0) [Ex.const (PyData.str { cps := #[10] })]]
          (Sx.seq (Sx.assign (Tx.name 4) (Ex.callv (Cm.frz) 17 1 [Ex.var 3])) (Sx.seq (Sx.ite (Bx.tru (Ex.cmp (Cop.is_) (Ex.var 4) (Ex.const (PyData.none)))) (Sx.raise 2 [Ex.bf (Bf.len) [Ex.var 2]]) (Sx.pass)) (Sx.expr (Ex.mut (Mt.append) (Ex.var 2) [Ex.var 4])))))
        (Sx.ret (Ex.var 2)))))
theorem ds17 : C.ds 17 = ⟨2, 5, b17⟩ := by kernel_rfl
def b18 : Sx := Sx.ret (Ex.call (Cm.frz) 17 [Ex.var 0, Ex.gfn 13])
theorem ds18 : C.ds 18 = ⟨1, 1, b18⟩ := by kernel_rfl
def b19 : Sx := Sx.ret (Ex.call (Cm.frz) 17 [Ex.var 0, Ex.gfn 16])
theorem ds19 : C.ds 19 = ⟨1, 1, b19⟩ := by kernel_rfl
def b20 : Sx := Sx.ret (Ex.lst true [Ex.bin (Bop.mul) (Ex.bin (Bop.fdiv) (Ex.var 0) (Ex.const (PyData.int 2))) (Ex.bin (Bop.sub) (Ex.const (PyData.int 1)) (Ex.bin (Bop.mod) (Ex.var 0) (Ex.const (PyData.int 2)))), Ex.var 0])
theorem ds20 : C.ds 20 = ⟨1, 1, b20⟩ := by kernel_rfl
def b21 : Sx := Sx.seq
  (Sx.assign (Tx.sub (Ex.var 0) (Ex.const (PyData.int 1))) (Ex.bin (Bop.mod) (Ex.bin (Bop.add) (Ex.bin (Bop.mul) (Ex.idx (Ex.var 0) (Ex.const (PyData.int 1))) (Ex.const (PyData.int 48271))) (Ex.const (PyData.int 11))) (Ex.const (PyData.int 2147483647))))
  (Sx.seq
    (Sx.ite
      (Bx.tru (Ex.cmp (Cop.gt) (Ex.idx (Ex.var 0) (Ex.const (PyData.int 0))) (Ex.const (PyData.int 0))))
      (Sx.seq (Sx.assign (Tx.name 3) (Ex.bin (Bop.mod) (Ex.idx (Ex.var 0) (Ex.const (PyData.int 0))) (Ex.var 1))) (Sx.seq (Sx.assign (Tx.sub (Ex.var 0) (Ex.const (PyData.int 0))) (Ex.bin (Bop.fdiv) (Ex.idx (Ex.var 0) (Ex.const (PyData.int 0))) (Ex.var 1))) (Sx.ret (Ex.var 3))))
      (Sx.pass))
    (Sx.seq
      (Sx.assign (Tx.name 2) (Ex.bin (Bop.mod) (Ex.bin (Bop.mul) (Ex.idx (Ex.var 0) (Ex.const (PyData.int 1))) (Ex.bin (Bop.add) (Ex.bin (Bop.fdiv) (Ex.idx (Ex.var 0) (Ex.const (PyData.int 1))) (Ex.const (PyData.int 1009))) (Ex.const (PyData.int 69621)))) (Ex.const (PyData.int 2147483647))))
      (Sx.ret (Ex.bin (Bop.mod) (Ex.bin (Bop.mod) (Ex.bin (Bop.mul) (Ex.var 2) (Ex.bin (Bop.add) (Ex.bin (Bop.fdiv) (Ex.var 2) (Ex.const (PyData.int 757))) (Ex.const (PyData.int 16807)))) (Ex.const (PyData.int 2147483629))) (Ex.var 1)))))
theorem ds21 : C.ds 21 = ⟨2, 4, b21⟩ := by kernel_rfl
def b22 : Sx := Sx.seq
  (Sx.assign (Tx.name 0) (Ex.lst true [Ex.const (PyData.str { cps := #[104, 111, 109, 101, 32, 108, 97, 115, 116] }), Ex.const (PyData.str { cps := #[104, 111, 109, 101, 32, 110, 111, 110, 101, 58, 32, 105, 100, 108, 101, 32, 110, 111, 110, 101, 32, 45, 32, 45, 32, 45, 32, 97, 110, 121] })]))
  (Sx.seq
    (Sx.assign
      (Tx.name 0)
      (Ex.cell (Ex.bin (Bop.add) (Ex.var 0) (Ex.lst false [Ex.const (PyData.str { cps := #[111, 117, 116, 32, 111, 108, 100, 58, 32, 105, 100, 108, 101, 32, 110, 111, 110, 101, 32, 45, 32, 103, 101, 116, 46, 98, 97, 114, 101, 32, 45, 32, 115, 111, 109, 101, 59, 32, 109, 105, 110, 101, 32, 108, 97, 115, 116, 32, 45, 32, 45, 32, 111, 32, 111, 110, 101] })]))))
    (Sx.seq
      (Sx.assign (Tx.name 1) (Ex.const (PyData.str { cps := #[97, 32, 111, 108, 100, 32, 103, 105, 118, 101, 46, 111, 108, 100, 43, 99, 97, 108, 108, 46, 108, 97, 115, 116, 32, 45, 32, 115, 111, 32, 97, 110, 121] })))
      (Sx.seq
        (Sx.expr
          (Ex.mut
            (Mt.append)
            (Ex.var 0)
            [Ex.bin
               (Bop.add)
               (Ex.bin (Bop.add) (Ex.const (PyData.str { cps := #[99, 97, 108, 108, 115, 32, 111, 108, 100, 58, 32, 97, 32, 111, 108, 100, 32, 103, 105, 118, 101, 46, 111, 108, 100, 43, 99, 97, 108, 108, 46, 98, 97, 114, 101, 32, 45, 32, 115, 111, 32, 97, 110, 121, 59, 32] })) (Ex.var 1))
               (Ex.const (PyData.str { cps := #[59, 32, 98, 32, 110, 111, 110, 101, 32, 45, 32, 45, 32, 115, 32, 111, 110, 101] }))]))
        (Sx.seq
          (Sx.assign
            (Tx.name 0)
            (Ex.cell
              (Ex.bin
                (Bop.add)
                (Ex.var 0)
                (Ex.lst
                  false
                  [Ex.const (PyData.str { cps := #[104, 32, 108, 97, 115, 116, 58, 32, 105, 100, 108, 101, 32, 108, 97, 115, 116, 32, 45, 32, 45, 32, 45, 32, 111, 110, 101, 59, 32, 105, 100, 108, 101, 32, 108, 97, 115, 116, 32, 45, 32, 45, 32, 115, 32, 111, 110, 101, 59, 32, 105, 100, 108, 101, 32, 108, 97, 115, 116, 32, 45, 32, 97, 46, 98, 97, 114, 101, 32, 45, 32, 111, 110, 101] })]))))
          (Sx.ret (Ex.bin (Bop.add) (Ex.var 0) (Ex.lst false [Ex.const (PyData.str { cps := #[101, 105, 103, 104, 116, 108, 101, 116, 32, 110, 111, 110, 101] })])))))))
theorem ds22 : C.ds 22 = ⟨0, 2, b22⟩ := by kernel_rfl
def b23 : Sx := Sx.seq
  (Sx.assign (Tx.name 0) (Ex.const (PyData.str { cps := #[105, 100, 108, 101, 32, 110, 111, 110, 101, 32, 45, 32, 45, 32, 45, 32, 97, 110, 121] })))
  (Sx.seq
    (Sx.assign
      (Tx.name 1)
      (Ex.lst
        false
        [Ex.const (PyData.str { cps := #[] }),
         Ex.const (PyData.str { cps := #[104, 111, 109, 101] }),
         Ex.const (PyData.str { cps := #[104, 111, 109, 101, 32] }),
         Ex.const (PyData.str { cps := #[32, 104, 111, 109, 101, 32, 108, 97, 115, 116] }),
         Ex.const (PyData.str { cps := #[104, 111, 109, 101, 32, 108, 97, 115, 116, 32] }),
         Ex.const (PyData.str { cps := #[104, 111, 109, 101, 32, 108, 97, 115, 116, 58] }),
         Ex.const (PyData.str { cps := #[104, 111, 109, 101, 32, 108, 97, 115, 116, 58, 32] })]))
    (Sx.seq
      (Sx.assign (Tx.name 1) (Ex.bin (Bop.add) (Ex.var 1) (Ex.lst false [Ex.const (PyData.str { cps := #[104, 111, 109, 101, 32, 98, 97, 114, 101] }), Ex.const (PyData.str { cps := #[72, 111, 109, 101, 32, 108, 97, 115, 116] })])))
      (Sx.seq
        (Sx.assign
          (Tx.name 1)
          (Ex.bin
            (Bop.add)
            (Ex.var 1)
            (Ex.lst
              false
              [Ex.const (PyData.str { cps := #[104, 111, 109, 101, 32, 108, 97, 115, 116, 32, 120] }),
               Ex.bin (Bop.add) (Ex.const (PyData.str { cps := #[104, 111, 109, 101, 32, 108, 97, 115, 116, 58] })) (Ex.var 0),
               Ex.bin (Bop.add) (Ex.const (PyData.str { cps := #[104, 111, 109, 101, 32, 108, 97, 115, 116, 32, 58, 32] })) (Ex.var 0),
               Ex.const (PyData.str { cps := #[110, 105, 110, 101, 108, 101, 116, 116, 101, 32, 108, 97, 115, 116] })])))
        (Sx.seq
          (Sx.assign (Tx.name 1) (Ex.bin (Bop.add) (Ex.var 1) (Ex.lst false [Ex.const (PyData.str { cps := #[104, 49, 32, 108, 97, 115, 116] }), Ex.const (PyData.str { cps := #[104, 111, 109, 101, 32, 76, 97, 115, 116] })])))
          (Sx.seq
            (Sx.assign
              (Tx.name 1)
              (Ex.bin
                (Bop.add)
                (Ex.var 1)
                (Ex.lst false [Ex.const (PyData.str { cps := #[104, 111, 109, 101, 32, 108, 97, 115, 116, 58, 32, 105, 100, 108, 101, 32, 110, 111, 110, 101, 32, 45, 32, 45, 32, 97, 110, 121] }), Ex.const (PyData.str { cps := #[104, 111, 109, 101, 32, 108, 97, 115, 116, 58, 32, 105, 100, 108, 101, 32, 110, 111, 110, 101, 32, 45, 32, 45, 32, 45, 32, 45, 32, 97, 110, 121] })])))
            (Sx.seq
              (Sx.assign (Tx.name 1) (Ex.bin (Bop.add) (Ex.var 1) (Ex.lst false [Ex.bin (Bop.add) (Ex.bin (Bop.add) (Ex.const (PyData.str { cps := #[104, 111, 109, 101, 32, 108, 97, 115, 116, 58, 32] })) (Ex.var 0)) (Ex.const (PyData.str { cps := #[59] }))])))
              (Sx.seq
                (Sx.assign
                  (Tx.name 1)
                  (Ex.bin
                    (Bop.add)
                    (Ex.var 1)
                    (Ex.lst
                      false
                      [Ex.bin (Bop.add) (Ex.bin (Bop.add) (Ex.const (PyData.str { cps := #[104, 111, 109, 101, 32, 108, 97, 115, 116, 58, 32] })) (Ex.var 0)) (Ex.const (PyData.str { cps := #[59, 32] })),
                       Ex.bin (Bop.add) (Ex.bin (Bop.add) (Ex.bin (Bop.add) (Ex.const (PyData.str { cps := #[104, 111, 109, 101, 32, 108, 97, 115, 116, 58, 32] })) (Ex.var 0)) (Ex.const (PyData.str { cps := #[59] }))) (Ex.var 0)])))
                (Sx.seq
                  (Sx.assign (Tx.name 1) (Ex.bin (Bop.add) (Ex.var 1) (Ex.lst false [Ex.bin (Bop.add) (Ex.bin (Bop.add) (Ex.bin (Bop.add) (Ex.const (PyData.str { cps := #[104, 111, 109, 101, 32, 108, 97, 115, 116, 58, 32] })) (Ex.var 0)) (Ex.const (PyData.str { cps := #[59, 32] }))) (Ex.var 0)])))
                  (Sx.seq
                    (Sx.assign
                      (Tx.name 1)
                      (Ex.bin (Bop.add) (Ex.var 1) (Ex.lst false [Ex.bin (Bop.add) (Ex.bin (Bop.add) (Ex.const (PyData.str { cps := #[104, 111, 109, 101, 32, 108, 97, 115, 116, 58, 32] })) (Ex.var 0)) (Ex.const (PyData.str { cps := #[59, 32, 105, 100, 108, 101, 32, 110, 111, 110, 101, 32, 45, 32, 45, 32, 45, 32, 111, 110, 101] }))])))
                    (Sx.seq
                      (Sx.assign (Tx.name 1) (Ex.bin (Bop.add) (Ex.var 1) (Ex.lst false [Ex.const (PyData.str { cps := #[104, 111, 109, 101, 32, 108, 97, 115, 116, 58, 32, 98, 32, 110, 111, 110, 101, 32, 45, 32, 45, 32, 45, 32, 97, 110, 121, 59, 32, 97, 32, 110, 111, 110, 101, 32, 45, 32, 45, 32, 45, 32, 97, 110, 121] })])))
                      (Sx.seq
                        (Sx.assign
                          (Tx.name 1)
                          (Ex.bin
                            (Bop.add)
                            (Ex.var 1)
                            (Ex.lst
                              false
                              [Ex.const (PyData.str { cps := #[104, 111, 109, 101, 32, 108, 97, 115, 116, 58, 32, 105, 100, 108, 101, 32, 98, 97, 114, 101, 32, 45, 32, 45, 32, 45, 32, 97, 110, 121] }), Ex.const (PyData.str { cps := #[104, 111, 109, 101, 32, 108, 97, 115, 116, 58, 32, 105, 100, 108, 101, 32, 110, 111, 110, 101, 32, 45, 32, 45, 32, 120, 32, 97, 110, 121] })])))
                        (Sx.seq
                          (Sx.assign (Tx.name 1) (Ex.bin (Bop.add) (Ex.var 1) (Ex.lst false [Ex.const (PyData.str { cps := #[104, 111, 109, 101, 32, 108, 97, 115, 116, 58, 32, 105, 100, 108, 101, 32, 110, 111, 110, 101, 32, 45, 32, 45, 32, 111, 115, 32, 97, 110, 121] })])))
                          (Sx.seq
                            (Sx.assign
                              (Tx.name 1)
                              (Ex.bin
                                (Bop.add)
                                (Ex.var 1)
                                (Ex.lst
                                  false
                                  [Ex.const (PyData.str { cps := #[104, 111, 109, 101, 32, 108, 97, 115, 116, 58, 32, 105, 100, 108, 101, 32, 110, 111, 110, 101, 32, 45, 32, 45, 32, 45, 32, 116, 119, 111] }), Ex.const (PyData.str { cps := #[104, 111, 109, 101, 32, 108, 97, 115, 116, 58, 32, 105, 100, 108, 101, 32, 110, 111, 110, 101, 32, 45, 32, 45, 32, 45, 32, 49] })])))
                            (Sx.seq
                              (Sx.assign (Tx.name 1) (Ex.bin (Bop.add) (Ex.var 1) (Ex.lst false [Ex.const (PyData.str { cps := #[104, 111, 109, 101, 32, 108, 97, 115, 116, 58, 32, 105, 100, 108, 101, 32, 110, 111, 110, 101, 32, 32, 45, 32, 45, 32, 45, 32, 97, 110, 121] })])))
                              (Sx.seq
                                (Sx.assign (Tx.name 1) (Ex.bin (Bop.add) (Ex.var 1) (Ex.lst false [Ex.const (PyData.str { cps := #[104, 111, 109, 101, 32, 108, 97, 115, 116, 58, 32, 105, 100, 108, 101, 32, 110, 111, 110, 101, 32, 97, 46, 98, 97, 114, 101, 43, 98, 46, 98, 97, 114, 101, 43, 99, 46, 98, 97, 114, 101, 32, 45, 32, 45, 32, 97, 110, 121] })])))
                                (Sx.seq
                                  (Sx.assign (Tx.name 1) (Ex.bin (Bop.add) (Ex.var 1) (Ex.lst false [Ex.const (PyData.str { cps := #[104, 111, 109, 101, 32, 108, 97, 115, 116, 58, 32, 105, 100, 108, 101, 32, 110, 111, 110, 101, 32, 97, 32, 45, 32, 45, 32, 97, 110, 121] })])))
                                  (Sx.seq
                                    (Sx.assign (Tx.name 1) (Ex.bin (Bop.add) (Ex.var 1) (Ex.lst false [Ex.const (PyData.str { cps := #[104, 111, 109, 101, 32, 108, 97, 115, 116, 58, 32, 105, 100, 108, 101, 32, 110, 111, 110, 101, 32, 97, 46, 110, 111, 110, 101, 32, 45, 32, 45, 32, 97, 110, 121] })])))
                                    (Sx.seq
                                      (Sx.assign (Tx.name 1) (Ex.bin (Bop.add) (Ex.var 1) (Ex.lst false [Ex.const (PyData.str { cps := #[104, 111, 109, 101, 32, 108, 97, 115, 116, 58, 32, 105, 100, 108, 101, 32, 110, 111, 110, 101, 32, 114, 101, 97, 100, 46, 98, 97, 114, 101, 32, 45, 32, 45, 32, 97, 110, 121] })])))
                                      (Sx.seq
                                        (Sx.assign (Tx.name 1) (Ex.bin (Bop.add) (Ex.var 1) (Ex.lst false [Ex.const (PyData.str { cps := #[104, 111, 109, 101, 32, 108, 97, 115, 116, 58, 32, 105, 100, 108, 101, 32, 110, 111, 110, 101, 32, 45, 32, 119, 114, 105, 116, 101, 46, 108, 97, 115, 116, 32, 45, 32, 97, 110, 121] })])))
                                        (Sx.seq
                                          (Sx.assign (Tx.name 1) (Ex.bin (Bop.add) (Ex.var 1) (Ex.lst false [Ex.const (PyData.str { cps := #[104, 111, 109, 101, 32, 108, 97, 115, 116, 58, 32, 105, 100, 108, 101, 32, 110, 111, 110, 101, 32, 97, 46, 98, 97, 114, 101, 43, 32, 45, 32, 45, 32, 97, 110, 121] })])))
                                          (Sx.seq
                                            (Sx.assign (Tx.name 1) (Ex.bin (Bop.add) (Ex.var 1) (Ex.lst false [Ex.const (PyData.str { cps := #[104, 111, 109, 101, 32, 108, 97, 115, 116, 58, 32, 105, 100, 108, 101, 32, 110, 111, 110, 101, 32, 43, 97, 46, 98, 97, 114, 101, 32, 45, 32, 45, 32, 97, 110, 121] })])))
                                            (Sx.seq
                                              (Sx.assign
                                                (Tx.name 1)
                                                (Ex.bin
                                                  (Bop.add)
                                                  (Ex.var 1)
                                                  (Ex.lst
                                                    false
                                                    [Ex.const (PyData.str { cps := #[104, 111, 109, 101, 32, 108, 97, 115, 116, 58, 32, 105, 100, 108, 101, 32, 110, 111, 110, 101, 32, 97, 46, 98, 97, 114, 101, 43, 45, 32, 45, 32, 45, 32, 97, 110, 121] }),
                                                     Ex.const (PyData.str { cps := #[104, 111, 109, 101, 32, 108, 97, 115, 116, 58, 32, 73, 100, 108, 101, 32, 110, 111, 110, 101, 32, 45, 32, 45, 32, 45, 32, 97, 110, 121] })])))
                                              (Sx.seq
                                                (Sx.assign (Tx.name 1) (Ex.bin (Bop.add) (Ex.var 1) (Ex.lst false [Ex.const (PyData.str { cps := #[104, 111, 109, 101, 32, 108, 97, 115, 116, 58, 32, 105, 100, 108, 101, 32, 110, 111, 110, 101, 32, 45, 45, 32, 45, 32, 45, 32, 97, 110, 121] })])))
                                                (Sx.ret
                                                  (Ex.bin
                                                    (Bop.add)
                                                    (Ex.var 1)
                                                    (Ex.lst
                                                      false
                                                      [Ex.const (PyData.str { cps := #[104, 111, 109, 101, 32, 108, 97, 115, 116, 58, 32, 105, 100, 108, 101, 32, 110, 111, 110, 101, 32, 97, 46, 98, 97, 114, 101, 44, 98, 46, 98, 97, 114, 101, 32, 45, 32, 45, 32, 97, 110, 121] }),
                                                       Ex.bin (Bop.add) (Ex.const (PyData.str { cps := #[104, 111, 109, 101, 32, 108, 97, 115, 116, 44, 32] })) (Ex.var 0)]))))))))))))))))))))))))))
theorem ds23 : C.ds 23 = ⟨0, 2, b23⟩ := by kernel_rfl
def b24 : Sx := Sx.seq
  (Sx.assign
    (Tx.name 0)
    (Ex.lst
      false
      [Ex.const (PyData.str { cps := #[97, 115, 107, 32, 48, 32, 114, 101, 97, 100] }),
       Ex.const (PyData.str { cps := #[97, 115, 107, 32, 49, 50, 32, 100, 114, 111, 112] }),
       Ex.const (PyData.str { cps := #[97, 115, 107, 32, 51, 32, 119, 114, 105, 116, 101, 32, 48] }),
       Ex.const (PyData.str { cps := #[97, 115, 107, 32, 48, 32, 119, 114, 105, 116, 101, 32, 45, 55] })]))
  (Sx.seq
    (Sx.assign
      (Tx.name 0)
      (Ex.bin (Bop.add) (Ex.var 0) (Ex.lst false [Ex.bin (Bop.add) (Ex.const (PyData.str { cps := #[97, 115, 107, 32, 49, 32, 119, 114, 105, 116, 101, 32] })) (Ex.bin (Bop.mul) (Ex.const (PyData.str { cps := #[57] })) (Ex.const (PyData.int 40))), Ex.const (PyData.str { cps := #[116, 97, 107, 101, 32, 48, 32, 48] })])))
    (Sx.ret
      (Ex.bin
        (Bop.add)
        (Ex.var 0)
        (Ex.lst
          false
          [Ex.const (PyData.str { cps := #[103, 101, 116, 32, 53, 32, 49] }),
           Ex.const (PyData.str { cps := #[116, 97, 107, 101, 32, 57, 57, 32, 49, 50] }),
           Ex.const (PyData.str { cps := #[103, 101, 116, 32, 48, 32, 48] }),
           Ex.bin (Bop.add) (Ex.const (PyData.str { cps := #[97, 115, 107, 32, 55, 32, 119, 114, 105, 116, 101, 32, 45] })) (Ex.bin (Bop.mul) (Ex.const (PyData.str { cps := #[49] })) (Ex.const (PyData.int 40)))]))))
theorem ds24 : C.ds 24 = ⟨0, 1, b24⟩ := by kernel_rfl
def b25 : Sx := Sx.seq
  (Sx.assign
    (Tx.name 0)
    (Ex.lst
      false
      [Ex.const (PyData.str { cps := #[] }),
       Ex.const (PyData.str { cps := #[97, 115, 107] }),
       Ex.const (PyData.str { cps := #[97, 115, 107, 32, 48] }),
       Ex.const (PyData.str { cps := #[97, 115, 107, 32, 48, 32] }),
       Ex.const (PyData.str { cps := #[97, 115, 107, 32, 48, 32, 119, 114, 105, 116, 101] }),
       Ex.const (PyData.str { cps := #[97, 115, 107, 32, 48, 32, 119, 114, 105, 116, 101, 32] }),
       Ex.const (PyData.str { cps := #[97, 115, 107, 32, 48, 32, 114, 101, 97, 100, 32, 49] })]))
  (Sx.seq
    (Sx.assign (Tx.name 0) (Ex.bin (Bop.add) (Ex.var 0) (Ex.lst false [Ex.const (PyData.str { cps := #[97, 115, 107, 32, 48, 48, 32, 114, 101, 97, 100] }), Ex.const (PyData.str { cps := #[97, 115, 107, 32, 45, 49, 32, 114, 101, 97, 100] })])))
    (Sx.seq
      (Sx.assign
        (Tx.name 0)
        (Ex.bin
          (Bop.add)
          (Ex.var 0)
          (Ex.lst
            false
            [Ex.const (PyData.str { cps := #[97, 115, 107, 32, 49, 48, 48, 32, 114, 101, 97, 100] }),
             Ex.const (PyData.str { cps := #[97, 115, 107, 32, 48, 32, 82, 101, 97, 100] }),
             Ex.const (PyData.str { cps := #[97, 115, 107, 32, 48, 32, 111, 119, 110] }),
             Ex.const (PyData.str { cps := #[97, 115, 107, 32, 120, 32, 114, 101, 97, 100] }),
             Ex.const (PyData.str { cps := #[97, 115, 107, 32, 48, 32, 119, 114, 105, 116, 101, 32, 48, 55] })])))
      (Sx.seq
        (Sx.assign (Tx.name 0) (Ex.bin (Bop.add) (Ex.var 0) (Ex.lst false [Ex.const (PyData.str { cps := #[97, 115, 107, 32, 48, 32, 119, 114, 105, 116, 101, 32, 45, 48] }), Ex.const (PyData.str { cps := #[97, 115, 107, 32, 48, 32, 119, 114, 105, 116, 101, 32, 43, 49] })])))
        (Sx.seq
          (Sx.assign
            (Tx.name 0)
            (Ex.bin
              (Bop.add)
              (Ex.var 0)
              (Ex.lst
                false
                [Ex.bin (Bop.add) (Ex.const (PyData.str { cps := #[97, 115, 107, 32, 48, 32, 119, 114, 105, 116, 101, 32] })) (Ex.bin (Bop.mul) (Ex.const (PyData.str { cps := #[49] })) (Ex.const (PyData.int 41))),
                 Ex.bin (Bop.add) (Ex.const (PyData.str { cps := #[97, 115, 107, 32, 48, 32, 119, 114, 105, 116, 101, 32, 45] })) (Ex.bin (Bop.mul) (Ex.const (PyData.str { cps := #[49] })) (Ex.const (PyData.int 41))),
                 Ex.const (PyData.str { cps := #[97, 115, 107, 32, 48, 32, 119, 114, 105, 116, 101, 32, 49, 32, 50] })])))
          (Sx.seq
            (Sx.assign (Tx.name 0) (Ex.bin (Bop.add) (Ex.var 0) (Ex.lst false [Ex.const (PyData.str { cps := #[97, 115, 107, 32, 32, 48, 32, 114, 101, 97, 100] }), Ex.const (PyData.str { cps := #[32, 97, 115, 107, 32, 48, 32, 114, 101, 97, 100] })])))
            (Sx.seq
              (Sx.assign
                (Tx.name 0)
                (Ex.bin
                  (Bop.add)
                  (Ex.var 0)
                  (Ex.lst
                    false
                    [Ex.const (PyData.str { cps := #[97, 115, 107, 32, 48, 32, 114, 101, 97, 100, 32] }),
                     Ex.const (PyData.str { cps := #[116, 97, 107, 101, 32, 48] }),
                     Ex.const (PyData.str { cps := #[116, 97, 107, 101, 32, 48, 32] }),
                     Ex.const (PyData.str { cps := #[116, 97, 107, 101, 32, 48, 32, 48, 49] }),
                     Ex.const (PyData.str { cps := #[116, 97, 107, 101, 32, 48, 32, 45, 49] }),
                     Ex.const (PyData.str { cps := #[116, 97, 107, 101, 32, 48, 32, 49, 48, 48] })])))
              (Sx.seq
                (Sx.assign (Tx.name 0) (Ex.bin (Bop.add) (Ex.var 0) (Ex.lst false [Ex.const (PyData.str { cps := #[116, 97, 107, 101, 32, 48, 32, 120] }), Ex.const (PyData.str { cps := #[116, 97, 107, 101, 32, 48, 32, 48, 32, 48] }), Ex.const (PyData.str { cps := #[103, 101, 116, 32, 48] })])))
                (Sx.seq
                  (Sx.assign
                    (Tx.name 0)
                    (Ex.bin
                      (Bop.add)
                      (Ex.var 0)
                      (Ex.lst
                        false
                        [Ex.const (PyData.str { cps := #[103, 101, 116, 32, 48, 48, 32, 48] }),
                         Ex.const (PyData.str { cps := #[103, 101, 116, 32, 48, 32, 49, 46] }),
                         Ex.const (PyData.str { cps := #[112, 117, 116, 32, 48, 32, 48] }),
                         Ex.const (PyData.str { cps := #[84, 97, 107, 101, 32, 48, 32, 48] }),
                         Ex.const (PyData.str { cps := #[116, 97, 107, 101, 44, 48, 44, 48] }),
                         Ex.const (PyData.str { cps := #[103, 101, 116, 32, 48, 32, 119, 114, 105, 116, 101] })])))
                  (Sx.ret (Ex.bin (Bop.add) (Ex.var 0) (Ex.lst false [Ex.const (PyData.str { cps := #[119, 114, 111, 116, 101, 32, 48, 32, 49] })])))))))))))
theorem ds25 : C.ds 25 = ⟨0, 1, b25⟩ := by kernel_rfl
def b26 : Sx := Sx.ret (Ex.call (Cm.frz) 18 [Ex.var 0])
theorem ds26 : C.ds 26 = ⟨1, 1, b26⟩ := by kernel_rfl
def b27 : Sx := Sx.ret (Ex.call (Cm.frz) 19 [Ex.var 0])
theorem ds27 : C.ds 27 = ⟨1, 1, b27⟩ := by kernel_rfl
def b28 : Sx := Sx.ret (Ex.call (Cm.frz) 18 [Ex.var 0])
theorem ds28 : C.ds 28 = ⟨1, 1, b28⟩ := by kernel_rfl
def b29 : Sx := Sx.ret (Ex.call (Cm.frz) 19 [Ex.var 0])
theorem ds29 : C.ds 29 = ⟨1, 1, b29⟩ := by kernel_rfl
def b30 : Sx := Sx.seq
  (Sx.tr
    none
    (Ex.callc (Cm.frz) 3 30 0 [Ex.var 1])
    [(0, true), (1, true), (2, true), (3, true), (4, true)]
    (Hd.tell 2 3 4 2 [[(0, false), (1, true), (2, false), (3, false), (4, false)], [(0, false), (1, false), (2, false), (3, true), (4, false)], [(0, false), (1, false), (2, false), (3, false), (4, true)]] [[(0, false), (1, false), (2, true), (3, false), (4, false)], [(0, true), (1, true), (2, true), (3, true), (4, true)]] { cps := #[110, 117, 109, 98, 101, 114] }))
  (Sx.ret (Ex.const (PyData.bool false)))
theorem ds30 : C.ds 30 = ⟨3, 5, b30⟩ := by kernel_rfl
def b31 : Sx := Sx.seq
  (Sx.assign (Tx.name 4) (Ex.comp [8] false false [8] true (Wk.rng1) [Ex.bin (Bop.add) (Ex.const (PyData.int 1)) (Ex.call (Cm.frz) 21 [Ex.var 0, Ex.const (PyData.int 6)])] none (Ex.idx (Ex.var 2) (Ex.call (Cm.frz) 21 [Ex.var 0, Ex.bf (Bf.len) [Ex.var 2]]))))
  (Sx.seq
    (Sx.ite (Bx.tru (Ex.cmp (Cop.ne) (Ex.bf (Bf.len) [Ex.callc (Cm.frz) 3 31 1 [Ex.bm (Bm.join) (Ex.const (PyData.str { cps := #[10] })) [Ex.var 4]]]) (Ex.bf (Bf.len) [Ex.var 4]))) (Sx.ret (Ex.const (PyData.bool false))) (Sx.pass))
    (Sx.seq
      (Sx.assign (Tx.name 5) (Ex.call (Cm.frz) 21 [Ex.var 0, Ex.bf (Bf.len) [Ex.var 4]]))
      (Sx.seq
        (Sx.assign (Tx.name 6) (Ex.call (Cm.frz) 21 [Ex.var 0, Ex.bf (Bf.len) [Ex.var 4]]))
        (Sx.seq
          (Sx.assign (Tx.name 7) (Ex.cell (Ex.bf (Bf.list) [Ex.var 4])))
          (Sx.seq
            (Sx.assign (Tx.sub (Ex.var 7) (Ex.var 5)) (Ex.idx (Ex.var 3) (Ex.call (Cm.frz) 21 [Ex.var 0, Ex.bf (Bf.len) [Ex.var 3]])))
            (Sx.seq
              (Sx.ite (Bx.tru (Ex.cmp (Cop.gt) (Ex.var 6) (Ex.var 5))) (Sx.assign (Tx.sub (Ex.var 7) (Ex.var 6)) (Ex.idx (Ex.var 3) (Ex.call (Cm.frz) 21 [Ex.var 0, Ex.bf (Bf.len) [Ex.var 3]]))) (Sx.pass))
              (Sx.seq
                (Sx.ite (Bx.tru (Ex.cmp (Cop.eq) (Ex.var 7) (Ex.lst false [Ex.const (PyData.str { cps := #[] })]))) (Sx.ret (Ex.cmp (Cop.eq) (Ex.callc (Cm.frz) 3 31 1 [Ex.const (PyData.str { cps := #[] })]) (Ex.lst false []))) (Sx.pass))
                (Sx.ret (Ex.calla (Cm.frz) 3 30 [Ex.cv 1, Ex.bm (Bm.join) (Ex.const (PyData.str { cps := #[10] })) [Ex.var 7], Ex.var 5])))))))))
theorem ds31 : C.ds 31 = ⟨4, 9, b31⟩ := by kernel_rfl
def b32 : Sx := Sx.seq
  (Sx.for
    true
    [1]
    true
    (Wk.seq)
    [Ex.slice (Ex.var 0) none (some (Ex.const (PyData.int 24)))]
    (Sx.seq
      (Sx.assign (Tx.name 4) (Ex.call (Cm.keep) 20 [Ex.var 1]))
      (Sx.seq
        (Sx.assign (Tx.name 2) (Ex.call (Cm.frz) 22 []))
        (Sx.seq
          (Sx.ite (Bx.not (Bx.tru (Ex.calla (Cm.frz) 3 31 [Ex.var 4, Ex.lam 26 [], Ex.var 2, Ex.call (Cm.frz) 23 []]))) (Sx.ret (Ex.const (PyData.bool false))) (Sx.pass))
          (Sx.seq
            (Sx.assign (Tx.name 3) (Ex.call (Cm.frz) 24 []))
            (Sx.seq
              (Sx.ite (Bx.not (Bx.tru (Ex.calla (Cm.frz) 3 31 [Ex.var 4, Ex.lam 27 [], Ex.var 3, Ex.call (Cm.frz) 25 []]))) (Sx.ret (Ex.const (PyData.bool false))) (Sx.pass))
              (Sx.seq
                (Sx.assign
                  (Tx.name 5)
                  (Ex.idx
                    (Ex.lst false [Ex.const (PyData.none), Ex.const (PyData.int 5), Ex.lst false [Ex.const (PyData.str { cps := #[104, 111, 109, 101, 32, 108, 97, 115, 116] })], Ex.tup [Ex.const (PyData.str { cps := #[97, 115, 107] }), Ex.const (PyData.int 0), Ex.const (PyData.str { cps := #[114, 101, 97, 100] })]])
                    (Ex.bin (Bop.mod) (Ex.var 1) (Ex.const (PyData.int 4)))))
                (Sx.seq
                  (Sx.ite (Bx.not (Bx.tru (Ex.calla (Cm.frz) 3 30 [Ex.lam 28 [], Ex.var 5, Ex.const (PyData.int 0)]))) (Sx.ret (Ex.const (PyData.bool false))) (Sx.pass))
                  (Sx.ite (Bx.not (Bx.tru (Ex.calla (Cm.frz) 3 30 [Ex.lam 29 [], Ex.var 5, Ex.const (PyData.int 0)]))) (Sx.ret (Ex.const (PyData.bool false))) (Sx.pass))))))))))
  (Sx.seq
    (Sx.assign (Tx.name 2) (Ex.bm (Bm.join) (Ex.const (PyData.str { cps := #[10] })) [Ex.call (Cm.frz) 22 []]))
    (Sx.seq (Sx.assign (Tx.name 3) (Ex.bm (Bm.join) (Ex.const (PyData.str { cps := #[10] })) [Ex.call (Cm.frz) 24 []])) (Sx.ret (Ex.and (Ex.cmp (Cop.eq) (Ex.call (Cm.frz) 6 [Ex.call (Cm.frz) 18 [Ex.var 2]]) (Ex.var 2)) (Ex.cmp (Cop.eq) (Ex.call (Cm.frz) 8 [Ex.call (Cm.frz) 19 [Ex.var 3]]) (Ex.var 3))))))
theorem ds32 : C.ds 32 = ⟨1, 6, b32⟩ := by kernel_rfl
end K82

set_option linter.all false
set_option maxRecDepth 100000
set_option maxHeartbeats 4000000
/-! k82: the readers at the rows of the menus, by the kernel. -/
namespace K82
open PySem hiding Env listOf
open Cc
def tb : Nat → Def
  | 1 => ⟨1, 2, b1⟩
  | 2 => ⟨1, 1, b2⟩
  | 9 => ⟨1, 4, b9⟩
  | 10 => ⟨1, 3, b10⟩
  | 11 => ⟨1, 4, b11⟩
  | 12 => ⟨1, 4, b12⟩
  | 13 => ⟨1, 6, b13⟩
  | 14 => ⟨2, 3, b14⟩
  | 15 => ⟨1, 2, b15⟩
  | 16 => ⟨1, 3, b16⟩
  | 22 => ⟨0, 2, b22⟩
  | 23 => ⟨0, 2, b23⟩
  | 24 => ⟨0, 1, b24⟩
  | 25 => ⟨0, 1, b25⟩
  | 3 => ⟨1, 3, b3⟩
  | 4 => ⟨1, 6, b4⟩
  | 5 => ⟨1, 4, b5⟩
  | 6 => ⟨1, 2, b6⟩
  | 7 => ⟨1, 2, b7⟩
  | 8 => ⟨1, 2, b8⟩
  | 17 => ⟨2, 5, b17⟩
  | 18 => ⟨1, 1, b18⟩
  | 19 => ⟨1, 1, b19⟩
  | i => C.ds i
theorem tb_eq : ∀ i, C.ds i = tb i
  | 0 => rfl
  | 1 => ds1
  | 2 => ds2
  | 3 => ds3
  | 4 => ds4
  | 5 => ds5
  | 6 => ds6
  | 7 => ds7
  | 8 => ds8
  | 9 => ds9
  | 10 => ds10
  | 11 => ds11
  | 12 => ds12
  | 13 => ds13
  | 14 => ds14
  | 15 => ds15
  | 16 => ds16
  | 17 => ds17
  | 18 => ds18
  | 19 => ds19
  | 20 => rfl
  | 21 => rfl
  | 22 => ds22
  | 23 => ds23
  | 24 => ds24
  | 25 => ds25
  | i + 26 => rfl
theorem table_tb : C.Φ = table C.M C.CI C.FO C.xi tb := by
  have e : C.ds = tb := funext tb_eq
  unfold Cf.Φ
  rw [e]
/-- what a reader tells of a row -/
def runR (k : Nat) (x : Str) : Option PyData := match table C.M C.CI C.FO C.xi tb (k + 1) k [.d (.str x)] [] with
  | .ok w s => frzW s w
  | _ => none
end K82

set_option linter.all false
set_option maxRecDepth 100000
set_option maxHeartbeats 4000000
/-! k82: rows of a text, read or refused. -/
namespace K82
open PySem hiding Env listOf
open Cc
abbrev nl : Str := ⟨#[10]⟩
abbrev sNum : Str := ⟨#[110, 117, 109, 98, 101, 114]⟩
theorem sum_le {ys : List Str} {B : Nat} (h : ∀ y ∈ ys, y.length ≤ B) : (ys.map (·.length)).sum ≤ B * ys.length := by
  induction ys with
  | nil => simp
  | cons y ys ih =>
    have := h y List.mem_cons_self
    have := ih fun z hz => h z (List.mem_cons_of_mem _ hz)
    simp only [List.map_cons, List.sum_cons, List.length_cons, Nat.mul_succ] at *
    omega
theorem join_cond {a : Str} {ys : List Str} {B m : Nat} (h : ∀ y ∈ ys, y.length ≤ B) (hm : ys.length ≤ m) : (ys.map (·.length)).sum + ys.length * a.length ≤ (B + a.length) * m := by
  have h1 := sum_le h
  have h2 : B * ys.length + ys.length * a.length = (B + a.length) * ys.length := by rw [Nat.add_mul, Nat.mul_comm a.length]
  have h3 : (B + a.length) * ys.length ≤ (B + a.length) * m := Nat.mul_le_mul_left _ hm
  omega
theorem join_len {a : Str} {ys : List Str} {B m : Nat} (h : ∀ y ∈ ys, y.length ≤ B) (hm : ys.length ≤ m) : (Txt.join a ys).length ≤ (B + a.length) * m := by
  have e : Txt.join a ys = Str.join a ys := StrLaws.glued_eq_join a ys
  rw [e]
  exact Nat.le_trans (StrLaws.join_length_le a ys) (join_cond h hm)
theorem joinL {a : Str} {ys : List Str} {B m : Nat} (h : ∀ y ∈ ys, y.length ≤ B) (hm : ys.length ≤ m) (hz : (B + a.length) * m ≤ 16777216) (s : Store) : bmD s .join (.d (.str a)) [.d (.list (ys.map .str))] = some (.str (Txt.join a ys)) := by
  show bmJoin s (.d (.str a)) (.d (.list (ys.map .str))) = _
  have := join_cond (a := a) h hm
  simp [bmJoin, seqOf, strsOf_map]
  omega
theorem len_app (x y : Str) : (x ++ y).length = x.length + y.length := Str.length_append x y
theorem sepNl : Sep nl 0 10 := ⟨rfl, fun j h => absurd h (Nat.not_lt_zero _)⟩
theorem bm_split {x y : Str} (s : Store) (hy : (y.length == 0) = false) (hx : x.length + 2 ≤ 16777216) : bmD s .split (.d (.str x)) [.d (.str y)] = some (.list ((Txt.split x y).map .str)) := by
  show (if (y.length == 0) = false ∧ x.length + 2 ≤ sizeLine then _ else none) = _
  rw [if_pos ⟨hy, hx⟩]
@[simp] theorem bmOk_str {x : Str} : bmOk (.d (.str x)) = true := rfl
def isN : PyData → Bool
  | .none => true
  | _ => false
def badX (i : Nat) : Exn := ⟨2, [(sNum, .int (i : Nat))]⟩
def r17 : Sx := (Sx.seq (Sx.assign (Tx.name 4) (Ex.callv (Cm.frz) 17 1 [Ex.var 3])) (Sx.seq (Sx.ite (Bx.tru (Ex.cmp (Cop.is_) (Ex.var 4) (Ex.const (PyData.none)))) (Sx.raise 2 [Ex.bf (Bf.len) [Ex.var 2]]) (Sx.pass)) (Sx.expr (Ex.mut (Mt.append) (Ex.var 2) [Ex.var 4]))))
theorem b17_eq : b17 = Sx.seq (Sx.ite (Bx.not (Bx.tru (Ex.bf (Bf.isa (Ty.str)) [Ex.var 0]))) (Sx.raise 2 [Ex.const (PyData.int 0)]) (Sx.pass)) (Sx.seq (Sx.ite (Bx.tru (Ex.cmp (Cop.eq) (Ex.var 0) (Ex.const (PyData.str { cps := #[] })))) (Sx.ret (Ex.lst false [])) (Sx.pass)) (Sx.seq (Sx.assign (Tx.name 2) (Ex.lst true [])) (Sx.seq (Sx.for false [3] true (Wk.seq) [Ex.bm (Bm.split) (Ex.var 0) [Ex.const (PyData.str { cps := #[10] })]] r17) (Sx.ret (Ex.var 2))))) := by kernel_rfl
@[simp] theorem runS_raise {Φ : FT} {M : CTab} {CI : Nat → Option Nat} {FO : Nat → Str → Bool} {XI : Nat → List PyData → Option (List (Str × PyData))} {c : Nat} {es : List Ex} {env : Cc.Env} {s : Store} : runS Φ M CI FO XI (.raise c es) env s = (runEs Φ M CI FO es env s).bind fun ws s => match allPure ws with
    | some xs => match XI c xs with
      | some fs => .exc ⟨c, fs⟩ s
      | none => .stuck
    | none => .stuck := by
  simp only [runS] <;> rfl
@[simp] theorem runE_gfn {Φ : FT} {M : CTab} {CI : Nat → Option Nat} {FO : Nat → Str → Bool} {i : Nat} {env : Cc.Env} {s : Store} : runE Φ M CI FO (.gfn i) env s = .ok (.fn i) s := by simp only [runE]
theorem xi2 (i : Int) : C.xi 2 [.int i] = some [(sNum, .int i)] := by kernel_rfl
def step17 (w : W) (env : Cc.Env) (s : Store) : Res (Cc.Flow × Cc.Env) := match bindN [3] true w env with
  | some env => runS (C.Φ 17) C.M C.CI C.FO C.xi r17 env s
  | none => .stuck
theorem step_bad {j : Nat} (hj : j < 17) {x : Str} {v : PyData} (hr : ∀ s, callM .frz (C.Φ 17 j) [.d (.str x)] s = .ok (.d v) s) (hv : isN v = true) (T : W) (acc : List PyData) (x3 x4 : Option W) :
    step17 (.d (.str x)) [some T, some (.fn j), some (.ref 0), x3, x4] [.lst acc] = .exc (badX acc.length) [.lst acc] := by
  cases v <;> try cases hv
  unfold step17 r17
  have bl : bfD [Cell.lst acc] .len [W.ref 0] = some (.int (acc.length : Nat)) := rfl
  simp [bindN, hj, hr, bl, allPure, xi2]
  rfl
theorem step_good {j : Nat} (hj : j < 17) {x : Str} {v : PyData} (hr : ∀ s, callM .frz (C.Φ 17 j) [.d (.str x)] s = .ok (.d v) s) (hv : isN v = false) (T : W) (acc : List PyData) (hl : acc.length < 100) (x3 x4 : Option W) :
    step17 (.d (.str x)) [some T, some (.fn j), some (.ref 0), x3, x4] [.lst acc] = .ok (.next, [some T, some (.fn j), some (.ref 0), some (.d (.str x)), some (.d v)]) [.lst (acc ++ [v])] := by
  unfold step17 r17
  have hs : ∀ s, someW s (.d v) = some false := fun s => by cases v <;> first | rfl | cases hv
  have il : isLstC [Cell.lst acc] (W.ref 0) = true := rfl
  have lt : acc.length < 16777216 := by omega
  simp [bindN, hj, hr, hs, il, mutW, chg, appC, appL, sizeLine, lt]
/-- where the first none is -/
def bad1 (v : Str → PyData) : List Str → Option Nat
  | [] => none
  | x :: xs => if isN (v x) then some 0 else (bad1 v xs).map (· + 1)
theorem loop17 {j : Nat} (hj : j < 17) {v : Str → PyData} (T : W) : ∀ (xs : List Str) (acc : List PyData) (x3 x4 : Option W), acc.length + xs.length < 100 → (∀ x ∈ xs, ∀ s, callM .frz (C.Φ 17 j) [.d (.str x)] s = .ok (.d (v x)) s) →
    (bad1 v xs = none → ∃ y3 y4, forL (fun _ => true) false 1 step17 (xs.map (W.d ∘ PyData.str)) [some T, some (.fn j), some (.ref 0), x3, x4] [.lst acc] = .ok (.next, [some T, some (.fn j), some (.ref 0), y3, y4]) [.lst (acc ++ xs.map v)]) ∧
    ∀ i, bad1 v xs = some i → ∃ s, forL (fun _ => true) false 1 step17 (xs.map (W.d ∘ PyData.str)) [some T, some (.fn j), some (.ref 0), x3, x4] [.lst acc] = .exc (badX (acc.length + i)) s
  | [], acc, x3, x4, _, _ => by
    refine ⟨fun _ => ⟨x3, x4, by simp [forL]⟩, fun i h => by cases h⟩
  | x :: xs, acc, x3, x4, hl, hr => by
    have hl : acc.length + (xs.length + 1) < 100 := hl
    have h1 := hr x List.mem_cons_self
    have fx : ∀ r, step17 (.d (.str x)) [some T, some (.fn j), some (.ref 0), x3, x4] [.lst acc] = r → forL (fun _ => true) false 1 step17 ((x :: xs).map (W.d ∘ PyData.str)) [some T, some (.fn j), some (.ref 0), x3, x4] [.lst acc] = match r with
        | .ok (.brk, env) s => .ok (.next, env) s
        | .ok (.ret w, env) s => .ok (.ret w, env) s
        | .ok (_, env) s => forL (fun _ => true) false 1 step17 (xs.map (W.d ∘ PyData.str)) env s
        | .exc x s => .exc x s
        | .stuck => .stuck := fun r e => by
      subst e
      rw [List.map_cons]
      conv => lhs; unfold forL
      rw [if_pos rfl]
      rfl
    cases hv : isN (v x) with
    | true =>
      have e := fx _ (step_bad hj h1 hv T acc x3 x4)
      refine ⟨fun h => ?_, fun i h => ?_⟩
      · simp [bad1, hv] at h
      · simp [bad1, hv] at h
        subst h
        exact ⟨_, e⟩
    | false =>
      have e := fx _ (step_good hj h1 hv T acc (by omega) x3 x4)
      obtain ⟨i1, i2⟩ := loop17 hj (v := v) T xs (acc ++ [v x]) (some (.d (.str x))) (some (.d (v x))) (by simp; omega) fun y hy => hr y (List.mem_cons_of_mem _ hy)
      dsimp only at e
      rw [e]
      refine ⟨fun h => ?_, fun i h => ?_⟩
      · have h : bad1 v xs = none := by simpa [bad1, hv] using h
        obtain ⟨y3, y4, q⟩ := i1 h
        exact ⟨y3, y4, by rw [q]; simp⟩
      · have h : (bad1 v xs).map (· + 1) = some i := by simpa [bad1, hv] using h
        obtain ⟨k, hk, rfl⟩ := Option.map_eq_some_iff.mp h
        obtain ⟨s, q⟩ := i2 k hk
        refine ⟨s, ?_⟩
        rw [q]
        simp [Nat.add_assoc, Nat.add_comm 1 k]
theorem rows_len {xs : List Str} (h : ∀ x ∈ xs, x.length ≤ 1000 ∧ 10 ∉ cl x) (hl : xs.length ≤ 6) : (Txt.join nl xs).length ≤ 6006 := by
  have := join_len (a := nl) (B := 1000) (m := 6) (fun y hy => (h y hy).1) hl
  exact this
theorem split_rows {xs : List Str} (hz : xs ≠ []) (h : ∀ x ∈ xs, x.length ≤ 1000 ∧ 10 ∉ cl x) (hl : xs.length ≤ 6) (s : Store) : bmD s .split (.d (.str (Txt.join nl xs))) [.d (.str nl)] = some (.list (xs.map .str)) := by
  have := rows_len h hl
  rw [bm_split s rfl (by omega), split_join sepNl (by decide +kernel) hz fun x hx => (h x hx).2]
theorem rows_ne {xs : List Str} (hz : xs ≠ []) (hn : xs ≠ [⟨#[]⟩]) : ¬ Txt.join nl xs = (⟨#[]⟩ : Str) := fun e => by
  have e1 : Txt.join nl xs = Str.join nl xs := StrLaws.glued_eq_join _ _
  rw [e1] at e
  match xs, hz, hn, e with
  | [y], _, hn, e => exact hn (by rw [show Str.join nl [y] = y from rfl] at e; rw [e])
  | y :: z :: ys, _, _, e =>
    have h1 : (y ++ nl ++ Str.join nl (z :: ys)).length = 0 := congrArg Str.length e
    rw [len_app, len_app] at h1
    have : nl.length = 1 := rfl
    omega
/-- the rows of a text: all read, or the first one that is none -/
theorem rows_ok {j : Nat} (hj : j < 17) {v : Str → PyData} {xs : List Str} (hz : xs ≠ []) (hn : xs ≠ [⟨#[]⟩]) (hl : xs.length ≤ 6) (h : ∀ x ∈ xs, x.length ≤ 1000 ∧ 10 ∉ cl x) (hr : ∀ x ∈ xs, ∀ s, callM .frz (C.Φ 17 j) [.d (.str x)] s = .ok (.d (v x)) s) {n : Nat} (hn2 : 17 < n) :
    (bad1 v xs = none → C.Φ n 17 [.d (.str (Txt.join nl xs)), .fn j] [] = .ok (.ref 0) [.lst (xs.map v)]) ∧ ∀ i, bad1 v xs = some i → ∃ s, C.Φ n 17 [.d (.str (Txt.join nl xs)), .fn j] [] = .exc (badX i) s := by
  have hT := rows_ne hz hn
  have sp := split_rows hz h hl
  have isS : ∀ s, bfD s (.isa .str) [W.d (.str (Txt.join nl xs))] = some (.bool true) := fun _ => rfl
  obtain ⟨i1, i2⟩ := loop17 hj (v := v) (.d (.str (Txt.join nl xs))) xs [] none none (by simp; omega) hr
  have e : C.Φ n 17 [.d (.str (Txt.join nl xs)), .fn j] [] = (match (forL (fun _ => true) false 1 step17 (xs.map (W.d ∘ PyData.str)) [some (.d (.str (Txt.join nl xs))), some (.fn j), some (.ref 0), none, none] [.lst []]).bind (seqK (C.Φ 17) C.M C.CI C.FO C.xi (Sx.ret (Ex.var 2))) with
      | .ok (.ret w, _) s => .ok w s
      | .ok (.next, _) s => .ok (.d .none) s
      | .ok _ _ => .stuck
      | .exc x s => .exc x s
      | .stuck => .stuck) := by
    rw [phi_at hn2, ds17]
    generalize Txt.join nl xs = T at *
    unfold runF
    rw [b17_eq]
    simp [startE, isS, hT, newLst, sp]
    rfl
  rw [e]
  refine ⟨fun hb => ?_, fun i hb => ?_⟩
  · obtain ⟨y3, y4, q⟩ := i1 hb
    rw [q]
    simp
  · obtain ⟨s, q⟩ := i2 i hb
    rw [q]
    exact ⟨s, by simp⟩
end K82

set_option linter.all false
set_option maxRecDepth 100000
set_option maxHeartbeats 4000000
/-! k82: the menus, by the kernel. -/
namespace K82
open PySem hiding Env listOf
open Cc
def gS : List Str := [⟨#[104, 111, 109, 101, 32, 108, 97, 115, 116]⟩, ⟨#[104, 111, 109, 101, 32, 110, 111, 110, 101, 58, 32, 105, 100, 108, 101, 32, 110, 111, 110, 101, 32, 45, 32, 45, 32, 45, 32, 97, 110, 121]⟩, ⟨#[111, 117, 116, 32, 111, 108, 100, 58, 32, 105, 100, 108, 101, 32, 110, 111, 110, 101, 32, 45, 32, 103, 101, 116, 46, 98, 97, 114, 101, 32, 45, 32, 115, 111, 109, 101, 59, 32, 109, 105, 110, 101, 32, 108, 97, 115, 116, 32, 45, 32, 45, 32, 111, 32, 111, 110, 101]⟩, ⟨#[99, 97, 108, 108, 115, 32, 111, 108, 100, 58, 32, 97, 32, 111, 108, 100, 32, 103, 105, 118, 101, 46, 111, 108, 100, 43, 99, 97, 108, 108, 46, 98, 97, 114, 101, 32, 45, 32, 115, 111, 32, 97, 110, 121, 59, 32, 97, 32, 111, 108, 100, 32, 103, 105, 118, 101, 46, 111, 108, 100, 43, 99, 97, 108, 108, 46, 108, 97, 115, 116, 32, 45, 32, 115, 111, 32, 97, 110, 121, 59, 32, 98, 32, 110, 111, 110, 101, 32, 45, 32, 45, 32, 115, 32, 111, 110, 101]⟩, ⟨#[104, 32, 108, 97, 115, 116, 58, 32, 105, 100, 108, 101, 32, 108, 97, 115, 116, 32, 45, 32, 45, 32, 45, 32, 111, 110, 101, 59, 32, 105, 100, 108, 101, 32, 108, 97, 115, 116, 32, 45, 32, 45, 32, 115, 32, 111, 110, 101, 59, 32, 105, 100, 108, 101, 32, 108, 97, 115, 116, 32, 45, 32, 97, 46, 98, 97, 114, 101, 32, 45, 32, 111, 110, 101]⟩, ⟨#[101, 105, 103, 104, 116, 108, 101, 116, 32, 110, 111, 110, 101]⟩]
def bS : List Str := [⟨#[]⟩, ⟨#[104, 111, 109, 101]⟩, ⟨#[104, 111, 109, 101, 32]⟩, ⟨#[32, 104, 111, 109, 101, 32, 108, 97, 115, 116]⟩, ⟨#[104, 111, 109, 101, 32, 108, 97, 115, 116, 32]⟩, ⟨#[104, 111, 109, 101, 32, 108, 97, 115, 116, 58]⟩, ⟨#[104, 111, 109, 101, 32, 108, 97, 115, 116, 58, 32]⟩, ⟨#[104, 111, 109, 101, 32, 98, 97, 114, 101]⟩, ⟨#[72, 111, 109, 101, 32, 108, 97, 115, 116]⟩, ⟨#[104, 111, 109, 101, 32, 108, 97, 115, 116, 32, 120]⟩, ⟨#[104, 111, 109, 101, 32, 108, 97, 115, 116, 58, 105, 100, 108, 101, 32, 110, 111, 110, 101, 32, 45, 32, 45, 32, 45, 32, 97, 110, 121]⟩, ⟨#[104, 111, 109, 101, 32, 108, 97, 115, 116, 32, 58, 32, 105, 100, 108, 101, 32, 110, 111, 110, 101, 32, 45, 32, 45, 32, 45, 32, 97, 110, 121]⟩, ⟨#[110, 105, 110, 101, 108, 101, 116, 116, 101, 32, 108, 97, 115, 116]⟩, ⟨#[104, 49, 32, 108, 97, 115, 116]⟩, ⟨#[104, 111, 109, 101, 32, 76, 97, 115, 116]⟩, ⟨#[104, 111, 109, 101, 32, 108, 97, 115, 116, 58, 32, 105, 100, 108, 101, 32, 110, 111, 110, 101, 32, 45, 32, 45, 32, 97, 110, 121]⟩, ⟨#[104, 111, 109, 101, 32, 108, 97, 115, 116, 58, 32, 105, 100, 108, 101, 32, 110, 111, 110, 101, 32, 45, 32, 45, 32, 45, 32, 45, 32, 97, 110, 121]⟩, ⟨#[104, 111, 109, 101, 32, 108, 97, 115, 116, 58, 32, 105, 100, 108, 101, 32, 110, 111, 110, 101, 32, 45, 32, 45, 32, 45, 32, 97, 110, 121, 59]⟩, ⟨#[104, 111, 109, 101, 32, 108, 97, 115, 116, 58, 32, 105, 100, 108, 101, 32, 110, 111, 110, 101, 32, 45, 32, 45, 32, 45, 32, 97, 110, 121, 59, 32]⟩, ⟨#[104, 111, 109, 101, 32, 108, 97, 115, 116, 58, 32, 105, 100, 108, 101, 32, 110, 111, 110, 101, 32, 45, 32, 45, 32, 45, 32, 97, 110, 121, 59, 105, 100, 108, 101, 32, 110, 111, 110, 101, 32, 45, 32, 45, 32, 45, 32, 97, 110, 121]⟩, ⟨#[104, 111, 109, 101, 32, 108, 97, 115, 116, 58, 32, 105, 100, 108, 101, 32, 110, 111, 110, 101, 32, 45, 32, 45, 32, 45, 32, 97, 110, 121, 59, 32, 105, 100, 108, 101, 32, 110, 111, 110, 101, 32, 45, 32, 45, 32, 45, 32, 97, 110, 121]⟩, ⟨#[104, 111, 109, 101, 32, 108, 97, 115, 116, 58, 32, 105, 100, 108, 101, 32, 110, 111, 110, 101, 32, 45, 32, 45, 32, 45, 32, 97, 110, 121, 59, 32, 105, 100, 108, 101, 32, 110, 111, 110, 101, 32, 45, 32, 45, 32, 45, 32, 111, 110, 101]⟩, ⟨#[104, 111, 109, 101, 32, 108, 97, 115, 116, 58, 32, 98, 32, 110, 111, 110, 101, 32, 45, 32, 45, 32, 45, 32, 97, 110, 121, 59, 32, 97, 32, 110, 111, 110, 101, 32, 45, 32, 45, 32, 45, 32, 97, 110, 121]⟩, ⟨#[104, 111, 109, 101, 32, 108, 97, 115, 116, 58, 32, 105, 100, 108, 101, 32, 98, 97, 114, 101, 32, 45, 32, 45, 32, 45, 32, 97, 110, 121]⟩, ⟨#[104, 111, 109, 101, 32, 108, 97, 115, 116, 58, 32, 105, 100, 108, 101, 32, 110, 111, 110, 101, 32, 45, 32, 45, 32, 120, 32, 97, 110, 121]⟩, ⟨#[104, 111, 109, 101, 32, 108, 97, 115, 116, 58, 32, 105, 100, 108, 101, 32, 110, 111, 110, 101, 32, 45, 32, 45, 32, 111, 115, 32, 97, 110, 121]⟩, ⟨#[104, 111, 109, 101, 32, 108, 97, 115, 116, 58, 32, 105, 100, 108, 101, 32, 110, 111, 110, 101, 32, 45, 32, 45, 32, 45, 32, 116, 119, 111]⟩, ⟨#[104, 111, 109, 101, 32, 108, 97, 115, 116, 58, 32, 105, 100, 108, 101, 32, 110, 111, 110, 101, 32, 45, 32, 45, 32, 45, 32, 49]⟩, ⟨#[104, 111, 109, 101, 32, 108, 97, 115, 116, 58, 32, 105, 100, 108, 101, 32, 110, 111, 110, 101, 32, 32, 45, 32, 45, 32, 45, 32, 97, 110, 121]⟩, ⟨#[104, 111, 109, 101, 32, 108, 97, 115, 116, 58, 32, 105, 100, 108, 101, 32, 110, 111, 110, 101, 32, 97, 46, 98, 97, 114, 101, 43, 98, 46, 98, 97, 114, 101, 43, 99, 46, 98, 97, 114, 101, 32, 45, 32, 45, 32, 97, 110, 121]⟩, ⟨#[104, 111, 109, 101, 32, 108, 97, 115, 116, 58, 32, 105, 100, 108, 101, 32, 110, 111, 110, 101, 32, 97, 32, 45, 32, 45, 32, 97, 110, 121]⟩, ⟨#[104, 111, 109, 101, 32, 108, 97, 115, 116, 58, 32, 105, 100, 108, 101, 32, 110, 111, 110, 101, 32, 97, 46, 110, 111, 110, 101, 32, 45, 32, 45, 32, 97, 110, 121]⟩, ⟨#[104, 111, 109, 101, 32, 108, 97, 115, 116, 58, 32, 105, 100, 108, 101, 32, 110, 111, 110, 101, 32, 114, 101, 97, 100, 46, 98, 97, 114, 101, 32, 45, 32, 45, 32, 97, 110, 121]⟩, ⟨#[104, 111, 109, 101, 32, 108, 97, 115, 116, 58, 32, 105, 100, 108, 101, 32, 110, 111, 110, 101, 32, 45, 32, 119, 114, 105, 116, 101, 46, 108, 97, 115, 116, 32, 45, 32, 97, 110, 121]⟩, ⟨#[104, 111, 109, 101, 32, 108, 97, 115, 116, 58, 32, 105, 100, 108, 101, 32, 110, 111, 110, 101, 32, 97, 46, 98, 97, 114, 101, 43, 32, 45, 32, 45, 32, 97, 110, 121]⟩, ⟨#[104, 111, 109, 101, 32, 108, 97, 115, 116, 58, 32, 105, 100, 108, 101, 32, 110, 111, 110, 101, 32, 43, 97, 46, 98, 97, 114, 101, 32, 45, 32, 45, 32, 97, 110, 121]⟩, ⟨#[104, 111, 109, 101, 32, 108, 97, 115, 116, 58, 32, 105, 100, 108, 101, 32, 110, 111, 110, 101, 32, 97, 46, 98, 97, 114, 101, 43, 45, 32, 45, 32, 45, 32, 97, 110, 121]⟩, ⟨#[104, 111, 109, 101, 32, 108, 97, 115, 116, 58, 32, 73, 100, 108, 101, 32, 110, 111, 110, 101, 32, 45, 32, 45, 32, 45, 32, 97, 110, 121]⟩, ⟨#[104, 111, 109, 101, 32, 108, 97, 115, 116, 58, 32, 105, 100, 108, 101, 32, 110, 111, 110, 101, 32, 45, 45, 32, 45, 32, 45, 32, 97, 110, 121]⟩, ⟨#[104, 111, 109, 101, 32, 108, 97, 115, 116, 58, 32, 105, 100, 108, 101, 32, 110, 111, 110, 101, 32, 97, 46, 98, 97, 114, 101, 44, 98, 46, 98, 97, 114, 101, 32, 45, 32, 45, 32, 97, 110, 121]⟩, ⟨#[104, 111, 109, 101, 32, 108, 97, 115, 116, 44, 32, 105, 100, 108, 101, 32, 110, 111, 110, 101, 32, 45, 32, 45, 32, 45, 32, 97, 110, 121]⟩]
def gD : List Str := [⟨#[97, 115, 107, 32, 48, 32, 114, 101, 97, 100]⟩, ⟨#[97, 115, 107, 32, 49, 50, 32, 100, 114, 111, 112]⟩, ⟨#[97, 115, 107, 32, 51, 32, 119, 114, 105, 116, 101, 32, 48]⟩, ⟨#[97, 115, 107, 32, 48, 32, 119, 114, 105, 116, 101, 32, 45, 55]⟩, ⟨#[97, 115, 107, 32, 49, 32, 119, 114, 105, 116, 101, 32, 57, 57, 57, 57, 57, 57, 57, 57, 57, 57, 57, 57, 57, 57, 57, 57, 57, 57, 57, 57, 57, 57, 57, 57, 57, 57, 57, 57, 57, 57, 57, 57, 57, 57, 57, 57, 57, 57, 57, 57]⟩, ⟨#[116, 97, 107, 101, 32, 48, 32, 48]⟩, ⟨#[103, 101, 116, 32, 53, 32, 49]⟩, ⟨#[116, 97, 107, 101, 32, 57, 57, 32, 49, 50]⟩, ⟨#[103, 101, 116, 32, 48, 32, 48]⟩, ⟨#[97, 115, 107, 32, 55, 32, 119, 114, 105, 116, 101, 32, 45, 49, 49, 49, 49, 49, 49, 49, 49, 49, 49, 49, 49, 49, 49, 49, 49, 49, 49, 49, 49, 49, 49, 49, 49, 49, 49, 49, 49, 49, 49, 49, 49, 49, 49, 49, 49, 49, 49, 49, 49]⟩]
def bD : List Str := [⟨#[]⟩, ⟨#[97, 115, 107]⟩, ⟨#[97, 115, 107, 32, 48]⟩, ⟨#[97, 115, 107, 32, 48, 32]⟩, ⟨#[97, 115, 107, 32, 48, 32, 119, 114, 105, 116, 101]⟩, ⟨#[97, 115, 107, 32, 48, 32, 119, 114, 105, 116, 101, 32]⟩, ⟨#[97, 115, 107, 32, 48, 32, 114, 101, 97, 100, 32, 49]⟩, ⟨#[97, 115, 107, 32, 48, 48, 32, 114, 101, 97, 100]⟩, ⟨#[97, 115, 107, 32, 45, 49, 32, 114, 101, 97, 100]⟩, ⟨#[97, 115, 107, 32, 49, 48, 48, 32, 114, 101, 97, 100]⟩, ⟨#[97, 115, 107, 32, 48, 32, 82, 101, 97, 100]⟩, ⟨#[97, 115, 107, 32, 48, 32, 111, 119, 110]⟩, ⟨#[97, 115, 107, 32, 120, 32, 114, 101, 97, 100]⟩, ⟨#[97, 115, 107, 32, 48, 32, 119, 114, 105, 116, 101, 32, 48, 55]⟩, ⟨#[97, 115, 107, 32, 48, 32, 119, 114, 105, 116, 101, 32, 45, 48]⟩, ⟨#[97, 115, 107, 32, 48, 32, 119, 114, 105, 116, 101, 32, 43, 49]⟩, ⟨#[97, 115, 107, 32, 48, 32, 119, 114, 105, 116, 101, 32, 49, 49, 49, 49, 49, 49, 49, 49, 49, 49, 49, 49, 49, 49, 49, 49, 49, 49, 49, 49, 49, 49, 49, 49, 49, 49, 49, 49, 49, 49, 49, 49, 49, 49, 49, 49, 49, 49, 49, 49, 49]⟩, ⟨#[97, 115, 107, 32, 48, 32, 119, 114, 105, 116, 101, 32, 45, 49, 49, 49, 49, 49, 49, 49, 49, 49, 49, 49, 49, 49, 49, 49, 49, 49, 49, 49, 49, 49, 49, 49, 49, 49, 49, 49, 49, 49, 49, 49, 49, 49, 49, 49, 49, 49, 49, 49, 49, 49]⟩, ⟨#[97, 115, 107, 32, 48, 32, 119, 114, 105, 116, 101, 32, 49, 32, 50]⟩, ⟨#[97, 115, 107, 32, 32, 48, 32, 114, 101, 97, 100]⟩, ⟨#[32, 97, 115, 107, 32, 48, 32, 114, 101, 97, 100]⟩, ⟨#[97, 115, 107, 32, 48, 32, 114, 101, 97, 100, 32]⟩, ⟨#[116, 97, 107, 101, 32, 48]⟩, ⟨#[116, 97, 107, 101, 32, 48, 32]⟩, ⟨#[116, 97, 107, 101, 32, 48, 32, 48, 49]⟩, ⟨#[116, 97, 107, 101, 32, 48, 32, 45, 49]⟩, ⟨#[116, 97, 107, 101, 32, 48, 32, 49, 48, 48]⟩, ⟨#[116, 97, 107, 101, 32, 48, 32, 120]⟩, ⟨#[116, 97, 107, 101, 32, 48, 32, 48, 32, 48]⟩, ⟨#[103, 101, 116, 32, 48]⟩, ⟨#[103, 101, 116, 32, 48, 48, 32, 48]⟩, ⟨#[103, 101, 116, 32, 48, 32, 49, 46]⟩, ⟨#[112, 117, 116, 32, 48, 32, 48]⟩, ⟨#[84, 97, 107, 101, 32, 48, 32, 48]⟩, ⟨#[116, 97, 107, 101, 44, 48, 44, 48]⟩, ⟨#[103, 101, 116, 32, 48, 32, 119, 114, 105, 116, 101]⟩, ⟨#[119, 114, 111, 116, 101, 32, 48, 32, 49]⟩]
/-- what a menu's def tells -/
def runM (k : Nat) : Option PyData := match C.Φ (k + 1) k [] [] with
  | .ok w s => frzW s w
  | _ => none
theorem menu_of {k n : Nat} (hn : k < n) {d : PyData} (h : runM k = some d) (s : Store) : callM .frz (C.Φ n k) [] s = .ok (.d d) s := by
  unfold runM at h
  have e : C.Φ n k = C.Φ (k + 1) k := by
    funext ws s
    rw [phi_at hn, phi_at (Nat.lt_succ_self k)]
  rw [e]
  split at h
  · rename_i w t e2
    exact frz_eq (xs := []) rfl e2 h
  · cases h
theorem m22 : runM 22 = some (.list (gS.map .str)) := by unfold runM; rw [table_tb]; kernel_rfl
theorem m23 : runM 23 = some (.list (bS.map .str)) := by unfold runM; rw [table_tb]; kernel_rfl
theorem m24 : runM 24 = some (.list (gD.map .str)) := by unfold runM; rw [table_tb]; kernel_rfl
theorem m25 : runM 25 = some (.list (bD.map .str)) := by unfold runM; rw [table_tb]; kernel_rfl
def okG (k : Nat) (x : Str) : Bool := match runR k x with
  | some d => !isN d
  | none => false
def okB (k : Nat) (x : Str) : Bool := match runR k x with
  | some d => isN d
  | none => false
def okX (x : Str) : Bool := Nat.ble x.length 1000 && !x.cps.toList.contains 10
theorem gS_ok : gS.all (okG 13) = true := by decide +kernel
theorem bS_ok : bS.all (okB 13) = true := by decide +kernel
theorem gD_ok : gD.all (okG 16) = true := by decide +kernel
theorem bD_ok : bD.all (okB 16) = true := by decide +kernel
theorem gS_x : gS.all okX = true := by decide +kernel
theorem bS_x : bS.all okX = true := by decide +kernel
theorem gD_x : gD.all okX = true := by decide +kernel
theorem bD_x : bD.all okX = true := by decide +kernel
end K82

set_option linter.all false
set_option maxRecDepth 100000
set_option maxHeartbeats 4000000
/-! k82: readers of texts, and what is refused. -/
namespace K82
open PySem hiding Env listOf
open Cc
theorem rd_of {k n : Nat} (hn : k < n) {x : Str} {d : PyData} (h : runR k x = some d) (s : Store) : callM .frz (C.Φ n k) [.d (.str x)] s = .ok (.d d) s := by
  unfold runR at h
  rw [← table_tb] at h
  have e : C.Φ n k = C.Φ (k + 1) k := by
    funext ws s
    rw [phi_at hn, phi_at (Nat.lt_succ_self k)]
  rw [e]
  split at h
  · rename_i w t e2
    exact frz_eq (xs := [.str x]) rfl e2 h
  · cases h
def vR (k : Nat) (x : Str) : PyData := (runR k x).getD .none
theorem okG_of {k : Nat} {x : Str} (h : okG k x = true) : runR k x = some (vR k x) ∧ isN (vR k x) = false := by
  unfold okG at h
  unfold vR
  cases q : runR k x with
  | none => rw [q] at h; cases h
  | some d => rw [q] at h; exact ⟨rfl, by simpa using h⟩
theorem okB_of {k : Nat} {x : Str} (h : okB k x = true) : runR k x = some (vR k x) ∧ isN (vR k x) = true := by
  unfold okB at h
  unfold vR
  cases q : runR k x with
  | none => rw [q] at h; cases h
  | some d => rw [q] at h; exact ⟨rfl, by simpa using h⟩
theorem okX_of {x : Str} (h : okX x = true) : x.length ≤ 1000 ∧ 10 ∉ cl x := by
  unfold okX at h
  rw [Bool.and_eq_true] at h
  refine ⟨Nat.le_of_ble_eq_true h.1, fun m => ?_⟩
  have := h.2
  simp at this
  exact this (by simpa [cl] using m)
/-- a lambda that reads: l its def, r the reader, k the row's, v what a row tells, G good rows, B bad ones -/
structure Rdr (l : Nat) (v : Str → PyData) (G B : List Str) : Prop where
  l30 : l < 30
  good : ∀ x ∈ G, isN (v x) = false
  bad : ∀ x ∈ B, isN (v x) = true
  ok : ∀ x ∈ G, x ≠ ⟨#[]⟩
  sok : ∀ x, x ∈ G ∨ x ∈ B → SOk x
  len : ∀ x, x ∈ G ∨ x ∈ B → x.length ≤ 1000
  gl : 0 < G.length ∧ G.length ≤ 100
  bl : 0 < B.length ∧ B.length ≤ 100
  run : ∀ n, 29 < n → ∀ xs : List Str, xs ≠ [] → xs ≠ [⟨#[]⟩] → xs.length ≤ 6 → (∀ x ∈ xs, x ∈ G ∨ x ∈ B) → (bad1 v xs = none → ∀ s, callM .frz (C.Φ n l) [.d (.str (Txt.join nl xs))] s = .ok (.d (.list (xs.map v))) s) ∧ ∀ i, bad1 v xs = some i → ∀ s, callM .frz (C.Φ n l) [.d (.str (Txt.join nl xs))] s = .exc (badX i) s
  none : ∀ n, 29 < n → ∀ s, callM .frz (C.Φ n l) [.d (.str ⟨#[]⟩)] s = .ok (.d (.list [])) s
  no : ∀ n, 29 < n → ∀ y : PyData, isD .str y = some false → ∀ s, callM .frz (C.Φ n l) [.d y] s = .exc (badX 0) s
theorem np17 {F : List W → Store → Res W} {x : PyData} {j : Nat} {s : Store} : callM .frz F [.d x, .fn j] s = F [.d x, .fn j] s := rfl
theorem r18 {k l r n : Nat} (hk : k < 17) (hr : C.ds r = ⟨1, 1, Sx.ret (Ex.call (Cm.frz) 17 [Ex.var 0, Ex.gfn k])⟩) (hr2 : 17 < r) (hl : C.ds l = ⟨1, 1, Sx.ret (Ex.call (Cm.frz) r [Ex.var 0])⟩) (rl : r < l) (hn : l < n) {y : PyData} :
    (∀ ys, C.Φ r 17 [.d y, .fn k] [] = .ok (.ref 0) [.lst ys] → ∀ s, callM .frz (C.Φ n l) [.d y] s = .ok (.d (.list ys)) s) ∧
    (∀ x t, C.Φ r 17 [.d y, .fn k] [] = .exc x t → ∀ s, callM .frz (C.Φ n l) [.d y] s = .exc x s) ∧ (∀ z, C.Φ r 17 [.d y, .fn k] [] = .ok (.d z) [] → ∀ s, callM .frz (C.Φ n l) [.d y] s = .ok (.d z) s) := by
  refine ⟨fun ys e s => ?_, fun x t e s => ?_, fun z e s => ?_⟩
  all_goals
    have e1 : ∀ m, r < m → C.Φ m r [.d y] [] = C.Φ r 17 [.d y, .fn k] [] := fun m hm => by
      rw [phi_at hm, hr]
      unfold runF
      simp [startE, np17]
      rw [e]
      try rfl
  · have e2 : C.Φ n l [.d y] [] = .ok (.d (.list ys)) [] := by
      rw [phi_at hn, hl]
      unfold runF
      have : callM .frz (C.Φ l r) [.d y] [] = .ok (.d (.list ys)) [] := frz_eq (xs := [y]) rfl (by rw [e1 l rl, e]) rfl
      simp [startE, this]
    exact frz_eq (xs := [y]) rfl e2 (by simp)
  · have e2 : C.Φ n l [.d y] [] = .exc x [] := by
      rw [phi_at hn, hl]
      unfold runF
      have : callM .frz (C.Φ l r) [.d y] [] = .exc x [] := by
        simp only [callM, allPure_d, allPure_nil, Option.map_some]
        rw [e1 l rl, e]
      simp [startE, this]
    simp only [callM, allPure_d, allPure_nil, Option.map_some]
    rw [e2]
  · have e2 : C.Φ n l [.d y] [] = .ok (.d z) [] := by
      rw [phi_at hn, hl]
      unfold runF
      have : callM .frz (C.Φ l r) [.d y] [] = .ok (.d z) [] := frz_eq (xs := [y]) rfl (by rw [e1 l rl, e]) (by simp)
      simp [startE, this]
    exact frz_eq (xs := [y]) rfl e2 (by simp)
theorem mkRdr {k l r : Nat} {G B : List Str} (hk : k < 17) (hr : C.ds r = ⟨1, 1, Sx.ret (Ex.call (Cm.frz) 17 [Ex.var 0, Ex.gfn k])⟩) (hr2 : 17 < r) (hl : C.ds l = ⟨1, 1, Sx.ret (Ex.call (Cm.frz) r [Ex.var 0])⟩) (rl : r < l) (l30 : l < 30)
    (gG : G.all (okG k) = true) (gB : B.all (okB k) = true) (xG : G.all okX = true) (xB : B.all okX = true) (nG : ∀ x ∈ G, x ≠ ⟨#[]⟩) (sG : ∀ x ∈ G, SOk x) (sB : ∀ x ∈ B, SOk x) (lG : 0 < G.length ∧ G.length ≤ 100) (lB : 0 < B.length ∧ B.length ≤ 100) : Rdr l (vR k) G B := by
  have aG := List.all_eq_true.mp gG
  have aB := List.all_eq_true.mp gB
  have aX := List.all_eq_true.mp xG
  have aY := List.all_eq_true.mp xB
  refine ⟨l30, fun x hx => (okG_of (aG x hx)).2, fun x hx => (okB_of (aB x hx)).2, nG, fun x h => h.elim (sG x) (sB x), fun x h => h.elim (fun h => (okX_of (aX x h)).1) (fun h => (okX_of (aY x h)).1), lG, lB, fun n hn xs hz hne hl6 hm => ?_, fun n hn s => ?_, fun n hn y hy s => ?_⟩
  · have hX : ∀ x ∈ xs, x.length ≤ 1000 ∧ 10 ∉ cl x := fun x hx => by
      rcases hm x hx with h | h
      · exact okX_of (aX x h)
      · exact okX_of (aY x h)
    have hR : ∀ x ∈ xs, ∀ s, callM .frz (C.Φ 17 k) [.d (.str x)] s = .ok (.d (vR k x)) s := fun x hx s => by
      rcases hm x hx with h | h
      · exact rd_of hk (okG_of (aG x h)).1 s
      · exact rd_of hk (okB_of (aB x h)).1 s
    obtain ⟨i1, i2⟩ := rows_ok hk hz hne hl6 hX hR hr2
    obtain ⟨j1, j2, _⟩ := r18 hk hr hr2 hl rl (show l < n by omega) (y := .str (Txt.join nl xs)) (n := n)
    exact ⟨fun h s => j1 _ (i1 h) s, fun i h s => by obtain ⟨t, q⟩ := i2 i h; exact j2 _ _ q s⟩
  · obtain ⟨_, _, j3⟩ := r18 hk hr hr2 hl rl (show l < n by omega) (y := .str ⟨#[]⟩) (n := n)
    refine j3 _ ?_ s
    have isS : ∀ s, bfD s (.isa .str) [W.d (.str ⟨#[]⟩)] = some (.bool true) := fun _ => rfl
    rw [phi_at hr2, ds17]
    unfold runF
    rw [b17_eq]
    simp [startE, isS, newLst, sizeLine]
  · obtain ⟨_, j2, _⟩ := r18 hk hr hr2 hl rl (show l < n by omega) (y := y) (n := n)
    refine j2 _ [] ?_ s
    have isS : ∀ s, bfD s (.isa .str) [W.d y] = some (.bool false) := fun s => by
      show ((Cc.top s (.d y)).bind fun d => (isD .str d)).map PyData.bool = _
      rw [Cc.top, Option.bind_some, hy]
      rfl
    rw [phi_at hr2, ds17]
    unfold runF
    rw [b17_eq]
    simp [startE, isS, xi2]
    rfl
theorem rdS : Rdr 26 (vR 13) gS bS := mkRdr (k := 13) (r := 18) (by decide) ds18 (by decide) ds26 (by decide) (by decide) gS_ok bS_ok gS_x bS_x (by decide) (by decide +kernel) (by decide +kernel) (by decide) (by decide)
theorem rdD : Rdr 27 (vR 16) gD bD := mkRdr (k := 16) (r := 19) (by decide) ds19 (by decide) ds27 (by decide) (by decide) gD_ok bD_ok gD_x bD_x (by decide) (by decide +kernel) (by decide +kernel) (by decide) (by decide)
theorem rdS2 : Rdr 28 (vR 13) gS bS := mkRdr (k := 13) (r := 18) (by decide) ds18 (by decide) ds28 (by decide) (by decide) gS_ok bS_ok gS_x bS_x (by decide) (by decide +kernel) (by decide +kernel) (by decide) (by decide)
theorem rdD2 : Rdr 29 (vR 16) gD bD := mkRdr (k := 16) (r := 19) (by decide) ds19 (by decide) ds29 (by decide) (by decide) gD_ok bD_ok gD_x bD_x (by decide) (by decide +kernel) (by decide +kernel) (by decide) (by decide)
@[simp] theorem runS_tr {Φ : FT} {M : CTab} {CI : Nat → Option Nat} {FO : Nat → Str → Bool} {XI : Nat → List PyData → Option (List (Str × PyData))} {i : Option Nat} {e : Ex} {l : List (Nat × Bool)} {h : Hd} {env : Cc.Env} {s : Store} : runS Φ M CI FO XI (.tr i e l h) env s = match runE Φ M CI FO e env s with
    | .ok w s => .ok (.next, match i with | some i => env.set i (some w) | none => env) s
    | .exc x s => match l.lookup x.cls with
      | some true => match runH h x env with
        | some p => .ok p s
        | none => .stuck
      | some false => .exc x s
      | none => .stuck
    | .stuck => .stuck := by
  simp only [runS] <;> rfl
/-- refused with its number -/
theorem refused_ok {l : Nat} (l30 : l < 30) {T : PyData} {i n : Nat} (hn : 30 < n) (h : ∀ s, callM .frz (C.Φ 30 l) [.d T] s = .exc (badX i) s) (s : Store) : C.Φ n 30 [.clo l none [], .d T, .d (.int (i : Nat))] s = .ok (.d (.bool true)) s := by
  rw [phi_at hn, ds30]
  unfold runF
  rw [if_pos (show [W.clo l none [], W.d T, W.d (PyData.int (i : Nat))].length = 3 from rfl)]
  have e0 : startE 5 [.clo l none [], .d T, .d (.int (i : Nat))] = [some (.clo l none []), some (.d T), some (.d (.int (i : Nat))), none, none] := rfl
  dsimp only
  rw [e0]
  unfold b30
  simp [l30, h, badX, runH, runIs, tells, List.lookup]
end K82

set_option linter.all false
set_option maxRecDepth 100000
set_option maxHeartbeats 1000000
/-! Cc: rows for dicts, for plain proofs. -/
namespace Cc
open PySem hiding Env listOf
section
variable {Φ : FT} {M : CTab} {CI : Nat → Option Nat} {FO : Nat → Str → Bool} {env : Env} {s : Store} {a o : Ex} {es : List Ex}
@[simp] theorem runE_dnew : runE Φ M CI FO .dnew env s = .ok (.ref s.length) (s ++ [.dn []]) := by simp only [runE]
@[simp] theorem runE_dofz : runE Φ M CI FO (.dofz a) env s = (runE Φ M CI FO a env s).bind fun x s => match (((top s x).bind seqOf).bind pairsOf).bind fun ps => unD (dMerge [] ps) with
    | some zs => .ok (.fd zs) s
    | none => .stuck := by first | (simp only [runE]; done) | (simp only [runE]; rfl)
@[simp] theorem runE_dsort : runE Φ M CI FO (.dsort o) env s = (runE Φ M CI FO o env s).bind fun x s => match (dnOf s x).bind itemsD with
    | some ds => if sortOk ds then .ok (.d (.list (sortD ds))) s else .stuck
    | none => .stuck := by first | (simp only [runE]; done) | (simp only [runE]; rfl)
@[simp] theorem runE_dmet {m : Dm} : runE Φ M CI FO (.dmet m o es) env s = (runE Φ M CI FO o env s).bind fun x s => if (dnOf s x).isSome then (runEs Φ M CI FO es env s).bind fun ws s => dmetW m x ws s else .stuck := by simp only [runE]
end
@[simp] theorem walk_items {kvs : List (PyData × PyData)} {s : Store} : walkW .items [.fd kvs] s = some (kvs.map fun p => .pr p.1 p.2, none) := by simp only [walkW]
@[simp] theorem dnOf_fd {kvs : List (PyData × PyData)} {s : Store} : dnOf s (.fd kvs) = some (fdW kvs) := rfl
theorem dnOf_cell {kvs : List (PyData × W)} {s : Store} {n : Nat} (h : s[n]? = some (.dn kvs)) : dnOf s (.ref n) = some kvs := by
  unfold dnOf
  dsimp only
  rw [h]
theorem inW_dn {s : Store} {k : PyData} {w : W} {kvs : List (PyData × W)} (hk : keyB k = true) (hw : top s w = none) (h : dnOf s w = some kvs) : inW s (.d k) w = some (dAt kvs k).isSome := by
  unfold inW
  rw [hw]
  cases top s (.d k) <;> simp [keyOf, hk, h]
theorem setIx_dn {s : Store} {n : Nat} {k : PyData} {w : W} {kvs : List (PyData × W)} (hk : keyB k = true) (h : s[n]? = some (.dn kvs)) (hl : kvs.length < 16777216) : setIx (.ref n) (.d k) w s = .ok () (s.set n (.dn (dPut kvs k w))) := by
  cases k <;> simp only [keyB] at hk <;> try (cases hk; done)
  rename_i ks
  unfold setIx
  dsimp only
  rw [h]
  dsimp only
  rw [if_pos ⟨by simpa [keyB] using hk, hl⟩]
theorem dget2 {s : Store} {o : W} {k : PyData} {x : W} {kvs : List (PyData × W)} (hk : keyB k = true) (h : dnOf s o = some kvs) : dmetW .get o [.d k, x] s = .ok ((dAt kvs k).getD x) s := by
  unfold dmetW
  dsimp only
  rw [h]
  simp [keyOf, hk]
theorem boolsOf_mapf {α : Type} (f : α → Bool) : ∀ xs : List α, boolsOf (xs.map fun x => .bool (f x)) = some (xs.map f)
  | [] => rfl
  | x :: xs => by
    simp only [List.map_cons, boolsOf]
    rw [boolsOf_mapf f xs]
    rfl
theorem bf_all {α : Type} (f : α → Bool) (xs : List α) (s : Store) : bfD s .all [W.d (.list (xs.map fun x => .bool (f x)))] = some (.bool (xs.all f)) := by
  simp [bfD, one1, bfAll, Cc.listOf, boolsOf_mapf, Function.comp_def, List.all_map]
theorem bf_any {α : Type} (f : α → Bool) (xs : List α) (s : Store) : bfD s .any [W.d (.list (xs.map fun x => .bool (f x)))] = some (.bool (xs.any f)) := by
  simp [bfD, one1, bfAny, Cc.listOf, boolsOf_mapf, Function.comp_def, List.any_map]
theorem idxW_dn {s : Store} {o : W} {k : PyData} {kvs : List (PyData × W)} (hk : keyB k = true) (h : dnOf s o = some kvs) : idxW s o (.d k) = dAt kvs k := by
  cases k <;> simp only [keyB] at hk <;> try (cases hk; done)
  rename_i ks
  unfold idxW
  dsimp only
  have : keyOf (.d (.tuple ks)) = some (.tuple ks) := by
    unfold keyOf
    dsimp only
    rw [if_pos (by simpa [keyB] using hk)]
  rw [this, h]
/-! ### what is held -/
@[simp] theorem dAt_nil {k : PyData} : dAt [] k = none := rfl
open Classical in
theorem dAt_put {k k' : PyData} {w : W} (hk : keyB k = true) (hk' : keyB k' = true) (kvs : List (PyData × W)) : dAt (dPut kvs k w) k' = if k = k' then some w else dAt kvs k' := by
  unfold dPut
  by_cases e : k = k'
  · subst e
    rw [if_pos rfl]
    split
    · rename_i h
      unfold dAt at *
      induction kvs with
      | nil => simp at h
      | cons p r ih =>
        by_cases hp : dEq p.1 k = true
        · simp [hp]
        · have hp : dEq p.1 k = false := by simpa using hp
          simp only [List.map_cons, List.find?_cons, hp, Bool.false_eq_true, if_false] at h ih ⊢
          exact ih h
    · rename_i h
      unfold dAt at *
      have : kvs.find? (fun p => dEq p.1 k) = none := by simpa using h
      rw [List.find?_append, this]
      simp [keyB_self hk]
  · rw [if_neg e]
    have hne : dEq k k' = false := by
      rw [Bool.eq_false_iff]
      exact fun z => e (dEq_eq _ _ z)
    split
    · unfold dAt
      rw [List.find?_map]
      have ef : ((fun p : PyData × W => dEq p.1 k') ∘ fun p => if dEq p.1 k = true then (p.1, w) else p) = fun p => dEq p.1 k' := by
        funext p
        show dEq (if dEq p.1 k = true then (p.1, w) else p).1 k' = _
        split <;> rfl
      rw [ef]
      cases hq : kvs.find? (fun p => dEq p.1 k') with
      | none => rfl
      | some q =>
        have h1 := dEq_eq _ _ (List.find?_some (p := fun p : PyData × W => dEq p.1 k') hq)
        have h2 : dEq q.1 k = false := Bool.eq_false_iff.mpr fun z => e ((dEq_eq _ _ z).symm.trans h1)
        simp [h2]
    · unfold dAt
      rw [List.find?_append]
      cases kvs.find? (fun p => dEq p.1 k') <;> simp [hne]
theorem dPut_len (kvs : List (PyData × W)) (k : PyData) (w : W) : (dPut kvs k w).length ≤ kvs.length + 1 := by
  unfold dPut
  split <;> simp
/-! ### pairs with keys unlike -/
theorem dPut_new {kvs : List (PyData × W)} {k : PyData} {w : W} (h : ∀ p ∈ kvs, p.1 ≠ k) : dPut kvs k w = kvs ++ [(k, w)] := by
  unfold dPut
  have : dAt kvs k = none := by
    unfold dAt
    rw [List.find?_eq_none.mpr fun p hp z => h p hp (dEq_eq _ _ z)]
    rfl
  rw [this]
  rfl
theorem dMerge_nodup : ∀ (ps kvs : List (PyData × W)), (kvs ++ ps).Pairwise (fun p q => p.1 ≠ q.1) → dMerge kvs ps = kvs ++ ps
  | [], kvs, _ => by simp [dMerge]
  | p :: ps, kvs, h => by
    have e : dPut kvs p.1 p.2 = kvs ++ [p] := dPut_new fun q hq => by
      rw [List.pairwise_append] at h
      exact h.2.2 q hq p List.mem_cons_self
    show dMerge (dPut kvs p.1 p.2) ps = _
    rw [e, dMerge_nodup ps _ (by simpa using h)]
    simp
section
variable {α : Type} {f : α → PyData} {g : α → PyData}
theorem pairsOf_map (hf : ∀ a, keyB (f a) = true) : ∀ as : List α, pairsOf (as.map fun a => .tuple [f a, g a]) = some (as.map fun a => (f a, W.d (g a)))
  | [] => rfl
  | a :: as => by
    simp only [List.map_cons, pairsOf]
    rw [pairsOf_map hf as]
    simp [pairOf, hf a]
theorem unD_map : ∀ as : List α, unD (as.map fun a => (f a, W.d (g a))) = some (as.map fun a => (f a, g a))
  | [] => rfl
  | a :: as => by
    simp only [List.map_cons, unD]
    rw [unD_map as]
    rfl
theorem itemsD_map : ∀ as : List α, itemsD (as.map fun a => (f a, W.d (g a))) = some (as.map fun a => .tuple [f a, g a])
  | [] => rfl
  | a :: as => by
    simp only [List.map_cons, itemsD]
    rw [itemsD_map as]
    rfl
theorem unD_merge {as : List α} (hn : as.Pairwise fun a b => f a ≠ f b) : unD (dMerge [] (as.map fun a => (f a, W.d (g a)))) = some (as.map fun a => (f a, g a)) := by
  rw [dMerge_nodup _ [] (by rw [List.nil_append, List.pairwise_map]; exact hn), List.nil_append, unD_map]
/-- a key looked up among unlike ones -/
theorem dAt_map (hf : ∀ a, keyB (f a) = true) (h : α → W) {as : List α} (hn : as.Pairwise fun a b => f a ≠ f b) (a : α) (ha : a ∈ as) : dAt (as.map fun a => (f a, h a)) (f a) = some (h a) := by
  unfold dAt
  induction as with
  | nil => cases ha
  | cons b as ih =>
    rw [List.pairwise_cons] at hn
    rcases List.mem_cons.mp ha with rfl | ha
    · simp [keyB_self (hf a)]
    · have hne : dEq (f b) (f a) = false := Bool.eq_false_iff.mpr fun z => hn.1 a ha (dEq_eq _ _ z)
      simp only [List.map_cons, List.find?_cons, hne]
      exact ih hn.2 ha
theorem dAt_mem (hf : ∀ a, keyB (f a) = true) (h : α → W) (as : List α) (k : PyData) : (dAt (as.map fun a => (f a, h a)) k).isSome = true ↔ ∃ a ∈ as, f a = k := by
  unfold dAt
  rw [Option.isSome_map, List.find?_isSome]
  constructor
  · rintro ⟨p, hp, e⟩
    obtain ⟨a, ha, rfl⟩ := List.mem_map.mp hp
    exact ⟨a, ha, dEq_eq _ _ e⟩
  · rintro ⟨a, ha, rfl⟩
    exact ⟨_, List.mem_map.mpr ⟨a, ha, rfl⟩, keyB_self (hf a)⟩
end
end Cc

set_option linter.all false
set_option maxRecDepth 100000
set_option maxHeartbeats 4000000
/-! Cc: pools of numbers, as the laws draw from them. -/
namespace Cc
open PySem hiding Env listOf
def mixB : Sx := Sx.seq
  (Sx.assign (Tx.name 2) (Ex.bin (Bop.mod) (Ex.bin (Bop.mul) (Ex.bin (Bop.add) (Ex.bin (Bop.add) (Ex.var 0) (Ex.bin (Bop.mul) (Ex.const (PyData.int 7919)) (Ex.var 1))) (Ex.const (PyData.int 1))) (Ex.const (PyData.int 48271))) (Ex.const (PyData.int 2147483647))))
  (Sx.seq
    (Sx.assign (Tx.name 2) (Ex.bin (Bop.mod) (Ex.bin (Bop.mul) (Ex.var 2) (Ex.bin (Bop.add) (Ex.bin (Bop.fdiv) (Ex.var 2) (Ex.const (PyData.int 1009))) (Ex.const (PyData.int 69621)))) (Ex.const (PyData.int 2147483647))))
    (Sx.ret (Ex.bin (Bop.mod) (Ex.bin (Bop.mul) (Ex.var 2) (Ex.bin (Bop.add) (Ex.bin (Bop.fdiv) (Ex.var 2) (Ex.const (PyData.int 1013))) (Ex.const (PyData.int 40692)))) (Ex.const (PyData.int 2147483647)))))
def poolB (im : Nat) : Sx := Sx.seq
  (Sx.assign (Tx.name 2) (Ex.const (PyData.int 0)))
  (Sx.seq
    (Sx.ite (Bx.tru (Ex.cmp (Cop.lt) (Ex.var 1) (Ex.bf (Bf.len) [Ex.var 0]))) (Sx.assign (Tx.name 2) (Ex.idx (Ex.var 0) (Ex.var 1))) (Sx.pass))
    (Sx.seq
      (Sx.assign (Tx.name 3) (Ex.lst true []))
      (Sx.seq
        (Sx.assign (Tx.name 4) (Ex.bin (Bop.fdiv) (Ex.var 2) (Ex.const (PyData.int 2))))
        (Sx.seq
          (Sx.for
            false
            [5]
            true
            (Wk.rng1)
            [Ex.const (PyData.int 60)]
            (Sx.ite
              (Bx.and (Bx.tru (Ex.cmp (Cop.eq) (Ex.bin (Bop.mod) (Ex.var 2) (Ex.const (PyData.int 2))) (Ex.const (PyData.int 0)))) (Bx.tru (Ex.cmp (Cop.gt) (Ex.var 4) (Ex.const (PyData.int 0)))))
              (Sx.seq (Sx.expr (Ex.mut (Mt.append) (Ex.var 3) [Ex.bin (Bop.mod) (Ex.var 4) (Ex.const (PyData.int 64))])) (Sx.assign (Tx.name 4) (Ex.bin (Bop.fdiv) (Ex.var 4) (Ex.const (PyData.int 64)))))
              (Sx.expr (Ex.mut (Mt.append) (Ex.var 3) [Ex.call (Cm.frz) im [Ex.var 2, Ex.var 5]]))))
          (Sx.ret (Ex.cell (Ex.rev (Ex.var 3))))))))
def takeB : Sx := Sx.seq (Sx.ite (Bx.tru (Ex.cmp (Cop.eq) (Ex.var 0) (Ex.lst false []))) (Sx.ret (Ex.const (PyData.int 0))) (Sx.pass)) (Sx.ret (Ex.bin (Bop.mod) (Ex.mut (Mt.pop) (Ex.var 0) []) (Ex.var 1)))
def Tk (k : Nat) (z : Int) (s : Store) : W → Store → Prop := fun w s' => ∃ (P : List Int) (v : Int), w = .d (.int v) ∧ s' = s.set k (.lst (P.map .int)) ∧ 0 ≤ v ∧ v < z
theorem shaped_ints (P : List Int) : SeqAt.shaped (.list (P.map PyData.int)) = true := shaped_list fun x hx => by
  obtain ⟨i, _, rfl⟩ := List.mem_map.mp hx
  simp [PyData.canLay0, PyData.depth]
theorem take_gen {C : Cf} {i5 : Nat} (hd : C.ds i5 = ⟨2, 2, takeB⟩) {n : Nat} (hn : i5 < n) {k : Nat} {P : List Int} {z : Int} {s : Store} (hk : s[k]? = some (.lst (P.map .int))) (hz : 0 < z) : Ok (C.Φ n i5 [.ref k, .d (.int z)] s) (Tk k z s) := by
  refine phi_ok hn hd rfl ?_
  unfold takeB
  have e := eqD_nil (shaped_ints P)
  have ec : cmpW .eq s (.ref k) (.d (.list [])) = some (P.map PyData.int).isEmpty := by
    show (do cmpD .eq (← Cc.top s (.ref k)) (← Cc.top s (.d (.list [])))) = _
    rw [top_cell hk]
    exact e
  simp [startE, Ok_bind, newLst, sizeLine, ec]
  have hl : k < s.length := (List.getElem?_eq_some_iff.mp hk).1
  split
  · rename_i hp
    subst hp
    refine ⟨[], 0, rfl, ?_, Int.le_refl _, hz⟩
    apply List.ext_getElem?
    intro j
    rcases Nat.decEq k j with h | h
    · rw [List.getElem?_set_ne h]
    · subst h
      rw [List.getElem?_set_self hl, hk]
  · rename_i hp
    obtain ⟨Q, q, rfl⟩ : ∃ Q q, P = Q ++ [q] := ⟨P.dropLast, P.getLast hp, (List.dropLast_concat_getLast hp).symm⟩
    have hpop : popC (.lst ((Q ++ [q]).map PyData.int)) = some (.int q, .lst (Q.map .int)) := by
      simp [popC]
    have hm : mutW .pop (.ref k) [] s = .ok (.d (.int q)) (s.set k (.lst (Q.map .int))) := by
      simp only [mutW, chg]
      rw [hk]
      show (match popC (.lst ((Q ++ [q]).map PyData.int)) with | some (x, c) => Res.ok (W.d x) (s.set k c) | none => .stuck) = _
      rw [hpop]
    have hi : isLstC s (.ref k) = true := by
      simp only [isLstC]
      rw [hk]
    rw [hm]
    simp [hi, hz]
    exact ⟨Q, q % z, rfl, rfl, Int.emod_nonneg _ (by omega), Int.emod_lt_of_pos _ hz⟩
theorem tset {k : Nat} {P Q : List Int} {s : Store} (hk : s[k]? = some (.lst (P.map .int))) : (s.set k (.lst (Q.map PyData.int)))[k]? = some (.lst (Q.map .int)) := List.getElem?_set_self (List.getElem?_eq_some_iff.mp hk).1

/-- something was drawn, the pool is another -/
def Dw {α : Type} (k : Nat) (s : Store) (f : α → PyData) (C : α → Prop) : W → Store → Prop := fun w s' => ∃ (P : List Int) (x : α), w = .d (f x) ∧ s' = s.set k (.lst (P.map .int)) ∧ C x

theorem mixed_gen {C : Cf} {i3 : Nat} (hd : C.ds i3 = ⟨2, 3, mixB⟩) {n : Nat} (hn : i3 < n) (c k : Int) (s : Store) : ∃ v, callM .frz (C.Φ n i3) [.d (.int c), .d (.int k)] s = .ok (.d (.int v)) s := by
  have h : Ok (C.Φ n i3 [.d (.int c), .d (.int k)] []) fun w _ => ∃ v, w = .d (.int v) := by
    refine phi_ok hn hd rfl ?_
    unfold mixB
    have m1 : ∀ i : Int, mulOk i 48271 = true := fun i => mulOk_r (by decide) (by decide)
    have m3 : ∀ i : Int, mulOk 7919 i = true := fun i => mulOk_l (by decide) (by decide)
    have m2 : ∀ i j : Int, mulOk (i % 2147483647) j = true := fun i j => mulOk_l (by omega) (by omega)
    have l1 : Nat.log2 1009 < 9000 := by decide
    have l2 : Nat.log2 1013 < 9000 := by decide
    simp [startE, Ok_bind, m1, m2, m3, l1, l2]
  obtain ⟨w, t, e, v, rfl⟩ := h.ex
  exact ⟨v, frz_eq (xs := [.int c, .int k]) (by simp) e (by simp)⟩
theorem pool_gen {C : Cf} {i4 im : Nat} (hd : C.ds i4 = ⟨2, 6, poolB im⟩) (hm : C.ds im = ⟨2, 3, mixB⟩) (hl : im < i4) {n : Nat} (hn : i4 < n) (ns : List Int) (j : Nat) : Ok (C.Φ n i4 [.d (.list (ns.map .int)), .d (.int (j : Nat))] []) fun w s => ∃ P : List Int, w = .ref 1 ∧ ∃ c, s = [c, .lst (P.map .int)] := by
  refine phi_ok hn hd rfl ?_
  unfold poolB
  have l2 : Nat.log2 2 < 9000 := by decide
  have l64 : Nat.log2 64 < 9000 := by decide
  have main : ∀ c : Int, Ok (runS (C.Φ i4) C.M C.CI C.FO C.xi (Sx.seq (Sx.assign (Tx.name 3) (Ex.lst true []))
      (Sx.seq
        (Sx.assign (Tx.name 4) (Ex.bin (Bop.fdiv) (Ex.var 2) (Ex.const (PyData.int 2))))
        (Sx.seq
          (Sx.for
            false
            [5]
            true
            (Wk.rng1)
            [Ex.const (PyData.int 60)]
            (Sx.ite
              (Bx.and (Bx.tru (Ex.cmp (Cop.eq) (Ex.bin (Bop.mod) (Ex.var 2) (Ex.const (PyData.int 2))) (Ex.const (PyData.int 0)))) (Bx.tru (Ex.cmp (Cop.gt) (Ex.var 4) (Ex.const (PyData.int 0)))))
              (Sx.seq (Sx.expr (Ex.mut (Mt.append) (Ex.var 3) [Ex.bin (Bop.mod) (Ex.var 4) (Ex.const (PyData.int 64))])) (Sx.assign (Tx.name 4) (Ex.bin (Bop.fdiv) (Ex.var 4) (Ex.const (PyData.int 64)))))
              (Sx.expr (Ex.mut (Mt.append) (Ex.var 3) [Ex.call (Cm.frz) im [Ex.var 2, Ex.var 5]]))))
          (Sx.ret (Ex.cell (Ex.rev (Ex.var 3))))))) [some (.d (.list (ns.map .int))), some (.d (.int (j : Nat))), some (.d (.int c)), none, none, none] []) (retQ fun w s => ∃ P : List Int, w = .ref 1 ∧ ∃ c, s = [c, .lst (P.map .int)]) := by
    intro c
    simp [Ok_bind, newLst, sizeLine, l2, rng1_int (i := 60) (by decide) (by decide)]
    refine Ok_forL _ (fun i env s => (∃ (b : Int) (x5 : Option W), env = [some (.d (.list (ns.map .int))), some (.d (.int (j : Nat))), some (.d (.int c)), some (.ref 0), some (.d (.int b)), x5]) ∧ ∃ P : List Int, s = [.lst (P.map .int)] ∧ P.length = i) (fun _ _ _ _ => rfl) ?_ ?_ _ _ ⟨⟨_, _, rfl⟩, [], rfl, rfl⟩
    · rintro i w env s hw ⟨⟨b, x5, rfl⟩, P, rfl, hP⟩
      obtain ⟨hi, rfl⟩ := rngW_at hw
      have hz : P.length < 16777216 := by
        have : (60 : Int).toNat = 60 := rfl
        omega
      obtain ⟨v, hv⟩ := mixed_gen hm hl c (i : Nat) [.lst (P.map .int)]
      have fin : ∀ (y b' : Int) (x5 : Option W), ∃ env' s', turnEnd false 1 [some (.d (.list (ns.map .int))), some (.d (.int (j : Nat))), some (.d (.int c)), some (.ref 0), some (.d (.int b')), x5] [.lst (P.map .int ++ [.int y])] = some (env', s') ∧
          (∃ (b : Int) (x5 : Option W), env' = [some (.d (.list (ns.map .int))), some (.d (.int (j : Nat))), some (.d (.int c)), some (.ref 0), some (.d (.int b)), x5]) ∧ ∃ P : List Int, s' = [.lst (P.map .int)] ∧ P.length = i + 1 := fun y b' x5 =>
        ⟨_, _, rfl, ⟨_, _, rfl⟩, P ++ [y], by simp, by simp [hP]⟩
      simp [Ok_bind]
      by_cases h1 : c % 2 = 0
      · by_cases h2 : 0 < b
        · simp [h1, h2, Ok_bind, isLstC, mutW, chg, appC, appL, sizeLine, hz, l64]
          exact fin _ _ _
        · simp [h1, h2, Ok_bind, isLstC, hv, mutW, chg, appC, appL, sizeLine, hz]
          exact fin _ _ _
      · simp [h1, Ok_bind, isLstC, hv, mutW, chg, appC, appL, sizeLine, hz]
        exact fin _ _ _
    · rintro env s ⟨⟨b, x5, rfl⟩, P, rfl, hP⟩
      simp [Ok_bind, Cc.top, revD, toCell]
      exact ⟨P.reverse, by simp⟩
  have ite : ∃ c : Int, runS (C.Φ i4) C.M C.CI C.FO C.xi (Sx.ite (Bx.tru (Ex.cmp (Cop.lt) (Ex.var 1) (Ex.bf (Bf.len) [Ex.var 0]))) (Sx.assign (Tx.name 2) (Ex.idx (Ex.var 0) (Ex.var 1))) (Sx.pass))
      [some (.d (.list (ns.map .int))), some (.d (.int (j : Nat))), some (.d (.int 0)), none, none, none] [] = .ok (.next, [some (.d (.list (ns.map .int))), some (.d (.int (j : Nat))), some (.d (.int c)), none, none, none]) [] := by
    cases hj : ns[j]? with
    | none =>
      have : ns.length ≤ j := by simpa using hj
      refine ⟨0, ?_⟩
      have h2 : ¬ j < ns.length := by omega
      simp [bfD, one1, bfLen, lenW, lenD, h2]
    | some c =>
      refine ⟨c, ?_⟩
      have h1 := (List.getElem?_eq_some_iff.mp hj).1
      have ea : L2.atI ns (j : Nat) = some c := atI_nat hj
      simp [bfD, one1, bfLen, lenW, lenD, h1, ea]
  obtain ⟨c, hc⟩ := ite
  have e0 : startE 6 [W.d (.list (ns.map .int)), .d (.int (j : Nat))] = [some (.d (.list (ns.map .int))), some (.d (.int (j : Nat))), none, none, none, none] := rfl
  have m := main c
  rw [e0, runS_seq, Ok_bind]
  simp only [runS_assign, runE_const, Res.bind_ok, assign_name, Ok_ok, seqK_next, List.set]
  rw [runS_seq, Ok_bind, hc]
  exact m
theorem pool_keep {C : Cf} {i4 im : Nat} (hd : C.ds i4 = ⟨2, 6, poolB im⟩) (hm : C.ds im = ⟨2, 3, mixB⟩) (hl : im < i4) {n : Nat} (hn : i4 < n) (ns : List Int) (j : Nat) : ∃ (c : Cell) (P : List Int), ∀ s, callM .keep (C.Φ n i4) [.d (.list (ns.map .int)), .d (.int (j : Nat))] s = .ok (.ref (s.length + 1)) (s ++ [c.shift s.length, .lst (P.map .int)]) := by
  obtain ⟨w, t, e, P, rfl, c, rfl⟩ := (pool_gen hd hm hl hn ns j).ex
  refine ⟨c, P, fun s => ?_⟩
  rw [keep_eq (xs := [.list (ns.map .int), .int (j : Nat)]) (by simp) e]
  simp [W.shift, Cell.shift]
  omega
end Cc

set_option linter.all false
set_option maxRecDepth 100000
set_option maxHeartbeats 4000000
/-! k82: a paper spoiled. -/
namespace K82
open PySem hiding Env listOf
open Cc
theorem lt_of_at {s : Store} {k : Nat} {c : Cell} (h : s[k]? = some c) : k < s.length := (List.getElem?_eq_some_iff.mp h).1
structure Gr (k : Nat) (s s' : Store) : Prop where
  len : s.length ≤ s'.length
  dr : ∃ a b : Int, s'[k]? = some (.lst [.int a, .int b])
  same : ∀ m, m < s.length → m ≠ k → s'[m]? = s[m]?
theorem Gr.trans {k : Nat} {s s1 s2 : Store} (a : Gr k s s1) (b : Gr k s1 s2) : Gr k s s2 :=
  ⟨Nat.le_trans a.len b.len, b.dr, fun m h n => (b.same m (Nat.lt_of_lt_of_le h a.len) n).trans (a.same m h n)⟩
theorem Gr.refl {k : Nat} {s : Store} {a b : Int} (h : s[k]? = some (.lst [.int a, .int b])) : Gr k s s := ⟨Nat.le_refl _, ⟨a, b, h⟩, fun _ _ _ => rfl⟩
theorem Gr.new {k : Nat} {s : Store} {a b : Int} (h : s[k]? = some (.lst [.int a, .int b])) (c : Cell) : Gr k s (s ++ [c]) :=
  ⟨by simp, ⟨a, b, by rw [List.getElem?_append_left (lt_of_at h)]; exact h⟩, fun m hm _ => List.getElem?_append_left hm⟩
/-- a cell behind s that is set -/
theorem Gr.put {k m : Nat} {s s' : Store} (g : Gr k s s') (hm : s.length ≤ m) (hk : k < s.length) (c : Cell) : Gr k s (s'.set m c) := by
  refine ⟨by simpa using g.len, ?_, fun j hj n => ?_⟩
  · obtain ⟨a, b, h⟩ := g.dr
    exact ⟨a, b, by rw [List.getElem?_set_ne (by omega)]; exact h⟩
  · rw [List.getElem?_set_ne (by omega)]
    exact g.same j hj n
theorem get_new {s : Store} {c : Cell} : (s ++ [c])[s.length]? = some c := by simp
theorem get_set {s : Store} {m : Nat} {c c' : Cell} (h : s[m]? = some c') : (s.set m c)[m]? = some c := List.getElem?_set_self (lt_of_at h)
/-- something is drawn -/
def Dr {α : Type} (k : Nat) (s : Store) (f : α → PyData) (Q : α → Prop) : W → Store → Prop := fun w s' => ∃ x, w = .d (f x) ∧ Gr k s s' ∧ Q x
theorem npr {F : List W → Store → Res W} {j : Nat} {ws : List W} {s : Store} : callM .frz F (.ref j :: ws) s = F (.ref j :: ws) s := by simp [callM, allPure]
theorem next_ok {n : Nat} (hn : 21 < n) {k : Nat} {a b z : Int} {s : Store} (hk : s[k]? = some (.lst [.int a, .int b])) (hz : 0 < z) (hz2 : z.natAbs.log2 < 9000) : Ok (C.Φ n 21 [.ref k, .d (.int z)] s) (Dr k s PyData.int fun v => 0 ≤ v ∧ v < z) :=
  (next_gen (i := 21) ds21 hn hk hz hz2).mono fun w s' ⟨a', b', v, e1, e2, e3, e4⟩ => ⟨v, e1, e2 ▸ ⟨by simp, ⟨a', b', get_set hk⟩, fun m _ n => List.getElem?_set_ne (by omega)⟩, e3, e4⟩
def sp5 : Sx := (Sx.ret (Ex.calla (Cm.frz) 3 30 [Ex.cv 1, Ex.bm (Bm.join) (Ex.const (PyData.str { cps := #[10] })) [Ex.var 7], Ex.var 5]))
def sp4 : Sx := (Sx.seq (Sx.ite (Bx.tru (Ex.cmp (Cop.eq) (Ex.var 7) (Ex.lst false [Ex.const (PyData.str { cps := #[] })]))) (Sx.ret (Ex.cmp (Cop.eq) (Ex.callc (Cm.frz) 3 31 1 [Ex.const (PyData.str { cps := #[] })]) (Ex.lst false []))) (Sx.pass)) sp5)
def sp3 : Sx := (Sx.seq (Sx.assign (Tx.name 7) (Ex.cell (Ex.bf (Bf.list) [Ex.var 4]))) (Sx.seq (Sx.assign (Tx.sub (Ex.var 7) (Ex.var 5)) (Ex.idx (Ex.var 3) (Ex.call (Cm.frz) 21 [Ex.var 0, Ex.bf (Bf.len) [Ex.var 3]]))) (Sx.seq (Sx.ite (Bx.tru (Ex.cmp (Cop.gt) (Ex.var 6) (Ex.var 5))) (Sx.assign (Tx.sub (Ex.var 7) (Ex.var 6)) (Ex.idx (Ex.var 3) (Ex.call (Cm.frz) 21 [Ex.var 0, Ex.bf (Bf.len) [Ex.var 3]]))) (Sx.pass)) sp4)))
def sp2 : Sx := (Sx.seq (Sx.assign (Tx.name 5) (Ex.call (Cm.frz) 21 [Ex.var 0, Ex.bf (Bf.len) [Ex.var 4]])) (Sx.seq (Sx.assign (Tx.name 6) (Ex.call (Cm.frz) 21 [Ex.var 0, Ex.bf (Bf.len) [Ex.var 4]])) sp3))
def sp1 : Sx := (Sx.seq (Sx.ite (Bx.tru (Ex.cmp (Cop.ne) (Ex.bf (Bf.len) [Ex.callc (Cm.frz) 3 31 1 [Ex.bm (Bm.join) (Ex.const (PyData.str { cps := #[10] })) [Ex.var 4]]]) (Ex.bf (Bf.len) [Ex.var 4]))) (Sx.ret (Ex.const (PyData.bool false))) (Sx.pass)) sp2)
theorem sp_eq : b31 = (Sx.seq (Sx.assign (Tx.name 4) (Ex.comp [8] false false [8] true (Wk.rng1) [Ex.bin (Bop.add) (Ex.const (PyData.int 1)) (Ex.call (Cm.frz) 21 [Ex.var 0, Ex.const (PyData.int 6)])] none (Ex.idx (Ex.var 2) (Ex.call (Cm.frz) 21 [Ex.var 0, Ex.bf (Bf.len) [Ex.var 2]])))) sp1) := by kernel_rfl
theorem bad1_none {v : Str → PyData} : ∀ {xs : List Str}, (∀ x ∈ xs, isN (v x) = false) → bad1 v xs = none
  | [], _ => rfl
  | x :: xs, h => by
    have h1 := h x List.mem_cons_self
    simp [bad1, h1, bad1_none fun y hy => h y (List.mem_cons_of_mem _ hy)]
theorem bad1_at {v : Str → PyData} : ∀ {xs : List Str} {i : Nat} (y : Str), xs[i]? = some y → isN (v y) = true → (∀ k, k < i → ∀ x, xs[k]? = some x → isN (v x) = false) → bad1 v xs = some i
  | [], _, _, h, _, _ => by simp at h
  | x :: xs, 0, y, h, hy, _ => by
    simp only [List.getElem?_cons_zero, Option.some.injEq] at h
    subst h
    simp [bad1, hy]
  | x :: xs, i + 1, y, h, hy, hk => by
    have h1 := hk 0 (Nat.succ_pos _) x rfl
    have ih := bad1_at (v := v) (xs := xs) (i := i) y (by simpa using h) hy fun k hk' z hz => hk (k + 1) (Nat.succ_lt_succ hk') z (by simpa using hz)
    simp [bad1, h1, ih]
theorem eqD_strsL {xs ys : List Str} (hx : ∀ x ∈ xs, SOk x) (hy : ∀ x ∈ ys, SOk x) : eqD (.list (xs.map .str)) (.list (ys.map .str)) = some (decide (xs = ys)) := by
  have h1 : PyData.canLay0 (.list (xs.map .str)) = true := by simp only [PyData.canLay0]; exact layAll_strs hx
  have h2 : PyData.canLay0 (.list (ys.map .str)) = true := by simp only [PyData.canLay0]; exact layAll_strs hy
  have h3 : SeqAt.shaped (.list (xs.map .str)) = true := by
    unfold SeqAt.shaped
    rw [h1, show PyData.depth (.list (xs.map .str)) = PyData.depthAll (xs.map .str) + 1 from by simp only [PyData.depth], depth_strs]
    rfl
  unfold eqD
  rw [if_neg (by simp [scP]), h3, h2, if_pos (by decide)]
  simp only [PyData.eqv, eqvAll_strs]
@[simp] theorem argC_bm {env : Cc.Env} {m : Bm} {o : Ex} {es : List Ex} : argC env (.bm m o es) = none := rfl
theorem retQ_imp {Q Q' : W → Store → Prop} (h : ∀ w s, Q w s → Q' w s) {p : Cc.Flow × Cc.Env} {s : Store} (q : retQ Q p s) : retQ Q' p s := by
  obtain ⟨f, e⟩ := p
  cases f <;> first | exact h _ _ q | exact q
theorem ixN_of {n i : Nat} (h : i < n) : L2.ixN n (i : Int) = some i := by
  unfold L2.ixN
  rw [if_pos (by omega), if_pos (by omega)]
  simp
theorem set_str {s : Store} {k : Nat} {xs : List Str} {i : Nat} {y : Str} (h : s[k]? = some (.lst (xs.map .str))) (hi : i < xs.length) : setIx (.ref k) (.d (.int (i : Nat))) (.d (.str y)) s = .ok () (s.set k (.lst ((xs.set i y).map .str))) := by
  rw [set_cell' h, ixN_of (by simpa using hi)]
  simp [List.map_set]
section
variable {l : Nat} {v : Str → PyData} {G B : List Str} (R : Rdr l v G B)
include R
/-- the spoiled text -/
theorem part4 {k j at_ : Nat} {ws : List Str} {σ : Store} (hj : σ[j]? = some (.lst (ws.map .str))) (hz : ws ≠ []) (hl : ws.length ≤ 6) (hm : ∀ x ∈ ws, x ∈ G ∨ x ∈ B) (hb : bad1 v ws = some at_) (x2 x3 x4 x6 x8 : Option W) :
    Ok (runS (C.Φ 31) C.M C.CI C.FO C.xi sp4 [some (.ref k), some (.clo l none []), x2, x3, x4, some (.d (.int (at_ : Nat))), x6, some (.ref j), x8] σ) (retQ fun w s' => w = .d (.bool true) ∧ s' = σ) := by
  have tp : Cc.top σ (.ref j) = some (.list (ws.map .str)) := by simp [Cc.top, hj]
  have eq1 : eqD (.list (ws.map .str)) (.list [.str ⟨#[]⟩]) = some (decide (ws = [⟨#[]⟩])) := eqD_strsL (ys := [⟨#[]⟩]) (fun x hx => R.sok x (hm x hx)) (by decide +kernel)
  have l31 : l < 31 := by have := R.l30; omega
  have rn := fun s => R.none 31 (by decide) s
  have eq0 : eqD (.list []) (.list []) = some true := by decide +kernel
  have jn : bmD σ .join (.d (.str nl)) [.ref j] = some (.str (Txt.join nl ws)) := by
    have h1 := joinL (a := nl) (ys := ws) (B := 1000) (m := 6) (fun y hy => R.len y (hm y hy)) hl (by decide) σ
    rw [← h1]
    show bmJoin σ (.d (.str nl)) (.ref j) = bmJoin σ (.d (.str nl)) (.d (.list (ws.map .str)))
    unfold bmJoin
    rw [tp]
    rfl
  have ce : cmpW .eq σ (.ref j) (.d (.list [.str ⟨#[]⟩])) = some (decide (ws = [⟨#[]⟩])) := by
    show (Cc.top σ (.ref j)).bind (fun a => (Cc.top σ (.d (.list [.str ⟨#[]⟩]))).bind fun b => cmpD .eq a b) = _
    rw [tp]
    exact eq1
  unfold sp4 sp5
  by_cases hw : ws = [⟨#[]⟩]
  · have ce0 : ∀ s, cmpW .eq s (.d (.list [])) (.d (.list [])) = some true := fun s => by simp [cmpW, cmpD, Cc.top, eq0]
    simp [Ok_bind, newLst, sizeLine, ce, hw, l31, rn, ce0]
  · obtain ⟨_, r2⟩ := R.run 30 (by decide) ws hz hw hl hm
    have rf := refused_ok (T := .str (Txt.join nl ws)) R.l30 (n := 31) (by decide) (r2 at_ hb) σ
    have np3 : ∀ F : List W → Store → Res W, callM .frz F [.clo l none [], .d (.str (Txt.join nl ws)), .d (.int (at_ : Nat))] σ = F [.clo l none [], .d (.str (Txt.join nl ws)), .d (.int (at_ : Nat))] σ := fun F => by simp [callM, allPure_clo]
    simp [Ok_bind, newLst, sizeLine, ce, hw, argC_bm, jn, convL, np3, rf]
/-- rows exchanged -/
theorem part3 {k at_ lt : Nat} {a b : Int} {xs : List Str} {σ : Store} (hk : σ[k]? = some (.lst [.int a, .int b])) (hx : ∀ x ∈ xs, x ∈ G) (hl : xs.length ≤ 6) (h1 : at_ < xs.length) (h2 : lt < xs.length) (x8 : Option W) :
    Ok (runS (C.Φ 31) C.M C.CI C.FO C.xi sp3 [some (.ref k), some (.clo l none []), some (.d (.list (G.map .str))), some (.d (.list (B.map .str))), some (.d (.list (xs.map .str))), some (.d (.int (at_ : Nat))), some (.d (.int (lt : Nat))), none, x8] σ) (retQ fun w s' => w = .d (.bool true) ∧ Gr k σ s') := by
  have bl : ∀ s, bfD s .list [.d (.list (xs.map .str))] = some (.list (xs.map .str)) := fun _ => rfl
  have tc : toCell (.d (.list (xs.map .str))) σ = .ok (.ref σ.length) (σ ++ [.lst (xs.map .str)]) := rfl
  have kl := lt_of_at hk
  have k1 : (σ ++ [Cell.lst (xs.map .str)])[k]? = some (.lst [.int a, .int b]) := by rw [List.getElem?_append_left kl]; exact hk
  have z1 : (0 : Int) < (B.length : Nat) := by have := R.bl.1; omega
  have z2 : ((B.length : Nat) : Int).natAbs.log2 < 9000 := by
    have h1 := R.bl.2
    have : ((B.length : Nat) : Int).natAbs = B.length := by omega
    rw [this]
    exact Nat.lt_of_le_of_lt (Nat.log2_le_self _) (by omega)
  have bB : ∀ s, bfD s .len [.d (.list (B.map .str))] = some (.int (B.length : Nat)) := fun s => by
    show some (PyData.int ((B.map PyData.str).length : Nat)) = _
    rw [List.length_map]
  have npr : ∀ (F : List W → Store → Res W) k z s, callM .frz F [.ref k, .d z] s = F [.ref k, .d z] s := fun F k z s => by simp [callM]
  unfold sp3
  simp [Ok_bind, bl, tc, bB, npr]
  refine (next_ok (n := 31) (by decide) k1 z1 z2).mono ?_
  rintro w σ1 ⟨v1, rfl, g1, d1, d2⟩
  obtain ⟨y, hy, iy⟩ := pick (xs := B) d1 (by omega)
  have c1 : σ1[σ.length]? = some (.lst (xs.map .str)) := (g1.same σ.length (by simp) (by omega)).trans (by simp)
  have st := set_str (y := y) c1 h1
  have gg : Gr k σ σ1 := (Gr.new hk _).trans g1
  have g2 : Gr k σ (σ1.set σ.length (.lst ((xs.set at_ y).map .str))) := gg.put (Nat.le_refl _) kl _
  have c2 : (σ1.set σ.length (.lst ((xs.set at_ y).map .str)))[σ.length]? = some (.lst ((xs.set at_ y).map .str)) := get_set c1
  generalize σ1.set σ.length (.lst ((xs.set at_ y).map .str)) = σ2 at *
  have wl : (xs.set at_ y).length = xs.length := List.length_set
  have ym : ∀ x ∈ xs.set at_ y, x ∈ G ∨ x ∈ B := fun x h => (List.mem_or_eq_of_mem_set h).elim (fun h => .inl (hx x h)) fun h => .inr (h ▸ hy)
  have lo : ∀ {ws : List Str} m, m < at_ → ws[m]? = xs[m]? → ∀ x, ws[m]? = some x → isN (v x) = false := fun m _ e x hx2 => R.good x (hx x (List.mem_of_getElem? (e.symm.trans hx2)))
  by_cases hlt : at_ < lt
  · obtain ⟨a2, b2, k2⟩ := g2.dr
    simp [Ok_bind, iy, st, hlt, bB, npr]
    refine (next_ok (n := 31) (by decide) k2 z1 z2).mono ?_
    rintro w σ3 ⟨v2, rfl, g3, d3, d4⟩
    obtain ⟨y2, hy2, iy2⟩ := pick (xs := B) d3 (by omega)
    have c3 : σ3[σ.length]? = some (.lst ((xs.set at_ y).map .str)) := (g3.same σ.length (lt_of_at c2) (by omega)).trans c2
    have st2 := set_str (y := y2) c3 (i := lt) (by omega)
    have g4 : Gr k σ (σ3.set σ.length (.lst (((xs.set at_ y).set lt y2).map .str))) := (g2.trans g3).put (Nat.le_refl _) kl _
    have c4 : (σ3.set σ.length (.lst (((xs.set at_ y).set lt y2).map .str)))[σ.length]? = some (.lst (((xs.set at_ y).set lt y2).map .str)) := get_set c3
    generalize σ3.set σ.length (.lst (((xs.set at_ y).set lt y2).map .str)) = σ4 at *
    simp [Ok_bind, iy2, st2]
    have ym2 : ∀ x ∈ (xs.set at_ y).set lt y2, x ∈ G ∨ x ∈ B := fun x h => (List.mem_or_eq_of_mem_set h).elim (fun h => ym x h) fun h => .inr (h ▸ hy2)
    have hb : bad1 v ((xs.set at_ y).set lt y2) = some at_ := bad1_at y (by rw [List.getElem?_set_ne (by omega)]; exact List.getElem?_set_self h1) (R.bad y hy) fun m hm => lo m hm (by rw [List.getElem?_set_ne (by omega), List.getElem?_set_ne (by omega)])
    refine (part4 R (k := k) c4 (fun z => ?_) (by simpa using hl) ym2 hb _ _ _ _ _).mono fun p s' q => ?_
    · have := congrArg List.length z
      simp at this
      subst this
      simp at h1
    · exact retQ_imp (fun w t ⟨e, r⟩ => ⟨e, r ▸ g4⟩) q
  · simp [Ok_bind, iy, st, hlt]
    have hb : bad1 v (xs.set at_ y) = some at_ := bad1_at y (List.getElem?_set_self h1) (R.bad y hy) fun m hm => lo m hm (by rw [List.getElem?_set_ne (by omega)])
    refine (part4 R (k := k) c2 (fun z => ?_) (by simpa using hl) ym hb _ _ _ _ _).mono fun p s' q => ?_
    · have := congrArg List.length z
      simp at this
      subst this
      simp at h1
    · exact retQ_imp (fun w t ⟨e, r⟩ => ⟨e, r ▸ g2⟩) q
/-- a paper drawn, read, spoiled -/
theorem spoiled_ok {n k : Nat} (hn : 31 < n) {a b : Int} {σ : Store} (hk : σ[k]? = some (.lst [.int a, .int b])) :
    Ok (C.Φ n 31 [.ref k, .clo l none [], .d (.list (G.map .str)), .d (.list (B.map .str))] σ) fun w s' => w = .d (.bool true) ∧ Gr k σ s' := by
  refine phi_ok hn ds31 rfl ?_
  have npr : ∀ (F : List W → Store → Res W) k z s, callM .frz F [.ref k, .d z] s = F [.ref k, .d z] s := fun F k z s => by simp [callM]
  have kl := lt_of_at hk
  have z1 : (0 : Int) < (G.length : Nat) := by have := R.gl.1; omega
  have z2 : ((G.length : Nat) : Int).natAbs.log2 < 9000 := by
    have h1 := R.gl.2
    have : ((G.length : Nat) : Int).natAbs = G.length := by omega
    rw [this]
    exact Nat.lt_of_le_of_lt (Nat.log2_le_self _) (by omega)
  have bG : ∀ s, bfD s .len [.d (.list (G.map .str))] = some (.int (G.length : Nat)) := fun s => by
    show some (PyData.int ((G.map PyData.str).length : Nat)) = _
    rw [List.length_map]
  have e0 : startE 9 [W.ref k, .clo l none [], .d (.list (G.map .str)), .d (.list (B.map .str))] = [some (.ref k), some (.clo l none []), some (.d (.list (G.map .str))), some (.d (.list (B.map .str))), none, none, none, none, none] := rfl
  rw [sp_eq, e0]
  simp [Ok_bind, npr]
  refine (next_ok (n := 31) (by decide) hk (z := 6) (by decide) (by decide)).mono ?_
  rintro w σ1 ⟨v1, rfl, g1, d1, d2⟩
  obtain ⟨m, rfl⟩ : ∃ m : Nat, v1 = (m : Nat) := ⟨v1.toNat, by omega⟩
  have rr : wRng1 (.d (.int (1 + (m : Int)))) = some ((List.range (1 + m)).map (fun (k : Nat) => W.d (.int (0 + (k : Nat)))), none) := by
    rw [show (1 : Int) + (m : Nat) = ((1 + m : Nat) : Int) by omega]
    exact rng1_nat (n := 1 + m) (by omega)
  simp [Ok_bind, rr]
  refine Ok_compL _ (fun i acc s => ∃ xs : List Str, acc = (xs.map PyData.str).map W.d ∧ xs.length = i ∧ (∀ x ∈ xs, x ∈ G) ∧ Gr k σ s) (fun _ _ _ _ => rfl) (fun i z acc s hz hI => ?_) (fun acc s hI => ?_) _ ⟨[], rfl, rfl, by simp, g1⟩
  · obtain ⟨xs, rfl, li, hG, g⟩ := hI
    have hi : i < 1 + m := by
      have := (List.getElem?_eq_some_iff.mp hz).1
      simpa using this
    obtain ⟨a2, b2, k2⟩ := g.dr
    simp [Ok_bind, wipeE, bG, npr]
    refine (next_ok (n := 31) (by decide) k2 z1 z2).mono ?_
    rintro w s2 ⟨v2, rfl, g2, d3, d4⟩
    obtain ⟨y, hy, iy⟩ := pick (xs := G) d3 (by omega)
    simp [iy]
    refine ⟨by omega, xs ++ [y], by simp, by simp [li], fun x hx => ?_, g.trans g2⟩
    rcases List.mem_append.mp hx with h | h
    · exact hG x h
    · rw [List.mem_singleton.mp h]; exact hy
  · obtain ⟨xs, rfl, li, hG, g⟩ := hI
    have li : xs.length = 1 + m := by simpa using li
    have hl : xs.length ≤ 6 := by omega
    have hz : xs ≠ [] := fun z => by subst z; simp at li; omega
    have hne : xs ≠ [⟨#[]⟩] := fun z => R.ok ⟨#[]⟩ (hG _ (by rw [z]; simp)) rfl
    have nb := bad1_none fun x hx => R.good x (hG x hx)
    obtain ⟨r1, _⟩ := R.run 31 (by decide) xs hz hne hl fun x hx => .inl (hG x hx)
    have jn := fun s => joinL (a := nl) (ys := xs) (B := 1000) (m := 6) (fun y hy => R.len y (.inl (hG y hy))) hl (by decide) s
    have l31 : l < 31 := by have := R.l30; omega
    have rd := r1 nb
    have bx : ∀ s, bfD s .len [.d (.list (xs.map .str))] = some (.int (xs.length : Nat)) := fun s => by
      show some (PyData.int ((xs.map PyData.str).length : Nat)) = _
      rw [List.length_map]
    have bv : ∀ s, bfD s .len [.d (.list (xs.map v))] = some (.int (xs.length : Nat)) := fun s => by
      show some (PyData.int ((xs.map v).length : Nat)) = _
      rw [List.length_map]
    have ce : compEnd false ((xs.map PyData.str).map W.d) s = .ok (.d (.list (xs.map .str))) s := by
      simp only [compEnd, allPure_map]
      rfl
    have ll : ((xs.length : Nat) : Int).natAbs.log2 < 9000 := by
      have : ((xs.length : Nat) : Int).natAbs = xs.length := by omega
      rw [this]
      exact Nat.lt_of_le_of_lt (Nat.log2_le_self _) (by omega)
    obtain ⟨a3, b3, k3⟩ := g.dr
    rw [ce]
    unfold sp1 sp2
    simp [Ok_bind, jn, l31, rd, bx, bv, npr]
    refine (next_ok (n := 31) (by decide) k3 (z := (xs.length : Nat)) (by omega) ll).mono ?_
    rintro w s3 ⟨v3, rfl, g3, d5, d6⟩
    obtain ⟨p, rfl⟩ : ∃ p : Nat, v3 = (p : Nat) := ⟨v3.toNat, by omega⟩
    obtain ⟨a4, b4, k4⟩ := g3.dr
    refine (next_ok (n := 31) (by decide) k4 (z := (xs.length : Nat)) (by omega) ll).mono ?_
    rintro w s4 ⟨v4, rfl, g4, d7, d8⟩
    obtain ⟨q, rfl⟩ : ∃ q : Nat, v4 = (q : Nat) := ⟨v4.toNat, by omega⟩
    obtain ⟨a5, b5, k5⟩ := g4.dr
    refine (part3 R k5 hG hl (by omega) (by omega) _).mono fun p s' q => ?_
    exact retQ_imp (fun w t ⟨e, r⟩ => ⟨e, ((g.trans g3).trans g4).trans r⟩) q
end
end K82

set_option linter.all false
set_option maxRecDepth 100000
set_option maxHeartbeats 4000000
/-! k82: the law. -/
namespace K82
open PySem hiding Env listOf
open Cc
def lw1 : Sx := (Sx.seq (Sx.assign (Tx.name 2) (Ex.bm (Bm.join) (Ex.const (PyData.str { cps := #[10] })) [Ex.call (Cm.frz) 22 []])) (Sx.seq (Sx.assign (Tx.name 3) (Ex.bm (Bm.join) (Ex.const (PyData.str { cps := #[10] })) [Ex.call (Cm.frz) 24 []])) (Sx.ret (Ex.and (Ex.cmp (Cop.eq) (Ex.call (Cm.frz) 6 [Ex.call (Cm.frz) 18 [Ex.var 2]]) (Ex.var 2)) (Ex.cmp (Cop.eq) (Ex.call (Cm.frz) 8 [Ex.call (Cm.frz) 19 [Ex.var 3]]) (Ex.var 3))))))
def lwB : Sx := (Sx.seq (Sx.assign (Tx.name 4) (Ex.call (Cm.keep) 20 [Ex.var 1])) (Sx.seq (Sx.assign (Tx.name 2) (Ex.call (Cm.frz) 22 [])) (Sx.seq (Sx.ite (Bx.not (Bx.tru (Ex.calla (Cm.frz) 3 31 [Ex.var 4, Ex.lam 26 [], Ex.var 2, Ex.call (Cm.frz) 23 []]))) (Sx.ret (Ex.const (PyData.bool false))) (Sx.pass)) (Sx.seq (Sx.assign (Tx.name 3) (Ex.call (Cm.frz) 24 [])) (Sx.seq (Sx.ite (Bx.not (Bx.tru (Ex.calla (Cm.frz) 3 31 [Ex.var 4, Ex.lam 27 [], Ex.var 3, Ex.call (Cm.frz) 25 []]))) (Sx.ret (Ex.const (PyData.bool false))) (Sx.pass)) (Sx.seq (Sx.assign (Tx.name 5) (Ex.idx (Ex.lst false [Ex.const (PyData.none), Ex.const (PyData.int 5), Ex.lst false [Ex.const (PyData.str { cps := #[104, 111, 109, 101, 32, 108, 97, 115, 116] })], Ex.tup [Ex.const (PyData.str { cps := #[97, 115, 107] }), Ex.const (PyData.int 0), Ex.const (PyData.str { cps := #[114, 101, 97, 100] })]]) (Ex.bin (Bop.mod) (Ex.var 1) (Ex.const (PyData.int 4))))) (Sx.seq (Sx.ite (Bx.not (Bx.tru (Ex.calla (Cm.frz) 3 30 [Ex.lam 28 [], Ex.var 5, Ex.const (PyData.int 0)]))) (Sx.ret (Ex.const (PyData.bool false))) (Sx.pass)) (Sx.ite (Bx.not (Bx.tru (Ex.calla (Cm.frz) 3 30 [Ex.lam 29 [], Ex.var 5, Ex.const (PyData.int 0)]))) (Sx.ret (Ex.const (PyData.bool false))) (Sx.pass)))))))))
theorem lw_eq : b32 = (Sx.seq (Sx.for true [1] true (Wk.seq) [Ex.slice (Ex.var 0) none (some (Ex.const (PyData.int 24)))] lwB) lw1) := by kernel_rfl
def runP (k : Nat) (y : PyData) : Option PyData := match table C.M C.CI C.FO C.xi tb (k + 1) k [.d y] [] with
  | .ok w s => frzW s w
  | _ => none
theorem rp_of {k n : Nat} (hn : k < n) {y : PyData} {d : PyData} (h : runP k y = some d) (s : Store) : callM .frz (C.Φ n k) [.d y] s = .ok (.d d) s := by
  unfold runP at h
  rw [← table_tb] at h
  have e : C.Φ n k = C.Φ (k + 1) k := by
    funext ws s
    rw [phi_at hn, phi_at (Nat.lt_succ_self k)]
  rw [e]
  split at h
  · rename_i w t e2
    exact frz_eq (xs := [y]) rfl e2 h
  · cases h
def tS : Str := Txt.join nl gS
def tD : Str := Txt.join nl gD
theorem backS : (runP 18 (.str tS)).bind (runP 6) = some (.str tS) := by kernel_rfl
theorem backD : (runP 19 (.str tD)).bind (runP 8) = some (.str tD) := by kernel_rfl
theorem tS_ok : SOk tS := by decide +kernel
theorem tD_ok : SOk tD := by decide +kernel
end K82

set_option linter.all false
set_option maxRecDepth 100000
set_option maxHeartbeats 4000000
/-! k82: the law, whole. -/
namespace K82
open PySem hiding Env listOf
open Cc
theorem turn_gc {n : Nat} {env : Cc.Env} {s : Store} (h : (s.take n).all (Cell.lo n) = true) : turnEnd true n env s = some (env.map (dropRef n), s.take n) := by
  simp [turnEnd, gcE, h]
def others : List PyData := [.none, .int 5, .list [.str ⟨#[104, 111, 109, 101, 32, 108, 97, 115, 116]⟩], .tuple [.str ⟨#[97, 115, 107]⟩, .int 0, .str ⟨#[114, 101, 97, 100]⟩]]
theorem others_no : ∀ y ∈ others, isD .str y = some false := by
  intro y hy
  simp only [others, List.mem_cons, List.not_mem_nil, or_false] at hy
  rcases hy with rfl | rfl | rfl | rfl <;> rfl
theorem tail_gen {TS TD : Str} {g1 g2 d1 d2 : PyData} (e22 : ∀ s, callM .frz (C.Φ 32 22) [] s = .ok (.d g1) s) (e24 : ∀ s, callM .frz (C.Φ 32 24) [] s = .ok (.d g2) s) (jS : ∀ s, bmD s .join (.d (.str nl)) [.d g1] = some (.str TS)) (jD : ∀ s, bmD s .join (.d (.str nl)) [.d g2] = some (.str TD))
    (q1 : ∀ s, callM .frz (C.Φ 32 18) [.d (.str TS)] s = .ok (.d d1) s) (q2 : ∀ s, callM .frz (C.Φ 32 6) [.d d1] s = .ok (.d (.str TS)) s) (q3 : ∀ s, callM .frz (C.Φ 32 19) [.d (.str TD)] s = .ok (.d d2) s) (q4 : ∀ s, callM .frz (C.Φ 32 8) [.d d2] s = .ok (.d (.str TD)) s) (x0 x1 x2 x3 x4 x5 : Option W) :
    Ok (runS (C.Φ 32) C.M C.CI C.FO C.xi lw1 [x0, x1, x2, x3, x4, x5] []) (retQ fun w _ => w = .d (.bool true)) := by
  unfold lw1
  simp [Ok_bind, e22, e24, jS, jD, q1, q2, q3, q4]
theorem jS (s : Store) : bmD s .join (.d (.str nl)) [.d (.list (gS.map .str))] = some (.str tS) := joinL (a := nl) (ys := gS) (B := 1000) (m := 10) (fun y hy => rdS.len y (.inl hy)) (by decide) (by decide) s
theorem jD (s : Store) : bmD s .join (.d (.str nl)) [.d (.list (gD.map .str))] = some (.str tD) := joinL (a := nl) (ys := gD) (B := 1000) (m := 10) (fun y hy => rdD.len y (.inl hy)) (by decide) (by decide) s
theorem both_of {k m : Nat} {x y : PyData} (h : (runP k x).bind (runP m) = some y) : ∃ d, runP k x = some d ∧ runP m d = some y := Option.bind_eq_some_iff.mp h
theorem tail_ok (x0 x1 x2 x3 x4 x5 : Option W) : Ok (runS (C.Φ 32) C.M C.CI C.FO C.xi lw1 [x0, x1, x2, x3, x4, x5] []) (retQ fun w _ => w = .d (.bool true)) :=
  (both_of backS).elim fun d1 h => (both_of backD).elim fun d2 g =>
    tail_gen (menu_of (n := 32) (by decide) m22) (menu_of (n := 32) (by decide) m24) jS jD (rp_of (n := 32) (by decide) h.1) (rp_of (n := 32) (by decide) h.2) (rp_of (n := 32) (by decide) g.1) (rp_of (n := 32) (by decide) g.2) x0 x1 x2 x3 x4 x5
theorem law_ok {n : Nat} (hn : 32 < n) (ns : List Int) : Ok (C.Φ n 32 [.d (.list (ns.map .int))] []) fun w _ => w = .d (.bool true) := by
  refine phi_ok hn ds32 rfl ?_
  rw [lw_eq]
  generalize hT : lw1 = T at *
  generalize hB : lwB = B at *
  have l24 : (cutX ns none (some 24)).length ≤ 24 := by
    have : cutX ns none (some 24) = ns.take 24 := cutX_pre ns 24
    rw [this, List.length_take]
    omega
  simp [startE, Ok_bind, cutD]
  generalize cutX ns none (some 24) = cs at *
  refine Ok_forL _ (fun i e σ => σ = [] ∧ ∃ x1 x2 x3 x4 x5, e = [some (.d (.list (ns.map .int))), x1, x2, x3, x4, x5]) (fun _ _ _ _ => rfl) (fun i z env s hz hI => ?_) (fun env s hI => ?_) _ _ ⟨rfl, _, _, _, _, _, rfl⟩
  · obtain ⟨rfl, x1, x2, x3, x4, x5, rfl⟩ := hI
    rw [List.getElem?_map] at hz
    obtain ⟨c, hc, rfl⟩ := map_of hz
    have dk : callM .keep (C.Φ 32 20) [.d (.int c)] [] = .ok (.ref 0) [.lst [.int (c / 2 * (1 - c % 2)), .int c]] := keep_draw (i := 20) ds20 (by decide) c []
    have e22 := menu_of (n := 32) (by decide) m22
    have e23 := menu_of (n := 32) (by decide) m23
    have e24 := menu_of (n := 32) (by decide) m24
    have e25 := menu_of (n := 32) (by decide) m25
    rw [← hB]
    unfold lwB
    have npc : ∀ (F : List W → Store → Res W) a b c d s, callM .frz F [.ref a, .clo b none [], c, d] s = F [.ref a, .clo b none [], c, d] s := fun F a b c d s => by simp [callM, allPure]
    have npd : ∀ (F : List W → Store → Res W) b c d s, callM .frz F [.clo b none [], c, d] s = F [.clo b none [], c, d] s := fun F b c d s => by simp [callM, allPure]
    simp [bindN, Ok_bind, dk, e22, e23, convL, npc]
    refine (spoiled_ok rdS (n := 32) (by decide) (k := 0) (a := c / 2 * (1 - c % 2)) (b := c) rfl).mono ?_
    rintro w s1 ⟨rfl, g1⟩
    obtain ⟨a1, b1, k1⟩ := g1.dr
    simp [Ok_bind, e24, e25, convL, npc]
    refine (spoiled_ok rdD (n := 32) (by decide) (k := 0) k1).mono ?_
    rintro w s2 ⟨rfl, g2⟩
    have hm : ∃ y ∈ others, L2.atI others (c % 4) = some y := pick (by omega) (by show c % 4 < 4; omega)
    obtain ⟨y, hy, iy⟩ := hm
    have rS : ∀ s, C.Φ 32 30 [.clo 28 none [], .d y, .d (.int 0)] s = .ok (.d (.bool true)) s := refused_ok (T := y) rdS2.l30 (i := 0) (n := 32) (by decide) (rdS2.no 30 (by decide) y (others_no y hy))
    have rD : ∀ s, C.Φ 32 30 [.clo 29 none [], .d y, .d (.int 0)] s = .ok (.d (.bool true)) s := refused_ok (T := y) rdD2.l30 (i := 0) (n := 32) (by decide) (rdD2.no 30 (by decide) y (others_no y hy))
    have iy' : ∀ s, idxW s (.d (.list others)) (.d (.int (c % 4))) = some (.d y) := fun s => by
      show (L2.atI others (c % 4)).map W.d = _
      rw [iy]
      rfl
    unfold others at iy'
    simp [Ok_bind, newLst, sizeLine, mkTupW, mkTup, iy', npd, convL, rS, rD]
    refine ⟨_, _, turn_gc (n := 0) rfl, rfl, ?_⟩
    simp [dropRef, W.lo]
  · obtain ⟨rfl, x1, x2, x3, x4, x5, rfl⟩ := hI
    have := tail_ok (some (.d (.list (ns.map .int)))) x1 x2 x3 x4 x5
    rw [hT] at this
    simpa using this
theorem pure (ns : List Int) (_ : ns.length ≤ 63) : ∃ t, C.Φ 33 32 [.d (.list (ns.map .int))] [] = .ok (.d (.bool true)) t := by
  obtain ⟨w, t, e, rfl⟩ := (law_ok (n := 33) (by decide) ns).ex
  exact ⟨t, e⟩
end K82

set_option Elab.async false
set_option linter.all false
set_option maxRecDepth 100000
set_option maxHeartbeats 0
namespace K82
open PySem PySem.Spec PyProof.Rows L2 Cc
abbrev RO : PySem.W.OpenRow := PySem.W.OpenLaw.row PySem.Challenge.rw_copyclerk_k82_rows_that_are_no_shapes
theorem chk : C.chk = true := by decide +kernel
theorem bd : ∀ i, i < C.n → C.Bd i
  | 0, _ => ⟨fun z => absurd z (by decide), fun _ => .inl ⟨rfl, fun _ _ _ _ _ _ us h => match us, h with | [_, _], _ => rfl⟩⟩
  | 1, _ => ⟨fun z => absurd z (by decide), fun _ => .inl ⟨rfl, fun _ _ _ _ _ _ us h => match us, h with | [_], _ => rfl⟩⟩
  | 2, _ => ⟨fun z => absurd z (by decide), fun _ => .inl ⟨rfl, fun _ _ _ _ _ _ us h => match us, h with | [_], _ => rfl⟩⟩
  | 3, _ => ⟨fun z => absurd z (by decide), fun _ => .inl ⟨rfl, fun _ _ _ _ _ _ us h => match us, h with | [_], _ => rfl⟩⟩
  | 4, _ => ⟨fun z => absurd z (by decide), fun _ => .inl ⟨rfl, fun _ _ _ _ _ _ us h => match us, h with | [_], _ => rfl⟩⟩
  | 5, _ => ⟨fun z => absurd z (by decide), fun _ => .inl ⟨rfl, fun _ _ _ _ _ _ us h => match us, h with | [_], _ => rfl⟩⟩
  | 6, _ => ⟨fun z => absurd z (by decide), fun _ => .inl ⟨rfl, fun _ _ _ _ _ _ us h => match us, h with | [_], _ => rfl⟩⟩
  | 7, _ => ⟨fun z => absurd z (by decide), fun _ => .inl ⟨rfl, fun _ _ _ _ _ _ us h => match us, h with | [_], _ => rfl⟩⟩
  | 8, _ => ⟨fun z => absurd z (by decide), fun _ => .inl ⟨rfl, fun _ _ _ _ _ _ us h => match us, h with | [_], _ => rfl⟩⟩
  | 9, _ => ⟨fun z => absurd z (by decide), fun _ => .inl ⟨rfl, fun _ _ _ _ _ _ us h => match us, h with | [_], _ => rfl⟩⟩
  | 10, _ => ⟨fun z => absurd z (by decide), fun _ => .inl ⟨rfl, fun _ _ _ _ _ _ us h => match us, h with | [_], _ => rfl⟩⟩
  | 11, _ => ⟨fun z => absurd z (by decide), fun _ => .inl ⟨rfl, fun _ _ _ _ _ _ us h => match us, h with | [_], _ => rfl⟩⟩
  | 12, _ => ⟨fun z => absurd z (by decide), fun _ => .inl ⟨rfl, fun _ _ _ _ _ _ us h => match us, h with | [_], _ => rfl⟩⟩
  | 13, _ => ⟨fun z => absurd z (by decide), fun _ => .inl ⟨rfl, fun _ _ _ _ _ _ us h => match us, h with | [_], _ => rfl⟩⟩
  | 14, _ => ⟨fun z => absurd z (by decide), fun _ => .inl ⟨rfl, fun _ _ _ _ _ _ us h => match us, h with | [_, _], _ => rfl⟩⟩
  | 15, _ => ⟨fun z => absurd z (by decide), fun _ => .inl ⟨rfl, fun _ _ _ _ _ _ us h => match us, h with | [_], _ => rfl⟩⟩
  | 16, _ => ⟨fun z => absurd z (by decide), fun _ => .inl ⟨rfl, fun _ _ _ _ _ _ us h => match us, h with | [_], _ => rfl⟩⟩
  | 17, _ => ⟨fun z => absurd z (by decide), fun _ => .inl ⟨rfl, fun _ _ _ _ _ _ us h => match us, h with | [_, _], _ => rfl⟩⟩
  | 18, _ => ⟨fun z => absurd z (by decide), fun _ => .inl ⟨rfl, fun _ _ _ _ _ _ us h => match us, h with | [_], _ => rfl⟩⟩
  | 19, _ => ⟨fun z => absurd z (by decide), fun _ => .inl ⟨rfl, fun _ _ _ _ _ _ us h => match us, h with | [_], _ => rfl⟩⟩
  | 20, _ => ⟨fun z => absurd z (by decide), fun _ => .inl ⟨rfl, fun _ _ _ _ _ _ us h => match us, h with | [_], _ => rfl⟩⟩
  | 21, _ => ⟨fun z => absurd z (by decide), fun _ => .inl ⟨rfl, fun _ _ _ _ _ _ us h => match us, h with | [_, _], _ => rfl⟩⟩
  | 22, _ => ⟨fun z => absurd z (by decide), fun _ => .inl ⟨rfl, fun _ _ _ _ _ _ us h => match us, h with | [], _ => rfl⟩⟩
  | 23, _ => ⟨fun z => absurd z (by decide), fun _ => .inl ⟨rfl, fun _ _ _ _ _ _ us h => match us, h with | [], _ => rfl⟩⟩
  | 24, _ => ⟨fun z => absurd z (by decide), fun _ => .inl ⟨rfl, fun _ _ _ _ _ _ us h => match us, h with | [], _ => rfl⟩⟩
  | 25, _ => ⟨fun z => absurd z (by decide), fun _ => .inl ⟨rfl, fun _ _ _ _ _ _ us h => match us, h with | [], _ => rfl⟩⟩
  | 26, _ => ⟨fun _ _ _ _ _ _ _ us h => match us, h with | [_], _ => ⟨fun _ _ _ => rfl, fun _ _ _ => rfl⟩, fun z => absurd z (by decide)⟩
  | 27, _ => ⟨fun _ _ _ _ _ _ _ us h => match us, h with | [_], _ => ⟨fun _ _ _ => rfl, fun _ _ _ => rfl⟩, fun z => absurd z (by decide)⟩
  | 28, _ => ⟨fun _ _ _ _ _ _ _ us h => match us, h with | [_], _ => ⟨fun _ _ _ => rfl, fun _ _ _ => rfl⟩, fun z => absurd z (by decide)⟩
  | 29, _ => ⟨fun _ _ _ _ _ _ _ us h => match us, h with | [_], _ => ⟨fun _ _ _ => rfl, fun _ _ _ => rfl⟩, fun z => absurd z (by decide)⟩
  | 30, _ => ⟨fun z => absurd z (by decide), fun _ => .inl ⟨rfl, fun _ _ _ _ _ _ us h => match us, h with | [_, _, _], _ => rfl⟩⟩
  | 31, _ => ⟨fun z => absurd z (by decide), fun _ => .inl ⟨rfl, fun _ _ _ _ _ _ us h => match us, h with | [_, _, _, _], _ => rfl⟩⟩
  | 32, _ => ⟨fun z => absurd z (by decide), fun _ => .inl ⟨rfl, fun _ _ _ _ _ _ us h => match us, h with | [_], _ => rfl⟩⟩
  | i + 33, h => absurd h (Nat.not_lt.mpr (Nat.le_add_left _ _))
theorem run (w : World) : HandSHeadRun.RunEq RO (PySem.W.view RO.prog [43]) (hookC 4 C) (obC 4 C) 4000 ("CopyError" :: "BadTable" :: "BadPaper" :: "NoDeed" :: "NoRow" :: "LETTERS" :: "ASKS" :: "is_word" :: "is_kind" :: "MARKS" :: "LETTER_MARKS" :: "COUNTS" :: "FLAGS" :: "FIGURES" :: "way_text" :: "config_text" :: "shape_text" :: "paper_text" :: "deed_text" :: "deeds_text" :: "letter_in" :: "way_in" :: "line_in" :: "lines_in" :: "shape_in" :: "number_in" :: "any_number_in" :: "deed_in" :: "rows_in" :: "read_paper" :: "read_deeds" :: "_law_draw" :: "_law_next" :: "_law_good_shapes" :: "_law_bad_shapes" :: "_law_good_deeds" :: "_law_bad_deeds" :: "_law_refused" :: "_law_spoiled" :: []) w := by
  intro os
  kernel_rfl
end K82
open PySem PySem.W PySem.Calls PyProof.Rows
theorem PySem.Challenge.cw_copyclerk_k82_rows_that_are_no_shapes_holds : PySem.Challenge.rw_copyclerk_k82_rows_that_are_no_shapes.Holds := by
  w_on; o_law
  refine HandSHeadRun.head_any (r := OpenLaw.row PySem.Challenge.rw_copyclerk_k82_rows_that_are_no_shapes) (q := view (OpenLaw.row PySem.Challenge.rw_copyclerk_k82_rows_that_are_no_shapes).prog [43]) (H := Cc.hookC 4 K82.C) (ob := Cc.obC 4 K82.C) (M := 4000) (loose := ("CopyError" :: "BadTable" :: "BadPaper" :: "NoDeed" :: "NoRow" :: "LETTERS" :: "ASKS" :: "is_word" :: "is_kind" :: "MARKS" :: "LETTER_MARKS" :: "COUNTS" :: "FLAGS" :: "FIGURES" :: "way_text" :: "config_text" :: "shape_text" :: "paper_text" :: "deed_text" :: "deeds_text" :: "letter_in" :: "way_in" :: "line_in" :: "lines_in" :: "shape_in" :: "number_in" :: "any_number_in" :: "deed_in" :: "rows_in" :: "read_paper" :: "read_deeds" :: "_law_draw" :: "_law_next" :: "_law_good_shapes" :: "_law_bad_shapes" :: "_law_good_deeds" :: "_law_bad_deeds" :: "_law_refused" :: "_law_spoiled" :: [])) (d := HandSHeadRun.topDef (OpenLaw.row PySem.Challenge.rw_copyclerk_k82_rows_that_are_no_shapes).prog 43) (kwd := []) (Cc.obC_eq 4 K82.C)
    (by kernel_rfl) (fun s => by kernel_rfl) K82.run (by kernel_rfl) (by kernel_rfl) (by kernel_rfl) (by rfl) (by first | assumption | decide +kernel) (by decide +kernel) ⟨rfl, rfl, rfl, rfl, rfl, by decide +kernel⟩ ?hw ?hc
  case hw => w_witness2
  case hc =>
    exact Cc.walk_c (lx := 32) (x := "_law_script") rfl (by kernel_rfl) (by kernel_rfl) ⟨rfl, by decide, by decide⟩ K82.chk K82.bd (by decide) rfl rfl rfl K82.pure
