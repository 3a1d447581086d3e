import PyProof.Rows.All
import Wide.All
import OpenK.AllK
import Wide.FinOn
import HandS.ForMost
import HandS.Strs
import HandS.Exc
import HandS.Deep
import HandS.Wide
import HandS.TupAny
import HandS.Style
import HandS.IsInst
import HandS.Conv
import HandS.CallSlots
import HandS.Defaults
import HandS.HeadEnd
import HandS.HeadHook2
import HandS.HeadWalk
import HandS.Head2
import HandS.TupMul
import HandS.TryOnly
import PySem.Challenge.RW_copyclerk_k23_runs_played
set_option Elab.async false
set_option linter.all false
set_option maxRecDepth 100000
/-! Cc: len(set(x)), x a list of texts of any kind. -/
namespace Cc
open PySem PySem.Spec PyProof.Rows
/-- how many unlike texts stand among the first i -/
def cntS (xs : List Str) : Nat → Nat
  | 0 => 0
  | i + 1 => if (xs.take i).any (· == xs.getD i Str.empty) then cntS xs i else cntS xs i + 1
theorem cntS_le (xs : List Str) : ∀ i, cntS xs i ≤ i
  | 0 => Nat.le_refl _
  | i + 1 => by
    have q := cntS_le xs i
    unfold cntS
    split <;> omega
def nDist (xs : List Str) : Nat := cntS xs xs.length
theorem cntS_nodup {xs : List Str} (nd : xs.Nodup) : ∀ i, i ≤ xs.length → cntS xs i = i
  | 0, _ => rfl
  | i + 1, h => by
    have hn : (xs.take i).any (· == xs.getD i Str.empty) = false := by
      rw [List.any_eq_false]
      intro y hy e
      obtain ⟨j, hj, ej⟩ := List.mem_iff_getElem.mp hy
      have hj2 : j < i := by simp at hj; omega
      have e1 : y = xs[i] := by rw [eq_of_beq e, List.getD_eq_getElem?_getD, List.getElem?_eq_getElem (by omega)]; rfl
      rw [List.getElem_take] at ej
      have := (List.getElem_inj nd).mp (ej.trans e1)
      omega
    rw [cntS, hn, if_neg (by decide), cntS_nodup nd i (by omega)]
theorem nDist_nodup {xs : List Str} (nd : xs.Nodup) : nDist xs = xs.length := cntS_nodup nd _ (Nat.le_refl _)
section
variable {p : Program} {w : World} {B : Around} {R : Result → Shared → Prop} {it a : Addr} {f1 w1 : List Addr} {G : Array GenState → Array GenState → Prop} {m : Nat} {P : Nat → Value → Prop} {St : Nat → Shared → Prop} {xs : List Str}
/-- the members among the first i -/
def mem (xs : List Str) (i : Nat) : Str → Bool := fun z => (xs.take i).any (· == z)
theorem mem_succ {i : Nat} (h : i < xs.length) (z : Str) : (mem xs i z || decide (z = xs.getD i Str.empty)) = mem xs (i + 1) z := by
  unfold mem
  have e : xs.getD i Str.empty = xs[i] := by rw [List.getD_eq_getElem?_getD, List.getElem?_eq_getElem h]; rfl
  rw [List.take_succ, List.getElem?_eq_getElem h, List.any_append, e]
  congr 1
  by_cases q : z = xs[i]
  · simp [q]
  · have : ¬ xs[i] = z := fun y => q y.symm
    simp [q, this]
theorem upd_loop (V : WalksS p w B.in1 it f1 w1 G m P St) (ha : a ∉ f1) (hm : xs.length = m) (hb : m < 4000) (hv : ∀ i v, P i v → ∃ t, v = .str (xs.getD i Str.empty) t) : ∀ (r i : Nat) (s : Shared), m - i = r → i ≤ m → St i s →
    s.heap.SetOf (PySem.strKind p w) a (mem xs i) (cntS xs i) → (∀ s', Moved (a :: w1) G s s' → s'.heap.SetOf (PySem.strKind p w) a (mem xs m) (cntS xs m) → R (.ok (.ret .none)) s') →
    codeAny (model p w) B (.builtin "set.update.loop" ⟨[.ref a, .ref it], []⟩) R s := by
  have aw : a ∉ w1 := fun z => ha (V.sub _ z)
  have sub : ∀ b ∈ w1, b ∈ a :: w1 := fun b z => List.mem_cons_of_mem _ z
  intro r
  induction r with
  | zero =>
    intro i s hr hi st hS kR
    obtain rfl : i = m := by omega
    refine codeAny_builtin PyProof.Rows.F.entry_set_update_loop ?_; rw [Around.under_plainId PyProof.Rows.F.plain_set_update_loop _]
    show wpAny _ B.in1 (pyNext (.ref it) >>= _) _ _ s
    refine wpAny_bind (V.done s _ _ st fun s' mv => ?_)
    show wpAny _ B.in1 (ret Value.none) _ _ s'
    refine wpAny_pure (kR s' (mv.mono sub) ?_)
    obtain ⟨o, es, ep, t, g, more⟩ := hS; exact ⟨o, es, ep, t, mv.heap a _ aw g, more⟩
  | succ r ih =>
    intro i s hr hi st hS kR
    have lt : i < m := by omega
    refine codeAny_builtin PyProof.Rows.F.entry_set_update_loop ?_; rw [Around.under_plainId PyProof.Rows.F.plain_set_update_loop _]
    show wpAny _ B.in1 (pyNext (.ref it) >>= _) _ _ s
    refine wpAny_bind (V.item i s _ _ lt st fun v s' pv st' mv => ?_)
    obtain ⟨t, rfl⟩ := hv i v pv
    have hS1 : s'.heap.SetOf (PySem.strKind p w) a (mem xs i) (cntS xs i) := by
      obtain ⟨o, es, ep, tb, g, more⟩ := hS; exact ⟨o, es, ep, tb, mv.heap a _ aw g, more⟩
    show wpAny _ B.in1 (holding [Value.str (xs.getD i Str.empty) t] (setAdd a (.str (xs.getD i Str.empty) t)) >>= _) _ _ s'
    refine wpAny_bind (wpAny_holding ?_); unfold setAdd; refine wpAny_holding ?_
    refine wpAny_bind ((PySem.strKind p w).pyHash (k := xs.getD i Str.empty) (strKind_is _ _ _ _) ?_)
    have cl := cntS_le xs i
    refine wpAny_setAddHashed_of (knd := PySem.strKind p w) (s := { s' with toks := s'.toks + 1 }) (strKind_is _ _ _ _) rfl hS1 (by unfold scanBound; omega) fun h' sb hS2 => ?_
    have hS3 : h'.SetOf (PySem.strKind p w) a (mem xs (i + 1)) (cntS xs (i + 1)) := SetOf_congr hS2 (fun z => mem_succ (by omega) z) rfl
    have out : ∀ b ∈ f1, b ≠ a := fun b hb z => ha (by rw [← z]; exact hb)
    refine wpAny_pure ⟨plainId_quiet PyProof.Rows.F.plain_set_update_loop _, ih (i + 1) _ (by omega) lt (V.frame _ s' _ _ st' (Nat.le_succ _) fun b hb o e => by rw [sb.2 b (out b hb)]; exact e) hS3 fun s2 mv2 hS4 => ?_⟩
    refine kR s2 (Moved.trans V.gtrans ((mv.mono sub).then_heap (Nat.le_succ _) fun b o hb e => ?_) mv2) hS4
    rw [sb.2 b fun z => hb (by rw [z]; exact List.mem_cons_self)]; exact e
end
section
variable {p : Program} {w : World} {B : Around} {E : Value → Shared → Prop} {s : Shared}
set_option maxHeartbeats 3200000 in
theorem set_of_texts {l : Addr} {its : Array Value} {xs : List Str} {Q : Value → Shared → Prop} (nh : B.handled = none) (hl : s.heap.IsList l its) (hi : PyProof.Rows.StrsAre its.toList xs) (hb : xs.length < 4000)
    (k : ∀ (h' : Heap) (tk : Nat), h'.SetOf (PySem.strKind p w) s.heap.objs.size (mem xs its.size) (cntS xs its.size) → (∀ b o, b < s.heap.objs.size → s.heap.get? b = some o → h'.get? b = some o) → Q (.ref s.heap.objs.size) { s with heap := h', toks := tk }) :
    wpAny (model p w) B (call (.type "set") [.ref l]) Q E s := by
  obtain ⟨c, tl, hmro⟩ := PySem.F.called_set.mro
  have hmade := PySem.F.called_set.made
  have hsub := PySem.F.called_set.sub
  refine wpAny_call (codeAny_of_tree ?_); show wpAny _ _ (callAny (.type "set") _) _ _ _
  refine wpAny_pure ⟨Code.quiet_builtin _ (by decide +kernel), codeAny_builtin PySem.F.entry_type_call ?_⟩; rw [Around.under_plain (weight_type_call_type "set" [.ref l] []) rfl]
  have n1 := PySem.F.called_set.notType
  have n2 := PySem.F.called_set.canCreate
  have n3 := PySem.F.typeCall_set_1 (.ref l)
  repeat (any_goals (first | assumption | wp_step))
  refine codeAny_mono (code_set_new_1 (.ref l) (E := E) (Q₁ := fun ob z => ∃ led : Bool, ob = .ref s.heap.objs.size ∧ z = { s with heap := s.heap.push { cls := .type "set", dict := none, data := .set #[] 0 (.fresh 0 0 led) } }) fun led => ⟨led, rfl, rfl⟩) fun r z hr => ?_
  cases r with
  | error e => exact hr
  | ok fl =>
    cases fl with
    | ret ob =>
      obtain ⟨led, rfl, rfl⟩ := hr
      let fresh : Obj := { cls := .type "set", dict := none, data := .set #[] 0 (.fresh 0 0 led) }
      have at0 : (s.heap.push fresh).get? s.heap.objs.size = some fresh := Heap.get?_push_size _ rfl
      have ty0 : Shared.TypeIs { s with heap := s.heap.push fresh } (.ref s.heap.objs.size) "set" := ⟨_, at0, rfl⟩
      have i1 := PySem.F.called_set.init.lookup
      have i2 := PySem.F.called_set.init.bind (.ref s.heap.objs.size)
      repeat (any_goals (first | assumption | wp_step))
      refine codeAny_mono (codeAny_call_builtin (R := wants (fun r z => r = .none ∧ ∃ h' tk, z = { s with heap := h', toks := tk } ∧ h'.SetOf (PySem.strKind p w) s.heap.objs.size (mem xs its.size) (cntS xs its.size) ∧ (∀ b o, b < s.heap.objs.size → s.heap.get? b = some o → h'.get? b = some o)) E) PySem.F.called_set.init.plain PySem.F.entry_set_init (check_set_init_1 ty0 ?_)) fun r2 z2 hr2 => ?_
      · obtain ⟨ol, hol, hcl, nl, hdl⟩ := hl
        obtain ⟨oc, od, odt, osl⟩ := ol
        simp only at hcl hdl; subst hcl; subst hdl
        have hol2 : (s.heap.push fresh).get? l = some { cls := .type "list", dict := od, data := .seq its nl, slots := osl } := Heap.get?_push_of_some _ hol
        have q1 := PySem.F.sub_list_set
        have q2 := PySem.F.sub_list_frozenset
        have q3 : (Value.type "list" == Value.type "dict") = false := by decide
        have isl : (s.heap.push fresh).IsList l its := ⟨_, hol2, rfl, nl, rfl⟩
        unfold Builtin.«set.__init__» noKeywords Builtin.Frozenset.updateFrom
        generalize hPI : pyIter = PI
        wp_walk
        subst hPI
        refine wpAny_pyIter_list isl (wpAny_bind (wpAny_runValue ?_))
        have ll : l < s.heap.objs.size := Heap.lt_size hol
        have nh3 : B.in1.in1.in1.handled = none := by simp [nh]
        have ne1 : l ≠ (s.heap.push fresh).objs.size := by rw [Heap.size_push]; exact Nat.ne_of_lt (Nat.lt_succ_of_lt ll)
        have ne2 : s.heap.objs.size ∉ [(s.heap.push fresh).objs.size, l] := by
          rw [Heap.size_push]
          intro z
          rcases List.mem_cons.mp z with z | z
          · omega
          · exact Nat.ne_of_lt ll (List.mem_singleton.mp z).symm
        have sz : xs.length = its.size := by rw [← StrsAre.len_eq hi, Array.length_toList]
        have hv : ∀ (i : Nat) (v : Value), its[i]? = some v → ∃ t, v = .str (xs.getD i Str.empty) t := fun i v e => SS.strs_at hi i v (by rw [Array.getElem?_toList]; exact e)
        refine upd_loop ((Walks.list nh3 _ l ne1 its).toS) ne2 sz (by omega) hv (its.size - 0) 0 _ (by omega) (Nat.zero_le _) ⟨⟨_, Heap.get?_push_size _ rfl, rfl, rfl⟩, (isl.push _)⟩ ?h0 ?h1
        case h0 =>
          have g0 : ((s.heap.push fresh).push { cls := .type "list_iterator", data := .fields #[.ref l, .int 0 0] }).get? s.heap.objs.size = some fresh := Heap.get?_push_of_some _ at0
          exact SetOf_congr ((PyProof.Rows.setObjOf_fresh (knd := PySem.strKind p w) led).setOf g0 (by unfold scanBound; omega)) (fun _ => rfl) rfl
        case h1 =>
          intro s' mv hS
          obtain ⟨h', g', d', tk', os'⟩ := s'
          obtain rfl : g' = s.gens := mv.gens
          obtain rfl : d' = s.drawn := mv.drawn
          obtain rfl : os' = s.os := mv.os
          show wpAny _ _ _ _ _ _
          refine wpAny_pure ?_
          show wpAny _ _ (ret Value.none) _ _ _
          refine wpAny_pure ⟨rfl, h', tk', rfl, hS, fun b o hb e => mv.heap b o (fun z => ?_) (Heap.get?_push_of_some _ (Heap.get?_push_of_some _ e))⟩
          rcases List.mem_cons.mp z with z | z
          · exact Nat.ne_of_lt hb z
          · have z2 := List.mem_singleton.mp z
            rw [Heap.size_push] at z2
            exact Nat.ne_of_lt (Nat.lt_succ_of_lt hb) z2
      · cases r2 with
        | error e => exact hr2
        | ok f2 =>
          cases f2 with
          | ret r =>
            obtain ⟨rfl, h', tk, rfl, hS, kp⟩ := hr2
            repeat (any_goals (first | assumption | wp_step))
            exact k _ _ hS kp
          | _ => exact hr2.elim
    | _ => exact hr.elim
end
open L2
/-- len(set(a)) -/
def tLs (K : PySem.W.Frag) (ta : TE) : TE := fun σ H Q => ta σ H fun x H1 => ∃ (l : Addr) (xs : List Str), x = .ref l ∧ SqL K H1 l (xs.map V.str) ∧ xs.length < 4000 ∧ Q (.int (nDist xs : Nat)) H1
theorem pe_lens {X : Cx} {a : Expr} {ta : TE} {p p2 q pos : Pos} (hc : X.calm = true) (g1 : Gl X "len") (m1 : X.mg "len" = none) (g2 : Gl X "set") (m2 : X.mg "set" = none) (ha : PE X a ta) (na : starEach [a] X.env = (false, eval a X.env) :: starEach [] X.env) :
    PE X (.Call (.Name "len" p) [.Call (.Name "set" p2) [a] [] q] [] pos) (tLs X.K ta) := by
  refine ⟨fun pins s σ H Q I h => Call_ (ld_blt I g1 m1 boot_len ?_)⟩
  refine PyProof.Rows.callWith_builtin1 (PyProof.Rows.args_cons ?_ rfl) rfl rfl; refine Call_ (ld_blt I g2 m2 boot_set ?_)
  refine PyProof.Rows.callWith_type1 (PyProof.Rows.args_cons (thn (ha.run pins s σ H _ I h) fun v z ⟨x, H1, I1, rx, k⟩ => PyProof.Rows.args_nil ?_) na) na rfl
  obtain ⟨l, xs, rfl, hq, hb, k⟩ := k
  cases rx
  obtain ⟨its, r, pl, _⟩ := I1.list hq
  refine set_of_texts (I1.ok.hd hc) pl.isList (by simpa using strsAre_of r) hb fun h' tk hS kp => ?_
  have sz : its.toArray.size = xs.length := by rw [List.size_toArray, ← r.length, List.length_map]
  rw [sz] at hS
  refine PyProof.Rows.args_nil ?_
  obtain ⟨o, es, ep, t, ho, hex, hd, _, _, _, hf, hn⟩ := hS
  have I2 : Inv X pins σ H1 { z with heap := h', toks := tk } := I1.kept fun b o e => kp b o (Heap.lt_size e) e
  have cl := cntS_le xs xs.length
  exact call_len_set ho hex hd hf (by rw [hn] <;> omega) ⟨.int (nDist xs : Nat), H1, I2.tok _, ⟨_, by rw [hn] <;> rfl⟩, k⟩
end Cc

set_option Elab.async false
set_option linter.all false
set_option maxRecDepth 100000
/-! Cc: a small core language over pure data and a store of mutable cells, with an interpreter that runs. -/
namespace Cc
open PySem

/-! ### equality of data that computes -/
mutual
def dEq : PyData → PyData → Bool
  | .none, .none => true
  | .bool a, .bool b => a == b
  | .int i, .int j => decide (i = j)
  | .str x, .str y => decide (x = y)
  | .list xs, .list ys => dEqL xs ys
  | .tuple xs, .tuple ys => dEqL xs ys
  | _, _ => false
def dEqL : List PyData → List PyData → Bool
  | [], [] => true
  | x :: xs, y :: ys => dEq x y && dEqL xs ys
  | _, _ => false
end
mutual
theorem dEq_eq : ∀ x y : PyData, dEq x y = true → x = y
  | .none, y, h => by cases y <;> simp_all [dEq]
  | .bool a, y, h => by cases y <;> simp_all [dEq]
  | .int i, y, h => by cases y <;> simp_all [dEq]
  | .str x, y, h => by cases y <;> simp_all [dEq]
  | .list xs, y, h => by cases y <;> simp_all [dEq]; exact dEqL_eq _ _ h
  | .tuple xs, y, h => by cases y <;> simp_all [dEq]; exact dEqL_eq _ _ h
  | .dict _, y, h => by cases y <;> simp_all [dEq]
theorem dEqL_eq : ∀ x y : List PyData, dEqL x y = true → x = y
  | [], y, h => by cases y <;> simp_all [dEqL]
  | x :: xs, y, h => by
    cases y with
    | nil => simp_all [dEqL]
    | cons z zs =>
      simp only [dEqL, Bool.and_eq_true] at h
      rw [dEq_eq _ _ h.1, dEqL_eq _ _ h.2]
end

/-! ### values, cells, stores -/
/-- pure data; a cell of the store; a tuple that bears such; a function of the table -/
inductive W where
  | d (x : PyData) | ref (n : Nat) | tup (ws : List W) | fn (i : Nat)
inductive Cell where
  | lst (xs : List PyData) | wl (ws : List W) | ins (c : Nat) (fs : List (Str × W)) | dead
abbrev Store := List Cell
abbrev Env := List (Option W)
structure Exn where
  cls : Nat
  fs : List (Str × PyData)
inductive Res (α : Type) where
  | ok (a : α) (s : Store) | exc (x : Exn) (s : Store) | stuck
def Res.bind {α β : Type} (r : Res α) (f : α → Store → Res β) : Res β := match r with
  | .ok a s => f a s
  | .exc x s => .exc x s
  | .stuck => .stuck
@[simp] theorem Res.bind_ok {α β : Type} (a : α) (s : Store) (f : α → Store → Res β) : (Res.ok a s).bind f = f a s := rfl
@[simp] theorem Res.bind_exc {α β : Type} (x : Exn) (s : Store) (f : α → Store → Res β) : (Res.exc x s : Res α).bind f = .exc x s := rfl
@[simp] theorem Res.bind_stuck {α β : Type} (f : α → Store → Res β) : (Res.stuck : Res α).bind f = .stuck := rfl
/-- a partial pure result -/
def Res.of {α : Type} (o : Option α) (s : Store) : Res α := match o with
  | some a => .ok a s
  | none => .stuck
@[simp] theorem Res.of_some {α : Type} (a : α) (s : Store) : Res.of (some a) s = .ok a s := rfl
@[simp] theorem Res.of_none {α : Type} (s : Store) : Res.of (none : Option α) s = .stuck := rfl

/-- what stands there, read as data: a value, a list cell of data -/
def top (s : Store) : W → Option PyData
  | .d x => some x
  | .ref n => match s[n]? with
    | some (.lst xs) => some (.list xs)
    | _ => none
  | _ => none
/-- the items of what is walked or indexed -/
def items (s : Store) : W → Option (List W)
  | .d (.list xs) => some (xs.map .d)
  | .d (.tuple xs) => some (xs.map .d)
  | .d (.str x) => some (x.cps.toList.map fun c => .d (.str ⟨#[c]⟩))
  | .ref n => match s[n]? with
    | some (.lst xs) => some (xs.map .d)
    | some (.wl ws) => some ws
    | _ => none
  | .tup ws => some ws
  | _ => none
def W.pure? : W → Option PyData
  | .d x => some x
  | _ => none
def allPure : List W → Option (List PyData)
  | [] => some []
  | w :: ws => match w, allPure ws with
    | .d x, some xs => some (x :: xs)
    | _, _ => none
@[simp] theorem allPure_nil : allPure [] = some [] := rfl
@[simp] theorem allPure_map (xs : List PyData) : allPure (xs.map .d) = some xs := by
  induction xs with
  | nil => rfl
  | cons x xs ih => simp [allPure, ih]
theorem allPure_cons_d (x : PyData) (ws : List W) : allPure (.d x :: ws) = (allPure ws).map (x :: ·) := by
  cases h : allPure ws <;> simp [allPure, h]
theorem allPure_eq : ∀ {ws : List W} {xs : List PyData}, allPure ws = some xs → ws = xs.map .d
  | [], xs, h => by simp [allPure] at h; subst h; rfl
  | w :: ws, xs, h => by
    cases w <;> simp only [allPure] at h
    case d x =>
      cases e : allPure ws with
      | none => rw [e] at h; cases h
      | some ys => rw [e] at h; cases h; simp [allPure_eq e]
    all_goals cases h

/-! ### operations on data -/
def mkTup (xs : List PyData) : Option PyData := if xs.length ≤ sizeLine then some (.tuple xs) else none
def mkLst (xs : List PyData) : Option PyData := if xs.length ≤ sizeLine then some (.list xs) else none
def mkStr (x : Str) : Option PyData := if x.length ≤ sizeLine then some (.str x) else none
inductive Bop where
  | add | sub | mul | fdiv | mod | pow | band | bor
  deriving DecidableEq
/-- a factor that the machine's line allows (told so that a part not known stops the reckoning) -/
def mulB : Int → Bool
  | .ofNat n => Nat.ble n 18446744073709551615
  | .negSucc n => Nat.ble n 18446744073709551614
theorem mulB_of {j : Int} (h1 : -18446744073709551616 < j) (h2 : j < 18446744073709551616) : mulB j = true := by
  cases j with
  | ofNat n => exact Nat.ble_eq_true_of_le (by have e : Int.ofNat n = (n : Int) := rfl
                                               rw [e] at h1 h2
                                               omega)
  | negSucc n => exact Nat.ble_eq_true_of_le (by omega)
theorem mulB_iff {j : Int} : mulB j = true → -(2 ^ 64) < j ∧ j < 2 ^ 64 := by
  have e : (2 : Int) ^ 64 = 18446744073709551616 := by decide +kernel
  rw [e]
  cases j with
  | ofNat n => intro h; have := Nat.le_of_ble_eq_true h; have e : Int.ofNat n = (n : Int) := rfl; rw [e]; omega
  | negSucc n => intro h; have := Nat.le_of_ble_eq_true h; omega
def mulOk (i j : Int) : Bool := mulB i || mulB j
def bopD : Bop → PyData → PyData → Option PyData
  | .add, .int i, .int j => some (.int (i + j))
  | .add, .str x, .str y => if x.length + y.length ≤ sizeLine then some (.str (x ++ y)) else none
  | .add, .tuple xs, .tuple ys => if xs.length + ys.length ≤ sizeLine then some (.tuple (xs ++ ys)) else none
  | .add, .list xs, .list ys => if xs.length + ys.length ≤ sizeLine then some (.list (xs ++ ys)) else none
  | .sub, .int i, .int j => some (.int (i - j))
  | .mul, .int i, .int j => if mulOk i j then some (.int (i * j)) else none
  | .mul, .str x, .int j => if j = 1 then some (.str x) else if j = 0 then some (.str ⟨#[]⟩) else none
  | .mul, .tuple xs, .int j => if j = 1 then some (.tuple xs) else if j = 0 ∧ xs.isEmpty = false then some (.tuple []) else none
  | .fdiv, .int i, .int j => if 0 < j ∧ j.natAbs.log2 < 9000 then some (.int (i / j)) else none
  | .mod, .int i, .int j => if 0 < j then some (.int (i % j)) else none
  | .pow, .int i, .int j => if 0 ≤ j ∧ j ≤ 1000000 ∧ i.natAbs < 2 ^ 64 then some (.int (i ^ j.toNat)) else none
  | .band, .int i, .int j => some (.int (Builtin.bitAnd i j))
  | .bor, .int i, .int j => some (.int (Builtin.bitOr i j))
  | _, _, _ => none
def neg : PyData → Option PyData
  | .int i => some (.int (-i))
  | _ => none
inductive Cop where
  | eq | ne | lt | le | gt | ge | isin | notin | is_ | isnot
  deriving DecidableEq
/-- scalars that are told apart without a look at their signs -/
def scP : PyData → PyData → Bool
  | .none, .none => true | .none, .int _ => true | .int _, .none => true | .none, .bool _ => true | .bool _, .none => true
  | .none, .str _ => true | .str _, .none => true | .int _, .int _ => true | .bool _, .bool _ => true | .str _, .str _ => true
  | .int _, .str _ => true | .str _, .int _ => true | .bool _, .str _ => true | .str _, .bool _ => true
  | _, _ => false
def eqD (x y : PyData) : Option Bool :=
  if scP x y then some (PyData.eqv x y) else if SeqAt.shaped x && y.canLay0 then some (PyData.eqv x y) else none
def inD (x y : PyData) : Option Bool := match y with
  | .list ys => if SeqAt.shaped x && PyData.canLayAll0 ys then some (ys.any fun z => PyData.eqv z x) else none
  | .tuple ys => if SeqAt.shaped x && PyData.canLayAll0 ys then some (ys.any fun z => PyData.eqv z x) else none
  | .str z => match x with
    | .str ⟨a⟩ => match a.toList with
      | [c] => some (decide (c ∈ z.cps.toList))
      | _ => none
    | _ => none
  | _ => none
def cmpD : Cop → PyData → PyData → Option Bool
  | .eq, x, y => eqD x y
  | .ne, x, y => (eqD x y).map (!·)
  | .lt, .int i, .int j => some (decide (i < j))
  | .le, .int i, .int j => some (decide (i ≤ j))
  | .gt, .int i, .int j => some (decide (j < i))
  | .ge, .int i, .int j => some (decide (j ≤ i))
  | .isin, x, y => inD x y
  | .notin, x, y => (inD x y).map (!·)
  | _, _, _ => none
/-- a value that is no None -/
def someW (s : Store) : W → Option Bool
  | .d .none => some true
  | .d _ => some false
  | .ref n => match s[n]? with
    | some (.lst _) => some false
    | some (.wl _) => some false
    | some (.ins _ _) => some false
    | _ => none
  | .tup _ => some false
  | .fn _ => some false
def isW (s : Store) (x y : W) : Option Bool := match y with
  | .d .none => someW s x
  | .d (.bool b) => match x with
    | .d (.bool a) => some (decide (a = b))
    | _ => none
  | _ => none
def cmpW (o : Cop) (s : Store) (x y : W) : Option Bool := match o with
  | .is_ => isW s x y
  | .isnot => (isW s x y).map (!·)
  | o => do cmpD o (← top s x) (← top s y)
/-- a value's truth -/
def truD : PyData → Option Bool
  | .none => some false
  | .bool b => some b
  | .int i => some (i != 0)
  | .str x => if x.length ≤ sizeLine then some ((x.length : Int) != 0) else none
  | .list xs => some (!xs.isEmpty)
  | .tuple xs => some (!xs.isEmpty)
  | _ => none
def truW (s : Store) (w : W) : Option Bool := do truD (← top s w)
def atD (x : PyData) (i : Int) : Option PyData := match x with
  | .list xs => L2.atI xs i
  | .tuple xs => L2.atI xs i
  | .str z => if z.length ≤ sizeLine then (L2.atI z.cps.toList i).map fun c => .str ⟨#[c]⟩ else none
  | _ => none
def idxW (s : Store) (a i : W) : Option W := match i with
  | .d (.int i) => match a with
    | .d x => (atD x i).map .d
    | .ref n => match s[n]? with
      | some (.lst xs) => (L2.atI xs i).map .d
      | some (.wl ws) => L2.atI ws i
      | _ => none
    | .tup ws => L2.atI ws i
    | _ => none
  | _ => none
def cutX {α : Type} (xs : List α) (lo hi : Option Int) : List α := (xs.drop (HT.sIx xs.length 0 lo)).take (HT.sIx xs.length xs.length hi - HT.sIx xs.length 0 lo)
def cutD (x : PyData) (lo hi : Option Int) : Option PyData := match x with
  | .list xs => some (.list (cutX xs lo hi))
  | .tuple xs => some (.tuple (cutX xs lo hi))
  | .str z => if z.length ≤ sizeLine then some (.str ⟨(cutX z.cps.toList lo hi).toArray⟩) else none
  | _ => none
def revD : PyData → Option PyData
  | .list xs => some (.list xs.reverse)
  | _ => none
def partW : W → Option Int
  | .d (.int i) => some i
  | _ => none
def lenD : PyData → Option Int
  | .list xs => some xs.length
  | .tuple xs => some xs.length
  | .str x => if x.length ≤ sizeLine then some x.length else none
  | _ => none
def lenW (s : Store) (w : W) : Option Int := match w with
  | .d x => lenD x
  | .ref n => match s[n]? with
    | some (.lst xs) => some xs.length
    | some (.wl ws) => some ws.length
    | _ => none
  | .tup ws => some ws.length
  | _ => none
def intsOf : List PyData → Option (List Int)
  | [] => some []
  | .int i :: xs => (intsOf xs).map (i :: ·)
  | _ :: _ => none
def boolsOf : List PyData → Option (List Bool)
  | [] => some []
  | .bool b :: xs => (boolsOf xs).map (b :: ·)
  | _ :: _ => none
def strsOf : List PyData → Option (List Str)
  | [] => some []
  | .str b :: xs => (strsOf xs).map (b :: ·)
  | _ :: _ => none
/-- the kinds of data, for isinstance -/
inductive Ty where
  | bool | int | str | list | tuple
  deriving DecidableEq
def isD (t : Ty) : PyData → Option Bool
  | .none => some false
  | .bool _ => some (t = .bool || t = .int)
  | .int _ => some (decide (t = .int))
  | .str _ => some (decide (t = .str))
  | .list _ => some (decide (t = .list))
  | .tuple _ => some (decide (t = .tuple))
  | _ => none
/-- built-in functions that only read -/
inductive Bf where
  | len | sum | any | all | int | str | tuple | list | min2 | max2 | isa (t : Ty) | lrng | lens
  deriving DecidableEq
def one1 (f : W → Option PyData) : List W → Option PyData
  | [w] => f w
  | _ => none
def two1 (f : W → W → Option PyData) : List W → Option PyData
  | [w, u] => f w u
  | _ => none
def listOf : PyData → Option (List PyData)
  | .list xs => some xs
  | _ => none
def seqOf : PyData → Option (List PyData)
  | .list xs => some xs
  | .tuple xs => some xs
  | _ => none
def bfLen (s : Store) (w : W) : Option PyData := (lenW s w).map .int
def bfSum (s : Store) (w : W) : Option PyData := ((top s w).bind fun d => (listOf d).bind intsOf).map fun l => .int l.sum
def bfAny (s : Store) (w : W) : Option PyData := ((top s w).bind fun d => (listOf d).bind boolsOf).map fun l => .bool (l.any id)
def bfAll (s : Store) (w : W) : Option PyData := ((top s w).bind fun d => (listOf d).bind boolsOf).map fun l => .bool (l.all id)
def bfInt : W → Option PyData
  | .d (.int i) => some (.int i)
  | .d (.bool b) => some (.int (if b then 1 else 0))
  | _ => none
def bfStr : W → Option PyData
  | .d (.int i) => if i.natAbs.log2 < 1920 then some (.str (toString i)) else none
  | _ => none
def bfTuple (s : Store) (w : W) : Option PyData := ((top s w).bind seqOf).map .tuple
def bfList (s : Store) (w : W) : Option PyData := ((top s w).bind seqOf).map .list
def bfMin : W → W → Option PyData
  | .d (.int i), .d (.int j) => some (.int (if j < i then j else i))
  | _, _ => none
def bfMax : W → W → Option PyData
  | .d (.int i), .d (.int j) => some (.int (if j > i then j else i))
  | _, _ => none
def bfIsa (s : Store) (t : Ty) (w : W) : Option PyData := ((top s w).bind (isD t)).map .bool
/-- list(range(n)) -/
def bfLrng : W → Option PyData
  | .d (.int (.ofNat n)) => if Nat.ble n 16777216 then some (.list ((List.range n).map fun (k : Nat) => .int (0 + (k : Nat)))) else none
  | _ => none
/-- len(set(x)) of texts -/
def bfLens (s : Store) (w : W) : Option PyData := ((top s w).bind fun d => (listOf d).bind strsOf).bind fun l => if Nat.ble l.length 3999 then some (.int (nDist l : Nat)) else none
def bfD (s : Store) (f : Bf) (ws : List W) : Option PyData := match f with
  | .len => one1 (bfLen s) ws
  | .sum => one1 (bfSum s) ws
  | .any => one1 (bfAny s) ws
  | .all => one1 (bfAll s) ws
  | .int => one1 bfInt ws
  | .str => one1 bfStr ws
  | .tuple => one1 (bfTuple s) ws
  | .list => one1 (bfList s) ws
  | .min2 => two1 bfMin ws
  | .max2 => two1 bfMax ws
  | .isa t => one1 (bfIsa s t) ws
  | .lrng => one1 bfLrng ws
  | .lens => one1 (bfLens s) ws
/-- methods of built-in types that only read -/
inductive Bm where
  | join | split | partition | startswith
  deriving DecidableEq
def bmJoin (s : Store) (o w : W) : Option PyData := match o with
  | .d (.str a) => ((top s w).bind fun d => (seqOf d).bind strsOf).bind fun ys => if (ys.map (·.length)).sum + ys.length * a.length ≤ 16777216 then some (.str (Txt.join a ys)) else none
  | _ => none
def bmSplit (o w : W) : Option PyData := match o, w with
  | .d (.str a), .d (.str b) => if (b.length == 0) = false ∧ a.length + 2 ≤ sizeLine then some (.list ((Txt.split a b).map .str)) else none
  | _, _ => none
def bmPartition (o w : W) : Option PyData := match o, w with
  | .d (.str a), .d (.str b) => if (b.length == 0) = false ∧ a.length ≤ sizeLine then some (.tuple [.str (Txt.partition a b).1, .str (Txt.partition a b).2.1, .str (Txt.partition a b).2.2]) else none
  | _, _ => none
def bmStarts (o w : W) : Option PyData := match o, w with
  | .d (.str a), .d (.str b) => some (.bool (Txt.startswith a b))
  | _, _ => none
def bmD (s : Store) (m : Bm) (o : W) (ws : List W) : Option PyData := match m with
  | .join => one1 (bmJoin s o) ws
  | .split => one1 (bmSplit o) ws
  | .partition => one1 (bmPartition o) ws
  | .startswith => one1 (bmStarts o) ws
/-- the receiver is of the method's type -/
def bmOk : W → Bool
  | .d (.str _) => true
  | _ => false

/-- methods of lists that only read -/
inductive Lm where
  | count | index
  deriving DecidableEq
def lmCount (s : Store) (o w : W) : Option PyData := ((top s o).bind listOf).bind fun ds => (top s w).bind fun d => if SeqAt.shaped (.list ds) && SeqAt.shaped d then some (.int (ds.countP fun z => PyData.eqv z d : Nat)) else none
def lmIndex (s : Store) (o w : W) : Option PyData := ((top s o).bind listOf).bind fun ds => (top s w).bind fun d => if SeqAt.shaped (.list ds) && SeqAt.shaped d then (ds.findIdx? fun z => PyData.eqv z d).map fun j => .int (j : Nat) else none
def lmD (s : Store) (m : Lm) (o : W) (ws : List W) : Option PyData := match m with
  | .count => one1 (lmCount s o) ws
  | .index => one1 (lmIndex s o) ws
def lmOk (s : Store) (o : W) : Bool := match top s o with
  | some (.list _) => true
  | _ => false

/-! ### the language -/
/-- how a call's result and its list arguments are handed over -/
inductive Cm where
  /-- the callee runs apart; a list that it hands back is data -/
  | frz
  /-- the callee runs apart; what it hands back stays a cell -/
  | keep
  /-- list cells are lent as data; no list is handed back -/
  | lend
  deriving DecidableEq
/-- walks: a list, tuple, text, cell; range of one, of two; enumerate -/
inductive Wk where
  | seq | rng1 | rng2 | enum
  deriving DecidableEq
/-- methods that change a list cell -/
inductive Mt where
  | append | extend | pop | clear | popAt
  deriving DecidableEq
mutual
inductive Ex where
  | const (x : PyData)
  | var (i : Nat)
  | gfn (i : Nat)
  | bin (o : Bop) (a b : Ex)
  | neg (a : Ex)
  | cmp (o : Cop) (a b : Ex)
  | chain (o o' : Cop) (a b c : Ex)
  | and (a b : Ex) | or (a b : Ex) | not (a : Ex)
  | ite (c : Bx) (a b : Ex)
  | tup (es : List Ex)
  /-- a list: a cell, or data -/
  | lst (cell : Bool) (es : List Ex)
  | idx (a b : Ex)
  | slice (a : Ex) (lo hi : Option Ex)
  /-- a list turned round -/
  | rev (a : Ex)
  | call (m : Cm) (i : Nat) (es : List Ex)
  | make (c : Nat) (es : List Ex)
  | meth (o : Ex) (m : Str) (es : List Ex)
  | bf (f : Bf) (es : List Ex)
  | bm (m : Bm) (o : Ex) (es : List Ex)
  /-- a list's method that only reads -/
  | lm (m : Lm) (o : Ex) (es : List Ex)
  | fld (o : Ex) (f : Str)
  /-- own: the block's names; gc: cells made in a turn are dropped; walk: seq, range, enumerate, zip by number of expressions -/
  | comp (own : List Nat) (cell : Bool) (gc : Bool) (tg : List Nat) (one : Bool) (walk : Wk) (its : List Ex) (c : Option Bx) (e : Ex)
  /-- a list as a new cell: list(x), slices, comprehensions, .. that are changed later -/
  | cell (a : Ex)
  /-- a cell that is changed no more, as data -/
  | frz (a : Ex)
  /-- methods that change a list cell: append, extend, pop, clear -/
  | mut (m : Mt) (o : Ex) (es : List Ex)
/-- tests -/
inductive Bx where
  | tru (e : Ex) | and (a b : Bx) | or (a b : Bx) | not (a : Bx) | ite (c a b : Bx)
end
inductive Tx where
  | name (i : Nat) | sub (o i : Ex) | fld (o : Ex) (f : Str)
/-- what an except suite does: a name gets data; a name gets the tests of the exception's class (i: its own name's slot) -/
inductive Hd where
  | flag (j : Nat) (d : PyData)
  | isas (i j : Nat) (ls : List (List (Nat × Bool)))
inductive Sx where
  | pass | brk | cont
  /-- a statement that the language has not: no answer -/
  | stk
  | seq (a b : Sx)
  | assign (t : Tx) (e : Ex)
  | unpack (ts : List Tx) (e : Ex)
  | expr (e : Ex)
  | ret (e : Ex)
  | ite (c : Bx) (a b : Sx)
  | for (gc : Bool) (tg : List Nat) (one : Bool) (walk : Wk) (its : List Ex) (body : Sx)
  | while (fuel : Nat) (c : Bx) (body : Sx)
  | raise (c : Nat) (es : List Ex)
  /-- one statement tried: name or none, expression, the class that is caught by the classes of the text, the suite -/
  | tr (i : Option Nat) (e : Ex) (l : List (Nat × Bool)) (h : Hd)

/-! ### the interpreter -/
/-- functions of the table -/
abbrev FT := Nat → List W → Store → Res W
/-- the class table: which function is a class's method -/
abbrev CTab := Nat → Str → Option Nat
def get (env : Env) (i : Nat) : Option W := match env[i]? with
  | some (some w) => some w
  | _ => none
def wipeE (env : Env) : List Nat → Env
  | [] => env
  | v :: vs => (wipeE env vs).set v none
mutual
def W.lo (n : Nat) : W → Bool
  | .d _ => true
  | .ref k => decide (k < n)
  | .tup ws => W.loL n ws
  | .fn _ => true
def W.loL (n : Nat) : List W → Bool
  | [] => true
  | w :: ws => w.lo n && W.loL n ws
end
def Cell.lo (n : Nat) : Cell → Bool
  | .lst _ => true
  | .wl ws => W.loL n ws
  | .ins _ fs => fs.all fun p => p.2.lo n
  | .dead => true
def dropRef (n : Nat) : Option W → Option W
  | some w => if w.lo n then some w else none
  | none => none
/-- the cells from n on are dropped -/
def gcE (n : Nat) (env : Env) (s : Store) : Option (Env × Store) :=
  if (s.take n).all (Cell.lo n) then some (env.map (dropRef n), s.take n) else none
mutual
def frzW (s : Store) : W → Option PyData
  | .d x => some x
  | .ref n => match s[n]? with
    | some (.lst xs) => some (.list xs)
    | _ => none
  | .tup ws => (frzL s ws).map .tuple
  | .fn _ => none
def frzL (s : Store) : List W → Option (List PyData)
  | [] => some []
  | w :: ws => match frzW s w, frzL s ws with
    | some x, some xs => some (x :: xs)
    | _, _ => none
end
mutual
def noList : PyData → Bool
  | .list _ => false
  | .tuple xs => noListL xs
  | .dict _ => false
  | _ => true
def noListL : List PyData → Bool
  | [] => true
  | x :: xs => noList x && noListL xs
end
mutual
def W.shift (k : Nat) : W → W
  | .d x => .d x
  | .ref n => .ref (n + k)
  | .tup ws => .tup (W.shiftL k ws)
  | .fn i => .fn i
def W.shiftL (k : Nat) : List W → List W
  | [] => []
  | w :: ws => w.shift k :: W.shiftL k ws
end
def Cell.shift (k : Nat) : Cell → Cell
  | .lst xs => .lst xs
  | .wl ws => .wl (W.shiftL k ws)
  | .ins c fs => .ins c (fs.map fun p => (p.1, p.2.shift k))
  | .dead => .dead
def lendL (s : Store) : List W → Option (List W)
  | [] => some []
  | w :: ws => match top s w, lendL s ws with
    | some x, some xs => some (.d x :: xs)
    | _, _ => none
def callM (m : Cm) (F : List W → Store → Res W) (ws : List W) (s : Store) : Res W := match m with
  | .lend => match lendL s ws with
    | some ws => match F ws [] with
      | .ok (.d x) _ => if noList x then .ok (.d x) s else .stuck
      | .ok _ _ => .stuck
      | .exc x _ => if x.fs.all fun p => noList p.2 then .exc x s else .stuck
      | .stuck => .stuck
    | none => .stuck
  | .frz => match allPure ws with
    | some _ => match F ws [] with
      | .ok w t => match frzW t w with
        | some x => .ok (.d x) s
        | none => .stuck
      | .exc x _ => .exc x s
      | .stuck => .stuck
    | none => F ws s
  | .keep => match allPure ws with
    | some _ => match F ws [] with
      | .ok w t => .ok (w.shift s.length) (s ++ t.map (Cell.shift s.length))
      | .exc x _ => .exc x s
      | .stuck => .stuck
    | none => F ws s
def fput (f : Str) (w : W) : List (Str × W) → List (Str × W)
  | [] => [(f, w)]
  | (g, x) :: r => if g = f then (g, w) :: r else (g, x) :: fput f w r
def mkTupW (ws : List W) : Option W := match allPure ws with
  | some xs => (mkTup xs).map .d
  | none => if ws.length ≤ sizeLine then some (.tup ws) else none
def newLst (cell : Bool) (ws : List W) (s : Store) : Res W :=
  if ws.length ≤ sizeLine then
    match allPure ws with
    | some xs => if cell then .ok (.ref s.length) (s ++ [.lst xs]) else .ok (.d (.list xs)) s
    | none => if cell then .ok (.ref s.length) (s ++ [.wl ws]) else .stuck
  else .stuck
/-- a fresh list's data as a cell -/
def toCell (w : W) (s : Store) : Res W := match w with
  | .d (.list xs) => .ok (.ref s.length) (s ++ [.lst xs])
  | _ => .stuck
def doFrz (w : W) (s : Store) : Res W := match w with
  | .ref n => match s[n]? with
    | some (.lst xs) => .ok (.d (.list xs)) (s.set n .dead)
    | _ => .stuck
  | .d x => .ok (.d x) s
  | _ => .stuck
def isLstC (s : Store) : W → Bool
  | .ref n => match s[n]? with
    | some (.lst _) => true
    | some (.wl _) => true
    | _ => false
  | _ => false
def appL (xs : List PyData) (w : W) : Cell := match w with
  | .d x => .lst (xs ++ [x])
  | w => .wl (xs.map .d ++ [w])
def appC (c : Cell) (w : W) : Option Cell := match c with
  | .lst xs => if xs.length < sizeLine then some (appL xs w) else none
  | .wl xs => if xs.length < sizeLine then some (.wl (xs ++ [w])) else none
  | _ => none
def extC (s : Store) (c : Cell) (w : W) : Option Cell := match c with
  | .lst xs => ((top s w).bind listOf).bind fun ys => if xs.length + ys.length ≤ sizeLine then some (.lst (xs ++ ys)) else none
  | _ => none
def popC (c : Cell) : Option (PyData × Cell) := match c with
  | .lst xs => xs[xs.length - 1]?.map fun x => (x, .lst xs.dropLast)
  | _ => none
def popAtC (w : W) (c : Cell) : Option (PyData × Cell) := match w with
  | .d (.int i) => match c with
    | .lst xs => if xs.length ≤ sizeLine then (L2.ixN xs.length i).bind fun k => xs[k]?.map fun x => (x, .lst (xs.eraseIdx k)) else none
    | _ => none
  | _ => none
def clearC (c : Cell) : Option Cell := match c with
  | .lst _ => some (.lst [])
  | .wl _ => some (.lst [])
  | _ => none
/-- a cell is changed -/
def chg (o : W) (s : Store) (f : Cell → Option (PyData × Cell)) : Res W := match o with
  | .ref n => match s[n]?.bind f with
    | some (x, c) => .ok (.d x) (s.set n c)
    | none => .stuck
  | _ => .stuck
def mutW (m : Mt) (o : W) (ws : List W) (s : Store) : Res W := match m with
  | .append => match ws with
    | [w] => chg o s fun c => (appC c w).map (.none, ·)
    | _ => .stuck
  | .extend => match ws with
    | [w] => chg o s fun c => (extC s c w).map (.none, ·)
    | _ => .stuck
  | .pop => match ws with
    | [] => chg o s popC
    | _ => .stuck
  | .clear => match ws with
    | [] => chg o s fun c => (clearC c).map (.none, ·)
    | _ => .stuck
  | .popAt => match ws with
    | [w] => chg o s (popAtC w)
    | _ => .stuck
def setIx (o i w : W) (s : Store) : Res Unit := match o, i with
  | .ref n, .d (.int k) => match s[n]? with
    | some (.lst xs) => match L2.ixN xs.length k, w with
      | some j, .d x => .ok () (s.set n (.lst (xs.set j x)))
      | some j, w => .ok () (s.set n (.wl ((xs.map W.d).set j w)))
      | none, _ => .stuck
    | some (.wl ws) => match L2.ixN ws.length k with
      | some j => .ok () (s.set n (.wl (ws.set j w)))
      | none => .stuck
    | _ => .stuck
  | _, _ => .stuck
def fldW (FO : Nat → Str → Bool) (s : Store) (f : Str) : W → Option W
  | .ref n => match s[n]? with
    | some (.ins c fs) => if FO c f then fs.lookup f else none
    | _ => none
  | _ => none
def setFld (FO : Nat → Str → Bool) (o : W) (f : Str) (w : W) (s : Store) : Res Unit := match o with
  | .ref n => match s[n]? with
    | some (.ins c fs) => if FO c f ∧ fs.length < 1000 then .ok () (s.set n (.ins c (fput f w fs))) else .stuck
    | _ => .stuck
  | _ => .stuck
/-- what a for or a comprehension walks; the list cell that must stand still -/
def wSeq (s : Store) (w : W) : Option (List W × Option Nat) := match w with
  | .ref n => (items s (.ref n)).map (·, some n)
  | w => (items s w).map (·, none)
/-- a bound of a range that the machine's line allows -/
def rngB : Int → Bool
  | .ofNat n => Nat.ble n 4611686018427387903
  | .negSucc n => Nat.ble n 4611686018427387903
theorem rngB_of {j : Int} (h1 : -4611686018427387904 ≤ j) (h2 : j < 4611686018427387904) : rngB j = true := by
  cases j with
  | ofNat n => exact Nat.ble_eq_true_of_le (by have e : Int.ofNat n = (n : Int) := rfl
                                               rw [e] at h1 h2
                                               omega)
  | negSucc n => exact Nat.ble_eq_true_of_le (by omega)
theorem rngB_iff {j : Int} : rngB j = true → -(2 ^ 62) ≤ j ∧ j < 2 ^ 62 := by
  have e : (2 : Int) ^ 62 = 4611686018427387904 := by decide +kernel
  rw [e]
  cases j with
  | ofNat n => intro h; have := Nat.le_of_ble_eq_true h; have e : Int.ofNat n = (n : Int) := rfl; rw [e]; omega
  | negSucc n => intro h; have := Nat.le_of_ble_eq_true h; omega
def wRng1 (w : W) : Option (List W × Option Nat) := match w with
  | .d (.int j) => if rngB j then some ((List.range j.toNat).map fun (k : Nat) => .d (.int (0 + (k : Nat))), none) else none
  | _ => none
def wRng2 (w u : W) : Option (List W × Option Nat) := match w, u with
  | .d (.int i), .d (.int j) => if rngB i && rngB j then some ((List.range (j - i).toNat).map fun (k : Nat) => .d (.int (i + (k : Nat))), none) else none
  | _, _ => none
def wEnum (s : Store) (w : W) : Option (List W × Option Nat) := match w with
  | .d (.list xs) => some (xs.zipIdx.map fun p => .d (.tuple [.int (p.2 : Nat), p.1]), none)
  | .ref n => match s[n]? with
    | some (.lst xs) => some (xs.zipIdx.map fun p => .d (.tuple [.int (p.2 : Nat), p.1]), some n)
    | _ => none
  | _ => none
def walkW (walk : Wk) (ws : List W) (s : Store) : Option (List W × Option Nat) := match walk with
  | .seq => match ws with
    | [w] => wSeq s w
    | _ => none
  | .rng1 => match ws with
    | [w] => wRng1 w
    | _ => none
  | .rng2 => match ws with
    | [w, u] => wRng2 w u
    | _ => none
  | .enum => match ws with
    | [w] => wEnum s w
    | _ => none
mutual
def wEq : W → W → Bool
  | .d x, .d y => dEq x y
  | .ref n, .ref k => decide (n = k)
  | .tup xs, .tup ys => wEqL xs ys
  | .fn i, .fn j => decide (i = j)
  | _, _ => false
def wEqL : List W → List W → Bool
  | [], [] => true
  | x :: xs, y :: ys => wEq x y && wEqL xs ys
  | _, _ => false
end
/-- the walked list cell stands as at the start -/
def still (g : Option Nat) (s0 s : Store) : Bool := match g with
  | none => true
  | some n => match s0[n]?, s[n]? with
    | some (.lst xs), some (.lst ys) => dEqL xs ys
    | some (.wl xs), some (.wl ys) => wEqL xs ys
    | _, _ => false
def bindN (tg : List Nat) (one : Bool) (w : W) (env : Env) : Option Env := match one, tg with
  | true, [i] => some (env.set i (some w))
  | false, is => match w with
    | .d (.tuple xs) => if xs.length = is.length then some ((is.zip xs).foldl (fun e p => e.set p.1 (some (.d p.2))) env) else none
    | .tup ws => if ws.length = is.length then some ((is.zip ws).foldl (fun e p => e.set p.1 (some p.2)) env) else none
    | _ => none
  | _, _ => none
inductive Flow where
  | next | brk | cont | ret (w : W)
/-- one turn of a loop: gc drops the turn's cells -/
def turnEnd (gc : Bool) (n : Nat) (env : Env) (s : Store) : Option (Env × Store) := if gc then gcE n env s else some (env, s)
def forL (chk : Store → Bool) (gc : Bool) (n : Nat) (step : W → Env → Store → Res (Flow × Env)) : List W → Env → Store → Res (Flow × Env)
  | [], env, s => if chk s then .ok (.next, env) s else .stuck
  | w :: ws, env, s => if chk s then
      match step w env s with
      | .ok (.brk, env) s => .ok (.next, env) s
      | .ok (.ret w, env) s => .ok (.ret w, env) s
      | .ok (_, env) s => match turnEnd gc n env s with
        | some (env, s) => forL chk gc n step ws env s
        | none => .stuck
      | .exc x s => .exc x s
      | .stuck => .stuck
    else .stuck
def isPure : W → Bool
  | .d _ => true
  | _ => false
/-- a comprehension's list: a cell, or data -/
def compEnd (cell : Bool) (ws : List W) (s : Store) : Res W := match allPure ws with
  | some xs => if cell then .ok (.ref s.length) (s ++ [.lst xs]) else .ok (.d (.list xs)) s
  | none => if cell then .ok (.ref s.length) (s ++ [.wl ws]) else .stuck
def compL (chk : Store → Bool) (gc : Bool) (n : Nat) (step : W → Store → Res (Option W)) : List W → List W → Store → Res (List W)
  | [], acc, s => if chk s then .ok acc s else .stuck
  | w :: ws, acc, s => if chk s then
      match step w s with
      | .ok o s => match turnEnd gc n [] s with
        | some (_, s) => match o with
          | some x => if acc.length < sizeLine ∧ (gc = true → isPure x = true) then compL chk gc n step ws (acc ++ [x]) s else .stuck
          | none => compL chk gc n step ws acc s
        | none => .stuck
      | _ => .stuck
    else .stuck
def whileL (cond : Env → Store → Res Bool) (step : Env → Store → Res (Flow × Env)) : Nat → Env → Store → Res (Flow × Env)
  | 0, _, _ => .stuck
  | k + 1, env, s => (cond env s).bind fun b s => if b then
      match step env s with
      | .ok (.brk, env) s => .ok (.next, env) s
      | .ok (.ret w, env) s => .ok (.ret w, env) s
      | .ok (_, env) s => whileL cond step k env s
      | .exc x s => .exc x s
      | .stuck => .stuck
    else .ok (.next, env) s

section
variable (Φ : FT) (M : CTab) (CI : Nat → Option Nat) (FO : Nat → Str → Bool)
def truR (r : Res W) : Res Bool := r.bind fun w s => .of (truW s w) s
mutual
def runE : Ex → Env → Store → Res W
  | .const x, _, s => .ok (.d x) s
  | .var i, env, s => .of (get env i) s
  | .gfn i, _, s => .ok (.fn i) s
  | .bin o a b, env, s => (runE a env s).bind fun x s => (runE b env s).bind fun y s => .of (do (bopD o (← top s x) (← top s y)).map .d) s
  | .neg a, env, s => (runE a env s).bind fun x s => .of (do (Cc.neg (← top s x)).map .d) s
  | .cmp o a b, env, s => (runE a env s).bind fun x s => (runE b env s).bind fun y s => .of ((cmpW o s x y).map fun b => .d (.bool b)) s
  | .chain o o' a b c, env, s => (runE a env s).bind fun x s => (runE b env s).bind fun y s => (Res.of (cmpW o s x y) s).bind fun k s =>
      if k then (runE c env s).bind fun z s => .of ((cmpW o' s y z).map fun b => .d (.bool b)) s else .ok (.d (.bool false)) s
  | .and a b, env, s => (runE a env s).bind fun x s => match x with
      | .d (.bool true) => runE b env s
      | .d (.bool false) => .ok (.d (.bool false)) s
      | _ => .stuck
  | .or a b, env, s => (runE a env s).bind fun x s => match x with
      | .d (.bool true) => .ok (.d (.bool true)) s
      | .d (.bool false) => runE b env s
      | _ => .stuck
  | .not a, env, s => (runE a env s).bind fun x s => match x with
      | .d (.bool b) => .ok (.d (.bool !b)) s
      | _ => .stuck
  | .ite c a b, env, s => (runT c env s).bind fun k s => if k then runE a env s else runE b env s
  | .tup es, env, s => (runEs es env s).bind fun ws s => .of (mkTupW ws) s
  | .lst cell es, env, s => (runEs es env s).bind fun ws s => newLst cell ws s
  | .idx a b, env, s => (runE a env s).bind fun x s => (runE b env s).bind fun y s => .of (idxW s x y) s
  | .slice a lo hi, env, s => (runE a env s).bind fun x s => (runO lo env s).bind fun l s => (runO hi env s).bind fun h s =>
      .of (do (cutD (← top s x) l h).map .d) s
  | .rev a, env, s => (runE a env s).bind fun x s => .of ((top s x).bind fun d => (revD d).map .d) s
  | .call m i es, env, s => (runEs es env s).bind fun ws s => callM m (Φ i) ws s
  | .make c es, env, s => (runEs es env s).bind fun ws s => match CI c with
      | some i => (Φ i (.ref s.length :: ws) (s ++ [.ins c []])).bind fun w s' => match w with
        | .d .none => .ok (.ref s.length) s'
        | _ => .stuck
      | none => .stuck
  | .meth o m es, env, s => (runE o env s).bind fun x s => match x with
      | .ref n => match s[n]? with
        | some (.ins c fs) => match fs.lookup m, M c m with
          | none, some i => (runEs es env s).bind fun ws s => Φ i (.ref n :: ws) s
          | _, _ => .stuck
        | _ => .stuck
      | _ => .stuck
  | .bf f es, env, s => (runEs es env s).bind fun ws s => .of ((bfD s f ws).map .d) s
  | .bm m o es, env, s => (runE o env s).bind fun x s => if bmOk x then (runEs es env s).bind fun ws s => .of ((bmD s m x ws).map .d) s else .stuck
  | .lm m o es, env, s => (runE o env s).bind fun x s => if lmOk s x then (runEs es env s).bind fun ws s => .of ((lmD s m x ws).map .d) s else .stuck
  | .fld o f, env, s => (runE o env s).bind fun x s => .of (fldW FO s f x) s
  | .comp own cell gc tg one walk its c e, env, s => (runEs its env s).bind fun ws s => match walkW walk ws s with
      | some (ws, g) => (compL (still g s) gc s.length (fun w s => match bindN tg one w (wipeE env own) with
          | some env => (runC c env s).bind fun k s => if k then (runE e env s).bind fun x s => .ok (some x) s else .ok none s
          | none => .stuck) ws [] s).bind fun ws s => compEnd cell ws s
      | none => .stuck
  | .cell a, env, s => (runE a env s).bind fun x s => toCell x s
  | .frz a, env, s => (runE a env s).bind fun x s => doFrz x s
  | .mut m o es, env, s => (runE o env s).bind fun x s => if isLstC s x then (runEs es env s).bind fun ws s => mutW m x ws s else .stuck
def runEs : List Ex → Env → Store → Res (List W)
  | [], _, s => .ok [] s
  | e :: es, env, s => (runE e env s).bind fun w s => (runEs es env s).bind fun ws s => .ok (w :: ws) s
/-- a slice's part -/
def runO : Option Ex → Env → Store → Res (Option Int)
  | none, _, s => .ok none s
  | some e, env, s => (runE e env s).bind fun w s => .of ((partW w).map some) s
/-- a comprehension's test -/
def runC : Option Bx → Env → Store → Res Bool
  | none, _, s => .ok true s
  | some e, env, s => runT e env s
/-- an expression as a test -/
def runT : Bx → Env → Store → Res Bool
  | .and a b, env, s => (runT a env s).bind fun k s => if k then runT b env s else .ok false s
  | .or a b, env, s => (runT a env s).bind fun k s => if k then .ok true s else runT b env s
  | .not a, env, s => (runT a env s).bind fun k s => .ok (!k) s
  | .ite c a b, env, s => (runT c env s).bind fun k s => if k then runT a env s else runT b env s
  | .tru e, env, s => truR (runE e env s)
end

def runIs (c : Nat) : List (List (Nat × Bool)) → Option (List Bool)
  | [] => some []
  | l :: ls => match l.lookup c, runIs c ls with
    | some b, some bs => some (b :: bs)
    | _, _ => none
def runH (h : Hd) (x : Exn) (env : Env) : Option Env := match h with
  | .flag j d => some (env.set j (some (.d d)))
  | .isas i j ls => if x.fs.isEmpty && Nat.ble ls.length 100 then (runIs x.cls ls).map fun bs => (env.set j (some (.d (.tuple (bs.map .bool))))).set i none else none
def assignT (t : Tx) (w : W) (env : Env) (s : Store) : Res Env := match t with
  | .name i => .ok (env.set i (some w)) s
  | .sub o i => (runE Φ M CI FO o env s).bind fun x s => (runE Φ M CI FO i env s).bind fun y s => (setIx x y w s).bind fun _ s => .ok env s
  | .fld o f => (runE Φ M CI FO o env s).bind fun x s => (setFld FO x f w s).bind fun _ s => .ok env s
def assignTs : List Tx → List W → Env → Store → Res Env
  | [], [], env, s => .ok env s
  | t :: ts, w :: ws, env, s => (assignT Φ M CI FO t w env s).bind fun env s => assignTs ts ws env s
  | _, _, _, _ => .stuck
/-- the parts of a tuple -/
def parts : W → Option (List W)
  | .d (.tuple xs) => some (xs.map .d)
  | .tup ws => some ws
  | _ => none
variable (XI : Nat → List PyData → Option (List (Str × PyData)))
def runS : Sx → Env → Store → Res (Flow × Env)
  | .pass, env, s => .ok (.next, env) s
  | .brk, env, s => .ok (.brk, env) s
  | .cont, env, s => .ok (.cont, env) s
  | .stk, _, _ => .stuck
  | .seq a b, env, s => (runS a env s).bind fun p s => match p with
    | (.next, env) => runS b env s
    | p => .ok p s
  | .assign t e, env, s => (runE Φ M CI FO e env s).bind fun w s => (assignT Φ M CI FO t w env s).bind fun env s => .ok (.next, env) s
  | .unpack ts e, env, s => (runE Φ M CI FO e env s).bind fun w s => match parts w with
    | some ws => if ws.length = ts.length then (assignTs Φ M CI FO ts ws env s).bind fun env s => .ok (.next, env) s else .stuck
    | none => .stuck
  | .expr e, env, s => (runE Φ M CI FO e env s).bind fun _ s => .ok (.next, env) s
  | .ret e, env, s => (runE Φ M CI FO e env s).bind fun w s => .ok (.ret w, env) s
  | .ite c a b, env, s => (runT Φ M CI FO c env s).bind fun k s => if k then runS a env s else runS b env s
  | .for gc tg one walk its body, env, s => (runEs Φ M CI FO its env s).bind fun ws s => match walkW walk ws s with
    | some (ws, g) => forL (still g s) gc s.length (fun w env s => match bindN tg one w env with
        | some env => runS body env s
        | none => .stuck) ws env s
    | none => .stuck
  | .while fuel c body, env, s => whileL (fun env s => runT Φ M CI FO c env s) (fun env s => runS body env s) fuel env s
  | .raise c es, env, s => (runEs Φ M CI FO es env s).bind fun ws s => match allPure ws with
    | some xs => match XI c xs with
      | some fs => .exc ⟨c, fs⟩ s
      | none => .stuck
    | none => .stuck
  | .tr i e l h, env, s => match runE Φ M CI FO e env s with
    | .ok w s => .ok (.next, match i with | some i => env.set i (some w) | none => env) s
    | .exc x s => match l.lookup x.cls with
      | some true => match runH h x env with
        | some env => .ok (.next, env) s
        | none => .stuck
      | some false => .exc x s
      | none => .stuck
    | .stuck => .stuck
/-- a def: parameters, slots, body -/
structure Def where
  ps : Nat
  ns : Nat
  body : Sx
def startE (n : Nat) (ws : List W) : Env := ws.map some ++ List.replicate (n - ws.length) none
def runF (f : Def) (ws : List W) (s : Store) : Res W :=
  if ws.length = f.ps then match runS Φ M CI FO XI f.body (startE f.ns ws) s with
    | .ok (.ret w, _) s => .ok w s
    | .ok (.next, _) s => .ok (.d .none) s
    | .ok _ _ => .stuck
    | .exc x s => .exc x s
    | .stuck => .stuck
  else .stuck
end
/-- the table of the first n defs, each over those ahead of it -/
def table (M : CTab) (CI : Nat → Option Nat) (FO : Nat → Str → Bool) (XI : Nat → List PyData → Option (List (Str × PyData))) (ds : Nat → Def) : Nat → FT
  | 0 => fun _ _ _ => .stuck
  | n + 1 => fun i => if i = n then runF (table M CI FO XI ds n) M CI FO XI (ds n) else table M CI FO XI ds n i
theorem table_at {M : CTab} {CI : Nat → Option Nat} {FO : Nat → Str → Bool} {XI : Nat → List PyData → Option (List (Str × PyData))} {ds : Nat → Def} {i : Nat} : ∀ {n : Nat}, i < n → table M CI FO XI ds n i = runF (table M CI FO XI ds i) M CI FO XI (ds i)
  | 0, h => by omega
  | n + 1, h => by
    show (if i = n then _ else _) = _
    by_cases e : i = n
    · subst e; rw [if_pos rfl]
    · rw [if_neg e]; exact table_at (by omega)
end Cc

set_option linter.all false
set_option maxRecDepth 100000
/-! Cc: from the model's syntax to the core language. -/
namespace Cc
open PySem

/-- what a name of the module is: a def of the table (parameters, defaults), a class, data, an exception class, a name that is free (a built-in) -/
inductive GI where
  | fn (i : Nat) (ps : Nat) (dfl : List PyData)
  | cls (c : Nat) (ps : Nat) (dfl : List PyData)
  | exn (c : Nat)
  /-- an exception class without own __init__ -/
  | pex (c : Nat)
  | con (x : PyData)
  | blt
  /-- a def of a class, called by the class: told under the name that bkey makes -/
  | bas (c : Nat) (m : Str) (i : Nat) (ps : Nat) (dfl : List PyData)
/-- the name under which B.m is told -/
def bkey (B m : Str) : Str := ⟨B.cps ++ #[46] ++ m.cps⟩
structure TEnv where
  N : List Str
  sc : Scope
  /-- where a name that is set is looked up: a block's scope ahead of its names' running kinds -/
  tsc : Scope
  G : Str → Option GI
  /-- notes at places: 1 a cell, 2 the call keeps, 3 the call lends, 4 turns drop their cells, 5 no more changed -/
  ann : Pos → Nat
  fuel : Nat
  /-- a class that is caught or asked for: which of the text's classes are below it -/
  xs : Str → Option (List (Nat × Bool))
def ixOf (x : Str) : List Str → Nat → Option Nat
  | [], _ => none
  | y :: ys, k => if x = y then some k else ixOf x ys (k + 1)
def visB (sc : Scope) (x : Str) : Bool := match sc.names.lookup x with
  | some .local => true
  | some .cell => true
  | some .free => true
  | _ => false
def locB (sc : Scope) (x : Str) : Bool := match sc.names.lookup x with
  | some .local => true
  | some .cell => true
  | _ => false
def gloB (sc : Scope) (x : Str) : Bool := match sc.names.lookup x with
  | some .globalImplicit => true
  | _ => false
/-- a comprehension's block, as its names run -/
def blkScope (sc scope : Scope) : Scope := L2.relS scope sc
def slotOf (T : TEnv) (x : Str) : Option Nat := if visB T.sc x then ixOf x T.N 0 else none
def tgtOf (T : TEnv) (x : Str) : Option Nat := if locB T.tsc x then ixOf x T.N 0 else none
def constOf : Const → Option PyData
  | .none => some .none
  | .bool b => some (.bool b)
  | .int i => some (.int i)
  | .str x => some (.str x)
  | _ => none
def bopOf : Operator → Option Bop
  | .Add => some .add | .Sub => some .sub | .Mult => some .mul | .Mod => some .mod | .Pow => some .pow | .FloorDiv => some .fdiv
  | .BitAnd => some .band | .BitOr => some .bor
  | _ => none
def copOf : CmpOp → Cop
  | .Eq => .eq | .NotEq => .ne | .Lt => .lt | .LtE => .le | .Gt => .gt | .GtE => .ge | .Is => .is_ | .IsNot => .isnot | .In => .isin | .NotIn => .notin
def tyOf (x : Str) : Option Ty :=
  if x = ("bool" : Str) then some .bool else if x = ("int" : Str) then some .int else if x = ("str" : Str) then some .str
  else if x = ("list" : Str) then some .list else if x = ("tuple" : Str) then some .tuple else none
/-- a free name of the module -/
def freeB (T : TEnv) (x : Str) : Bool := gloB T.sc x && (match T.G x with | some .blt => true | _ => false)
def bfOf (x : Str) (n : Nat) : Option Bf :=
  if n = 1 then
    if x = ("len" : Str) then some .len else if x = ("sum" : Str) then some .sum else if x = ("any" : Str) then some .any else if x = ("all" : Str) then some .all
    else if x = ("int" : Str) then some .int else if x = ("str" : Str) then some .str else if x = ("tuple" : Str) then some .tuple else if x = ("list" : Str) then some .list else none
  else if n = 2 then
    if x = ("min" : Str) then some .min2 else if x = ("max" : Str) then some .max2 else none
  else none
/-- range's argument in list(range(a)) -/
def rngArg (x : Str) : List Expr → Option Expr
  | [.Call (.Name y _) [a] [] _] => if x = ("list" : Str) ∧ y = ("range" : Str) then some a else none
  | _ => none
/-- the set's argument in len(set(a)) -/
def setArg (x : Str) : List Expr → Option Expr
  | [.Call (.Name y _) [a] [] _] => if x = ("len" : Str) ∧ y = ("set" : Str) then some a else none
  | _ => none
/-- B.m(..), B a class -/
def baseOf (T : TEnv) : Expr → Str → Option (Nat × Nat × List PyData)
  | .Name x _, m => if (slotOf T x).isNone && gloB T.sc x then match T.G x, T.G (bkey x m) with
      | some (.cls c _ _), some (.bas c' m' i np dfl) => if c = c' ∧ m = m' then some (i, np, dfl) else none
      | _, _ => none
    else none
  | _, _ => none
def bmOf (x : Str) : Option Bm :=
  if x = ("join" : Str) then some .join else if x = ("split" : Str) then some .split else if x = ("partition" : Str) then some .partition
  else if x = ("startswith" : Str) then some .startswith else none
def lmOf (x : Str) : Option Lm := if x = ("count" : Str) then some .count else if x = ("index" : Str) then some .index else none
def mutOf (x : Str) (n : Nat) : Option Mt :=
  if x = ("append" : Str) ∧ n = 1 then some .append else if x = ("extend" : Str) ∧ n = 1 then some .extend else if x = ("pop" : Str) ∧ n = 0 then some .pop
  else if x = ("clear" : Str) ∧ n = 0 then some .clear else if x = ("pop" : Str) ∧ n = 1 then some .popAt else none
def cmOf (n : Nat) : Cm := if n = 2 then .keep else if n = 3 then .lend else .frz
/-- a note 1 makes a cell of a fresh list -/
def wrap (T : TEnv) (pos : Pos) (e : Ex) : Ex := if T.ann pos = 1 then .cell e else e
def dfls (ps n : Nat) (dfl : List PyData) : Option (List Ex) :=
  if n ≤ ps ∧ ps - n ≤ dfl.length then some ((dfl.drop (dfl.length - (ps - n))).map .const) else none
/-- names of a target: one, or several -/
def namesOf (T : TEnv) : Expr → Option (List Nat × Bool)
  | .Name x _ => (tgtOf T x).map fun i => ([i], true)
  | .Tuple es _ _ => (go es).map (·, false)
  | _ => none
where go : List Expr → Option (List Nat)
  | [] => some []
  | .Name x _ :: es => match tgtOf T x, go es with
    | some i, some is => some (i :: is)
    | _, _ => none
  | _ :: _ => none
def ownOf (N : List Str) (scope : Scope) : List (Str × Nat) := scope.names.filterMap fun p => match p.2 with
  | .local => (ixOf p.1 N 0).map (p.1, ·)
  | .cell => (ixOf p.1 N 0).map (p.1, ·)
  | _ => none
def isTupE : Expr → Bool
  | .Tuple .. => true
  | _ => false
/-- a walk over range or enumerate -/
def walkOf (T : TEnv) (tg : Expr) : Expr → Option (Wk × List Expr)
  | .Call (.Name x _) es [] _ =>
    if x = ("range" : Str) ∧ freeB T x = true ∧ es.length = 1 then some (.rng1, es)
    else if x = ("range" : Str) ∧ freeB T x = true ∧ es.length = 2 then some (.rng2, es)
    else if x = ("enumerate" : Str) ∧ freeB T x = true ∧ es.length = 1 ∧ isTupE tg = true then some (.enum, es)
    else none
  | _ => none
/-- the whole line of a call of a built-in's method -/
def oneLine (apos pos : Pos) : Bool := apos.endLine == pos.line
mutual
def trE (T : TEnv) : Nat → Expr → Option Ex
  | 0, _ => none
  | n + 1, e => match e with
    | .Constant c _ _ => (constOf c).map .const
    | .Name x pos => match slotOf T x with
      | some i => some (if T.ann pos = 5 then .frz (.var i) else .var i)
      | none => if gloB T.sc x then match T.G x with
          | some (.con d) => some (.const d)
          | some (.fn i _ _) => some (.gfn i)
          | _ => none
        else none
    | .BinOp a op b pos => do
      let o ← bopOf op
      let x ← trE T n a
      let y ← trE T n b
      some (if o = .add then wrap T pos (.bin o x y) else .bin o x y)
    | .UnaryOp .USub a _ => do some (.neg (← trE T n a))
    | .UnaryOp .Not a _ => do some (.not (← trE T n a))
    | .BoolOp op es pos => trBool T n op es pos
    | .Compare a [op] [b] _ => if behindInMarks op b then none else do some (.cmp (copOf op) (← trE T n a) (← trE T n b))
    | .Compare a [op, op'] [b, c] _ => if lastMarks [op, op'] [b, c] then none else do some (.chain (copOf op) (copOf op') (← trE T n a) (← trE T n b) (← trE T n c))
    | .IfExp c a b _ => do some (.ite (← trB T n c) (← trE T n a) (← trE T n b))
    | .Tuple es _ _ => do some (.tup (← trEs T n es))
    | .List es pos => do some (.lst (T.ann pos = 1) (← trEs T n es))
    | .Subscript a (.Slice lo hi none _) pos => do some (wrap T pos (.slice (← trE T n a) (← trO T n lo) (← trO T n hi)))
    | .Subscript a (.Slice none none (some (.UnaryOp .USub (.Constant (.int 1) _ _) _)) _) pos => do some (wrap T pos (.rev (← trE T n a)))
    | .Subscript a b _ => match b with
      | .Slice .. => none
      | b => do some (.idx (← trE T n a) (← trE T n b))
    | .Attribute o f _ => match o with
      | .Call .. => none
      | o => do some (.fld (← trE T n o) f)
    | .ListComp elt [⟨tg, it, ifs, 0⟩] scope pos => do
      let (k, its) ← trI T n tg it
      let T' : TEnv := { T with sc := blkScope T.sc scope, tsc := scope }
      if L2.blkC T.N T.sc scope (ownOf T.N scope) then
        let (is, one) ← namesOf T' tg
        let c ← trC T' n ifs
        let e ← trE T' n elt
        if is.all (fun i => decide (i ∈ (ownOf T.N scope).map (·.2))) then
          some (.comp ((ownOf T.N scope).map (·.2)) (T.ann pos = 1) (T.ann pos = 4) is one k its c e)
        else none
      else none
    | .Call (.Name x _) es [] pos => match slotOf T x with
      | some _ => none
      | none => if gloB T.sc x then match T.G x with
          | some (.fn i ps dfl) => do
            let cs ← trEs T n es
            some (.call (cmOf (T.ann pos)) i (cs ++ (← dfls ps cs.length dfl)))
          | some (.cls c ps dfl) => do
            let cs ← trEs T n es
            some (.make c (cs ++ (← dfls ps cs.length dfl)))
          | some .blt =>
            if x = ("isinstance" : Str) then match es with
              | [a, .Name y _] => if freeB T y then do some (.bf (.isa (← tyOf y)) [← trE T n a]) else none
              | _ => none
            else match rngArg x es with
              | some a => if freeB T ("range" : Str) then do some (wrap T pos (.bf .lrng [← trE T n a])) else none
              | none => match setArg x es with
                | some a => if freeB T ("set" : Str) then do some (.bf .lens [← trE T n a]) else none
                | none => do some (wrap T pos (.bf (← bfOf x es.length) (← trEs T n es)))
          | _ => none
        else none
    | .Call (.Attribute o m apos) es [] pos =>
      if oneLine apos pos && decide (es.length < 20) then match baseOf T o m with
      | some (i, np, dfl) => do
        let cs ← trEs T n es
        some (.call (cmOf (T.ann pos)) i (cs ++ (← dfls np cs.length dfl)))
      | none => match o with
        | .Call .. => none
        | o => match mutOf m es.length with
          | some k => do some (.mut k (← trE T n o) (← trEs T n es))
          | none => match (if es.length = 1 then bmOf m else none) with
            | some k => do some (wrap T pos (.bm k (← trE T n o) (← trEs T n es)))
            | none => match (if es.length = 1 then lmOf m else none) with
              | some k => do some (.lm k (← trE T n o) (← trEs T n es))
              | none => do some (.meth (← trE T n o) m (← trEs T n es))
      else none
    | _ => none
def trBool (T : TEnv) : Nat → BoolOp → List Expr → Pos → Option Ex
  | 0, _, _, _ => none
  | n + 1, op, es, pos => match es with
    | [a] => trE T n a
    | a :: b :: r => do
      let x ← trE T n a
      let y ← trBool T n op (b :: r) pos
      some (match op with | .And => .and x y | .Or => .or x y)
    | [] => none
def trEs (T : TEnv) : Nat → List Expr → Option (List Ex)
  | 0, _ => none
  | n + 1, es => match es with
    | [] => some []
    | .Starred .. :: _ => none
    | e :: es => do some ((← trE T n e) :: (← trEs T n es))
def trO (T : TEnv) : Nat → Option Expr → Option (Option Ex)
  | 0, _ => none
  | n + 1, o => match o with
    | none => some none
    | some e => do some (some (← trE T n e))
def trC (T : TEnv) : Nat → List Expr → Option (Option Bx)
  | 0, _ => none
  | n + 1, es => match es with
    | [] => some none
    | [e] => do some (some (← trB T n e))
    | _ => none
/-- what is walked -/
def trI (T : TEnv) : Nat → Expr → Expr → Option (Wk × List Ex)
  | 0, _, _ => none
  | n + 1, tg, e => match walkOf T tg e with
    | some (k, es) => do some (k, ← trEs T n es)
    | none => match e with
      | .Set .. => none
      | e => do some (.seq, [← trE T n e])
def trB (T : TEnv) : Nat → Expr → Option Bx
  | 0, _ => none
  | n + 1, e => match e with
    | .UnaryOp .Not a _ => do some (.not (← trB T n a))
    | .BoolOp op es pos => trBoolB T n op es pos
    | .IfExp c a b _ => do some (.ite (← trB T n c) (← trB T n a) (← trB T n b))
    | e => do some (.tru (← trE T n e))
def trBoolB (T : TEnv) : Nat → BoolOp → List Expr → Pos → Option Bx
  | 0, _, _, _ => none
  | n + 1, op, es, pos => match es with
    | [a] => trB T n a
    | a :: b :: r => do
      let x ← trB T n a
      let y ← trBoolB T n op (b :: r) pos
      some (match op with | .And => .and x y | .Or => .or x y)
    | [] => none
end
def isComp : Expr → Bool
  | .ListComp .. => true
  | .SetComp .. => true
  | .DictComp .. => true
  | _ => false
def trT (T : TEnv) (n : Nat) : Expr → Option Tx
  | .Name x _ => (tgtOf T x).map .name
  | .Subscript o i _ => match i with
    | .Slice .. => none
    | i => do some (.sub (← trE T n o) (← trE T n i))
  | .Attribute o f _ => match o with
    | .Call .. => none
    | o => do some (.fld (← trE T n o) f)
  | _ => none
/-- the parts of a target tuple -/
def trU (T : TEnv) (n : Nat) : Expr → Option Tx
  | .Name x _ => (tgtOf T x).map .name
  | .Subscript o i _ => match i with
    | .Slice .. => none
    | i => do some (.sub (← trE T n o) (← trE T n i))
  | .Attribute o f _ => match o with
    | .Call .. => none
    | o => do some (.fld (← trE T n o) f)
  | _ => none
def trTs (T : TEnv) (n : Nat) : List Expr → Option (List Tx)
  | [] => some []
  | e :: es => do some ((← trU T n e) :: (← trTs T n es))
/-- a class by its name, as one that is caught -/
def xsOf (T : TEnv) (x : Str) : Option (List (Nat × Bool)) := if (slotOf T x).isNone && gloB T.sc x then T.xs x else none
def isasOf (T : TEnv) (e : Str) : List Expr → Option (List (List (Nat × Bool)))
  | [] => some []
  | .Call (.Name f _) [.Name y _, .Name x _] [] _ :: es => if f = ("isinstance" : Str) ∧ y = e ∧ freeB T f = true then do some ((← xsOf T x) :: (← isasOf T e es)) else none
  | _ :: _ => none
def hdOf (T : TEnv) : Option Str → List Stmt → Option Hd
  | none, [.Assign [.Name y _] (.Constant k _ _) _] => do some (.flag (← tgtOf T y) (← constOf k))
  | _, _ => none
/-- the statement that is tried -/
def oneOf (T : TEnv) (n : Nat) : Stmt → Option (Option Nat × Ex)
  | .Expr e _ => if isComp e then none else do some (none, ← trE T n e)
  | .Assign [.Name y _] e _ => if isComp e then none else do some (some (← tgtOf T y), ← trE T n e)
  | _ => none
mutual
def trS (T : TEnv) : Nat → Stmt → Option Sx
  | 0, _ => none
  | n + 1, st => match st with
    | .Pass _ => some .pass
    | .Break _ => some .brk
    | .Continue _ => some .cont
    | .Return none _ => some (.ret (.const .none))
    | .Return (some e) _ => do some (.ret (← trE T n e))
    | .Expr (.Constant (.str _) _ _) _ => some .pass
    | .Expr e _ => if isComp e then none else do some (.expr (← trE T n e))
    | .Assign [.Tuple ts _ _] e _ => match e with
      | .Tuple .. => none
      | e => do some (.unpack (← trTs T n ts) (← trE T n e))
    | .Assign [t] e _ => do some (.assign (← trT T n t) (← trE T n e))
    | .If c a b _ => do some (.ite (← trB T n c) (← trSs T n a) (← trSs T n b))
    | .For tg it body [] pos => do
      let (k, its) ← trI T n tg it
      let (is, one) ← namesOf T tg
      some (.for (T.ann pos = 4) is one k its (← trSs T n body))
    | .While c body [] _ => do some (.while T.fuel (← trB T n c) (← trSs T n body))
    | .Raise (some (.Call (.Name x _) [.Constant (.str m) _ _] [] _)) none _ => if (slotOf T x).isNone && gloB T.sc x then match T.G x with
        | some (.pex c) => some (.raise c [.const (.str m)])
        | _ => none
      else none
    | .Try [b] [.ExceptHandler (some (.Name x _)) nm suite _] [] [] _ => do
      let l ← xsOf T x
      let (i, e) ← oneOf T n b
      let h ← hdOf T nm suite
      some (.tr i e l h)
    | _ => none
def trSs (T : TEnv) : Nat → List Stmt → Option Sx
  | 0, _ => none
  | n + 1, st => match st with
    | [] => some .pass
    | [a] => some ((trS T n a).getD .stk)
    | a :: r => do some (.seq ((trS T n a).getD .stk) (← trSs T n r))
end
end Cc

set_option linter.all false
set_option maxRecDepth 100000
set_option maxHeartbeats 1000000
/-! Cc: how data and cells lie in the abstract heap. -/
namespace Cc
open PySem PySem.Spec PyProof.Rows L2

/-- where the store's cells stand (a dead one nowhere) -/
abbrev Ph := List (Option Addr)
def Mu (φ : Ph) (ex : List Addr) (a : Addr) : Prop := some a ∈ φ ∨ a ∈ ex
/-- the written part's own -/
def KTu (K : PySem.W.Frag) (a : Addr) (xs : List V) : Prop := ∃ (o : Obj) (its : Array Value) (n : Nat), K.lookup a = some o ∧ o.cls = .type "tuple" ∧ o.data = .seq its n ∧ its.size ≤ sizeLine ∧ Vals xs its.toList
mutual
inductive Rp (K : PySem.W.Frag) (φ : Ph) (ex : List Addr) (H : Hp) : V → PyData → Prop
  | non : Rp K φ ex H .non .none
  | bl (b : Bool) : Rp K φ ex H (.bl b) (.bool b)
  | int (i : Int) : Rp K φ ex H (.int i) (.int i)
  | str (x : Str) : Rp K φ ex H (.str x) (.str x)
  | lst {a : Addr} {vs : List V} {ds : List PyData} : Rd H a (.lst vs) → ¬ Mu φ ex a → RpL K φ ex H vs ds → Rp K φ ex H (.ref a) (.list ds)
  | tup {a : Addr} {vs : List V} {ds : List PyData} : ((Rd H a (.tup vs) ∧ ¬ Mu φ ex a) ∨ KTu K a vs) → RpL K φ ex H vs ds → Rp K φ ex H (.ref a) (.tuple ds)
inductive RpL (K : PySem.W.Frag) (φ : Ph) (ex : List Addr) (H : Hp) : List V → List PyData → Prop
  | nil : RpL K φ ex H [] []
  | cons {v : V} {vs : List V} {d : PyData} {ds : List PyData} : Rp K φ ex H v d → RpL K φ ex H vs ds → RpL K φ ex H (v :: vs) (d :: ds)
end
/-- the ground: the written part, the tables, where defs and classes stand -/
structure Gt where
  K : PySem.W.Frag
  Φ : FT
  M : CTab
  CI : Nat → Option Nat
  FO : Nat → Str → Bool
  XI : Nat → List PyData → Option (List (Str × PyData))
  fa : Nat → Addr
  ca : Nat → Addr
  xa : Nat → Addr
mutual
inductive RpW (R : Gt) (φ : Ph) (ex : List Addr) (H : Hp) : V → W → Prop
  | d {v : V} {x : PyData} : Rp R.K φ ex H v x → RpW R φ ex H v (.d x)
  | ref {v : V} {n : Nat} : n < φ.length → (∀ a, φ[n]? = some (some a) → v = .ref a) → RpW R φ ex H v (.ref n)
  | tup {a : Addr} {vs : List V} {ws : List W} : Rd H a (.tup vs) → ¬ Mu φ ex a → RpWL R φ ex H vs ws → RpW R φ ex H (.ref a) (.tup ws)
  | fn (i : Nat) : RpW R φ ex H (.ref (R.fa i)) (.fn i)
inductive RpWL (R : Gt) (φ : Ph) (ex : List Addr) (H : Hp) : List V → List W → Prop
  | nil : RpWL R φ ex H [] []
  | cons {v : V} {vs : List V} {w : W} {ws : List W} : RpW R φ ex H v w → RpWL R φ ex H vs ws → RpWL R φ ex H (v :: vs) (w :: ws)
end
/-- what grows: cells' own objects may change, all else stays -/
structure Ext (φ : Ph) (H : Hp) (φ' : Ph) (H' : Hp) : Prop where
  keep : ∀ a o, H a = some o → some a ∉ φ → H' a = some o
  new : ∀ a, some a ∈ φ' → some a ∈ φ ∨ H a = none
  len : φ.length ≤ φ'.length
  pre : ∀ (n : Nat) (a : Addr), n < φ.length → φ'[n]? = some (some a) → φ[n]? = some (some a)
theorem Ext.refl (φ : Ph) (H : Hp) : Ext φ H φ H := ⟨fun _ _ h _ => h, fun _ h => .inl h, Nat.le_refl _, fun _ _ _ h => h⟩
theorem Ext.trans {φ φ1 φ2 : Ph} {H H1 H2 : Hp} (a : Ext φ H φ1 H1) (b : Ext φ1 H1 φ2 H2) : Ext φ H φ2 H2 where
  keep := fun c o h n => b.keep c o (a.keep c o h n) fun z => (a.new c z).elim n fun e => by rw [h] at e; cases e
  new := fun c z => (b.new c z).elim (a.new c) fun e => by
    by_cases n : some c ∈ φ
    · exact .inl n
    · right
      cases h : H c with
      | none => rfl
      | some o => rw [a.keep c o h n] at e; cases e
  len := Nat.le_trans a.len b.len
  pre := fun n c h z => a.pre n c h (b.pre n c (Nat.lt_of_lt_of_le h a.len) z)
section
variable {K : PySem.W.Frag} {φ φ' : Ph} {ex : List Addr} {H H' : Hp}
theorem Ext.mu (E : Ext φ H φ' H') {a : Addr} {o : HO} (h : H a = some o) (n : ¬ Mu φ ex a) : H' a = some o ∧ ¬ Mu φ' ex a := by
  refine ⟨E.keep a o h fun z => n (.inl z), fun z => ?_⟩
  rcases z with z | z
  · rcases E.new a z with z | z
    · exact n (.inl z)
    · rw [h] at z; cases z
  · exact n (.inr z)
theorem Ext.rd (E : Ext φ H φ' H') {a : Addr} {u : HO} (h : Rd H a u) (n : ¬ Mu φ ex a) : Rd H' a u ∧ ¬ Mu φ' ex a := by
  rcases h with h | ⟨o, h⟩
  · exact ⟨.inl (E.mu h n).1, (E.mu h n).2⟩
  · exact ⟨.inr ⟨o, (E.mu h n).1⟩, (E.mu h n).2⟩
mutual
theorem Rp.ext (E : Ext φ H φ' H') : ∀ (d : PyData) (v : V), Rp K φ ex H v d → Rp K φ' ex H' v d
  | .none, _, h => by cases h; exact .non
  | .bool b, _, h => by cases h; exact .bl _
  | .int b, _, h => by cases h; exact .int _
  | .str b, _, h => by cases h; exact .str _
  | .list ds, _, h => by
    cases h with
    | lst h n r => exact .lst (E.rd h n).1 (E.rd h n).2 (RpL.ext E ds _ r)
  | .tuple ds, _, h => by
    cases h with
    | tup h r =>
      refine .tup (h.elim (fun ⟨h, n⟩ => .inl ?_) .inr) (RpL.ext E ds _ r)
      exact E.rd h n
  | .dict _, _, h => by cases h
theorem RpL.ext (E : Ext φ H φ' H') : ∀ (ds : List PyData) (vs : List V), RpL K φ ex H vs ds → RpL K φ' ex H' vs ds
  | [], _, h => by cases h; exact .nil
  | d :: ds, _, h => by
    cases h with
    | cons r t => exact .cons (Rp.ext E d _ r) (RpL.ext E ds _ t)
end
mutual
theorem Rp.dp : ∀ (d : PyData) (v : V), Rp K φ ex H v d → Dp K H v d
  | .none, _, h => by cases h; exact .non
  | .bool b, _, h => by cases h; exact .bl _
  | .int b, _, h => by cases h; exact .int _
  | .str b, _, h => by cases h; exact .str _
  | .list ds, _, h => by
    cases h with
    | lst h n r => exact .lst (.inl h) (RpL.dp ds _ r)
  | .tuple ds, _, h => by
    cases h with
    | tup h r => exact .tup (h.elim (fun ⟨h, n⟩ => .inl h) .inr) (RpL.dp ds _ r)
  | .dict _, _, h => by cases h
theorem RpL.dp : ∀ (ds : List PyData) (vs : List V), RpL K φ ex H vs ds → DpAll K H vs ds
  | [], _, h => by cases h; exact .nil
  | d :: ds, _, h => by
    cases h with
    | cons r t => exact .cons (Rp.dp d _ r) (RpL.dp ds _ t)
end
theorem RpL.length : ∀ {ds : List PyData} {vs : List V}, RpL K φ ex H vs ds → vs.length = ds.length
  | [], _, h => by cases h; rfl
  | d :: ds, _, h => by
    cases h with
    | cons r t => simp [RpL.length t]
theorem RpL.get : ∀ {ds : List PyData} {vs : List V} {i : Nat} {d : PyData}, RpL K φ ex H vs ds → ds[i]? = some d → ∃ v, vs[i]? = some v ∧ Rp K φ ex H v d
  | [], _, _, _, h, e => by simp at e
  | x :: ds, _, i, d, h, e => by
    cases h with
    | cons r t =>
      cases i with
      | zero => simp at e; subst e; exact ⟨_, rfl, r⟩
      | succ i =>
        obtain ⟨v, h1, h2⟩ := RpL.get (i := i) t (by simpa using e)
        exact ⟨v, by simpa using h1, h2⟩
theorem RpL.append : ∀ {xs ys : List PyData} {vs us : List V}, RpL K φ ex H vs xs → RpL K φ ex H us ys → RpL K φ ex H (vs ++ us) (xs ++ ys)
  | [], _, _, _, h, h' => by cases h; exact h'
  | _ :: _, _, _, _, h, h' => by
    cases h with
    | cons r t => exact .cons r (RpL.append t h')
theorem RpL.take : ∀ {xs : List PyData} {vs : List V} (n : Nat), RpL K φ ex H vs xs → RpL K φ ex H (vs.take n) (xs.take n)
  | [], _, n, h => by cases h; simp; exact .nil
  | _ :: _, _, n, h => by
    cases h with
    | cons r t =>
      cases n with
      | zero => exact .nil
      | succ n => exact .cons r (RpL.take n t)
theorem RpL.drop : ∀ {xs : List PyData} {vs : List V} (n : Nat), RpL K φ ex H vs xs → RpL K φ ex H (vs.drop n) (xs.drop n)
  | [], _, n, h => by cases h; simp; exact .nil
  | _ :: _, _, n, h => by
    cases h with
    | cons r t =>
      cases n with
      | zero => exact .cons r t
      | succ n => exact RpL.drop n t
theorem RpL.set : ∀ {xs : List PyData} {vs : List V} (j : Nat) {d : PyData} {v : V}, RpL K φ ex H vs xs → Rp K φ ex H v d → RpL K φ ex H (vs.set j v) (xs.set j d)
  | [], _, j, _, _, h, r => by cases h; exact .nil
  | _ :: _, _, j, _, _, h, r' => by
    cases h with
    | cons r t =>
      cases j with
      | zero => exact .cons r' t
      | succ j => exact .cons r (RpL.set j t r')
theorem RpL.cutX {xs : List PyData} {vs : List V} (lo hi : Option Int) (h : RpL K φ ex H vs xs) : RpL K φ ex H (cutV vs lo hi) (cutX xs lo hi) := by
  unfold L2.cutV Cc.cutX
  rw [h.length]
  exact (h.drop _).take _
theorem atI_RpL {xs : List PyData} {vs : List V} {i : Int} {d : PyData} (h : RpL K φ ex H vs xs) (e : atI xs i = some d) : ∃ v, atI vs i = some v ∧ Rp K φ ex H v d := by
  unfold atI at e ⊢
  rw [h.length]
  cases k : ixN xs.length i with
  | none => rw [k] at e; cases e
  | some j =>
    rw [k] at e
    obtain ⟨v, h1, h2⟩ := h.get (i := j) (by simpa using e)
    exact ⟨v, by simpa using h1, h2⟩
end
section
variable {R : Gt} {φ φ' : Ph} {ex : List Addr} {H H' : Hp}
mutual
theorem RpW.ext (E : Ext φ H φ' H') : ∀ (w : W) (v : V), RpW R φ ex H v w → RpW R φ' ex H' v w
  | .d x, _, h => by cases h with | d h => exact .d (Rp.ext E x _ h)
  | .ref n, _, h => by
    cases h with
    | ref l h => exact .ref (Nat.lt_of_lt_of_le l E.len) fun a e => h a (E.pre n a l e)
  | .tup ws, _, h => by
    cases h with
    | tup h n r => exact .tup (E.rd h n).1 (E.rd h n).2 (RpWL.ext E ws _ r)
  | .fn i, _, h => by cases h; exact .fn i
theorem RpWL.ext (E : Ext φ H φ' H') : ∀ (ws : List W) (vs : List V), RpWL R φ ex H vs ws → RpWL R φ' ex H' vs ws
  | [], _, h => by cases h; exact .nil
  | w :: ws, _, h => by
    cases h with
    | cons r t => exact .cons (RpW.ext E w _ r) (RpWL.ext E ws _ t)
end
theorem RpWL.length : ∀ {ds : List W} {vs : List V}, RpWL R φ ex H vs ds → vs.length = ds.length
  | [], _, h => by cases h; rfl
  | d :: ds, _, h => by
    cases h with
    | cons r t => simp [RpWL.length t]
theorem RpWL.get : ∀ {ds : List W} {vs : List V} {i : Nat} {d : W}, RpWL R φ ex H vs ds → ds[i]? = some d → ∃ v, vs[i]? = some v ∧ RpW R φ ex H v d
  | [], _, _, _, h, e => by simp at e
  | x :: ds, _, i, d, h, e => by
    cases h with
    | cons r t =>
      cases i with
      | zero => simp at e; subst e; exact ⟨_, rfl, r⟩
      | succ i =>
        obtain ⟨v, h1, h2⟩ := RpWL.get (i := i) t (by simpa using e)
        exact ⟨v, by simpa using h1, h2⟩
theorem RpWL.append : ∀ {xs ys : List W} {vs us : List V}, RpWL R φ ex H vs xs → RpWL R φ ex H us ys → RpWL R φ ex H (vs ++ us) (xs ++ ys)
  | [], _, _, _, h, h' => by cases h; exact h'
  | _ :: _, _, _, _, h, h' => by
    cases h with
    | cons r t => exact .cons r (RpWL.append t h')
theorem RpWL.set : ∀ {xs : List W} {vs : List V} (j : Nat) {d : W} {v : V}, RpWL R φ ex H vs xs → RpW R φ ex H v d → RpWL R φ ex H (vs.set j v) (xs.set j d)
  | [], _, j, _, _, h, r => by cases h; exact .nil
  | _ :: _, _, j, _, _, h, r' => by
    cases h with
    | cons r t =>
      cases j with
      | zero => exact .cons r' t
      | succ j => exact .cons r (RpWL.set j t r')
theorem RpWL.of : ∀ {xs : List PyData} {vs : List V}, RpL R.K φ ex H vs xs → RpWL R φ ex H vs (xs.map .d)
  | [], _, h => by cases h; exact .nil
  | _ :: _, _, h => by
    cases h with
    | cons r t => exact .cons (.d r) (RpWL.of t)
theorem RpWL.data : ∀ {xs : List PyData} {vs : List V}, RpWL R φ ex H vs (xs.map .d) → RpL R.K φ ex H vs xs
  | [], _, h => by cases h; exact .nil
  | _ :: _, _, h => by
    cases h with
    | cons r t => cases r with | d r => exact .cons r (RpWL.data t)
theorem atI_RpWL {xs : List W} {vs : List V} {i : Int} {d : W} (h : RpWL R φ ex H vs xs) (e : atI xs i = some d) : ∃ v, atI vs i = some v ∧ RpW R φ ex H v d := by
  unfold atI at e ⊢
  rw [h.length]
  cases k : ixN xs.length i with
  | none => rw [k] at e; cases e
  | some j =>
    rw [k] at e
    obtain ⟨v, h1, h2⟩ := h.get (i := j) (by simpa using e)
    exact ⟨v, by simpa using h1, h2⟩
/-- attributes -/
inductive FsR (R : Gt) (φ : Ph) (ex : List Addr) (H : Hp) : List (Str × V) → List (Str × W) → Prop
  | nil : FsR R φ ex H [] []
  | cons {f : Str} {v : V} {w : W} {vs : List (Str × V)} {ws : List (Str × W)} : RpW R φ ex H v w → FsR R φ ex H vs ws → FsR R φ ex H ((f, v) :: vs) ((f, w) :: ws)
theorem FsR.ext (E : Ext φ H φ' H') : ∀ {vs : List (Str × V)} {ws : List (Str × W)}, FsR R φ ex H vs ws → FsR R φ' ex H' vs ws
  | _, _, .nil => .nil
  | _, _, .cons r t => .cons (RpW.ext E _ _ r) (FsR.ext E t)
theorem FsR.length : ∀ {vs : List (Str × V)} {ws : List (Str × W)}, FsR R φ ex H vs ws → vs.length = ws.length
  | _, _, .nil => rfl
  | _, _, .cons r t => by simp [FsR.length t]
theorem FsR.look {f : Str} : ∀ {vs : List (Str × V)} {ws : List (Str × W)} {w : W}, FsR R φ ex H vs ws → ws.lookup f = some w → ∃ v, vs.lookup f = some v ∧ RpW R φ ex H v w
  | _, _, _, .nil, e => by simp at e
  | _, _, _, .cons (f := g) r t, e => by
    simp only [List.lookup_cons] at e ⊢
    cases h : f == g with
    | true => rw [h] at e; cases e; exact ⟨_, rfl, r⟩
    | false => rw [h] at e; exact FsR.look t e
theorem FsR.lookN {f : Str} : ∀ {vs : List (Str × V)} {ws : List (Str × W)}, FsR R φ ex H vs ws → ws.lookup f = none → vs.lookup f = none
  | _, _, .nil, e => rfl
  | _, _, .cons (f := g) r t, e => by
    simp only [List.lookup_cons] at e ⊢
    cases h : f == g with
    | true => rw [h] at e; cases e
    | false => rw [h] at e; exact FsR.lookN t e
theorem FsR.put {f : Str} {v : V} {w : W} (q : RpW R φ ex H v w) : ∀ {vs : List (Str × V)} {ws : List (Str × W)}, FsR R φ ex H vs ws → FsR R φ ex H (putF f v vs) (fput f w ws)
  | _, _, .nil => .cons q .nil
  | _, _, .cons (f := g) r t => by
    unfold putF fput
    by_cases h : g = f
    · rw [if_pos h, if_pos h]; exact .cons q t
    · rw [if_neg h, if_neg h]; exact .cons r (FsR.put q t)
/-- a cell's object -/
def CellR (R : Gt) (φ : Ph) (ex : List Addr) (H : Hp) (a : Addr) : Cell → Prop
  | .lst ds => ∃ vs, H a = some (.lst vs) ∧ RpL R.K φ ex H vs ds
  | .wl ws => ∃ vs, H a = some (.lst vs) ∧ RpWL R φ ex H vs ws
  | .ins c fs => ∃ dx fv, H a = some (.ins (R.ca c) dx fv) ∧ FsR R φ ex H fv fs
  | .dead => False
/-- what may change -/
def Cel : HO → Prop
  | .lst _ => True
  | .ins _ _ _ => True
  | _ => False
structure Sim (R : Gt) (φ : Ph) (ex : List Addr) (H : Hp) (s : Store) : Prop where
  len : φ.length = s.length
  cell : ∀ (n : Nat) (c : Cell), s[n]? = some c → (c = .dead ∧ φ[n]? = some none) ∨ ∃ a, φ[n]? = some (some a) ∧ CellR R φ ex H a c
  one : ∀ (n m : Nat) (a : Addr), φ[n]? = some (some a) → φ[m]? = some (some a) → n = m
  off : ∀ a ∈ ex, some a ∉ φ
  exT : ∀ a ∈ ex, ∃ o, H a = some o ∧ Cel o
theorem CellR.there {a : Addr} {c : Cell} (h : CellR R φ ex H a c) : ∃ o, H a = some o ∧ Cel o := by
  cases c with
  | lst ds => obtain ⟨vs, h, _⟩ := h; exact ⟨_, h, trivial⟩
  | wl ws => obtain ⟨vs, h, _⟩ := h; exact ⟨_, h, trivial⟩
  | ins c fs => obtain ⟨dx, fv, h, _⟩ := h; exact ⟨_, h, trivial⟩
  | dead => exact h.elim
theorem Sim.at_ {s : Store} (S : Sim R φ ex H s) {n : Nat} {a : Addr} (h : φ[n]? = some (some a)) : ∃ c, s[n]? = some c ∧ CellR R φ ex H a c := by
  have l : n < s.length := by rw [← S.len]; exact (List.getElem?_eq_some_iff.mp h).1
  have e : s[n]? = some s[n] := List.getElem?_eq_getElem l
  rcases S.cell n _ e with ⟨_, e2⟩ | ⟨b, e2, q⟩
  · rw [h] at e2; cases e2
  · rw [h] at e2; cases e2; exact ⟨_, e, q⟩
theorem Sim.mem {s : Store} (S : Sim R φ ex H s) {a : Addr} (h : some a ∈ φ) : ∃ o, H a = some o ∧ Cel o := by
  obtain ⟨n, e⟩ := List.mem_iff_getElem?.mp h
  obtain ⟨c, _, q⟩ := S.at_ e
  exact q.there
/-- what may change is tracked -/
theorem Sim.mu {s : Store} (S : Sim R φ ex H s) {a : Addr} (h : Mu φ ex a) : ∃ o, H a = some o ∧ Cel o := by
  rcases h with h | h
  · exact S.mem h
  · exact S.exT a h
theorem Sim.muT {s : Store} (S : Sim R φ ex H s) {a : Addr} (h : Mu φ ex a) : H a ≠ none := by
  obtain ⟨o, e, _⟩ := S.mu h
  rw [e]; exact fun z => nomatch z
theorem Sim.fresh {s : Store} (S : Sim R φ ex H s) {p : Addr} (h : H p = none) : ¬ Mu φ ex p := fun z => S.muT z h
/-- a list cell -/
theorem Sim.lst {s : Store} (S : Sim R φ ex H s) {n : Nat} {ds : List PyData} {v : V} (h : s[n]? = some (.lst ds)) (r : RpW R φ ex H v (.ref n)) :
    ∃ a vs, v = .ref a ∧ φ[n]? = some (some a) ∧ H a = some (.lst vs) ∧ RpL R.K φ ex H vs ds := by
  rcases S.cell n _ h with ⟨e, _⟩ | ⟨a, e, vs, q, r2⟩
  · cases e
  · cases r with
    | ref l r => exact ⟨a, vs, r a e, e, q, r2⟩
theorem Sim.wl {s : Store} (S : Sim R φ ex H s) {n : Nat} {ws : List W} {v : V} (h : s[n]? = some (.wl ws)) (r : RpW R φ ex H v (.ref n)) :
    ∃ a vs, v = .ref a ∧ φ[n]? = some (some a) ∧ H a = some (.lst vs) ∧ RpWL R φ ex H vs ws := by
  rcases S.cell n _ h with ⟨e, _⟩ | ⟨a, e, vs, q, r2⟩
  · cases e
  · cases r with
    | ref l r => exact ⟨a, vs, r a e, e, q, r2⟩
theorem Sim.ins {s : Store} (S : Sim R φ ex H s) {n : Nat} {c : Nat} {fs : List (Str × W)} {v : V} (h : s[n]? = some (.ins c fs)) (r : RpW R φ ex H v (.ref n)) :
    ∃ a dx fv, v = .ref a ∧ φ[n]? = some (some a) ∧ H a = some (.ins (R.ca c) dx fv) ∧ FsR R φ ex H fv fs := by
  rcases S.cell n _ h with ⟨e, _⟩ | ⟨a, e, dx, fv, q, r2⟩
  · cases e
  · cases r with
    | ref l r => exact ⟨a, dx, fv, r a e, e, q, r2⟩
/-- cells stand under a growth that leaves their own objects -/
theorem CellR.ext (E : Ext φ H φ' H') {a : Addr} {c : Cell} (h : CellR R φ ex H a c) (k : H' a = H a) : CellR R φ' ex H' a c := by
  cases c with
  | lst ds => obtain ⟨vs, h, r⟩ := h; exact ⟨vs, k.trans h, RpL.ext E _ _ r⟩
  | wl ws => obtain ⟨vs, h, r⟩ := h; exact ⟨vs, k.trans h, RpWL.ext E _ _ r⟩
  | ins c fs => obtain ⟨dx, fv, h, r⟩ := h; exact ⟨dx, fv, k.trans h, FsR.ext E r⟩
  | dead => exact h.elim
/-! ### the four steps -/
variable {s : Store}
/-- a new object that is no cell -/
theorem Sim.new (S : Sim R φ ex H s) {p : Addr} {o : HO} (hp : H p = none) : Ext φ H φ (upd H p o) ∧ Sim R φ ex (upd H p o) s := by
  have E : Ext φ H φ (upd H p o) := ⟨fun a u h _ => by rw [upd_ne (ne_of_none h hp)]; exact h, fun _ z => .inl z, Nat.le_refl _, fun _ _ _ h => h⟩
  refine ⟨E, S.len, fun n c h => ?_, S.one, S.off, fun a ha => ?_⟩
  · rcases S.cell n c h with q | ⟨a, e, q⟩
    · exact .inl q
    · refine .inr ⟨a, e, q.ext E ?_⟩
      obtain ⟨o', ho, _⟩ := q.there
      exact upd_ne (ne_of_none ho hp)
  · obtain ⟨u, e, c⟩ := S.exT a ha
    exact ⟨u, by rw [upd_ne (ne_of_none e hp)]; exact e, c⟩
/-- a new cell -/
theorem Sim.push (S : Sim R φ ex H s) {p : Addr} {o : HO} {c : Cell} (hp : H p = none) (hc : Ext φ H (φ ++ [some p]) (upd H p o) → CellR R (φ ++ [some p]) ex (upd H p o) p c) :
    Ext φ H (φ ++ [some p]) (upd H p o) ∧ Sim R (φ ++ [some p]) ex (upd H p o) (s ++ [c]) := by
  have E : Ext φ H (φ ++ [some p]) (upd H p o) := by
    refine ⟨fun a u h _ => by rw [upd_ne (ne_of_none h hp)]; exact h, fun a z => ?_, by simp, fun n a l e => ?_⟩
    · rcases List.mem_append.mp z with z | z
      · exact .inl z
      · have e : a = p := by simpa using z
        exact .inr (by rw [e]; exact hp)
    · rwa [List.getElem?_append_left l] at e
  have np : some p ∉ φ := fun z => by
    obtain ⟨o', e, _⟩ := S.mem z
    rw [hp] at e; cases e
  refine ⟨E, by simp [S.len], fun n c' h => ?_, fun n m a e1 e2 => ?_, fun a ha z => ?_, fun a ha => ?_⟩
  · rcases Nat.lt_trichotomy n s.length with l | l | l
    · rw [List.getElem?_append_left l] at h
      rcases S.cell n c' h with ⟨q, q2⟩ | ⟨a, e, q⟩
      · exact .inl ⟨q, by rw [List.getElem?_append_left (by rw [S.len]; exact l)]; exact q2⟩
      · refine .inr ⟨a, by rw [List.getElem?_append_left (by rw [S.len]; exact l)]; exact e, q.ext E ?_⟩
        obtain ⟨o', ho, _⟩ := q.there
        exact upd_ne (ne_of_none ho hp)
    · subst l
      have e : c' = c := by simpa using h.symm
      subst e
      exact .inr ⟨p, by simp [← S.len], hc E⟩
    · have : (s ++ [c])[n]? = none := List.getElem?_eq_none (by simp; omega)
      rw [this] at h; cases h
  · have key : ∀ n b, (φ ++ [some p])[n]? = some (some b) → (n < φ.length ∧ φ[n]? = some (some b)) ∨ (n = φ.length ∧ b = p) := fun n b e => by
      rcases Nat.lt_or_ge n φ.length with l | l
      · rw [List.getElem?_append_left l] at e; exact .inl ⟨l, e⟩
      · have l2 : n < (φ ++ [some p]).length := (List.getElem?_eq_some_iff.mp e).1
        have e3 : n = φ.length := by simp at l2; omega
        subst e3
        exact .inr ⟨rfl, by simpa using e.symm⟩
    rcases key n a e1 with ⟨l1, q1⟩ | ⟨l1, q1⟩ <;> rcases key m a e2 with ⟨l2, q2⟩ | ⟨l2, q2⟩
    · exact S.one n m a q1 q2
    · subst q2; exact (np (List.mem_of_getElem? q1)).elim
    · subst q1; exact (np (List.mem_of_getElem? q2)).elim
    · rw [l1, l2]
  · rcases List.mem_append.mp z with z | z
    · exact S.off a ha z
    · have e : a = p := by simpa using z
      obtain ⟨u, e2, _⟩ := S.exT a ha
      rw [e, hp] at e2; cases e2
  · obtain ⟨u, e, c⟩ := S.exT a ha
    exact ⟨u, by rw [upd_ne (ne_of_none e hp)]; exact e, c⟩
/-- a cell's object changed -/
theorem Sim.put (S : Sim R φ ex H s) {n : Nat} {a : Addr} {o : HO} {c : Cell} (h : φ[n]? = some (some a)) (hc : Ext φ H φ (upd H a o) → CellR R φ ex (upd H a o) a c) :
    Ext φ H φ (upd H a o) ∧ Sim R φ ex (upd H a o) (s.set n c) := by
  have hm : some a ∈ φ := List.mem_of_getElem? h
  have E : Ext φ H φ (upd H a o) := ⟨fun b u e nb => by rw [upd_ne (fun z => nb (by rw [z]; exact hm))]; exact e, fun _ z => .inl z, Nat.le_refl _, fun _ _ _ h => h⟩
  refine ⟨E, by simp [S.len], fun m c' e => ?_, S.one, S.off, fun b hb => ?_⟩
  · by_cases hmn : n = m
    · subst hmn
      have l : n < s.length := by have := (List.getElem?_eq_some_iff.mp e).1; simpa using this
      rw [List.getElem?_set_self l] at e
      cases e
      exact .inr ⟨a, h, hc E⟩
    · rw [List.getElem?_set_ne hmn] at e
      rcases S.cell m c' e with q | ⟨b, e2, q⟩
      · exact .inl q
      · refine .inr ⟨b, e2, q.ext E (upd_ne fun z => ?_)⟩
        subst z
        exact hmn (S.one n m _ h e2)
  · by_cases hb2 : b = a
    · subst hb2; exact (S.off _ hb hm).elim
    · rw [upd_ne hb2]; exact S.exT b hb
/-- a cell that is changed no more -/
theorem Sim.kill (S : Sim R φ ex H s) {n : Nat} : Ext φ H (φ.set n none) H ∧ Sim R (φ.set n none) ex H (s.set n .dead) := by
  have sub : ∀ a, some a ∈ φ.set n none → some a ∈ φ := fun a z => by
    obtain ⟨m, e⟩ := List.mem_iff_getElem?.mp z
    by_cases hm : n = m
    · subst hm
      rcases Nat.lt_or_ge n φ.length with l | l
      · rw [List.getElem?_set_self l] at e; cases e
      · rw [List.set_eq_of_length_le l] at e; exact List.mem_of_getElem? e
    · rw [List.getElem?_set_ne hm] at e; exact List.mem_of_getElem? e
  have at' : ∀ m a, (φ.set n none)[m]? = some (some a) → φ[m]? = some (some a) := fun m a e => by
    by_cases hm : n = m
    · subst hm
      rcases Nat.lt_or_ge n φ.length with l | l
      · rw [List.getElem?_set_self l] at e; cases e
      · rwa [List.set_eq_of_length_le l] at e
    · rwa [List.getElem?_set_ne hm] at e
  have E : Ext φ H (φ.set n none) H := ⟨fun _ _ h _ => h, fun a z => .inl (sub a z), by simp, fun m a _ e => at' m a e⟩
  refine ⟨E, by simp [S.len], fun m c e => ?_, fun i j a e1 e2 => S.one i j a (at' _ _ e1) (at' _ _ e2), fun a ha z => S.off a ha (sub a z), S.exT⟩
  by_cases hm : n = m
  · subst hm
    rcases Nat.lt_or_ge n s.length with l | l
    · rw [List.getElem?_set_self l] at e
      cases e
      exact .inl ⟨rfl, by rw [List.getElem?_set_self (by rw [S.len]; exact l)]⟩
    · rw [List.set_eq_of_length_le l] at e
      have := (List.getElem?_eq_some_iff.mp e).1
      omega
  · rw [List.getElem?_set_ne hm] at e
    rcases S.cell m c e with ⟨q, q2⟩ | ⟨b, e2, q⟩
    · exact .inl ⟨q, by rw [List.getElem?_set_ne hm]; exact q2⟩
    · exact .inr ⟨b, by rw [List.getElem?_set_ne hm]; exact e2, q.ext E rfl⟩
/-- names -/
structure EnvR (R : Gt) (φ : Ph) (ex : List Addr) (H : Hp) (env : Env) (σ : L2.St) : Prop where
  len : env.length = σ.length
  at_ : ∀ (i : Nat) (w : W), env[i]? = some (some w) → ∃ v, σ[i]? = some (some v) ∧ RpW R φ ex H v w
theorem EnvR.ext (E : Ext φ H φ' H') {env : Env} {σ : L2.St} (N : EnvR R φ ex H env σ) : EnvR R φ' ex H' env σ :=
  ⟨N.len, fun i w h => let ⟨v, e, r⟩ := N.at_ i w h; ⟨v, e, RpW.ext E _ _ r⟩⟩
theorem EnvR.set {env : Env} {σ : L2.St} (N : EnvR R φ ex H env σ) {i : Nat} {v : V} {w : W} (r : RpW R φ ex H v w) : EnvR R φ ex H (env.set i (some w)) (σ.set i (some v)) := by
  refine ⟨by simp [N.len], fun j u e => ?_⟩
  by_cases h : i = j
  · subst h
    rcases Nat.lt_or_ge i env.length with l | l
    · rw [List.getElem?_set_self l] at e
      cases e
      exact ⟨v, by rw [List.getElem?_set_self (by rw [← N.len]; exact l)], r⟩
    · rw [List.set_eq_of_length_le l] at e
      have := (List.getElem?_eq_some_iff.mp e).1
      omega
  · rw [List.getElem?_set_ne h] at e ⊢
    exact N.at_ j u e
theorem EnvR.get {env : Env} {σ : L2.St} (N : EnvR R φ ex H env σ) {i : Nat} {w : W} (h : Cc.get env i = some w) : ∃ v, σ[i]? = some (some v) ∧ RpW R φ ex H v w := by
  refine N.at_ i w ?_
  unfold Cc.get at h
  split at h
  · rename_i w' e; cases h; exact e
  · cases h
end
end Cc

set_option linter.all false
set_option maxRecDepth 100000
set_option maxHeartbeats 1000000
/-! Cc: readings by the interpreter; rules for expressions. -/
namespace Cc
open PySem PySem.Spec PyProof.Rows L2

def RunsTo {α : Type} (r : Res α) (ok : α → Store → Prop) (xc : Exn → Store → Prop) : Prop := match r with
  | .ok a s => ok a s
  | .exc x s => xc x s
  | .stuck => False
theorem RunsTo.imp {α : Type} {r : Res α} {ok ok' : α → Store → Prop} {xc xc' : Exn → Store → Prop} (h : RunsTo r ok xc) (h1 : ∀ a s, ok a s → ok' a s) (h2 : ∀ x s, xc x s → xc' x s) : RunsTo r ok' xc' := by
  cases r with
  | ok a s => exact h1 a s h
  | exc x s => exact h2 x s h
  | stuck => exact h
theorem RunsTo.of {α : Type} {o : Option α} {s : Store} {ok : α → Store → Prop} {xc : Exn → Store → Prop} (h : RunsTo (Res.of o s) ok xc) : ∃ a, o = some a ∧ ok a s := by
  cases o with
  | none => exact h.elim
  | some a => exact ⟨a, rfl, h⟩
/-- the attributes of an exception -/
inductive FsD (K : PySem.W.Frag) (φ : Ph) (ex : List Addr) (H : Hp) : List (Str × V) → List (Str × PyData) → Prop
  | nil : FsD K φ ex H [] []
  | cons {f : Str} {v : V} {w : PyData} {vs : List (Str × V)} {ws : List (Str × PyData)} : Rp K φ ex H v w → FsD K φ ex H vs ws → FsD K φ ex H ((f, v) :: vs) ((f, w) :: ws)
def ExnR (K : PySem.W.Frag) (φ : Ph) (ex : List Addr) (H : Hp) (od : Option Addr) (fs : List (Str × PyData)) : Prop := match od with
  | none => fs = []
  | some d => ∃ fv, H d = some (.xd fv) ∧ FsD K φ ex H fv fs
def ExcOk (R : Gt) (ex : List Addr) (E : XK) (φ : Ph) (H : Hp) : Exn → Store → Prop := fun x s' => ∀ φ' H' od, Ext φ H φ' H' → Sim R φ' ex H' s' → ExnR R.K φ' ex H' od x.fs → E (.ref (R.xa x.cls)) od H'
abbrev Kn (α : Type) := Ph → Hp → α → Store → Prop
def Mono {α : Type} (C : Kn α) : Prop := ∀ φ H φ' H' a s, Ext φ H φ' H' → C φ H a s → C φ' H' a s
def RetW (R : Gt) (ex : List Addr) (Q : VK) : Kn W := fun φ H w s' => ∀ v φ' H', Ext φ H φ' H' → Sim R φ' ex H' s' → RpW R φ' ex H' v w → Q v H'
def RetL (R : Gt) (ex : List Addr) (Q : List V → Hp → Prop) : Kn (List W) := fun φ H ws s' => ∀ vs φ' H', Ext φ H φ' H' → Sim R φ' ex H' s' → RpWL R φ' ex H' vs ws → Q vs H'
def RetT (R : Gt) (ex : List Addr) (Q : Bool → Hp → Prop) : Kn Bool := fun φ H b s' => ∀ φ' H', Ext φ H φ' H' → Sim R φ' ex H' s' → Q b H'
def RetO (R : Gt) (ex : List Addr) (Q : Option Int → Hp → Prop) : Kn (Option Int) := fun φ H b s' => ∀ φ' H', Ext φ H φ' H' → Sim R φ' ex H' s' → Q b H'
section
variable {R : Gt} {ex : List Addr} {E : XK}
theorem mono_W {Q : VK} : Mono (RetW R ex Q) := fun _ _ _ _ _ _ e h v φ2 H2 e2 => h v φ2 H2 (e.trans e2)
theorem mono_L {Q : List V → Hp → Prop} : Mono (RetL R ex Q) := fun _ _ _ _ _ _ e h v φ2 H2 e2 => h v φ2 H2 (e.trans e2)
theorem mono_T {Q : Bool → Hp → Prop} : Mono (RetT R ex Q) := fun _ _ _ _ _ _ e h φ2 H2 e2 => h φ2 H2 (e.trans e2)
theorem mono_O {Q : Option Int → Hp → Prop} : Mono (RetO R ex Q) := fun _ _ _ _ _ _ e h φ2 H2 e2 => h φ2 H2 (e.trans e2)
theorem excOk_mono {φ φ' : Ph} {H H' : Hp} {x : Exn} {s : Store} (e : Ext φ H φ' H') (h : ExcOk R ex E φ H x s) : ExcOk R ex E φ' H' x s := fun φ2 H2 od e2 => h φ2 H2 od (e.trans e2)
theorem RunsTo.grow {α : Type} {C : Kn α} (m : Mono C) {φ φ' : Ph} {H H' : Hp} {r : Res α} (e : Ext φ H φ' H') (h : RunsTo r (C φ H) (ExcOk R ex E φ H)) : RunsTo r (C φ' H') (ExcOk R ex E φ' H') :=
  h.imp (fun _ _ q => m _ _ _ _ _ _ e q) fun _ _ q => excOk_mono e q
end
/-! ### readings -/
def tD (R : Gt) (E : L2.St → XK) (e : Ex) : L2.TE := fun σ H Q => ∃ φ ex s env, Sim R φ ex H s ∧ EnvR R φ ex H env σ ∧ RunsTo (runE R.Φ R.M R.CI R.FO e env s) (RetW R ex Q φ H) (ExcOk R ex (E σ) φ H)
def tA (R : Gt) (E : L2.St → XK) (es : List Ex) : L2.TA := fun σ H Q => ∃ φ ex s env, Sim R φ ex H s ∧ EnvR R φ ex H env σ ∧ RunsTo (runEs R.Φ R.M R.CI R.FO es env s) (RetL R ex Q φ H) (ExcOk R ex (E σ) φ H)
def tT (R : Gt) (E : L2.St → XK) (e : Bx) : L2.TT := fun σ H Q => ∃ φ ex s env, Sim R φ ex H s ∧ EnvR R φ ex H env σ ∧ RunsTo (runT R.Φ R.M R.CI R.FO e env s) (RetT R ex Q φ H) (ExcOk R ex (E σ) φ H)
def tO (R : Gt) (E : L2.St → XK) (e : Option Ex) : L2.TO := fun σ H Q => ∃ φ ex s env, Sim R φ ex H s ∧ EnvR R φ ex H env σ ∧ RunsTo (runO R.Φ R.M R.CI R.FO e env s) (RetO R ex Q φ H) (ExcOk R ex (E σ) φ H)
section
variable {R : Gt} {ex : List Addr} {E : L2.St → XK} {φ : Ph} {H : Hp} {s : Store} {env : Env} {σ : L2.St}
theorem tD_mono {e : Ex} {Q Q' : VK} (h : tD R E e σ H Q) (hQ : ∀ v H', Q v H' → Q' v H') : tD R E e σ H Q' := by
  obtain ⟨φ, ex, s, env, S, N, h⟩ := h
  exact ⟨φ, ex, s, env, S, N, h.imp (fun _ _ q v φ' H' e S r => hQ _ _ (q v φ' H' e S r)) fun _ _ q => q⟩
theorem tA_mono {e : List Ex} {Q Q' : List V → Hp → Prop} (h : tA R E e σ H Q) (hQ : ∀ v H', Q v H' → Q' v H') : tA R E e σ H Q' := by
  obtain ⟨φ, ex, s, env, S, N, h⟩ := h
  exact ⟨φ, ex, s, env, S, N, h.imp (fun _ _ q v φ' H' e S r => hQ _ _ (q v φ' H' e S r)) fun _ _ q => q⟩
theorem tT_mono {e : Bx} {Q Q' : Bool → Hp → Prop} (h : tT R E e σ H Q) (hQ : ∀ v H', Q v H' → Q' v H') : tT R E e σ H Q' := by
  obtain ⟨φ, ex, s, env, S, N, h⟩ := h
  exact ⟨φ, ex, s, env, S, N, h.imp (fun _ _ q φ' H' e S => hQ _ _ (q φ' H' e S)) fun _ _ q => q⟩
theorem tO_mono {e : Option Ex} {Q Q' : Option Int → Hp → Prop} (h : tO R E e σ H Q) (hQ : ∀ v H', Q v H' → Q' v H') : tO R E e σ H Q' := by
  obtain ⟨φ, ex, s, env, S, N, h⟩ := h
  exact ⟨φ, ex, s, env, S, N, h.imp (fun _ _ q φ' H' e S => hQ _ _ (q φ' H' e S)) fun _ _ q => q⟩
/-- what stands behind a first part -/
def Beh {α β : Type} (R : Gt) (ex : List Addr) (E : XK) (env : Env) (σ : L2.St) (φ : Ph) (H : Hp) (C : Kn β) (f : α → Store → Res β) (rel : Ph → Hp → α → Prop) (H1 : Hp) : Prop :=
  ∃ φ1 s1 w, Sim R φ1 ex H1 s1 ∧ EnvR R φ1 ex H1 env σ ∧ Ext φ H φ1 H1 ∧ rel φ1 H1 w ∧ RunsTo (f w s1) (C φ1 H1) (ExcOk R ex E φ1 H1)
theorem tD_bind {β : Type} {C : Kn β} (m : Mono C) {e : Ex} {f : W → Store → Res β} (S : Sim R φ ex H s) (N : EnvR R φ ex H env σ)
    (h : RunsTo ((runE R.Φ R.M R.CI R.FO e env s).bind f) (C φ H) (ExcOk R ex (E σ) φ H)) : tD R E e σ H fun v H1 => Beh R ex (E σ) env σ φ H C f (fun φ1 H1 w => RpW R φ1 ex H1 v w) H1 := by
  refine ⟨φ, ex, s, env, S, N, ?_⟩
  cases r : runE R.Φ R.M R.CI R.FO e env s with
  | ok w s1 =>
    rw [r] at h
    exact fun v φ1 H1 e1 S1 q => ⟨φ1, s1, w, S1, N.ext e1, e1, q, h.grow m e1⟩
  | exc x s1 => rw [r] at h; exact h
  | stuck => rw [r] at h; exact h
theorem tA_bind {β : Type} {C : Kn β} (m : Mono C) {e : List Ex} {f : List W → Store → Res β} (S : Sim R φ ex H s) (N : EnvR R φ ex H env σ)
    (h : RunsTo ((runEs R.Φ R.M R.CI R.FO e env s).bind f) (C φ H) (ExcOk R ex (E σ) φ H)) : tA R E e σ H fun v H1 => Beh R ex (E σ) env σ φ H C f (fun φ1 H1 w => RpWL R φ1 ex H1 v w) H1 := by
  refine ⟨φ, ex, s, env, S, N, ?_⟩
  cases r : runEs R.Φ R.M R.CI R.FO e env s with
  | ok w s1 =>
    rw [r] at h
    exact fun v φ1 H1 e1 S1 q => ⟨φ1, s1, w, S1, N.ext e1, e1, q, h.grow m e1⟩
  | exc x s1 => rw [r] at h; exact h
  | stuck => rw [r] at h; exact h
theorem tT_bind {β : Type} {C : Kn β} (m : Mono C) {e : Bx} {f : Bool → Store → Res β} (S : Sim R φ ex H s) (N : EnvR R φ ex H env σ)
    (h : RunsTo ((runT R.Φ R.M R.CI R.FO e env s).bind f) (C φ H) (ExcOk R ex (E σ) φ H)) : tT R E e σ H fun v H1 => Beh R ex (E σ) env σ φ H C f (fun _ _ w => w = v) H1 := by
  refine ⟨φ, ex, s, env, S, N, ?_⟩
  cases r : runT R.Φ R.M R.CI R.FO e env s with
  | ok w s1 =>
    rw [r] at h
    exact fun φ1 H1 e1 S1 => ⟨φ1, s1, w, S1, N.ext e1, e1, rfl, h.grow m e1⟩
  | exc x s1 => rw [r] at h; exact h
  | stuck => rw [r] at h; exact h
theorem tO_bind {β : Type} {C : Kn β} (m : Mono C) {e : Option Ex} {f : Option Int → Store → Res β} (S : Sim R φ ex H s) (N : EnvR R φ ex H env σ)
    (h : RunsTo ((runO R.Φ R.M R.CI R.FO e env s).bind f) (C φ H) (ExcOk R ex (E σ) φ H)) : tO R E e σ H fun v H1 => Beh R ex (E σ) env σ φ H C f (fun _ _ w => w = v) H1 := by
  refine ⟨φ, ex, s, env, S, N, ?_⟩
  cases r : runO R.Φ R.M R.CI R.FO e env s with
  | ok w s1 =>
    rw [r] at h
    exact fun φ1 H1 e1 S1 => ⟨φ1, s1, w, S1, N.ext e1, e1, rfl, h.grow m e1⟩
  | exc x s1 => rw [r] at h; exact h
  | stuck => rw [r] at h; exact h
end
theorem peImp {X : Cx} {e : Expr} {t t' : L2.TE} (h : PE X e t) (i : ∀ σ H Q, t' σ H Q → t σ H Q) : PE X e t' := ⟨fun pins s σ H Q I q => h.run pins s σ H Q I (i σ H Q q)⟩
theorem ptImp {X : Cx} {e : Expr} {t t' : L2.TT} (h : PT X e t) (i : ∀ σ H Q, t' σ H Q → t σ H Q) : PT X e t' := ⟨fun pins s σ H Q I q => h.run pins s σ H Q I (i σ H Q q)⟩
theorem pwImp {X : Cx} {e : Expr} {t t' : L2.TT} (h : PW X e t) (i : ∀ σ H Q, t' σ H Q → t σ H Q) : PW X e t' := ⟨fun wh pins s σ H Q I q => h.run wh pins s σ H Q I (i σ H Q q)⟩
theorem paImp {X : Cx} {e : List Expr} {t t' : L2.TA} (h : PA X e t) (i : ∀ σ H Q, t' σ H Q → t σ H Q) : PA X e t' := ⟨fun pos pins s σ H Q I q => h.run pos pins s σ H Q I (i σ H Q q)⟩
theorem poImp {X : Cx} {e : Option Expr} {t t' : L2.TO} (h : PO X e t) (i : ∀ σ H Q, t' σ H Q → t σ H Q) : PO X e t' := ⟨fun pins s σ H Q I q => h.run pins s σ H Q I (i σ H Q q)⟩
theorem opImp {X : Cx} {f : Value → Value → Sem Value} {r r' : R2} (h : OpR X f r) (i : ∀ x y H Q, r' x y H Q → r x y H Q) : OpR X f r' := fun pins s σ H x y v u Q I rx ry q => h pins s σ H x y v u Q I rx ry (i x y H Q q)

/-! ### a value read as data -/
def Tp (K : PySem.W.Frag) (φ : Ph) (ex : List Addr) (H : Hp) (x : V) (d : PyData) : Prop := Rp K φ ex H x d ∨ ∃ a vs ds, x = .ref a ∧ d = .list ds ∧ H a = some (.lst vs) ∧ RpL K φ ex H vs ds
section
variable {R : Gt} {ex : List Addr} {φ : Ph} {H : Hp} {s : Store} {env : Env} {σ : L2.St} {x y : V}
theorem Sim.top (S : Sim R φ ex H s) {w : W} {d : PyData} (r : RpW R φ ex H x w) (h : top s w = some d) : Tp R.K φ ex H x d := by
  cases w with
  | d x => cases h; cases r with | d r => exact .inl r
  | ref n =>
    simp only [Cc.top] at h
    cases e : s[n]? with
    | none => rw [e] at h; cases h
    | some c =>
      rw [e] at h
      cases c with
      | lst xs =>
        cases h
        obtain ⟨a, vs, q1, _, q2, q3⟩ := S.lst e r
        exact .inr ⟨a, vs, xs, q1, rfl, q2, q3⟩
      | wl ws => cases h
      | ins c fs => cases h
      | dead => cases h
  | tup ws => simp [Cc.top] at h
  | fn i => simp [Cc.top] at h
variable {K : PySem.W.Frag}
theorem Tp.int {i : Int} (h : Tp K φ ex H x (.int i)) : x = .int i := by
  rcases h with h | ⟨_, _, _, _, h, _⟩
  · cases h; rfl
  · cases h
theorem Tp.str {i : Str} (h : Tp K φ ex H x (.str i)) : x = .str i := by
  rcases h with h | ⟨_, _, _, _, h, _⟩
  · cases h; rfl
  · cases h
theorem Tp.bl {i : Bool} (h : Tp K φ ex H x (.bool i)) : x = .bl i := by
  rcases h with h | ⟨_, _, _, _, h, _⟩
  · cases h; rfl
  · cases h
theorem Tp.non (h : Tp K φ ex H x .none) : x = .non := by
  rcases h with h | ⟨_, _, _, _, h, _⟩
  · cases h; rfl
  · cases h
theorem Tp.tup {ds : List PyData} (h : Tp K φ ex H x (.tuple ds)) : ∃ a vs, x = .ref a ∧ SqT K H a vs ∧ RpL K φ ex H vs ds := by
  rcases h with h | ⟨_, _, _, _, h, _⟩
  · cases h with
    | tup h r => exact ⟨_, _, rfl, h.elim (fun q => .inl q.1) .inr, r⟩
  · cases h
theorem Tp.lst {ds : List PyData} (h : Tp K φ ex H x (.list ds)) : ∃ a vs, x = .ref a ∧ Rd H a (.lst vs) ∧ RpL K φ ex H vs ds := by
  rcases h with h | ⟨_, _, _, e, h, q, r⟩
  · cases h with
    | lst h n r => exact ⟨_, _, rfl, h, r⟩
  · cases h; exact ⟨_, _, e, .of q, r⟩
theorem Tp.dp {d : PyData} (h : Tp K φ ex H x d) : Dp K H x d := by
  rcases h with h | ⟨a, vs, ds, rfl, rfl, q, r⟩
  · exact h.dp
  · exact .lst (.of q) r.dp
theorem Tp.dict {kvs : List (PyData × PyData)} (h : Tp K φ ex H x (.dict kvs)) : False := by
  rcases h with h | ⟨_, _, _, _, h, _⟩
  · cases h
  · cases h
/-- a new tuple, a new list of data -/
theorem Sim.newTup (S : Sim R φ ex H s) {vs : List V} {ds : List PyData} (r : RpL R.K φ ex H vs ds) {p : Addr} (hp : H p = none) :
    Ext φ H φ (upd H p (.tup vs)) ∧ Sim R φ ex (upd H p (.tup vs)) s ∧ Rp R.K φ ex (upd H p (.tup vs)) (.ref p) (.tuple ds) := by
  obtain ⟨e, S'⟩ := S.new (o := .tup vs) hp
  exact ⟨e, S', .tup (.inl ⟨.inl upd_same, S.fresh hp⟩) (RpL.ext e _ _ r)⟩
theorem Sim.newLst (S : Sim R φ ex H s) {vs : List V} {ds : List PyData} (r : RpL R.K φ ex H vs ds) {p : Addr} (hp : H p = none) :
    Ext φ H φ (upd H p (.lst vs)) ∧ Sim R φ ex (upd H p (.lst vs)) s ∧ Rp R.K φ ex (upd H p (.lst vs)) (.ref p) (.list ds) := by
  obtain ⟨e, S'⟩ := S.new (o := .lst vs) hp
  exact ⟨e, S', .lst (.inl upd_same) (S.fresh hp) (RpL.ext e _ _ r)⟩
end
/-- an operation on data, by values -/
def Ret (R : Gt) (φ : Ph) (ex : List Addr) (H : Hp) (s : Store) (z : PyData) (Q : VK) : Prop := ∀ v H', Ext φ H φ H' → Sim R φ ex H' s → Rp R.K φ ex H' v z → Q v H'
def rD2 (R : Gt) (f : PyData → PyData → Option PyData) : R2 := fun x y H Q => ∃ φ ex s dx dy z, Sim R φ ex H s ∧ Tp R.K φ ex H x dx ∧ Tp R.K φ ex H y dy ∧ f dx dy = some z ∧ Ret R φ ex H s z Q
section
variable {R : Gt} {ex : List Addr} {φ : Ph} {H : Hp} {s : Store} {Q : VK}
theorem Ret.here {z : PyData} {v : V} (h : Ret R φ ex H s z Q) (S : Sim R φ ex H s) (r : Rp R.K φ ex H v z) : Q v H := h v H (Ext.refl _ _) S r
theorem Ret.tup {vs : List V} {ds : List PyData} {p : Addr} (h : Ret R φ ex H s (.tuple ds) Q) (S : Sim R φ ex H s) (r : RpL R.K φ ex H vs ds) (hp : H p = none) : Q (.ref p) (upd H p (.tup vs)) :=
  let ⟨e, S', q⟩ := S.newTup r hp
  h _ _ e S' q
theorem Ret.lst {vs : List V} {ds : List PyData} {p : Addr} (h : Ret R φ ex H s (.list ds) Q) (S : Sim R φ ex H s) (r : RpL R.K φ ex H vs ds) (hp : H p = none) : Q (.ref p) (upd H p (.lst vs)) :=
  let ⟨e, S', q⟩ := S.newLst r hp
  h _ _ e S' q
end
/-! ### a tuple repeated -/
theorem tuple_mul_one (l : Addr) (items : Array Value) (n : Nat) (dd : Option Addr) (sl : Array (Option Value)) (x : Int) (u : Tok) (c0 : (decide (x < -(2 ^ 63)) || decide (x ≥ 2 ^ 63)) = false) (c1 : (items.isEmpty || x == 1) = true) :
    Meets (Builtin.«tuple.__mul__» ⟨[.ref l, .int x u], []⟩) (fun _ R s => s.heap.get? l = some { cls := .type "tuple", dict := dd, data := .seq items n, slots := sl } ∧ R (.ok (.ret (Value.ref l))) s) :=
  .of_wp fun prog w A R s h => by
    obtain ⟨hp, g, d, tk, os⟩ := s
    obtain ⟨hl, h⟩ := h
    have f1 := AutoSeq1.idx_int
    wp_walk using wpAny_loadPart' hl
    repeat (first
      | (refine wpAny_ite_false (decide_eq_false (by rw [c0]; exact Bool.false_ne_true)) ?_; wp_walk using wpAny_loadPart' hl)
      | (refine wpAny_ite_true (decide_eq_true (by rw [c1])) ?_; wp_walk using wpAny_loadPart' hl))
    exact ⟨_, rfl, h⟩
theorem tuple_mul_zero (l : Addr) (items : Array Value) (n : Nat) (dd : Option Addr) (sl : Array (Option Value)) (x : Int) (u : Tok) (c0 : (decide (x < -(2 ^ 63)) || decide (x ≥ 2 ^ 63)) = false) (c1 : (items.isEmpty || x == 1) = false) (c2 : (decide (x ≤ 0) || items.isEmpty) = true) :
    Meets (Builtin.«tuple.__mul__» ⟨[.ref l, .int x u], []⟩) (fun _ R s => s.heap.get? l = some { cls := .type "tuple", dict := dd, data := .seq items n, slots := sl } ∧
      R (.ok (.ret (Value.ref s.heap.objs.size))) { s with heap := s.heap.push { cls := Value.type "tuple", data := Data.seq #[] }, toks := s.toks }) :=
  .of_wp fun prog w A R s h => by
    obtain ⟨hp, g, d, tk, os⟩ := s
    obtain ⟨hl, h⟩ := h
    have f1 := AutoSeq1.idx_int
    wp_walk using wpAny_loadPart' hl
    repeat (first
      | (refine wpAny_ite_false (decide_eq_false (by rw [c0]; exact Bool.false_ne_true)) ?_; wp_walk using wpAny_loadPart' hl)
      | (refine wpAny_ite_false (decide_eq_false (by rw [c1]; exact Bool.false_ne_true)) ?_; wp_walk using wpAny_loadPart' hl)
      | (refine wpAny_ite_true (decide_eq_true (by rw [c2])) ?_; wp_walk using wpAny_loadPart' hl))
    exact ⟨_, rfl, h⟩
/-- (a, ..) * 1 is the tuple itself, (a, ..) * 0 a new empty one -/
def rRep01 (K : PySem.W.Frag) : R2 := fun x y H Q => ∃ l k xs, x = .ref l ∧ y = .int k ∧ SqT K H l xs ∧ ((k = 1 ∧ Q (.ref l) H) ∨ (k = 0 ∧ xs ≠ [] ∧ ∀ p, H p = none → Q (.ref p) (upd H p (.tup []))))
theorem op_rep01 {X : Cx} : OpR X (binaryOp .Mult) (rRep01 X.K) := by
  intro pins s σ H x y v u Q I rx ry h
  obtain ⟨l, k, xs, rfl, rfl, hT, q⟩ := h
  cases rx
  obtain ⟨t, rfl⟩ := ry
  obtain ⟨its, r, ⟨⟨cls, dd, data, sl⟩, ho, hc, n, hd⟩, hs⟩ := I.tuple hT
  simp only at hc hd
  subst hc hd
  rcases q with ⟨rfl, q⟩ | ⟨rfl, hne, q⟩
  · refine wpAny_binaryOp_repeat_ref (T := "tuple") (U := "int") (by decide) ⟨_, ho, rfl⟩ (fun s' => typeIs_int s' 1 t) noFill_tuple_mul F.fills_int_mul F.slot_int_rmul repeat_tuple F.slot_int_index.lookup
      (call_meets F.slot_int_rmul (typeIs_int s 1 t) F.entry_int_rmul (F.args_int_rmul_2 _ _) (int_rmul_tuple 1 t l its.toArray n dd sl)
        ⟨ho, rfl, ⟨_, ho, rfl⟩, call_meets F.slot_tuple_mul ⟨_, ho, rfl⟩ F.entry_tuple_mul (F.args_tuple_mul_2 _ _) (tuple_mul_one l its.toArray n dd sl 1 t (by decide) (by simp)) ⟨ho, ?_⟩⟩)
    exact ⟨.ref l, H, I, rfl, q⟩
  · have hle : its.length = xs.length := r.length.symm
    have hi : its.toArray.isEmpty = false := by
      cases its with
      | nil => exact absurd (List.eq_nil_of_length_eq_zero hle.symm) hne
      | cons a b => rfl
    refine wpAny_binaryOp_repeat_ref (T := "tuple") (U := "int") (by decide) ⟨_, ho, rfl⟩ (fun s' => typeIs_int s' 0 t) noFill_tuple_mul F.fills_int_mul F.slot_int_rmul repeat_tuple F.slot_int_index.lookup
      (call_meets F.slot_int_rmul (typeIs_int s 0 t) F.entry_int_rmul (F.args_int_rmul_2 _ _) (int_rmul_tuple 0 t l its.toArray n dd sl)
        ⟨ho, rfl, ⟨_, ho, rfl⟩, call_meets F.slot_tuple_mul ⟨_, ho, rfl⟩ F.entry_tuple_mul (F.args_tuple_mul_2 _ _) (tuple_mul_zero l its.toArray n dd sl 0 t (by decide) (by rw [hi]; rfl) (by simp)) ⟨ho, ?_⟩⟩)
    refine ⟨.ref s.heap.objs.size, _, I.laid (t' := s.toks) (o := .tup []) (fun b ob q => Heap.get?_push_of_some _ q) (Nat.le_refl _) ?_, rfl, q _ (I.hok.fresh (Nat.le_refl _))⟩
    exact ⟨by simp, [], .nil, IsTup.new _ _⟩
/-! ### operators -/
theorem rd_lst {X : Cx} {pins : List (Addr × Obj)} {σ : L2.St} {H : Hp} {s : Shared} {a : Addr} {xs : List V} (I : Inv X pins σ H s) (h : Rd H a (.lst xs)) :
    xs.length ≤ sizeLine ∧ ∃ (its : List Value) (n : Nat), Vals xs its ∧ s.heap.get? a = some { cls := .type "list", data := .seq its.toArray n } := by
  obtain ⟨z, its, n, r, e⟩ := h.ok I.hok
  exact ⟨z, its, n, r, e⟩
section
variable {X : Cx} {R : Gt}
/-- two lists that are read, one behind the other, as a new one -/
theorem op_catL : OpR X (binaryOp .Add) (fun x y H Q => ∃ l b xs zs, x = .ref l ∧ y = .ref b ∧ Rd H l (.lst xs) ∧ Rd H b (.lst zs) ∧ xs.length + zs.length ≤ sizeLine ∧ ∀ p, H p = none → Q (.ref p) (upd H p (.lst (xs ++ zs)))) := by
  rintro pins s σ H x y v u Q I rx ry ⟨l, b, xs, zs, rfl, rfl, hl, hb, hz, q⟩
  cases rx
  cases ry
  obtain ⟨z, its, n, r, e⟩ := rd_lst I hl
  obtain ⟨z2, its2, n2, r2, e2⟩ := rd_lst I hb
  have l1 := r.length
  have l2 := r2.length
  refine PySem.P.add_list e e2 ?_ (by rw [List.size_toArray, List.size_toArray]; omega)
  have ea : its.toArray ++ its2.toArray = (its ++ its2).toArray := by simp
  rw [ea]
  exact ⟨.ref _, _, I.lnew (t' := s.toks) (r.append r2) (by rw [List.length_append]; omega), rfl, q _ I.fresh⟩
theorem o_add (hK : X.K = R.K) : OpR X (binaryOp .Add) (rD2 R (bopD .add)) := by
  rintro pins s σ H x y v u Q I rx ry ⟨φ, ex, st, dx, dy, z, S, tx, ty, hz, hQ⟩
  cases dx <;> cases dy <;> simp only [bopD] at hz <;> try (cases hz; done)
  case int.int i j =>
    cases hz
    exact op_add pins s σ H x y v u Q I rx ry ⟨i, j, tx.int, ty.int, hQ.here S (.int _)⟩
  case str.str i j =>
    split at hz
    · cases hz
      exact op_add_str pins s σ H x y v u Q I rx ry ⟨i, j, tx.str, ty.str, by assumption, hQ.here S (.str _)⟩
    · cases hz
  case list.list xs ys =>
    split at hz
    · rename_i hl
      cases hz
      obtain ⟨a, vs, e, h, r⟩ := tx.lst
      obtain ⟨b, us, e2, h2, r2⟩ := ty.lst
      refine op_catL pins s σ H x y v u Q I rx ry ⟨a, b, vs, us, e, e2, h, h2, by rw [r.length, r2.length]; exact hl, fun p hp => ?_⟩
      exact hQ.lst S (r.append r2) hp
    · cases hz
  case tuple.tuple xs ys =>
    split at hz
    · rename_i hl
      cases hz
      obtain ⟨a, vs, e, h, r⟩ := tx.tup
      obtain ⟨b, us, e2, h2, r2⟩ := ty.tup
      rw [← hK] at h h2
      refine op_catA pins s σ H x y v u Q I rx ry ⟨a, b, vs, us, e, e2, h, h2, by rw [r.length, r2.length]; exact hl, fun e3 => ?_, fun e3 e4 => ?_, fun e3 e4 p hp => ?_⟩
      · subst e3
        cases r
        subst e2
        rcases ty with t | ⟨_, _, _, _, t, _⟩
        · exact hQ.here S t
        · cases t
      · subst e4
        cases r2
        subst e
        rcases tx with t | ⟨_, _, _, _, t, _⟩
        · rw [List.append_nil] at hQ; exact hQ.here S t
        · cases t
      · exact hQ.tup S (r.append r2) hp
    · cases hz
theorem intOp {op : Operator} {o : Bop} {C : Int → Int → Prop} {g : Int → Int → Int} (ho : OpR X (binaryOp op) (rI C fun i j => .int (g i j)))
    (h : ∀ dx dy z, bopD o dx dy = some z → ∃ i j, dx = .int i ∧ dy = .int j ∧ C i j ∧ z = .int (g i j)) : OpR X (binaryOp op) (rD2 R (bopD o)) := by
  rintro pins s σ H x y v u Q I rx ry ⟨φ, ex, st, dx, dy, z, S, tx, ty, hz, hQ⟩
  obtain ⟨i, j, rfl, rfl, c, rfl⟩ := h _ _ _ hz
  exact ho pins s σ H x y v u Q I rx ry ⟨i, j, tx.int, ty.int, c, hQ.here S (.int _)⟩
theorem o_sub : OpR X (binaryOp .Sub) (rD2 R (bopD .sub)) := intOp (C := fun _ _ => True) (opImp op_sub fun x y H Q ⟨i, j, a, b, _, q⟩ => ⟨i, j, a, b, q⟩) fun dx dy z h => by
  cases dx <;> cases dy <;> simp only [bopD] at h <;> first | (cases h; done) | (cases h; exact ⟨_, _, rfl, rfl, trivial, rfl⟩)
theorem o_mul (hK : X.K = R.K) : OpR X (binaryOp .Mult) (rD2 R (bopD .mul)) := by
  rintro pins s σ H x y v u Q I rx ry ⟨φ, ex, st, dx, dy, z, S, tx, ty, hz, hQ⟩
  cases dx <;> cases dy <;> simp only [bopD] at hz <;> try (cases hz; done)
  · rename_i i j
    split at hz
    · rename_i k
      cases hz
      refine op_mul pins s σ H x y v u Q I rx ry ⟨_, _, tx.int, ty.int, ?_, hQ.here S (.int _)⟩
      exact (Bool.or_eq_true_iff.mp k).imp mulB_iff mulB_iff
    · cases hz
  · rename_i z0 j
    have e1 := tx.str
    have e2 := ty.int
    subst e1 e2
    obtain ⟨t, rfl⟩ := rx
    obtain ⟨t2, rfl⟩ := ry
    split at hz
    · rename_i hj
      subst hj
      cases hz
      refine P.mul_str (by decide) (fun _ z => by simp at z) (fun _ z => by simp at z) ?_
      rw [if_neg (by decide), if_pos (by rfl)]
      exact ⟨.str z0, H, I, ⟨_, rfl⟩, hQ.here S (.str _)⟩
    · split at hz
      · rename_i hj
        subst hj
        cases hz
        refine P.mul_str_none (by decide) (by decide) ?_
        exact ⟨.str ⟨#[]⟩, H, I.kept (t' := s.toks + 1) fun _ _ e => e, ⟨_, rfl⟩, hQ.here S (.str _)⟩
      · cases hz
  · rename_i xs j
    obtain ⟨a, vs, rfl, hT, r⟩ := tx.tup
    have hy := ty.int
    split at hz
    · rename_i hj
      subst hj
      cases hz
      refine op_rep01 pins s σ H _ y v u Q I rx ry ⟨a, 1, vs, rfl, hy, by rw [hK]; exact hT, .inl ⟨rfl, hQ.here S ?_⟩⟩
      rcases tx with h | ⟨_, _, _, _, h, _⟩
      · exact h
      · cases h
    · split at hz
      · rename_i hj
        cases hz
        obtain ⟨rfl, hne⟩ := hj
        refine op_rep01 pins s σ H _ y v u Q I rx ry ⟨a, 0, vs, rfl, hy, by rw [hK]; exact hT, .inr ⟨rfl, fun e => ?_, fun p hp => hQ.tup S .nil hp⟩⟩
        subst e
        have := r.length
        cases xs with
        | nil => cases hne
        | cons x xs => simp at this
      · cases hz
theorem o_fdiv : OpR X (binaryOp .FloorDiv) (rD2 R (bopD .fdiv)) := intOp op_fdivW fun dx dy z h => by
  cases dx <;> cases dy <;> simp only [bopD] at h <;> try (cases h; done)
  split at h
  · rename_i k
    cases h
    exact ⟨_, _, rfl, rfl, k, rfl⟩
  · cases h
theorem o_mod : OpR X (binaryOp .Mod) (rD2 R (bopD .mod)) := intOp op_mod fun dx dy z h => by
  cases dx <;> cases dy <;> simp only [bopD] at h <;> try (cases h; done)
  split at h
  · rename_i k
    cases h
    exact ⟨_, _, rfl, rfl, k, rfl⟩
  · cases h
theorem o_pow : OpR X (binaryOp .Pow) (rD2 R (bopD .pow)) := intOp op_pow fun dx dy z h => by
  cases dx <;> cases dy <;> simp only [bopD] at h <;> try (cases h; done)
  split at h
  · rename_i k
    cases h
    exact ⟨_, _, rfl, rfl, k, rfl⟩
  · cases h
theorem o_band : OpR X (binaryOp .BitAnd) (rD2 R (bopD .band)) := intOp (C := fun _ _ => True) (opImp op_and fun x y H Q ⟨i, j, a, b, _, q⟩ => ⟨i, j, a, b, q⟩) fun dx dy z h => by
  cases dx <;> cases dy <;> simp only [bopD] at h <;> first | (cases h; done) | (cases h; exact ⟨_, _, rfl, rfl, trivial, rfl⟩)
theorem o_bor : OpR X (binaryOp .BitOr) (rD2 R (bopD .bor)) := intOp (C := fun _ _ => True) (opImp op_or fun x y H Q ⟨i, j, a, b, _, q⟩ => ⟨i, j, a, b, q⟩) fun dx dy z h => by
  cases dx <;> cases dy <;> simp only [bopD] at h <;> first | (cases h; done) | (cases h; exact ⟨_, _, rfl, rfl, trivial, rfl⟩)
theorem o_bin (hK : X.K = R.K) {op : Operator} {o : Bop} (h : bopOf op = some o) : OpR X (binaryOp op) (rD2 R (bopD o)) := by
  cases op <;> simp only [bopOf] at h <;> first | (cases h; done) | (cases h)
  · exact o_add hK
  · exact o_sub
  · exact o_mul hK
  · exact o_mod
  · exact o_pow
  · exact o_bor
  · exact o_band
  · exact o_fdiv
/-! ### comparisons -/
theorem reads_of {pins : List (Addr × Obj)} {σ : L2.St} {H : Hp} {s : Shared} {φ : Ph} {ex : List Addr} {x : V} {u : Value} {d : PyData} (hK : X.K = R.K) (I : Inv X pins σ H s) (t : Tp R.K φ ex H x d) (r : RelV x u) : ∃ as, Reads s.heap u d as := by
  have := t.dp
  rw [← hK] at this
  exact Dp.reads I d x u this r
def rC2 (R : Gt) (f : W → W → Store → Option Bool) : R2 := fun x y H Q => ∃ φ ex s wx wy k, Sim R φ ex H s ∧ RpW R φ ex H x wx ∧ RpW R φ ex H y wy ∧ f wx wy s = some k ∧ Q (.bl k) H
theorem scP_scal {φ : Ph} {ex : List Addr} {H : Hp} {x y : V} {dx dy : PyData} (tx : Tp R.K φ ex H x dx) (ty : Tp R.K φ ex H y dy) (h : scP dx dy = true) : scal x y = true ∧ decide (x = y) = PyData.eqv dx dy := by
  cases dx <;> cases dy <;> simp only [scP] at h <;> first | (cases h; done) | skip
  all_goals first
    | (rw [tx.non, ty.non]; exact ⟨rfl, rfl⟩)
    | (rw [tx.non, ty.bl]; exact ⟨rfl, rfl⟩)
    | (rw [tx.non, ty.int]; exact ⟨rfl, rfl⟩)
    | (rw [tx.non, ty.str]; exact ⟨rfl, rfl⟩)
    | (rw [tx.bl, ty.non]; exact ⟨rfl, rfl⟩)
    | (rw [tx.bl, ty.bl]; exact ⟨rfl, dec_bl⟩)
    | (rw [tx.bl, ty.str]; exact ⟨rfl, rfl⟩)
    | (rw [tx.int, ty.non]; exact ⟨rfl, rfl⟩)
    | (rw [tx.int, ty.int]; exact ⟨rfl, dec_int⟩)
    | (rw [tx.int, ty.str]; exact ⟨rfl, rfl⟩)
    | (rw [tx.str, ty.non]; exact ⟨rfl, rfl⟩)
    | (rw [tx.str, ty.bl]; exact ⟨rfl, rfl⟩)
    | (rw [tx.str, ty.int]; exact ⟨rfl, rfl⟩)
    | (rw [tx.str, ty.str]; exact ⟨rfl, dec_str⟩)
theorem top2 {s : Store} {wx wy : W} {f : PyData → PyData → Option Bool} {k : Bool} (h : (do f (← top s wx) (← top s wy)) = some k) : ∃ dx dy, top s wx = some dx ∧ top s wy = some dy ∧ f dx dy = some k := by
  cases h1 : top s wx with
  | none => rw [h1] at h; cases h
  | some dx =>
    cases h2 : top s wy with
    | none => rw [h1, h2] at h; cases h
    | some dy => rw [h1, h2] at h; exact ⟨dx, dy, rfl, rfl, h⟩
theorem eq_room {A : Around} {da db : PyData} (h : SeqAt.shaped da = true) (hu : A.units + 64 < cLine) : A.units + min da.depth db.depth < cLine := by
  have := SeqAt.depth_of_shaped h
  have : min da.depth db.depth ≤ da.depth := Nat.min_le_left _ _
  omega
theorem o_eq (hK : X.K = R.K) (hu : X.A.units + 64 < cLine) : OpR X (compareOp .Eq) (rC2 R fun x y s => cmpW .eq s x y) := by
  rintro pins s σ H x y v u Q I rx ry ⟨φ, ex, st, wx, wy, k, S, qx, qy, hk, hQ⟩
  obtain ⟨dx, dy, t1, t2, e⟩ := top2 hk
  have tx := S.top qx t1
  have ty := S.top qy t2
  simp only [cmpD, eqD] at e
  split at e
  · rename_i h
    obtain ⟨h1, h2⟩ := scP_scal tx ty h
    cases e
    exact op_eq pins s σ H x y v u Q I rx ry ⟨h1, by rw [h2]; exact hQ⟩
  · split at e
    · rename_i h
      cases e
      rw [Bool.and_eq_true] at h
      obtain ⟨as, r1⟩ := reads_of hK I tx rx
      obtain ⟨bs, r2⟩ := reads_of hK I ty ry
      exact SeqAt.compareEq_reads r1 r2 (SeqAt.canLay_of_shaped h.1) h.2 (eq_room h.1 hu) ⟨.bl _, H, I, rfl, hQ⟩
    · cases e
theorem o_ne (hK : X.K = R.K) (hu : X.A.units + 64 < cLine) : OpR X (compareOp .NotEq) (rC2 R fun x y s => cmpW .ne s x y) := by
  rintro pins s σ H x y v u Q I rx ry ⟨φ, ex, st, wx, wy, k, S, qx, qy, hk, hQ⟩
  obtain ⟨dx, dy, t1, t2, e⟩ := top2 hk
  have tx := S.top qx t1
  have ty := S.top qy t2
  simp only [cmpD, eqD] at e
  split at e
  · rename_i h
    obtain ⟨h1, h2⟩ := scP_scal tx ty h
    cases e
    exact op_ne pins s σ H x y v u Q I rx ry ⟨h1, by rw [h2]; exact hQ⟩
  · split at e
    · rename_i h
      cases e
      rw [Bool.and_eq_true] at h
      obtain ⟨as, r1⟩ := reads_of hK I tx rx
      obtain ⟨bs, r2⟩ := reads_of hK I ty ry
      exact SeqAt.compareNe_reads r1 r2 (SeqAt.canLay_of_shaped h.1) h.2 (eq_room h.1 hu) ⟨.bl _, H, I, rfl, hQ⟩
    · cases e
theorem cmpInt {op : CmpOp} {o : Cop} {g : Int → Int → Bool} (ho : OpR X (compareOp op) (rI0 fun i j => .bl (g i j))) (ne : o ≠ .is_ ∧ o ≠ .isnot)
    (h : ∀ dx dy k, cmpD o dx dy = some k → ∃ i j, dx = .int i ∧ dy = .int j ∧ k = g i j) : OpR X (compareOp op) (rC2 R fun x y s => cmpW o s x y) := by
  rintro pins s σ H x y v u Q I rx ry ⟨φ, ex, st, wx, wy, k, S, qx, qy, hk, hQ⟩
  have hk' : (do cmpD o (← top st wx) (← top st wy)) = some k := by
    cases o <;> first | exact hk | exact absurd rfl ne.1 | exact absurd rfl ne.2
  obtain ⟨dx, dy, t1, t2, e⟩ := top2 hk'
  obtain ⟨i, j, rfl, rfl, rfl⟩ := h _ _ _ e
  exact ho pins s σ H x y v u Q I rx ry ⟨i, j, (S.top qx t1).int, (S.top qy t2).int, hQ⟩
theorem o_lt : OpR X (compareOp .Lt) (rC2 R fun x y s => cmpW .lt s x y) := cmpInt op_lt (by decide) fun dx dy k h => by
  cases dx <;> cases dy <;> simp only [cmpD] at h <;> first | (cases h; done) | (cases h; exact ⟨_, _, rfl, rfl, rfl⟩)
theorem o_le : OpR X (compareOp .LtE) (rC2 R fun x y s => cmpW .le s x y) := cmpInt op_le (by decide) fun dx dy k h => by
  cases dx <;> cases dy <;> simp only [cmpD] at h <;> first | (cases h; done) | (cases h; exact ⟨_, _, rfl, rfl, rfl⟩)
theorem o_gt : OpR X (compareOp .Gt) (rC2 R fun x y s => cmpW .gt s x y) := cmpInt op_gt (by decide) fun dx dy k h => by
  cases dx <;> cases dy <;> simp only [cmpD] at h <;> first | (cases h; done) | (cases h; exact ⟨_, _, rfl, rfl, rfl⟩)
theorem o_ge : OpR X (compareOp .GtE) (rC2 R fun x y s => cmpW .ge s x y) := cmpInt op_ge (by decide) fun dx dy k h => by
  cases dx <;> cases dy <;> simp only [cmpD] at h <;> first | (cases h; done) | (cases h; exact ⟨_, _, rfl, rfl, rfl⟩)
theorem in_room {A : Around} {da : PyData} {n : Nat} (h : SeqAt.shaped da = true) (hu : A.units + 65 < cLine) : A.units + 1 + min n da.depth < cLine := by
  have := SeqAt.depth_of_shaped h
  have : min n da.depth ≤ da.depth := Nat.min_le_right _ _
  omega
theorem in_run (hK : X.K = R.K) (hu : X.A.units + 65 < cLine) {pins : List (Addr × Obj)} {σ : L2.St} {H : Hp} {s : Shared} {φ : Ph} {ex : List Addr} {x y : V} {v u : Value} {dx dy : PyData} {k : Bool} (I : Inv X pins σ H s)
    (tx : Tp R.K φ ex H x dx) (ty : Tp R.K φ ex H y dy) (rx : RelV x v) (ry : RelV y u) (e : inD dx dy = some k) {E : Value → Shared → Prop} :
    (∀ (Q : Value → Shared → Prop), Q (.bool k) s → wpAny (model X.prog X.w) X.A (compareOp .In v u) Q E s) ∧ ∀ (Q : Value → Shared → Prop), Q (.bool (!k)) s → wpAny (model X.prog X.w) X.A (compareOp .NotIn v u) Q E s := by
  obtain ⟨bs, r2⟩ := reads_of hK I ty ry
  unfold inD at e
  split at e
  · split at e
    · rename_i h
      cases e
      rw [Bool.and_eq_true] at h
      obtain ⟨as, r1⟩ := reads_of hK I tx rx
      exact ⟨fun Q q => SeqAt.in_list_reads r2 r1 h.2 (SeqAt.canLay_of_shaped h.1) (in_room h.1 hu) q, fun Q q => SeqAt.notIn_list_reads r2 r1 h.2 (SeqAt.canLay_of_shaped h.1) (in_room h.1 hu) q⟩
    · cases e
  · split at e
    · rename_i h
      cases e
      rw [Bool.and_eq_true] at h
      obtain ⟨as, r1⟩ := reads_of hK I tx rx
      exact ⟨fun Q q => SeqAt.in_tuple_reads r2 r1 h.2 (SeqAt.canLay_of_shaped h.1) (in_room h.1 hu) q, fun Q q => SeqAt.notIn_tuple_reads r2 r1 h.2 (SeqAt.canLay_of_shaped h.1) (in_room h.1 hu) q⟩
    · cases e
  · rename_i z
    split at e
    · rename_i a
      split at e
      · rename_i c hc
        cases e
        have hx := tx.str
        have ha : a = #[c] := by
          apply Array.toList_inj.mp
          exact hc
        subst ha
        have hy := ty.str
        subst hx hy
        obtain ⟨t, rfl⟩ := rx
        obtain ⟨t', rfl⟩ := ry
        refine ⟨fun Q q => PyProof.Rows.in_str ?_, fun Q q => PyProof.Rows.notIn_str ?_⟩
        · rw [PySem.StrLaws.found_one]; exact q
        · rw [PySem.StrLaws.found_one]; exact q
      · cases e
    · cases e
  · cases e
theorem o_in (hK : X.K = R.K) (hu : X.A.units + 65 < cLine) : OpR X (compareOp .In) (rC2 R fun x y s => cmpW .isin s x y) := by
  rintro pins s σ H x y v u Q I rx ry ⟨φ, ex, st, wx, wy, k, S, qx, qy, hk, hQ⟩
  obtain ⟨dx, dy, t1, t2, e⟩ := top2 hk
  exact (in_run hK hu I (S.top qx t1) (S.top qy t2) rx ry e).1 _ ⟨.bl _, H, I, rfl, hQ⟩
theorem o_notin (hK : X.K = R.K) (hu : X.A.units + 65 < cLine) : OpR X (compareOp .NotIn) (rC2 R fun x y s => cmpW .notin s x y) := by
  rintro pins s σ H x y v u Q I rx ry ⟨φ, ex, st, wx, wy, k, S, qx, qy, hk, hQ⟩
  obtain ⟨dx, dy, t1, t2, e⟩ := top2 hk
  simp only [cmpD] at e
  cases e2 : inD dx dy with
  | none => rw [e2] at e; cases e
  | some b =>
    rw [e2] at e
    cases e
    exact (in_run hK hu I (S.top qx t1) (S.top qy t2) rx ry e2).2 _ ⟨.bl _, H, I, rfl, hQ⟩
theorem isW_cases {φ : Ph} {ex : List Addr} {H : Hp} {s : Store} {x y : V} {wx wy : W} {k : Bool} (S : Sim R φ ex H s) (qx : RpW R φ ex H x wx) (qy : RpW R φ ex H y wy) (h : isW s wx wy = some k) :
    (y = .non ∧ k = decide (x = .non)) ∨ ∃ a b : Bool, x = .bl a ∧ y = .bl b ∧ k = decide (a = b) := by
  unfold isW at h
  split at h
  · refine .inl ?_
    cases qy with
    | d qy =>
      cases qy
      refine ⟨rfl, ?_⟩
      cases qx with
      | d q => cases q <;> (simp only [someW] at h; cases h; rfl)
      | ref l q =>
        rename_i n
        simp only [someW] at h
        have key : ∀ c, s[n]? = some c → c ≠ .dead → k = false → k = decide (x = V.non) := fun c e nd hk => by
          rcases S.cell n c e with ⟨z, _⟩ | ⟨a, e2, _⟩
          · exact absurd z nd
          · rw [q a e2, hk]; rfl
        split at h
        · rename_i e; exact key _ e (fun z => nomatch z) (by cases h; rfl)
        · rename_i e; exact key _ e (fun z => nomatch z) (by cases h; rfl)
        · rename_i e; exact key _ e (fun z => nomatch z) (by cases h; rfl)
        · cases h
      | tup => simp only [someW] at h; cases h; rfl
      | fn => simp only [someW] at h; cases h; rfl
  · split at h
    · cases h
      cases qx with | d qx => cases qy with | d qy => cases qx; cases qy; exact .inr ⟨_, _, rfl, rfl, rfl⟩
    · cases h
  · cases h
theorem o_is : OpR X (compareOp .Is) (rC2 R fun x y s => cmpW .is_ s x y) := by
  rintro pins s σ H x y v u Q I rx ry ⟨φ, ex, st, wx, wy, k, S, qx, qy, hk, hQ⟩
  rcases isW_cases S qx qy hk with ⟨rfl, rfl⟩ | ⟨a, b, rfl, rfl, rfl⟩
  · exact op_isN pins s σ H x _ v u Q I rx ry ⟨rfl, hQ⟩
  · exact op_isBl pins s σ H _ _ v u Q I rx ry ⟨a, b, rfl, rfl, hQ⟩
theorem o_isnot : OpR X (compareOp .IsNot) (rC2 R fun x y s => cmpW .isnot s x y) := by
  rintro pins s σ H x y v u Q I rx ry ⟨φ, ex, st, wx, wy, k, S, qx, qy, hk, hQ⟩
  simp only [cmpW] at hk
  cases e : isW st wx wy with
  | none => rw [e] at hk; cases hk
  | some b =>
    rw [e] at hk
    cases hk
    rcases isW_cases S qx qy e with ⟨rfl, rfl⟩ | ⟨a, b, rfl, rfl, rfl⟩
    · exact op_notN pins s σ H x _ v u Q I rx ry ⟨rfl, hQ⟩
    · exact op_notBl pins s σ H _ _ v u Q I rx ry ⟨a, b, rfl, rfl, hQ⟩
theorem o_cmp (hK : X.K = R.K) (hu : X.A.units + 65 < cLine) (op : CmpOp) : OpR X (compareOp op) (rC2 R fun x y s => cmpW (copOf op) s x y) := by
  cases op
  · exact o_eq hK (by omega)
  · exact o_ne hK (by omega)
  · exact o_lt
  · exact o_le
  · exact o_gt
  · exact o_ge
  · exact o_is
  · exact o_isnot
  · exact o_in hK hu
  · exact o_notin hK hu
end
end Cc

set_option linter.all false
set_option maxRecDepth 100000
set_option maxHeartbeats 1000000
/-! Cc: expressions by rules. -/
namespace Cc
open PySem PySem.Spec PyProof.Rows L2

section
variable {X : Cx} {R : Gt} {E : L2.St → XK} {a b c e o : Expr} {ca cb cc ce co : Ex} {es : List Expr} {ces : List Ex} {pos : Pos}
/-! ### constants, names -/
theorem rp_const {k : Const} {x : PyData} (h : constOf k = some x) (φ : Ph) (ex : List Addr) (H : Hp) : ∃ v, Rp R.K φ ex H v x ∧ ∀ {j pos}, PE X (.Constant k j pos) (tC v) := by
  cases k <;> simp only [constOf] at h <;> first | (cases h; done) | skip
  · cases h; exact ⟨_, .non, pe_non⟩
  · cases h; exact ⟨_, .bl _, pe_bl⟩
  · cases h; exact ⟨_, .int _, pe_int⟩
  · cases h; exact ⟨_, .str _, pe_str⟩
theorem p_const {k : Const} {x : PyData} {j : Nat} (h : constOf k = some x) : PE X (.Constant k j pos) (tD R E (.const x)) := by
  refine ⟨fun pins s σ H Q I q => ?_⟩
  obtain ⟨φ, ex, st, env, S, N, q⟩ := q
  obtain ⟨v, r, p⟩ := rp_const (X := X) (R := R) h φ ex H
  exact p.run pins s σ H Q I (q v φ H (Ext.refl _ _) S (.d r))
theorem ixOf_at {x : Str} : ∀ {N : List Str} {k i : Nat}, ixOf x N k = some i → k ≤ i ∧ N[i - k]? = some x
  | [], _, _, h => by cases h
  | y :: ys, k, i, h => by
    unfold ixOf at h
    split at h
    · rename_i e; cases h; subst e; simp
    · obtain ⟨h1, h2⟩ := ixOf_at h
      have : i - k = (i - (k + 1)) + 1 := by omega
      rw [this]
      exact ⟨by omega, by simpa using h2⟩
theorem vis_of {sc : Scope} {x : Str} (h : visB sc x = true) : Vis sc x := by
  unfold visB at h
  split at h <;> first | (cases h; done) | skip
  · exact .inl (by assumption)
  · exact .inr (.inl (by assumption))
  · exact .inr (.inr (by assumption))
theorem loc_of {sc : Scope} {x : Str} (h : locB sc x = true) : Loc sc x := by
  unfold locB at h
  split at h <;> first | (cases h; done) | skip
  · exact .inl (by assumption)
  · exact .inr (by assumption)
theorem glo_of {X : Cx} {x : Str} (h : gloB X.env.scope x = true) : Gl X x := by
  unfold gloB at h
  split at h <;> first | (cases h; done) | skip
  assumption
theorem slot_of {T : TEnv} {x : Str} {i : Nat} (h : slotOf T x = some i) : T.N[i]? = some x ∧ Vis T.sc x := by
  unfold slotOf at h
  split at h
  · exact ⟨by simpa using (ixOf_at h).2, vis_of (by assumption)⟩
  · cases h
theorem tgt_of {T : TEnv} {x : Str} {i : Nat} (h : tgtOf T x = some i) : T.N[i]? = some x ∧ Loc T.tsc x := by
  unfold tgtOf at h
  split at h
  · exact ⟨by simpa using (ixOf_at h).2, loc_of (by assumption)⟩
  · cases h
theorem p_var {i : Nat} {x : Str} (hN : X.N[i]? = some x) (hv : Vis X.env.scope x) (hd : (x == ("__debug__" : Str)) = false) (hc : (x == ("__classdict__" : Str)) = false) : PE X (.Name x pos) (tD R E (.var i)) :=
  peImp (pe_var hN hv hd hc) fun σ H Q ⟨φ, ex, s, env, S, N, h⟩ => by
    obtain ⟨w, e, q⟩ := h.of
    obtain ⟨v, e2, r⟩ := N.get e
    exact ⟨v, e2, q v φ H (Ext.refl _ _) S r⟩
/-- a module's constant -/
def ConK (K : PySem.W.Frag) (u : Value) (d : PyData) : Prop := ∀ φ ex H, ∃ v, RelV v u ∧ Rp K φ ex H v d
theorem p_con {x : Str} {u : Value} {d : PyData} (hg : Gl X x) (hm : X.mg x = some u) (h : ConK R.K u d) (hd : (x == ("__debug__" : Str)) = false) : PE X (.Name x pos) (tD R E (.const d)) := by
  refine ⟨fun pins s σ H Q I q => ?_⟩
  obtain ⟨φ, ex, st, env, S, N, q⟩ := q
  obtain ⟨v, r, p⟩ := h φ ex H
  exact (pe_glob hg hm r hd).run pins s σ H Q I (q v φ H (Ext.refl _ _) S (.d p))
theorem p_gfn {x : Str} {i : Nat} (hg : Gl X x) (hm : X.mg x = some (.ref (R.fa i))) (hd : (x == ("__debug__" : Str)) = false) : PE X (.Name x pos) (tD R E (.gfn i)) := by
  refine ⟨fun pins s σ H Q I q => ?_⟩
  obtain ⟨φ, ex, st, env, S, N, q⟩ := q
  exact (pe_glob (v := .ref (R.fa i)) hg hm rfl hd).run pins s σ H Q I (q _ φ H (Ext.refl _ _) S (.fn i))
/-! ### operators -/
theorem p_bin {op : Operator} {o : Bop} (hK : X.K = R.K) (ho : bopOf op = some o) (ha : PE X a (tD R E ca)) (hb : PE X b (tD R E cb)) : PE X (.BinOp a op b pos) (tD R E (.bin o ca cb)) :=
  peImp (pe_op (o_bin hK ho) ha hb) fun σ H Q ⟨φ, ex, s, env, S, N, h⟩ => by
    simp only [runE] at h
    refine tD_mono (tD_bind mono_W S N h) fun x H1 ⟨φ1, s1, wx, S1, N1, e1, r1, h1⟩ => ?_
    refine tD_mono (tD_bind mono_W S1 N1 h1) fun y H2 ⟨φ2, s2, wy, S2, N2, e2, r2, h2⟩ => ?_
    obtain ⟨w, hw, q⟩ := h2.of
    cases t1 : top s2 wx with
    | none => rw [t1] at hw; cases hw
    | some dx =>
      cases t2 : top s2 wy with
      | none => rw [t1, t2] at hw; cases hw
      | some dy =>
        rw [t1, t2] at hw
        have hw' : (bopD o dx dy).map W.d = some w := hw
        cases hz : bopD o dx dy with
        | none => rw [hz] at hw'; cases hw'
        | some z =>
          rw [hz] at hw'
          cases hw'
          exact ⟨φ2, ex, s2, dx, dy, z, S2, S2.top (RpW.ext e2 _ _ r1) t1, S2.top r2 t2, hz, fun v H' e S' r => q v φ2 H' e S' (.d r)⟩
theorem p_neg (ha : PE X a (tD R E ca)) : PE X (.UnaryOp .USub a pos) (tD R E (.neg ca)) :=
  peImp (pe_un un_neg ha) fun σ H Q ⟨φ, ex, s, env, S, N, h⟩ => by
    simp only [runE] at h
    refine tD_mono (tD_bind mono_W S N h) fun x H1 ⟨φ1, s1, wx, S1, N1, e1, r1, h1⟩ => ?_
    obtain ⟨w, hw, q⟩ := h1.of
    cases t1 : top s1 wx with
    | none => rw [t1] at hw; cases hw
    | some dx =>
      rw [t1] at hw
      have hw' : (Cc.neg dx).map W.d = some w := hw
      cases dx <;> simp only [Cc.neg] at hw' <;> first | (cases hw'; done) | skip
      cases hw'
      exact ⟨_, (S1.top r1 t1).int, q _ φ1 H1 (Ext.refl _ _) S1 (.d (.int _))⟩
theorem p_cmp {op : CmpOp} (hK : X.K = R.K) (hu : X.A.units + 65 < cLine) (hm : behindInMarks op b = false) (ha : PE X a (tD R E ca)) (hb : PE X b (tD R E cb)) : PE X (.Compare a [op] [b] pos) (tD R E (.cmp (copOf op) ca cb)) :=
  peImp (pe_cmpR (o_cmp hK hu op) ha hb hm) fun σ H Q ⟨φ, ex, s, env, S, N, h⟩ => by
    simp only [runE] at h
    refine tD_mono (tD_bind mono_W S N h) fun x H1 ⟨φ1, s1, wx, S1, N1, e1, r1, h1⟩ => ?_
    refine tD_mono (tD_bind mono_W S1 N1 h1) fun y H2 ⟨φ2, s2, wy, S2, N2, e2, r2, h2⟩ => ?_
    obtain ⟨w, hw, q⟩ := h2.of
    cases hk : cmpW (copOf op) s2 wx wy with
    | none => rw [hk] at hw; cases hw
    | some k =>
      rw [hk] at hw
      cases hw
      exact ⟨φ2, ex, s2, wx, wy, k, S2, RpW.ext e2 _ _ r1, r2, hk, q _ φ2 H2 (Ext.refl _ _) S2 (.d (.bl _))⟩
theorem res_assoc {α β γ : Type} (r : Res α) (f : α → Store → Res β) (g : β → Store → Res γ) : (r.bind f).bind g = r.bind fun a s => (f a s).bind g := by cases r <;> rfl
theorem pt_cmpD {op : CmpOp} (hK : X.K = R.K) (hu : X.A.units + 65 < cLine) (hm : behindInMarks op b = false) (ha : PE X a (tD R E ca)) (hb : PE X b (tD R E cb)) : PT X (.Compare a [op] [b] pos) (tT R E (.tru (.cmp (copOf op) ca cb))) :=
  ptImp (pt_cmpR (o_cmp hK hu op) ha hb hm) fun σ H Q ⟨φ, ex, s, env, S, N, h⟩ => by
    simp only [runT, truR, runE, res_assoc] at h
    refine tD_mono (tD_bind mono_T S N h) fun x H1 ⟨φ1, s1, wx, S1, N1, e1, r1, h1⟩ => ?_
    refine tD_mono (tD_bind mono_T S1 N1 h1) fun y H2 ⟨φ2, s2, wy, S2, N2, e2, r2, h2⟩ => ?_
    dsimp only at h2
    cases hk : cmpW (copOf op) s2 wx wy with
    | none => rw [hk] at h2; exact h2.elim
    | some k =>
      rw [hk] at h2
      exact ⟨φ2, ex, s2, wx, wy, k, S2, RpW.ext e2 _ _ r1, r2, hk, k, rfl, h2 φ2 H2 (Ext.refl _ _) S2⟩
theorem p_chain {op op' : CmpOp} (hK : X.K = R.K) (hu : X.A.units + 65 < cLine) (hm : lastMarks [op, op'] [b, c] = false) (ha : PE X a (tD R E ca)) (hb : PE X b (tD R E cb)) (hc : PE X c (tD R E cc)) :
    PE X (.Compare a [op, op'] [b, c] pos) (tD R E (.chain (copOf op) (copOf op') ca cb cc)) :=
  peImp (pe_chain (o_cmp hK hu op) (o_cmp hK hu op') ha hb hc hm) fun σ H Q ⟨φ, ex, s, env, S, N, h⟩ => by
    simp only [runE] at h
    refine tD_mono (tD_bind mono_W S N h) fun x H1 ⟨φ1, s1, wx, S1, N1, e1, r1, h1⟩ => ?_
    refine tD_mono (tD_bind mono_W S1 N1 h1) fun y H2 ⟨φ2, s2, wy, S2, N2, e2, r2, h2⟩ => ?_
    dsimp only at h2
    cases hk : cmpW (copOf op) s2 wx wy with
    | none => rw [hk] at h2; exact h2.elim
    | some k =>
      rw [hk] at h2
      refine ⟨φ2, ex, s2, wx, wy, k, S2, RpW.ext e2 _ _ r1, r2, hk, k, rfl, ?_⟩
      cases k with
      | false => exact h2 _ φ2 H2 (Ext.refl _ _) S2 (.d (.bl _))
      | true =>
        have h3 : RunsTo ((runE R.Φ R.M R.CI R.FO cc env s2).bind fun z s => .of ((cmpW (copOf op') s wy z).map fun b => W.d (.bool b)) s) (RetW R ex Q φ2 H2) (ExcOk R ex (E σ) φ2 H2) := h2
        refine tD_mono (tD_bind mono_W S2 N2 h3) fun z H3 ⟨φ3, s3, wz, S3, N3, e3, r3, h4⟩ => ?_
        obtain ⟨w, hw, q⟩ := h4.of
        cases hk : cmpW (copOf op') s3 wy wz with
        | none => rw [hk] at hw; cases hw
        | some k =>
          rw [hk] at hw
          cases hw
          exact ⟨φ3, ex, s3, wy, wz, k, S3, RpW.ext e3 _ _ r2, r3, hk, q _ φ3 H3 (Ext.refl _ _) S3 (.d (.bl _))⟩
theorem pt_chainD {op op' : CmpOp} (hK : X.K = R.K) (hu : X.A.units + 65 < cLine) (hm : lastMarks [op, op'] [b, c] = false) (ha : PE X a (tD R E ca)) (hb : PE X b (tD R E cb)) (hc : PE X c (tD R E cc)) :
    PT X (.Compare a [op, op'] [b, c] pos) (tT R E (.tru (.chain (copOf op) (copOf op') ca cb cc))) :=
  ptImp (pt_chain (o_cmp hK hu op) (o_cmp hK hu op') ha hb hc hm) fun σ H Q ⟨φ, ex, s, env, S, N, h⟩ => by
    simp only [runT, truR, runE, res_assoc] at h
    refine tD_mono (tD_bind mono_T S N h) fun x H1 ⟨φ1, s1, wx, S1, N1, e1, r1, h1⟩ => ?_
    refine tD_mono (tD_bind mono_T S1 N1 h1) fun y H2 ⟨φ2, s2, wy, S2, N2, e2, r2, h2⟩ => ?_
    dsimp only at h2
    cases hk : cmpW (copOf op) s2 wx wy with
    | none => rw [hk] at h2; exact h2.elim
    | some k =>
      rw [hk] at h2
      refine ⟨φ2, ex, s2, wx, wy, k, S2, RpW.ext e2 _ _ r1, r2, hk, k, rfl, ?_⟩
      cases k with
      | false => exact ⟨false, rfl, h2 φ2 H2 (Ext.refl _ _) S2⟩
      | true =>
        have h3 : RunsTo (((runE R.Φ R.M R.CI R.FO cc env s2).bind fun z s => .of ((cmpW (copOf op') s wy z).map fun b => W.d (.bool b)) s).bind fun w s => .of (truW s w) s) (RetT R ex Q φ2 H2) (ExcOk R ex (E σ) φ2 H2) := h2
        rw [res_assoc] at h3
        refine tD_mono (tD_bind mono_T S2 N2 h3) fun z H3 ⟨φ3, s3, wz, S3, N3, e3, r3, h4⟩ => ?_
        dsimp only at h4
        cases hk : cmpW (copOf op') s3 wy wz with
        | none => rw [hk] at h4; exact h4.elim
        | some k =>
          rw [hk] at h4
          exact ⟨φ3, ex, s3, wy, wz, k, S3, RpW.ext e3 _ _ r2, r3, hk, k, rfl, h4 φ3 H3 (Ext.refl _ _) S3⟩
/-! ### and, or, not as values -/
theorem p_and {rest : List Expr} (ha : PE X a (tD R E ca)) (hb : PE X (.BoolOp .And (b :: rest) pos) (tD R E cb)) : PE X (.BoolOp .And (a :: b :: rest) pos) (tD R E (.and ca cb)) :=
  peImp (pe_and ha hb) fun σ H Q ⟨φ, ex, s, env, S, N, h⟩ => by
    simp only [runE] at h
    refine tD_mono (tD_bind mono_W S N h) fun x H1 ⟨φ1, s1, wx, S1, N1, e1, r1, h1⟩ => ?_
    dsimp only at h1
    split at h1
    · cases r1 with | d r => cases r; exact ⟨true, rfl, φ1, ex, s1, env, S1, N1, h1⟩
    · cases r1 with | d r => cases r; exact ⟨false, rfl, h1 _ φ1 H1 (Ext.refl _ _) S1 (.d (.bl _))⟩
    · exact h1.elim
theorem p_or {rest : List Expr} (ha : PE X a (tD R E ca)) (hb : PE X (.BoolOp .Or (b :: rest) pos) (tD R E cb)) : PE X (.BoolOp .Or (a :: b :: rest) pos) (tD R E (.or ca cb)) :=
  peImp (pe_or ha hb) fun σ H Q ⟨φ, ex, s, env, S, N, h⟩ => by
    simp only [runE] at h
    refine tD_mono (tD_bind mono_W S N h) fun x H1 ⟨φ1, s1, wx, S1, N1, e1, r1, h1⟩ => ?_
    dsimp only at h1
    split at h1
    · cases r1 with | d r => cases r; exact ⟨true, rfl, h1 _ φ1 H1 (Ext.refl _ _) S1 (.d (.bl _))⟩
    · cases r1 with | d r => cases r; exact ⟨false, rfl, φ1, ex, s1, env, S1, N1, h1⟩
    · exact h1.elim
theorem p_not (ha : PE X a (tD R E ca)) : PE X (.UnaryOp .Not a pos) (tD R E (.not ca)) :=
  peImp (pe_not ha) fun σ H Q ⟨φ, ex, s, env, S, N, h⟩ => by
    simp only [runE] at h
    refine tD_mono (tD_bind mono_W S N h) fun x H1 ⟨φ1, s1, wx, S1, N1, e1, r1, h1⟩ => ?_
    dsimp only at h1
    split at h1
    · cases r1 with | d r => cases r; exact ⟨_, rfl, h1 _ φ1 H1 (Ext.refl _ _) S1 (.d (.bl _))⟩
    · exact h1.elim
/-! ### tests -/
theorem emp_len {vs : List V} {ds : List PyData} (h : vs.length = ds.length) : (!ds.isEmpty) = !vs.isEmpty := by
  cases vs with
  | nil => cases ds with
    | nil => rfl
    | cons d ds => simp at h
  | cons v vs => cases ds with
    | nil => simp at h
    | cons d ds => rfl
theorem truV_of {K : PySem.W.Frag} {φ : Ph} {ex : List Addr} {H : Hp} {x : V} {d : PyData} {k : Bool} (t : Tp K φ ex H x d) (h : truD d = some k) : TruV K x H k := by
  cases d <;> simp only [truD] at h
  · rw [t.non]; cases h; rfl
  · rw [t.bl]; cases h; rfl
  · rw [t.int]; cases h; rfl
  · rw [t.str]
    split at h
    · cases h; exact ⟨by assumption, rfl⟩
    · cases h
  · cases h
    obtain ⟨a, vs, rfl, hl, r⟩ := t.lst
    refine .inl ⟨vs, .inl hl, ?_⟩
    exact emp_len r.length
  · cases h
    obtain ⟨a, vs, rfl, hl, r⟩ := t.tup
    refine .inr (.inl ⟨vs, hl, ?_⟩)
    exact emp_len r.length
  · cases h
theorem pt_tru (hK : X.K = R.K) (ha : PE X a (tD R E ca)) (he : ∀ whole, isTrue a X.env whole = (do let v ← whole; standAt a.pos; holding [v] (truthy v))) : PT X a (tT R E (.tru ca)) :=
  ptImp (pt_truth ha he) fun σ H Q ⟨φ, ex, s, env, S, N, h⟩ => by
    simp only [runT, truR] at h
    refine tD_mono (tD_bind mono_T S N h) fun x H1 ⟨φ1, s1, wx, S1, N1, e1, r1, h1⟩ => ?_
    obtain ⟨k, hk, q⟩ := h1.of
    cases t1 : top s1 wx with
    | none => rw [truW, t1] at hk; cases hk
    | some dx =>
      rw [truW, t1] at hk
      rw [hK]
      exact ⟨k, truV_of (S1.top r1 t1) hk, q φ1 H1 (Ext.refl _ _) S1⟩
end
end Cc

set_option linter.all false
set_option maxRecDepth 100000
set_option maxHeartbeats 1000000
/-! Cc: tests, displays, subscripts, built-ins. -/
namespace Cc
open PySem PySem.Spec PyProof.Rows L2

section
variable {X : Cx} {R : Gt} {E : L2.St → XK} {a b c e o : Expr} {ca cb cc ce co : Ex} {ba bb bc : Bx} {es : List Expr} {ces : List Ex} {pos : Pos}
/-! ### tests -/
theorem pwt_and1 (ha : PT X a (tT R E ba)) : PW X (.BoolOp .And [a] pos) (tT R E ba) := pw_and1 ha
theorem pwt_or1 (ha : PT X a (tT R E ba)) : PW X (.BoolOp .Or [a] pos) (tT R E ba) := pw_or1 ha
theorem pwt_and {rest : List Expr} (ha : PT X a (tT R E ba)) (hb : PW X (.BoolOp .And (b :: rest) pos) (tT R E bb)) : PW X (.BoolOp .And (a :: b :: rest) pos) (tT R E (.and ba bb)) :=
  pwImp (pw_and ha hb) fun σ H Q ⟨φ, ex, s, env, S, N, h⟩ => by
    simp only [runT] at h
    refine tT_mono (tT_bind mono_T S N h) fun x H1 ⟨φ1, s1, k, S1, N1, e1, r1, h1⟩ => ?_
    cases r1
    cases x with
    | true => exact ⟨φ1, ex, s1, env, S1, N1, h1⟩
    | false => exact h1 φ1 H1 (Ext.refl _ _) S1
theorem pwt_or {rest : List Expr} (ha : PT X a (tT R E ba)) (hb : PW X (.BoolOp .Or (b :: rest) pos) (tT R E bb)) : PW X (.BoolOp .Or (a :: b :: rest) pos) (tT R E (.or ba bb)) :=
  pwImp (pw_or ha hb) fun σ H Q ⟨φ, ex, s, env, S, N, h⟩ => by
    simp only [runT] at h
    refine tT_mono (tT_bind mono_T S N h) fun x H1 ⟨φ1, s1, k, S1, N1, e1, r1, h1⟩ => ?_
    cases r1
    cases x with
    | true => exact h1 φ1 H1 (Ext.refl _ _) S1
    | false => exact ⟨φ1, ex, s1, env, S1, N1, h1⟩
theorem ptt_not (ha : PT X a (tT R E ba)) : PT X (.UnaryOp .Not a pos) (tT R E (.not ba)) :=
  ptImp (pt_not ha) fun σ H Q ⟨φ, ex, s, env, S, N, h⟩ => by
    simp only [runT] at h
    refine tT_mono (tT_bind mono_T S N h) fun x H1 ⟨φ1, s1, k, S1, N1, e1, r1, h1⟩ => ?_
    cases r1
    exact h1 φ1 H1 (Ext.refl _ _) S1
/-- a if t else b, as a test -/
theorem ptt_ite (hc : PT X c (tT R E bc)) (ha : PT X a (tT R E ba)) (hb : PT X b (tT R E bb)) : PT X (.IfExp c a b pos) (tT R E (.ite bc ba bb)) := by
  refine ⟨fun pins s σ H Q I hw => ?_⟩
  obtain ⟨φ, ex, st, env, S, N, h⟩ := hw
  simp only [runT] at h
  have ht : isTrue (.IfExp c a b pos) X.env (eval (.IfExp c a b pos) X.env) = (do if ← isTrue c X.env (eval c X.env) then isTrue a X.env (eval a X.env) else isTrue b X.env (eval b X.env)) := by rfl
  rw [ht]
  refine wpAny_bind (thn (hc.run pins s σ H _ I (tT_bind mono_T S N h)) fun k s1 ⟨H1, I1, q1⟩ => ?_)
  obtain ⟨φ1, s1', k', S1, N1, e1, r1, h1⟩ := q1
  cases r1
  cases k with
  | true => exact ha.run pins s1 σ H1 Q I1 ⟨φ1, ex, s1', env, S1, N1, h1⟩
  | false => exact hb.run pins s1 σ H1 Q I1 ⟨φ1, ex, s1', env, S1, N1, h1⟩
theorem p_ite (hc : PT X c (tT R E bc)) (ha : PE X a (tD R E ca)) (hb : PE X b (tD R E cb)) : PE X (.IfExp c a b pos) (tD R E (.ite bc ca cb)) :=
  peImp (pe_ifExp hc ha hb) fun σ H Q ⟨φ, ex, s, env, S, N, h⟩ => by
    simp only [runE] at h
    refine tT_mono (tT_bind mono_W S N h) fun x H1 ⟨φ1, s1, k, S1, N1, e1, r1, h1⟩ => ?_
    cases r1
    cases x with
    | true => exact ⟨φ1, ex, s1, env, S1, N1, h1⟩
    | false => exact ⟨φ1, ex, s1, env, S1, N1, h1⟩
/-! ### arguments, displays -/
theorem star_ne {e : Expr} (h : ∀ x p, e ≠ .Starred x p) (es : List Expr) (env : PySem.Env) : starEach (e :: es) env = (false, eval e env) :: starEach es env := by
  cases e <;> first | rfl | exact absurd rfl (h _ _)
theorem pa_nilD : PA X [] (tA R E []) := paImp pa_nil fun σ H Q ⟨φ, ex, s, env, S, N, h⟩ => h [] φ H (Ext.refl _ _) S .nil
theorem pa_consD (hs : ∀ x p, e ≠ .Starred x p) (ha : PE X e (tD R E ce)) (hr : PA X es (tA R E ces)) : PA X (e :: es) (tA R E (ce :: ces)) :=
  paImp (pa_cons ha hr (star_ne hs es X.env)) fun σ H Q ⟨φ, ex, s, env, S, N, h⟩ => by
    simp only [runEs] at h
    refine tD_mono (tD_bind mono_L S N h) fun x H1 ⟨φ1, s1, wx, S1, N1, e1, r1, h1⟩ => ?_
    refine tA_mono (tA_bind mono_L S1 N1 h1) fun y H2 ⟨φ2, s2, wy, S2, N2, e2, r2, h2⟩ => ?_
    exact h2 _ φ2 H2 (Ext.refl _ _) S2 (.cons (RpW.ext e2 _ _ r1) r2)
theorem p_tup {k : Nat} (h : PA X es (tA R E ces)) : PE X (.Tuple es k pos) (tD R E (.tup ces)) :=
  peImp (pe_tup h) fun σ H Q ⟨φ, ex, s, env, S, N, h⟩ => by
    simp only [runE] at h
    refine tA_mono (tA_bind mono_W S N h) fun xs H1 ⟨φ1, s1, ws, S1, N1, e1, r1, h1⟩ => ?_
    obtain ⟨w, hw, q⟩ := h1.of
    unfold mkTupW at hw
    split at hw
    · rename_i ds hp
      have e := allPure_eq hp
      subst e
      unfold mkTup at hw
      split at hw
      · rename_i hz
        cases hw
        have rd := RpWL.data r1
        refine ⟨by rw [rd.length]; exact hz, fun p hn => ?_⟩
        obtain ⟨e, S', r⟩ := S1.newTup rd hn
        exact q _ φ1 _ e S' (.d r)
      · cases hw
    · split at hw
      · rename_i hz
        cases hw
        refine ⟨by rw [r1.length]; exact hz, fun p hn => ?_⟩
        obtain ⟨e, S'⟩ := S1.new (o := .tup xs) hn
        exact q _ φ1 _ e S' (.tup (.inl upd_same) (S1.fresh hn) (RpWL.ext e _ _ r1))
      · cases hw
theorem RpW.last {φ : Ph} {ex : List Addr} {H H' : Hp} {s : Store} {p : Addr} (S : Sim R φ ex H s) : RpW R (φ ++ [some p]) ex H' (.ref p) (.ref s.length) := by
  refine .ref (by rw [List.length_append, S.len]; simp) fun a ha => ?_
  rw [← S.len] at ha
  simp at ha
  rw [ha]
theorem p_lst {cell : Bool} (h : PA X es (tA R E ces)) : PE X (.List es pos) (tD R E (.lst cell ces)) :=
  peImp (pe_lst h) fun σ H Q ⟨φ, ex, s, env, S, N, h⟩ => by
    simp only [runE] at h
    refine tA_mono (tA_bind mono_W S N h) fun xs H1 ⟨φ1, s1, ws, S1, N1, e1, r1, h1⟩ => ?_
    dsimp only [newLst] at h1
    split at h1
    · rename_i hz
      refine ⟨by rw [r1.length]; exact hz, fun p hn => ?_⟩
      split at h1
      · rename_i ds hp
        have e := allPure_eq hp
        subst e
        split at h1
        · obtain ⟨e, S'⟩ := S1.push (o := .lst xs) (c := .lst ds) hn fun e => ⟨xs, upd_same, RpL.ext e _ _ (RpWL.data r1)⟩
          exact h1 _ _ _ e S' (RpW.last S1)
        · obtain ⟨e, S', r⟩ := S1.newLst (RpWL.data r1) hn
          exact h1 _ φ1 _ e S' (.d r)
      · split at h1
        · obtain ⟨e, S'⟩ := S1.push (o := .lst xs) (c := .wl ws) hn fun e => ⟨xs, upd_same, RpWL.ext e _ _ r1⟩
          exact h1 _ _ _ e S' (RpW.last S1)
        · exact h1.elim
    · exact h1.elim
end
end Cc

set_option linter.all false
set_option maxRecDepth 100000
set_option maxHeartbeats 1000000
/-! Cc: subscripts, slices, built-in functions and methods, list cells changed, attributes. -/
namespace Cc
open PySem PySem.Spec PyProof.Rows L2

section
variable {X : Cx} {R : Gt} {E : L2.St → XK} {a b c e o : Expr} {ca cb cc ce co : Ex} {es : List Expr} {ces : List Ex} {pos : Pos}
/-! ### xs[i] -/
theorem plainIx {b : Expr} (h : ∀ l u t p, b ≠ .Slice l u t p) : PlainIx b := by
  intro o i
  cases b <;> first | rfl | exact absurd rfl (h _ _ _ _)
theorem ix_of {φ : Ph} {ex : List Addr} {H : Hp} {s : Store} {x y : V} {wx wy w : W} (S : Sim R φ ex H s) (rx : RpW R φ ex H x wx) (ry : RpW R φ ex H y wy) (h : idxW s wx wy = some w) {Q : VK}
    (hQ : ∀ v, RpW R φ ex H v w → Q v H) : rIx R.K x y H Q := by
  unfold idxW at h
  split at h
  · rename_i i
    cases ry with | d ry =>
    cases ry
    have seqL : ∀ {a : Addr} {vs : List V} {v : V}, SqL R.K H a vs → atI vs i = some v → RpW R φ ex H v w → rIx R.K (.ref a) (.int i) H Q := fun {a vs v} hs e r => .inl ⟨a, vs, i, v, rfl, rfl, hs, e, hQ v r⟩
    split at h
    · rename_i x'
      cases rx with | d rx =>
      cases x' <;> simp only [atD] at h <;> try (cases h; done)
      · rename_i z
        split at h
        · rename_i hz
          cases rx
          cases e : atI z.cps.toList i with
          | none => rw [e] at h; cases h
          | some k =>
            rw [e] at h
            cases h
            exact .inr (.inr ⟨z, i, k, rfl, rfl, hz, e, hQ _ (.d (.str _))⟩)
        · cases h
      · rename_i ds
        cases rx with
        | lst hr n r =>
          cases e : atI ds i with
          | none => rw [e] at h; cases h
          | some d =>
            rw [e] at h
            cases h
            obtain ⟨v, e2, r2⟩ := atI_RpL r e
            exact seqL (.inl hr) e2 (.d r2)
      · rename_i ds
        cases rx with
        | tup hr r =>
          cases e : atI ds i with
          | none => rw [e] at h; cases h
          | some d =>
            rw [e] at h
            cases h
            obtain ⟨v, e2, r2⟩ := atI_RpL r e
            exact .inr (.inl ⟨_, _, i, v, rfl, rfl, hr.elim (fun q => .inl q.1) .inr, e2, hQ v (.d r2)⟩)
    · rename_i n
      split at h
      · rename_i ds hs
        obtain ⟨a, vs, rfl, _, hl, r⟩ := S.lst hs rx
        cases e : atI ds i with
        | none => rw [e] at h; cases h
        | some d =>
          rw [e] at h
          cases h
          obtain ⟨v, e2, r2⟩ := atI_RpL r e
          exact seqL (.of hl) e2 (.d r2)
      · rename_i ws hs
        obtain ⟨a, vs, rfl, _, hl, r⟩ := S.wl hs rx
        obtain ⟨v, e2, r2⟩ := atI_RpWL r h
        exact seqL (.of hl) e2 r2
      · cases h
    · cases rx with
      | tup hr n r =>
        obtain ⟨v, e2, r2⟩ := atI_RpWL r h
        exact .inr (.inl ⟨_, _, i, v, rfl, rfl, .inl hr, e2, hQ v r2⟩)
    · cases h
  · cases h
theorem p_idx (hK : X.K = R.K) (hs : ∀ l u t p, b ≠ .Slice l u t p) (ha : PE X a (tD R E ca)) (hb : PE X b (tD R E cb)) : PE X (.Subscript a b pos) (tD R E (.idx ca cb)) :=
  peImp (pe_ix ix_seq ha hb (plainIx hs)) fun σ H Q ⟨φ, ex, s, env, S, N, h⟩ => by
    simp only [runE] at h
    refine tD_mono (tD_bind mono_W S N h) fun x H1 ⟨φ1, s1, wx, S1, N1, e1, r1, h1⟩ => ?_
    refine tD_mono (tD_bind mono_W S1 N1 h1) fun y H2 ⟨φ2, s2, wy, S2, N2, e2, r2, h2⟩ => ?_
    obtain ⟨w, hw, q⟩ := h2.of
    rw [hK]
    exact ix_of S2 (RpW.ext e2 _ _ r1) r2 hw fun v r => q v φ2 H2 (Ext.refl _ _) S2 r
/-! ### fresh lists -/
def RetF (R : Gt) (ex : List Addr) (Q : VK) : Kn W := fun φ H w s' => match w with
  | .d (.list xs) => ∀ φ' H' vs p, Ext φ H φ' H' → Sim R φ' ex H' s' → RpL R.K φ' ex H' vs xs → H' p = none → Q (.ref p) (upd H' p (.lst vs))
  | w => RetW R ex Q φ H w s'
theorem RetF.of {ex : List Addr} {Q : VK} {φ : Ph} {H : Hp} {w : W} {s : Store} (h : RetW R ex Q φ H w s) : RetF R ex Q φ H w s := by
  unfold RetF
  split
  · intro φ' H' vs p e S r hp
    obtain ⟨e2, S', q⟩ := S.newLst r hp
    exact h _ φ' _ (e.trans e2) S' (.d q)
  · exact h
theorem mono_F {ex : List Addr} {Q : VK} : Mono (RetF R ex Q) := fun φ H φ' H' w s e h => by
  unfold RetF at h ⊢
  split
  · exact fun φ2 H2 vs p e2 => h φ2 H2 vs p (e.trans e2)
  · rename_i h2
    split at h
    · rename_i xs; exact absurd rfl (h2 xs)
    · exact mono_W _ _ _ _ _ _ e h
def tF (R : Gt) (E : L2.St → XK) (e : Ex) : L2.TE := fun σ H Q => ∃ φ ex s env, Sim R φ ex H s ∧ EnvR R φ ex H env σ ∧ RunsTo (runE R.Φ R.M R.CI R.FO e env s) (RetF R ex Q φ H) (ExcOk R ex (E σ) φ H)
theorem p_ofF (h : PE X a (tF R E ca)) : PE X a (tD R E ca) := peImp h fun σ H Q ⟨φ, ex, s, env, S, N, h⟩ => ⟨φ, ex, s, env, S, N, h.imp (fun _ _ q => .of q) fun _ _ q => q⟩
theorem p_cell (h : PE X a (tF R E ca)) : PE X a (tD R E (.cell ca)) := peImp h fun σ H Q ⟨φ, ex, s, env, S, N, h⟩ => by
  refine ⟨φ, ex, s, env, S, N, ?_⟩
  simp only [runE] at h
  cases r : runE R.Φ R.M R.CI R.FO ca env s with
  | stuck => rw [r] at h; exact h
  | exc x s1 => rw [r] at h; exact h
  | ok w s1 =>
    rw [r] at h
    simp only [Res.bind_ok] at h
    unfold toCell at h
    split at h
    · rename_i xs
      intro φ' H' vs p e S' rv hp
      obtain ⟨e2, S2⟩ := S'.push (o := .lst vs) (c := .lst xs) hp fun e => ⟨vs, upd_same, RpL.ext e _ _ rv⟩
      exact h _ _ _ (e.trans e2) S2 (RpW.last S')
    · exact h.elim
/-! ### slices -/
theorem sl_seq : SlR X (fun x lo hi H Q => rSlL X.K x lo hi H Q ∨ rSlA X.K x lo hi H Q ∨ rSlS x lo hi H Q) := sl_list.or (sl_tupA.or sl_str)
theorem po_noneD : PO X none (tO R E none) := poImp po_none fun σ H Q ⟨φ, ex, s, env, S, N, h⟩ => h φ H (Ext.refl _ _) S
theorem po_someD (ha : PE X a (tD R E ca)) : PO X (some a) (tO R E (some ca)) := poImp (po_some ha) fun σ H Q ⟨φ, ex, s, env, S, N, h⟩ => by
  simp only [runO] at h
  refine tD_mono (tD_bind mono_O S N h) fun x H1 ⟨φ1, s1, wx, S1, N1, e1, r1, h1⟩ => ?_
  obtain ⟨w, hw, q⟩ := h1.of
  cases hp : partW wx with
  | none => rw [hp] at hw; cases hw
  | some i =>
    rw [hp] at hw
    cases hw
    unfold partW at hp
    split at hp
    · cases hp
      cases r1 with | d r => cases r; exact ⟨i, rfl, q φ1 H1 (Ext.refl _ _) S1⟩
    · cases hp
theorem RpL.nil_iff {K : PySem.W.Frag} {φ : Ph} {ex : List Addr} {H : Hp} {ds : List PyData} {vs : List V} (h : RpL K φ ex H vs ds) : vs = [] ↔ ds = [] := by
  have := h.length
  cases vs <;> cases ds <;> simp at this ⊢
theorem f_slice {lo hi : Option Expr} {cl ch : Option Ex} {p2 : Pos} (hK : X.K = R.K) (ha : PE X a (tD R E ca)) (hl : PO X lo (tO R E cl)) (hh : PO X hi (tO R E ch)) : PE X (.Subscript a (.Slice lo hi none p2) pos) (tF R E (.slice ca cl ch)) :=
  peImp (pe_slice sl_seq ha hl hh) fun σ H Q ⟨φ, ex, s, env, S, N, h⟩ => by
    simp only [runE] at h
    refine tD_mono (tD_bind mono_F S N h) fun x H1 ⟨φ1, s1, wx, S1, N1, e1, r1, h1⟩ => ?_
    refine tO_mono (tO_bind mono_F S1 N1 h1) fun l H2 ⟨φ2, s2, l', S2, N2, e2, r2, h2⟩ => ?_
    cases r2
    refine tO_mono (tO_bind mono_F S2 N2 h2) fun u H3 ⟨φ3, s3, u', S3, N3, e3, r3, h3⟩ => ?_
    cases r3
    obtain ⟨w, hw, q⟩ := h3.of
    have rx := RpW.ext (e2.trans e3) _ _ r1
    cases t1 : top s3 wx with
    | none => rw [t1] at hw; cases hw
    | some d =>
      rw [t1] at hw
      have hw' : (cutD d l u).map W.d = some w := hw
      have t := S3.top rx t1
      cases d <;> simp only [cutD] at hw' <;> try (cases hw'; done)
      · rename_i z
        split at hw'
        · rename_i hz
          cases hw'
          refine .inr (.inr ⟨z, t.str, hz, ?_⟩)
          have e : cutS z l u = ⟨(Cc.cutX z.cps.toList l u).toArray⟩ := by
            unfold cutS Cc.cutX
            have : z.length = z.cps.toList.length := by simp [Str.length]
            rw [this]
          rw [e]
          exact q _ φ3 H3 (Ext.refl _ _) S3 (.d (.str _))
        · cases hw'
      · rename_i ds
        cases hw'
        obtain ⟨p, vs, rfl, hl, r⟩ := t.lst
        exact .inl ⟨p, vs, rfl, .inl hl, fun p' hn => q φ3 H3 _ p' (Ext.refl _ _) S3 (r.cutX l u) hn⟩
      · rename_i ds
        cases hw'
        obtain ⟨p, vs, rfl, hl, r⟩ := t.tup
        rw [hK]
        refine .inr (.inl ⟨p, vs, rfl, hl, fun hwh => ?_, fun hnw p' hn => ?_⟩)
        · have e : Cc.cutX ds l u = ds := by
            unfold Cc.cutX
            rw [← r.length, hwh.1, hwh.2, r.length]
            simp
          rw [e] at q
          rcases t with t | ⟨_, _, _, _, t, _⟩
          · exact q _ φ3 H3 (Ext.refl _ _) S3 (.d t)
          · cases t
        · obtain ⟨e, S', r'⟩ := S3.newTup (r.cutX l u) hn
          exact q _ φ3 _ e S' (.d r')
theorem RpL.rev {K : PySem.W.Frag} {φ : Ph} {ex : List Addr} {H : Hp} : ∀ {vs : List V} {ds : List PyData}, RpL K φ ex H vs ds → RpL K φ ex H vs.reverse ds.reverse
  | _, _, .nil => .nil
  | _, _, .cons r t => by
    rw [List.reverse_cons, List.reverse_cons]
    exact (RpL.rev t).append (.cons r .nil)
theorem f_rev {k : Nat} {p1 p2 p3 : Pos} (hK : X.K = R.K) (ha : PE X a (tD R E ca)) : PE X (.Subscript a (.Slice none none (some (.UnaryOp .USub (.Constant (.int 1) k p1) p2)) p3) pos) (tF R E (.rev ca)) :=
  peImp (pe_revL ha) fun σ H Q ⟨φ, ex, s, env, S, N, h⟩ => by
    simp only [runE] at h
    refine tD_mono (tD_bind mono_F S N h) fun x H1 ⟨φ1, s1, wx, S1, N1, e1, r1, h1⟩ => ?_
    obtain ⟨w, hw, q⟩ := h1.of
    cases t1 : top s1 wx with
    | none => rw [t1] at hw; cases hw
    | some d =>
      rw [t1] at hw
      have hw' : (revD d).map W.d = some w := hw
      have t := S1.top r1 t1
      cases d <;> simp only [revD] at hw' <;> try (cases hw'; done)
      rename_i ds
      cases hw'
      obtain ⟨p, vs, rfl, hl, r⟩ := t.lst
      exact ⟨p, vs, rfl, .inl hl, fun p' hn => q φ1 H1 _ p' (Ext.refl _ _) S1 r.rev hn⟩
/-! ### a cell that is changed no more -/
theorem p_frz (ha : PE X a (tD R E ca)) : PE X a (tD R E (.frz ca)) := peImp ha fun σ H Q ⟨φ, ex, s, env, S, N, h⟩ => by
  refine ⟨φ, ex, s, env, S, N, ?_⟩
  simp only [runE] at h
  cases r : runE R.Φ R.M R.CI R.FO ca env s with
  | stuck => rw [r] at h; exact h
  | exc x s1 => rw [r] at h; exact h
  | ok w s1 =>
    rw [r] at h
    simp only [Res.bind_ok] at h
    intro v φ' H' e S' rv
    unfold doFrz at h
    split at h
    · rename_i n
      split at h
      · rename_i xs hs
        obtain ⟨a', vs, rfl, hφ, hl, r⟩ := S'.lst hs rv
        obtain ⟨e2, S2⟩ := S'.kill (n := n)
        refine h _ _ _ (e.trans e2) S2 (.d (.lst (.inl hl) (fun z => ?_) (RpL.ext e2 _ _ r)))
        rcases z with z | z
        · obtain ⟨m, hm⟩ := List.mem_iff_getElem?.mp z
          by_cases hnm : n = m
          · subst hnm
            have l : n < φ'.length := (List.getElem?_eq_some_iff.mp hφ).1
            rw [List.getElem?_set_self l] at hm
            cases hm
          · rw [List.getElem?_set_ne hnm] at hm
            exact hnm (S'.one n m a' hφ hm)
        · exact S'.off a' z (List.mem_of_getElem? hφ)
      · exact h.elim
    · exact h _ _ _ e S' rv
    · exact h.elim
end
end Cc

set_option linter.all false
set_option maxRecDepth 100000
set_option maxHeartbeats 1000000
/-! Cc: built-in functions and methods, list cells changed, attributes. -/
namespace Cc
open PySem PySem.Spec PyProof.Rows L2

/-- an answer of data, a list being fresh -/
def FRet (R : Gt) (φ : Ph) (ex : List Addr) (H : Hp) (s : Store) (z : PyData) (Q : VK) : Prop := match z with
  | .list xs => ∀ vs p, RpL R.K φ ex H vs xs → H p = none → Q (.ref p) (upd H p (.lst vs))
  | z => Ret R φ ex H s z Q
theorem RetF.fret {R : Gt} {φ : Ph} {ex : List Addr} {H : Hp} {s : Store} {z : PyData} {Q : VK} (S : Sim R φ ex H s) (h : RetF R ex Q φ H (.d z) s) : FRet R φ ex H s z Q := by
  cases z with
  | list xs => exact fun vs p r hp => h φ H vs p (Ext.refl _ _) S r hp
  | none => exact fun v H' e S' r => h v φ H' e S' (.d r)
  | bool b => exact fun v H' e S' r => h v φ H' e S' (.d r)
  | int i => exact fun v H' e S' r => h v φ H' e S' (.d r)
  | str x => exact fun v H' e S' r => h v φ H' e S' (.d r)
  | tuple xs => exact fun v H' e S' r => h v φ H' e S' (.d r)
  | dict kvs => exact fun v H' e S' r => h v φ H' e S' (.d r)
/-! ### lists put together -/
def rF2 (R : Gt) (f : PyData → PyData → Option PyData) : R2 := fun x y H Q => ∃ φ ex s dx dy z, Sim R φ ex H s ∧ Tp R.K φ ex H x dx ∧ Tp R.K φ ex H y dy ∧ f dx dy = some z ∧ FRet R φ ex H s z Q
theorem o_addF {X : Cx} {R : Gt} (hK : X.K = R.K) : OpR X (binaryOp .Add) (rF2 R (bopD .add)) := by
  rintro pins s σ H x y v u Q I rx ry ⟨φ, ex, st, dx, dy, z, S, tx, ty, hz, hQ⟩
  have other : Ret R φ ex H st z Q → wpAny (model X.prog X.w) X.A (binaryOp .Add v u) (EP X pins σ Q) X.xe s := fun q => o_add hK pins s σ H x y v u Q I rx ry ⟨φ, ex, st, dx, dy, z, S, tx, ty, hz, q⟩
  cases z with
  | list zs =>
    cases dx <;> cases dy <;> simp only [bopD] at hz <;> try (first | (cases hz; done) | (split at hz <;> cases hz; done))
    rename_i xs ys
    split at hz
    · rename_i hl
      cases hz
      obtain ⟨a, vs, e, h, r⟩ := tx.lst
      obtain ⟨b, us, e2, h2, r2⟩ := ty.lst
      exact op_catL pins s σ H x y v u Q I rx ry ⟨a, b, vs, us, e, e2, h, h2, by rw [r.length, r2.length]; exact hl, fun p hp => hQ _ p (r.append r2) hp⟩
    · cases hz
  | none => exact other hQ
  | bool _ => exact other hQ
  | int _ => exact other hQ
  | str _ => exact other hQ
  | tuple _ => exact other hQ
  | dict _ => exact other hQ
theorem f_add {X : Cx} {R : Gt} {E : L2.St → XK} {a b : Expr} {ca cb : Ex} {pos : Pos} {op : Operator} (hK : X.K = R.K) (ho : bopOf op = some .add) (ha : PE X a (tD R E ca)) (hb : PE X b (tD R E cb)) : PE X (.BinOp a op b pos) (tF R E (.bin .add ca cb)) := by
  have e : op = .Add := by cases op <;> simp [bopOf] at ho <;> rfl
  subst e
  refine peImp (pe_op (o_addF hK) ha hb) fun σ H Q ⟨φ, ex, s, env, S, N, h⟩ => ?_
  simp only [runE] at h
  refine tD_mono (tD_bind mono_F S N h) fun x H1 ⟨φ1, s1, wx, S1, N1, e1, r1, h1⟩ => ?_
  refine tD_mono (tD_bind mono_F S1 N1 h1) fun y H2 ⟨φ2, s2, wy, S2, N2, e2, r2, h2⟩ => ?_
  obtain ⟨w, hw, q⟩ := h2.of
  cases t1 : top s2 wx with
  | none => rw [t1] at hw; cases hw
  | some dx =>
    cases t2 : top s2 wy with
    | none => rw [t1, t2] at hw; cases hw
    | some dy =>
      rw [t1, t2] at hw
      have hw' : (bopD .add dx dy).map W.d = some w := hw
      cases hz : bopD .add dx dy with
      | none => rw [hz] at hw'; cases hw'
      | some z =>
        rw [hz] at hw'
        cases hw'
        exact ⟨φ2, ex, s2, dx, dy, z, S2, S2.top (RpW.ext e2 _ _ r1) t1, S2.top r2 t2, hz, RetF.fret S2 q⟩
/-- what a built-in is asked -/
def rBf (R : Gt) (f : Store → List W → Option PyData) : List V → Hp → VK → Prop := fun xs H Q => ∃ φ ex s ws z, Sim R φ ex H s ∧ RpWL R φ ex H xs ws ∧ f s ws = some z ∧ FRet R φ ex H s z Q
section
variable {X : Cx} {R : Gt} {φ : Ph} {ex : List Addr} {H : Hp} {s : Store} {Q : VK}
theorem one_of {xs : List V} {w : W} (r : RpWL R φ ex H xs [w]) : ∃ x, xs = [x] ∧ RpW R φ ex H x w := by
  cases r with | cons r t => cases t; exact ⟨_, rfl, r⟩
theorem two_of {xs : List V} {w u : W} (r : RpWL R φ ex H xs [w, u]) : ∃ x y, xs = [x, y] ∧ RpW R φ ex H x w ∧ RpW R φ ex H y u := by
  cases r with | cons r t => cases t with | cons r2 t => cases t; exact ⟨_, _, rfl, r, r2⟩
theorem ints_of {K : PySem.W.Frag} : ∀ {ds : List PyData} {vs : List V} {l : List Int}, RpL K φ ex H vs ds → intsOf ds = some l → vs = l.map V.int
  | [], _, l, h, e => by cases h; cases e; rfl
  | .int i :: ds, _, l, h, e => by
    cases h with
    | cons r t =>
      cases r
      simp only [intsOf] at e
      cases e2 : intsOf ds with
      | none => rw [e2] at e; cases e
      | some l' => rw [e2] at e; cases e; rw [ints_of t e2]; rfl
  | .none :: _, _, _, _, e => by cases e
  | .bool _ :: _, _, _, _, e => by cases e
  | .str _ :: _, _, _, _, e => by cases e
  | .list _ :: _, _, _, _, e => by cases e
  | .tuple _ :: _, _, _, _, e => by cases e
  | .dict _ :: _, _, _, _, e => by cases e
theorem bools_of {K : PySem.W.Frag} : ∀ {ds : List PyData} {vs : List V} {l : List Bool}, RpL K φ ex H vs ds → boolsOf ds = some l → vs = l.map V.bl
  | [], _, l, h, e => by cases h; cases e; rfl
  | .bool i :: ds, _, l, h, e => by
    cases h with
    | cons r t =>
      cases r
      simp only [boolsOf] at e
      cases e2 : boolsOf ds with
      | none => rw [e2] at e; cases e
      | some l' => rw [e2] at e; cases e; rw [bools_of t e2]; rfl
  | .none :: _, _, _, _, e => by cases e
  | .int _ :: _, _, _, _, e => by cases e
  | .str _ :: _, _, _, _, e => by cases e
  | .list _ :: _, _, _, _, e => by cases e
  | .tuple _ :: _, _, _, _, e => by cases e
  | .dict _ :: _, _, _, _, e => by cases e
theorem strs_of {K : PySem.W.Frag} : ∀ {ds : List PyData} {vs : List V} {l : List Str}, RpL K φ ex H vs ds → strsOf ds = some l → vs = l.map V.str
  | [], _, l, h, e => by cases h; cases e; rfl
  | .str i :: ds, _, l, h, e => by
    cases h with
    | cons r t =>
      cases r
      simp only [strsOf] at e
      cases e2 : strsOf ds with
      | none => rw [e2] at e; cases e
      | some l' => rw [e2] at e; cases e; rw [strs_of t e2]; rfl
  | .none :: _, _, _, _, e => by cases e
  | .bool _ :: _, _, _, _, e => by cases e
  | .int _ :: _, _, _, _, e => by cases e
  | .list _ :: _, _, _, _, e => by cases e
  | .tuple _ :: _, _, _, _, e => by cases e
  | .dict _ :: _, _, _, _, e => by cases e
theorem lenV_of (S : Sim R φ ex H s) {x : V} {w : W} {n : Int} (r : RpW R φ ex H x w) (h : lenW s w = some n) : ∃ k : Nat, n = k ∧ LenV R.K x H k := by
  unfold lenW at h
  split at h
  · rename_i d
    cases r with | d r =>
    cases d <;> simp only [lenD] at h <;> try (cases h; done)
    · split at h
      · cases h; cases r; exact ⟨_, rfl, by assumption, rfl⟩
      · cases h
    · cases h
      cases r with | lst hr n r => exact ⟨_, rfl, .inl ⟨_, .inl hr, r.length.symm⟩⟩
    · cases h
      cases r with | tup hr r => exact ⟨_, rfl, .inr ⟨_, hr.elim (fun q => .inl q.1) .inr, r.length.symm⟩⟩
  · split at h
    · rename_i hs
      cases h
      obtain ⟨a, vs, rfl, _, hl, r⟩ := S.lst hs r
      exact ⟨_, rfl, .inl ⟨vs, .of hl, r.length.symm⟩⟩
    · rename_i hs
      cases h
      obtain ⟨a, vs, rfl, _, hl, r⟩ := S.wl hs r
      exact ⟨_, rfl, .inl ⟨vs, .of hl, r.length.symm⟩⟩
    · cases h
  · cases h
    cases r with | tup hr n r => exact ⟨_, rfl, .inr ⟨_, .inl hr, r.length.symm⟩⟩
  · cases h
theorem one1_of {f : W → Option PyData} {ws : List W} {z : PyData} (h : one1 f ws = some z) : ∃ w, ws = [w] ∧ f w = some z := by
  unfold one1 at h
  split at h
  · exact ⟨_, rfl, h⟩
  · cases h
theorem two1_of {f : W → W → Option PyData} {ws : List W} {z : PyData} (h : two1 f ws = some z) : ∃ w u, ws = [w, u] ∧ f w u = some z := by
  unfold two1 at h
  split at h
  · exact ⟨_, _, rfl, h⟩
  · cases h
theorem map_of {α β : Type} {f : α → β} {o : Option α} {z : β} (h : o.map f = some z) : ∃ a, o = some a ∧ f a = z := by
  cases o with
  | none => cases h
  | some a => cases h; exact ⟨a, rfl, rfl⟩
theorem bind_of {α β : Type} {f : α → Option β} {o : Option α} {z : β} (h : o.bind f = some z) : ∃ a, o = some a ∧ f a = some z := by
  cases o with
  | none => cases h
  | some a => exact ⟨a, rfl, h⟩
theorem listOf_of {d : PyData} {xs : List PyData} (h : listOf d = some xs) : d = .list xs := by
  unfold listOf at h
  split at h
  · cases h; rfl
  · cases h
theorem seqOf_of {d : PyData} {xs : List PyData} (h : seqOf d = some xs) : d = .list xs ∨ d = .tuple xs := by
  unfold seqOf at h
  split at h
  · cases h; exact .inl rfl
  · cases h; exact .inr rfl
  · cases h
theorem c_len (hK : X.K = R.K) : CallR X (.builtin "len") (rBf R fun s ws => bfD s .len ws) := by
  rintro pins st σ H xs us Q I r ⟨φ, ex, s, ws, z, S, rw, h, q⟩
  obtain ⟨w, rfl, h⟩ := one1_of h
  obtain ⟨x, rfl, rx⟩ := one_of rw
  obtain ⟨n, e, rfl⟩ := map_of h
  obtain ⟨k, rfl, hk⟩ := lenV_of S rx e
  exact call_len pins st σ H _ us Q I r ⟨x, k, rfl, by rw [hK]; exact hk, Ret.here q S (.int _)⟩
theorem sqL_of {x : V} {ds : List PyData} {K : PySem.W.Frag} (t : Tp K φ ex H x (.list ds)) : ∃ a vs, x = .ref a ∧ (∀ K', SqL K' H a vs) ∧ RpL K φ ex H vs ds :=
  let ⟨a, vs, e, h, r⟩ := t.lst
  ⟨a, vs, e, fun _ => .inl h, r⟩
theorem c_sum (hc : X.calm = true) : CallR X (.builtin "sum") (rBf R fun s ws => bfD s .sum ws) := by
  rintro pins st σ H xs us Q I r ⟨φ, ex, s, ws, z, S, rw, h, q⟩
  obtain ⟨w, rfl, h⟩ := one1_of h
  obtain ⟨x, rfl, rx⟩ := one_of rw
  obtain ⟨l, e, rfl⟩ := map_of h
  obtain ⟨d, e1, e2⟩ := bind_of e
  obtain ⟨ds, e3, e4⟩ := bind_of e2
  cases listOf_of e3
  obtain ⟨a, vs, rfl, hl, rl⟩ := sqL_of (S.top rx e1)
  cases ints_of rl e4
  exact cr_sum hc pins st σ H _ us Q I r ⟨a, l, rfl, hl _, Ret.here q S (.int _)⟩
theorem c_any (hc : X.calm = true) : CallR X (.builtin "any") (rBf R fun s ws => bfD s .any ws) := by
  rintro pins st σ H xs us Q I r ⟨φ, ex, s, ws, z, S, rw, h, q⟩
  obtain ⟨w, rfl, h⟩ := one1_of h
  obtain ⟨x, rfl, rx⟩ := one_of rw
  obtain ⟨l, e, rfl⟩ := map_of h
  obtain ⟨d, e1, e2⟩ := bind_of e
  obtain ⟨ds, e3, e4⟩ := bind_of e2
  cases listOf_of e3
  obtain ⟨a, vs, rfl, hl, rl⟩ := sqL_of (S.top rx e1)
  cases bools_of rl e4
  exact cr_any hc pins st σ H _ us Q I r ⟨a, l, rfl, hl _, Ret.here q S (.bl _)⟩
theorem c_all (hc : X.calm = true) : CallR X (.builtin "all") (rBf R fun s ws => bfD s .all ws) := by
  rintro pins st σ H xs us Q I r ⟨φ, ex, s, ws, z, S, rw, h, q⟩
  obtain ⟨w, rfl, h⟩ := one1_of h
  obtain ⟨x, rfl, rx⟩ := one_of rw
  obtain ⟨l, e, rfl⟩ := map_of h
  obtain ⟨d, e1, e2⟩ := bind_of e
  obtain ⟨ds, e3, e4⟩ := bind_of e2
  cases listOf_of e3
  obtain ⟨a, vs, rfl, hl, rl⟩ := sqL_of (S.top rx e1)
  cases bools_of rl e4
  exact cr_all hc pins st σ H _ us Q I r ⟨a, l, rfl, hl _, Ret.here q S (.bl _)⟩
theorem RpW.int {x : V} {i : Int} (r : RpW R φ ex H x (.d (.int i))) : x = .int i := by cases r with | d r => cases r; rfl
theorem RpW.bl {x : V} {i : Bool} (r : RpW R φ ex H x (.d (.bool i))) : x = .bl i := by cases r with | d r => cases r; rfl
theorem RpW.str {x : V} {i : Str} (r : RpW R φ ex H x (.d (.str i))) : x = .str i := by cases r with | d r => cases r; rfl
theorem c_int : CallR X (.type "int") (rBf R fun s ws => bfD s .int ws) := by
  rintro pins st σ H xs us Q I r ⟨φ, ex, s, ws, z, S, rw, h, q⟩
  obtain ⟨w, rfl, h⟩ := one1_of h
  obtain ⟨x, rfl, rx⟩ := one_of rw
  change bfInt w = some z at h
  unfold bfInt at h
  split at h
  · cases h; exact call_int1 pins st σ H _ us Q I r (.inl ⟨_, by rw [rx.int], Ret.here q S (.int _)⟩)
  · cases h; exact call_int1 pins st σ H _ us Q I r (.inr ⟨_, by rw [rx.bl], Ret.here q S (.int _)⟩)
  · cases h
theorem c_str : CallR X (.type "str") (rBf R fun s ws => bfD s .str ws) := by
  rintro pins st σ H xs us Q I r ⟨φ, ex, s, ws, z, S, rw, h, q⟩
  obtain ⟨w, rfl, h⟩ := one1_of h
  obtain ⟨x, rfl, rx⟩ := one_of rw
  change bfStr w = some z at h
  unfold bfStr at h
  split at h
  · split at h
    · cases h; exact call_str_int pins st σ H _ us Q I r ⟨_, by rw [rx.int], by assumption, Ret.here q S (.str _)⟩
    · cases h
  · cases h
theorem c_tuple (hK : X.K = R.K) : CallR X (.type "tuple") (rBf R fun s ws => bfD s .tuple ws) := by
  rintro pins st σ H xs us Q I r ⟨φ, ex, s, ws, z, S, rw, h, q⟩
  obtain ⟨w, rfl, h⟩ := one1_of h
  obtain ⟨x, rfl, rx⟩ := one_of rw
  obtain ⟨u, rfl, ru⟩ := vals1 r
  obtain ⟨ds, e, rfl⟩ := map_of h
  obtain ⟨d, e1, e2⟩ := bind_of e
  have t := S.top rx e1
  rcases seqOf_of e2 with rfl | rfl
  · obtain ⟨a, vs, rfl, hl, rl⟩ := sqL_of t
    exact rl_tuple pins st σ H _ u Q I ru (.inl ⟨a, vs, rfl, hl _, fun p hp => Ret.tup q S rl hp⟩)
  · have t2 := t
    rcases t with t | ⟨_, _, _, _, t, _⟩
    · obtain ⟨a, vs, rfl, hl, rl⟩ := t2.tup
      exact rl_tuple pins st σ H _ u Q I ru (.inr ⟨a, vs, rfl, by rw [hK]; exact hl, Ret.here q S t⟩)
    · cases t
theorem c_list (hK : X.K = R.K) : CallR X (.type "list") (rBf R fun s ws => bfD s .list ws) := by
  rintro pins st σ H xs us Q I r ⟨φ, ex, s, ws, z, S, rw, h, q⟩
  obtain ⟨w, rfl, h⟩ := one1_of h
  obtain ⟨x, rfl, rx⟩ := one_of rw
  obtain ⟨ds, e, rfl⟩ := map_of h
  obtain ⟨d, e1, e2⟩ := bind_of e
  have t := S.top rx e1
  rcases seqOf_of e2 with rfl | rfl
  · obtain ⟨a, vs, rfl, hl, rl⟩ := sqL_of t
    exact call_list_of pins st σ H _ us Q I r ⟨a, vs, rfl, .inl (hl _), fun p hp => q vs p rl hp⟩
  · obtain ⟨a, vs, rfl, hl, rl⟩ := t.tup
    exact call_list_of pins st σ H _ us Q I r ⟨a, vs, rfl, .inr (by rw [hK]; exact hl), fun p hp => q vs p rl hp⟩
theorem c_min (hc : X.calm = true) : CallR X (.builtin "min") (rBf R fun s ws => bfD s .min2 ws) := by
  rintro pins st σ H xs us Q I r ⟨φ, ex, s, ws, z, S, rw, h, q⟩
  obtain ⟨w, w2, rfl, h⟩ := two1_of h
  obtain ⟨x, y, rfl, rx, ry⟩ := two_of rw
  change bfMin w w2 = some z at h
  unfold bfMin at h
  split at h
  · cases h; exact call_min2 hc pins st σ H _ us Q I r ⟨_, _, by rw [rx.int, ry.int], Ret.here q S (.int _)⟩
  · cases h
theorem c_max (hc : X.calm = true) : CallR X (.builtin "max") (rBf R fun s ws => bfD s .max2 ws) := by
  rintro pins st σ H xs us Q I r ⟨φ, ex, s, ws, z, S, rw, h, q⟩
  obtain ⟨w, w2, rfl, h⟩ := two1_of h
  obtain ⟨x, y, rfl, rx, ry⟩ := two_of rw
  change bfMax w w2 = some z at h
  unfold bfMax at h
  split at h
  · cases h; exact call_max2 hc pins st σ H _ us Q I r ⟨_, _, by rw [rx.int, ry.int], Ret.here q S (.int _)⟩
  · cases h
end
/-! ### calls of built-ins by name -/
section
variable {X : Cx} {R : Gt} {E : L2.St → XK} {a b c e o : Expr} {ca cb cc ce co : Ex} {es : List Expr} {ces : List Ex} {pos p : Pos}
theorem bf_imp {f : Bf} {σ : L2.St} {H : Hp} {Q : VK} (h : tF R E (.bf f ces) σ H Q) : tA R E ces σ H fun xs H1 => rBf R (fun s ws => bfD s f ws) xs H1 Q := by
  obtain ⟨φ, ex, s, env, S, N, h⟩ := h
  simp only [runE] at h
  refine tA_mono (tA_bind mono_F S N h) fun xs H1 ⟨φ1, s1, ws, S1, N1, e1, r1, h1⟩ => ?_
  obtain ⟨w, hw, q⟩ := h1.of
  cases e : bfD s1 f ws with
  | none => rw [e] at hw; cases hw
  | some z =>
    rw [e] at hw
    cases hw
    exact ⟨φ1, ex, s1, ws, z, S1, r1, e, q.fret S1⟩
theorem f_bfB {id : String} {f : Bf} {x : Str} (hs : ∀ x p, e ≠ .Starred x p) (hc : CallR X (.builtin id) (rBf R fun s ws => bfD s f ws)) (hg : Gl X x) (hm : X.mg x = none) (hv : bootBuiltins x = some (.builtin id)) (hn : x ≠ "__name__") (hd : (x == ("__debug__" : Str)) = false)
    (ha : PA X (e :: es) (tA R E ces)) (hp : (backTo pos (starEach es X.env)).any (·.1) = false) : PE X (.Call (.Name x p) (e :: es) [] pos) (tF R E (.bf f ces)) :=
  peImp (pe_callB hc hg hm hv ha hn hd (star_ne hs es X.env) hp) fun σ H Q h => bf_imp h
theorem f_bfT {id : String} {f : Bf} {x : Str} (hs : ∀ x p, e ≠ .Starred x p) (hc : CallR X (.type id) (rBf R fun s ws => bfD s f ws)) (hg : Gl X x) (hm : X.mg x = none) (hv : bootBuiltins x = some (.type id)) (hn : x ≠ "__name__") (hd : (x == ("__debug__" : Str)) = false)
    (ha : PA X (e :: es) (tA R E ces)) (hp : (backTo pos (starEach es X.env)).any (·.1) = false) : PE X (.Call (.Name x p) (e :: es) [] pos) (tF R E (.bf f ces)) :=
  peImp (pe_callTy hc hg hm hv ha hn hd (star_ne hs es X.env) hp) fun σ H Q h => bf_imp h
/-! ### isinstance -/
def tyN : Ty → String
  | .bool => "bool" | .int => "int" | .str => "str" | .list => "list" | .tuple => "tuple"
theorem tyx_of {K : PySem.W.Frag} {φ : Ph} {ex : List Addr} {H : Hp} {x : V} {d : PyData} {t : Ty} {k : Bool} (q : Tp K φ ex H x d) (h : isD t d = some k) : ∃ u, TyX K H x u ∧ PySem.W.kitOne K u (.type (tyN t)) = some k := by
  cases d <;> simp only [isD] at h
  · rw [q.non]; refine ⟨_, .base .non, ?_⟩; cases h; cases t <;> exact kit_ty (by decide +kernel)
  · rw [q.bl]; refine ⟨_, .base (.bl _), ?_⟩; cases h; cases t <;> exact kit_ty (by decide +kernel)
  · rw [q.int]; refine ⟨_, .base (.int _), ?_⟩; cases h; cases t <;> exact kit_ty (by decide +kernel)
  · rw [q.str]; refine ⟨_, .base (.str _), ?_⟩; cases h; cases t <;> exact kit_ty (by decide +kernel)
  · obtain ⟨a, vs, rfl, hl, r⟩ := q.lst
    have e : PySem.W.kitOne K (.type "list") (.type (tyN t)) = some k := by cases h; cases t <;> exact kit_ty (by decide +kernel)
    rcases hl with hl | ⟨o, hl⟩
    · exact ⟨_, .base (.lst hl), e⟩
    · exact ⟨_, .base (.frz hl), e⟩
  · obtain ⟨a, vs, rfl, hl, r⟩ := q.tup
    have e : PySem.W.kitOne K (.type "tuple") (.type (tyN t)) = some k := by cases h; cases t <;> exact kit_ty (by decide +kernel)
    rcases hl with (hl | ⟨o, hl⟩) | ⟨o, its, n, hk, hc, _⟩
    · exact ⟨_, .base (.tup hl), e⟩
    · exact ⟨_, .fTuple hl, e⟩
    · exact ⟨_, .kTuple hk hc, e⟩
  · cases h
theorem boot_tyN (t : Ty) : bootBuiltins (Str.ofString (tyN t)) = some (.type (tyN t)) := by cases t <;> decide +kernel
theorem p_isa {t : Ty} {y : Str} {p2 : Pos} (hK : X.K = R.K) (hs : ∀ x p, a ≠ .Starred x p) (hg : Gl X "isinstance") (hm : X.mg "isinstance" = none) (hy : y = Str.ofString (tyN t)) (hg2 : Gl X y) (hm2 : X.mg y = none) (ha : PE X a (tD R E ca)) :
    PE X (.Call (.Name "isinstance" p) [a, .Name y p2] [] pos) (tD R E (.bf (.isa t) [ca])) := by
  have hy2 : PE X (.Name y p2) (tC (.ty (tyN t))) := by
    subst hy
    exact pe_bltn hg2 hm2 (boot_tyN t) rfl (by cases t <;> decide +kernel) (by cases t <;> decide +kernel)
  refine peImp (pe_callB call_isi hg hm boot_isinstance (pa_cons ha (pa_cons hy2 pa_nil) (star_ne hs _ X.env)) (by decide) (by decide) (star_ne hs _ X.env)) fun σ H Q ⟨φ, ex, s, env, S, N, h⟩ => ?_
  simp only [runE, runEs, res_assoc] at h
  refine tD_mono (tD_bind mono_W S N h) fun x H1 ⟨φ1, s1, w, S1, N1, e1, r1, h1⟩ => ?_
  dsimp only [Res.bind] at h1
  obtain ⟨z, hz, q⟩ := h1.of
  obtain ⟨z', hz2, rfl⟩ := map_of hz
  obtain ⟨k, hz3, rfl⟩ := map_of (show bfIsa s1 t w = some z' from hz2)
  obtain ⟨d, e, e2⟩ := bind_of hz3
  obtain ⟨u, tx, hk⟩ := tyx_of (S1.top r1 e) e2
  rw [← hK] at tx hk
  exact ⟨x, .ty (tyN t), u, .type (tyN t), k, rfl, .ty _, tx, hk, q _ φ1 H1 (Ext.refl _ _) S1 (.d (.bl _))⟩
end
end Cc

set_option linter.all false
set_option maxRecDepth 100000
set_option maxHeartbeats 1000000
/-! Cc: methods of built-in types, attributes. -/
namespace Cc
open PySem PySem.Spec PyProof.Rows L2

theorem base_ne {o : Expr} (h : ∀ f es k p, o ≠ .Call f es k p) (m : Str) (env : PySem.Env) : attributeBase o m env (eval o env) = eval o env := by
  cases o <;> first | rfl | exact absurd rfl (h _ _ _ _)
section
variable {X : Cx} {R : Gt} {E : L2.St → XK} {a b c e o : Expr} {ca cb cc ce co : Ex} {es : List Expr} {ces : List Ex} {pos p apos : Pos}
/-- what a built-in's method is asked -/
def rBm (R : Gt) (f : Store → W → List W → Option PyData) : V → List V → Hp → VK → Prop := fun x xs H Q => ∃ φ ex s wo ws z, Sim R φ ex H s ∧ RpW R φ ex H x wo ∧ RpWL R φ ex H xs ws ∧ f s wo ws = some z ∧ FRet R φ ex H s z Q
theorem m_join (hK : X.K = R.K) : MtR X "str.join" (rBm R fun s o ws => bmD s .join o ws) := by
  rintro pins st σ H x xs v us Q I rv r ⟨φ, ex, s, wo, ws, z, S, ro, rw, h, q⟩
  obtain ⟨w, rfl, h⟩ := one1_of h
  obtain ⟨y, rfl, ry⟩ := one_of rw
  change bmJoin s wo w = some z at h
  unfold bmJoin at h
  split at h
  · rename_i a
    obtain ⟨ys, e, h⟩ := bind_of h
    obtain ⟨d, e1, e2⟩ := bind_of e
    obtain ⟨ds, e3, e4⟩ := bind_of e2
    have t := S.top ry e1
    split at h
    · rename_i hz
      cases h
      rcases seqOf_of e3 with rfl | rfl
      · obtain ⟨p, vs, rfl, hl, rl⟩ := sqL_of t
        cases strs_of rl e4
        exact mt_join pins st σ H x _ v us Q I rv r ⟨_, p, ys, ro.str, rfl, .inl (hl _), hz, Ret.here q S (.str _)⟩
      · obtain ⟨p, vs, rfl, hl, rl⟩ := t.tup
        cases strs_of rl e4
        exact mt_join pins st σ H x _ v us Q I rv r ⟨_, p, ys, ro.str, rfl, .inr (by rw [hK]; exact hl), hz, Ret.here q S (.str _)⟩
    · cases h
  · cases h
theorem RpL.strs {K : PySem.W.Frag} {φ : Ph} {ex : List Addr} {H : Hp} : ∀ l : List Str, RpL K φ ex H (l.map V.str) (l.map PyData.str)
  | [] => .nil
  | x :: l => .cons (.str x) (RpL.strs l)
theorem m_split : MtR X "str.split" (rBm R fun s o ws => bmD s .split o ws) := by
  rintro pins st σ H x xs v us Q I rv r ⟨φ, ex, s, wo, ws, z, S, ro, rw, h, q⟩
  obtain ⟨w, rfl, h⟩ := one1_of h
  obtain ⟨y, rfl, ry⟩ := one_of rw
  change bmSplit wo w = some z at h
  unfold bmSplit at h
  split at h
  · split at h
    · rename_i hz
      cases h
      exact mt_split pins st σ H x _ v us Q I rv r ⟨_, _, ro.str, by rw [ry.str], hz.1, hz.2, fun p hp => q _ p (RpL.strs _) hp⟩
    · cases h
  · cases h
theorem m_partition : MtR X "str.partition" (rBm R fun s o ws => bmD s .partition o ws) := by
  rintro pins st σ H x xs v us Q I rv r ⟨φ, ex, s, wo, ws, z, S, ro, rw, h, q⟩
  obtain ⟨w, rfl, h⟩ := one1_of h
  obtain ⟨y, rfl, ry⟩ := one_of rw
  change bmPartition wo w = some z at h
  unfold bmPartition at h
  split at h
  · split at h
    · rename_i hz
      cases h
      exact mt_partition pins st σ H x _ v us Q I rv r ⟨_, _, ro.str, by rw [ry.str], hz.1, hz.2, fun p hp => Ret.tup q S (.cons (.str _) (.cons (.str _) (.cons (.str _) .nil))) hp⟩
    · cases h
  · cases h
theorem m_startswith : MtR X "str.startswith" (rBm R fun s o ws => bmD s .startswith o ws) := by
  rintro pins st σ H x xs v us Q I rv r ⟨φ, ex, s, wo, ws, z, S, ro, rw, h, q⟩
  obtain ⟨w, rfl, h⟩ := one1_of h
  obtain ⟨y, rfl, ry⟩ := one_of rw
  change bmStarts wo w = some z at h
  unfold bmStarts at h
  split at h
  · cases h
    exact mt_startswith pins st σ H x _ v us Q I rv r ⟨_, _, ro.str, by rw [ry.str], Ret.here q S (.bl _)⟩
  · cases h
theorem few1 {a : Expr} (h : ∀ x p, a ≠ .Starred x p) (cpos : Pos) (env : PySem.Env) : ((backTo cpos (starEach [a] env)).all (fun x => !x.1) && (backToKw cpos (keywordEach [] env)).all (fun x => x.1.isSome)
      && decide (([a] : List Expr).length + ([] : List Keyword).length + (if ([] : List Keyword).isEmpty then 0 else 1) < 30)) = true := by
  rw [star_ne h]
  rfl
/-- o.m(a) of a text -/
theorem f_bm {m : Bm} {name : Str} {id : String} (hm : MtR X id (rBm R fun s o ws => bmD s m o ws)) (slot : Slot "str" name id) (hty : typeOf (.builtin id) = pure (.type "method_descriptor"))
    (hb : ∀ f es k p, o ≠ .Call f es k p) (hs : ∀ x p, a ≠ .Starred x p) (hl : (apos.endLine == pos.line) = true) (ho : PE X o (tD R E co)) (ha : PA X [a] (tA R E ces)) :
    PE X (.Call (.Attribute o name apos) [a] [] pos) (tF R E (.bm m co ces)) :=
  peImp (pe_bm PySem.F.plainAttrs_str slot hty hm ho ha (base_ne hb name X.env) (few1 hs pos X.env) hl (star_ne hs [] X.env)) fun σ H Q ⟨φ, ex, s, env, S, N, h⟩ => by
    simp only [runE] at h
    refine tD_mono (tD_bind mono_F S N h) fun x H1 ⟨φ1, s1, wo, S1, N1, e1, r1, h1⟩ => ?_
    dsimp only at h1
    split at h1
    · rename_i hk
      have ht : tyV X.K "str" x H1 := by
        unfold bmOk at hk
        split at hk
        · rw [r1.str]; rfl
        · cases hk
      refine ⟨ht, tA_mono (tA_bind mono_F S1 N1 h1) fun xs H2 ⟨φ2, s2, ws, S2, N2, e2, r2, h2⟩ => ?_⟩
      obtain ⟨w, hw, q⟩ := h2.of
      obtain ⟨z, hz, rfl⟩ := map_of hw
      exact ⟨φ2, ex, s2, wo, ws, z, S2, RpW.ext e2 _ _ r1, r2, hz, q.fret S2⟩
    · exact h1.elim
/-! ### a list's methods that only read -/
def rLm (R : Gt) (m : Lm) : V → List V → Hp → VK → Prop := fun x xs H Q => ∃ φ ex s wo ws z, Sim R φ ex H s ∧ RpW R φ ex H x wo ∧ RpWL R φ ex H xs ws ∧ lmD s m wo ws = some z ∧ ∃ j : Nat, z = .int j ∧ Q (.int j) H
theorem mt_countD (hu : X.A.units + 65 < cLine) : MtR X "list.count" (fun x xs H Q => ∃ (a : Addr) (y : V) (d : PyData) (ds : List PyData), x = V.ref a ∧ xs = [y] ∧ Dp X.K H (V.ref a) (.list ds) ∧ Dp X.K H y d ∧ SeqAt.shaped (.list ds) = true ∧ SeqAt.shaped d = true ∧ Q (.int (ds.countP fun z => PyData.eqv z d : Nat)) H) := by
  rintro pins s σ H x xs v us Q I rx rxs ⟨a, y, d, ds, rfl, rfl, hl, hy, sl, sd, q⟩
  cases rx
  obtain ⟨uy, rfl, ry⟩ := rxs.one
  obtain ⟨bs, r1⟩ := Dp.reads I d y uy hy ry
  have hxs : PyData.canLayAll0 ds = true := SeqAt.canLay_of_shaped sl
  cases hl with
  | lst hs ha =>
    obtain ⟨its, rv, ⟨⟨cls, dd, data, sls⟩, n, ho, hc, hdn, hdt⟩, hlen⟩ := I.list hs
    simp only at hc hdt; subst hc hdt
    obtain ⟨as, h4⟩ := Dp.readsAll I ds _ its ha rv
    have hmap : its.map (SeqAt.readOf s.heap) = ds := SeqAt.readsAll_map ds its as hxs h4
    have rm : X.A.units + 1 + min (PyData.depthAll ds) d.depth < cLine := room_in_shaped sd hu
    refine call_meets PySem.F.slot_list_count ⟨_, ho, rfl⟩ PySem.F.entry_list_count (PySem.F.args_list_count_2 _ _) (SeqAt.list_countAt a its.toArray n dd sls uy (fun u => PyData.eqv (SeqAt.readOf s.heap u) d))
      ⟨ho, SeqAt.items_eqAt (vs := its.toArray) (show ReadsAll s.heap its.toArray.toList ds as from h4) r1 hxs (SeqAt.canLay_of_shaped sd) rm, ⟨.int (ds.countP fun z => PyData.eqv z d : Nat), H, I.tok _, ⟨s.toks, ?_⟩, q⟩⟩
    rw [← hmap, List.countP_map]
    rfl
theorem lm_top {s : Store} {o w : W} {F : List PyData → PyData → Option PyData} {z : PyData} (h : (((top s o).bind listOf).bind fun ds => (top s w).bind fun d => if SeqAt.shaped (.list ds) && SeqAt.shaped d then F ds d else none) = some z) :
    ∃ ds d, top s o = some (.list ds) ∧ top s w = some d ∧ SeqAt.shaped (.list ds) = true ∧ SeqAt.shaped d = true ∧ F ds d = some z := by
  obtain ⟨ds, h1, h⟩ := bind_of h
  obtain ⟨y, hy, h1⟩ := bind_of h1
  obtain ⟨d, hd, h⟩ := bind_of h
  obtain rfl : y = .list ds := by cases y <;> simp only [listOf] at h1 <;> first | (cases h1; rfl) | cases h1
  split at h
  · rename_i q
    simp only [Bool.and_eq_true] at q
    exact ⟨ds, d, hy, hd, q.1, q.2, h⟩
  · cases h
theorem m_count (hK : X.K = R.K) (hu : X.A.units + 65 < cLine) : MtR X "list.count" (rLm R .count) := by
  rintro pins st σ H x xs v us Q I rv r ⟨φ, ex, s, wo, ws, z, S, ro, rw', h, j, rfl, q⟩
  obtain ⟨w, rfl, h⟩ := one1_of h
  obtain ⟨y, rfl, ry⟩ := one_of rw'
  obtain ⟨ds, d, h1, h2, h3, h4, h5⟩ := lm_top h
  obtain ⟨a, vs, rfl, hl, rl⟩ := sqL_of (S.top ro h1)
  cases h5
  rw [← hK] at rl
  exact mt_countD hu pins st σ H _ _ v us Q I rv r ⟨a, y, d, ds, rfl, rfl, .lst (hl _) (RpL.dp ds _ rl), by rw [hK]; exact (S.top ry h2).dp, h3, h4, q⟩
theorem m_index (hK : X.K = R.K) (hu : X.A.units + 65 < cLine) : MtR X "list.index" (rLm R .index) := by
  rintro pins st σ H x xs v us Q I rv r ⟨φ, ex, s, wo, ws, z, S, ro, rw', h, j, rfl, q⟩
  obtain ⟨w, rfl, h⟩ := one1_of h
  obtain ⟨y, rfl, ry⟩ := one_of rw'
  obtain ⟨ds, d, h1, h2, h3, h4, h5⟩ := lm_top h
  obtain ⟨a, vs, rfl, hl, rl⟩ := sqL_of (S.top ro h1)
  obtain ⟨k, h6, e⟩ := map_of h5
  have ek : k = j := by
    have := PyData.int.inj e
    omega
  subst ek
  obtain ⟨hk, p1, p2⟩ := List.findIdx?_eq_some_iff_getElem.mp h6
  rw [← hK] at rl
  refine mt_indexD hu pins st σ H _ _ v us Q I rv r ⟨a, y, d, ds, k, ds[k], rfl, rfl, .lst (hl _) (RpL.dp ds _ rl), by rw [hK]; exact (S.top ry h2).dp, h3, h4, List.getElem?_eq_getElem hk, p1, fun m z' hm hz => ?_, q⟩
  have := p2 m hm
  rw [List.getElem?_eq_getElem (by omega)] at hz
  cases hz
  simpa using this
theorem lm_ty {φ : Ph} {ex : List Addr} {H : Hp} {s : Store} {x : V} {w : W} (S : Sim R φ ex H s) (r : RpW R φ ex H x w) (h : lmOk s w = true) (K : PySem.W.Frag) : tyV K "list" x H := by
  unfold lmOk at h
  split at h
  · rename_i ds q
    obtain ⟨a, vs, rfl, hl, _⟩ := sqL_of (S.top r q)
    exact .inl ⟨rfl, vs, hl _⟩
  · cases h
/-- o.m(a) of a list -/
theorem p_lm {m : Lm} {name : Str} {id : String} (hm : MtR X id (rLm R m)) (slot : Slot "list" name id) (hty : typeOf (.builtin id) = pure (.type "method_descriptor"))
    (hb : ∀ f es k p, o ≠ .Call f es k p) (hs : ∀ x p, a ≠ .Starred x p) (hl : (apos.endLine == pos.line) = true) (ho : PE X o (tD R E co)) (ha : PA X [a] (tA R E ces)) :
    PE X (.Call (.Attribute o name apos) [a] [] pos) (tD R E (.lm m co ces)) :=
  peImp (pe_bm PySem.F.plainAttrs_list slot hty hm ho ha (base_ne hb name X.env) (few1 hs pos X.env) hl (star_ne hs [] X.env)) fun σ H Q ⟨φ, ex, s, env, S, N, h⟩ => by
    simp only [runE] at h
    refine tD_mono (tD_bind mono_W S N h) fun x H1 ⟨φ1, s1, wo, S1, N1, e1, r1, h1⟩ => ?_
    dsimp only at h1
    split at h1
    · rename_i hk
      refine ⟨lm_ty S1 r1 hk _, tA_mono (tA_bind mono_W S1 N1 h1) fun xs H2 ⟨φ2, s2, ws, S2, N2, e2, r2, h2⟩ => ?_⟩
      obtain ⟨w, hw, q⟩ := h2.of
      obtain ⟨z, hz, rfl⟩ := map_of hw
      have hj : ∃ j : Nat, z = .int j := by
        cases m
        · obtain ⟨u, rfl, hz⟩ := one1_of hz
          obtain ⟨ds, d, _, _, _, _, h5⟩ := lm_top hz
          cases h5; exact ⟨_, rfl⟩
        · obtain ⟨u, rfl, hz⟩ := one1_of hz
          obtain ⟨ds, d, _, _, _, _, h5⟩ := lm_top hz
          obtain ⟨k, _, rfl⟩ := map_of h5; exact ⟨k, rfl⟩
      obtain ⟨j, rfl⟩ := hj
      exact ⟨φ2, ex, s2, wo, ws, _, S2, RpW.ext e2 _ _ r1, r2, hz, j, rfl, q _ φ2 H2 (Ext.refl _ _) S2 (.d (.int _))⟩
    · exact h1.elim
/-! ### a list cell changed -/
theorem RpL.dropLast {K : PySem.W.Frag} {φ : Ph} {ex : List Addr} {H : Hp} {ds : List PyData} {vs : List V} (h : RpL K φ ex H vs ds) : RpL K φ ex H vs.dropLast ds.dropLast := by
  rw [List.dropLast_eq_take, List.dropLast_eq_take, h.length]
  exact h.take _
/-- by values: what the method asks -/
def rMut (R : Gt) (m : Mt) : V → List V → Hp → VK → Prop := fun x xs H Q => ∃ φ ex s wo ws, Sim R φ ex H s ∧ RpW R φ ex H x wo ∧ RpWL R φ ex H xs ws ∧ RunsTo (mutW m wo ws s) (RetW R ex Q φ H) (fun _ _ => False)
theorem cell_lst {φ : Ph} {ex : List Addr} {H : Hp} {s : Store} {n : Nat} {x : V} {c : Cell} (S : Sim R φ ex H s) (h : s[n]? = some c) (r : RpW R φ ex H x (.ref n)) (hc : (∃ ds, c = .lst ds) ∨ ∃ ws, c = .wl ws) :
    ∃ a vs, x = .ref a ∧ φ[n]? = some (some a) ∧ H a = some (.lst vs) ∧ CellR R φ ex H a c := by
  rcases hc with ⟨ds, rfl⟩ | ⟨ws, rfl⟩
  · obtain ⟨a, vs, e, e2, e3, e4⟩ := S.lst h r; exact ⟨a, vs, e, e2, e3, vs, e3, e4⟩
  · obtain ⟨a, vs, e, e2, e3, e4⟩ := S.wl h r; exact ⟨a, vs, e, e2, e3, vs, e3, e4⟩
theorem chg_of {φ : Ph} {ex : List Addr} {H : Hp} {s : Store} {wo : W} {f : Cell → Option (PyData × Cell)} {Q : VK} (h : RunsTo (chg wo s f) (RetW R ex Q φ H) (fun _ _ => False)) :
    ∃ n c z c', wo = .ref n ∧ s[n]? = some c ∧ f c = some (z, c') ∧ RetW R ex Q φ H (.d z) (s.set n c') := by
  unfold chg at h
  split at h
  · rename_i n
    split at h
    · rename_i z c' e
      obtain ⟨c, e1, e2⟩ := bind_of e
      exact ⟨n, c, z, c', rfl, e1, e2, h⟩
    · exact h.elim
  · exact h.elim
theorem one_list {ws : List W} {α : Type} {r : W → Res α} {ok : α → Store → Prop} {xc : Exn → Store → Prop} (h : RunsTo (match ws with | [w] => r w | _ => .stuck) ok xc) : ∃ w, ws = [w] ∧ RunsTo (r w) ok xc := by
  split at h
  · exact ⟨_, rfl, h⟩
  · exact h.elim
theorem nil_list {ws : List W} {α : Type} {r : Res α} {ok : α → Store → Prop} {xc : Exn → Store → Prop} (h : RunsTo (match ws with | [] => r | _ => .stuck) ok xc) : ws = [] ∧ RunsTo r ok xc := by
  split at h
  · exact ⟨rfl, h⟩
  · exact h.elim
theorem chg_noexc {wo : W} {s : Store} {f : Cell → Option (PyData × Cell)} {z : Exn} {t : Store} (h : chg wo s f = .exc z t) : False := by
  unfold chg at h
  split at h
  · split at h <;> cases h
  · cases h
theorem mut_noexc {m : Mt} {wo : W} {ws : List W} {s : Store} {z : Exn} {t : Store} (h : mutW m wo ws s = .exc z t) : False := by
  unfold mutW at h
  cases m <;> dsimp only at h <;> split at h <;> first | exact chg_noexc h | cases h
theorem m_append : MtR X "list.append" (rMut R .append) := by
  rintro pins st σ H x xs v us Q I rv r ⟨φ, ex, s, wo, ws, S, ro, rw, h⟩
  obtain ⟨w, rfl, h⟩ := one_list h
  obtain ⟨n, c, z, c', rfl, hc, hf, h⟩ := chg_of h
  obtain ⟨y, rfl, ry⟩ := one_of rw
  obtain ⟨c2, ha, e⟩ := map_of hf
  cases e
  unfold appC at ha
  split at ha
  · rename_i ds
    obtain ⟨a, vs, rfl, hφ, hl, rl⟩ := S.lst hc ro
    split at ha
    · rename_i hz
      cases ha
      refine mt_append pins st σ H _ _ v us Q I rv r ⟨a, vs, y, rfl, rfl, hl, by rw [rl.length]; exact hz, ?_⟩
      obtain ⟨e, S'⟩ := S.put (o := .lst (vs ++ [y])) (c := appL ds w) hφ fun e => by
        cases w with
        | d x => cases ry with | d ry => exact ⟨_, upd_same, RpL.ext e _ _ (rl.append (.cons ry .nil))⟩
        | ref k => exact ⟨_, upd_same, RpWL.ext e _ _ ((RpWL.of rl).append (.cons ry .nil))⟩
        | tup k => exact ⟨_, upd_same, RpWL.ext e _ _ ((RpWL.of rl).append (.cons ry .nil))⟩
        | fn k => exact ⟨_, upd_same, RpWL.ext e _ _ ((RpWL.of rl).append (.cons ry .nil))⟩
      exact h _ φ _ e S' (.d .non)
    · cases ha
  · rename_i ds
    obtain ⟨a, vs, rfl, hφ, hl, rl⟩ := S.wl hc ro
    split at ha
    · rename_i hz
      cases ha
      refine mt_append pins st σ H _ _ v us Q I rv r ⟨a, vs, y, rfl, rfl, hl, by rw [rl.length]; exact hz, ?_⟩
      obtain ⟨e, S'⟩ := S.put (o := .lst (vs ++ [y])) (c := .wl (ds ++ [w])) hφ fun e => ⟨_, upd_same, RpWL.ext e _ _ (rl.append (.cons ry .nil))⟩
      exact h _ φ _ e S' (.d .non)
    · cases ha
  · cases ha
/-- list.extend by any list -/
theorem mt_extendR : MtR X "list.extend" (fun x vs H Q => ∃ l b xs zs, x = .ref l ∧ vs = [.ref b] ∧ H l = some (.lst xs) ∧ Rd H b (.lst zs) ∧ xs.length + zs.length ≤ sizeLine ∧ Q .non (upd H l (.lst (xs ++ zs)))) := by
  intro pins s σ H x vs v us Q I rx rv h
  obtain ⟨l, b, xs, zs, rfl, rfl, hH, hB, hz, q⟩ := h
  cases rx
  obtain ⟨u, rfl, ru⟩ := rv.one
  cases ru
  obtain ⟨z, its, n, r, hl, e⟩ := I.lstM hH
  obtain ⟨z2, its2, n2, r2, e2⟩ := rd_lst I hB
  have hl2 := r2.length
  have hsz : its.toArray.size + its2.toArray.size ≤ sizeLine := by rw [List.size_toArray, List.size_toArray]; omega
  have hlong : ¬ (!its.toArray.isEmpty && Builtin.List.listTooLong (its.toArray.size + its2.toArray.size)) = true := by
    rw [notLongL hsz, Bool.and_false]
    exact Bool.false_ne_true
  refine call_meets F.slot_list_extend ⟨_, e, rfl⟩ F.entry_list_extend (F.args_list_extend_2 _ _)
    (AutoSeq1.list_extend_list_list_0 l its.toArray n b its2.toArray n2 hlong (by rw [List.size_toArray]; omega) (by omega)) ⟨e, e2, ?_⟩
  refine ⟨.non, _, I.lset (its' := its ++ its2) hH e (by simp) (r.append r2) ?_, rfl, q⟩
  rw [List.length_append]; omega
theorem m_extend : MtR X "list.extend" (rMut R .extend) := by
  rintro pins st σ H x xs v us Q I rv r ⟨φ, ex, s, wo, ws, S, ro, rw, h⟩
  obtain ⟨w, rfl, h⟩ := one_list h
  obtain ⟨n, c, z, c', rfl, hc, hf, h⟩ := chg_of h
  obtain ⟨y, rfl, ry⟩ := one_of rw
  obtain ⟨c2, ha, e⟩ := map_of hf
  cases e
  unfold extC at ha
  split at ha
  · rename_i ds
    obtain ⟨a, vs, rfl, hφ, hl, rl⟩ := S.lst hc ro
    obtain ⟨ys, e1, ha⟩ := bind_of ha
    obtain ⟨d, e2, e3⟩ := bind_of e1
    cases listOf_of e3
    obtain ⟨b, us', rfl, hb, rb⟩ := (S.top ry e2).lst
    split at ha
    · rename_i hz
      cases ha
      refine mt_extendR pins st σ H _ _ v us Q I rv r ⟨a, b, vs, us', rfl, rfl, hl, hb, by rw [rl.length, rb.length]; exact hz, ?_⟩
      obtain ⟨e, S'⟩ := S.put (o := .lst (vs ++ us')) (c := .lst (ds ++ ys)) hφ fun e => ⟨_, upd_same, RpL.ext e _ _ (rl.append rb)⟩
      exact h _ φ _ e S' (.d .non)
    · cases ha
  · cases ha
theorem m_pop : MtR X "list.pop" (rMut R .pop) := by
  rintro pins st σ H x xs v us Q I rv r ⟨φ, ex, s, wo, ws, S, ro, rw, h⟩
  obtain ⟨rfl, h⟩ := nil_list h
  obtain ⟨n, c, z, c', rfl, hc, hf, h⟩ := chg_of h
  cases rw
  unfold popC at hf
  split at hf
  · rename_i ds
    obtain ⟨a, vs, rfl, hφ, hl, rl⟩ := S.lst hc ro
    obtain ⟨d, e1, e2⟩ := map_of hf
    cases e2
    obtain ⟨u, e3, ru⟩ := rl.get e1
    refine mt_pop pins st σ H _ _ v us Q I rv r ⟨a, vs, u, rfl, rfl, hl, by rw [rl.length]; exact e3, ?_⟩
    obtain ⟨e, S'⟩ := S.put (o := .lst vs.dropLast) (c := .lst ds.dropLast) hφ fun e => ⟨_, upd_same, RpL.ext e _ _ rl.dropLast⟩
    exact h _ φ _ e S' (.d (Rp.ext e _ _ ru))
  · cases hf
theorem RpL.eraseIdx {K : PySem.W.Frag} {φ : Ph} {ex : List Addr} {H : Hp} : ∀ {ds : List PyData} {vs : List V} (k : Nat), RpL K φ ex H vs ds → RpL K φ ex H (vs.eraseIdx k) (ds.eraseIdx k)
  | _, _, _, .nil => .nil
  | _, _, 0, .cons _ t => t
  | _, _, k + 1, .cons r t => .cons r (RpL.eraseIdx k t)
theorem m_popAt : MtR X "list.pop" (rMut R .popAt) := by
  rintro pins st σ H x xs v us Q I rv r ⟨φ, ex, s, wo, ws, S, ro, rw, h⟩
  obtain ⟨w, rfl, h⟩ := one_list h
  obtain ⟨n, c, z, c', rfl, hc, hf, h⟩ := chg_of h
  obtain ⟨y, rfl, ry⟩ := one_of rw
  unfold popAtC at hf
  split at hf
  · rename_i i h
    split at hf
    · rename_i ds
      obtain ⟨a, vs, rfl, hφ, hl, rl⟩ := S.lst hc ro
      split at hf
      · rename_i hz
        obtain ⟨k, hk, hf⟩ := bind_of hf
        obtain ⟨d, e1, e2⟩ := map_of hf
        cases e2
        obtain ⟨u, e3, ru⟩ := rl.get e1
        obtain ⟨q1, q2, q3, q4⟩ := ixN_seq hk
        have hsz : sizeLine ≤ 2 ^ 62 := by decide
        cases ry with | d ry =>
        cases ry
        refine mt_popAt pins st σ H _ _ v us Q I rv r ⟨a, vs, i, k, u, rfl, rfl, hl, by omega, by omega, by rw [rl.length]; exact q1, e3, ?_⟩
        obtain ⟨e, S'⟩ := S.put (o := .lst (vs.eraseIdx k)) (c := .lst (ds.eraseIdx k)) hφ fun e => ⟨_, upd_same, RpL.ext e _ _ (rl.eraseIdx k)⟩
        exact h _ φ _ e S' (.d (Rp.ext e _ _ ru))
      · cases hf
    · cases hf
  · cases hf
theorem m_clear : MtR X "list.clear" (rMut R .clear) := by
  rintro pins st σ H x xs v us Q I rv r ⟨φ, ex, s, wo, ws, S, ro, rw, h⟩
  obtain ⟨rfl, h⟩ := nil_list h
  obtain ⟨n, c, z, c', rfl, hc, hf, h⟩ := chg_of h
  cases rw
  obtain ⟨c2, ha, e⟩ := map_of hf
  cases e
  have key : ∀ a vs, x = .ref a → φ[n]? = some (some a) → H a = some (.lst vs) → c' = .lst [] → wpAny (model X.prog X.w) X.A (call (.builtin "list.clear") (v :: us)) (EP X pins σ Q) X.xe st := fun a vs e hφ hl ec => by
    subst e ec
    refine mt_clear pins st σ H _ _ v us Q I rv r ⟨a, vs, rfl, rfl, hl, ?_⟩
    obtain ⟨e, S'⟩ := S.put (o := .lst []) (c := .lst []) hφ fun e => ⟨_, upd_same, .nil⟩
    exact h _ φ _ e S' (.d .non)
  unfold clearC at ha
  split at ha
  · obtain ⟨a, vs, e, hφ, hl, rl⟩ := S.lst hc ro
    cases ha; exact key a vs e hφ hl rfl
  · obtain ⟨a, vs, e, hφ, hl, rl⟩ := S.wl hc ro
    cases ha; exact key a vs e hφ hl rfl
  · cases ha
theorem cell_ty {φ : Ph} {ex : List Addr} {H : Hp} {s : Store} {x : V} {w : W} (S : Sim R φ ex H s) (r : RpW R φ ex H x w) (h : isLstC s w = true) (K : PySem.W.Frag) : tyV K "list" x H := by
  unfold isLstC at h
  split at h
  · split at h
    · rename_i hs
      obtain ⟨a, vs, rfl, _, hl, _⟩ := S.lst hs r
      exact .inl ⟨rfl, vs, .of hl⟩
    · rename_i hs
      obtain ⟨a, vs, rfl, _, hl, _⟩ := S.wl hs r
      exact .inl ⟨rfl, vs, .of hl⟩
    · cases h
  · cases h
/-- o.m(a) of a list cell -/
theorem p_mut1 {m : Mt} {name : Str} {id : String} (hm : MtR X id (rMut R m)) (slot : Slot "list" name id) (hty : typeOf (.builtin id) = pure (.type "method_descriptor"))
    (hb : ∀ f es k p, o ≠ .Call f es k p) (hs : ∀ x p, a ≠ .Starred x p) (hl : (apos.endLine == pos.line) = true) (ho : PE X o (tD R E co)) (ha : PA X [a] (tA R E ces)) :
    PE X (.Call (.Attribute o name apos) [a] [] pos) (tD R E (.mut m co ces)) :=
  peImp (pe_bm PySem.F.plainAttrs_list slot hty hm ho ha (base_ne hb name X.env) (few1 hs pos X.env) hl (star_ne hs [] X.env)) fun σ H Q ⟨φ, ex, s, env, S, N, h⟩ => by
    simp only [runE] at h
    refine tD_mono (tD_bind mono_W S N h) fun x H1 ⟨φ1, s1, wo, S1, N1, e1, r1, h1⟩ => ?_
    dsimp only at h1
    split at h1
    · rename_i hk
      refine ⟨cell_ty S1 r1 hk _, tA_mono (tA_bind mono_W S1 N1 h1) fun xs H2 ⟨φ2, s2, ws, S2, N2, e2, r2, h2⟩ => ?_⟩
      refine ⟨φ2, ex, s2, wo, ws, S2, RpW.ext e2 _ _ r1, r2, ?_⟩
      dsimp only at h2
      cases hr : mutW m wo ws s2 with
      | ok w t => rw [hr] at h2; exact h2
      | stuck => rw [hr] at h2; exact h2
      | exc z t => exact (mut_noexc hr).elim
    · exact h1.elim
theorem p_mut0 {m : Mt} {name : Str} {id : String} (hm : MtR X id (rMut R m)) (slot : Slot "list" name id) (hty : typeOf (.builtin id) = pure (.type "method_descriptor"))
    (hb : ∀ f es k p, o ≠ .Call f es k p) (hl : (apos.endLine == pos.line) = true) (ho : PE X o (tD R E co)) :
    PE X (.Call (.Attribute o name apos) [] [] pos) (tD R E (.mut m co [])) :=
  peImp (pe_bm0 PySem.F.plainAttrs_list slot hty hm ho (base_ne hb name X.env) hl) fun σ H Q ⟨φ, ex, s, env, S, N, h⟩ => by
    simp only [runE] at h
    refine tD_mono (tD_bind mono_W S N h) fun x H1 ⟨φ1, s1, wo, S1, N1, e1, r1, h1⟩ => ?_
    dsimp only at h1
    split at h1
    · rename_i hk
      refine ⟨cell_ty S1 r1 hk _, φ1, ex, s1, wo, [], S1, r1, .nil, ?_⟩
      simp only [runEs, Res.bind_ok] at h1
      cases hr : mutW m wo [] s1 with
      | ok w t => rw [hr] at h1; exact h1
      | stuck => rw [hr] at h1; exact h1
      | exc z t => exact (mut_noexc hr).elim
    · exact h1.elim
/-! ### attributes -/
structure GOk (R : Gt) : Prop where
  fo : ∀ c f, R.FO c f = true → Cls R.K (R.ca c) ∧ NoAttr R.K (R.ca c) f
  me : ∀ c m i, R.M c m = some i → Cls R.K (R.ca c) ∧ Meth R.K (R.ca c) m (R.fa i)
  mkC : ∀ c i, R.CI c = some i → Mk R.K (R.ca c) (R.fa i)
theorem p_fld {f : Str} (hK : X.K = R.K) (G : GOk R) (hb : ∀ f es k p, o ≠ .Call f es k p) (ho : PE X o (tD R E co)) : PE X (.Attribute o f pos) (tD R E (.fld co f)) :=
  peImp (pe_fld ho (base_ne hb f X.env)) fun σ H Q ⟨φ, ex, s, env, S, N, h⟩ => by
    simp only [runE] at h
    refine tD_mono (tD_bind mono_W S N h) fun x H1 ⟨φ1, s1, wo, S1, N1, e1, r1, h1⟩ => ?_
    obtain ⟨w, hw, q⟩ := h1.of
    unfold fldW at hw
    split at hw
    · split at hw
      · rename_i c fs hs
        split at hw
        · rename_i hfo
          obtain ⟨a, dx, fv, rfl, _, hl, rf⟩ := S1.ins hs r1
          obtain ⟨v, e, rv⟩ := rf.look hw
          obtain ⟨g1, g2⟩ := G.fo c f hfo
          rw [hK]
          exact ⟨a, _, dx, fv, v, rfl, hl, g1, g2, e, q v φ1 H1 (Ext.refl _ _) S1 rv⟩
        · cases hw
      · cases hw
    · cases hw
end
end Cc

set_option linter.all false
set_option maxRecDepth 100000
set_option maxHeartbeats 1000000
/-! Cc: calls of defs, classes, methods. -/
namespace Cc
open PySem PySem.Spec PyProof.Rows L2

/-! ### a callee that runs apart -/
section
variable {R : Gt} {K : PySem.W.Frag} {φ φ' : Ph} {ex ex' : List Addr} {H H' : Hp} {s t : Store}
theorem rd_mu (hM : ∀ a o, H a = some o → Mu φ ex a → Mu φ' ex' a) {a : Addr} {u : HO} (h : Rd H a u) (n : ¬ Mu φ' ex' a) : ¬ Mu φ ex a := by
  rcases h with h | ⟨o, h⟩
  · exact fun z => n (hM a _ h z)
  · exact fun z => n (hM a _ h z)
mutual
theorem Rp.weaken (hM : ∀ a o, H a = some o → Mu φ ex a → Mu φ' ex' a) : ∀ (d : PyData) (v : V), Rp K φ' ex' H v d → Rp K φ ex H v d
  | .none, _, h => by cases h; exact .non
  | .bool b, _, h => by cases h; exact .bl _
  | .int b, _, h => by cases h; exact .int _
  | .str b, _, h => by cases h; exact .str _
  | .list ds, _, h => by
    cases h with
    | lst h n r => exact .lst h (rd_mu hM h n) (RpL.weaken hM ds _ r)
  | .tuple ds, _, h => by
    cases h with
    | tup h r => exact .tup (h.elim (fun q => .inl ⟨q.1, rd_mu hM q.1 q.2⟩) .inr) (RpL.weaken hM ds _ r)
  | .dict _, _, h => by cases h
theorem RpL.weaken (hM : ∀ a o, H a = some o → Mu φ ex a → Mu φ' ex' a) : ∀ (ds : List PyData) (vs : List V), RpL K φ' ex' H vs ds → RpL K φ ex H vs ds
  | [], _, h => by cases h; exact .nil
  | d :: ds, _, h => by
    cases h with
    | cons r t => exact .cons (Rp.weaken hM d _ r) (RpL.weaken hM ds _ t)
end
theorem FsD.weaken (hM : ∀ a o, H a = some o → Mu φ ex a → Mu φ' ex' a) : ∀ {vs : List (Str × V)} {fs : List (Str × PyData)}, FsD K φ' ex' H vs fs → FsD K φ ex H vs fs
  | _, _, .nil => .nil
  | _, _, .cons r t => .cons (Rp.weaken hM _ _ r) (FsD.weaken hM t)
theorem ExnR.weaken (hM : ∀ a o, H a = some o → Mu φ ex a → Mu φ' ex' a) {od : Option Addr} {fs : List (Str × PyData)} (h : ExnR K φ' ex' H od fs) : ExnR K φ ex H od fs := by
  cases od with
  | none => exact h
  | some d => obtain ⟨fv, e, r⟩ := h; exact ⟨fv, e, FsD.weaken hM r⟩
mutual
theorem Rp.noList (S : Sim R φ ex H s) : ∀ (d : PyData) (v : V), Cc.noList d = true → Rp K φ' ex' H v d → Rp K φ ex H v d
  | .none, _, _, h => by cases h; exact .non
  | .bool b, _, _, h => by cases h; exact .bl _
  | .int b, _, _, h => by cases h; exact .int _
  | .str b, _, _, h => by cases h; exact .str _
  | .list ds, _, n, h => by simp [Cc.noList] at n
  | .tuple ds, _, n, h => by
    cases h with
    | tup h r =>
      refine .tup (h.elim (fun q => .inl ⟨q.1, fun z => ?_⟩) .inr) (RpL.noList S ds _ (by simpa [Cc.noList] using n) r)
      obtain ⟨o, e, c⟩ := S.mu z
      rcases q.1 with q | ⟨u, q⟩
      · rw [q] at e; cases e; exact c
      · rw [q] at e; cases e; exact c
  | .dict _, _, _, h => by cases h
theorem RpL.noList (S : Sim R φ ex H s) : ∀ (ds : List PyData) (vs : List V), Cc.noListL ds = true → RpL K φ' ex' H vs ds → RpL K φ ex H vs ds
  | [], _, _, h => by cases h; exact .nil
  | d :: ds, _, n, h => by
    simp only [Cc.noListL, Bool.and_eq_true] at n
    cases h with
    | cons r t => exact .cons (Rp.noList S d _ n.1 r) (RpL.noList S ds _ n.2 t)
end
theorem FsD.noList (S : Sim R φ ex H s) : ∀ {vs : List (Str × V)} {fs : List (Str × PyData)}, (fs.all fun p => Cc.noList p.2) = true → FsD K φ' ex' H vs fs → FsD K φ ex H vs fs
  | _, _, _, .nil => .nil
  | _, _, n, .cons r t => by
    simp only [List.all_cons, Bool.and_eq_true] at n
    exact .cons (Rp.noList S _ _ n.1 r) (FsD.noList S n.2 t)
/-- the callee ran over no cells: ours stand -/
theorem apart (S : Sim R φ ex H s) (E : Ext [] H φ' H') : Ext φ H φ H' ∧ Sim R φ ex H' s := by
  have k : ∀ a o, H a = some o → H' a = some o := fun a o h => E.keep a o h (by simp)
  have e : Ext φ H φ H' := ⟨fun a o h _ => k a o h, fun _ z => .inl z, Nat.le_refl _, fun _ _ _ h => h⟩
  refine ⟨e, S.len, fun n c h => ?_, S.one, S.off, fun a ha => ?_⟩
  · rcases S.cell n c h with q | ⟨a, e1, q⟩
    · exact .inl q
    · refine .inr ⟨a, e1, q.ext e ?_⟩
      obtain ⟨o, ho, _⟩ := q.there
      rw [ho]; exact k a o ho
  · obtain ⟨o, ho, c⟩ := S.exT a ha
    exact ⟨o, k a o ho, c⟩
/-- all that may change, as others' -/
def allMu (φ : Ph) (ex : List Addr) : List Addr := φ.filterMap id ++ ex
theorem mu_all {a : Addr} : Mu [] (allMu φ ex) a ↔ Mu φ ex a := by
  unfold Mu allMu
  simp
theorem Sim.others (S : Sim R φ ex H s) : Sim R [] (allMu φ ex) H [] where
  len := rfl
  cell := fun n c h => by simp at h
  one := fun n m a h => by simp at h
  off := fun a _ z => by simp at z
  exT := fun a ha => S.mu (mu_all.mp (.inr ha))
theorem Sim.empty : Sim R [] [] H [] where
  len := rfl
  cell := fun n c h => by simp at h
  one := fun n m a h => by simp at h
  off := fun a _ z => by simp at z
  exT := fun a ha => by simp at ha
theorem mu_in {a : Addr} (z : Mu φ ex a) : Mu φ' (allMu φ ex) a := by
  right
  rcases z with z | z
  · unfold allMu; simp [z]
  · unfold allMu; simp [z]
/-! what a callee hands back, frozen -/
mutual
theorem frzW_ok (S : Sim R φ ex H s) (E : Ext [] H φ' H') (S' : Sim R φ' (allMu φ ex) H' t) : ∀ (w : W) (v : V) (x : PyData), Cc.frzW t w = some x → RpW R φ' (allMu φ ex) H' v w → Rp R.K φ ex H' v x
  | .d x, v, _, h, r => by
    cases h
    cases r with | d r => exact Rp.weaken (fun a o _ z => mu_in z) _ _ r
  | .ref n, v, x, h, r => by
    simp only [Cc.frzW] at h
    split at h
    · rename_i xs hs
      cases h
      obtain ⟨a, vs, rfl, hφ, hl, rl⟩ := S'.lst hs r
      have hn : ¬ Mu φ ex a := fun z => by
        rcases E.new a (List.mem_of_getElem? hφ) with q | q
        · simp at q
        · exact S.muT z q
      exact .lst (.inl hl) hn (RpL.weaken (fun a o _ z => mu_in z) _ _ rl)
    · cases h
  | .tup ws, v, x, h, r => by
    simp only [Cc.frzW] at h
    obtain ⟨xs, e, rfl⟩ := map_of h
    cases r with
    | tup hr n r =>
      exact .tup (.inl ⟨hr, fun z => n (mu_in z)⟩) (frzL_ok S E S' ws _ xs e r)
  | .fn i, v, x, h, r => by simp [Cc.frzW] at h
theorem frzL_ok (S : Sim R φ ex H s) (E : Ext [] H φ' H') (S' : Sim R φ' (allMu φ ex) H' t) : ∀ (ws : List W) (vs : List V) (xs : List PyData), Cc.frzL t ws = some xs → RpWL R φ' (allMu φ ex) H' vs ws → RpL R.K φ ex H' vs xs
  | [], _, _, h, r => by cases h; cases r; exact .nil
  | w :: ws, _, _, h, r => by
    simp only [Cc.frzL] at h
    cases r with
    | cons r rs =>
      split at h
      · rename_i h1 h2
        cases h
        exact .cons (frzW_ok S E S' w _ _ h1 r) (frzL_ok S E S' ws _ _ h2 rs)
      · cases h
end
/-! ### shifted references -/
theorem mu_app {a : Addr} : Mu (φ ++ φ') ex a ↔ Mu φ' (allMu φ ex) a := by
  unfold Mu allMu
  simp only [List.mem_append, List.mem_filterMap, id_eq, exists_eq_right]
  constructor
  · rintro ((h | h) | h)
    · exact .inr (.inl h)
    · exact .inl h
    · exact .inr (.inr h)
  · rintro (h | h | h)
    · exact .inl (.inr h)
    · exact .inl (.inl h)
    · exact .inr h
mutual
theorem RpW.shift (hl : φ.length = s.length) : ∀ (w : W) (v : V), RpW R φ' (allMu φ ex) H' v w → RpW R (φ ++ φ') ex H' v (w.shift s.length)
  | .d x, v, r => by
    cases r with | d r => exact .d (Rp.weaken (fun a o _ z => mu_app.mp z) _ _ r)
  | .ref n, v, r => by
    cases r with
    | ref l r =>
      refine .ref (by rw [List.length_append]; omega) fun a h => r a ?_
      rw [List.getElem?_append_right (by omega)] at h
      rw [← h]; congr 1; omega
  | .tup ws, v, r => by
    cases r with
    | tup hr n r => exact .tup hr (fun z => n (mu_app.mp z)) (RpWL.shift hl ws _ r)
  | .fn i, v, r => by cases r; exact .fn i
theorem RpWL.shift (hl : φ.length = s.length) : ∀ (ws : List W) (vs : List V), RpWL R φ' (allMu φ ex) H' vs ws → RpWL R (φ ++ φ') ex H' vs (W.shiftL s.length ws)
  | [], _, r => by cases r; exact .nil
  | w :: ws, _, r => by
    cases r with
    | cons r rs => exact .cons (RpW.shift hl w _ r) (RpWL.shift hl ws _ rs)
end
theorem FsR.shift (hl : φ.length = s.length) : ∀ {vs : List (Str × V)} {ws : List (Str × W)}, FsR R φ' (allMu φ ex) H' vs ws → FsR R (φ ++ φ') ex H' vs (ws.map fun p => (p.1, p.2.shift s.length))
  | _, _, .nil => .nil
  | _, _, .cons r t => .cons (RpW.shift hl _ _ r) (FsR.shift hl t)
theorem CellR.shift (hl : φ.length = s.length) {a : Addr} {c : Cell} (h : CellR R φ' (allMu φ ex) H' a c) : CellR R (φ ++ φ') ex H' a (c.shift s.length) := by
  cases c with
  | lst ds => obtain ⟨vs, e, r⟩ := h; exact ⟨vs, e, RpL.weaken (fun a o _ z => mu_app.mp z) _ _ r⟩
  | wl ws => obtain ⟨vs, e, r⟩ := h; exact ⟨vs, e, RpWL.shift hl _ _ r⟩
  | ins c fs => obtain ⟨dx, fv, e, r⟩ := h; exact ⟨dx, fv, e, FsR.shift hl r⟩
  | dead => exact h.elim
theorem shift_dead {c : Cell} {n : Nat} (h : c = .dead) : c.shift n = .dead := by subst h; rfl
/-- the callee's cells behind ours -/
theorem kept (S : Sim R φ ex H s) (E : Ext [] H φ' H') (S' : Sim R φ' (allMu φ ex) H' t) : Ext φ H (φ ++ φ') H' ∧ Sim R (φ ++ φ') ex H' (s ++ t.map (Cell.shift s.length)) := by
  obtain ⟨e1, S1⟩ := apart S E
  have fr : ∀ a, some a ∈ φ' → H a = none := fun a z => (E.new a z).elim (fun q => by simp at q) fun q => q
  have e : Ext φ H (φ ++ φ') H' := by
    refine ⟨e1.keep, fun a z => ?_, by simp, fun n a l h => ?_⟩
    · rcases List.mem_append.mp z with z | z
      · exact .inl z
      · exact .inr (fr a z)
    · rwa [List.getElem?_append_left l] at h
  have key : ∀ (n : Nat) (b : Addr), (φ ++ φ')[n]? = some (some b) → (n < φ.length ∧ φ[n]? = some (some b)) ∨ (φ.length ≤ n ∧ φ'[n - φ.length]? = some (some b)) := fun n b h => by
    rcases Nat.lt_or_ge n φ.length with l | l
    · rw [List.getElem?_append_left l] at h; exact .inl ⟨l, h⟩
    · rw [List.getElem?_append_right l] at h; exact .inr ⟨l, h⟩
  have cross : ∀ b, some b ∈ φ → some b ∉ φ' := fun b h h2 => by
    obtain ⟨o, ho, _⟩ := S.mem h
    rw [fr b h2] at ho; cases ho
  refine ⟨e, by simp [S.len, S'.len], fun n c h => ?_, fun n m a h1 h2 => ?_, fun a ha z => ?_, S1.exT⟩
  · rcases Nat.lt_or_ge n s.length with l | l
    · rw [List.getElem?_append_left l] at h
      have l2 : n < φ.length := by rw [S.len]; exact l
      rcases S.cell n c h with ⟨q, q2⟩ | ⟨a, q1, q2⟩
      · exact .inl ⟨q, by rw [List.getElem?_append_left l2]; exact q2⟩
      · refine .inr ⟨a, by rw [List.getElem?_append_left l2]; exact q1, q2.ext e ?_⟩
        obtain ⟨o, ho, _⟩ := q2.there
        rw [ho]; exact E.keep a o ho (by simp)
    · have l2 : φ.length ≤ n := by rw [S.len]; exact l
      rw [List.getElem?_append_right l, List.getElem?_map] at h
      obtain ⟨c', h', rfl⟩ := map_of h
      have en : n - φ.length = n - s.length := by rw [S.len]
      rcases S'.cell _ c' h' with ⟨q, q2⟩ | ⟨a, q1, q2⟩
      · exact .inl ⟨shift_dead q, by rw [List.getElem?_append_right l2, en]; exact q2⟩
      · exact .inr ⟨a, by rw [List.getElem?_append_right l2, en]; exact q1, q2.shift S.len⟩
  · rcases key n a h1 with ⟨l1, q1⟩ | ⟨l1, q1⟩ <;> rcases key m a h2 with ⟨l2, q2⟩ | ⟨l2, q2⟩
    · exact S.one n m a q1 q2
    · exact (cross a (List.mem_of_getElem? q1) (List.mem_of_getElem? q2)).elim
    · exact (cross a (List.mem_of_getElem? q2) (List.mem_of_getElem? q1)).elim
    · have := S'.one _ _ a q1 q2
      omega
  · rcases List.mem_append.mp z with z | z
    · exact S.off a ha z
    · obtain ⟨o, ho, _⟩ := S.exT a ha
      rw [fr a z] at ho; cases ho
/-! ### the modes of a call -/
theorem RpWL.lend (S : Sim R φ ex H s) : ∀ {ws ws' : List W} {vs : List V}, lendL s ws = some ws' → RpWL R φ ex H vs ws → RpWL R [] [] H vs ws'
  | [], _, _, h, r => by cases h; cases r; exact .nil
  | w :: ws, _, _, h, r => by
    simp only [lendL] at h
    split at h
    · rename_i x xs h1 h2
      cases h
      cases r with
      | cons r rs =>
        refine .cons (.d ?_) (RpWL.lend S h2 rs)
        have t := S.top r h1
        have nm : ∀ a, ¬ Mu [] [] a := fun a z => by rcases z with z | z <;> simp at z
        rcases t with t | ⟨a, us, ds, rfl, rfl, hl, rl⟩
        · exact Rp.weaken (fun a o _ z => (nm a z).elim) _ _ t
        · exact .lst (.inl hl) (nm a) (RpL.weaken (fun a o _ z => (nm a z).elim) _ _ rl)
    · cases h
theorem RpWL.others {ws : List W} {vs : List V} {ds : List PyData} (h : allPure ws = some ds) (r : RpWL R φ ex H vs ws) : RpWL R [] (allMu φ ex) H vs ws := by
  have e := allPure_eq h
  subst e
  exact RpWL.of (RpL.weaken (fun a o _ z => mu_all.mp z) _ _ (RpWL.data r))
theorem exc_apart {E : XK} {ex' : List Addr} {x : Exn} (S : Sim R φ ex H s) (h : ExcOk R ex E φ H x s) (hw : ∀ φ' H' od, Ext [] H φ' H' → Sim R φ ex H' s → ExnR R.K φ' ex' H' od x.fs → ExnR R.K φ ex H' od x.fs) : ExcOk R ex' E [] H x t := by
  intro φ' H' od e S' r
  obtain ⟨e1, S1⟩ := apart S e
  exact h φ H' od e1 S1 (hw φ' H' od e S1 r)
theorem callM_ok {m : Cm} {i : Nat} {ws : List W} {vs : List V} {Q : VK} {E : XK} (S : Sim R φ ex H s) (r : RpWL R φ ex H vs ws) (h : RunsTo (callM m (R.Φ i) ws s) (RetW R ex Q φ H) (ExcOk R ex E φ H)) :
    ∃ φ0 ex0 s0 ws0, Sim R φ0 ex0 H s0 ∧ RpWL R φ0 ex0 H vs ws0 ∧ RunsTo (R.Φ i ws0 s0) (RetW R ex0 Q φ0 H) (ExcOk R ex0 E φ0 H) := by
  have wk : ∀ φ' H' od fs, ExnR R.K φ' (allMu φ ex) H' od fs → ExnR R.K φ ex H' od fs := fun φ' H' od fs => ExnR.weaken fun a o _ z => mu_in z
  cases m with
  | lend =>
    simp only [callM] at h
    split at h
    · rename_i ws' hl
      refine ⟨[], [], [], ws', Sim.empty, r.lend S hl, ?_⟩
      cases hr : R.Φ i ws' [] with
      | stuck => rw [hr] at h; exact h
      | exc x t =>
        rw [hr] at h
        dsimp only at h
        split at h
        · rename_i hn
          refine exc_apart S h fun φ' H' od e S1 q => ?_
          cases od with
          | none => exact q
          | some d => obtain ⟨fv, e2, q⟩ := q; exact ⟨fv, e2, FsD.noList S1 hn q⟩
        · exact h.elim
      | ok w t =>
        rw [hr] at h
        cases w with
        | d x =>
          dsimp only at h
          split at h
          · rename_i hn
            intro v φ' H' e S' rv
            obtain ⟨e1, S1⟩ := apart S e
            cases rv with | d rv => exact h v φ H' e1 S1 (.d (Rp.noList S1 _ _ hn rv))
          · exact h.elim
        | ref n => exact h.elim
        | tup n => exact h.elim
        | fn n => exact h.elim
    · exact h.elim
  | frz =>
    simp only [callM] at h
    split at h
    · rename_i ds hp
      refine ⟨[], allMu φ ex, [], ws, S.others, r.others hp, ?_⟩
      cases hr : R.Φ i ws [] with
      | stuck => rw [hr] at h; exact h
      | exc x t => rw [hr] at h; exact exc_apart S h fun φ' H' od e S1 q => wk _ _ _ _ q
      | ok w t =>
        rw [hr] at h
        dsimp only at h
        split at h
        · rename_i x hx
          intro v φ' H' e S' rv
          obtain ⟨e1, S1⟩ := apart S e
          exact h v φ H' e1 S1 (.d (frzW_ok S e S' w v x hx rv))
        · exact h.elim
    · exact ⟨φ, ex, s, ws, S, r, h⟩
  | keep =>
    simp only [callM] at h
    split at h
    · rename_i ds hp
      refine ⟨[], allMu φ ex, [], ws, S.others, r.others hp, ?_⟩
      cases hr : R.Φ i ws [] with
      | stuck => rw [hr] at h; exact h
      | exc x t => rw [hr] at h; exact exc_apart S h fun φ' H' od e S1 q => wk _ _ _ _ q
      | ok w t =>
        rw [hr] at h
        intro v φ' H' e S' rv
        obtain ⟨e1, S1⟩ := kept S e S'
        exact h v _ H' e1 S1 (RpW.shift S.len w v rv)
    · exact ⟨φ, ex, s, ws, S, r, h⟩
end
end Cc

set_option linter.all false
set_option maxRecDepth 100000
set_option maxHeartbeats 1000000
/-! Cc: calls of defs, classes, methods, by syntax. -/
namespace Cc
open PySem PySem.Spec PyProof.Rows L2

/-- what a def of the table promises -/
def spF (R : Gt) (i np : Nat) : Sp := fun vs H Q E => vs.length = np ∧ ∃ φ ex s ws, Sim R φ ex H s ∧ RpWL R φ ex H vs ws ∧ RunsTo (R.Φ i ws s) (RetW R ex Q φ H) (ExcOk R ex E φ H)
/-- the i-th def stands and keeps its promise -/
structure FOk (P : Program) (w : World) (K : PySem.W.Frag) (mg : Str → Option Value) (base : Heap) (R : Gt) (i np : Nat) (dfl : List PyData) : Prop where
  ex : ∃ fd ps, ps.length = np ∧ FnOk P w K mg base (L2.CX P w) (2 * i + 2) (R.fa i) fd ps (spF R i np) ∧
    ∀ n, n ≤ np → np - n ≤ dfl.length → ∃ ds dvs, Vals dvs ds ∧ Binds K fd ps ds ∧ ∀ φ ex H, RpL R.K φ ex H dvs (dfl.drop (dfl.length - (np - n)))
  kp : PySem.W.keepIn K (.ref (R.fa i)) = true
/-- where one stands -/
structure XOk (X : Cx) (R : Gt) (E : L2.St → XK) (k : Nat) : Prop where
  hK : X.K = R.K
  calm : X.calm = true
  nd : X.N.Nodup
  room : Room k X.A
  pass : ∀ σ, PassesAt (L2.CX X.prog X.w) X σ (E σ)
def NoStar (es : List Expr) : Prop := ∀ e ∈ es, ∀ x p, e ≠ .Starred x p
theorem star_all {es : List Expr} (h : NoStar es) (env : PySem.Env) : starEach es env = es.map fun e => (false, eval e env) := by
  induction es with
  | nil => rfl
  | cons e es ih => rw [star_ne (h e (by simp)), ih fun x hx => h x (by simp [hx])]; rfl
theorem star_none {es : List Expr} (h : NoStar es) (pos : Pos) (env : PySem.Env) : (backTo pos (starEach es env)).any (·.1) = false := by
  rw [star_all h]
  unfold backTo
  rw [List.map_map]
  induction es with
  | nil => rfl
  | cons e es ih => simp only [List.map_cons, List.any_cons, ih fun x hx => h x (by simp [hx])]; rfl
theorem few_all {es : List Expr} (h : NoStar es) (hl : es.length < 20) (pos : Pos) (env : PySem.Env) : methodCallForm (es.length + ([] : List Keyword).length) (backTo pos (starEach es env)) (backToKw pos (keywordEach [] env)) = true := by
  unfold methodCallForm
  have h1 : (backTo pos (starEach es env)).all (fun x => !x.1) = true := by
    rw [star_all h]
    unfold backTo
    rw [List.map_map]
    clear hl
    induction es with
    | nil => rfl
    | cons e es ih => simp only [List.map_cons, List.all_cons, ih fun x hx => h x (by simp [hx])]; rfl
  rw [h1]
  show (true && true && decide (es.length + 0 + 0 < 30)) = true
  simp only [Bool.and_true, Bool.true_and, decide_eq_true_eq]
  omega
section
variable {R : Gt}
theorem runEs_len : ∀ {es : List Ex} {env : Env} {s t : Store} {ws : List W}, runEs R.Φ R.M R.CI R.FO es env s = .ok ws t → ws.length = es.length
  | [], _, _, _, _, h => by simp only [runEs] at h; cases h; rfl
  | e :: es, env, s, t, ws, h => by
    simp only [runEs] at h
    cases r : runE R.Φ R.M R.CI R.FO e env s with
    | ok w s1 =>
      rw [r] at h
      simp only [Res.bind_ok] at h
      cases r2 : runEs R.Φ R.M R.CI R.FO es env s1 with
      | ok ws' s2 => rw [r2] at h; cases h; simp [runEs_len r2]
      | exc x s2 => rw [r2] at h; cases h
      | stuck => rw [r2] at h; cases h
    | exc x s1 => rw [r] at h; cases h
    | stuck => rw [r] at h; cases h
theorem runEs_consts : ∀ (ds : List PyData) (env : Env) (s : Store), runEs R.Φ R.M R.CI R.FO (ds.map .const) env s = .ok (ds.map .d) s
  | [], _, _ => rfl
  | d :: ds, env, s => by simp only [List.map_cons, runEs, runE, Res.bind_ok, runEs_consts ds env s]
theorem runEs_app : ∀ (es : List Ex) (ds : List PyData) (env : Env) (s : Store), runEs R.Φ R.M R.CI R.FO (es ++ ds.map .const) env s = (runEs R.Φ R.M R.CI R.FO es env s).bind fun ws s => .ok (ws ++ ds.map .d) s
  | [], ds, env, s => by simp only [List.nil_append, runEs, Res.bind_ok, runEs_consts]
  | e :: es, ds, env, s => by
    simp only [List.cons_append, runEs, res_assoc]
    congr 1
    funext w s1
    rw [runEs_app es ds env s1, res_assoc]
    congr 1
theorem dfls_of {np n : Nat} {dfl : List PyData} {cd : List Ex} (h : dfls np n dfl = some cd) : n ≤ np ∧ np - n ≤ dfl.length ∧ cd = (dfl.drop (dfl.length - (np - n))).map .const := by
  unfold dfls at h
  split at h
  · rename_i h2; cases h; exact ⟨h2.1, h2.2, rfl⟩
  · cases h
end
section
variable {X : Cx} {R : Gt} {E : L2.St → XK} {k : Nat} {a b c e o : Expr} {ca cb cc ce co : Ex} {es : List Expr} {ces cd : List Ex} {pos p apos : Pos}
/-- with the number of arguments -/
theorem tA_len {σ : L2.St} {H : Hp} {Q : List V → Hp → Prop} (h : tA R E ces σ H fun vs H1 => vs.length = ces.length → Q vs H1) : tA R E ces σ H Q := by
  obtain ⟨φ, ex, s, env, S, N, h⟩ := h
  refine ⟨φ, ex, s, env, S, N, ?_⟩
  cases r : runEs R.Φ R.M R.CI R.FO ces env s with
  | ok ws t =>
    rw [r] at h
    intro vs φ' H' e S' rv
    exact h vs φ' H' e S' rv (by rw [rv.length, runEs_len r])
  | exc x t => rw [r] at h; exact h
  | stuck => rw [r] at h; exact h
theorem tA_nil {σ : L2.St} {H : Hp} {Q : List V → Hp → Prop} (h : tA R E [] σ H Q) : Q [] H := by
  obtain ⟨φ, ex, s, env, S, N, h⟩ := h
  exact h [] φ H (Ext.refl _ _) S .nil
/-- arguments, however many -/
theorem call_args {f : Value} {F : L2.St → List V → Hp → VK → Prop} (hs : NoStar es) (hz : es = [] → ces = []) (ha : PA X es (tA R E ces)) (hk : PySem.W.keepIn X.K f = true)
    {pins : List (Addr × Obj)} {s : Shared} {σ : L2.St} {H : Hp} {Q : VK} (I : Inv X pins σ H s) (first : List Value)
    (h : tA R E ces σ H fun vs H1 => F σ vs H1 Q)
    (run : ∀ us vs s2 H2, Inv X pins σ H2 s2 → Vals vs us → F σ vs H2 Q → wpAny (model X.prog X.w) X.A (call f (first ++ us)) (EP X pins σ Q) X.xe s2) :
    wpAny (model X.prog X.w) X.A (callWith pos f first (backTo pos (starEach es X.env)) (backToKw pos (keywordEach [] X.env))) (EP X pins σ Q) X.xe s := by
  cases es with
  | nil =>
    rw [hz rfl] at h
    exact PySem.W.callWith_K0 I.kIn hk (run [] [] s H I .nil (tA_nil h))
  | cons e es =>
    have he := star_ne (hs e (by simp)) es X.env
    refine PySem.W.callWith_K (h₀ := X.base) I.ok.mod.kin hk (thn (ha.run pos pins s σ H _ I h) fun us s1 ⟨vs, H1, I1, r, q⟩ => ⟨I1.kIn, ?_⟩) he (star_none (fun x hx => hs x (by simp [hx])) pos X.env)
    exact run us vs s1 H1 I1 r q
/-- f(e, ..), f a def of the table -/
theorem p_call {x : Str} {i np : Nat} {dfl : List PyData} {m : Cm} (C : XOk X R E k) (F : FOk X.prog X.w X.K X.mg X.base R i np dfl) (hk : 2 * i + 2 ≤ k) (hg : Gl X x) (hm : X.mg x = some (.ref (R.fa i))) (hd : (x == ("__debug__" : Str)) = false)
    (hs : NoStar es) (hz : es = [] → ces = []) (ha : PA X es (tA R E ces)) (hcd : dfls np ces.length dfl = some cd) : PE X (.Call (.Name x p) es [] pos) (tD R E (.call m i (ces ++ cd))) := by
  refine ⟨fun pins s σ H Q I h => ?_⟩
  obtain ⟨fd, ps, hps, Fn, hB⟩ := F.ex
  obtain ⟨h1, h2, rfl⟩ := dfls_of hcd
  obtain ⟨ds, dvs, rv, hb, hr⟩ := hB _ h1 h2
  refine wpAny_Call_Name_kw (ld_glob I hg hm ?_ hd)
  refine call_args (F := fun σ vs H1 Q => spF R i np (vs ++ dvs) H1 Q (E σ)) hs hz ha F.kp I [] ?_ fun us vs s2 H2 I2 r q => run_fnSD Fn (C.room.mono hk) hb rv (C.pass σ) I2 r q
  obtain ⟨φ, ex, s, env, S, N, h⟩ := h
  simp only [runE, runEs_app, res_assoc, Res.bind_ok] at h
  refine tA_len (tA_mono (tA_bind mono_W S N h) fun vs H1 ⟨φ1, s1, ws, S1, N1, e1, r1, h1'⟩ hl => ?_)
  obtain ⟨φ0, ex0, s0, ws0, S0, r0, h0⟩ := callM_ok S1 (r1.append (RpWL.of (hr φ1 ex H1))) h1'
  refine ⟨?_, φ0, ex0, s0, ws0, S0, r0, h0⟩
  rw [List.length_append, hl, (hr φ1 ex H1).length, List.length_drop]
  omega
/-- C.m is the def f -/
structure Base (K : PySem.W.Frag) (C : Addr) (m : Str) (f : Addr) : Prop where
  rd : PySem.W.readsIn K C (.type "type") = true
  ga : PySem.W.specialIn K (.ref C) "__getattribute__" = some (some (.builtin "type.__getattribute__"))
  at_ : PySem.W.findCls K (.ref C) (.type "type") m = some (.val (.ref f))
/-- B.m(e, ..), B a class, m a def of it -/
theorem p_base {x m : Str} {c i np : Nat} {dfl : List PyData} {md : Cm} (C : XOk X R E k) (B : Base X.K (R.ca c) m (R.fa i)) (F : FOk X.prog X.w X.K X.mg X.base R i np dfl) (hk : 2 * i + 2 ≤ k) (hg : Gl X x) (hm : X.mg x = some (.ref (R.ca c))) (hd : (x == ("__debug__" : Str)) = false)
    (hs : NoStar es) (hz : es = [] → ces = []) (hl : (apos.endLine == pos.line) = true) (hn : es.length < 20) (ha : PA X es (tA R E ces)) (hcd : dfls np ces.length dfl = some cd) : PE X (.Call (.Attribute (.Name x p) m apos) es [] pos) (tD R E (.call md i (ces ++ cd))) := by
  refine ⟨fun pins s σ H Q I h => ?_⟩
  obtain ⟨fd, ps, hps, Fn, hB⟩ := F.ex
  obtain ⟨h1, h2, rfl⟩ := dfls_of hcd
  obtain ⟨ds, dvs, rv, hb, hr⟩ := hB _ h1 h2
  have ht : eval (.Call (.Attribute (.Name x p) m apos) es [] pos) X.env = (do
      let ov ← eval (.Name x p) X.env
      standAt apos.atName
      let (f, first) ← holding [ov] (getMethod ov m (L2.plainOf (.Name x p) X.env))
      callWith pos f first (backTo pos (starEach es X.env)) (backToKw pos (keywordEach [] X.env))) := by
    have e1 : eval (.Call (.Attribute (.Name x p) m apos) es [] pos) X.env = (do
        let ov ← attributeBase (.Name x p) m X.env (eval (.Name x p) X.env)
        standAt apos.atName
        methodCall (.Name x p) m apos pos X.env ov (es.length + ([] : List Keyword).length) (backTo pos (starEach es X.env)) (backToKw pos (keywordEach [] X.env))) := rfl
    rw [e1, base_ne (fun _ _ _ _ z => by cases z)]
    congr 1
    funext ov
    congr 1
    funext _
    exact L2.mcall_line (few_all hs hn pos X.env) hl
  refine PySem.W.methodCall_KW (pl := L2.plainOf (.Name x p) X.env) (ld_glob I hg hm ?_ hd) ht
  refine PySem.W.method_cls I.kIn B.ga (PySem.W.cls_value I.kIn B.rd B.at_ (handed_of (v := .ref _) rfl) ?_)
  refine call_args (F := fun σ vs H1 Q => spF R i np (vs ++ dvs) H1 Q (E σ)) hs hz ha F.kp (I.tok _) [] ?_ fun us vs s2 H2 I2 r q => run_fnSD Fn (C.room.mono hk) hb rv (C.pass σ) I2 r q
  obtain ⟨φ, ex, s, env, S, N, h⟩ := h
  simp only [runE, runEs_app, res_assoc, Res.bind_ok] at h
  refine tA_len (tA_mono (tA_bind mono_W S N h) fun vs H1 ⟨φ1, s1, ws, S1, N1, e1, r1, h1'⟩ hl => ?_)
  obtain ⟨φ0, ex0, s0, ws0, S0, r0, h0⟩ := callM_ok S1 (r1.append (RpWL.of (hr φ1 ex H1))) h1'
  refine ⟨?_, φ0, ex0, s0, ws0, S0, r0, h0⟩
  rw [List.length_append, hl, (hr φ1 ex H1).length, List.length_drop]
  omega
/-- C(..) -/
theorem run_makeS {C f : Addr} {fd : FuncData} {ps : List Str} {sp : Sp} {dvs : List V} {ds : List Value} {CX : CXT} {j : Nat} {pins : List (Addr × Obj)} {σ : L2.St} {H : Hp} {s : Shared} {Q : VK} {us : List Value} {vs : List V} {E : XK} (M : Mk X.K C f) (F : FnOk X.prog X.w X.K X.mg X.base CX j f fd ps sp) (hr : Room (j + 1) X.A) (hb : Binds X.K fd ps ds) (hd : Vals dvs ds)
    (hx : PassesAt CX X σ E) (I : Inv X pins σ H s) (r : Vals vs us)
    (h : ∀ x dx, H x = none → H dx = none → dx ≠ x → sp (.ref x :: (vs ++ dvs)) (upd (upd H dx (.own x)) x (.ins C dx [])) (fun v H2 => v = .non ∧ Q (.ref x) H2) E) :
    wpAny (model X.prog X.w) X.A (call (.ref C) us) (EP X pins σ Q) X.xe s := by
  have hq := h (s.heap.objs.size + 1) s.heap.objs.size (I.hok.fresh (Nat.le_succ _)) (I.hok.fresh (Nat.le_refl _)) (Nat.ne_of_lt (Nat.lt_succ_self _))
  have I2 := Inv.made (C := C) I
  have r2 : Vals (V.ref (s.heap.objs.size + 1) :: (vs ++ dvs)) (Value.ref (s.heap.objs.size + 1) :: (us ++ ds)) := .cons rfl (r.append hd)
  have hl : (Value.ref (s.heap.objs.size + 1) :: us ++ ds).length = ps.length := by
    have e := r2.length
    rw [F.len _ _ _ _ hq] at e
    exact e.symm
  refine wpAny_call (make_map (f := f) I.kIn M.makes M.init (beq_iff_eq.mp M.fn) (codeAny_mono (F.run _ X.stack _ _ ⟨Value.ref (s.heap.objs.size + 1) :: us, []⟩ (Value.ref (s.heap.objs.size + 1) :: (us ++ ds)) _ _ E (hr.make C us [])
    (I2.env0.make C us []) (hb _ (Value.ref (s.heap.objs.size + 1) :: us) I2.kIn hl) r2 hq) fun r s' hq' => ?_))
  cases r with
  | error e => exact hx pins _ _ e s' I2 hq'
  | ok fl =>
    cases fl with
    | ret u =>
      obtain ⟨v, H', I3, rv, ev, q3⟩ := I2.after hq'
      subst ev
      exact ⟨rv, ⟨V.ref (s.heap.objs.size + 1), H', I3, rfl, q3⟩⟩
    | next => exact False.elim hq'
    | brk => exact False.elim hq'
    | cont => exact False.elim hq'
theorem p_make {x : Str} {c i np : Nat} {dfl : List PyData} (C : XOk X R E k) (G : GOk R) (hi : R.CI c = some i) (F : FOk X.prog X.w X.K X.mg X.base R i (np + 1) dfl) (hk : 2 * i + 3 ≤ k) (hg : Gl X x) (hm : X.mg x = some (.ref (R.ca c))) (hd : (x == ("__debug__" : Str)) = false)
    (hs : NoStar es) (hz : es = [] → ces = []) (ha : PA X es (tA R E ces)) (hcd : dfls np ces.length dfl = some cd) : PE X (.Call (.Name x p) es [] pos) (tD R E (.make c (ces ++ cd))) := by
  refine ⟨fun pins s σ H Q I h => ?_⟩
  obtain ⟨fd, ps, hps, Fn, hB⟩ := F.ex
  obtain ⟨h1, h2, rfl⟩ := dfls_of hcd
  obtain ⟨ds, dvs, rv, hb, hr⟩ := hB (ces.length + 1) (by omega) (by omega)
  have M := G.mkC c i hi
  rw [← C.hK] at M
  refine wpAny_Call_Name_kw (ld_glob I hg hm ?_ hd)
  refine call_args (F := fun σ vs H1 Q => ∀ x dx, H1 x = none → H1 dx = none → dx ≠ x → spF R i (np + 1) (.ref x :: (vs ++ dvs)) (upd (upd H1 dx (.own x)) x (.ins (R.ca c) dx [])) (fun v H2 => v = .non ∧ Q (.ref x) H2) (E σ)) hs hz ha M.kp I [] ?_
    fun us vs s2 H2 I2 r q => run_makeS M Fn (C.room.mono hk) hb rv (C.pass σ) I2 r q
  obtain ⟨φ, ex, s, env, S, N, h⟩ := h
  simp only [runE, runEs_app, res_assoc, Res.bind_ok] at h
  refine tA_len (tA_mono (tA_bind mono_W S N h) fun vs H1 ⟨φ1, s1, ws, S1, N1, e1, r1, h1'⟩ hl x dx hx hdx hne => ?_)
  dsimp only at h1'
  rw [hi] at h1'
  dsimp only at h1'
  have rr := r1.append (RpWL.of (hr φ1 ex H1))
  have en : dfl.length - (np + 1 - (ces.length + 1)) = dfl.length - (np - ces.length) := by omega
  rw [en] at rr
  obtain ⟨e2, S2⟩ := S1.new (o := .own x) hdx
  have hx2 : (upd H1 dx (.own x)) x = none := by rw [upd_ne hne.symm]; exact hx
  obtain ⟨e3, S3⟩ := S2.push (o := .ins (R.ca c) dx []) (c := .ins c []) hx2 fun _ => ⟨dx, [], upd_same, .nil⟩
  refine ⟨?_, _, ex, _, .ref s1.length :: (ws ++ (dfl.drop (dfl.length - (np - ces.length))).map .d), S3, .cons (RpW.last S2) (RpWL.ext (e2.trans e3) _ _ rr), ?_⟩
  · rw [List.length_cons, List.length_append, hl, (hr φ1 ex H1).length, List.length_drop]
    omega
  · have h4 := h1'
    cases hc : R.Φ i (.ref s1.length :: (ws ++ (dfl.drop (dfl.length - (np - ces.length))).map .d)) (s1 ++ [.ins c []]) with
    | stuck => rw [hc] at h4; exact h4
    | exc x' t => rw [hc] at h4; exact fun φ' H' od e => h4 φ' H' od ((e2.trans e3).trans e)
    | ok w t =>
      rw [hc] at h4
      simp only [Res.bind_ok] at h4
      intro v φ' H' e S' rw'
      split at h4
      · cases rw' with | d rw' =>
        cases rw'
        exact ⟨rfl, h4 _ φ' H' ((e2.trans e3).trans e) S' (RpW.ext e _ _ (RpW.last S2))⟩
      · exact h4.elim
/-! ### methods -/
theorem p_meth {m : Str} (C : XOk X R E k) (G : GOk R) (hM : ∀ c i, R.M c m = some i → (∀ ws s, R.Φ i ws s = .stuck) ∨ ∃ np, FOk X.prog X.w X.K X.mg X.base R i np [] ∧ (∀ ws s, ws.length ≠ np → R.Φ i ws s = .stuck) ∧ 2 * i + 2 ≤ k)
    (hb : ∀ f es k p, o ≠ .Call f es k p) (hs : NoStar es) (hz : es = [] → ces = []) (hl : (apos.endLine == pos.line) = true) (hn : es.length < 20) (ho : PE X o (tD R E co)) (ha : PA X es (tA R E ces)) :
    PE X (.Call (.Attribute o m apos) es [] pos) (tD R E (.meth co m ces)) := by
  refine ⟨fun pins s σ H Q I h => ?_⟩
  have ht : eval (.Call (.Attribute o m apos) es [] pos) X.env = (do
      let ov ← eval o X.env
      standAt apos.atName
      let (f, first) ← holding [ov] (getMethod ov m (L2.plainOf o X.env))
      callWith pos f first (backTo pos (starEach es X.env)) (backToKw pos (keywordEach [] X.env))) := by
    have e1 : eval (.Call (.Attribute o m apos) es [] pos) X.env = (do
        let ov ← attributeBase o m X.env (eval o X.env)
        standAt apos.atName
        methodCall o m apos pos X.env ov (es.length + ([] : List Keyword).length) (backTo pos (starEach es X.env)) (backToKw pos (keywordEach [] X.env))) := rfl
    rw [e1, base_ne hb]
    congr 1
    funext ov
    congr 1
    funext _
    exact L2.mcall_line (few_all hs hn pos X.env) hl
  obtain ⟨φ, ex, st, env, S, N, h⟩ := h
  simp only [runE] at h
  refine PySem.W.methodCall_KW (pl := L2.plainOf o X.env) (thn (ho.run pins s σ H _ I (tD_bind mono_W S N h)) fun u s1 ⟨x, H1, I1, rx, φ1, st1, wo, S1, N1, e1, r1, h1⟩ => ?_) ht
  dsimp only at h1
  split at h1
  · rename_i n
    split at h1
    · rename_i c fs hc
      split at h1
      · rename_i i hf hi
        obtain ⟨a, dx, fv, rfl, hφ, hl, rf⟩ := S1.ins hc r1
        obtain rfl : u = Value.ref a := rx
        obtain ⟨g1, g2⟩ := G.me c m i hi
        rw [← C.hK] at g1 g2
        refine getmeth_ok I1 hl g1 g2 (rf.lookN hf) ?_
        rcases hM c i hi with hst | ⟨np, F, hne, hk⟩
        · refine call_args (F := fun _ _ _ _ => False) hs hz ha g2.kp I1 [.ref a] ?_ fun us vs s2 H2 I2 r q => q.elim
          refine tA_mono (tA_bind mono_W S1 N1 h1) fun vs H2 ⟨φ2, st2, ws, S2, N2, e2, r2, h2⟩ => ?_
          dsimp only at h2
          rw [hst] at h2
          exact h2
        obtain ⟨fd, ps, hps, Fn, hB⟩ := F.ex
        obtain ⟨ds, dvs, rv, hbi, hr⟩ := hB np (Nat.le_refl _) (by simp)
        have edv : dvs = [] := by
          have := (hr φ1 ex H1).length
          simpa using this
        subst edv
        cases rv
        refine call_args (F := fun σ vs H2 Q => spF R i np (.ref a :: vs) H2 Q (E σ)) hs hz ha g2.kp I1 [.ref a] ?_
          fun us vs s2 H2 I2 r q => run_fnSD (us := .ref a :: us) (vs := .ref a :: vs) Fn (C.room.mono hk) hbi .nil (C.pass σ) I2 (.cons rfl r) (by rw [List.append_nil]; exact q)
        refine tA_len (tA_mono (tA_bind mono_W S1 N1 h1) fun vs H2 ⟨φ2, st2, ws, S2, N2, e2, r2, h2⟩ hlen => ?_)
        dsimp only at h2
        refine ⟨?_, φ2, ex, st2, .ref n :: ws, S2, .cons (RpW.ext e2 _ _ r1) r2, h2⟩
        by_cases hz : (W.ref n :: ws).length = np
        · rw [← hz]; simp [r2.length]
        · rw [hne _ _ hz] at h2; exact h2.elim
      · exact h1.elim
    · exact h1.elim
  · exact h1.elim
end
end Cc

set_option linter.all false
set_option maxRecDepth 100000
set_option maxHeartbeats 1000000
/-! Cc: what is walked; comprehensions. -/
namespace Cc
open PySem PySem.Spec PyProof.Rows L2

/-! ### targets -/
/-- the names of a target, in their slots -/
def gNames : List Nat → L2.TGs
  | [] => gNil
  | i :: is => gCons (gName i) (gNames is)
def setAll : List Nat → List V → L2.St → L2.St
  | i :: is, v :: vs, σ => setAll is vs (σ.set i (some v))
  | _, _, σ => σ
theorem gNames_of : ∀ {is : List Nat} {vs : List V} {σ : L2.St} {H : Hp} {Q : L2.St → Hp → Prop}, vs.length = is.length → Q (setAll is vs σ) H → gNames is vs σ H Q
  | [], [], _, _, _, _, h => ⟨rfl, h⟩
  | i :: is, v :: vs, _, _, _, l, h => ⟨v, vs, rfl, gNames_of (by simpa using l) h⟩
  | [], _ :: _, _, _, _, l, _ => by simp at l
  | _ :: _, [], _, _, _, l, _ => by simp at l
def gTgt (K : PySem.W.Frag) (is : List Nat) (one : Bool) : L2.TG := match one, is with
  | true, [i] => gName i
  | true, _ => fun _ _ _ _ => False
  | false, is => gTup K is.length (gNames is)
theorem assignEach_ne {e : Expr} (h : ∀ x p, e ≠ .Starred x p) (es : List Expr) (env : PySem.Env) : assignEach (e :: es) env = (false, assign e env) :: assignEach es env := by
  cases e <;> first | rfl | exact absurd rfl (h _ _)
section
variable {X : Cx} {R : Gt}
theorem pgs_names {T : TEnv} (hN : X.N = T.N) (nd : X.N.Nodup) (hf : ∀ x, Loc T.tsc x → Loc X.env.scope x ∧ (X.fn x = true ∨ X.env.scope.names.lookup x = some .local)) : ∀ {es : List Expr} {is : List Nat}, namesOf.go T es = some is →
    PGs X es (gNames is) ∧ (assignEach es X.env).length = is.length ∧ (assignEach es X.env).findIdx? (·.1) = none
  | [], is, h => by cases h; exact ⟨pgs_nil, rfl, rfl⟩
  | e :: es, is, h => by
    cases e <;> simp only [namesOf.go] at h <;> try (cases h; done)
    rename_i x p
    cases h1 : tgtOf T x with
    | none => rw [h1] at h; cases h
    | some i =>
      cases h2 : namesOf.go T es with
      | none => rw [h1, h2] at h; cases h
      | some is' =>
        rw [h1, h2] at h
        cases h
        obtain ⟨a, b, c⟩ := pgs_names hN nd hf h2
        obtain ⟨t1, t2⟩ := tgt_of h1
        rw [← hN] at t1
        refine ⟨pgs_cons (pg_name nd t1 (hf x t2).1 (hf x t2).2) a rfl, by simp [assignEach, b], ?_⟩
        show ((false, assign (.Name x p) X.env) :: assignEach es X.env).findIdx? (·.1) = none
        rw [List.findIdx?_cons]
        simp [c]
theorem pg_tgt {T : TEnv} {tg : Expr} {is : List Nat} {one : Bool} (hN : X.N = T.N) (hc : X.calm = true) (nd : X.N.Nodup) (hf : ∀ x, Loc T.tsc x → Loc X.env.scope x ∧ (X.fn x = true ∨ X.env.scope.names.lookup x = some .local)) (h : namesOf T tg = some (is, one)) : PG X tg (gTgt X.K is one) := by
  cases tg <;> simp only [namesOf] at h <;> try (cases h; done)
  · rename_i x p
    cases h1 : tgtOf T x with
    | none => rw [h1] at h; cases h
    | some i =>
      rw [h1] at h
      cases h
      obtain ⟨t1, t2⟩ := tgt_of h1
      rw [← hN] at t1
      exact pg_name nd t1 (hf x t2).1 (hf x t2).2
  · rename_i es k p
    obtain ⟨is', h1, h2⟩ := map_of h
    cases h2
    obtain ⟨a, b, c⟩ := pgs_names hN nd hf h1
    exact pg_tup hc a b c
theorem setAll_env : ∀ {is : List Nat} {xs : List W} {vs : List V} {env : Env} {σ : L2.St} {φ : Ph} {ex : List Addr} {H : Hp}, EnvR R φ ex H env σ → RpWL R φ ex H vs xs → vs.length = is.length →
    EnvR R φ ex H ((is.zip xs).foldl (fun e p => e.set p.1 (some p.2)) env) (setAll is vs σ)
  | [], xs, vs, env, σ, _, _, _, N, r, l => by cases vs <;> exact N
  | i :: is, x :: xs, v :: vs, env, σ, _, _, _, N, r, l => by
    cases r with
    | cons r rs => exact setAll_env (is := is) (xs := xs) (vs := vs) (env := env.set i (some x)) (σ := σ.set i (some v)) (N.set r) rs (by simpa using l)
  | i :: is, [], v :: vs, env, σ, _, _, _, N, r, l => by cases r
  | i :: is, xs, [], env, σ, _, _, _, N, r, l => by simp at l
theorem fold_map : ∀ (is : List Nat) (xs : List PyData) (env : Env), (is.zip xs).foldl (fun e p => e.set p.1 (some (W.d p.2))) env = (is.zip (xs.map W.d)).foldl (fun e p => e.set p.1 (some p.2)) env
  | [], _, _ => rfl
  | _ :: _, [], _ => rfl
  | i :: is, x :: xs, env => by simp only [List.zip_cons_cons, List.map_cons, List.foldl_cons]; exact fold_map is xs _
/-- binding a target's names -/
theorem bind_of_tgt {is : List Nat} {one : Bool} {w : W} {v : V} {env env' : Env} {σ : L2.St} {φ : Ph} {ex : List Addr} {H : Hp} {Q : L2.St → Hp → Prop} (N : EnvR R φ ex H env σ) (r : RpW R φ ex H v w) (h : bindN is one w env = some env')
    (hQ : ∀ vs, σ.length = (setAll is vs σ).length → EnvR R φ ex H env' (setAll is vs σ) → Q (setAll is vs σ) H) (hl : ∀ is vs (σ : L2.St), σ.length = (setAll is vs σ).length) : gTgt R.K is one v σ H Q := by
  unfold bindN at h
  split at h
  · rename_i i
    cases h
    exact hQ [v] (hl _ _ _) (N.set r)
  · split at h
    · split at h
      · rename_i xs hlen
        cases h
        cases r with | d r =>
        cases r with
        | tup hr rl =>
          refine ⟨_, _, rfl, hr.elim (fun q => .inl q.1) .inr, by rw [rl.length]; exact hlen, gNames_of (by rw [rl.length]; exact hlen) (hQ _ (hl _ _ _) ?_)⟩
          rw [fold_map]
          exact setAll_env N (RpWL.of rl) (by rw [rl.length]; exact hlen)
      · cases h
    · split at h
      · rename_i ws hlen
        cases h
        cases r with
        | tup hr n rl => exact ⟨_, _, rfl, .inl hr, by rw [rl.length]; exact hlen, gNames_of (by rw [rl.length]; exact hlen) (hQ _ (hl _ _ _) (setAll_env N rl (by rw [rl.length]; exact hlen)))⟩
      · cases h
    · cases h
  · cases h
theorem setAll_len : ∀ (is : List Nat) (vs : List V) (σ : L2.St), σ.length = (setAll is vs σ).length
  | [], _, _ => by simp [setAll]
  | _ :: _, [], _ => by simp [setAll]
  | i :: is, v :: vs, σ => by
    show σ.length = (setAll is vs (σ.set i (some v))).length
    rw [← setAll_len is vs]; simp
/-! ### wiped names -/
theorem wipe_at {σ : L2.St} {j : Nat} : ∀ {vs : List Nat}, (wipe σ vs)[j]? = if j ∈ vs ∧ j < σ.length then some none else σ[j]?
  | [] => by simp [wipe]
  | v :: vs => by
    show ((wipe σ vs).set v none)[j]? = _
    have ih := wipe_at (σ := σ) (j := j) (vs := vs)
    by_cases e : v = j
    · subst e
      by_cases l : v < σ.length
      · rw [List.getElem?_set_self (by rw [wipe_length]; exact l)]
        simp [l]
      · rw [List.set_eq_of_length_le (by rw [wipe_length]; omega), ih]
        simp [l]
    · rw [List.getElem?_set_ne e, ih]
      have : j ∈ v :: vs ↔ j ∈ vs := by
        constructor
        · intro h
          rcases List.mem_cons.mp h with h | h
          · exact absurd h.symm e
          · exact h
        · intro h; exact List.mem_cons_of_mem _ h
      simp [this]
theorem wipe_eq {σ σ' : L2.St} {vs : List Nat} (hl : σ.length = σ'.length) (h : ∀ j, j ∉ vs → σ[j]? = σ'[j]?) : wipe σ vs = wipe σ' vs := by
  apply List.ext_getElem?
  intro j
  rw [wipe_at, wipe_at, hl]
  by_cases m : j ∈ vs
  · by_cases l : j < σ'.length
    · simp [m, l]
    · simp only [m, l, and_false, if_false]
      rw [List.getElem?_eq_none (by omega), List.getElem?_eq_none (by omega)]
  · simp only [m, false_and, if_false]
    exact h j m
theorem wipe_wipe {σ : L2.St} {vs : List Nat} : wipe (wipe σ vs) vs = wipe σ vs := wipe_eq (wipe_length _ _) fun j h => by rw [wipe_at]; simp [h]
theorem setAll_out {j : Nat} : ∀ {is : List Nat} {vs : List V} {σ : L2.St}, j ∉ is → (setAll is vs σ)[j]? = σ[j]?
  | [], _, _, _ => by simp [setAll]
  | _ :: _, [], _, _ => by simp [setAll]
  | i :: is, v :: vs, σ, h => by
    show (setAll is vs (σ.set i (some v)))[j]? = _
    rw [setAll_out (fun z => h (List.mem_cons_of_mem _ z)), List.getElem?_set_ne]
    intro z; subst z; exact h List.mem_cons_self
theorem wipe_setAll {is : List Nat} {vs : List V} {σ : L2.St} {own : List Nat} (h : ∀ i ∈ is, i ∈ own) : wipe (setAll is vs (wipe σ own)) own = wipe σ own := by
  refine (wipe_eq ?_ fun j hj => ?_).trans wipe_wipe
  · rw [← setAll_len]
  · exact setAll_out fun z => hj (h j z)
theorem EnvR.wipe {φ : Ph} {ex : List Addr} {H : Hp} {env : Env} {σ : L2.St} (N : EnvR R φ ex H env σ) : ∀ own : List Nat, EnvR R φ ex H (wipeE env own) (L2.wipe σ own)
  | [] => N
  | v :: vs => by
    have ih := EnvR.wipe N vs
    refine ⟨by simp [wipeE, L2.wipe, ih.len], fun j w e => ?_⟩
    have e' : ((wipeE env vs).set v none)[j]? = some (some w) := e
    by_cases h : v = j
    · subst h
      rcases Nat.lt_or_ge v (wipeE env vs).length with l | l
      · rw [List.getElem?_set_self l] at e'; cases e'
      · rw [List.set_eq_of_length_le l] at e'
        have := (List.getElem?_eq_some_iff.mp e').1
        omega
    · rw [List.getElem?_set_ne h] at e'
      obtain ⟨u, q, r⟩ := ih.at_ j w e'
      refine ⟨u, ?_, r⟩
      show ((L2.wipe σ vs).set v none)[j]? = _
      rw [List.getElem?_set_ne h]; exact q
end
/-! ### what is walked -/
/-- the iterator J yields ws, while the walked cell stands still -/
def JOk (R : Gt) (J : It) (ws : List W) (g : Option Nat) (s0 : Store) (v : V) (w : W) : Prop := ∀ φ ex H s, Sim R φ ex H s → RpW R φ ex H v w → still g s0 s = true →
  (∀ (i : Nat) (x : W), ws[i]? = some x → J.go i H ∧ ∀ y H', J.yld i H y H' → Ext φ H φ H' ∧ Sim R φ ex H' s ∧ (∀ a, H a ≠ none → H' a = H a) ∧ RpW R φ ex H' y x) ∧ ∀ i, ws.length ≤ i → J.stop i H
def tI (R : Gt) (E : L2.St → XK) (walk : Wk) (its : List Ex) : L2.TI := fun σ H Rr => ∃ φ ex s env, Sim R φ ex H s ∧ EnvR R φ ex H env σ ∧
  RunsTo (runEs R.Φ R.M R.CI R.FO its env s) (fun us s' => ∃ ws g, walkW walk us s' = some (ws, g) ∧ ∀ φ' H' J v w, Ext φ H φ' H' → Sim R φ' ex H' s' → RpW R φ' ex H' v w → JOk R J ws g s' v w → Rr J H') (ExcOk R ex (E σ) φ H)
section
variable {X : Cx} {R : Gt} {E : L2.St → XK} {a b c e o tg : Expr} {ca cb cc ce co : Ex} {es : List Expr} {ces : List Ex} {pos p : Pos}
theorem dEqL_iff {xs ys : List PyData} (h : dEqL xs ys = true) : xs = ys := dEqL_eq _ _ h
mutual
theorem wEq_eq : ∀ x y : W, wEq x y = true → x = y
  | .d x, y, h => by cases y <;> simp_all [wEq]; exact dEq_eq _ _ h
  | .ref n, y, h => by cases y <;> simp_all [wEq]
  | .tup ws, y, h => by cases y <;> simp_all [wEq]; exact wEqL_eq _ _ h
  | .fn i, y, h => by cases y <;> simp_all [wEq]
theorem wEqL_eq : ∀ x y : List W, wEqL x y = true → x = y
  | [], y, h => by cases y <;> simp_all [wEqL]
  | x :: xs, y, h => by
    cases y with
    | nil => simp_all [wEqL]
    | cons z zs =>
      simp only [wEqL, Bool.and_eq_true] at h
      rw [wEq_eq _ _ h.1, wEqL_eq _ _ h.2]
end
/-- a list walked -/
theorem jok_list (hK : X.K = R.K) {ws : List W} {g : Option Nat} {s0 : Store} {a : Addr} {w : W} (h : ∀ φ ex H s, Sim R φ ex H s → RpW R φ ex H (.ref a) w → still g s0 s = true → ∃ vs, SqL R.K H a vs ∧ RpWL R φ ex H vs ws) : JOk R (Itl X.K a) ws g s0 (.ref a) w := by
  intro φ ex H s S r st
  obtain ⟨vs, hl, rl⟩ := h φ ex H s S r st
  rw [← hK] at hl
  refine ⟨fun i x hx => ?_, fun i hi => ⟨vs, hl, by rw [rl.length]; exact hi⟩⟩
  obtain ⟨v, hv, rv⟩ := rl.get hx
  refine ⟨⟨vs, v, hl, hv⟩, fun y H' hy => ?_⟩
  obtain ⟨rfl, hy⟩ := hy
  have := hy vs hl
  rw [hv] at this
  cases this
  exact ⟨Ext.refl _ _, S, fun _ _ => rfl, rv⟩
theorem jok_tup (hK : X.K = R.K) {ws : List W} {g : Option Nat} {s0 : Store} {a : Addr} {w : W} (h : ∀ φ ex H s, Sim R φ ex H s → RpW R φ ex H (.ref a) w → still g s0 s = true → ∃ vs, SqT R.K H a vs ∧ RpWL R φ ex H vs ws) : JOk R (Itt X.K a) ws g s0 (.ref a) w := by
  intro φ ex H s S r st
  obtain ⟨vs, hl, rl⟩ := h φ ex H s S r st
  rw [← hK] at hl
  refine ⟨fun i x hx => ?_, fun i hi => ⟨vs, hl, by rw [rl.length]; exact hi⟩⟩
  obtain ⟨v, hv, rv⟩ := rl.get hx
  refine ⟨⟨vs, v, hl, hv⟩, fun y H' hy => ?_⟩
  obtain ⟨rfl, hy⟩ := hy
  have := hy vs hl
  rw [hv] at this
  cases this
  exact ⟨Ext.refl _ _, S, fun _ _ => rfl, rv⟩
theorem jok_str {x : Str} {s0 : Store} {v : V} {w : W} : JOk R (Its x) (x.cps.toList.map fun c => W.d (.str ⟨#[c]⟩)) none s0 v w := by
  intro φ ex H s S r st
  refine ⟨fun i y hy => ?_, fun i hi => by show x.cps.size ≤ i; simpa using hi⟩
  rw [List.getElem?_map] at hy
  obtain ⟨c, hc, rfl⟩ := map_of hy
  have hc' : x.cps[i]? = some c := by simpa using hc
  refine ⟨?_, fun u H' hu => ?_⟩
  · have := (Array.getElem?_eq_some_iff.mp hc').1
    exact this
  · obtain ⟨rfl, c', h1, rfl⟩ := hu
    rw [hc'] at h1
    cases h1
    exact ⟨Ext.refl _ _, S, fun _ _ => rfl, .d (.str _)⟩
theorem jok_rng {lo : Int} {n : Nat} {s0 : Store} {v : V} {w : W} : JOk R (Itr lo n) ((List.range n).map fun (k : Nat) => W.d (.int (lo + (k : Nat)))) none s0 v w := by
  intro φ ex H s S r st
  refine ⟨fun i y hy => ?_, fun i hi => by show n ≤ i; simpa using hi⟩
  rw [List.getElem?_map] at hy
  obtain ⟨k, hk, rfl⟩ := map_of hy
  have hi : i < n := by have := (List.getElem?_eq_some_iff.mp hk).1; simpa using this
  have ek : k = i := by rw [List.getElem?_range hi] at hk; cases hk; rfl
  subst ek
  refine ⟨hi, fun u H' hu => ?_⟩
  obtain ⟨rfl, rfl⟩ := hu
  exact ⟨Ext.refl _ _, S, fun _ _ => rfl, .d (.int _)⟩
theorem jok_enum (hK : X.K = R.K) {xs : List PyData} {g : Option Nat} {s0 : Store} {a : Addr} {w : W} (h : ∀ φ ex H s, Sim R φ ex H s → RpW R φ ex H (.ref a) w → still g s0 s = true → ∃ vs, SqL R.K H a vs ∧ RpL R.K φ ex H vs xs) :
    JOk R (Ite X.K a) (xs.zipIdx.map fun p => W.d (.tuple [.int (p.2 : Nat), p.1])) g s0 (.ref a) w := by
  intro φ ex H s S r st
  obtain ⟨vs, hl, rl⟩ := h φ ex H s S r st
  rw [← hK] at hl
  refine ⟨fun i y hy => ?_, fun i hi => ⟨vs, hl, by rw [rl.length]; simpa using hi⟩⟩
  rw [List.getElem?_map] at hy
  obtain ⟨q, hq, rfl⟩ := map_of hy
  rw [List.getElem?_zipIdx] at hq
  obtain ⟨d, hd, rfl⟩ := map_of hq
  obtain ⟨v, hv, rv⟩ := rl.get hd
  refine ⟨⟨vs, v, hl, hv⟩, fun u H' hu => ?_⟩
  obtain ⟨T, x, rfl, hT, rfl, hx⟩ := hu
  have := hx vs hl
  rw [hv] at this
  cases this
  obtain ⟨e, S', r'⟩ := S.newTup (vs := [.int (i : Nat), v]) (ds := [.int (i : Nat), d]) (.cons (.int _) (.cons rv .nil)) hT
  refine ⟨e, S', fun a ha => upd_ne fun z => ha (by rw [z]; exact hT), ?_⟩
  simp only [Nat.zero_add]
  exact .d r'
/-! ### the walks by syntax -/
theorem lst_back {φ : Ph} {ex : List Addr} {H : Hp} {s s0 : Store} {n : Nat} {a : Addr} {xs : List PyData} (S : Sim R φ ex H s) (h0 : s0[n]? = some (.lst xs)) (st : still (some n) s0 s = true) (r : RpW R φ ex H (.ref a) (.ref n)) : ∃ vs, SqL R.K H a vs ∧ RpL R.K φ ex H vs xs := by
  simp only [still, h0] at st
  split at st
  · rename_i h1 h2
    cases h1
    cases dEqL_iff st
    obtain ⟨b, vs, e, _, hl, rl⟩ := S.lst h2 r
    cases e
    exact ⟨vs, .of hl, rl⟩
  · rename_i h1 h2; cases h1
  · cases st
theorem wl_back {φ : Ph} {ex : List Addr} {H : Hp} {s s0 : Store} {n : Nat} {a : Addr} {xs : List W} (S : Sim R φ ex H s) (h0 : s0[n]? = some (.wl xs)) (st : still (some n) s0 s = true) (r : RpW R φ ex H (.ref a) (.ref n)) : ∃ vs, SqL R.K H a vs ∧ RpWL R φ ex H vs xs := by
  simp only [still, h0] at st
  split at st
  · rename_i h1 h2; cases h1
  · rename_i h1 h2
    cases h1
    cases wEqL_eq _ _ st
    obtain ⟨b, vs, e, _, hl, rl⟩ := S.wl h2 r
    cases e
    exact ⟨vs, .of hl, rl⟩
  · cases st
theorem pi_seq (hK : X.K = R.K) (ha : PE X a (tD R E ca)) : PI X tg a (tI R E .seq [ca]) := by
  refine ⟨fun pins s σ H Rr I h => ?_⟩
  obtain ⟨φ, ex, st, env, S, N, h⟩ := h
  simp only [runEs] at h
  cases r : runE R.Φ R.M R.CI R.FO ca env st with
  | stuck => rw [r] at h; exact h.elim
  | exc x t =>
    rw [r] at h
    -- an exception: any reading will do
    exact (pi_list (tl := tD R E ca) ha).run pins s σ H Rr I ⟨φ, ex, st, env, S, N, by rw [r]; exact h⟩
  | ok w t =>
    rw [r] at h
    obtain ⟨ws, g, hw, q⟩ := h
    have lst : (∀ φ' H', Ext φ H φ' H' → Sim R φ' ex H' t → ∀ v, RpW R φ' ex H' v w → ∃ a, v = .ref a ∧ (∃ xs, SqL X.K H' a xs) ∧ JOk R (Itl X.K a) ws g t v w) → wpAny (model X.prog X.w) X.A (eval a X.env) (fun v s1 => wpAny (model X.prog X.w) X.A (pyIter v) (PIE X pins σ tg Rr) X.xe s1) X.xe s := fun hh =>
      (pi_list (tl := tD R E ca) ha).run pins s σ H Rr I ⟨φ, ex, st, env, S, N, by
        rw [r]
        intro v φ' H' e S' rv
        obtain ⟨a', rfl, hx, j⟩ := hh φ' H' e S' v rv
        exact ⟨a', rfl, hx, q φ' H' _ _ w e S' rv j⟩⟩
    have tup : (∀ φ' H', Ext φ H φ' H' → Sim R φ' ex H' t → ∀ v, RpW R φ' ex H' v w → ∃ a, v = .ref a ∧ (∃ xs, SqT X.K H' a xs) ∧ JOk R (Itt X.K a) ws g t v w) → wpAny (model X.prog X.w) X.A (eval a X.env) (fun v s1 => wpAny (model X.prog X.w) X.A (pyIter v) (PIE X pins σ tg Rr) X.xe s1) X.xe s := fun hh =>
      (pi_tup (tl := tD R E ca) ha).run pins s σ H Rr I ⟨φ, ex, st, env, S, N, by
        rw [r]
        intro v φ' H' e S' rv
        obtain ⟨a', rfl, hx, j⟩ := hh φ' H' e S' v rv
        exact ⟨a', rfl, hx, q φ' H' _ _ w e S' rv j⟩⟩
    cases w with
    | fn i => simp [walkW, wSeq, items] at hw
    | ref n =>
      simp only [walkW, wSeq, items] at hw
      obtain ⟨ws', hi, e⟩ := map_of hw
      cases e
      refine lst fun φ' H' e S' v rv => ?_
      split at hi
      · rename_i xs hs
        cases hi
        obtain ⟨b, vs, rfl, _, hl, rl⟩ := S'.lst hs rv
        refine ⟨b, rfl, ⟨vs, .of hl⟩, jok_list hK fun φ2 ex2 H2 s2 S2 r2 st => ?_⟩
        obtain ⟨us, h1, h2⟩ := lst_back S2 hs st r2
        exact ⟨us, h1, RpWL.of h2⟩
      · rename_i xs hs
        cases hi
        obtain ⟨b, vs, rfl, _, hl, rl⟩ := S'.wl hs rv
        exact ⟨b, rfl, ⟨vs, .of hl⟩, jok_list hK fun φ2 ex2 H2 s2 S2 r2 st => wl_back S2 hs st r2⟩
      · cases hi
    | tup us =>
      simp only [walkW, wSeq, items] at hw
      cases hw
      refine tup fun φ' H' e S' v rv => ?_
      cases rv with
      | tup hr n rl =>
        refine ⟨_, rfl, ⟨_, .inl hr⟩, jok_tup hK fun φ2 ex2 H2 s2 S2 r2 st => ?_⟩
        cases r2 with
        | tup hr n rl => exact ⟨_, .inl hr, rl⟩
    | d x =>
      simp only [walkW, wSeq] at hw
      cases x <;> simp only [items] at hw <;> try (cases hw; done)
      · rename_i x
        cases hw
        exact (pi_str (te := tD R E ca) ha).run pins s σ H Rr I ⟨φ, ex, st, env, S, N, by
          rw [r]
          intro v φ' H' e S' rv
          exact ⟨x, rv.str, q φ' H' _ _ _ e S' rv jok_str⟩⟩
      · rename_i xs
        cases hw
        refine lst fun φ' H' e S' v rv => ?_
        cases rv with | d rv =>
        cases rv with
        | lst hr n rl =>
          refine ⟨_, rfl, ⟨_, .inl hr⟩, jok_list hK fun φ2 ex2 H2 s2 S2 r2 st => ?_⟩
          cases r2 with | d r2 => cases r2 with | lst hr n rl => exact ⟨_, .inl hr, RpWL.of rl⟩
      · rename_i xs
        cases hw
        refine tup fun φ' H' e S' v rv => ?_
        cases rv with | d rv =>
        cases rv with
        | tup hr rl =>
          refine ⟨_, rfl, ⟨_, by rw [hK]; exact hr.elim (fun q => .inl q.1) .inr⟩, jok_tup hK fun φ2 ex2 H2 s2 S2 r2 st => ?_⟩
          cases r2 with | d r2 => cases r2 with | tup hr rl => exact ⟨_, hr.elim (fun q => .inl q.1) .inr, RpWL.of rl⟩
theorem tI_args {walk : Wk} {σ : L2.St} {H : Hp} {Rr : It → Hp → Prop} (h : tI R E walk ces σ H Rr) : tA R E ces σ H fun vs H' => ∃ φ' ex s' us ws g, Sim R φ' ex H' s' ∧ RpWL R φ' ex H' vs us ∧ walkW walk us s' = some (ws, g) ∧ ∀ J v w, RpW R φ' ex H' v w → JOk R J ws g s' v w → Rr J H' := by
  obtain ⟨φ, ex, st, env, S, N, h⟩ := h
  refine ⟨φ, ex, st, env, S, N, ?_⟩
  cases r : runEs R.Φ R.M R.CI R.FO ces env st with
  | stuck => rw [r] at h; exact h.elim
  | exc x t => rw [r] at h; exact h
  | ok us t =>
    rw [r] at h
    obtain ⟨ws, g, hw, q⟩ := h
    exact fun vs φ' H' e S' rv => ⟨φ', ex, t, us, ws, g, S', rv, hw, fun J v w rw j => q φ' H' J v w e S' rw j⟩
theorem piImp {iter : Expr} {w w' : L2.TI} (h : PI X tg iter w) (i : ∀ σ H Q, w' σ H Q → w σ H Q) : PI X tg iter w' := ⟨fun pins s σ H Q I q => h.run pins s σ H Q I (i σ H Q q)⟩
theorem w1_of {ws : List W} {f : W → Option (List W × Option Nat)} {z : List W × Option Nat} (h : (match ws with | [w] => f w | _ => none) = some z) : ∃ w, ws = [w] ∧ f w = some z := by
  split at h
  · exact ⟨_, rfl, h⟩
  · cases h
theorem w2_of {ws : List W} {f : W → W → Option (List W × Option Nat)} {z : List W × Option Nat} (h : (match ws with | [w, u] => f w u | _ => none) = some z) : ∃ w u, ws = [w, u] ∧ f w u = some z := by
  split at h
  · exact ⟨_, _, rfl, h⟩
  · cases h
theorem pi_r1 (hs : ∀ x p, a ≠ .Starred x p) (hg : Gl X "range") (hm : X.mg "range" = none) (ha : PA X [a] (tA R E [ca])) : PI X tg (.Call (.Name "range" p) [a] [] pos) (tI R E .rng1 [ca]) :=
  piImp (pi_range1 hg hm ha (star_ne hs [] X.env)) fun σ H Rr h => tA_mono (tI_args h) fun vs H' ⟨φ', ex, s', us, ws, g, S', rv, hw, q⟩ => by
    obtain ⟨w, rfl, hw⟩ := w1_of hw
    obtain ⟨x, rfl, rx⟩ := one_of rv
    change wRng1 w = _ at hw
    unfold wRng1 at hw
    split at hw
    · split at hw
      · rename_i hz
        cases hw
        have hz := rngB_iff hz
        exact ⟨_, by rw [rx.int], hz.1, hz.2, q _ .non (.d .none) (.d .non) jok_rng⟩
      · cases hw
    · cases hw
theorem rp_rng0 {K : PySem.W.Frag} {φ : Ph} {ex : List Addr} {H : Hp} : ∀ l : List Nat, RpL K φ ex H (l.map fun i => V.int (0 + (i : Nat))) (l.map fun k => PyData.int (0 + (k : Nat)))
  | [] => .nil
  | i :: l => .cons (.int _) (rp_rng0 l)
/-- list(range(a)) -/
theorem f_lrng {p2 pos2 : Pos} (hc : X.calm = true) (hs : ∀ x p, a ≠ .Starred x p) (hg : Gl X "list") (hm : X.mg "list" = none) (hg2 : Gl X "range") (hm2 : X.mg "range" = none) (ha : PE X a (tD R E ca)) :
    PE X (.Call (.Name "list" p) [.Call (.Name "range" p2) [a] [] pos2] [] pos) (tF R E (.bf .lrng [ca])) :=
  peImp (pe_listRg hc hg hm (prg_1 hg2 hm2 ha (star_ne hs [] X.env))) fun σ H Q ⟨φ, ex, s, env, S, N, h⟩ => by
    simp only [runE, runEs, res_assoc] at h
    refine tD_mono (tD_bind mono_F S N h) fun x H1 ⟨φ1, s1, w, S1, N1, e1, r1, h1⟩ => ?_
    dsimp only [Res.bind] at h1
    obtain ⟨z, hz, q⟩ := h1.of
    obtain ⟨d, hd, rfl⟩ := map_of hz
    change bfLrng w = some d at hd
    unfold bfLrng at hd
    split at hd
    · rename_i n
      split at hd
      · rename_i hn
        cases hd
        have hn := Nat.le_of_ble_eq_true hn
        refine ⟨(n : Nat), by rw [r1.int]; rfl, RgOk.of_le (by omega) (by omega) (by omega) (by omega), fun q0 hq0 => ?_⟩
        have en : ((n : Int) - 0).toNat = n := by omega
        refine q φ1 H1 (rgV 0 (n : Nat)) q0 (Ext.refl _ _) S1 ?_ hq0
        unfold rgV
        rw [en]
        exact rp_rng0 (List.range n)
      · cases hd
    · cases hd
/-- len(set(a)) -/
theorem f_lens {p2 pos2 : Pos} (hK : X.K = R.K) (hc : X.calm = true) (hs : ∀ x p, a ≠ .Starred x p) (hg : Gl X "len") (hm : X.mg "len" = none) (hg2 : Gl X "set") (hm2 : X.mg "set" = none) (ha : PE X a (tD R E ca)) :
    PE X (.Call (.Name "len" p) [.Call (.Name "set" p2) [a] [] pos2] [] pos) (tD R E (.bf .lens [ca])) :=
  peImp (pe_lens hc hg hm hg2 hm2 ha (star_ne hs [] X.env)) fun σ H Q ⟨φ, ex, s, env, S, N, h⟩ => by
    simp only [runE, runEs, res_assoc] at h
    refine tD_mono (tD_bind mono_W S N h) fun x H1 ⟨φ1, s1, w, S1, N1, e1, r1, h1⟩ => ?_
    dsimp only [Res.bind] at h1
    obtain ⟨z, hz, q⟩ := h1.of
    obtain ⟨d, hd, rfl⟩ := map_of hz
    change bfLens s1 w = some d at hd
    unfold bfLens at hd
    obtain ⟨l, hl, hd⟩ := bind_of hd
    obtain ⟨y, hy, hl⟩ := bind_of hl
    obtain ⟨ds, hds, hl⟩ := bind_of hl
    split at hd
    · rename_i hb
      cases hd
      have hb := Nat.le_of_ble_eq_true hb
      obtain rfl : y = .list ds := by
        cases y <;> simp only [listOf] at hds <;> first | (cases hds; rfl) | cases hds
      obtain ⟨a, vs, rfl, hq, rr⟩ := sqL_of (S1.top r1 hy)
      cases strs_of rr hl
      exact ⟨a, l, rfl, hq _, by omega, q _ φ1 H1 (Ext.refl _ _) S1 (.d (.int _))⟩
    · cases hd
theorem pi_r2 (hs : ∀ x p, a ≠ .Starred x p) (hs2 : ∀ x p, b ≠ .Starred x p) (hg : Gl X "range") (hm : X.mg "range" = none) (ha : PA X [a, b] (tA R E [ca, cb])) : PI X tg (.Call (.Name "range" p) [a, b] [] pos) (tI R E .rng2 [ca, cb]) :=
  piImp (pi_range2 hg hm ha (by rw [star_ne hs, star_ne hs2]; rfl) (star_ne hs2 [] X.env)) fun σ H Rr h => tA_mono (tI_args h) fun vs H' ⟨φ', ex, s', us, ws, g, S', rv, hw, q⟩ => by
    obtain ⟨w, u, rfl, hw⟩ := w2_of hw
    obtain ⟨x, y, rfl, rx, ry⟩ := two_of rv
    change wRng2 w u = _ at hw
    unfold wRng2 at hw
    split at hw
    · split at hw
      · rename_i hz
        cases hw
        have hz := Bool.and_eq_true_iff.mp hz
        have hz1 := rngB_iff hz.1
        have hz2 := rngB_iff hz.2
        exact ⟨_, _, by rw [rx.int, ry.int], ⟨hz1.1, hz1.2, hz2.1, hz2.2⟩, q _ .non (.d .none) (.d .non) jok_rng⟩
      · cases hw
    · cases hw
theorem pi_en {elts : List Expr} {kk : Nat} {tpos : Pos} (hK : X.K = R.K) (hs : ∀ x p, a ≠ .Starred x p) (hg : Gl X "enumerate") (hm : X.mg "enumerate" = none) (ha : PA X [a] (tA R E [ca])) :
    PI X (.Tuple elts kk tpos) (.Call (.Name "enumerate" p) [a] [] pos) (tI R E .enum [ca]) :=
  piImp (pi_enum hg hm ha (star_ne hs [] X.env)) fun σ H Rr h => tA_mono (tI_args h) fun vs H' ⟨φ', ex, s', us, ws, g, S', rv, hw, q⟩ => by
    obtain ⟨w, rfl, hw⟩ := w1_of hw
    obtain ⟨x, rfl, rx⟩ := one_of rv
    change wEnum s' w = _ at hw
    unfold wEnum at hw
    split at hw
    · rename_i xs
      cases hw
      have rx' := rx
      cases rx with | d rx =>
      cases rx with
      | lst hr n rl =>
        refine ⟨_, _, rfl, .inl hr, q _ _ _ rx' (jok_enum hK fun φ2 ex2 H2 s2 S2 r2 st => ?_)⟩
        cases r2 with | d r2 => cases r2 with | lst hr n rl => exact ⟨_, .inl hr, rl⟩
    · rename_i n
      split at hw
      · rename_i xs hc
        cases hw
        obtain ⟨b, us, rfl, _, hl, rl⟩ := S'.lst hc rx
        exact ⟨b, us, rfl, .of hl, q _ _ _ rx (jok_enum hK fun φ2 ex2 H2 s2 S2 r2 st => lst_back S2 hc st r2)⟩
      · cases hw
    · cases hw
end
end Cc

set_option linter.all false
set_option maxRecDepth 100000
set_option maxHeartbeats 1000000
/-! Cc: comprehensions. -/
namespace Cc
open PySem PySem.Spec PyProof.Rows L2

section
variable {R : Gt} {K : PySem.W.Frag} {φ φ' : Ph} {ex : List Addr} {H H' : Hp} {s : Store} {D : Addr}
/-! ### an object of the loop's own beside the cells -/
theorem rd_upd {a : Addr} {u o : HO} (h : Rd H a u) (ne : a ≠ D) : Rd (upd H D o) a u := by
  rcases h with h | ⟨z, h⟩
  · exact .inl (by rw [upd_ne ne]; exact h)
  · exact .inr ⟨z, by rw [upd_ne ne]; exact h⟩
mutual
/-- facts that do not lean on D -/
theorem Rp.updEx {o : HO} (hD : D ∈ ex) : ∀ (d : PyData) (v : V), Rp K φ ex H v d → Rp K φ ex (upd H D o) v d
  | .none, _, h => by cases h; exact .non
  | .bool b, _, h => by cases h; exact .bl _
  | .int b, _, h => by cases h; exact .int _
  | .str b, _, h => by cases h; exact .str _
  | .list ds, _, h => by
    cases h with
    | lst h n r => exact .lst (rd_upd h fun z => n (.inr (by rw [z]; exact hD))) n (RpL.updEx hD ds _ r)
  | .tuple ds, _, h => by
    cases h with
    | tup h r => exact .tup (h.elim (fun q => .inl ⟨rd_upd q.1 fun z => q.2 (.inr (by rw [z]; exact hD)), q.2⟩) .inr) (RpL.updEx hD ds _ r)
  | .dict _, _, h => by cases h
theorem RpL.updEx {o : HO} (hD : D ∈ ex) : ∀ (ds : List PyData) (vs : List V), RpL K φ ex H vs ds → RpL K φ ex (upd H D o) vs ds
  | [], _, h => by cases h; exact .nil
  | d :: ds, _, h => by
    cases h with
    | cons r t => exact .cons (Rp.updEx hD d _ r) (RpL.updEx hD ds _ t)
end
mutual
theorem RpW.updEx {o : HO} (hD : D ∈ ex) : ∀ (w : W) (v : V), RpW R φ ex H v w → RpW R φ ex (upd H D o) v w
  | .d x, _, h => by cases h with | d h => exact .d (Rp.updEx hD x _ h)
  | .ref n, _, h => by cases h with | ref l h => exact .ref l h
  | .tup ws, _, h => by
    cases h with
    | tup h n r => exact .tup (rd_upd h fun z => n (.inr (by rw [z]; exact hD))) n (RpWL.updEx hD ws _ r)
  | .fn i, _, h => by cases h; exact .fn i
theorem RpWL.updEx {o : HO} (hD : D ∈ ex) : ∀ (ws : List W) (vs : List V), RpWL R φ ex H vs ws → RpWL R φ ex (upd H D o) vs ws
  | [], _, h => by cases h; exact .nil
  | w :: ws, _, h => by
    cases h with
    | cons r t => exact .cons (RpW.updEx hD w _ r) (RpWL.updEx hD ws _ t)
end
theorem FsR.updEx {o : HO} (hD : D ∈ ex) : ∀ {vs : List (Str × V)} {ws : List (Str × W)}, FsR R φ ex H vs ws → FsR R φ ex (upd H D o) vs ws
  | _, _, .nil => .nil
  | _, _, .cons r t => .cons (RpW.updEx hD _ _ r) (FsR.updEx hD t)
theorem CellR.updEx {o : HO} (hD : D ∈ ex) {a : Addr} {c : Cell} (ne : a ≠ D) (h : CellR R φ ex H a c) : CellR R φ ex (upd H D o) a c := by
  cases c with
  | lst ds => obtain ⟨vs, h, r⟩ := h; exact ⟨vs, by rw [upd_ne ne]; exact h, RpL.updEx hD _ _ r⟩
  | wl ws => obtain ⟨vs, h, r⟩ := h; exact ⟨vs, by rw [upd_ne ne]; exact h, RpWL.updEx hD _ _ r⟩
  | ins c fs => obtain ⟨dx, fv, h, r⟩ := h; exact ⟨dx, fv, by rw [upd_ne ne]; exact h, FsR.updEx hD r⟩
  | dead => exact h.elim
theorem Sim.updEx {o : HO} (hD : D ∈ ex) (ho : Cel o) (S : Sim R φ ex H s) : Sim R φ ex (upd H D o) s where
  len := S.len
  cell := fun n c h => by
    rcases S.cell n c h with q | ⟨a, e, q⟩
    · exact .inl q
    · exact .inr ⟨a, e, q.updEx hD fun z => S.off D hD (by rw [← z]; exact List.mem_of_getElem? e)⟩
  one := S.one
  off := S.off
  exT := fun a ha => by
    by_cases e : a = D
    · subst e; exact ⟨o, upd_same, ho⟩
    · obtain ⟨u, h, c⟩ := S.exT a ha
      exact ⟨u, by rw [upd_ne e]; exact h, c⟩
theorem EnvR.updEx {o : HO} (hD : D ∈ ex) {env : Env} {σ : L2.St} (N : EnvR R φ ex H env σ) : EnvR R φ ex (upd H D o) env σ :=
  ⟨N.len, fun i w h => let ⟨v, e, r⟩ := N.at_ i w h; ⟨v, e, RpW.updEx hD _ _ r⟩⟩
/-- a new one beside: facts stand with it among what may change -/
theorem mu_cons {a : Addr} (h : H a ≠ none) (hD : H D = none) (n : ¬ Mu φ ex a) : ¬ Mu φ (D :: ex) a := fun z => by
  rcases z with z | z
  · exact n (.inl z)
  · rcases List.mem_cons.mp z with z | z
    · exact h (by rw [z]; exact hD)
    · exact n (.inr z)
theorem rd_there {a : Addr} {u : HO} (h : Rd H a u) : H a ≠ none := by
  rcases h with h | ⟨o, h⟩ <;> (rw [h]; exact fun z => nomatch z)
mutual
theorem Rp.addEx (hD : H D = none) : ∀ (d : PyData) (v : V), Rp K φ ex H v d → Rp K φ (D :: ex) H v d
  | .none, _, h => by cases h; exact .non
  | .bool b, _, h => by cases h; exact .bl _
  | .int b, _, h => by cases h; exact .int _
  | .str b, _, h => by cases h; exact .str _
  | .list ds, _, h => by
    cases h with
    | lst h n r => exact .lst h (mu_cons (rd_there h) hD n) (RpL.addEx hD ds _ r)
  | .tuple ds, _, h => by
    cases h with
    | tup h r => exact .tup (h.elim (fun q => .inl ⟨q.1, mu_cons (rd_there q.1) hD q.2⟩) .inr) (RpL.addEx hD ds _ r)
  | .dict _, _, h => by cases h
theorem RpL.addEx (hD : H D = none) : ∀ (ds : List PyData) (vs : List V), RpL K φ ex H vs ds → RpL K φ (D :: ex) H vs ds
  | [], _, h => by cases h; exact .nil
  | d :: ds, _, h => by
    cases h with
    | cons r t => exact .cons (Rp.addEx hD d _ r) (RpL.addEx hD ds _ t)
end
mutual
theorem RpW.addEx (hD : H D = none) : ∀ (w : W) (v : V), RpW R φ ex H v w → RpW R φ (D :: ex) H v w
  | .d x, _, h => by cases h with | d h => exact .d (Rp.addEx hD x _ h)
  | .ref n, _, h => by cases h with | ref l h => exact .ref l h
  | .tup ws, _, h => by
    cases h with
    | tup h n r => exact .tup h (mu_cons (rd_there h) hD n) (RpWL.addEx hD ws _ r)
  | .fn i, _, h => by cases h; exact .fn i
theorem RpWL.addEx (hD : H D = none) : ∀ (ws : List W) (vs : List V), RpWL R φ ex H vs ws → RpWL R φ (D :: ex) H vs ws
  | [], _, h => by cases h; exact .nil
  | w :: ws, _, h => by
    cases h with
    | cons r t => exact .cons (RpW.addEx hD w _ r) (RpWL.addEx hD ws _ t)
end
theorem FsR.addEx (hD : H D = none) : ∀ {vs : List (Str × V)} {ws : List (Str × W)}, FsR R φ ex H vs ws → FsR R φ (D :: ex) H vs ws
  | _, _, .nil => .nil
  | _, _, .cons r t => .cons (RpW.addEx hD _ _ r) (FsR.addEx hD t)
theorem EnvR.addEx (hD : H D = none) {env : Env} {σ : L2.St} (N : EnvR R φ ex H env σ) : EnvR R φ (D :: ex) H env σ :=
  ⟨N.len, fun i w h => let ⟨v, e, r⟩ := N.at_ i w h; ⟨v, e, RpW.addEx hD _ _ r⟩⟩
theorem CellR.addEx (hD : H D = none) {a : Addr} {c : Cell} (h : CellR R φ ex H a c) : CellR R φ (D :: ex) H a c := by
  cases c with
  | lst ds => obtain ⟨vs, h, r⟩ := h; exact ⟨vs, h, RpL.addEx hD _ _ r⟩
  | wl ws => obtain ⟨vs, h, r⟩ := h; exact ⟨vs, h, RpWL.addEx hD _ _ r⟩
  | ins c fs => obtain ⟨dx, fv, h, r⟩ := h; exact ⟨dx, fv, h, FsR.addEx hD r⟩
  | dead => exact h.elim
/-- the loop's own list begins -/
theorem Sim.enter {o : HO} (ho : Cel o) (S : Sim R φ ex H s) (hD : H D = none) : Sim R φ (D :: ex) (upd H D o) s where
  len := S.len
  cell := fun n c h => by
    rcases S.cell n c h with q | ⟨a, e, q⟩
    · exact .inl q
    · refine .inr ⟨a, e, (q.addEx hD).updEx List.mem_cons_self fun z => ?_⟩
      obtain ⟨u, hu, _⟩ := q.there
      rw [z, hD] at hu; cases hu
  one := S.one
  off := fun a ha z => by
    rcases List.mem_cons.mp ha with e | ha
    · subst e
      obtain ⟨u, hu, _⟩ := S.mem z
      rw [hD] at hu; cases hu
    · exact S.off a ha z
  exT := fun a ha => by
    by_cases e : a = D
    · subst e; exact ⟨o, upd_same, ho⟩
    · rcases List.mem_cons.mp ha with e2 | ha
      · exact absurd e2 e
      · obtain ⟨u, h, c⟩ := S.exT a ha
        exact ⟨u, by rw [upd_ne e]; exact h, c⟩
/-- .. and goes: what is left without it -/
def rmv (H : Hp) (D : Addr) : Hp := fun b => if b = D then none else H b
theorem rmv_ne {a : Addr} (h : a ≠ D) : rmv H D a = H a := by unfold rmv; rw [if_neg h]
theorem rmv_same : rmv H D D = none := by unfold rmv; rw [if_pos rfl]
theorem upd_rmv {o : HO} (h : H D = some o) : upd (rmv H D) D o = H := by
  funext b
  by_cases e : b = D
  · subst e; rw [upd_same, h]
  · rw [upd_ne e, rmv_ne e]
theorem rd_rmv {a : Addr} {u : HO} (h : Rd H a u) (ne : a ≠ D) : Rd (rmv H D) a u := by
  rcases h with h | ⟨z, h⟩
  · exact .inl (by rw [rmv_ne ne]; exact h)
  · exact .inr ⟨z, by rw [rmv_ne ne]; exact h⟩
theorem mu_less {a : Addr} (n : ¬ Mu φ (D :: ex) a) : ¬ Mu φ ex a ∧ a ≠ D := ⟨fun z => n (z.elim .inl fun z => .inr (List.mem_cons_of_mem _ z)), fun z => n (.inr (by rw [z]; exact List.mem_cons_self))⟩
mutual
theorem Rp.leave : ∀ (d : PyData) (v : V), Rp K φ (D :: ex) H v d → Rp K φ ex (rmv H D) v d
  | .none, _, h => by cases h; exact .non
  | .bool b, _, h => by cases h; exact .bl _
  | .int b, _, h => by cases h; exact .int _
  | .str b, _, h => by cases h; exact .str _
  | .list ds, _, h => by
    cases h with
    | lst h n r => exact .lst (rd_rmv h (mu_less n).2) (mu_less n).1 (RpL.leave ds _ r)
  | .tuple ds, _, h => by
    cases h with
    | tup h r => exact .tup (h.elim (fun q => .inl ⟨rd_rmv q.1 (mu_less q.2).2, (mu_less q.2).1⟩) .inr) (RpL.leave ds _ r)
  | .dict _, _, h => by cases h
theorem RpL.leave : ∀ (ds : List PyData) (vs : List V), RpL K φ (D :: ex) H vs ds → RpL K φ ex (rmv H D) vs ds
  | [], _, h => by cases h; exact .nil
  | d :: ds, _, h => by
    cases h with
    | cons r t => exact .cons (Rp.leave d _ r) (RpL.leave ds _ t)
end
mutual
theorem RpW.leave : ∀ (w : W) (v : V), RpW R φ (D :: ex) H v w → RpW R φ ex (rmv H D) v w
  | .d x, _, h => by cases h with | d h => exact .d (Rp.leave x _ h)
  | .ref n, _, h => by cases h with | ref l h => exact .ref l h
  | .tup ws, _, h => by
    cases h with
    | tup h n r => exact .tup (rd_rmv h (mu_less n).2) (mu_less n).1 (RpWL.leave ws _ r)
  | .fn i, _, h => by cases h; exact .fn i
theorem RpWL.leave : ∀ (ws : List W) (vs : List V), RpWL R φ (D :: ex) H vs ws → RpWL R φ ex (rmv H D) vs ws
  | [], _, h => by cases h; exact .nil
  | w :: ws, _, h => by
    cases h with
    | cons r t => exact .cons (RpW.leave w _ r) (RpWL.leave ws _ t)
end
theorem FsR.leave : ∀ {vs : List (Str × V)} {ws : List (Str × W)}, FsR R φ (D :: ex) H vs ws → FsR R φ ex (rmv H D) vs ws
  | _, _, .nil => .nil
  | _, _, .cons r t => .cons (RpW.leave _ _ r) (FsR.leave t)
theorem CellR.leave {a : Addr} {c : Cell} (ne : a ≠ D) (h : CellR R φ (D :: ex) H a c) : CellR R φ ex (rmv H D) a c := by
  cases c with
  | lst ds => obtain ⟨vs, h, r⟩ := h; exact ⟨vs, by rw [rmv_ne ne]; exact h, RpL.leave _ _ r⟩
  | wl ws => obtain ⟨vs, h, r⟩ := h; exact ⟨vs, by rw [rmv_ne ne]; exact h, RpWL.leave _ _ r⟩
  | ins c fs => obtain ⟨dx, fv, h, r⟩ := h; exact ⟨dx, fv, by rw [rmv_ne ne]; exact h, FsR.leave r⟩
  | dead => exact h.elim
theorem Sim.leave (hx : D ∉ ex) (S : Sim R φ (D :: ex) H s) : Sim R φ ex (rmv H D) s where
  len := S.len
  cell := fun n c h => by
    rcases S.cell n c h with q | ⟨a, e, q⟩
    · exact .inl q
    · exact .inr ⟨a, e, q.leave fun z => S.off D List.mem_cons_self (by rw [← z]; exact List.mem_of_getElem? e)⟩
  one := S.one
  off := fun a ha => S.off a (List.mem_cons_of_mem _ ha)
  exT := fun a ha => by
    obtain ⟨u, h, c⟩ := S.exT a (List.mem_cons_of_mem _ ha)
    exact ⟨u, by rw [rmv_ne fun z => hx (by rw [← z]; exact ha)]; exact h, c⟩
theorem Ext.updD {o : HO} (e : Ext φ H φ' H') (hD : H D = none) : Ext φ H φ' (upd H' D o) :=
  ⟨fun a u h n => by rw [upd_ne (ne_of_none h hD)]; exact e.keep a u h n, e.new, e.len, e.pre⟩
theorem Ext.rmvD (e : Ext φ H φ' H') (hD : H D = none) : Ext φ H φ' (rmv H' D) :=
  ⟨fun a u h n => by rw [rmv_ne (ne_of_none h hD)]; exact e.keep a u h n, e.new, e.len, e.pre⟩
/-! ### a turn's cells dropped -/
theorem Ext.take {n : Nat} (e : Ext φ H φ' H') (hn : n = φ.length) : Ext φ H (φ'.take n) H' where
  keep := e.keep
  new := fun a z => e.new a (List.mem_of_mem_take z)
  len := by
    rw [List.length_take, hn]
    exact Nat.le_min.mpr ⟨Nat.le_refl _, e.len⟩
  pre := fun m a l h => by
    rw [List.getElem?_take] at h
    split at h
    · exact e.pre m a l h
    · cases h
theorem mu_take {n : Nat} {a : Addr} (h : Mu (φ.take n) ex a) : Mu φ ex a := h.elim (fun z => .inl (List.mem_of_mem_take z)) .inr
theorem Rp.take {n : Nat} {v : V} {d : PyData} (r : Rp K φ ex H v d) : Rp K (φ.take n) ex H v d := Rp.weaken (fun a o _ z => mu_take z) _ _ r
theorem RpL.takeφ {n : Nat} {v : List V} {d : List PyData} (r : RpL K φ ex H v d) : RpL K (φ.take n) ex H v d := RpL.weaken (fun a o _ z => mu_take z) _ _ r
mutual
theorem RpW.takeφ {n : Nat} (hn : n ≤ φ.length) : ∀ (w : W) (v : V), w.lo n = true → RpW R φ ex H v w → RpW R (φ.take n) ex H v w
  | .d x, _, _, h => by cases h with | d h => exact .d h.take
  | .ref k, _, l, h => by
    cases h with
    | ref l2 h =>
      have lk : k < n := by simpa [W.lo] using l
      refine .ref (by rw [List.length_take]; omega) fun a e => h a ?_
      rw [List.getElem?_take, if_pos lk] at e; exact e
  | .tup ws, _, l, h => by
    cases h with
    | tup h m r => exact .tup h (fun z => m (mu_take z)) (RpWL.takeφ hn ws _ (by simpa [W.lo] using l) r)
  | .fn i, _, _, h => by cases h; exact .fn i
theorem RpWL.takeφ {n : Nat} (hn : n ≤ φ.length) : ∀ (ws : List W) (vs : List V), W.loL n ws = true → RpWL R φ ex H vs ws → RpWL R (φ.take n) ex H vs ws
  | [], _, _, h => by cases h; exact .nil
  | w :: ws, _, l, h => by
    simp only [W.loL, Bool.and_eq_true] at l
    cases h with
    | cons r t => exact .cons (RpW.takeφ hn w _ l.1 r) (RpWL.takeφ hn ws _ l.2 t)
end
theorem FsR.takeφ {n : Nat} (hn : n ≤ φ.length) : ∀ {vs : List (Str × V)} {ws : List (Str × W)}, (ws.all fun p => p.2.lo n) = true → FsR R φ ex H vs ws → FsR R (φ.take n) ex H vs ws
  | _, _, _, .nil => .nil
  | _, _, l, .cons r t => by
    simp only [List.all_cons, Bool.and_eq_true] at l
    exact .cons (RpW.takeφ hn _ _ l.1 r) (FsR.takeφ hn l.2 t)
theorem CellR.takeφ {n : Nat} (hn : n ≤ φ.length) {a : Addr} {c : Cell} (l : c.lo n = true) (h : CellR R φ ex H a c) : CellR R (φ.take n) ex H a c := by
  cases c with
  | lst ds => obtain ⟨vs, h, r⟩ := h; exact ⟨vs, h, r.takeφ⟩
  | wl ws => obtain ⟨vs, h, r⟩ := h; exact ⟨vs, h, RpWL.takeφ hn _ _ l r⟩
  | ins c fs => obtain ⟨dx, fv, h, r⟩ := h; exact ⟨dx, fv, h, FsR.takeφ hn l r⟩
  | dead => exact h.elim
theorem Sim.takeφ {n : Nat} (hn : n ≤ φ.length) (S : Sim R φ ex H s) (l : (s.take n).all (Cell.lo n) = true) : Sim R (φ.take n) ex H (s.take n) where
  len := by rw [List.length_take, List.length_take, S.len]
  cell := fun m c h => by
    have lc : c.lo n = true := List.all_eq_true.mp l c (List.mem_of_getElem? h)
    rw [List.getElem?_take] at h
    split at h
    · rename_i hm
      rcases S.cell m c h with ⟨q, q2⟩ | ⟨a, e, q⟩
      · exact .inl ⟨q, by rw [List.getElem?_take, if_pos hm]; exact q2⟩
      · exact .inr ⟨a, by rw [List.getElem?_take, if_pos hm]; exact e, q.takeφ hn lc⟩
    · cases h
  one := fun i j a h1 h2 => by
    rw [List.getElem?_take] at h1 h2
    split at h1 <;> split at h2 <;> first | exact S.one i j a h1 h2 | cases h1 | cases h2
  off := fun a ha z => S.off a ha (List.mem_of_mem_take z)
  exT := S.exT
theorem EnvR.takeφ {n : Nat} (hn : n ≤ φ.length) {env : Env} {σ : L2.St} (N : EnvR R φ ex H env σ) : EnvR R (φ.take n) ex H (env.map (dropRef n)) σ := by
  refine ⟨by simp [N.len], fun i w h => ?_⟩
  rw [List.getElem?_map] at h
  obtain ⟨o, ho, e⟩ := map_of h
  cases o with
  | none => cases e
  | some u =>
    simp only [dropRef] at e
    split at e
    · rename_i l
      cases e
      obtain ⟨v, q, r⟩ := N.at_ i _ ho
      exact ⟨v, q, RpW.takeφ hn _ _ l r⟩
    · cases e
end
end Cc

set_option linter.all false
set_option maxRecDepth 100000
set_option maxHeartbeats 1000000
/-! Cc: a comprehension by the interpreter. -/
namespace Cc
open PySem PySem.Spec PyProof.Rows L2

def never : L2.St → XK := fun _ _ _ _ => False
/-- a block's tests -/
def tCt (R : Gt) : Option Bx → L2.TT
  | none => tYes
  | some b => tT R never b
section
variable {R : Gt} {φ φ' φ1 : Ph} {ex : List Addr} {H H' H1 : Hp} {s s1 : Store} {D : Addr}
mutual
theorem RpW.low : ∀ (w : W) (v : V), RpW R φ ex H v w → w.lo φ.length = true
  | .d x, _, _ => rfl
  | .ref k, _, h => by cases h with | ref l h => simpa [W.lo] using l
  | .tup ws, _, h => by
    cases h with
    | tup h m r => simpa [W.lo] using RpWL.low ws _ r
  | .fn i, _, _ => rfl
theorem RpWL.low : ∀ (ws : List W) (vs : List V), RpWL R φ ex H vs ws → W.loL φ.length ws = true
  | [], _, _ => rfl
  | w :: ws, _, h => by
    cases h with
    | cons r t => simp [W.loL, RpW.low w _ r, RpWL.low ws _ t]
end
theorem lo_pure {n : Nat} : ∀ {ws : List W}, ws.all isPure = true → W.loL n ws = true
  | [], _ => rfl
  | .d x :: ws, h => by simp only [W.loL, W.lo, Bool.true_and]; exact lo_pure (by simpa [isPure] using h)
  | .ref _ :: _, h => by simp [isPure] at h
  | .tup _ :: _, h => by simp [isPure] at h
  | .fn _ :: _, h => by simp [isPure] at h
theorem EnvR.take {n : Nat} (hn : n ≤ φ.length) {env : Env} {σ : L2.St} (hl : ∀ (i : Nat) (w : W), env[i]? = some (some w) → w.lo n = true) (N : EnvR R φ ex H env σ) : EnvR R (φ.take n) ex H env σ :=
  ⟨N.len, fun i w h => let ⟨v, e, r⟩ := N.at_ i w h; ⟨v, e, RpW.takeφ hn _ _ (hl i w h) r⟩⟩
theorem mu_more {a : Addr} (n : ¬ Mu φ (D :: ex) a) : ¬ Mu φ ex a := (mu_less n).1
theorem Rp.less {K : PySem.W.Frag} {d : PyData} {v : V} (r : Rp K φ (D :: ex) H v d) : Rp K φ ex H v d := Rp.weaken (fun a o _ z => z.elim .inl fun z => .inr (List.mem_cons_of_mem _ z)) _ _ r
theorem RpL.less {K : PySem.W.Frag} {d : List PyData} {v : List V} (r : RpL K φ (D :: ex) H v d) : RpL K φ ex H v d := RpL.weaken (fun a o _ z => z.elim .inl fun z => .inr (List.mem_cons_of_mem _ z)) _ _ r
mutual
theorem RpW.less : ∀ (w : W) (v : V), RpW R φ (D :: ex) H v w → RpW R φ ex H v w
  | .d x, _, h => by cases h with | d h => exact .d h.less
  | .ref n, _, h => by cases h with | ref l h => exact .ref l h
  | .tup ws, _, h => by
    cases h with
    | tup h n r => exact .tup h (mu_more n) (RpWL.less ws _ r)
  | .fn i, _, h => by cases h; exact .fn i
theorem RpWL.less : ∀ (ws : List W) (vs : List V), RpWL R φ (D :: ex) H vs ws → RpWL R φ ex H vs ws
  | [], _, h => by cases h; exact .nil
  | w :: ws, _, h => by
    cases h with
    | cons r t => exact .cons (RpW.less w _ r) (RpWL.less ws _ t)
end
theorem FsR.less : ∀ {vs : List (Str × V)} {ws : List (Str × W)}, FsR R φ (D :: ex) H vs ws → FsR R φ ex H vs ws
  | _, _, .nil => .nil
  | _, _, .cons r t => .cons (RpW.less _ _ r) (FsR.less t)
theorem Sim.less (S : Sim R φ (D :: ex) H s) : Sim R φ ex H s :=
  ⟨S.len, fun n c h => by
    rcases S.cell n c h with q | ⟨a, e, q⟩
    · exact .inl q
    · refine .inr ⟨a, e, ?_⟩
      cases c with
      | lst ds => obtain ⟨vs, h, r⟩ := q; exact ⟨vs, h, r.less⟩
      | wl ws => obtain ⟨vs, h, r⟩ := q; exact ⟨vs, h, RpWL.less _ _ r⟩
      | ins c fs => obtain ⟨dx, fv, h, r⟩ := q; exact ⟨dx, fv, h, FsR.less r⟩
      | dead => exact q.elim, S.one, fun a ha => S.off a (List.mem_cons_of_mem _ ha), fun a ha => S.exT a (List.mem_cons_of_mem _ ha)⟩
/-- a loop's standing point -/
structure LI (R : Gt) (φ1 : Ph) (ex : List Addr) (H1 : Hp) (D : Addr) (σ : L2.St) (env : Env) (v0 : V) (w0 : W) (gc : Bool) (φ : Ph) (s : Store) (acc : List W) (vs : List V) (H : Hp) : Prop where
  S : Sim R φ (D :: ex) H s
  N : EnvR R φ (D :: ex) H env σ
  r0 : RpW R φ (D :: ex) H v0 w0
  hd : H D = some (.lst vs)
  ra : RpWL R φ (D :: ex) H vs acc
  e : Ext φ1 H1 φ H
  gcp : gc = true → acc.all isPure = true
variable {σ : L2.St} {env : Env} {v0 : V} {w0 : W} {gc : Bool} {acc : List W} {vs : List V}
/-- a turn's end: cells dropped or not, something pushed or not -/
theorem LI.turn (L : LI R φ1 ex H1 D σ env v0 w0 gc φ s acc vs H) (hD : H1 D = none) (hs1 : φ1.length = s1.length) (N1 : EnvR R φ1 ex H1 env σ) (r1 : RpW R φ1 ex H1 v0 w0) {φ4 : Ph} {H4 : Hp} {s3 s4 : Store} (e : Ext φ H φ4 H4) (S4 : Sim R φ4 (D :: ex) H4 s3)
    {u : Env} (ht : turnEnd gc s1.length [] s3 = some (u, s4)) : ∃ φ5, LI R φ1 ex H1 D σ env v0 w0 gc φ5 s4 acc vs H4 ∧ (∀ v w, RpW R φ4 (D :: ex) H4 v w → (gc = true → isPure w = true) → RpW R φ5 (D :: ex) H4 v w) := by
  have hd4 : H4 D = some (.lst vs) := e.keep D _ L.hd (L.S.off D List.mem_cons_self)
  unfold turnEnd at ht
  cases gc with
  | false =>
    simp only [Bool.false_eq_true, if_false] at ht
    cases ht
    exact ⟨φ4, ⟨S4, L.N.ext e, RpW.ext e _ _ L.r0, hd4, RpWL.ext e _ _ L.ra, L.e.trans e, fun z => by cases z⟩, fun v w r _ => r⟩
  | true =>
    simp only [if_true, gcE] at ht
    split at ht
    · rename_i hl
      cases ht
      have hn : s1.length ≤ φ4.length := by rw [← hs1]; exact (L.e.trans e).len
      refine ⟨φ4.take s1.length, ⟨S4.takeφ hn hl, (L.N.ext e).take hn fun i w h => ?_, RpW.takeφ hn _ _ ?_ (RpW.ext e _ _ L.r0), hd4, RpWL.takeφ hn _ _ (lo_pure (L.gcp rfl)) (RpWL.ext e _ _ L.ra), (L.e.trans e).take hs1.symm, L.gcp⟩, fun v w r hp => ?_⟩
      · obtain ⟨v, _, r⟩ := N1.at_ i w h
        rw [← hs1]; exact RpW.low _ _ r
      · rw [← hs1]; exact RpW.low _ _ r1
      · have := hp rfl
        cases w <;> simp only [isPure] at this <;> first | (cases this; done) | skip
        exact RpW.takeφ hn _ _ rfl r
    · cases ht
theorem LI.push (L : LI R φ1 ex H1 D σ env v0 w0 gc φ s acc vs H) (hD : H1 D = none) {y : V} {w : W} (r : RpW R φ (D :: ex) H y w) (hp : gc = true → isPure w = true) :
    LI R φ1 ex H1 D σ env v0 w0 gc φ s (acc ++ [w]) (vs ++ [y]) (upd H D (.lst (vs ++ [y]))) where
  S := L.S.updEx List.mem_cons_self trivial
  N := L.N.updEx List.mem_cons_self
  r0 := RpW.updEx List.mem_cons_self _ _ L.r0
  hd := upd_same
  ra := RpWL.updEx List.mem_cons_self _ _ (L.ra.append (.cons r .nil))
  e := L.e.updD hD
  gcp := fun z => by simp [L.gcp z, hp z]
theorem LI.yld (L : LI R φ1 ex H1 D σ env v0 w0 gc φ s acc vs H) (e : Ext φ H φ H') (S' : Sim R φ (D :: ex) H' s) : LI R φ1 ex H1 D σ env v0 w0 gc φ s acc vs H' where
  S := S'
  N := L.N.ext e
  r0 := RpW.ext e _ _ L.r0
  hd := e.keep D _ L.hd (L.S.off D List.mem_cons_self)
  ra := RpWL.ext e _ _ L.ra
  e := L.e.trans e
  gcp := L.gcp
theorem LI.start (S1 : Sim R φ1 ex H1 s1) (N1 : EnvR R φ1 ex H1 env σ) (r1 : RpW R φ1 ex H1 v0 w0) (hD : H1 D = none) : LI R φ1 ex H1 D σ env v0 w0 gc φ1 s1 [] [] (upd H1 D (.lst [])) where
  S := S1.enter trivial hD
  N := (N1.addEx hD).updEx List.mem_cons_self
  r0 := RpW.updEx List.mem_cons_self _ _ (RpW.addEx hD _ _ r1)
  hd := upd_same
  ra := .nil
  e := (Ext.refl _ _).updD hD
  gcp := fun _ => rfl
/-- the end: the list as data, or as a cell -/
theorem LI.done (L : LI R φ1 ex H1 D σ env v0 w0 gc φ s acc vs H) (hx : D ∉ ex) (hD : H1 D = none) {cell : Bool} {Q : VK} {xc : Exn → Store → Prop} (h : RunsTo (compEnd cell acc s) (RetW R ex Q φ1 H1) xc) : Q (.ref D) H := by
  unfold compEnd at h
  have eL : Ext φ1 H1 φ (rmv H D) := L.e.rmvD hD
  have cellR : ∀ c, (∃ ws, c = .wl ws ∧ ws = acc) ∨ (∃ xs, c = .lst xs ∧ acc = xs.map .d) → RetW R ex Q φ1 H1 (.ref s.length) (s ++ [c]) → Q (.ref D) H := fun c hc q => by
    have S2 := L.S.leave hx
    obtain ⟨e2, S3⟩ := S2.push (p := D) (o := .lst vs) (c := c) rmv_same fun e => by
      rcases hc with ⟨ws, rfl, rfl⟩ | ⟨xs, rfl, hc⟩
      · exact ⟨vs, upd_same, RpWL.ext e _ _ (RpWL.leave _ _ L.ra)⟩
      · subst hc
        exact ⟨vs, upd_same, RpL.ext e _ _ (RpL.leave _ _ L.ra.data)⟩
    have eu : upd (rmv H D) D (.lst vs) = H := upd_rmv L.hd
    rw [eu] at e2 S3
    exact q _ _ _ (eL.trans e2) S3 (RpW.last S2)
  split at h
  · rename_i xs hp
    have ea := allPure_eq hp
    split at h
    · exact cellR _ (.inr ⟨xs, rfl, ea⟩) h
    · subst ea
      refine h _ _ _ L.e L.S.less (.d (.lst (.inl L.hd) (fun z => ?_) L.ra.data.less))
      rcases z with z | z
      · exact L.S.off D List.mem_cons_self z
      · exact hx z
  · split at h
    · exact cellR _ (.inl ⟨acc, rfl, rfl⟩) h
    · exact h.elim
theorem RunsTo.bindOk {α β : Type} {r : Res α} {f : α → Store → Res β} {ok : β → Store → Prop} {xc : Exn → Store → Prop} (h : RunsTo (r.bind f) ok xc) (hx : ∀ x s, ¬ xc x s) : ∃ a s, r = .ok a s ∧ RunsTo (f a s) ok xc := by
  cases r with
  | ok a s => exact ⟨a, s, rfl, h⟩
  | exc x s => exact absurd h (hx x s)
  | stuck => exact h.elim
/-- a comprehension's loop -/
theorem comp_W {J : It} {ws : List W} {g : Option Nat} {tg : List Nat} {one : Bool} {own : List Nat} {c : Option Bx} {e : Ex} {cell : Bool} {Q : VK} {xc : Exn → Store → Prop}
    (S1 : Sim R φ1 ex H1 s1) (N1 : EnvR R φ1 ex H1 env σ) (r1 : RpW R φ1 ex H1 v0 w0) (hJ : JOk R J ws g s1 v0 w0) (hown : ∀ i ∈ tg, i ∈ own)
    (h : RunsTo ((compL (still g s1) gc s1.length (fun w s => match bindN tg one w (wipeE env own) with
          | some env => (runC R.Φ R.M R.CI R.FO c env s).bind fun k s => if k then (runE R.Φ R.M R.CI R.FO e env s).bind fun x s => .ok (some x) s else .ok none s
          | none => .stuck) ws [] s1).bind fun ws s => compEnd cell ws s) (RetW R ex Q φ1 H1) xc) (hD : H1 D = none) :
    ∃ W : Nat → Nat → Hp → Prop, (∃ m, W 0 m (upd H1 D (.lst []))) ∧ ∀ i m H, W i m H →
      (J.stop i H ∧ Q (.ref D) H) ∨ (J.go i H ∧ ∃ Nx : Hp → Prop, (∀ H', Nx H' → ∃ m', m' < m ∧ W (i + 1) m' H') ∧ ∀ x H', J.yld i H x H' → gTgt R.K tg one x (wipe σ own) H' fun σ2 H2 => wipe σ2 own = wipe σ own ∧ tCt R c σ2 H2 fun b H3 =>
        if b = true then tD R never e σ2 H3 fun y H4 => ∃ acc, H4 D = some (.lst acc) ∧ acc.length < sizeLine ∧ Nx (upd H4 D (.lst (acc ++ [y]))) else Nx H3) := by
  have hx : D ∉ ex := fun z => by
    obtain ⟨o, ho, _⟩ := S1.exT D z
    rw [hD] at ho; cases ho
  generalize hstep : (fun (w : W) (s : Store) => match bindN tg one w (wipeE env own) with
          | some env => (runC R.Φ R.M R.CI R.FO c env s).bind fun k s => if k then (runE R.Φ R.M R.CI R.FO e env s).bind fun x s => Res.ok (some x) s else .ok none s
          | none => .stuck) = step at h
  refine ⟨fun i m H => m = (ws.drop i).length ∧ i ≤ ws.length ∧ ∃ φ s acc vs, LI R φ1 ex H1 D σ env v0 w0 gc φ s acc vs H ∧ RunsTo ((compL (still g s1) gc s1.length step (ws.drop i) acc s).bind fun ws s => compEnd cell ws s) (RetW R ex Q φ1 H1) xc,
    ⟨_, rfl, Nat.zero_le _, φ1, s1, [], [], LI.start S1 N1 r1 hD, h⟩, ?_⟩
  rintro i m H ⟨rfl, hi, φ, s, acc, vs, L, hr⟩
  cases hd : ws.drop i with
  | nil =>
    left
    rw [hd] at hr
    have hle : ws.length ≤ i := by simpa using hd
    simp only [compL] at hr
    split at hr
    · rename_i st
      exact ⟨(hJ φ (D :: ex) H s L.S L.r0 st).2 i hle, L.done hx hD hr⟩
    · exact hr.elim
  | cons w rest =>
    right
    have hwi : ws[i]? = some w := by
      have : (ws.drop i)[0]? = some w := by rw [hd]; rfl
      simpa using this
    have hrest : ws.drop (i + 1) = rest := by
      have : (ws.drop i).drop 1 = rest := by rw [hd]; rfl
      rwa [List.drop_drop] at this
    have hlt : i < ws.length := (List.getElem?_eq_some_iff.mp hwi).1
    rw [hd] at hr
    simp only [compL] at hr
    split at hr
    · rename_i st
      obtain ⟨hgo, hyld⟩ := (hJ φ (D :: ex) H s L.S L.r0 st).1 i w hwi
      refine ⟨hgo, fun H' => ∃ φ s acc vs, LI R φ1 ex H1 D σ env v0 w0 gc φ s acc vs H' ∧ RunsTo ((compL (still g s1) gc s1.length step (ws.drop (i + 1)) acc s).bind fun ws s => compEnd cell ws s) (RetW R ex Q φ1 H1) xc, fun H' q => ⟨rest.length, by simp, by rw [hrest], hlt, q⟩, fun x H' hy => ?_⟩
      obtain ⟨e1, S', keep, rx⟩ := hyld x H' hy
      have L' := L.yld e1 S'
      -- the step
      cases hs : step w s with
      | stuck => rw [hs] at hr; exact hr.elim
      | exc x' t => rw [hs] at hr; exact hr.elim
      | ok o s3 =>
        rw [hs] at hr
        dsimp only at hr
        have hs' := hs
        rw [← hstep] at hs'
        dsimp only at hs'
        cases hb : bindN tg one w (wipeE env own) with
        | none => rw [hb] at hs'; cases hs'
        | some env2 =>
          rw [hb] at hs'
          dsimp only at hs'
          refine bind_of_tgt (L'.N.wipe own) rx hb (fun us _ N2 => ⟨wipe_setAll hown, ?_⟩) setAll_len
          have fin : ∀ (φ4 : Ph) (H4 : Hp) (o' : Option W), Ext φ H' φ4 H4 → Sim R φ4 (D :: ex) H4 s3 → o' = o → (o' = none → ∃ φ s acc vs, LI R φ1 ex H1 D σ env v0 w0 gc φ s acc vs H4 ∧ RunsTo ((compL (still g s1) gc s1.length step (ws.drop (i + 1)) acc s).bind fun ws s => compEnd cell ws s) (RetW R ex Q φ1 H1) xc) ∧
              (∀ y z, o' = some z → RpW R φ4 (D :: ex) H4 y z → ∃ acc, H4 D = some (.lst acc) ∧ acc.length < sizeLine ∧ ∃ φ s acc2 vs, LI R φ1 ex H1 D σ env v0 w0 gc φ s acc2 vs (upd H4 D (.lst (acc ++ [y]))) ∧ RunsTo ((compL (still g s1) gc s1.length step (ws.drop (i + 1)) acc2 s).bind fun ws s => compEnd cell ws s) (RetW R ex Q φ1 H1) xc) := by
            intro φ4 H4 o' e4 S4 ho
            subst ho
            cases ht : turnEnd gc s1.length [] s3 with
            | none => rw [ht] at hr; exact hr.elim
            | some p =>
              obtain ⟨u, s4⟩ := p
              rw [ht] at hr
              dsimp only at hr
              obtain ⟨φ5, L5, grow⟩ := L'.turn hD S1.len N1 r1 e4 S4 ht
              constructor
              · intro ho
                subst ho
                rw [hrest]
                exact ⟨_, _, _, _, L5, hr⟩
              · intro y z ho rz
                subst ho
                dsimp only at hr
                split at hr
                · rename_i hz
                  refine ⟨vs, L5.hd, by rw [L5.ra.length]; exact hz.1, _, _, _, _, L5.push hD (grow y z rz hz.2) hz.2, ?_⟩
                  rw [hrest]
                  exact hr
                · exact hr.elim
          have rest' : ∀ (φ3 : Ph) (H3 : Hp) (s2 : Store) (k : Bool), Ext φ H' φ3 H3 → Sim R φ3 (D :: ex) H3 s2 → EnvR R φ3 (D :: ex) H3 env2 (setAll tg us (wipe σ own)) →
              (if k then (runE R.Φ R.M R.CI R.FO e env2 s2).bind fun x s => Res.ok (some x) s else .ok none s2) = .ok o s3 →
              if k = true then tD R never e (setAll tg us (wipe σ own)) H3 fun y H4 => ∃ acc, H4 D = some (.lst acc) ∧ acc.length < sizeLine ∧ ∃ φ s acc2 vs, LI R φ1 ex H1 D σ env v0 w0 gc φ s acc2 vs (upd H4 D (.lst (acc ++ [y]))) ∧ RunsTo ((compL (still g s1) gc s1.length step (ws.drop (i + 1)) acc2 s).bind fun ws s => compEnd cell ws s) (RetW R ex Q φ1 H1) xc
              else ∃ φ s acc vs, LI R φ1 ex H1 D σ env v0 w0 gc φ s acc vs H3 ∧ RunsTo ((compL (still g s1) gc s1.length step (ws.drop (i + 1)) acc s).bind fun ws s => compEnd cell ws s) (RetW R ex Q φ1 H1) xc := by
            intro φ3 H3 s2 k e3 S3 N3 hk
            cases k with
            | false =>
              simp only [Bool.false_eq_true, if_false] at hk ⊢
              cases hk
              exact (fin φ3 H3 _ e3 S3 rfl).1 rfl
            | true =>
              simp only [if_true] at hk ⊢
              refine ⟨φ3, D :: ex, s2, env2, S3, N3, ?_⟩
              cases he : runE R.Φ R.M R.CI R.FO e env2 s2 with
              | stuck => rw [he] at hk; cases hk
              | exc x' t => rw [he] at hk; cases hk
              | ok z s3' =>
                rw [he] at hk
                cases hk
                intro y φ4 H4 e4 S4 rz
                exact (fin φ4 H4 _ (e3.trans e4) S4 rfl).2 y z rfl rz
          cases c with
          | none =>
            simp only [runC, Res.bind_ok] at hs'
            exact rest' φ H' s true (Ext.refl _ _) S' N2 hs'
          | some b =>
            simp only [runC] at hs'
            refine ⟨φ, D :: ex, s, env2, S', N2, ?_⟩
            cases hb2 : runT R.Φ R.M R.CI R.FO b env2 s with
            | stuck => rw [hb2] at hs'; cases hs'
            | exc x' t => rw [hb2] at hs'; cases hs'
            | ok k s2 =>
              rw [hb2] at hs'
              intro φ3 H3 e3 S3
              exact rest' φ3 H3 s2 k e3 S3 (N2.ext e3) hs'
    · exact hr.elim
end
end Cc

set_option linter.all false
set_option maxRecDepth 100000
set_option maxHeartbeats 1000000
/-! Cc: comprehensions by syntax; statements. -/
namespace Cc
open PySem PySem.Spec PyProof.Rows L2

section
variable {X : Cx} {R : Gt} {E : L2.St → XK}
theorem comp_lc {its : List Ex} {walk : Wk} {tg : List Nat} {one : Bool} {own : List Nat} {c : Option Bx} {e : Ex} {cell gc : Bool} (hown : ∀ i ∈ tg, i ∈ own) {σ : L2.St} {H : Hp} {Q : VK}
    (h : tD R E (.comp own cell gc tg one walk its c e) σ H Q) : tLc (tI R E walk its) (gTgt R.K tg one) (tCt R c) (tD R never e) own σ H Q := by
  obtain ⟨φ, ex, s, env, S, N, h⟩ := h
  refine ⟨φ, ex, s, env, S, N, ?_⟩
  simp only [runE] at h
  cases r : runEs R.Φ R.M R.CI R.FO its env s with
  | stuck => rw [r] at h; exact h
  | exc x t => rw [r] at h; exact h
  | ok us s1 =>
    rw [r] at h
    simp only [Res.bind_ok] at h
    cases hw : walkW walk us s1 with
    | none => rw [hw] at h; exact h.elim
    | some p =>
      obtain ⟨ws, g⟩ := p
      rw [hw] at h
      refine ⟨ws, g, hw, fun φ' H' J v w e1 S1 rw' hJ D hD => ?_⟩
      exact comp_W S1 (N.ext e1) rw' hJ hown (h.imp (fun _ _ q => mono_W _ _ _ _ _ _ e1 q) fun x s2 q => q) hD
theorem folded_ne {it : Expr} (h : ∀ es k p, it ≠ .Set es k p) (env : PySem.Env) (x : Value) : foldedSetIterable it env x = pure x := by
  cases it <;> first | rfl | exact absurd rfl (h _ _ _)
/-! ### statements -/
def EndOk (R : Gt) (ex : List Addr) (D : Ends) : Kn (Flow × Env) := fun φ H p s' => ∀ φ' H', Ext φ H φ' H' → Sim R φ' ex H' s' → match p.1 with
  | .next => ∀ σ', EnvR R φ' ex H' p.2 σ' → D.nx σ' H'
  | .brk => ∀ σ', EnvR R φ' ex H' p.2 σ' → D.bk σ' H'
  | .cont => ∀ σ', EnvR R φ' ex H' p.2 σ' → D.ct σ' H'
  | .ret w => ∀ v, RpW R φ' ex H' v w → D.rt v H'
theorem mono_S {ex : List Addr} {D : Ends} : Mono (EndOk R ex D) := fun _ _ _ _ _ _ e h φ2 H2 e2 => h φ2 H2 (e.trans e2)
def tS (R : Gt) (E : XK) (b : Sx) : L2.TS := fun D σ H => ∃ φ ex s env, Sim R φ ex H s ∧ EnvR R φ ex H env σ ∧ RunsTo (runS R.Φ R.M R.CI R.FO R.XI b env s) (EndOk R ex D φ H) (ExcOk R ex E φ H)
abbrev con (E : XK) : L2.St → XK := fun _ => E
end
section
variable {X : Cx} {R : Gt} {E : XK} {φ : Ph} {ex : List Addr} {H : Hp} {s : Store} {env : Env} {σ : L2.St} {e : Ex} {D : Ends} {a b : Sx}
theorem psImp {st : Stmt} {t t' : L2.TS} (h : PS X st t) (i : ∀ D σ H, t' D σ H → t D σ H) : PS X st t' := ⟨fun pins s σ H D I q => h.run pins s σ H D I (i D σ H q)⟩
theorem pssImp {st : List Stmt} {t t' : L2.TS} (h : PSs X st t) (i : ∀ D σ H, t' D σ H → t D σ H) : PSs X st t' := ⟨fun pins s σ H D I q => h.run pins s σ H D I (i D σ H q)⟩
theorem pgImp {tg : Expr} {t t' : L2.TG} (h : PG X tg t) (i : ∀ v σ H Q, t' v σ H Q → t v σ H Q) : PG X tg t' := ⟨fun pins s σ H v u Q I r q => h.run pins s σ H v u Q I r (i v σ H Q q)⟩
theorem pgsImp {tg : List Expr} {t t' : L2.TGs} (h : PGs X tg t) (i : ∀ v σ H Q, t' v σ H Q → t v σ H Q) : PGs X tg t' := ⟨fun pins s σ H v u Q I r q => h.run pins s σ H v u Q I r (i v σ H Q q)⟩
theorem i_next (h : tS R E .pass D σ H) : tNext D σ H := by
  obtain ⟨φ, ex, s, env, S, N, h⟩ := h
  exact h φ H (Ext.refl _ _) S σ N
theorem i_brk (h : tS R E .brk D σ H) : tBreak D σ H := by
  obtain ⟨φ, ex, s, env, S, N, h⟩ := h
  exact h φ H (Ext.refl _ _) S σ N
theorem i_cont (h : tS R E .cont D σ H) : tCont D σ H := by
  obtain ⟨φ, ex, s, env, S, N, h⟩ := h
  exact h φ H (Ext.refl _ _) S σ N
theorem i_ret (h : tS R E (.ret e) D σ H) : tRet (tD R (con E) e) D σ H := by
  obtain ⟨φ, ex, s, env, S, N, h⟩ := h
  simp only [runS] at h
  exact tD_mono (tD_bind mono_S S N h) fun v H1 ⟨φ1, s1, w, S1, N1, e1, r1, h1⟩ => h1 φ1 H1 (Ext.refl _ _) S1 v r1
theorem i_expr (h : tS R E (.expr e) D σ H) : tDrop (tD R (con E) e) D σ H := by
  obtain ⟨φ, ex, s, env, S, N, h⟩ := h
  simp only [runS] at h
  exact tD_mono (tD_bind mono_S S N h) fun v H1 ⟨φ1, s1, w, S1, N1, e1, r1, h1⟩ => h1 φ1 H1 (Ext.refl _ _) S1 σ N1
theorem i_if {c : Bx} (h : tS R E (.ite c a b) D σ H) : tIfS (tT R (con E) c) (tS R E a) (tS R E b) D σ H := by
  obtain ⟨φ, ex, s, env, S, N, h⟩ := h
  simp only [runS] at h
  refine tT_mono (tT_bind mono_S S N h) fun k H1 ⟨φ1, s1, w, S1, N1, e1, r1, h1⟩ => ?_
  subst r1
  cases w with
  | true => simp only [if_true] at h1 ⊢; exact ⟨φ1, ex, s1, env, S1, N1, h1⟩
  | false => simp only [Bool.false_eq_true, if_false] at h1 ⊢; exact ⟨φ1, ex, s1, env, S1, N1, h1⟩
theorem i_seq (h : tS R E (.seq a b) D σ H) : tSeq (tS R E a) (tS R E b) D σ H := by
  obtain ⟨φ, ex, s, env, S, N, h⟩ := h
  simp only [runS] at h
  refine ⟨φ, ex, s, env, S, N, ?_⟩
  cases r : runS R.Φ R.M R.CI R.FO R.XI a env s with
  | stuck => rw [r] at h; exact h
  | exc x t => rw [r] at h; exact h
  | ok p t =>
    rw [r] at h
    simp only [Res.bind_ok] at h
    intro φ' H' e1 S1
    obtain ⟨f, env'⟩ := p
    cases f with
    | next => exact fun σ' N' => ⟨φ', ex, t, env', S1, N', RunsTo.grow (E := E) mono_S e1 h⟩
    | brk => exact h φ' H' e1 S1
    | cont => exact h φ' H' e1 S1
    | ret w => exact h φ' H' e1 S1
/-! ### targets -/
def TgOk (R : Gt) (ex : List Addr) (Q : L2.St → Hp → Prop) : Kn Env := fun φ H env' s' => ∀ φ' H' σ', Ext φ H φ' H' → Sim R φ' ex H' s' → EnvR R φ' ex H' env' σ' → Q σ' H'
theorem mono_G {Q : L2.St → Hp → Prop} : Mono (TgOk R ex Q) := fun _ _ _ _ _ _ e h φ2 H2 σ2 e2 => h φ2 H2 σ2 (e.trans e2)
def gT (R : Gt) (E : XK) (t : Tx) : L2.TG := fun v σ H Q => ∃ φ ex s env w, Sim R φ ex H s ∧ EnvR R φ ex H env σ ∧ RpW R φ ex H v w ∧ RunsTo (assignT R.Φ R.M R.CI R.FO t w env s) (TgOk R ex Q φ H) (ExcOk R ex E φ H)
def gTs (R : Gt) (E : XK) (ts : List Tx) : L2.TGs := fun vs σ H Q => ∃ φ ex s env ws, Sim R φ ex H s ∧ EnvR R φ ex H env σ ∧ RpWL R φ ex H vs ws ∧ RunsTo (assignTs R.Φ R.M R.CI R.FO ts ws env s) (TgOk R ex Q φ H) (ExcOk R ex E φ H)
theorem i_gname {i : Nat} {v : V} {Q : L2.St → Hp → Prop} (h : gT R E (.name i) v σ H Q) : gName i v σ H Q := by
  obtain ⟨φ, ex, s, env, w, S, N, r, h⟩ := h
  exact h φ H _ (Ext.refl _ _) S (N.set r)
/-- an index that is set -/
theorem i_gsub {co ci : Ex} {v : V} {Q : L2.St → Hp → Prop} (h : gT R E (.sub co ci) v σ H Q) : gSub (tD R (con E) co) (tD R (con E) ci) rSetL v σ H Q := by
  obtain ⟨φ, ex, s, env, w, S, N, r, h⟩ := h
  simp only [assignT] at h
  refine tD_mono (tD_bind mono_G S N h) fun o H1 ⟨φ1, s1, wo, S1, N1, e1, r1, h1⟩ => ?_
  refine tD_mono (tD_bind mono_G S1 N1 h1) fun i H2 ⟨φ2, s2, wi, S2, N2, e2, r2, h2⟩ => ?_
  dsimp only at h2
  have ro := RpW.ext e2 _ _ r1
  have rv := RpW.ext (e1.trans e2) _ _ r
  have key : ∃ n k, wo = .ref n ∧ wi = .d (.int k) := by
    cases wo with
    | ref n => cases wi with
      | d x => cases x with
        | int k => exact ⟨n, k, rfl, rfl⟩
        | _ => exact False.elim h2
      | _ => exact False.elim h2
    | _ => exact False.elim h2
  obtain ⟨n, k, rfl, rfl⟩ := key
  cases r2 with | d r2 =>
  cases r2
  simp only [setIx] at h2
  cases hc : s2[n]? with
  | none => rw [hc] at h2; exact h2.elim
  | some c =>
    rw [hc] at h2
    cases c with
    | dead => exact h2.elim
    | ins _ _ => exact h2.elim
    | lst xs =>
      dsimp only at h2
      obtain ⟨a, us, rfl, hφ, hl, rl⟩ := S2.lst hc ro
      have el := rl.length
      cases hj : ixN xs.length k with
      | none => rw [hj] at h2; exact h2.elim
      | some j =>
        rw [hj] at h2
        refine ⟨a, us, k, j, rfl, rfl, hl, by rw [el]; exact hj, ?_⟩
        cases w with
        | d x =>
          dsimp only at h2
          cases rv with | d rv =>
          obtain ⟨e3, S3⟩ := S2.put (o := .lst (us.set j v)) (c := .lst (xs.set j x)) hφ fun e => ⟨_, upd_same, RpL.set j (RpL.ext e _ _ rl) (Rp.ext e _ _ rv)⟩
          exact h2 _ _ _ e3 S3 (N2.ext e3)
        | ref m =>
          dsimp only at h2
          obtain ⟨e3, S3⟩ := S2.put (o := .lst (us.set j v)) (c := .wl ((xs.map W.d).set j (.ref m))) hφ fun e => ⟨_, upd_same, RpWL.set j (RpWL.ext e _ _ (RpWL.of rl)) (RpW.ext e _ _ rv)⟩
          exact h2 _ _ _ e3 S3 (N2.ext e3)
        | tup ws =>
          dsimp only at h2
          obtain ⟨e3, S3⟩ := S2.put (o := .lst (us.set j v)) (c := .wl ((xs.map W.d).set j (.tup ws))) hφ fun e => ⟨_, upd_same, RpWL.set j (RpWL.ext e _ _ (RpWL.of rl)) (RpW.ext e _ _ rv)⟩
          exact h2 _ _ _ e3 S3 (N2.ext e3)
        | fn m =>
          dsimp only at h2
          obtain ⟨e3, S3⟩ := S2.put (o := .lst (us.set j v)) (c := .wl ((xs.map W.d).set j (.fn m))) hφ fun e => ⟨_, upd_same, RpWL.set j (RpWL.ext e _ _ (RpWL.of rl)) (RpW.ext e _ _ rv)⟩
          exact h2 _ _ _ e3 S3 (N2.ext e3)
    | wl ws =>
      dsimp only at h2
      obtain ⟨a, us, rfl, hφ, hl, rl⟩ := S2.wl hc ro
      have el := rl.length
      cases hj : ixN ws.length k with
      | none => rw [hj] at h2; exact h2.elim
      | some j =>
        rw [hj] at h2
        refine ⟨a, us, k, j, rfl, rfl, hl, by rw [el]; exact hj, ?_⟩
        obtain ⟨e3, S3⟩ := S2.put (o := .lst (us.set j v)) (c := .wl (ws.set j w)) hφ fun e => ⟨_, upd_same, RpWL.set j (RpWL.ext e _ _ rl) (RpW.ext e _ _ rv)⟩
        exact h2 _ _ _ e3 S3 (N2.ext e3)
end
end Cc

set_option linter.all false
set_option maxRecDepth 100000
set_option maxHeartbeats 1000000
/-! Cc: assignments, loops. -/
namespace Cc
open PySem PySem.Spec PyProof.Rows L2

section
variable {X : Cx} {R : Gt} {E : XK} {φ : Ph} {ex : List Addr} {H : Hp} {s : Store} {env : Env} {σ : L2.St} {e : Ex} {D : Ends} {a b : Sx}
theorem i_asg {t : Tx} (h : tS R E (.assign t e) D σ H) : tAsg (tD R (con E) e) (gT R E t) D σ H := by
  obtain ⟨φ, ex, s, env, S, N, h⟩ := h
  simp only [runS] at h
  refine tD_mono (tD_bind mono_S S N h) fun v H1 ⟨φ1, s1, w, S1, N1, e1, r1, h1⟩ => ?_
  refine ⟨φ1, ex, s1, env, w, S1, N1, r1, ?_⟩
  dsimp only at h1
  cases r : assignT R.Φ R.M R.CI R.FO t w env s1 with
  | stuck => rw [r] at h1; exact h1
  | exc x t => rw [r] at h1; exact h1
  | ok env' s' => rw [r] at h1; exact fun φ' H' σ' e S' N' => h1 φ' H' e S' σ' N'
theorem i_gts_nil {vs : List V} {Q : L2.St → Hp → Prop} (h : gTs R E [] vs σ H Q) : gNil vs σ H Q := by
  obtain ⟨φ, ex, s, env, ws, S, N, r, h⟩ := h
  cases ws with
  | nil => cases r; exact ⟨rfl, h φ H σ (Ext.refl _ _) S N⟩
  | cons w ws => exact h.elim
theorem i_gts_cons {t : Tx} {ts : List Tx} {vs : List V} {Q : L2.St → Hp → Prop} (h : gTs R E (t :: ts) vs σ H Q) : gCons (gT R E t) (gTs R E ts) vs σ H Q := by
  obtain ⟨φ, ex, s, env, ws, S, N, r, h⟩ := h
  cases ws with
  | nil => exact h.elim
  | cons w ws =>
    cases r with
    | cons r rs =>
      simp only [assignTs] at h
      refine ⟨_, _, rfl, φ, ex, s, env, w, S, N, r, ?_⟩
      cases q : assignT R.Φ R.M R.CI R.FO t w env s with
      | stuck => rw [q] at h; exact h
      | exc x t => rw [q] at h; exact h
      | ok env' s' =>
        rw [q] at h
        exact fun φ' H' σ' e S' N' => ⟨φ', ex, s', env', ws, S', N', RpWL.ext e _ _ rs, RunsTo.grow (E := E) mono_G e h⟩
theorem i_unpack {ts : List Tx} (h : tS R E (.unpack ts e) D σ H) : tAsg (tD R (con E) e) (gTup R.K ts.length (gTs R E ts)) D σ H := by
  obtain ⟨φ, ex, s, env, S, N, h⟩ := h
  simp only [runS] at h
  refine tD_mono (tD_bind mono_S S N h) fun v H1 ⟨φ1, s1, w, S1, N1, e1, r1, h1⟩ => ?_
  dsimp only at h1
  have fin : ∀ (a : Addr) (vs : List V) (ws : List W), v = .ref a → SqT R.K H1 a vs → RpWL R φ1 ex H1 vs ws → parts w = some ws → gTup R.K ts.length (gTs R E ts) v σ H1 D.nx := by
    intro a vs ws ev hs rv hp
    rw [hp] at h1
    dsimp only at h1
    split at h1
    · rename_i hl
      refine ⟨a, vs, ev, hs, by rw [rv.length, hl], φ1, ex, s1, env, ws, S1, N1, rv, ?_⟩
      cases r : assignTs R.Φ R.M R.CI R.FO ts ws env s1 with
      | stuck => rw [r] at h1; exact h1
      | exc x t => rw [r] at h1; exact h1
      | ok env' s' => rw [r] at h1; exact fun φ' H' σ' e S' N' => h1 φ' H' e S' σ' N'
    · exact h1.elim
  cases w with
  | fn i => exact False.elim h1
  | ref n => exact False.elim h1
  | tup ws =>
    cases r1 with
    | tup hr n rl => exact fin _ _ _ rfl (.inl hr) rl rfl
  | d x => cases x with
    | tuple xs =>
      cases r1 with | d r1 =>
      cases r1 with
      | tup hr rl => exact fin _ _ _ rfl (hr.elim (fun q => .inl q.1) .inr) (RpWL.of rl) rfl
    | _ => exact False.elim h1
/-- an attribute that is set -/
theorem i_fld {o : Ex} {f : Str} (G : GOk R) (h : tS R E (.assign (.fld o f) e) D σ H) : sFld R.K (tD R (con E) o) (tD R (con E) e) f D σ H := by
  obtain ⟨φ, ex, s, env, S, N, h⟩ := h
  simp only [runS, assignT] at h
  refine tD_mono (tD_bind mono_S S N h) fun v H1 ⟨φ1, s1, w, S1, N1, e1, r1, h1⟩ => ?_
  dsimp only at h1
  rw [res_assoc] at h1
  refine tD_mono (tD_bind mono_S S1 N1 h1) fun x H2 ⟨φ2, s2, wo, S2, N2, e2, r2, h2⟩ => ?_
  dsimp only at h2
  rw [res_assoc] at h2
  cases wo with
  | d x => exact False.elim h2
  | tup ws => exact False.elim h2
  | fn i => exact False.elim h2
  | ref n =>
    simp only [setFld] at h2
    cases hc : s2[n]? with
    | none => rw [hc] at h2; exact False.elim h2
    | some c =>
      rw [hc] at h2
      cases c with
      | lst xs => exact False.elim h2
      | wl xs => exact False.elim h2
      | dead => exact False.elim h2
      | ins c fs =>
        dsimp only at h2
        split at h2
        · rename_i hz
          obtain ⟨a, dx, fv, rfl, hφ, hl, rf⟩ := S2.ins hc r2
          obtain ⟨g1, g2⟩ := G.fo c f hz.1
          refine ⟨a, _, dx, fv, rfl, hl, g1, g2, by rw [rf.length]; exact hz.2, ?_⟩
          obtain ⟨e3, S3⟩ := S2.put (o := .ins (R.ca c) dx (putF f v fv)) (c := .ins c (fput f w fs)) hφ fun e => ⟨dx, _, upd_same, (rf.ext e).put (RpW.ext (e2.trans e) _ _ r1)⟩
          exact h2 _ _ e3 S3 σ (N2.ext e3)
        · exact False.elim h2
/-- an attribute as one of several targets -/
def gFld (K : PySem.W.Frag) (to : L2.TE) (f : Str) : L2.TG := fun v σ H Q => to σ H fun x H1 => ∃ a C dx fs, x = .ref a ∧ H1 a = some (.ins C dx fs) ∧ Cls K C ∧ NoAttr K C f ∧ fs.length < 1000 ∧ Q σ (upd H1 a (.ins C dx (putF f v fs)))
theorem pg_fld {o : Expr} {to : L2.TE} {f : Str} {pos : Pos} (ho : PE X o to) : PG X (.Attribute o f pos) (gFld X.K to f) := by
  refine ⟨fun pins s σ H v u Q I r h => ?_⟩
  rw [assign_Attribute]
  refine wpAny_bind (wpAny_holding (thn (ho.run pins s σ H _ I h) fun ov s1 ⟨x, H1, I1, rx, a, C, dx, fs, ex, ea, c, n, l, q⟩ => ?_))
  subst ex
  obtain rfl : ov = Value.ref a := rx
  refine wpAny_bind (wpAny_standAt (wpAny_bind (wpAny_holding (setattr_ok I1 ea c n l r fun s2 I2 => ?_))))
  exact wpAny_release ⟨σ, _, I2, q⟩
theorem i_gfld {o : Ex} {f : Str} {v : V} {Q : L2.St → Hp → Prop} (G : GOk R) (h : gT R E (.fld o f) v σ H Q) : gFld R.K (tD R (con E) o) f v σ H Q := by
  obtain ⟨φ, ex, s, env, w, S, N, r, h⟩ := h
  simp only [assignT] at h
  refine tD_mono (tD_bind mono_G S N h) fun x H2 ⟨φ2, s2, wo, S2, N2, e2, r2, h2⟩ => ?_
  dsimp only at h2
  cases wo with
  | d x => exact False.elim h2
  | tup ws => exact False.elim h2
  | fn i => exact False.elim h2
  | ref n =>
    simp only [setFld] at h2
    cases hc : s2[n]? with
    | none => rw [hc] at h2; exact False.elim h2
    | some c =>
      rw [hc] at h2
      cases c with
      | lst xs => exact False.elim h2
      | wl xs => exact False.elim h2
      | dead => exact False.elim h2
      | ins c fs =>
        dsimp only at h2
        split at h2
        · rename_i hz
          obtain ⟨a, dx, fv, rfl, hφ, hl, rf⟩ := S2.ins hc r2
          obtain ⟨g1, g2⟩ := G.fo c f hz.1
          refine ⟨a, _, dx, fv, rfl, hl, g1, g2, by rw [rf.length]; exact hz.2, ?_⟩
          obtain ⟨e3, S3⟩ := S2.put (o := .ins (R.ca c) dx (putF f v fv)) (c := .ins c (fput f w fs)) hφ fun e => ⟨dx, _, upd_same, (rf.ext e).put (RpW.ext (e2.trans e) _ _ r)⟩
          exact h2 _ _ σ e3 S3 (N2.ext e3)
        · exact False.elim h2
/-! ### loops -/
theorem i_for {gc : Bool} {tg : List Nat} {one : Bool} {walk : Wk} {its : List Ex} {body : Sx} (h : tS R E (.for gc tg one walk its body) D σ H) : tFor (tI R (con E) walk its) (gTgt R.K tg one) (tS R E body) D σ H := by
  obtain ⟨φ0, ex, s0, env0, S0, N0, h⟩ := h
  simp only [runS] at h
  refine ⟨φ0, ex, s0, env0, S0, N0, ?_⟩
  cases r : runEs R.Φ R.M R.CI R.FO its env0 s0 with
  | stuck => rw [r] at h; exact h
  | exc x t => rw [r] at h; exact h
  | ok us s1 =>
    rw [r] at h
    simp only [Res.bind_ok] at h
    cases hw : walkW walk us s1 with
    | none => rw [hw] at h; exact h.elim
    | some p =>
      obtain ⟨ws, g⟩ := p
      rw [hw] at h
      dsimp only at h
      refine ⟨ws, g, hw, fun φ1 H1 J v0 w0 e1 S1 rw' hJ => ?_⟩
      generalize hstep : (fun (w : W) (env : Env) (s : Store) => match bindN tg one w env with
        | some env => runS R.Φ R.M R.CI R.FO R.XI body env s
        | none => .stuck) = step at h
      have h := RunsTo.grow (E := E) mono_S e1 h
      refine ⟨fun i m σ H => m = (ws.drop i).length ∧ i ≤ ws.length ∧ ∃ φ s env, Sim R φ ex H s ∧ EnvR R φ ex H env σ ∧ Ext φ1 H1 φ H ∧ RpW R φ ex H v0 w0 ∧ RunsTo (forL (still g s1) gc s1.length step (ws.drop i) env s) (EndOk R ex D φ1 H1) (ExcOk R ex E φ1 H1),
        ⟨_, rfl, Nat.zero_le _, φ1, s1, env0, S1, N0.ext e1, Ext.refl _ _, rw', h⟩, ?_⟩
      rintro i m σ H ⟨rfl, hi, φ, s, env, S, N, e, r0, hr⟩
      cases hd : ws.drop i with
      | nil =>
        left
        rw [hd] at hr
        have hle : ws.length ≤ i := by simpa using hd
        simp only [forL] at hr
        split at hr
        · rename_i st
          exact ⟨(hJ φ ex H s S r0 st).2 i hle, hr φ H e S σ N⟩
        · exact hr.elim
      | cons w rest =>
        right
        have hwi : ws[i]? = some w := by
          have : (ws.drop i)[0]? = some w := by rw [hd]; rfl
          simpa using this
        have hrest : ws.drop (i + 1) = rest := by
          have : (ws.drop i).drop 1 = rest := by rw [hd]; rfl
          rwa [List.drop_drop] at this
        have hlt : i < ws.length := (List.getElem?_eq_some_iff.mp hwi).1
        rw [hd] at hr
        simp only [forL] at hr
        split at hr
        · rename_i st
          obtain ⟨hgo, hyld⟩ := (hJ φ ex H s S r0 st).1 i w hwi
          refine ⟨hgo, fun σ H => ∃ φ s env, Sim R φ ex H s ∧ EnvR R φ ex H env σ ∧ Ext φ1 H1 φ H ∧ RpW R φ ex H v0 w0 ∧ RunsTo (forL (still g s1) gc s1.length step (ws.drop (i + 1)) env s) (EndOk R ex D φ1 H1) (ExcOk R ex E φ1 H1), fun σ' H' q => ⟨rest.length, by simp, by rw [hrest], hlt, q⟩, fun x H' hy => ?_⟩
          obtain ⟨e2, S2, keep, rx⟩ := hyld x H' hy
          cases hb : bindN tg one w env with
          | none =>
            rw [← hstep] at hr
            dsimp only at hr
            rw [hb] at hr
            exact hr.elim
          | some env2 =>
            have hs : step w env s = runS R.Φ R.M R.CI R.FO R.XI body env2 s := by rw [← hstep]; dsimp only; rw [hb]
            rw [hs] at hr
            refine bind_of_tgt (N.ext e2) rx hb (fun us _ N2 => ?_) setAll_len
            refine ⟨φ, ex, s, env2, S2, N2, ?_⟩
            cases rb : runS R.Φ R.M R.CI R.FO R.XI body env2 s with
            | stuck => rw [rb] at hr; exact hr
            | exc x t => rw [rb] at hr; exact excOk_mono (e.trans e2) hr
            | ok p s3 =>
              rw [rb] at hr
              obtain ⟨f, env3⟩ := p
              intro φ3 H3 e3 S3
              have e03 := (e.trans e2).trans e3
              have again : ∀ σ', EnvR R φ3 ex H3 env3 σ' → RunsTo (match turnEnd gc s1.length env3 s3 with
                  | some (env, s) => forL (still g s1) gc s1.length step rest env s
                  | none => .stuck) (EndOk R ex D φ1 H1) (ExcOk R ex E φ1 H1) → ∃ φ s env, Sim R φ ex H3 s ∧ EnvR R φ ex H3 env σ' ∧ Ext φ1 H1 φ H3 ∧ RpW R φ ex H3 v0 w0 ∧ RunsTo (forL (still g s1) gc s1.length step (ws.drop (i + 1)) env s) (EndOk R ex D φ1 H1) (ExcOk R ex E φ1 H1) := by
                intro σ' N3 hn
                rw [hrest]
                cases ht : turnEnd gc s1.length env3 s3 with
                | none => rw [ht] at hn; exact hn.elim
                | some q =>
                  obtain ⟨env4, s4⟩ := q
                  rw [ht] at hn
                  dsimp only at hn
                  unfold turnEnd at ht
                  cases gc with
                  | false =>
                    simp only [Bool.false_eq_true, if_false] at ht
                    cases ht
                    exact ⟨φ3, _, _, S3, N3, e03, RpW.ext (e2.trans e3) _ _ r0, hn⟩
                  | true =>
                    simp only [if_true, gcE] at ht
                    split at ht
                    · rename_i hl
                      cases ht
                      have hn1 : s1.length ≤ φ3.length := by rw [← S1.len]; exact e03.len
                      refine ⟨φ3.take s1.length, _, _, S3.takeφ hn1 hl, N3.takeφ hn1, e03.take S1.len.symm, RpW.takeφ hn1 _ _ ?_ (RpW.ext (e2.trans e3) _ _ r0), hn⟩
                      rw [← S1.len]; exact RpW.low _ _ rw'
                    · cases ht
              cases f with
              | next => exact fun σ' N3 => again σ' N3 hr
              | cont => exact fun σ' N3 => again σ' N3 hr
              | brk => exact fun σ' N3 => hr φ3 H3 e03 S3 σ' N3
              | ret w => exact fun v rv => hr φ3 H3 e03 S3 v rv
        · exact hr.elim
theorem i_while {k : Nat} {c : Bx} {body : Sx} (h : tS R E (.while k c body) D σ H) : tWhile (tT R (con E) c) (tS R E body) D σ H := by
  obtain ⟨φ1, ex, s1, env1, S1, N1, h⟩ := h
  simp only [runS] at h
  refine ⟨fun m σ H' => ∃ φ s env, Sim R φ ex H' s ∧ EnvR R φ ex H' env σ ∧ RunsTo (whileL (fun env s => runT R.Φ R.M R.CI R.FO c env s) (fun env s => runS R.Φ R.M R.CI R.FO R.XI body env s) m env s) (EndOk R ex D φ H') (ExcOk R ex E φ H'), ⟨k, φ1, s1, env1, S1, N1, h⟩, ?_⟩
  rintro m σ H' ⟨φ, s, env, S, N, hr⟩
  cases m with
  | zero => exact hr.elim
  | succ m =>
    simp only [whileL] at hr
    refine tT_mono (tT_bind mono_S S N hr) fun b H2 ⟨φ2, s2, w, S2, N2, e2, r2, h2⟩ => ?_
    subst r2
    cases w with
    | false =>
      simp only [Bool.false_eq_true, if_false] at h2 ⊢
      exact h2 φ2 H2 (Ext.refl _ _) S2 σ N2
    | true =>
      simp only [if_true] at h2 ⊢
      refine ⟨fun σ H' => ∃ φ s env, Sim R φ ex H' s ∧ EnvR R φ ex H' env σ ∧ RunsTo (whileL (fun env s => runT R.Φ R.M R.CI R.FO c env s) (fun env s => runS R.Φ R.M R.CI R.FO R.XI body env s) m env s) (EndOk R ex D φ H') (ExcOk R ex E φ H'), fun σ' H' q => ⟨m, Nat.lt_succ_self _, q⟩, ?_⟩
      refine ⟨φ2, ex, s2, env, S2, N2, ?_⟩
      cases rb : runS R.Φ R.M R.CI R.FO R.XI body env s2 with
      | stuck => rw [rb] at h2; exact h2
      | exc x t => rw [rb] at h2; exact h2
      | ok p s3 =>
        rw [rb] at h2
        obtain ⟨f, env3⟩ := p
        intro φ3 H3 e3 S3
        cases f with
        | next => exact fun σ' N3 => ⟨φ3, s3, env3, S3, N3, RunsTo.grow (E := E) mono_S e3 h2⟩
        | cont => exact fun σ' N3 => ⟨φ3, s3, env3, S3, N3, RunsTo.grow (E := E) mono_S e3 h2⟩
        | brk => exact fun σ' N3 => h2 φ3 H3 e3 S3 σ' N3
        | ret w => exact fun v rv => h2 φ3 H3 e3 S3 v rv
end
end Cc

set_option linter.all false
set_option maxRecDepth 100000
set_option maxHeartbeats 1000000
/-! Cc: the translator is right about expressions. -/
namespace Cc
open PySem PySem.Spec PyProof.Rows L2

/-- an exception class without own __init__ -/
def excVE : List Value := [.type "ValueError", .type "Exception", .type "BaseException", .type "object"]
structure PexK (K : PySem.W.Frag) (C : Addr) : Prop where
  exc : PySem.W.excIn K C excVE "ValueError.__new__" = true
  keep : PySem.W.keepIn K (.ref C) = true
  sub : PySem.W.subIn K (.ref C) (.type "BaseException") = some true
  ty : PySem.W.typeIn K (.ref C) = some (.type "type")
/-- the place in the translator's terms and in the proof's -/
structure Lk (T : TEnv) (X : Cx) (R : Gt) (E : L2.St → XK) (k : Nat) : Prop where
  C : XOk X R E k
  G : GOk R
  N : X.N = T.N
  sc : X.env.scope = T.sc
  tsc : ∀ x, Loc T.tsc x → Loc X.env.scope x ∧ (X.fn x = true ∨ X.env.scope.names.lookup x = some .local)
  ndb : ∀ x ∈ T.N, (x == ("__debug__" : Str)) = false ∧ (x == ("__classdict__" : Str)) = false
  fnF : ∀ x i ps dfl, T.G x = some (.fn i ps dfl) → X.mg x = some (.ref (R.fa i)) ∧ FOk X.prog X.w X.K X.mg X.base R i ps dfl ∧ 2 * i + 2 ≤ k ∧ (x == ("__debug__" : Str)) = false
  clsF : ∀ x c ps dfl, T.G x = some (.cls c ps dfl) → X.mg x = some (.ref (R.ca c)) ∧ (∃ i, R.CI c = some i ∧ FOk X.prog X.w X.K X.mg X.base R i (ps + 1) dfl ∧ 2 * i + 3 ≤ k) ∧ (x == ("__debug__" : Str)) = false
  conF : ∀ x d, T.G x = some (.con d) → (∃ u, X.mg x = some u ∧ ConK R.K u d) ∧ (x == ("__debug__" : Str)) = false
  bltF : ∀ x, T.G x = some .blt → X.mg x = none
  basF : ∀ x c m i ps dfl, T.G x = some (.bas c m i ps dfl) → Base X.K (R.ca c) m (R.fa i) ∧ FOk X.prog X.w X.K X.mg X.base R i ps dfl ∧ 2 * i + 2 ≤ k
  pexF : ∀ x c, T.G x = some (.pex c) → X.mg x = some (.ref (R.xa c)) ∧ PexK R.K (R.xa c) ∧ (x == ("__debug__" : Str)) = false
  xiF : ∀ c m fs, R.XI c [.str m] = some fs → fs = []
  xsF : ∀ x l, T.xs x = some l → ∃ v, ((x == ("__debug__" : Str)) = false ∧ (X.mg x = some v ∨ (X.mg x = none ∧ bootBuiltins x = some v ∧ x ≠ "__name__"))) ∧ ∀ c b, l.lookup c = some b → PySem.W.exmOne R.K (.ref (R.xa c)) v = some b
  meF : ∀ c m i, R.M c m = some i → (∀ ws s, R.Φ i ws s = .stuck) ∨ ∃ np, FOk X.prog X.w X.K X.mg X.base R i np [] ∧ (∀ ws s, ws.length ≠ np → R.Φ i ws s = .stuck) ∧ 2 * i + 2 ≤ k
section
variable {T : TEnv} {X : Cx} {R : Gt} {E : L2.St → XK} {k : Nat}
theorem Lk.hu (L : Lk T X R E k) : X.A.units + 65 < cLine := by
  have := L.C.room.un
  omega
theorem Lk.gl (L : Lk T X R E k) {x : Str} (h : gloB T.sc x = true) : Gl X x := by
  rw [← L.sc] at h; exact glo_of h
theorem Lk.vis (L : Lk T X R E k) {x : Str} {i : Nat} (h : slotOf T x = some i) : X.N[i]? = some x ∧ Vis X.env.scope x ∧ (x == ("__debug__" : Str)) = false ∧ (x == ("__classdict__" : Str)) = false := by
  obtain ⟨h1, h2⟩ := slot_of h
  have m := L.ndb x (List.mem_of_getElem? h1)
  rw [← L.N] at h1; rw [← L.sc] at h2
  exact ⟨h1, h2, m⟩
/-- in a block -/
theorem Lk.blk (L : Lk T X R E k) {scope : Scope} (s : Shared) (H : Hp) (C : Addr) (cl : List (Str × Addr)) (fp : List Addr) :
    Lk { T with sc := blkScope T.sc scope, tsc := scope } (X.blk s H scope (compEnvC scope cl C X.env) fp) R never k where
  C := ⟨L.C.hK, L.C.calm, L.C.nd, L.C.room, fun σ pins H s e s' I c => by
    obtain ⟨a, B, H', cls, d, _, _, _, _, _, _, _, z⟩ := c
    exact z.elim⟩
  G := L.G
  N := L.N
  sc := by show relabel scope X.env = relS scope T.sc; rw [← L.sc]; rfl
  tsc := fun x h => by
    show Loc (relS scope X.env.scope) x ∧ ((scope.names.lookup x == some .cell) = true ∨ (relS scope X.env.scope).names.lookup x = some .local)
    rcases h with h | h
    · have := lookup_relS_keep (sc := X.env.scope) (by decide) h
      exact ⟨.inl this, .inr this⟩
    · have := lookup_relS_keep (sc := X.env.scope) (by decide) h
      exact ⟨.inr this, .inl (by rw [h]; rfl)⟩
  ndb := L.ndb
  fnF := L.fnF
  clsF := L.clsF
  conF := L.conF
  bltF := L.bltF
  basF := L.basF
  pexF := L.pexF
  xiF := L.xiF
  xsF := L.xsF
  meF := L.meF
end
section
variable {X : Cx} {R : Gt} {E : L2.St → XK} {a : Expr} {ca : Ex} {T : TEnv}
theorem p_wrap {pos : Pos} (h : PE X a (tF R E ca)) : PE X a (tD R E (wrap T pos ca)) := by
  unfold wrap
  split
  · exact p_cell h
  · exact p_ofF h
theorem isTrue_plain (h1 : ∀ x p, a ≠ .UnaryOp .Not x p) (h2 : ∀ op es p, a ≠ .BoolOp op es p) (h3 : ∀ c x y p, a ≠ .IfExp c x y p) (h4 : ∀ l o c p, a ≠ .Compare l o c p) (env : PySem.Env) (whole : Sem Value) :
    isTrue a env whole = (do let v ← whole; standAt a.pos; holding [v] (truthy v)) := by
  cases a <;> first | rfl | exact absurd rfl (h2 _ _ _) | exact absurd rfl (h3 _ _ _ _) | exact absurd rfl (h4 _ _ _ _) | skip
  rename_i op x p
  cases op <;> first | rfl | exact absurd rfl (h1 _ _)
end
/-- what the translator promises at a fuel -/
structure Snd (n : Nat) : Prop where
  e : ∀ {T : TEnv} {X : Cx} {R : Gt} {E : L2.St → XK} {k : Nat}, Lk T X R E k → ∀ (a : Expr) (c : Ex), trE T n a = some c → PE X a (tD R E c)
  b : ∀ {T : TEnv} {X : Cx} {R : Gt} {E : L2.St → XK} {k : Nat}, Lk T X R E k → ∀ (op : BoolOp) (es : List Expr) (pos : Pos) (c : Ex), trBool T n op es pos = some c → PE X (.BoolOp op es pos) (tD R E c)
  es : ∀ {T : TEnv} {X : Cx} {R : Gt} {E : L2.St → XK} {k : Nat}, Lk T X R E k → ∀ (es : List Expr) (cs : List Ex), trEs T n es = some cs → PA X es (tA R E cs) ∧ NoStar es ∧ es.length = cs.length
  o : ∀ {T : TEnv} {X : Cx} {R : Gt} {E : L2.St → XK} {k : Nat}, Lk T X R E k → ∀ (o : Option Expr) (c : Option Ex), trO T n o = some c → PO X o (tO R E c)
  c : ∀ {T : TEnv} {X : Cx} {R : Gt} {k : Nat}, Lk T X R never k → ∀ (es : List Expr) (c : Option Bx), trC T n es = some c → PTs X es (tCt R c)
  i : ∀ {T : TEnv} {X : Cx} {R : Gt} {E : L2.St → XK} {k : Nat}, Lk T X R E k → ∀ (tg it : Expr) (w : Wk) (cs : List Ex), trI T n tg it = some (w, cs) → PI X tg it (tI R E w cs) ∧ ∀ es k p, it ≠ .Set es k p
  t : ∀ {T : TEnv} {X : Cx} {R : Gt} {E : L2.St → XK} {k : Nat}, Lk T X R E k → ∀ (a : Expr) (c : Bx), trB T n a = some c → PT X a (tT R E c)
  tb : ∀ {T : TEnv} {X : Cx} {R : Gt} {E : L2.St → XK} {k : Nat}, Lk T X R E k → ∀ (op : BoolOp) (es : List Expr) (pos : Pos) (c : Bx), trBoolB T n op es pos = some c → PW X (.BoolOp op es pos) (tT R E c)
section
variable {T : TEnv} {X : Cx} {R : Gt} {E : L2.St → XK} {k n : Nat}
theorem snd_b (S : Snd n) (L : Lk T X R E k) {op : BoolOp} {es : List Expr} {pos : Pos} {c : Ex} (h : trBool T (n + 1) op es pos = some c) : PE X (.BoolOp op es pos) (tD R E c) := by
  match es, h with
  | [], h => simp [trBool] at h
  | [a], h => exact pe_one (S.e L a c (by simpa [trBool] using h))
  | a :: b :: r, h =>
    simp only [trBool, Option.bind_eq_bind, Option.bind_eq_some_iff, Option.some.injEq] at h
    obtain ⟨x, hx, y, hy, rfl⟩ := h
    cases op with
    | And => exact p_and (S.e L a x hx) (S.b L _ _ pos y hy)
    | Or => exact p_or (S.e L a x hx) (S.b L _ _ pos y hy)
theorem snd_es (S : Snd n) (L : Lk T X R E k) {es : List Expr} {cs : List Ex} (h : trEs T (n + 1) es = some cs) : PA X es (tA R E cs) ∧ NoStar es ∧ es.length = cs.length := by
  cases es with
  | nil =>
    simp only [trEs] at h
    cases h
    exact ⟨pa_nilD, fun e he => by simp at he, rfl⟩
  | cons e es =>
    have hs : ∀ x p, e ≠ .Starred x p := by
      rintro x p rfl
      simp [trEs] at h
    have h2 : ∃ x y, trE T n e = some x ∧ trEs T n es = some y ∧ cs = x :: y := by
      cases e <;> first
        | exact absurd rfl (hs _ _)
        | (simp only [trEs, Option.bind_eq_bind, Option.bind_eq_some_iff, Option.some.injEq] at h
           obtain ⟨x, hx, y, hy, rfl⟩ := h
           exact ⟨x, y, hx, hy, rfl⟩)
    obtain ⟨x, y, hx, hy, rfl⟩ := h2
    obtain ⟨p, q, l⟩ := S.es L es y hy
    exact ⟨pa_consD hs (S.e L e x hx) p, fun z hz => by
      rcases List.mem_cons.mp hz with rfl | hz
      · exact hs
      · exact q z hz, by simp [l]⟩
theorem snd_o (S : Snd n) (L : Lk T X R E k) {o : Option Expr} {c : Option Ex} (h : trO T (n + 1) o = some c) : PO X o (tO R E c) := by
  cases o with
  | none => simp only [trO] at h; cases h; exact po_noneD
  | some e =>
    simp only [trO, Option.bind_eq_bind, Option.bind_eq_some_iff, Option.some.injEq] at h
    obtain ⟨x, hx, rfl⟩ := h
    exact po_someD (S.e L e x hx)
theorem snd_c (S : Snd n) (L : Lk T X R never k) {es : List Expr} {c : Option Bx} (h : trC T (n + 1) es = some c) : PTs X es (tCt R c) := by
  match es, h with
  | [], h => simp only [trC] at h; cases h; exact pts_nil
  | [e], h =>
    simp only [trC, Option.bind_eq_bind, Option.bind_eq_some_iff, Option.some.injEq] at h
    obtain ⟨x, hx, rfl⟩ := h
    exact pts_one (S.t L e x hx)
  | _ :: _ :: _, h => simp [trC] at h
theorem snd_tb (S : Snd n) (L : Lk T X R E k) {op : BoolOp} {es : List Expr} {pos : Pos} {c : Bx} (h : trBoolB T (n + 1) op es pos = some c) : PW X (.BoolOp op es pos) (tT R E c) := by
  match es, h with
  | [], h => simp [trBoolB] at h
  | [a], h =>
    have p := S.t L a c (by simpa [trBoolB] using h)
    cases op with
    | And => exact pwt_and1 p
    | Or => exact pwt_or1 p
  | a :: b :: r, h =>
    simp only [trBoolB, Option.bind_eq_bind, Option.bind_eq_some_iff, Option.some.injEq] at h
    obtain ⟨x, hx, y, hy, rfl⟩ := h
    cases op with
    | And => exact pwt_and (S.t L a x hx) (S.tb L _ _ pos y hy)
    | Or => exact pwt_or (S.t L a x hx) (S.tb L _ _ pos y hy)
end
end Cc

set_option linter.all false
set_option maxRecDepth 100000
set_option maxHeartbeats 4000000
/-! Cc: the translator is right about expressions, constructor by constructor. -/
namespace Cc
open PySem PySem.Spec PyProof.Rows L2

section
variable {T : TEnv} {X : Cx} {R : Gt} {E : L2.St → XK} {k n : Nat} {pos : Pos}
theorem snd_cmp (S : Snd n) (L : Lk T X R E k) {a : Expr} {ops : List CmpOp} {bs : List Expr} {c : Ex} (h : trE T (n + 1) (.Compare a ops bs pos) = some c) :
    PE X (.Compare a ops bs pos) (tD R E c) ∧ PT X (.Compare a ops bs pos) (tT R E (.tru c)) := by
  match ops, bs, h with
  | [op], [b], h =>
    simp only [trE] at h
    split at h
    · cases h
    · rename_i hm
      simp only [Option.bind_eq_bind, Option.bind_eq_some_iff, Option.some.injEq] at h
      obtain ⟨x, hx, y, hy, rfl⟩ := h
      have hm : behindInMarks op b = false := by simpa using hm
      exact ⟨p_cmp L.C.hK L.hu hm (S.e L _ _ hx) (S.e L _ _ hy), pt_cmpD L.C.hK L.hu hm (S.e L _ _ hx) (S.e L _ _ hy)⟩
  | [op, op'], [b, d], h =>
    simp only [trE] at h
    split at h
    · cases h
    · rename_i hm
      simp only [Option.bind_eq_bind, Option.bind_eq_some_iff, Option.some.injEq] at h
      obtain ⟨x, hx, y, hy, z, hz, rfl⟩ := h
      have hm : lastMarks [op, op'] [b, d] = false := by simpa using hm
      exact ⟨p_chain L.C.hK L.hu hm (S.e L _ _ hx) (S.e L _ _ hy) (S.e L _ _ hz), pt_chainD L.C.hK L.hu hm (S.e L _ _ hx) (S.e L _ _ hy) (S.e L _ _ hz)⟩
  | [], _, h => simp [trE] at h
  | [_], [], h => simp [trE] at h
  | [_], _ :: _ :: _, h => simp [trE] at h
  | [_, _], [], h => simp [trE] at h
  | [_, _], [_], h => simp [trE] at h
  | [_, _], _ :: _ :: _ :: _, h => simp [trE] at h
  | _ :: _ :: _ :: _, _, h => simp [trE] at h
theorem snd_t (S : ∀ m, m ≤ n → Snd m) (L : Lk T X R E k) {a : Expr} {c : Bx} (h : trB T (n + 1) a = some c) : PT X a (tT R E c) := by
  have Sn := S n (Nat.le_refl _)
  have plain : (∃ x, trE T n a = some x ∧ c = .tru x) → (∀ l o c p, a ≠ .Compare l o c p) → (∀ x p, a ≠ .UnaryOp .Not x p) → (∀ op es p, a ≠ .BoolOp op es p) → (∀ c x y p, a ≠ .IfExp c x y p) → PT X a (tT R E c) := by
    rintro ⟨x, hx, rfl⟩ h4 h1 h2 h3
    exact pt_tru L.C.hK (Sn.e L _ _ hx) (isTrue_plain h1 h2 h3 h4 X.env)
  cases a
  case BoolOp op es p => exact (Sn.tb L op es p c (by simpa only [trB] using h)).pt
  case IfExp t x y p =>
    simp only [trB, Option.bind_eq_bind, Option.bind_eq_some_iff, Option.some.injEq] at h
    obtain ⟨u, hu, v, hv, w, hw, rfl⟩ := h
    exact ptt_ite (Sn.t L _ _ hu) (Sn.t L _ _ hv) (Sn.t L _ _ hw)
  case UnaryOp op x p =>
    cases op
    case Not =>
      simp only [trB, Option.bind_eq_bind, Option.bind_eq_some_iff, Option.some.injEq] at h
      obtain ⟨u, hu, rfl⟩ := h
      exact ptt_not (Sn.t L _ _ hu)
    all_goals
      simp only [trB, Option.bind_eq_bind, Option.bind_eq_some_iff, Option.some.injEq] at h
      obtain ⟨u, hu, rfl⟩ := h
      exact plain ⟨u, hu, rfl⟩ (fun _ _ _ _ z => by cases z) (fun _ _ z => by cases z) (fun _ _ _ z => by cases z) (fun _ _ _ _ z => by cases z)
  case Compare l ops bs p =>
    simp only [trB, Option.bind_eq_bind, Option.bind_eq_some_iff, Option.some.injEq] at h
    obtain ⟨u, hu, rfl⟩ := h
    cases n with
    | zero => simp [trE] at hu
    | succ m => exact (snd_cmp (S m (Nat.le_succ _)) L hu).2
  all_goals
    simp only [trB, Option.bind_eq_bind, Option.bind_eq_some_iff, Option.some.injEq] at h
    obtain ⟨u, hu, rfl⟩ := h
    exact plain ⟨u, hu, rfl⟩ (fun _ _ _ _ z => by cases z) (fun _ _ z => by cases z) (fun _ _ _ z => by cases z) (fun _ _ _ _ z => by cases z)
theorem free_glo (L : Lk T X R E k) {x : Str} (h : freeB T x = true) : Gl X x ∧ X.mg x = none := by
  unfold freeB at h
  simp only [Bool.and_eq_true] at h
  refine ⟨L.gl h.1, ?_⟩
  have h2 := h.2
  split at h2
  · exact L.bltF x (by assumption)
  · cases h2
theorem snd_i (S : Snd n) (L : Lk T X R E k) {tg it : Expr} {w : Wk} {cs : List Ex} (h : trI T (n + 1) tg it = some (w, cs)) : PI X tg it (tI R E w cs) ∧ ∀ es k p, it ≠ .Set es k p := by
  simp only [trI] at h
  split at h
  · rename_i kk es hw
    simp only [Option.bind_eq_bind, Option.bind_eq_some_iff, Option.some.injEq] at h
    obtain ⟨cs', hcs, e⟩ := h
    cases e
    obtain ⟨pa, ns, hl⟩ := S.es L es cs hcs
    unfold walkOf at hw
    split at hw
    · rename_i x p es' pos
      split at hw
      · rename_i hx
        cases hw
        obtain ⟨rfl, hf, l1⟩ := hx
        obtain ⟨g, m⟩ := free_glo L hf
        match es, cs, l1, hl, pa, ns with
        | [a], [ca], _, _, pa, ns => exact ⟨pi_r1 (ns a (by simp)) g m pa, fun _ _ _ z => by cases z⟩
      · split at hw
        · rename_i hx
          cases hw
          obtain ⟨rfl, hf, l1⟩ := hx
          obtain ⟨g, m⟩ := free_glo L hf
          match es, cs, l1, hl, pa, ns with
          | [a, b], [ca, cb], _, _, pa, ns => exact ⟨pi_r2 (ns a (by simp)) (ns b (by simp)) g m pa, fun _ _ _ z => by cases z⟩
        · split at hw
          · rename_i hx
            cases hw
            obtain ⟨rfl, hf, l1, ht⟩ := hx
            obtain ⟨g, m⟩ := free_glo L hf
            match es, cs, l1, hl, pa, ns with
            | [a], [ca], _, _, pa, ns =>
              cases tg <;> simp only [isTupE] at ht <;> first | (cases ht; done) | skip
              exact ⟨pi_en L.C.hK (ns a (by simp)) g m pa, fun _ _ _ z => by cases z⟩
          · cases hw
    · cases hw
  · have hs : ∀ es k p, it ≠ .Set es k p := by
      rintro es k p rfl
      cases h
    have h2 : ∃ x, trE T n it = some x ∧ w = .seq ∧ cs = [x] := by
      cases it <;> first
        | exact absurd rfl (hs _ _ _)
        | (simp only [Option.bind_eq_bind, Option.bind_eq_some_iff, Option.some.injEq, Prod.mk.injEq] at h
           obtain ⟨x, hx, rfl, rfl⟩ := h
           exact ⟨x, hx, rfl, rfl⟩)
    obtain ⟨x, hx, rfl, rfl⟩ := h2
    exact ⟨pi_seq L.C.hK (S.e L _ _ hx), hs⟩
end
end Cc

set_option linter.all false
set_option maxRecDepth 100000
set_option maxHeartbeats 4000000
/-! Cc: the translator is right about calls and all expressions. -/
namespace Cc
open PySem PySem.Spec PyProof.Rows L2

section
variable {T : TEnv} {X : Cx} {R : Gt} {E : L2.St → XK} {k n : Nat} {pos p apos : Pos}
theorem f_bfAny (L : Lk T X R E k) {x : Str} {f : Bf} {e : Expr} {es : List Expr} {ces : List Ex} (hf : bfOf x (e :: es).length = some f) (hg : Gl X x) (hm : X.mg x = none) (ns : NoStar (e :: es)) (pa : PA X (e :: es) (tA R E ces)) :
    PE X (.Call (.Name x p) (e :: es) [] pos) (tF R E (.bf f ces)) := by
  have h1 := ns e (by simp)
  have h2 : (backTo pos (starEach es X.env)).any (·.1) = false := star_none (fun z hz => ns z (by simp [hz])) pos X.env
  unfold bfOf at hf
  split at hf
  · split at hf
    · rename_i hx; cases hf; subst hx; exact f_bfB h1 (c_len L.C.hK) hg hm (by decide +kernel) (by decide) (by decide) pa h2
    split at hf
    · rename_i hx; cases hf; subst hx; exact f_bfB h1 (c_sum L.C.calm) hg hm (by decide +kernel) (by decide) (by decide) pa h2
    split at hf
    · rename_i hx; cases hf; subst hx; exact f_bfB h1 (c_any L.C.calm) hg hm (by decide +kernel) (by decide) (by decide) pa h2
    split at hf
    · rename_i hx; cases hf; subst hx; exact f_bfB h1 (c_all L.C.calm) hg hm (by decide +kernel) (by decide) (by decide) pa h2
    split at hf
    · rename_i hx; cases hf; subst hx; exact f_bfT h1 c_int hg hm (by decide +kernel) (by decide) (by decide) pa h2
    split at hf
    · rename_i hx; cases hf; subst hx; exact f_bfT h1 c_str hg hm (by decide +kernel) (by decide) (by decide) pa h2
    split at hf
    · rename_i hx; cases hf; subst hx; exact f_bfT h1 (c_tuple L.C.hK) hg hm (by decide +kernel) (by decide) (by decide) pa h2
    split at hf
    · rename_i hx; cases hf; subst hx; exact f_bfT h1 (c_list L.C.hK) hg hm (by decide +kernel) (by decide) (by decide) pa h2
    · cases hf
  · split at hf
    · split at hf
      · rename_i hx; cases hf; subst hx; exact f_bfB h1 (c_min L.C.calm) hg hm (by decide +kernel) (by decide) (by decide) pa h2
      split at hf
      · rename_i hx; cases hf; subst hx; exact f_bfB h1 (c_max L.C.calm) hg hm (by decide +kernel) (by decide) (by decide) pa h2
      · cases hf
    · cases hf
theorem tyOf_ok {y : Str} {t : Ty} (h : tyOf y = some t) : y = Str.ofString (tyN t) := by
  unfold tyOf at h
  split at h
  · rename_i hx; cases h; exact hx
  split at h
  · rename_i hx; cases h; exact hx
  split at h
  · rename_i hx; cases h; exact hx
  split at h
  · rename_i hx; cases h; exact hx
  split at h
  · rename_i hx; cases h; exact hx
  · cases h
theorem rngArg_of {x : Str} {es : List Expr} {a : Expr} (h : rngArg x es = some a) : ∃ y p pos, x = ("list" : Str) ∧ y = ("range" : Str) ∧ es = [.Call (.Name y p) [a] [] pos] := by
  unfold rngArg at h
  split at h
  · split at h
    · rename_i hx
      cases h
      exact ⟨_, _, _, hx.1, hx.2, rfl⟩
    · cases h
  · cases h
theorem setArg_of {x : Str} {es : List Expr} {a : Expr} (h : setArg x es = some a) : ∃ y p pos, x = ("len" : Str) ∧ y = ("set" : Str) ∧ es = [.Call (.Name y p) [a] [] pos] := by
  unfold setArg at h
  split at h
  · split at h
    · rename_i hx
      cases h
      exact ⟨_, _, _, hx.1, hx.2, rfl⟩
    · cases h
  · cases h
theorem baseOf_of {o : Expr} {m : Str} {i np : Nat} {dfl : List PyData} (h : baseOf T o m = some (i, np, dfl)) : ∃ x p c a b, o = .Name x p ∧ gloB T.sc x = true ∧ T.G x = some (.cls c a b) ∧ T.G (bkey x m) = some (.bas c m i np dfl) := by
  unfold baseOf at h
  split at h
  · rename_i x p
    split at h
    · rename_i hg
      split at h
      · rename_i c a b c' m' i' np' dfl' h1 h2
        split at h
        · rename_i hc
          cases h
          obtain ⟨rfl, rfl⟩ := hc
          exact ⟨x, p, c, a, b, rfl, (Bool.and_eq_true_iff.mp hg).2, h1, h2⟩
        · cases h
      · cases h
    · cases h
  · cases h
/-- a call of a name -/
theorem snd_call (S : Snd n) (L : Lk T X R E k) {x : Str} {es : List Expr} {c : Ex} (h : trE T (n + 1) (.Call (.Name x p) es [] pos) = some c) : PE X (.Call (.Name x p) es [] pos) (tD R E c) := by
  simp only [trE] at h
  split at h
  · cases h
  split at h
  · rename_i hgl
    have hg := L.gl hgl
    split at h
    · rename_i i ps dfl hG
      simp only [Option.bind_eq_bind, Option.bind_eq_some_iff, Option.some.injEq] at h
      obtain ⟨cs, hcs, cd, hcd, rfl⟩ := h
      obtain ⟨pa, ns, hl⟩ := S.es L es cs hcs
      obtain ⟨hm, F, hk, hd⟩ := L.fnF _ _ _ _ hG
      exact p_call L.C F hk hg hm hd ns (fun z => by subst z; exact List.length_eq_zero_iff.mp hl.symm) pa hcd
    · rename_i cc ps dfl hG
      simp only [Option.bind_eq_bind, Option.bind_eq_some_iff, Option.some.injEq] at h
      obtain ⟨cs, hcs, cd, hcd, rfl⟩ := h
      obtain ⟨pa, ns, hl⟩ := S.es L es cs hcs
      obtain ⟨hm, ⟨i, hi, F, hk⟩, hd⟩ := L.clsF _ _ _ _ hG
      exact p_make L.C L.G hi F hk hg hm hd ns (fun z => by subst z; exact List.length_eq_zero_iff.mp hl.symm) pa hcd
    · rename_i hG
      have hm := L.bltF x hG
      split at h
      · rename_i hx
        subst hx
        split at h
        · rename_i a y p2
          split at h
          · rename_i hf
            obtain ⟨g2, m2⟩ := free_glo L hf
            simp only [Option.bind_eq_bind, Option.bind_eq_some_iff, Option.some.injEq] at h
            obtain ⟨t, ht, u, hu, rfl⟩ := h
            have hs : ∀ x p, a ≠ .Starred x p := by
              rintro x p rfl
              cases n with
              | zero => simp [trE] at hu
              | succ m => simp [trE] at hu
            exact p_isa L.C.hK hs hg hm (tyOf_ok ht) g2 m2 (S.e L _ _ hu)
          · cases h
        · cases h
      · split at h
        · rename_i a hr
          obtain ⟨y, p2, pos2, rfl, rfl, rfl⟩ := rngArg_of hr
          split at h
          · rename_i hf
            obtain ⟨g2, m2⟩ := free_glo L hf
            simp only [Option.bind_eq_bind, Option.bind_eq_some_iff, Option.some.injEq] at h
            obtain ⟨u, hu, rfl⟩ := h
            have hs : ∀ x p, a ≠ .Starred x p := by
              rintro x p rfl
              cases n with
              | zero => simp [trE] at hu
              | succ m => simp [trE] at hu
            exact p_wrap (f_lrng L.C.calm hs hg hm g2 m2 (S.e L _ _ hu))
          · cases h
        split at h
        · rename_i a hr
          obtain ⟨y, p2, pos2, rfl, rfl, rfl⟩ := setArg_of hr
          split at h
          · rename_i hf
            obtain ⟨g2, m2⟩ := free_glo L hf
            simp only [Option.bind_eq_bind, Option.bind_eq_some_iff, Option.some.injEq] at h
            obtain ⟨u, hu, rfl⟩ := h
            have hs : ∀ x p, a ≠ .Starred x p := by
              rintro x p rfl
              cases n with
              | zero => simp [trE] at hu
              | succ m => simp [trE] at hu
            exact f_lens L.C.hK L.C.calm hs hg hm g2 m2 (S.e L _ _ hu)
          · cases h
        · simp only [Option.bind_eq_bind, Option.bind_eq_some_iff, Option.some.injEq] at h
          obtain ⟨f, hf, cs, hcs, rfl⟩ := h
          obtain ⟨pa, ns, hl⟩ := S.es L es cs hcs
          cases es with
          | nil => simp [bfOf] at hf
          | cons e es => exact p_wrap (f_bfAny L hf hg hm ns pa)
    · cases h
  · cases h
theorem ne_call {o : Expr} (h : ∀ f es k p, o ≠ .Call f es k p) : True := trivial
theorem snd_meth (S : Snd n) (L : Lk T X R E k) {o : Expr} {m : Str} {es : List Expr} {c : Ex} (h : trE T (n + 1) (.Call (.Attribute o m apos) es [] pos) = some c) : PE X (.Call (.Attribute o m apos) es [] pos) (tD R E c) := by
  simp only [trE] at h
  split at h
  · rename_i hl
    simp only [Bool.and_eq_true, decide_eq_true_eq, oneLine] at hl
    split at h
    · rename_i i np dfl hbo
      obtain ⟨x, p0, c0, a0, b0, rfl, hgl, hG, hG2⟩ := baseOf_of hbo
      simp only [Option.bind_eq_bind, Option.bind_eq_some_iff, Option.some.injEq] at h
      obtain ⟨cs, hcs, cd, hcd, rfl⟩ := h
      obtain ⟨pa, ns, hle⟩ := S.es L es cs hcs
      obtain ⟨B, F, hk⟩ := L.basF _ _ _ _ _ _ hG2
      obtain ⟨hm, _, hd⟩ := L.clsF _ _ _ _ hG
      exact p_base L.C B F hk (L.gl hgl) hm hd ns (fun z => by subst z; exact List.length_eq_zero_iff.mp hle.symm) hl.1 hl.2 pa hcd
    have hb : ∀ f es k p, o ≠ .Call f es k p := by
      rintro f es' k p rfl
      cases h
    have h2 : (match mutOf m es.length with
          | some k => do some (.mut k (← trE T n o) (← trEs T n es))
          | none => match (if es.length = 1 then bmOf m else none) with
            | some k => do some (wrap T pos (.bm k (← trE T n o) (← trEs T n es)))
            | none => match (if es.length = 1 then lmOf m else none) with
              | some k => do some (.lm k (← trE T n o) (← trEs T n es))
              | none => do some (.meth (← trE T n o) m (← trEs T n es))) = some c := by
      cases o <;> first | exact absurd rfl (hb _ _ _ _) | exact h
    clear h
    split at h2
    · rename_i mk hmk
      simp only [Option.bind_eq_bind, Option.bind_eq_some_iff, Option.some.injEq] at h2
      obtain ⟨co, hco, cs, hcs, rfl⟩ := h2
      have po := S.e L _ _ hco
      obtain ⟨pa, ns, hle⟩ := S.es L es cs hcs
      unfold mutOf at hmk
      split at hmk
      · rename_i hx
        cases hmk
        obtain ⟨rfl, l1⟩ := hx
        match es, l1, ns, pa, hl with
        | [a], _, ns, pa, hl => exact p_mut1 m_append PySem.F.slot_list_append PySem.F.type_list_append hb (ns a (by simp)) hl.1 po pa
      split at hmk
      · rename_i hx
        cases hmk
        obtain ⟨rfl, l1⟩ := hx
        match es, l1, ns, pa, hl with
        | [a], _, ns, pa, hl => exact p_mut1 m_extend PySem.F.slot_list_extend PySem.F.type_list_extend hb (ns a (by simp)) hl.1 po pa
      split at hmk
      · rename_i hx
        cases hmk
        obtain ⟨rfl, l1⟩ := hx
        match es, cs, l1, hle, hl with
        | [], [], _, _, hl => exact p_mut0 m_pop PySem.F.slot_list_pop PySem.F.type_list_pop hb hl.1 po
      split at hmk
      · rename_i hx
        cases hmk
        obtain ⟨rfl, l1⟩ := hx
        match es, cs, l1, hle, hl with
        | [], [], _, _, hl => exact p_mut0 m_clear PySem.F.slot_list_clear PySem.F.type_list_clear hb hl.1 po
      split at hmk
      · rename_i hx
        cases hmk
        obtain ⟨rfl, l1⟩ := hx
        match es, l1, ns, pa, hl with
        | [a], _, ns, pa, hl => exact p_mut1 m_popAt PySem.F.slot_list_pop PySem.F.type_list_pop hb (ns a (by simp)) hl.1 po pa
      · cases hmk
    · split at h2
      · rename_i mk hmk
        simp only [Option.bind_eq_bind, Option.bind_eq_some_iff, Option.some.injEq] at h2
        obtain ⟨co, hco, cs, hcs, rfl⟩ := h2
        have po := S.e L _ _ hco
        obtain ⟨pa, ns, hle⟩ := S.es L es cs hcs
        split at hmk
        · rename_i l1
          match es, l1, ns, pa, hl with
          | [a], _, ns, pa, hl =>
            unfold bmOf at hmk
            split at hmk
            · rename_i hx; cases hmk; subst hx; exact p_wrap (f_bm (m_join L.C.hK) PySem.F.slot_str_join PySem.F.type_str_join hb (ns a (by simp)) hl.1 po pa)
            split at hmk
            · rename_i hx; cases hmk; subst hx; exact p_wrap (f_bm m_split PySem.F.slot_str_split PySem.F.type_str_split hb (ns a (by simp)) hl.1 po pa)
            split at hmk
            · rename_i hx; cases hmk; subst hx; exact p_wrap (f_bm m_partition PySem.F.slot_str_partition PySem.F.type_str_partition hb (ns a (by simp)) hl.1 po pa)
            split at hmk
            · rename_i hx; cases hmk; subst hx; exact p_wrap (f_bm m_startswith PySem.F.slot_str_startswith PySem.F.type_str_startswith hb (ns a (by simp)) hl.1 po pa)
            · cases hmk
        · cases hmk
      split at h2
      · rename_i mk hmk
        simp only [Option.bind_eq_bind, Option.bind_eq_some_iff, Option.some.injEq] at h2
        obtain ⟨co, hco, cs, hcs, rfl⟩ := h2
        have po := S.e L _ _ hco
        obtain ⟨pa, ns, hle⟩ := S.es L es cs hcs
        split at hmk
        · rename_i l1
          match es, l1, ns, pa, hl with
          | [a], _, ns, pa, hl =>
            unfold lmOf at hmk
            split at hmk
            · rename_i hx; cases hmk; subst hx; exact p_lm (m_count L.C.hK L.hu) PySem.F.slot_list_count PySem.F.type_list_count hb (ns a (by simp)) hl.1 po pa
            split at hmk
            · rename_i hx; cases hmk; subst hx; exact p_lm (m_index L.C.hK L.hu) PySem.F.slot_list_index PySem.F.type_list_index hb (ns a (by simp)) hl.1 po pa
            · cases hmk
        · cases hmk
      · simp only [Option.bind_eq_bind, Option.bind_eq_some_iff, Option.some.injEq] at h2
        obtain ⟨co, hco, cs, hcs, rfl⟩ := h2
        obtain ⟨pa, ns, hle⟩ := S.es L es cs hcs
        exact p_meth L.C L.G (fun c i hi => L.meF c m i hi) hb ns (fun z => by subst z; exact List.length_eq_zero_iff.mp hle.symm) hl.1 hl.2 (S.e L _ _ hco) pa
  · cases h
/-- a list comprehension -/
theorem snd_lc (S : Snd n) (L : Lk T X R E k) {elt : Expr} {gs : List Comprehension} {scope : Scope} {c : Ex} (h : trE T (n + 1) (.ListComp elt gs scope pos) = some c) :
    ∃ tg it ifs own cell gc is one w its b e, gs = [⟨tg, it, ifs, 0⟩] ∧ c = .comp (own.map (·.2)) cell gc is one w its b e ∧ PI X tg it (tI R E w its) ∧ (∀ es k p, it ≠ .Set es k p) ∧ BlkOk X.N X.env.scope scope own ∧ (∀ i ∈ is, i ∈ own.map (·.2)) ∧
      (∀ (s : Shared) (H : Hp) (C : Addr) (cl : List (Str × Addr)) (fp : List Addr), PG (X.blk s H scope (compEnvC scope cl C X.env) fp) tg (gTgt R.K is one)) ∧
      (∀ (s : Shared) (H : Hp) (C : Addr) (cl : List (Str × Addr)) (fp : List Addr), PTs (X.blk s H scope (compEnvC scope cl C X.env) fp) ifs (tCt R b)) ∧
      (∀ (s : Shared) (H : Hp) (C : Addr) (cl : List (Str × Addr)) (fp : List Addr), PE (X.blk s H scope (compEnvC scope cl C X.env) fp) elt (tD R never e)) := by
  have hg : ∃ tg it ifs, gs = [⟨tg, it, ifs, 0⟩] := by
    match gs, h with
    | [⟨tg, it, ifs, i⟩], h =>
      by_cases e : i = 0
      · subst e; exact ⟨tg, it, ifs, rfl⟩
      · simp [trE, e] at h
    | [], h => simp [trE] at h
    | _ :: _ :: _, h => simp [trE] at h
  obtain ⟨tg, it, ifs, rfl⟩ := hg
  · simp only [trE, Option.bind_eq_bind, Option.bind_eq_some_iff, Option.some.injEq] at h
    obtain ⟨⟨w, its⟩, hi, h⟩ := h
    dsimp only at h
    split at h
    · rename_i hb
      simp only [Option.bind_eq_bind, Option.bind_eq_some_iff, Option.some.injEq] at h
      obtain ⟨⟨is, one⟩, ht, b, hc, e, he, h⟩ := h
      dsimp only at h
      split at h
      · rename_i hown
        cases h
        obtain ⟨p1, p2⟩ := S.i L _ _ _ _ hi
        refine ⟨tg, it, ifs, ownOf T.N scope, _, _, is, one, w, its, b, e, rfl, rfl, p1, p2, ?_, fun i hi => ?_, fun s H C cl fp => ?_, fun s H C cl fp => S.c (L.blk s H C cl fp) _ _ hc, fun s H C cl fp => S.e (L.blk s H C cl fp) _ _ he⟩
        · rw [L.N, L.sc]; exact blkOk_by hb
        · have := List.all_eq_true.mp hown i hi
          simpa using this
        · have L2 := L.blk (scope := scope) s H C cl fp
          have q := pg_tgt L2.N L2.C.calm L2.C.nd L2.tsc ht
          have hK : (X.blk s H scope (compEnvC scope cl C X.env) fp).K = R.K := L.C.hK
          rw [hK] at q
          exact q
      · cases h
    · cases h
theorem snd_e (S : ∀ m, m ≤ n → Snd m) (L : Lk T X R E k) {a : Expr} {c : Ex} (h : trE T (n + 1) a = some c) : PE X a (tD R E c) := by
  have Sn := S n (Nat.le_refl _)
  cases a
  case Constant kk j pos =>
    simp only [trE] at h
    obtain ⟨x, hx, rfl⟩ := map_of h
    exact p_const hx
  case Name x pos =>
    simp only [trE] at h
    split at h
    · rename_i i hi
      obtain ⟨h1, h2, h3, h4⟩ := L.vis hi
      have pv : PE X (.Name x pos) (tD R E (.var i)) := p_var h1 h2 h3 h4
      split at h
      · cases h; exact p_frz pv
      · cases h; exact pv
    · split at h
      · rename_i hgl
        split at h
        · rename_i d hG
          cases h
          obtain ⟨⟨u, hu, hc⟩, hd⟩ := L.conF _ _ hG
          exact p_con (L.gl hgl) hu hc hd
        · rename_i i ps dfl hG
          cases h
          obtain ⟨hm, F, hk, hd⟩ := L.fnF _ _ _ _ hG
          exact p_gfn (L.gl hgl) hm hd
        · cases h
      · cases h
  case BinOp a op b pos =>
    simp only [trE, Option.bind_eq_bind, Option.bind_eq_some_iff, Option.some.injEq] at h
    obtain ⟨o, ho, x, hx, y, hy, rfl⟩ := h
    split
    · rename_i e
      subst e
      exact p_wrap (f_add L.C.hK ho (Sn.e L _ _ hx) (Sn.e L _ _ hy))
    · exact p_bin L.C.hK ho (Sn.e L _ _ hx) (Sn.e L _ _ hy)
  case UnaryOp op a pos =>
    cases op <;> simp only [trE, Option.bind_eq_bind, Option.bind_eq_some_iff, Option.some.injEq] at h <;> first | (cases h; done) | skip
    · obtain ⟨x, hx, rfl⟩ := h
      exact p_not (Sn.e L _ _ hx)
    · obtain ⟨x, hx, rfl⟩ := h
      exact p_neg (Sn.e L _ _ hx)
  case BoolOp op es pos => exact Sn.b L op es pos c (by simpa only [trE] using h)
  case Compare a ops bs pos => exact (snd_cmp Sn L h).1
  case IfExp t a b pos =>
    simp only [trE, Option.bind_eq_bind, Option.bind_eq_some_iff, Option.some.injEq] at h
    obtain ⟨u, hu, v, hv, w, hw, rfl⟩ := h
    exact p_ite (Sn.t L _ _ hu) (Sn.e L _ _ hv) (Sn.e L _ _ hw)
  case Tuple es kk pos =>
    simp only [trE, Option.bind_eq_bind, Option.bind_eq_some_iff, Option.some.injEq] at h
    obtain ⟨cs, hcs, rfl⟩ := h
    exact p_tup (Sn.es L _ _ hcs).1
  case List es pos =>
    simp only [trE, Option.bind_eq_bind, Option.bind_eq_some_iff, Option.some.injEq] at h
    obtain ⟨cs, hcs, rfl⟩ := h
    exact p_lst (Sn.es L _ _ hcs).1
  case Subscript a b pos =>
    cases b
    case Slice lo hi st p2 =>
      cases st with
      | none =>
        simp only [trE, Option.bind_eq_bind, Option.bind_eq_some_iff, Option.some.injEq] at h
        obtain ⟨x, hx, l, hl, u, hu, rfl⟩ := h
        exact p_wrap (f_slice L.C.hK (Sn.e L _ _ hx) (Sn.o L _ _ hl) (Sn.o L _ _ hu))
      | some st =>
        have key : ∃ k p1 p2, lo = none ∧ hi = none ∧ st = .UnaryOp .USub (.Constant (.int 1) k p1) p2 := by
          cases lo with
          | some lo => simp [trE] at h
          | none => cases hi with
            | some hi => simp [trE] at h
            | none =>
              cases st <;> try (simp [trE] at h; done)
              rename_i op x p2
              cases op <;> try (simp [trE] at h; done)
              cases x <;> try (simp [trE] at h; done)
              rename_i cst k p1
              cases cst <;> try (simp [trE] at h; done)
              rename_i i
              by_cases e : i = 1
              · subst e; exact ⟨_, _, _, rfl, rfl, rfl⟩
              · simp [trE, e] at h
        obtain ⟨k, p1, p2, rfl, rfl, rfl⟩ := key
        simp only [trE, Option.bind_eq_bind, Option.bind_eq_some_iff, Option.some.injEq] at h
        obtain ⟨x, hx, rfl⟩ := h
        exact p_wrap (f_rev L.C.hK (Sn.e L _ _ hx))
    all_goals
      simp only [trE, Option.bind_eq_bind, Option.bind_eq_some_iff, Option.some.injEq] at h
      obtain ⟨x, hx, y, hy, rfl⟩ := h
      exact p_idx L.C.hK (fun _ _ _ _ z => by cases z) (Sn.e L _ _ hx) (Sn.e L _ _ hy)
  case Attribute o f pos =>
    cases o
    case Call => simp [trE] at h
    all_goals
      simp only [trE, Option.bind_eq_bind, Option.bind_eq_some_iff, Option.some.injEq] at h
      obtain ⟨x, hx, rfl⟩ := h
      exact p_fld L.C.hK L.G (fun _ _ _ _ z => by cases z) (Sn.e L _ _ hx)
  case ListComp elt gs scope pos =>
    obtain ⟨tg, it, ifs, own, cell, gc, is, one, w, its, b, e, rfl, rfl, p1, p2, ok, hown, g, t, ee⟩ := snd_lc Sn L h
    exact peImp (pe_lc L.C.calm L.C.nd p1 ok g t ee (folded_ne p2 X.env)) fun σ H Q q => comp_lc hown q
  case Call f es kw pos =>
    cases kw with
    | cons q r => cases f <;> simp [trE] at h
    | nil =>
      cases f
      case Name x p => exact snd_call Sn L h
      case Attribute o m apos => exact snd_meth Sn L h
      all_goals simp [trE] at h
  all_goals simp [trE] at h
theorem snd_zero : Snd 0 where
  e := fun _ _ _ h => by simp [trE] at h
  b := fun _ _ _ _ _ h => by simp [trBool] at h
  es := fun _ _ _ h => by simp [trEs] at h
  o := fun _ _ _ h => by simp [trO] at h
  c := fun _ _ _ h => by simp [trC] at h
  i := fun _ _ _ _ _ h => by simp [trI] at h
  t := fun _ _ _ h => by simp [trB] at h
  tb := fun _ _ _ _ _ h => by simp [trBoolB] at h
theorem snd_succ (S : ∀ m, m ≤ n → Snd m) : Snd (n + 1) where
  e := fun L _ _ h => snd_e S L h
  b := fun L _ _ _ _ h => snd_b (S n (Nat.le_refl _)) L h
  es := fun L _ _ h => snd_es (S n (Nat.le_refl _)) L h
  o := fun L _ _ h => snd_o (S n (Nat.le_refl _)) L h
  c := fun L _ _ h => snd_c (S n (Nat.le_refl _)) L h
  i := fun L _ _ _ _ h => snd_i (S n (Nat.le_refl _)) L h
  t := fun L _ _ h => snd_t S L h
  tb := fun L _ _ _ _ h => snd_tb (S n (Nat.le_refl _)) L h
theorem snd_le : ∀ n m, m ≤ n → Snd m
  | 0, m, h => by cases Nat.le_zero.mp h; exact snd_zero
  | n + 1, m, h => by
    rcases Nat.lt_or_ge m (n + 1) with l | l
    · exact snd_le n m (Nat.le_of_lt_succ l)
    · have : m = n + 1 := Nat.le_antisymm h l
      subst this
      exact snd_succ (snd_le n)
theorem snd (n : Nat) : Snd n := snd_le n n (Nat.le_refl _)
end
end Cc

set_option linter.all false
set_option maxRecDepth 100000
set_option maxHeartbeats 4000000
/-! Cc: the translator is right about statements. -/
namespace Cc
open PySem PySem.Spec PyProof.Rows L2

section
variable {T : TEnv} {X : Cx} {R : Gt} {E : XK} {k n : Nat} {pos p : Pos}
theorem sw_plain {e : Expr} (h : isComp e = false) (t : Option Expr) (l : Nat) (env : PySem.Env) : swapsWith e t l env = pure false := by
  cases e <;> first | (cases h; done) | (unfold swapsWith; rfl)
theorem sw_other {e t : Expr} (h : ∀ x p, t ≠ .Name x p) (l : Nat) (env : PySem.Env) : swapsWith e (some t) l env = pure false := by
  cases e <;> first
    | rfl
    | (cases t <;> first | rfl | exact absurd rfl (h _ _))
theorem sw_sole {e t : Expr} (h : ∀ x p, t ≠ .Name x p) (l : Nat) (env : PySem.Env) : swapsWithSole [t] e l env = pure false := sw_other h l env
def swB (scope : Scope) (line : Nat) (t : Str) (p : Pos) (env : PySem.Env) : Bool :=
  env.blockKind == .function && env.kindOf t == some .local && p.line == line && !(scope.names.any fun (n, k) => n == t && (k == .local || k == .cell))
theorem sw_lc {elt : Expr} {gs : List Comprehension} {scope : Scope} {y : Str} {py : Pos} {l : Nat} {env : PySem.Env} : swapsWith (.ListComp elt gs scope pos) (some (.Name y py)) l env = pure (swB scope pos.line y py env) := rfl
theorem lc_local {scope : Scope} {line : Nat} {t : Str} {env : PySem.Env} (h : swB scope line t p env = true) : env.scope.names.lookup t = some .local := by
  unfold swB at h
  simp only [Bool.and_eq_true] at h
  have h2 := h.1.1.2
  have ky : env.kindOf t = env.scope.names.lookup t := rfl
  rw [← ky]
  cases q : env.kindOf t with
  | none => rw [q] at h2; cases h2
  | some kd =>
    rw [q] at h2
    cases kd <;> first | rfl | (cases h2; done)
theorem comp_tr {e : Expr} {c : Ex} (h : trE T n e = some c) (hc : isComp e = true) : ∃ elt gs scope pos, e = .ListComp elt gs scope pos := by
  cases n with
  | zero => simp [trE] at h
  | succ n =>
    cases e <;> simp only [isComp] at hc <;> try (cases hc; done)
    · exact ⟨_, _, _, _, rfl⟩
    · simp [trE] at h
    · simp [trE] at h
/-- name = e -/
theorem s_name (L : Lk T X R (con E) k) {x : Str} {e : Expr} {i : Nat} {c : Ex} (hx : tgtOf T x = some i) (he : trE T n e = some c) : PS X (.Assign [.Name x p] e pos) (tS R E (.assign (.name i) c)) := by
  obtain ⟨h1, h2⟩ := tgt_of hx
  obtain ⟨h3, h4⟩ := L.tsc x h2
  rw [← L.N] at h1
  have imp : ∀ D σ H, tS R E (.assign (.name i) c) D σ H → tAsg (tD R (con E) c) (gName i) D σ H := fun D σ H h => tD_mono (i_asg h) fun v H1 q => i_gname q
  cases hc : isComp e with
  | false => exact psImp (ps_set L.C.nd h1 h3 ((snd n).e L _ _ he) (sw_plain hc _ _ _) h4) imp
  | true =>
    obtain ⟨elt, gs, scope, ps, rfl⟩ := comp_tr he hc
    cases hb : swB scope ps.line x p X.env with
    | false => exact psImp (ps_set L.C.nd h1 h3 ((snd n).e L _ _ he) (by rw [sw_lc, hb]) h4) imp
    | true =>
      cases n with
      | zero => simp [trE] at he
      | succ n =>
        obtain ⟨tg, it, ifs, own, cell, gc, is, one, w, its, b, e, rfl, rfl, p1, p2, ok, hown, g, t, ee⟩ := snd_lc (snd n) L he
        exact psImp (ps_setLc L.C.calm L.C.nd h1 (lc_local hb) (by rw [sw_lc, hb]) p1 ok g t ee (folded_ne p2 X.env)) fun D σ H h => comp_lc hown (imp D σ H h)
theorem g_sub (L : Lk T X R (con E) k) {o i : Expr} {co ci : Ex} (ho : trE T n o = some co) (hi : trE T n i = some ci) (hs : ∀ l u s p, i ≠ .Slice l u s p) : PG X (.Subscript o i pos) (gT R E (.sub co ci)) :=
  pgImp (pg_sub ((snd n).e L _ _ ho) ((snd n).e L _ _ hi) set_list (by
    intro v
    cases i <;> first | rfl | exact absurd rfl (hs _ _ _ _))) fun v σ H Q h => i_gsub h
theorem g_u (L : Lk T X R (con E) k) {t : Expr} {ct : Tx} (h : trU T n t = some ct) : PG X t (gT R E ct) ∧ ∀ x p, t ≠ .Starred x p := by
  cases t
  case Name x p =>
    simp only [trU] at h
    obtain ⟨i, hi, rfl⟩ := map_of h
    obtain ⟨h1, h2⟩ := tgt_of hi
    obtain ⟨h3, h4⟩ := L.tsc x h2
    rw [← L.N] at h1
    exact ⟨pgImp (pg_name L.C.nd h1 h3 h4) fun v σ H Q q => i_gname q, fun _ _ z => by cases z⟩
  case Subscript o i p =>
    cases i
    case Slice => simp [trU] at h
    all_goals
      simp only [trU, Option.bind_eq_bind, Option.bind_eq_some_iff, Option.some.injEq] at h
      obtain ⟨x, hx, y, hy, rfl⟩ := h
      exact ⟨g_sub L hx hy (fun _ _ _ _ z => by cases z), fun _ _ z => by cases z⟩
  case Attribute o f p =>
    cases o
    case Call => simp [trU] at h
    all_goals
      simp only [trU, Option.bind_eq_bind, Option.bind_eq_some_iff, Option.some.injEq] at h
      obtain ⟨x, hx, rfl⟩ := h
      refine ⟨?_, fun _ _ z => by cases z⟩
      have q := pg_fld (X := X) (f := f) (pos := p) ((snd n).e L _ _ hx)
      rw [L.C.hK] at q
      exact pgImp q fun v σ H Q q => i_gfld L.G q
  all_goals simp [trU] at h
theorem g_us (L : Lk T X R (con E) k) : ∀ {ts : List Expr} {cts : List Tx}, trTs T n ts = some cts → PGs X ts (gTs R E cts) ∧ (assignEach ts X.env).length = cts.length ∧ (assignEach ts X.env).findIdx? (·.1) = none
  | [], cts, h => by
    simp only [trTs] at h
    cases h
    exact ⟨pgsImp pgs_nil fun v σ H Q q => i_gts_nil q, rfl, rfl⟩
  | t :: ts, cts, h => by
    simp only [trTs, Option.bind_eq_bind, Option.bind_eq_some_iff, Option.some.injEq] at h
    obtain ⟨x, hx, y, hy, rfl⟩ := h
    obtain ⟨g, hs⟩ := g_u L hx
    obtain ⟨gs, l, f⟩ := g_us L hy
    refine ⟨pgsImp (pgs_cons g gs (by rw [assignEach_ne hs]; rfl)) fun v σ H Q q => i_gts_cons q, by rw [assignEach_ne hs]; simp [l], ?_⟩
    rw [assignEach_ne hs, List.findIdx?_cons]
    simp [f]
theorem i_setfld {o : Ex} {f : Str} {c : Ex} (G : GOk R) {D : Ends} {σ : L2.St} {H : Hp} (h : tS R E (.assign (.fld o f) c) D σ H) : sFld R.K (tD R (con E) o) (tD R (con E) c) f D σ H := i_fld G h
end
theorem i_stk {R : Gt} {E : XK} {D : Ends} {σ : L2.St} {H : Hp} (h : tS R E .stk D σ H) : False := by
  obtain ⟨φ, ex, s, env, S, N, h⟩ := h
  simp only [runS] at h
  exact h
theorem ps_stk {X : Cx} {R : Gt} {E : XK} {st : Stmt} : PS X st (tS R E .stk) := ⟨fun pins s σ H D I h => (i_stk h).elim⟩
/-! ### raise -/
theorem i_raise {R : Gt} {E : XK} {D : Ends} {σ : L2.St} {H : Hp} {c : Nat} {m : Str} (hx : ∀ c m fs, R.XI c [.str m] = some fs → fs = []) (h : tS R E (.raise c [.const (.str m)]) D σ H) : E (.ref (R.xa c)) none H := by
  obtain ⟨φ, ex, s, env, S, N, h⟩ := h
  simp only [runS, runEs, runE, Res.bind_ok, allPure] at h
  cases e : R.XI c [.str m] with
  | none => rw [e] at h; exact h.elim
  | some fs =>
    rw [e] at h
    exact h φ H none (Ext.refl _ _) S (hx _ _ _ e)
/-! ### try -/
/-- where a body is tried -/
theorem Lk.tr {T : TEnv} {X : Cx} {R : Gt} {E : L2.St → XK} {k : Nat} (L : Lk T X R E k) {W : WX} {pn : List (Addr × Obj)} {xe : Value → Shared → Prop} (tk : Takes (X.tr pn xe) W) : Lk T (X.tr pn xe) R (WE W) k where
  C := ⟨L.C.hK, L.C.calm, L.C.nd, L.C.room, fun σ => passAt tk σ⟩
  G := L.G
  N := L.N
  sc := L.sc
  tsc := L.tsc
  ndb := L.ndb
  fnF := L.fnF
  clsF := L.clsF
  conF := L.conF
  bltF := L.bltF
  basF := L.basF
  pexF := L.pexF
  xiF := L.xiF
  xsF := L.xsF
  meF := L.meF
/-- a frame that may be left by an exception -/
structure FrOk (X : Cx) (E : XK) : Prop where
  tk : Takes X fun cls d _ H => E cls d H
  hs : X.stack = X.env :: X.outer
  hf : X.env.frame = some X.env.locals
structure SndS (n : Nat) : Prop where
  s : ∀ {T : TEnv} {X : Cx} {R : Gt} {E : XK} {k : Nat}, Lk T X R (con E) k → PassesOwn (model X.prog X.w) X.A X.env X.xe → FrOk X E → ∀ (st : Stmt) (c : Sx), trS T n st = some c → PS X st (tS R E c)
  ss : ∀ {T : TEnv} {X : Cx} {R : Gt} {E : XK} {k : Nat}, Lk T X R (con E) k → PassesOwn (model X.prog X.w) X.A X.env X.xe → FrOk X E → ∀ (sts : List Stmt) (c : Sx), trSs T n sts = some c → PSs X sts (tS R E c)
section
variable {T : TEnv} {X : Cx} {R : Gt} {E : XK} {k n : Nat} {pos p : Pos}
theorem snd_ss (S : SndS n) (L : Lk T X R (con E) k) (hp : PassesOwn (model X.prog X.w) X.A X.env X.xe) (fo : FrOk X E) {sts : List Stmt} {c : Sx} (h : trSs T (n + 1) sts = some c) : PSs X sts (tS R E c) := by
  have any : ∀ a, PS X a (tS R E ((trS T n a).getD .stk)) := fun a => by
    cases q : trS T n a with
    | none => exact ps_stk
    | some x => exact S.s L hp fo a x q
  match sts, h with
  | [], h => simp only [trSs] at h; cases h; exact pssImp pss_nil fun D σ H q => i_next q
  | [a], h =>
    simp only [trSs, Option.some.injEq] at h
    subst h
    exact pss_one (any a)
  | a :: b :: r, h =>
    simp only [trSs, Option.bind_eq_bind, Option.bind_eq_some_iff, Option.some.injEq] at h
    obtain ⟨y, hy, rfl⟩ := h
    exact pssImp (pss_cons (any a) (S.ss L hp fo _ y hy)) fun D σ H q => i_seq q
/-- the body of a try, by what an exception out of it must answer -/
def tbOf (R : Gt) (i : Option Nat) (e : Ex) : WX → TS := fun W => match i with
  | none => tDrop (tD R (WE W) e)
  | some i => tAsg (tD R (WE W) e) (gName i)
theorem ps_one (L : Lk T X R (con E) k) {W : WX} {pn : List (Addr × Obj)} {xe : Value → Shared → Prop} (tk : Takes (X.tr pn xe) W) {b : Stmt} {i : Option Nat} {e : Ex} (h : oneOf T n b = some (i, e)) : PS (X.tr pn xe) b (tbOf R i e W) := by
  have L' := L.tr tk
  unfold oneOf at h
  split at h
  · split at h
    · cases h
    · rename_i hc
      simp only [Option.bind_eq_bind, Option.bind_eq_some_iff, Option.some.injEq, Prod.mk.injEq] at h
      obtain ⟨x, hx, rfl, rfl⟩ := h
      exact ps_expr ((snd n).e L' _ _ hx) (sw_plain (by simpa using hc) _ _ _)
  · split at h
    · cases h
    · rename_i hc
      simp only [Option.bind_eq_bind, Option.bind_eq_some_iff, Option.some.injEq, Prod.mk.injEq] at h
      obtain ⟨j, hj, x, hx, rfl, rfl⟩ := h
      obtain ⟨h1, h2⟩ := tgt_of hj
      obtain ⟨h3, h4⟩ := L'.tsc _ h2
      rw [← L'.N] at h1
      exact ps_set L'.C.nd h1 h3 ((snd n).e L' _ _ hx) (sw_plain (by simpa using hc) _ _ _) h4
  · cases h
def setO (σ : L2.St) (v : V) : Option Nat → L2.St
  | none => σ
  | some i => σ.set i (some v)
theorem i_try {i : Option Nat} {e : Ex} {l : List (Nat × Bool)} {j : Nat} {d : PyData} {v : Value} {D : Ends} {σ : L2.St} {H : Hp} (hl : ∀ c b, l.lookup c = some b → PySem.W.exmOne R.K (.ref (R.xa c)) v = some b)
    (h : tS R E (.tr i e l (.flag j d)) D σ H) : tbOf R i e (wOnly R.K v (fun _ _ _ => tAsg (tD R (con E) (.const d)) (gName j)) (fun c d _ H => E c d H) D) D σ H := by
  obtain ⟨φ, ex, s, env, S, N, h⟩ := h
  simp only [runS] at h
  have main : tD R (WE (wOnly R.K v (fun _ _ _ => tAsg (tD R (con E) (.const d)) (gName j)) (fun c d _ H => E c d H) D)) e σ H (fun v H1 => D.nx (setO σ v i) H1) := by
    refine ⟨φ, ex, s, env, S, N, ?_⟩
    cases r : runE R.Φ R.M R.CI R.FO e env s with
    | stuck => rw [r] at h; exact h
    | ok w s1 =>
      rw [r] at h
      intro v1 φ1 H1 e1 S1 r1
      cases i with
      | none => exact h φ1 H1 e1 S1 σ (N.ext e1)
      | some i => exact h φ1 H1 e1 S1 _ ((N.ext e1).set r1)
    | exc x s1 =>
      rw [r] at h
      dsimp only at h
      intro φ1 H1 od e1 S1 fs
      cases q : l.lookup x.cls with
      | none => rw [q] at h; exact h.elim
      | some b =>
        rw [q] at h
        refine ⟨b, hl _ _ q, fun hb a ha => ?_, fun hb => ?_⟩
        · subst hb
          simp only [runH] at h
          refine ⟨φ1, ex, s1, env, S1, N.ext e1, fun v2 φ2 H2 e2 S2 r2 => ?_⟩
          exact h φ2 H2 (e1.trans e2) S2 _ (((N.ext e1).ext e2).set r2)
        · subst hb
          exact h φ1 H1 od e1 S1 fs
  cases i with
  | none => exact main
  | some i => exact main
theorem snd_s (S : SndS n) (L : Lk T X R (con E) k) (hp : PassesOwn (model X.prog X.w) X.A X.env X.xe) (fo : FrOk X E) {st : Stmt} {c : Sx} (h : trS T (n + 1) st = some c) : PS X st (tS R E c) := by
  have B := snd n
  cases st
  case Pass p => simp only [trS] at h; cases h; exact psImp ps_pass fun D σ H q => i_next q
  case Break p => simp only [trS] at h; cases h; exact psImp ps_break fun D σ H q => i_brk q
  case Continue p => simp only [trS] at h; cases h; exact psImp ps_continue fun D σ H q => i_cont q
  case Return o p =>
    cases o with
    | none =>
      simp only [trS] at h
      cases h
      refine psImp ps_retN fun D σ H ⟨φ, ex, s, env, S, N, h⟩ => ?_
      simp only [runS, runE, Res.bind_ok] at h
      exact h φ H (Ext.refl _ _) S .non (.d .non)
    | some e =>
      simp only [trS, Option.bind_eq_bind, Option.bind_eq_some_iff, Option.some.injEq] at h
      obtain ⟨x, hx, rfl⟩ := h
      exact psImp (ps_ret (B.e L _ _ hx)) fun D σ H q => i_ret q
  case Expr e p =>
    have main : (∃ x, trE T n e = some x ∧ c = .expr x) → isComp e = false → PS X (.Expr e p) (tS R E c) := by
      rintro ⟨x, hx, rfl⟩ hc
      exact psImp (ps_expr (B.e L _ _ hx) (sw_plain hc _ _ _)) fun D σ H q => i_expr q
    have key : (c = .pass ∧ ∃ x j q, e = .Constant (.str x) j q) ∨ ((∃ x, trE T n e = some x ∧ c = .expr x) ∧ isComp e = false) := by
      have two : (if isComp e = true then none else (trE T n e).bind fun x => some (Sx.expr x)) = some c → ((∃ x, trE T n e = some x ∧ c = .expr x) ∧ isComp e = false) := by
        intro h
        split at h
        · cases h
        · rename_i hc
          obtain ⟨x, hx, e2⟩ := bind_of h
          cases e2
          exact ⟨⟨x, hx, rfl⟩, by simpa using hc⟩
      cases e
      case Constant kk j q =>
        cases kk
        case str x =>
          simp only [trS] at h
          cases h
          exact .inl ⟨rfl, _, _, _, rfl⟩
        all_goals exact .inr (two (by simp only [trS] at h; exact h))
      all_goals exact .inr (two (by simp only [trS] at h; exact h))
    rcases key with ⟨rfl, x, j, q, rfl⟩ | ⟨h1, h2⟩
    · exact psImp ps_doc fun D σ H q => i_next q
    · exact main h1 h2
  case If t a b p =>
    simp only [trS, Option.bind_eq_bind, Option.bind_eq_some_iff, Option.some.injEq] at h
    obtain ⟨x, hx, y, hy, z, hz, rfl⟩ := h
    exact psImp (ps_if (B.t L _ _ hx) (S.ss L hp fo _ _ hy) (S.ss L hp fo _ _ hz)) fun D σ H q => i_if q
  case Raise o fr p =>
    have key : ∃ x px m j pc pk c', o = some (.Call (.Name x px) [.Constant (.str m) j pc] [] pk) ∧ fr = none ∧ gloB T.sc x = true ∧ T.G x = some (.pex c') ∧ c = .raise c' [.const (.str m)] := by
      unfold trS at h
      split at h <;> first | contradiction | skip
      rename_i heq
      cases heq
      split at h
      · rename_i hg
        simp only [Bool.and_eq_true] at hg
        split at h
        · rename_i c' hG
          cases h
          exact ⟨_, _, _, _, _, _, _, rfl, rfl, hg.2, hG, rfl⟩
        · cases h
      · cases h
    obtain ⟨x, px, m, j, pc, pk, c', rfl, rfl, hg, hG, rfl⟩ := key
    obtain ⟨m1, px', dbg⟩ := L.pexF _ _ hG
    rw [← L.C.hK] at px'
    exact psImp (ps_raise L.C.calm fo.tk (pmk_own PySem.F.excBase_ValueError px'.exc m1 px'.keep (raises_own px'.sub px'.ty) (L.gl hg) dbg)) fun D σ H q => i_raise L.xiF q
  case Try body hs os fs p =>
    have key : ∃ b x np y py kk kj kp pa pos' l i e j d, body = [b] ∧ hs = [.ExceptHandler (some (.Name x np)) none [.Assign [.Name y py] (.Constant kk kj kp) pa] pos'] ∧ os = [] ∧ fs = [] ∧ xsOf T x = some l ∧ oneOf T n b = some (i, e) ∧ tgtOf T y = some j ∧ constOf kk = some d ∧ c = .tr i e l (.flag j d) := by
      unfold trS at h
      split at h <;> first | contradiction | skip
      rename_i heq
      cases heq
      simp only [Option.bind_eq_bind, Option.bind_eq_some_iff, Option.some.injEq] at h
      obtain ⟨l, hl, ⟨i, e⟩, hi, hd, hh, rfl⟩ := h
      unfold hdOf at hh
      split at hh <;> first | contradiction | skip
      simp only [Option.bind_eq_bind, Option.bind_eq_some_iff, Option.some.injEq] at hh
      obtain ⟨j, hj, d, hd, rfl⟩ := hh
      exact ⟨_, _, _, _, _, _, _, _, _, _, l, i, e, j, d, rfl, rfl, rfl, rfl, hl, hi, hj, hd, rfl⟩
    obtain ⟨b, x, np, y, py, kk, kj, kp, pa, pos', l, i, e, j, d, rfl, rfl, rfl, rfl, hl, hi, hj, hd, rfl⟩ := key
    unfold xsOf at hl
    split at hl
    · rename_i hg
      simp only [Bool.and_eq_true] at hg
      obtain ⟨v, hv, hx⟩ := L.xsF _ _ hl
      have q := ps_try_only (b₀ := .Assign [.Name y py] (.Constant kk kj kp) pa) (suite := []) (body := [b]) (pos := p) (pos' := pos') (np := np) (ts := fun _ _ _ => tAsg (tD R (con E) (.const d)) (gName j)) (tb := tbOf R i e) fo.hs fo.hf ⟨L.gl hg.2, hv⟩ fo.tk
        (fun W pn xe tk _ => pss_one (ps_one L tk hi)) (fun a oe cls dd pn hz hf => by
          obtain ⟨h1, h2⟩ := tgt_of hj
          obtain ⟨h3, h4⟩ := L.tsc _ h2
          rw [← L.N] at h1
          exact pss_one (ps_set (X := X.suite a ((a, oe) :: pn)) L.C.nd h1 h3 (p_const hd) (sw_plain rfl _ _ _) h4))
      rw [L.C.hK] at q
      exact psImp q fun D σ H q => i_try hx q
    · cases hl
  case While t a o p =>
    cases o with
    | cons o os => simp [trS] at h
    | nil =>
      simp only [trS, Option.bind_eq_bind, Option.bind_eq_some_iff, Option.some.injEq] at h
      obtain ⟨x, hx, y, hy, rfl⟩ := h
      exact psImp (ps_while hp (B.t L _ _ hx) (S.ss L hp fo _ _ hy)) fun D σ H q => i_while q
  case For tg it body o p =>
    cases o with
    | cons o os => simp [trS] at h
    | nil =>
      simp only [trS, Option.bind_eq_bind, Option.bind_eq_some_iff, Option.some.injEq] at h
      obtain ⟨⟨w, its⟩, hi, ⟨is, one⟩, ht, b, hb, rfl⟩ := h
      obtain ⟨p1, p2⟩ := B.i L _ _ _ _ hi
      have q := pg_tgt L.N L.C.calm L.C.nd L.tsc ht
      rw [L.C.hK] at q
      exact psImp (ps_for hp L.C.calm p1 q (S.ss L hp fo _ _ hb) (folded_ne p2 X.env)) fun D σ H q => i_for q
  case Assign ts e p =>
    match ts, h with
    | [t], h =>
      cases t
      case Name x px =>
        simp only [trS, trT, Option.bind_eq_bind, Option.bind_eq_some_iff, Option.some.injEq] at h
        obtain ⟨ct, ht, y, hy, rfl⟩ := h
        obtain ⟨i, hi, rfl⟩ := map_of ht
        exact s_name L hi hy
      case Tuple es kk pt =>
        have hne : ∀ es k p, e ≠ .Tuple es k p := by
          rintro es k p rfl
          simp [trS] at h
        have h2 : ∃ cts y, trTs T n es = some cts ∧ trE T n e = some y ∧ c = .unpack cts y := by
          cases e <;> first
            | exact absurd rfl (hne _ _ _)
            | (simp only [trS, Option.bind_eq_bind, Option.bind_eq_some_iff, Option.some.injEq] at h
               obtain ⟨x, hx, y, hy, rfl⟩ := h
               exact ⟨x, y, hx, hy, rfl⟩)
        obtain ⟨cts, y, hx, hy, rfl⟩ := h2
        obtain ⟨gs, l, f⟩ := g_us L hx
        have q := pg_tup (pos := pt) (k := kk) L.C.calm gs l f
        rw [L.C.hK] at q
        refine psImp (ps_asg (B.e L _ _ hy) q (sw_sole (fun _ _ z => by cases z) _ _) ?_ rfl) fun D σ H q => i_unpack q
        cases e <;> first | rfl | exact absurd rfl (hne _ _ _)
      case Subscript o i pt =>
        cases i
        case Slice => simp [trS, trT] at h
        all_goals
          simp only [trS, trT, Option.bind_eq_bind, Option.bind_eq_some_iff, Option.some.injEq] at h
          obtain ⟨ct, ⟨x, hx, y, hy, rfl⟩, z, hz, rfl⟩ := h
          refine psImp (ps_asg (B.e L _ _ hz) (g_sub L hx hy (fun _ _ _ _ z => by cases z)) (sw_sole (fun _ _ z => by cases z) _ _) ?_ rfl) fun D σ H q => i_asg q
          cases e <;> rfl
      case Attribute o f pt =>
        cases o
        case Call => simp [trS, trT] at h
        all_goals
          simp only [trS, trT, Option.bind_eq_bind, Option.bind_eq_some_iff, Option.some.injEq] at h
          obtain ⟨ct, ⟨x, hx, rfl⟩, z, hz, rfl⟩ := h
          refine psImp (ps_fld (B.e L _ _ hx) (B.e L _ _ hz) (sw_other (fun _ _ z => by cases z) _ _)) fun D σ H q => ?_
          rw [L.C.hK]
          exact i_fld L.G q
      all_goals simp [trS, trT] at h
    | [], h => simp [trS] at h
    | a :: b :: r, h => simp [trS] at h
  all_goals simp [trS] at h
theorem sndS : ∀ n, SndS n
  | 0 => ⟨fun _ _ _ _ _ h => by simp [trS] at h, fun _ _ _ _ _ h => by simp [trSs] at h⟩
  | n + 1 => ⟨fun L hp fo _ _ h => snd_s (sndS n) L hp fo h, fun L hp fo _ _ h => snd_ss (sndS n) L hp fo h⟩
end
end Cc

set_option linter.all false
set_option maxRecDepth 100000
set_option maxHeartbeats 1000000
/-! Cc: a table of defs keeps its promises. -/
namespace Cc
open PySem PySem.Spec PyProof.Rows L2

/-! ### other tables over the same ground -/
structure Same (R R' : Gt) : Prop where
  K : R.K = R'.K
  fa : R.fa = R'.fa
  ca : R.ca = R'.ca
  xa : R.xa = R'.xa
theorem Same.symm {R R' : Gt} (h : Same R R') : Same R' R := ⟨h.K.symm, h.fa.symm, h.ca.symm, h.xa.symm⟩
section
variable {R R' : Gt} {φ : Ph} {ex : List Addr} {H : Hp}
mutual
theorem RpW.tr (h : Same R R') : ∀ (w : W) (v : V), RpW R φ ex H v w → RpW R' φ ex H v w
  | .d x, _, r => by cases r with | d r => exact .d (h.K ▸ r)
  | .ref n, _, r => by cases r with | ref l r => exact .ref l r
  | .tup ws, _, r => by cases r with | tup a b c => exact .tup a b (RpWL.tr h ws _ c)
  | .fn i, _, r => by
    cases r
    rw [h.fa]
    exact .fn i
theorem RpWL.tr (h : Same R R') : ∀ (ws : List W) (vs : List V), RpWL R φ ex H vs ws → RpWL R' φ ex H vs ws
  | [], _, r => by cases r; exact .nil
  | w :: ws, _, r => by cases r with | cons a b => exact .cons (RpW.tr h w _ a) (RpWL.tr h ws _ b)
end
theorem FsR.tr (h : Same R R') : ∀ {vs : List (Str × V)} {ws : List (Str × W)}, FsR R φ ex H vs ws → FsR R' φ ex H vs ws
  | _, _, .nil => .nil
  | _, _, .cons r t => .cons (RpW.tr h _ _ r) (FsR.tr h t)
theorem Sim.tr (h : Same R R') {s : Store} (S : Sim R φ ex H s) : Sim R' φ ex H s :=
  ⟨S.len, fun n c e => by
    rcases S.cell n c e with q | ⟨a, q, r⟩
    · exact .inl q
    · refine .inr ⟨a, q, ?_⟩
      cases c with
      | lst ds => obtain ⟨vs, e, r⟩ := r; exact ⟨vs, e, h.K ▸ r⟩
      | wl ws => obtain ⟨vs, e, r⟩ := r; exact ⟨vs, e, RpWL.tr h _ _ r⟩
      | ins c fs => obtain ⟨dx, fv, e, r⟩ := r; exact ⟨dx, fv, h.ca ▸ e, r.tr h⟩
      | dead => exact r.elim, S.one, S.off, S.exT⟩
theorem RetW.tr (h : Same R R') {Q : VK} {w : W} {s : Store} (r : RetW R ex Q φ H w s) : RetW R' ex Q φ H w s := fun v φ' H' e S q => r v φ' H' e (S.tr h.symm) (RpW.tr h.symm _ _ q)
theorem ExcOk.tr (h : Same R R') {E : XK} {x : Exn} {s : Store} (r : ExcOk R ex E φ H x s) : ExcOk R' ex E φ H x s := fun φ' H' od e S q => by
  rw [← h.xa]; exact r φ' H' od e (S.tr h.symm) (h.K ▸ q)
theorem spF.tr (h : Same R R') {i np : Nat} (hi : R.Φ i = R'.Φ i) {vs : List V} {Q : VK} {E : XK} (q : spF R i np vs H Q E) : spF R' i np vs H Q E := by
  obtain ⟨l, φ, ex, s, ws, S, r, run⟩ := q
  exact ⟨l, φ, ex, s, ws, S.tr h, RpWL.tr h _ _ r, by rw [← hi]; exact run.imp (fun _ _ q => q.tr h) fun _ _ q => q.tr h⟩
theorem FOk.tr {P : Program} {w : World} {mg : Str → Option Value} {base : Heap} {i np : Nat} {dfl : List PyData} (h : Same R R') (hi : R.Φ i = R'.Φ i) (F : FOk P w R.K mg base R i np dfl) : FOk P w R'.K mg base R' i np dfl := by
  obtain ⟨fd, ps, h1, h2, h3⟩ := F.ex
  refine ⟨⟨fd, ps, h1, ?_, fun n a b => ?_⟩, by rw [← h.K, ← h.fa]; exact F.kp⟩
  · rw [← h.K, ← h.fa]
    exact h2.imp fun vs H Q E q => q.tr h.symm hi.symm
  · rw [← h.K]; exact h3 n a b
theorem FOk.nodfl {P : Program} {w : World} {K : PySem.W.Frag} {mg : Str → Option Value} {base : Heap} {i np : Nat} {dfl : List PyData} (F : FOk P w K mg base R i np dfl) : FOk P w K mg base R i np [] := by
  obtain ⟨fd, ps, h1, h2, h3⟩ := F.ex
  refine ⟨⟨fd, ps, h1, h2, fun n a b => ?_⟩, F.kp⟩
  have en : n = np := by simp at b; omega
  subst en
  obtain ⟨ds, dvs, q1, q2, q3⟩ := h3 n (Nat.le_refl _) (by simp)
  exact ⟨ds, dvs, q1, q2, by simpa using q3⟩
end
/-! ### a def of the text -/
structure DefS where
  N : List Str
  ps : List Str
  name : Str
  qual : Str
  params : Arguments
  body : List Stmt
  scope : Scope
  dfl : List PyData
  ann : Pos → Nat
  wf : Nat
def cutG (CI : Nat → Option Nat) (i : Nat) : GI → Option GI
  | .fn j a b => if j < i then some (.fn j a b) else none
  | .cls c a b => match CI c with
    | some j => if j < i then some (.cls c a b) else none
    | none => none
  | .bas c m j a b => if j < i then some (.bas c m j a b) else none
  | g => some g
def teOf (CI : Nat → Option Nat) (G : Str → Option GI) (XS : Str → Option (List (Nat × Bool))) (i : Nat) (D : DefS) : TEnv := ⟨D.N, D.scope, D.scope, fun x => (G x).bind (cutG CI i), D.ann, D.wf, XS⟩
/-- the tables up to a number -/
def Rn (K : PySem.W.Frag) (M : CTab) (CI : Nat → Option Nat) (FO : Nat → Str → Bool) (XI : Nat → List PyData → Option (List (Str × PyData))) (ds : Nat → Def) (fa ca xa : Nat → Addr) (n : Nat) : Gt := ⟨K, table M CI FO XI ds n, M, CI, FO, XI, fa, ca, xa⟩
theorem table_out {M : CTab} {CI : Nat → Option Nat} {FO : Nat → Str → Bool} {XI : Nat → List PyData → Option (List (Str × PyData))} {ds : Nat → Def} : ∀ {n i : Nat}, n ≤ i → ∀ ws s, table M CI FO XI ds n i ws s = .stuck
  | 0, _, _, _, _ => rfl
  | n + 1, i, h, ws, s => by
    have e : table M CI FO XI ds (n + 1) i = if i = n then runF (table M CI FO XI ds n) M CI FO XI (ds n) else table M CI FO XI ds n i := rfl
    rw [e, if_neg (by omega)]
    exact table_out (by omega) ws s
theorem table_up {M : CTab} {CI : Nat → Option Nat} {FO : Nat → Str → Bool} {XI : Nat → List PyData → Option (List (Str × PyData))} {ds : Nat → Def} {n i : Nat} (h : i < n) : table M CI FO XI ds n i = table M CI FO XI ds (n + 1) i := by
  show _ = (if i = n then _ else _)
  rw [if_neg (by omega)]
theorem runF_len {Φ : FT} {M : CTab} {CI : Nat → Option Nat} {FO : Nat → Str → Bool} {XI : Nat → List PyData → Option (List (Str × PyData))} {f : Def} {ws : List W} {s : Store} (h : ws.length ≠ f.ps) : runF Φ M CI FO XI f ws s = .stuck := by
  unfold runF
  rw [if_neg h]
theorem startEnv {R : Gt} {φ : Ph} {ex : List Addr} {H : Hp} {N : List Str} : ∀ {vs : List V} {ws : List W} {k : Nat}, RpWL R φ ex H vs ws → EnvR R φ ex H (ws.map some ++ List.replicate k none) (vs.map some ++ List.replicate k none) := by
  intro vs ws k r
  refine ⟨by simp [r.length], fun i w h => ?_⟩
  rcases Nat.lt_or_ge i ws.length with l | l
  · rw [List.getElem?_append_left (by simpa using l), List.getElem?_map] at h
    obtain ⟨u, hu, e⟩ := map_of h
    cases e
    obtain ⟨v, hv, q⟩ := r.get hu
    refine ⟨v, ?_, q⟩
    rw [List.getElem?_append_left (by simpa [r.length] using l), List.getElem?_map, hv]
    rfl
  · rw [List.getElem?_append_right (by simpa using l), List.getElem?_replicate] at h
    split at h <;> cases h
section
variable {P : Program} {w : World} {K : PySem.W.Frag} {mg : Str → Option Value} {base : Heap} {M : CTab} {CI : Nat → Option Nat} {FO : Nat → Str → Bool} {XI : Nat → List PyData → Option (List (Str × PyData))} {ds : Nat → Def} {fa ca xa : Nat → Addr} {D : Nat → DefS} {G : Nat → Str → Option GI} {XS : Str → Option (List (Nat × Bool))} {n : Nat}
/-- what a program's text must be -/
structure Text (P : Program) (w : World) (K : PySem.W.Frag) (mg : Str → Option Value) (base : Heap) (M : CTab) (CI : Nat → Option Nat) (FO : Nat → Str → Bool) (XI : Nat → List PyData → Option (List (Str × PyData))) (ds : Nat → Def) (fa ca xa : Nat → Addr) (D : Nat → DefS) (G : Nat → Str → Option GI) (XS : Str → Option (List (Nat × Bool))) (n : Nat) : Prop where
  gok : GOk (Rn K M CI FO XI ds fa ca xa 0)
  fs : ∀ i, i < n → FnScope (D i).N (D i).ps (D i).scope
  ndb : ∀ i, i < n → ∀ x ∈ (D i).N, (x == ("__debug__" : Str)) = false ∧ (x == ("__classdict__" : Str)) = false
  tr : ∀ i, i < n → ∃ m, trSs (teOf CI (G i) XS i (D i)) m (D i).body = some (ds i).body
  shp : ∀ i, i < n → (ds i).ps = (D i).ps.length ∧ (ds i).ns = (D i).N.length
  fun_ : ∀ i, i < n → ∃ fd dvs kws, FunD K (D i).name (D i).qual (D i).params (D i).body (D i).scope dvs kws (fa i) fd ∧
    ∀ m, m ≤ (D i).ps.length → (D i).ps.length - m ≤ (D i).dfl.length → ∃ us dvs, Vals dvs us ∧ Binds K fd (D i).ps us ∧ ∀ φ ex H, RpL K φ ex H dvs ((D i).dfl.drop ((D i).dfl.length - ((D i).ps.length - m)))
  fnF : ∀ k x i np dfl, G k x = some (.fn i np dfl) → i < n → mg x = some (.ref (fa i)) ∧ np = (D i).ps.length ∧ dfl = (D i).dfl ∧ (x == ("__debug__" : Str)) = false
  clsF : ∀ k x c np dfl, G k x = some (.cls c np dfl) → mg x = some (.ref (ca c)) ∧ (∀ i, CI c = some i → i < n → np + 1 = (D i).ps.length ∧ dfl = (D i).dfl) ∧ (x == ("__debug__" : Str)) = false
  conF : ∀ k x d, G k x = some (.con d) → (∃ u, mg x = some u ∧ ConK K u d) ∧ (x == ("__debug__" : Str)) = false
  bltF : ∀ k x, G k x = some .blt → mg x = none
  pexF : ∀ k x c, G k x = some (.pex c) → mg x = some (.ref (xa c)) ∧ PexK K (xa c) ∧ (x == ("__debug__" : Str)) = false
  xiF : ∀ c m fs, XI c [.str m] = some fs → fs = []
  xsF : ∀ x l, XS x = some l → ∃ v, ((x == ("__debug__" : Str)) = false ∧ (mg x = some v ∨ (mg x = none ∧ bootBuiltins x = some v ∧ x ≠ "__name__"))) ∧ ∀ c b, l.lookup c = some b → PySem.W.exmOne K (.ref (xa c)) v = some b
  basF : ∀ k x c m i np dfl, G k x = some (.bas c m i np dfl) → i < n → Base K (ca c) m (fa i) ∧ np = (D i).ps.length ∧ dfl = (D i).dfl
theorem same_n {a b : Nat} : Same (Rn K M CI FO XI ds fa ca xa a) (Rn K M CI FO XI ds fa ca xa b) := ⟨rfl, rfl, rfl, rfl⟩
theorem Text.gokN (X : Text P w K mg base M CI FO XI ds fa ca xa D G XS n) (m : Nat) : GOk (Rn K M CI FO XI ds fa ca xa m) := ⟨X.gok.fo, X.gok.me, X.gok.mkC⟩
/-- the tables' place in a def -/
theorem Text.lk (X : Text P w K mg base M CI FO XI ds fa ca xa D G XS n) {i : Nat} (hi : i < n) (ih : ∀ j, j < i → FOk P w K mg base (Rn K M CI FO XI ds fa ca xa i) j (D j).ps.length (D j).dfl) {cdv : Value} {A : Around} {outer : List PySem.Env} {s : Shared} {H : Hp} {E : XK}
    (hr : Room (2 * i + 1) (A.deeper (envOfC (D i).qual (D i).scope s.heap.objs.size (fa i) cdv))) :
    Lk (teOf CI (G i) XS i (D i)) (cxOf (L2.CX P w) P w K mg base (D i).N (D i).qual (D i).scope (fa i) cdv A outer s H E) (Rn K M CI FO XI ds fa ca xa i) (con E) (2 * i + 1) where
  C := ⟨rfl, rfl, (X.fs i hi).nd, hr, fun σ => passAt (takes_of (E := E) rfl rfl rfl rfl) σ⟩
  G := X.gokN i
  N := rfl
  sc := rfl
  tsc := fun x h => ⟨h, .inl rfl⟩
  ndb := X.ndb i hi
  fnF := fun x j ps dfl h => by
    obtain ⟨g, hg, e⟩ := bind_of (show (G i x).bind (cutG CI i) = _ from h)
    cases g <;> simp only [cutG] at e <;> try (first | (cases e; done) | (split at e <;> (try split at e) <;> cases e; done))
    split at e
    · rename_i hj
      cases e
      obtain ⟨h1, rfl, rfl, h4⟩ := X.fnF _ _ _ _ _ hg (Nat.lt_trans hj hi)
      exact ⟨h1, ih _ hj, by omega, h4⟩
    · cases e
  clsF := fun x c ps dfl h => by
    obtain ⟨g, hg, e⟩ := bind_of (show (G i x).bind (cutG CI i) = _ from h)
    cases g <;> simp only [cutG] at e <;> try (first | (cases e; done) | (split at e <;> cases e; done))
    split at e
    · rename_i j hc
      split at e
      · rename_i hj
        cases e
        obtain ⟨h1, h2, h3⟩ := X.clsF _ _ _ _ _ hg
        obtain ⟨h4, h5⟩ := h2 j hc (Nat.lt_trans hj hi)
        refine ⟨h1, ⟨j, hc, ?_, by omega⟩, h3⟩
        rw [h4, h5]
        exact ih j hj
      · cases e
    · cases e
  conF := fun x d h => by
    obtain ⟨g, hg, e⟩ := bind_of (show (G i x).bind (cutG CI i) = _ from h)
    cases g <;> simp only [cutG] at e <;> try (first | (cases e; done) | (split at e <;> (try split at e) <;> cases e; done))
    cases e
    exact X.conF _ _ _ hg
  bltF := fun x h => by
    obtain ⟨g, hg, e⟩ := bind_of (show (G i x).bind (cutG CI i) = _ from h)
    cases g <;> simp only [cutG] at e <;> try (first | (cases e; done) | (split at e <;> (try split at e) <;> cases e; done))
    exact X.bltF _ _ hg
  basF := fun x c m j ps dfl h => by
    obtain ⟨g, hg, e⟩ := bind_of (show (G i x).bind (cutG CI i) = _ from h)
    cases g <;> simp only [cutG] at e <;> try (first | (cases e; done) | (split at e <;> (try split at e) <;> cases e; done))
    split at e
    · rename_i hj
      cases e
      obtain ⟨h1, rfl, rfl⟩ := X.basF _ _ _ _ _ _ _ hg (Nat.lt_trans hj hi)
      exact ⟨h1, ih _ hj, by omega⟩
    · cases e
  pexF := fun x c h => by
    obtain ⟨g, hg, e⟩ := bind_of (show (G i x).bind (cutG CI i) = _ from h)
    cases g <;> simp only [cutG] at e <;> try (first | (cases e; done) | (split at e <;> (try split at e) <;> cases e; done))
    cases e
    exact X.pexF _ _ _ hg
  xiF := X.xiF
  xsF := X.xsF
  meF := fun c m j h => by
    by_cases hj : j < i
    · refine .inr ⟨_, (ih j hj).nodfl, fun ws s hl => ?_, by omega⟩
      show table M CI FO XI ds i j ws s = .stuck
      rw [table_at hj]
      exact runF_len (by rw [(X.shp j (Nat.lt_trans hj hi)).1]; exact hl)
    · exact .inl (table_out (by omega))
theorem Text.fn (X : Text P w K mg base M CI FO XI ds fa ca xa D G XS n) {j : Nat} (hin : j < n) (ih : ∀ l, l < j → FOk P w K mg base (Rn K M CI FO XI ds fa ca xa j) l (D l).ps.length (D l).dfl) {fd : FuncData} {dvs : List V} {kws : List (Str × V)}
    (F : FunD K (D j).name (D j).qual (D j).params (D j).body (D j).scope dvs kws (fa j) fd) : FnOk P w K mg base (L2.CX P w) (2 * j + 2) (fa j) fd (D j).ps (spF (Rn K M CI FO XI ds fa ca xa (j + 1)) j (D j).ps.length) := by
  obtain ⟨m, htr⟩ := X.tr j hin
  obtain ⟨s1, s2⟩ := X.shp j hin
  refine FunD.ok F (X.fs j hin) (fun vs H Q E q => q.1) (fun cdv A outer s H vs Q E hr hsp => ?_)
  refine ⟨_, (sndS m).ss (X.lk hin ih hr) (passes_of rfl) ⟨takes_of rfl rfl rfl rfl, rfl, rfl⟩ _ _ htr, ?_⟩
  obtain ⟨hl, φ, ex, st, ws, S, r, run⟩ := hsp
  have same := same_n (K := K) (M := M) (CI := CI) (FO := FO) (XI := XI) (ds := ds) (fa := fa) (ca := ca) (xa := xa) (a := j + 1) (b := j)
  have run2 : RunsTo (runF (table M CI FO XI ds j) M CI FO XI (ds j) ws st) (RetW (Rn K M CI FO XI ds fa ca xa (j + 1)) ex Q φ H) (ExcOk (Rn K M CI FO XI ds fa ca xa (j + 1)) ex E φ H) := by
    have : (Rn K M CI FO XI ds fa ca xa (j + 1)).Φ j = runF (table M CI FO XI ds j) M CI FO XI (ds j) := table_at (Nat.lt_succ_self _)
    rw [this] at run
    exact run
  unfold runF at run2
  have hlw : ws.length = (ds j).ps := by rw [s1, ← hl, r.length]
  rw [if_pos hlw] at run2
  have r2 := RpWL.tr same _ _ r
  refine ⟨φ, ex, st, startE (ds j).ns ws, S.tr same, ?_, ?_⟩
  · unfold startE L2.start
    rw [s2, ← r.length]
    exact startEnv (N := (D j).N) r2
  · show RunsTo (runS (table M CI FO XI ds j) M CI FO XI (ds j).body _ st) _ _
    cases q : runS (table M CI FO XI ds j) M CI FO XI (ds j).body (startE (ds j).ns ws) st with
    | stuck => rw [q] at run2; exact run2
    | exc x t => rw [q] at run2; exact ExcOk.tr same run2
    | ok p t =>
      rw [q] at run2
      obtain ⟨f, env'⟩ := p
      intro φ' H' e S'
      cases f with
      | ret w => exact fun v rv => RetW.tr same run2 v φ' H' e S' rv
      | next => exact fun σ' N' => RetW.tr same run2 .non φ' H' e S' (.d .non)
      | brk => exact False.elim run2
      | cont => exact False.elim run2
theorem Text.ok (X : Text P w K mg base M CI FO XI ds fa ca xa D G XS n) : ∀ i, i ≤ n → ∀ j, j < i → FOk P w K mg base (Rn K M CI FO XI ds fa ca xa i) j (D j).ps.length (D j).dfl
  | 0, _, j, h => by omega
  | i + 1, hi, j, h => by
    have ih := Text.ok X i (by omega)
    by_cases hj : j < i
    · exact FOk.tr (R := Rn K M CI FO XI ds fa ca xa i) (R' := Rn K M CI FO XI ds fa ca xa (i + 1)) same_n (table_up hj) (ih j hj)
    · have e : j = i := by omega
      subst e
      have hin : j < n := by omega
      obtain ⟨fd, dvs, kws, F, hb⟩ := X.fun_ j hin
      exact ⟨⟨fd, (D j).ps, rfl, X.fn hin ih F, hb⟩, F.kp⟩
end
end Cc

set_option linter.all false
set_option maxRecDepth 100000
set_option maxHeartbeats 1000000
/-! Cc: the head: what stands behind the text's top, as the tables want it. -/
namespace Cc
open PySem PySem.Spec PyProof.Rows L2

/-- a text by lists -/
structure Cf where
  dl : List DefS
  pl : List (Str × Option Str)
  gl : List (Str × GI)
  cn : List Str
  ml : List ((Nat × Str) × Nat)
  cil : List (Nat × Nat)
  fol : List (Nat × Str)
  xl : List Nat
  xsl : List (Str × List (Nat × Bool))
namespace Cf
variable (C : Cf)
def nod : DefS := ⟨[], [], ⟨#[]⟩, ⟨#[]⟩, ⟨[], [], none, [], [], none, []⟩, [], ⟨.function, [], false, false, []⟩, [], fun _ => 0, 0⟩
def D (i : Nat) : DefS := C.dl.getD i nod
def n : Nat := C.dl.length
def p (i : Nat) : Str × Option Str := C.pl.getD i (⟨#[]⟩, none)
def c (i : Nat) : Str := C.cn.getD i ⟨#[]⟩
def M : CTab := fun c m => C.ml.lookup (c, m)
def CI (c : Nat) : Option Nat := C.cil.lookup c
def FO (c : Nat) (f : Str) : Bool := C.fol.contains (c, f)
/-- what a name means in the i-th def: the first that stands below it -/
def G (i : Nat) (x : Str) : Option GI := (C.gl.find? fun q => decide (q.1 = x) && (cutG C.CI i q.2).isSome).map (·.2)
def xi (c : Nat) (ds : List PyData) : Option (List (Str × PyData)) := if C.xl.contains c then match ds with | [.str _] => some [] | _ => none else none
def xs (x : Str) : Option (List (Nat × Bool)) := C.xsl.lookup x
def tr (i : Nat) : Option Sx := trSs (teOf C.CI (C.G i) C.xs i (C.D i)) 400 (C.D i).body
def ds (i : Nat) : Def := ⟨(C.D i).ps.length, (C.D i).N.length, (C.tr i).getD .pass⟩
def Φ (n : Nat) : FT := table C.M C.CI C.FO C.xi C.ds n
end Cf
def scB (N P : List Str) (sc : Scope) : Bool :=
  (match sc.kind with | .function => true | _ => false) && !sc.isCoroutine && !sc.isGenerator && decide N.Nodup && decide (N.take P.length = P) &&
  (P.all fun x => locB sc x) && (sc.names.all fun y => match y.2 with | .free => false | _ => true)
theorem scB_ok {N P : List Str} {sc : Scope} (h : scB N P sc = true) : FnScope N P sc := by
  unfold scB at h
  simp only [Bool.and_eq_true, decide_eq_true_eq, Bool.not_eq_true', List.all_eq_true] at h
  obtain ⟨⟨⟨⟨⟨⟨h1, h2⟩, h3⟩, h4⟩, h5⟩, h6⟩, h7⟩ := h
  refine ⟨?_, h2, h3, h4, h5, fun x hx => loc_of (h6 x hx), fun y hy e => ?_⟩
  · split at h1
    · assumption
    · cases h1
  · have := h7 y hy
    rw [e] at this
    cases this
def dvB : PyData → Bool
  | .none => true | .bool _ => true | .int _ => true | .str _ => true
  | _ => false
def dvOf : PyData → He.Dv
  | .bool b => .bl b | .int i => .int i | .str x => .str x
  | _ => .non
theorem rp_dv {K : PySem.W.Frag} {φ : Ph} {ex : List Addr} {H : Hp} : ∀ {ds : List PyData}, ds.all dvB = true → RpL K φ ex H (ds.map fun d => (dvOf d).v K) ds
  | [], _ => .nil
  | d :: ds, h => by
    simp only [List.all_cons, Bool.and_eq_true] at h
    refine .cons ?_ (rp_dv h.2)
    cases d <;> first | exact .non | exact .bl _ | exact .int _ | exact .str _ | (have := h.1; cases this)
def strDbg (x : Str) : Bool := x == ("__debug__" : Str)
def strCd (x : Str) : Bool := x == ("__classdict__" : Str)
def Cf.chkD (C : Cf) (i : Nat) : Bool := scB (C.D i).N (C.D i).ps (C.D i).scope && ((C.D i).N.all fun x => !strDbg x && !strCd x) && (C.tr i).isSome && (C.D i).dfl.all dvB
def placeB (p : Str × Option Str) (x : Str) (m : Option Str) : Bool := decide (p.1 = x) && decide (p.2 = m)
theorem placeB_ok {p : Str × Option Str} {x : Str} {m : Option Str} (h : placeB p x m = true) : p = (x, m) := by
  unfold placeB at h
  simp only [Bool.and_eq_true, decide_eq_true_eq] at h
  exact Prod.ext h.1 h.2
def Cf.chkG (C : Cf) (q : Str × GI) : Bool := match q.2 with
  | .fn i np dfl => placeB (C.p i) q.1 none && decide (np = (C.D i).ps.length) && dEqL dfl (C.D i).dfl && !strDbg q.1
  | .cls c np dfl => decide (C.c c = q.1) && (match C.CI c with | some i => decide (np + 1 = (C.D i).ps.length) && dEqL dfl (C.D i).dfl | none => true) && !strDbg q.1
  | .con _ => !strDbg q.1
  | .bas _ _ i np dfl => decide (np = (C.D i).ps.length) && dEqL dfl (C.D i).dfl
  | .pex c => decide (C.c c = q.1) && !strDbg q.1
  | _ => true
def Cf.chk (C : Cf) : Bool := ((List.range C.n).all C.chkD) && C.gl.all C.chkG
theorem strDbg_no {x : Str} (h : (!strDbg x) = true) : (x == ("__debug__" : Str)) = false := by
  unfold strDbg at h; simpa using h
/-! ### what K must tell -/
mutual
def conB (K : PySem.W.Frag) : PyData → Value → Bool
  | .none, .none => true
  | .bool b, .bool c => b == c
  | .int i, .int j _ => decide (i = j)
  | .str x, .str y _ => decide (x = y)
  | .tuple ds, .ref a => match K.lookup a with
    | some ⟨.type c, _, .seq its _, _⟩ => decide (c = "tuple") && decide (its.size ≤ sizeLine) && conL K ds its.toList
    | _ => false
  | _, _ => false
def conL (K : PySem.W.Frag) : List PyData → List Value → Bool
  | [], [] => true
  | d :: ds, u :: us => conB K d u && conL K ds us
  | _, _ => false
end
def ConL (K : PySem.W.Frag) (us : List Value) (ds : List PyData) : Prop := ∀ φ ex H, ∃ vs, Vals vs us ∧ RpL K φ ex H vs ds
mutual
theorem conB_ok {K : PySem.W.Frag} : ∀ (d : PyData) (u : Value), conB K d u = true → ConK K u d
  | .none, u, h => by cases u <;> simp only [conB] at h <;> first | (cases h; done) | exact fun φ ex H => ⟨.non, rfl, .non⟩
  | .bool b, u, h => by
    cases u <;> simp only [conB] at h <;> first | (cases h; done) | skip
    have e := eq_of_beq h
    subst e
    exact fun φ ex H => ⟨.bl b, rfl, .bl b⟩
  | .int i, u, h => by
    cases u <;> simp only [conB] at h <;> first | (cases h; done) | skip
    have e := of_decide_eq_true h
    subst e
    exact fun φ ex H => ⟨.int i, ⟨_, rfl⟩, .int i⟩
  | .str i, u, h => by
    cases u <;> simp only [conB] at h <;> first | (cases h; done) | skip
    have e := of_decide_eq_true h
    subst e
    exact fun φ ex H => ⟨.str i, ⟨_, rfl⟩, .str i⟩
  | .tuple ds, u, h => by
    cases u <;> simp only [conB] at h <;> first | (cases h; done) | skip
    rename_i a
    split at h
    · rename_i cl dd its m sl q
      simp only [Bool.and_eq_true, decide_eq_true_eq] at h
      have r := conL_ok ds _ h.2
      intro φ ex H
      obtain ⟨vs, r1, r2⟩ := r φ ex H
      exact ⟨.ref a, rfl, .tup (.inr ⟨_, its, m, q, congrArg Value.type h.1.1, rfl, h.1.2, r1⟩) r2⟩
    · cases h
  | .list _, u, h => by cases u <;> simp only [conB] at h <;> cases h
  | .dict _, u, h => by cases u <;> simp only [conB] at h <;> cases h
theorem conL_ok {K : PySem.W.Frag} : ∀ (ds : List PyData) (us : List Value), conL K ds us = true → ConL K us ds
  | [], us, h => by
    cases us with
    | nil => exact fun φ ex H => ⟨[], .nil, .nil⟩
    | cons u us => simp [conL] at h
  | d :: ds, us, h => by
    cases us with
    | nil => simp [conL] at h
    | cons u us =>
      simp only [conL, Bool.and_eq_true] at h
      have r1 := conB_ok d u h.1
      have r2 := conL_ok ds us h.2
      intro φ ex H
      obtain ⟨v, a, b⟩ := r1 φ ex H
      obtain ⟨vs, a2, b2⟩ := r2 φ ex H
      exact ⟨v :: vs, .cons a a2, .cons b b2⟩
end
def methB (K : PySem.W.Frag) (C : Addr) (m : Str) (f : Addr) : Bool := He.eqO (PySem.W.findIn K (.ref C) m) (some (some (.ref f))) && (PySem.W.isFn K (.ref f) && PySem.W.keepIn K (.ref f))
theorem methB_ok {K : PySem.W.Frag} {C : Addr} {m : Str} {f : Addr} (h : methB K C m f = true) : Meth K C m f := by
  obtain ⟨c1, c⟩ := He.ba h
  obtain ⟨c2, c3⟩ := He.ba c
  exact ⟨He.eqO_ok c1, c2, c3⟩
def mkB (K : PySem.W.Frag) (C f : Addr) : Bool := PySem.W.makesIn K C && (He.eqO (PySem.W.findIn K (.ref C) "__init__") (some (some (.ref f))) && (PySem.W.isFn K (.ref f) && PySem.W.keepIn K (.ref C)))
theorem mkB_ok {K : PySem.W.Frag} {C f : Addr} (h : mkB K C f = true) : Mk K C f := by
  obtain ⟨c1, c⟩ := He.ba h
  obtain ⟨c2, c⟩ := He.ba c
  obtain ⟨c3, c4⟩ := He.ba c
  exact ⟨c1, He.eqO_ok c2, c3, c4⟩
def fndB (K : PySem.W.Frag) (C : Addr) (m : Str) (f : Addr) : Bool := match PySem.W.findCls K (.ref C) (.type "type") m with
  | some (.val (.ref g)) => g == f
  | _ => false
def baseB (K : PySem.W.Frag) (C : Addr) (m : Str) (f : Addr) : Bool := PySem.W.readsIn K C (.type "type") && (He.eqO (PySem.W.specialIn K (.ref C) "__getattribute__") (some (some (.builtin "type.__getattribute__"))) && fndB K C m f)
theorem baseB_ok {K : PySem.W.Frag} {C : Addr} {m : Str} {f : Addr} (h : baseB K C m f = true) : Base K C m f := by
  obtain ⟨c1, c⟩ := He.ba h
  obtain ⟨c2, c3⟩ := He.ba c
  refine ⟨c1, He.eqO_ok c2, ?_⟩
  unfold fndB at c3
  split at c3
  · rename_i g e
    cases eq_of_beq c3
    exact e
  · cases c3
def Cf.okG (C : Cf) (K : PySem.W.Frag) (q : Str × GI) : Bool := match q.2 with
  | .bas c m i _ _ => baseB K (He.ga K (C.c c)) m (He.fAd K (C.p i))
  | .blt => (He.Fa.free q.1).ok K
  | .con d => match PySem.W.nsIn K mainGlobals q.1 with
    | some (some u) => conB K d u
    | _ => false
  | .pex c => (He.Fa.glo q.1).ok K && (He.Fa.exc q.1).ok K
  | _ => (He.Fa.glo q.1).ok K
def exOB (a : Option Bool) (b : Bool) : Bool := match a with | some c => c == b | none => false
def xsB (K : PySem.W.Frag) (C : Cf) (v : Value) (l : List (Nat × Bool)) : Bool := l.all fun y => exOB (PySem.W.exmOne K (.ref (He.ga K (C.c y.1))) v) y.2
def Cf.okX (C : Cf) (K : PySem.W.Frag) (q : Str × List (Nat × Bool)) : Bool := !strDbg q.1 && match PySem.W.nsIn K mainGlobals q.1 with
  | some (some u) => xsB K C u q.2
  | some none => decide (q.1 ≠ "__name__") && match bootBuiltins q.1 with
    | some u => xsB K C u q.2
    | none => false
  | none => false
def Cf.okK (C : Cf) (K : PySem.W.Frag) : Bool :=
  (C.gl.all (C.okG K)) && (C.fol.all fun q => (He.Fa.cls (C.c q.1)).ok K && (He.Fa.noat (C.c q.1) q.2).ok K) &&
  (C.ml.all fun q => (He.Fa.cls (C.c q.1.1)).ok K && methB K (He.ga K (C.c q.1.1)) q.1.2 (He.fAd K (C.p q.2))) &&
  (C.cil.all fun q => mkB K (He.ga K (C.c q.1)) (He.fAd K (C.p q.2))) && (C.xsl.all (C.okX K))
def Cf.dd (C : Cf) (i : Nat) : He.DefD := ⟨C.p i, (C.D i).name, (C.D i).qual, (C.D i).params, (C.D i).body, (C.D i).scope, (C.D i).dfl.map dvOf, []⟩
def Cf.dds (C : Cf) : List He.DefD := (List.range C.n).map C.dd
/-- how the i-th def binds its arguments -/
def Cf.Bd (C : Cf) (i : Nat) : Prop := ((C.D i).dfl = [] ∧ ∀ (kV doc pm : Value) (an : Option Addr) (cdv ct : Value) (us : List Value), us.length = (C.D i).ps.length →
    bindArgs (PySem.W.fnOf (C.D i).name (C.D i).qual (C.D i).params (C.D i).body (C.D i).scope .none kV doc pm an cdv ct) ⟨us, []⟩ = pure ((C.D i).ps.zip us)) ∨
  ((C.D i).dfl ≠ [] ∧ ∀ m, m ≤ (C.D i).ps.length → (C.D i).ps.length - m ≤ (C.D i).dfl.length → ∀ (T : Addr) (kV doc pm : Value) (an : Option Addr) (cdv ct : Value) (us its : List Value), us.length = m → its.length = (C.D i).dfl.length →
      ∃ k, bindArgs (PySem.W.fnOf (C.D i).name (C.D i).qual (C.D i).params (C.D i).body (C.D i).scope (.ref T) kV doc pm an cdv ct) ⟨us, []⟩ = seqItems? (.ref T) >>= k ∧ k (some its.toArray) = pure ((C.D i).ps.zip (us ++ its.drop ((C.D i).dfl.length - ((C.D i).ps.length - m)))))
theorem mem_lookup {α β : Type} [BEq α] [LawfulBEq α] {l : List (α × β)} {a : α} {b : β} (h : l.lookup a = some b) : (a, b) ∈ l := by
  induction l with
  | nil => simp at h
  | cons q l ih =>
    obtain ⟨x, y⟩ := q
    rw [List.lookup_cons] at h
    cases e : a == x with
    | true =>
      rw [e] at h
      cases h
      cases eq_of_beq e
      exact List.mem_cons_self
    | false => rw [e] at h; exact List.mem_cons_of_mem _ (ih h)
theorem says_def {C : Cf} {K : PySem.W.Frag} (s : He.SaysD [] C.dds K) {i : Nat} (hi : i < C.n) : ∃ fd, FunD K (C.dd i).name (C.dd i).qual (C.dd i).params (C.dd i).body (C.dd i).scope ((C.dd i).dvs K) ((C.dd i).kws K) (He.fAd K (C.dd i).at_) fd := by
  refine He.SaysD.def_ s i ?_
  unfold Cf.dds
  rw [List.getElem?_map, List.getElem?_range hi]
  rfl
section
variable {P : Program} {w : World} {K : PySem.W.Frag} {mg : Str → Option Value} {base : Heap} {C : Cf} {h : Heap}
theorem Cf.binds {i : Nat} (B : C.Bd i) (hd : (C.D i).dfl.all dvB = true) {fd : FuncData} {f : Addr} {kws : List (Str × V)} (F : FunD K (C.D i).name (C.D i).qual (C.D i).params (C.D i).body (C.D i).scope (((C.D i).dfl.map dvOf).map (He.Dv.v K)) kws f fd) :
    ∀ m, m ≤ (C.D i).ps.length → (C.D i).ps.length - m ≤ (C.D i).dfl.length → ∃ us dvs, Vals dvs us ∧ Binds K fd (C.D i).ps us ∧ ∀ φ ex H, RpL K φ ex H dvs ((C.D i).dfl.drop ((C.D i).dfl.length - ((C.D i).ps.length - m))) := by
  intro m h1 h2
  rcases B with ⟨e, hb⟩ | ⟨e, hb⟩
  · rw [e] at F ⊢
    exact ⟨[], [], .nil, FunD.bindsN F hb, fun φ ex H => by simpa using RpL.nil⟩
  · have e2 : ((C.D i).dfl.map dvOf).map (He.Dv.v K) = (C.D i).dfl.map fun d => (dvOf d).v K := by rw [List.map_map]; rfl
    rw [e2] at F
    have hl : ((C.D i).dfl.map fun d => (dvOf d).v K).length = (C.D i).dfl.length := List.length_map _
    obtain ⟨ds, q1, q2⟩ := FunD.binds1 (ps := (C.D i).ps) F m ((C.D i).dfl.length - ((C.D i).ps.length - m)) (fun z => e (List.map_eq_nil_iff.mp z)) (by rw [hl]; omega) fun T kV doc pm an cdv ct us its a b => hb m h1 h2 T kV doc pm an cdv ct us its a (by rw [b, hl])
    exact ⟨ds, _, q1, q2, fun φ ex H => RpL.drop _ (rp_dv hd)⟩
/-- the text, by what the head tells -/
theorem Cf.text (hc : C.chk = true) (hB : ∀ i, i < C.n → C.Bd i) (X : K.In h) (Gn : h.Ns mainGlobals mg) (s : He.SaysD [] C.dds K) (ok : C.okK K = true) :
    Text P w K mg base C.M C.CI C.FO C.xi C.ds (fun i => He.fAd K (C.p i)) (fun c => He.ga K (C.c c)) (fun c => He.ga K (C.c c)) C.D C.G C.xs C.n := by
  unfold Cf.chk at hc
  simp only [Bool.and_eq_true, List.all_eq_true, List.mem_range] at hc
  obtain ⟨c1, c2⟩ := hc
  unfold Cf.okK at ok
  simp only [Bool.and_eq_true, List.all_eq_true] at ok
  obtain ⟨⟨⟨⟨o1, o2⟩, o3⟩, o4⟩, o5⟩ := ok
  have cD : ∀ i, i < C.n → scB (C.D i).N (C.D i).ps (C.D i).scope = true ∧ ((C.D i).N.all fun x => !strDbg x && !strCd x) = true ∧ (C.tr i).isSome = true ∧ (C.D i).dfl.all dvB = true := fun i hi => by
    have := c1 i hi
    unfold Cf.chkD at this
    simp only [Bool.and_eq_true] at this
    exact ⟨this.1.1.1, this.1.1.2, this.1.2, this.2⟩
  have hG : ∀ k x g, C.G k x = some g → C.chkG (x, g) = true ∧ C.okG K (x, g) = true := fun k x g e => by
    have m : (x, g) ∈ C.gl := by
      unfold Cf.G at e
      obtain ⟨q, hq, rfl⟩ := map_of e
      have hx := List.find?_some hq
      simp only [Bool.and_eq_true, decide_eq_true_eq] at hx
      have := List.mem_of_find?_eq_some hq
      rw [← hx.1]
      exact this
    exact ⟨c2 _ m, o1 _ m⟩
  refine ⟨⟨fun c f e => ?_, fun c m i e => ?_, fun c i e => ?_⟩, fun i hi => scB_ok (cD i hi).1, fun i hi x hx => ?_, fun i hi => ?_, fun i hi => ⟨rfl, rfl⟩, fun i hi => ?_, fun k x i np dfl e hi => ?_, fun k x c np dfl e => ?_, fun k x d e => ?_, fun k x e => ?_, fun k x c e => ?_, fun c m fs e => ?_, fun x l e => ?_, fun k x c m i np dfl e hi => ?_⟩
  · have m : (c, f) ∈ C.fol := by simpa [Cf.FO] using (show C.FO c f = true from e)
    have := o2 _ m
    exact ⟨He.cls_ok this.1, He.noat_ok this.2⟩
  · have := o3 _ (mem_lookup (show C.ml.lookup (c, m) = some i from e))
    exact ⟨He.cls_ok this.1, methB_ok this.2⟩
  · exact mkB_ok (o4 _ (mem_lookup (show C.cil.lookup c = some i from e)))
  · have := List.all_eq_true.mp (cD i hi).2.1 x hx
    simp only [Bool.and_eq_true] at this
    exact ⟨strDbg_no this.1, by have := this.2; unfold strCd at this; simpa using this⟩
  · refine ⟨400, ?_⟩
    show C.tr i = some ((C.tr i).getD .pass)
    have := (cD i hi).2.2.1
    cases q : C.tr i with
    | none => rw [q] at this; cases this
    | some b => rfl
  · obtain ⟨fd, F⟩ := says_def s hi
    exact ⟨fd, _, _, F, Cf.binds (hB i hi) (cD i hi).2.2.2 F⟩
  · obtain ⟨g1, g2⟩ := hG _ _ _ e
    simp only [Cf.chkG, Bool.and_eq_true, decide_eq_true_eq] at g1
    refine ⟨?_, g1.1.1.2, dEqL_eq _ _ g1.1.2, strDbg_no g1.2⟩
    rw [placeB_ok g1.1.1.1]
    exact He.glo_ok X Gn g2
  · obtain ⟨g1, g2⟩ := hG _ _ _ e
    simp only [Cf.chkG, Bool.and_eq_true, decide_eq_true_eq] at g1
    refine ⟨?_, fun i hi _ => ?_, strDbg_no g1.2⟩
    · rw [g1.1.1]
      exact He.glo_ok X Gn g2
    · have q := g1.1.2
      rw [hi] at q
      simp only [Bool.and_eq_true, decide_eq_true_eq] at q
      exact ⟨q.1, dEqL_eq _ _ q.2⟩
  · obtain ⟨g1, g2⟩ := hG _ _ _ e
    simp only [Cf.okG] at g2
    split at g2
    · rename_i u hu
      exact ⟨⟨u, PySem.W.mg_of X Gn hu, conB_ok _ _ g2⟩, strDbg_no g1⟩
    · cases g2
  · obtain ⟨g1, g2⟩ := hG _ _ _ e
    exact He.free_ok X Gn g2
  · obtain ⟨g1, g2⟩ := hG _ _ _ e
    simp only [Cf.chkG, Bool.and_eq_true, decide_eq_true_eq] at g1
    simp only [Cf.okG, Bool.and_eq_true] at g2
    rw [g1.1]
    obtain ⟨c1, c⟩ := He.ba g2.2
    obtain ⟨c2, c⟩ := He.ba c
    obtain ⟨c3, c4⟩ := He.ba c
    exact ⟨He.glo_ok X Gn g2.1, ⟨c1, c2, of_decide_eq_true c3, of_decide_eq_true c4⟩, strDbg_no g1.2⟩
  · unfold Cf.xi at e
    split at e
    · exact (Option.some.inj e).symm
    · cases e
  · have q := o5 _ (mem_lookup (show C.xsl.lookup x = some l from e))
    unfold Cf.okX at q
    obtain ⟨q1, q2⟩ := He.ba q
    have ex : ∀ v, xsB K C v l = true → ∀ c b, l.lookup c = some b → PySem.W.exmOne K (.ref (He.ga K (C.c c))) v = some b := fun v h c b hl => by
      have z := List.all_eq_true.mp h _ (mem_lookup hl)
      unfold exOB at z
      split at z
      · rename_i u hu
        rw [hu, eq_of_beq z]
      · cases z
    split at q2
    · rename_i u hu
      exact ⟨u, ⟨strDbg_no q1, .inl (PySem.W.mg_of X Gn hu)⟩, ex u q2⟩
    · rename_i hu
      obtain ⟨q3, q4⟩ := He.ba q2
      split at q4
      · rename_i u hb
        exact ⟨u, ⟨strDbg_no q1, .inr ⟨PySem.W.mg_none_of X Gn hu, hb, of_decide_eq_true q3⟩⟩, ex u q4⟩
      · cases q4
    · cases q2
  · obtain ⟨g1, g2⟩ := hG _ _ _ e
    simp only [Cf.chkG, Bool.and_eq_true, decide_eq_true_eq] at g1
    exact ⟨baseB_ok g2, g1.1, dEqL_eq _ _ g1.2⟩
end
/-! ### the Hook -/
def noLst (g : Addr → Option Obj) (a : Addr) : Option Obj := match g a with
  | some o => match o.cls with
    | .type "list" => none
    | _ => some o
  | none => none
theorem noLst_of {g : Addr → Option Obj} {a : Addr} {o : Obj} (h : noLst g a = some o) : g a = some o ∧ o.cls ≠ .type "list" := by
  unfold noLst at h
  cases q : g a with
  | none => rw [q] at h; cases h
  | some u =>
    rw [q] at h
    dsimp only at h
    split at h
    · cases h
    · rename_i hne
      cases h
      exact ⟨rfl, fun z => hne z⟩
def frC (n : Nat) (g : Addr → Option Obj) : PySem.W.Frag := He.frG (noLst g) (He.asD g n ++ [cStatics])
def NoL (K : PySem.W.Frag) : Prop := ∀ a o, K.lookup a = some o → o.cls ≠ .type "list"
abbrev AlC : Type := He.AlD × Bool
def obsC (n : Nat) (C : Cf) (g : Addr → Option Obj) : AlC := (He.obsD [] C.dds (frC n g), C.okK (frC n g))
def hookC (n : Nat) (C : Cf) : PySem.W.Hook where
  α := AlC
  obs := fun s => obsC n C s.heap.get?
  val := fun _ => (He.valD C.dds, true)
  says := fun _ h => ∃ K : PySem.W.Frag, K.In h ∧ He.SaysD [] C.dds K ∧ C.okK K = true ∧ NoL K
  of := fun _ s e => ⟨frC n s.heap.get?, fun a o q => (noLst_of (He.frG_at _ q)).1, congrArg (fun z : AlC => z.1) e, congrArg (fun z : AlC => z.2) e, fun a o q => (noLst_of (He.frG_at _ q)).2⟩
  keeps := fun _ _ _ ⟨K, hK, c⟩ k => ⟨K, PySem.W.Frag.In.keeps hK k, c⟩
theorem obsC_eq {n : Nat} {C : Cf} {g : Addr → Option Obj} {s : Shared} (h : ∀ a, g a = s.heap.get? a) : obsC n C g = (hookC n C).obs s := by
  have e : g = s.heap.get? := funext h
  rw [e] <;> rfl
def obC (n : Nat) (C : Cf) (s : PySem.W.SharedT) : AlC := obsC n C (HandSHeadRun.getT s)
theorem obC_eq (n : Nat) (C : Cf) (s : PySem.W.SharedT) : obC n C s = (hookC n C).obs s.abs := obsC_eq (HandSHeadRun.getT_eq s)
/-! ### the law -/
def spLaw : Sp := fun vs H Q _ => ∃ (a : Addr) (ns : List Int), vs = [.ref a] ∧ Rd H a (.lst (ns.map V.int)) ∧ ns.length ≤ 63 ∧ ∀ H', Q (.bl true) H'
theorem rd_of {K : PySem.W.Frag} {H : Hp} {a : Addr} {xs : List V} (N : NoL K) (h : SqL K H a xs) : Rd H a (.lst xs) := by
  rcases h with h | ⟨o, its, n, e, c, _⟩
  · exact h
  · exact absurd c (N _ _ e)
theorem rp_ints {K : PySem.W.Frag} {φ : Ph} {ex : List Addr} {H : Hp} : ∀ ns : List Int, RpL K φ ex H (ns.map V.int) (ns.map PyData.int)
  | [] => .nil
  | n :: ns => .cons (.int n) (rp_ints ns)
section
variable {P : Program} {w : World} {K : PySem.W.Frag} {mg : Str → Option Value} {base : Heap} {C : Cf} {h : Heap}
/-- the law's def keeps the law, by the interpreter's answer -/
theorem Cf.law (hc : C.chk = true) (hB : ∀ i, i < C.n → C.Bd i) (X : K.In h) (Gn : h.Ns mainGlobals mg) (s : He.SaysD [] C.dds K) (ok : C.okK K = true) (l : Nat) (x : Str) (hl : l < C.n) (hp : (C.D l).ps = [x]) (hd : (C.D l).dfl = []) (hx : C.G C.n ("law" : Str) = some (.fn l 1 []))
    (pure : ∀ ns : List Int, ns.length ≤ 63 → ∃ t, C.Φ (l + 1) l [.d (.list (ns.map .int))] [] = .ok (.d (.bool true)) t) :
    mg ("law" : Str) = some (.ref (He.fAd K (C.p l))) ∧ ∃ fd : FuncData, (∀ (s : Shared) (v : Value), BindsTo s fd ⟨[v], []⟩ [(x, v)]) ∧ ∀ base : Heap, FnOk P w K mg base (L2.CX P w) (2 * l + 2) (He.fAd K (C.p l)) fd [x] spLaw := by
  refine ⟨((Cf.text (P := P) (w := w) (base := h) hc hB X Gn s ok).fnF _ _ _ _ _ hx hl).1, ?_⟩
  obtain ⟨fd, F⟩ := says_def s hl
  refine ⟨fd, fun st v => ?_, fun base => ?_⟩
  · rcases hB l hl with ⟨_, hb⟩ | ⟨e, _⟩
    · have F' : FunD K (C.D l).name (C.D l).qual (C.D l).params (C.D l).body (C.D l).scope [] ((C.dd l).kws K) (He.fAd K (C.dd l).at_) fd := by
        have e : (C.dd l).dvs K = [] := by
          show ((C.D l).dfl.map dvOf).map (He.Dv.v K) = []
          rw [hd]; rfl
        rw [← e]; exact F
      have := FunD.bindsA (ps := (C.D l).ps) F' hb st [v] (by rw [hp]; rfl)
      rw [hp] at this
      exact this
    · exact absurd hd e
  · have T := Cf.text (P := P) (w := w) (base := base) hc hB X Gn s ok
    have Fn := T.fn hl (fun j hj => T.ok l (Nat.le_of_lt hl) j hj) F
    rw [hp] at Fn
    refine Fn.imp fun vs H Q E q => ?_
    obtain ⟨a, ns, rfl, hr, hn, hQ⟩ := q
    obtain ⟨t, ht⟩ := pure ns hn
    refine ⟨rfl, [], [], [], [.d (.list (ns.map .int))], Sim.empty, .cons (.d (.lst hr (fun z => ?_) (rp_ints ns))) .nil, ?_⟩
    · rcases z with z | z <;> simp at z
    · show RunsTo (C.Φ (l + 1) l _ _) _ _
      rw [ht]
      intro v φ' H' e S' rv
      cases rv with | d rv =>
      cases rv
      exact hQ H'
end
end Cc

set_option linter.all false
set_option maxRecDepth 100000
set_option maxHeartbeats 1000000
/-! Cc: the end of a law. -/
namespace Cc
open PySem PySem.Spec PyProof.Rows L2
theorem walk_c {l : PySem.W.OpenLaw} {C : Cf} {q : Program} {loose : List Str} {XP : (Str → Option Value) → Heap → Prop} {d : DefRec} {hk lx : Nat} {x : Str}
    (hn : l.most = some 63) (hdf : d.params.defaults = []) (hname : d.name = ("law" : Str)) (hr : Room (2 * lx + 2) callerA) (hc : C.chk = true) (hB : ∀ i, i < C.n → C.Bd i) (hl : lx < C.n) (hp : (C.D lx).ps = [x]) (hd : (C.D lx).dfl = []) (hx : C.G C.n ("law" : Str) = some (.fn lx 1 []))
    (pure : ∀ ns : List Int, ns.length ≤ 63 → ∃ t, C.Φ (lx + 1) lx [.d (.list (ns.map .int))] [] = .ok (.d (.bool true)) t) :
    PySem.W.WalkO q loose XP (hookC hk C).says l.row.toRowW d [] (fun f vs => PySem.call f vs) := by
  refine Att.attach_call hn hdf fun w s₀ s₁ mg mb fa o pm cd doc a vs ns G Y ho hd2 hcd hmg hobj hints hlen hg => ?_
  obtain ⟨K, KX, s, ok, NL⟩ := Y
  obtain ⟨e, fd, hb, hF⟩ := Cf.law (P := l.prog) (w := w) hc hB KX G.T.g s ok lx x hl hp hd hx pure
  have ef : fa = He.fAd K (C.p lx) := by
    rw [hname, e] at hmg
    cases hmg
    rfl
  subst ef
  exact law_call KX G.T.g G.T.b G.T.builtins G.T.nolimit hg hobj hints (Nat.le_trans hlen (by decide)) hr (fun base _ _ => hF base) hb
    (fun H hO hS => ⟨a, ns, rfl, rd_of NL hS, hlen, fun _ => rfl⟩) fun H e s' c => by
      obtain ⟨_, _, _, _, _, _, _, _, _, _, _, _, z⟩ := c
      exact z
end Cc

set_option linter.all false
set_option maxRecDepth 100000
set_option maxHeartbeats 1000000
/-! Cc: how the interpreter's runs are told. -/
namespace Cc
open PySem

def Ok {α : Type} (r : Res α) (Q : α → Store → Prop) : Prop := match r with
  | .ok a s => Q a s
  | _ => False
section
variable {α β : Type} {r : Res α} {f : α → Store → Res β} {Q : β → Store → Prop} {s : Store}
@[simp] theorem Ok_ok {a : α} {Q : α → Store → Prop} : Ok (.ok a s) Q ↔ Q a s := Iff.rfl
@[simp] theorem Ok_stuck {Q : α → Store → Prop} : Ok (.stuck : Res α) Q ↔ False := Iff.rfl
@[simp] theorem Ok_exc {x : Exn} {Q : α → Store → Prop} : Ok (.exc x s : Res α) Q ↔ False := Iff.rfl
theorem Ok_bind : Ok (r.bind f) Q ↔ Ok r fun a s => Ok (f a s) Q := by cases r <;> rfl
theorem Ok_of {o : Option α} {Q : α → Store → Prop} : Ok (Res.of o s) Q ↔ ∃ a, o = some a ∧ Q a s := by
  cases o with
  | none => simp
  | some a => simp
@[simp] theorem Ok_ite {c : Prop} [Decidable c] {r r' : Res α} {Q : α → Store → Prop} : Ok (if c then r else r') Q ↔ if c then Ok r Q else Ok r' Q := by split <;> rfl
theorem Ok.mono {Q Q' : α → Store → Prop} (h : Ok r Q) (i : ∀ a s, Q a s → Q' a s) : Ok r Q' := by
  cases r with
  | ok a s => exact i a s h
  | exc x s => exact h.elim
  | stuck => exact h.elim
theorem Ok.ex {Q : α → Store → Prop} (h : Ok r Q) : ∃ a s, r = .ok a s ∧ Q a s := by
  cases r with
  | ok a s => exact ⟨a, s, rfl, h⟩
  | exc x s => exact h.elim
  | stuck => exact h.elim
theorem Ok.of_eq {a : α} {Q : α → Store → Prop} (e : r = .ok a s) (h : Q a s) : Ok r Q := by rw [e]; exact h
end
theorem phi_at {C : Cf} {n i : Nat} (h : i < n) (ws : List W) (s : Store) : C.Φ n i ws s = runF (C.Φ i) C.M C.CI C.FO C.xi (C.ds i) ws s := by
  show table _ _ _ _ _ n i ws s = _
  rw [table_at h]
  rfl
/-- a def's run -/
theorem runF_ok {Φ : FT} {M : CTab} {CI : Nat → Option Nat} {FO : Nat → Str → Bool} {XI : Nat → List PyData → Option (List (Str × PyData))} {f : Def} {ws : List W} {s : Store} {Q : W → Store → Prop} (hl : ws.length = f.ps)
    (h : Ok (runS Φ M CI FO XI f.body (startE f.ns ws) s) fun p s => match p.1 with | .ret w => Q w s | .next => Q (.d .none) s | _ => False) : Ok (runF Φ M CI FO XI f ws s) Q := by
  unfold runF
  rw [if_pos hl]
  cases r : runS Φ M CI FO XI f.body (startE f.ns ws) s with
  | stuck => rw [r] at h; exact h
  | exc x t => rw [r] at h; exact h
  | ok p t =>
    rw [r] at h
    obtain ⟨f, e⟩ := p
    cases f <;> exact h
theorem Ok_forL {chk : Store → Bool} {gc : Bool} {n : Nat} {step : W → Env → Store → Res (Flow × Env)} {Q : Flow × Env → Store → Prop} (ws : List W) (I : Nat → Env → Store → Prop) (hc : ∀ i env s, I i env s → chk s = true)
    (hs : ∀ i w env s, ws[i]? = some w → I i env s → Ok (step w env s) fun p s => match p.1 with
      | .next => ∃ env' s', turnEnd gc n p.2 s = some (env', s') ∧ I (i + 1) env' s'
      | .cont => ∃ env' s', turnEnd gc n p.2 s = some (env', s') ∧ I (i + 1) env' s'
      | .brk => Q (.next, p.2) s
      | .ret w => Q (.ret w, p.2) s)
    (he : ∀ env s, I ws.length env s → Q (.next, env) s) : ∀ (env : Env) (s : Store), I 0 env s → Ok (forL chk gc n step ws env s) Q := by
  have key : ∀ (rest : List W) (i : Nat) (env : Env) (s : Store), ws.drop i = rest → i ≤ ws.length → I i env s → Ok (forL chk gc n step rest env s) Q := by
    intro rest
    induction rest with
    | nil =>
      intro i env s hd hi h
      have : i = ws.length := by
        have : ws.length ≤ i := by simpa using hd
        omega
      subst this
      simp only [forL, hc _ _ _ h, if_true]
      exact he _ _ h
    | cons w rest ih =>
      intro i env s hd hi h
      have hwi : ws[i]? = some w := by
        have : (ws.drop i)[0]? = some w := by rw [hd]; rfl
        simpa using this
      have hrest : ws.drop (i + 1) = rest := by
        have : (ws.drop i).drop 1 = rest := by rw [hd]; rfl
        rwa [List.drop_drop] at this
      have hlt : i < ws.length := (List.getElem?_eq_some_iff.mp hwi).1
      simp only [forL, hc _ _ _ h, if_true]
      have q := hs i w env s hwi h
      cases r : step w env s with
      | stuck => rw [r] at q; exact q.elim
      | exc x t => rw [r] at q; exact q.elim
      | ok p t =>
        rw [r] at q
        obtain ⟨f, env2⟩ := p
        cases f with
        | next =>
          obtain ⟨env', s', e, q⟩ := q
          dsimp only
          rw [e]
          exact ih (i + 1) env' s' hrest hlt q
        | cont =>
          obtain ⟨env', s', e, q⟩ := q
          dsimp only
          rw [e]
          exact ih (i + 1) env' s' hrest hlt q
        | brk => exact q
        | ret w => exact q
  exact fun env s h => key ws 0 env s rfl (Nat.zero_le _) h
/-- a comprehension that computes: over data, no cell made -/
theorem compL_pure {chk : Store → Bool} {n : Nat} {step : W → Store → Res (Option W)} {s : Store} (hc : chk s = true) (f : W → Option W) : ∀ (ws acc : List W), (∀ w ∈ ws, step w s = .ok (f w) s) → acc.length + ws.length ≤ sizeLine →
    compL chk false n step ws acc s = .ok (acc ++ ws.filterMap f) s
  | [], acc, _, _ => by simp [compL, hc]
  | w :: ws, acc, h, hl => by
    simp only [compL, hc, if_true, h w List.mem_cons_self, turnEnd, Bool.false_eq_true, if_false]
    simp only [List.length_cons] at hl
    cases e : f w with
    | none =>
      dsimp only
      rw [compL_pure hc f ws acc (fun w hw => h w (List.mem_cons_of_mem _ hw)) (by omega), List.filterMap_cons, e]
    | some x =>
      dsimp only
      rw [if_pos ⟨by omega, fun z => by cases z⟩, compL_pure hc f ws (acc ++ [x]) (fun w hw => h w (List.mem_cons_of_mem _ hw)) (by simp; omega), List.filterMap_cons, e]
      simp
@[simp] theorem get_nil (i : Nat) : get [] i = none := rfl
@[simp] theorem get_zero (w : Option W) (e : Env) : get (w :: e) 0 = w := by cases w <;> rfl
@[simp] theorem get_succ (w : Option W) (e : Env) (i : Nat) : get (w :: e) (i + 1) = get e i := rfl
end Cc

set_option linter.all false
set_option maxRecDepth 100000
set_option maxHeartbeats 1000000
/-! Cc: rows for simp. -/
namespace Cc
open PySem
section
variable {Φ : FT} {M : CTab} {CI : Nat → Option Nat} {FO : Nat → Str → Bool} {XI : Nat → List PyData → Option (List (Str × PyData))} {env : Env} {s : Store} {a b c e o : Ex} {es : List Ex} {x y : PyData} {i : Nat}
@[simp] theorem runE_const : runE Φ M CI FO (.const x) env s = .ok (.d x) s := by simp only [runE]
@[simp] theorem runE_var : runE Φ M CI FO (.var i) env s = .of (get env i) s := by simp only [runE]
@[simp] theorem runE_bin {p : Bop} : runE Φ M CI FO (.bin p a b) env s = (runE Φ M CI FO a env s).bind fun x s => (runE Φ M CI FO b env s).bind fun y s => .of ((top s x).bind fun dx => (top s y).bind fun dy => (bopD p dx dy).map .d) s := by simp only [runE]; rfl
@[simp] theorem runE_neg : runE Φ M CI FO (.neg a) env s = (runE Φ M CI FO a env s).bind fun x s => .of ((top s x).bind fun dx => (Cc.neg dx).map .d) s := by simp only [runE]; rfl
@[simp] theorem runE_cmp {p : Cop} : runE Φ M CI FO (.cmp p a b) env s = (runE Φ M CI FO a env s).bind fun x s => (runE Φ M CI FO b env s).bind fun y s => .of ((cmpW p s x y).map fun b => .d (.bool b)) s := by simp only [runE]
@[simp] theorem runE_tup : runE Φ M CI FO (.tup es) env s = (runEs Φ M CI FO es env s).bind fun ws s => .of (mkTupW ws) s := by simp only [runE]
@[simp] theorem runE_lst {cell : Bool} : runE Φ M CI FO (.lst cell es) env s = (runEs Φ M CI FO es env s).bind fun ws s => newLst cell ws s := by simp only [runE]
@[simp] theorem runE_idx : runE Φ M CI FO (.idx a b) env s = (runE Φ M CI FO a env s).bind fun x s => (runE Φ M CI FO b env s).bind fun y s => .of (idxW s x y) s := by simp only [runE]
@[simp] theorem runE_slice {lo hi : Option Ex} : runE Φ M CI FO (.slice a lo hi) env s = (runE Φ M CI FO a env s).bind fun x s => (runO Φ M CI FO lo env s).bind fun l s => (runO Φ M CI FO hi env s).bind fun h s => .of ((top s x).bind fun dx => (cutD dx l h).map .d) s := by simp only [runE]; rfl
@[simp] theorem runE_rev : runE Φ M CI FO (.rev a) env s = (runE Φ M CI FO a env s).bind fun x s => .of ((top s x).bind fun d => (revD d).map .d) s := by simp only [runE]
@[simp] theorem runE_call {m : Cm} : runE Φ M CI FO (.call m i es) env s = (runEs Φ M CI FO es env s).bind fun ws s => callM m (Φ i) ws s := by simp only [runE]
@[simp] theorem runE_bf {f : Bf} : runE Φ M CI FO (.bf f es) env s = (runEs Φ M CI FO es env s).bind fun ws s => .of ((bfD s f ws).map .d) s := by simp only [runE]
@[simp] theorem runE_fld {f : Str} : runE Φ M CI FO (.fld o f) env s = (runE Φ M CI FO o env s).bind fun x s => .of (fldW FO s f x) s := by simp only [runE]
@[simp] theorem runE_lm {m : Lm} : runE Φ M CI FO (.lm m o es) env s = (runE Φ M CI FO o env s).bind fun x s => if lmOk s x then (runEs Φ M CI FO es env s).bind fun ws s => .of ((lmD s m x ws).map .d) s else .stuck := by simp only [runE]
@[simp] theorem runE_cell : runE Φ M CI FO (.cell a) env s = (runE Φ M CI FO a env s).bind fun x s => toCell x s := by simp only [runE]
@[simp] theorem runE_frz : runE Φ M CI FO (.frz a) env s = (runE Φ M CI FO a env s).bind fun x s => doFrz x s := by simp only [runE]
@[simp] theorem runE_not : runE Φ M CI FO (.not a) env s = (runE Φ M CI FO a env s).bind fun x s => match x with
      | .d (.bool b) => .ok (.d (.bool !b)) s
      | _ => .stuck := by simp only [runE] <;> rfl
@[simp] theorem runE_and : runE Φ M CI FO (.and a b) env s = (runE Φ M CI FO a env s).bind fun x s => match x with
      | .d (.bool true) => runE Φ M CI FO b env s
      | .d (.bool false) => .ok (.d (.bool false)) s
      | _ => .stuck := by simp only [runE] <;> rfl
@[simp] theorem runE_or : runE Φ M CI FO (.or a b) env s = (runE Φ M CI FO a env s).bind fun x s => match x with
      | .d (.bool true) => .ok (.d (.bool true)) s
      | .d (.bool false) => runE Φ M CI FO b env s
      | _ => .stuck := by simp only [runE] <;> rfl
@[simp] theorem runE_ite {t : Bx} : runE Φ M CI FO (.ite t a b) env s = (runT Φ M CI FO t env s).bind fun k s => if k then runE Φ M CI FO a env s else runE Φ M CI FO b env s := by simp only [runE]
@[simp] theorem runE_mut {m : Mt} : runE Φ M CI FO (.mut m o es) env s = (runE Φ M CI FO o env s).bind fun x s => if isLstC s x then (runEs Φ M CI FO es env s).bind fun ws s => mutW m x ws s else .stuck := by simp only [runE]
@[simp] theorem runEs_nil : runEs Φ M CI FO [] env s = .ok [] s := by simp only [runEs]
@[simp] theorem runEs_cons : runEs Φ M CI FO (e :: es) env s = (runE Φ M CI FO e env s).bind fun w s => (runEs Φ M CI FO es env s).bind fun ws s => .ok (w :: ws) s := by simp only [runEs]
@[simp] theorem runO_none : runO Φ M CI FO none env s = .ok none s := by simp only [runO]
@[simp] theorem runO_some : runO Φ M CI FO (some e) env s = (runE Φ M CI FO e env s).bind fun w s => .of ((partW w).map some) s := by simp only [runO]
@[simp] theorem runC_none : runC Φ M CI FO none env s = .ok true s := by simp only [runC]
@[simp] theorem runC_some {t : Bx} : runC Φ M CI FO (some t) env s = runT Φ M CI FO t env s := by simp only [runC]
@[simp] theorem runT_tru : runT Φ M CI FO (.tru e) env s = (runE Φ M CI FO e env s).bind fun w s => .of (truW s w) s := by simp only [runT, truR]
@[simp] theorem runT_and {t u : Bx} : runT Φ M CI FO (.and t u) env s = (runT Φ M CI FO t env s).bind fun k s => if k then runT Φ M CI FO u env s else .ok false s := by simp only [runT]
@[simp] theorem runT_or {t u : Bx} : runT Φ M CI FO (.or t u) env s = (runT Φ M CI FO t env s).bind fun k s => if k then .ok true s else runT Φ M CI FO u env s := by simp only [runT]
@[simp] theorem runT_not {t : Bx} : runT Φ M CI FO (.not t) env s = (runT Φ M CI FO t env s).bind fun k s => .ok (!k) s := by simp only [runT]
@[simp] theorem assign_name {w : W} : assignT Φ M CI FO (.name i) w env s = .ok (env.set i (some w)) s := rfl
@[simp] theorem assign_sub {w : W} : assignT Φ M CI FO (.sub o a) w env s = (runE Φ M CI FO o env s).bind fun x s => (runE Φ M CI FO a env s).bind fun y s => (setIx x y w s).bind fun _ s => .ok env s := rfl
@[simp] theorem assign_fld {w : W} {f : Str} : assignT Φ M CI FO (.fld o f) w env s = (runE Φ M CI FO o env s).bind fun x s => (setFld FO x f w s).bind fun _ s => .ok env s := rfl
@[simp] theorem runS_pass : runS Φ M CI FO XI .pass env s = .ok (.next, env) s := by simp only [runS]
@[simp] theorem runS_brk : runS Φ M CI FO XI .brk env s = .ok (.brk, env) s := by simp only [runS]
@[simp] theorem runS_cont : runS Φ M CI FO XI .cont env s = .ok (.cont, env) s := by simp only [runS]
def seqK (Φ : FT) (M : CTab) (CI : Nat → Option Nat) (FO : Nat → Str → Bool) (XI : Nat → List PyData → Option (List (Str × PyData))) (b : Sx) : Flow × Env → Store → Res (Flow × Env)
  | (.next, env), s => runS Φ M CI FO XI b env s
  | p, s => .ok p s
@[simp] theorem seqK_next {t : Sx} : seqK Φ M CI FO XI t (.next, env) s = runS Φ M CI FO XI t env s := rfl
@[simp] theorem seqK_brk {t : Sx} : seqK Φ M CI FO XI t (.brk, env) s = .ok (.brk, env) s := rfl
@[simp] theorem seqK_cont {t : Sx} : seqK Φ M CI FO XI t (.cont, env) s = .ok (.cont, env) s := rfl
@[simp] theorem seqK_ret {t : Sx} {w : W} : seqK Φ M CI FO XI t (.ret w, env) s = .ok (.ret w, env) s := rfl
@[simp] theorem runS_seq {t u : Sx} : runS Φ M CI FO XI (.seq t u) env s = (runS Φ M CI FO XI t env s).bind (seqK Φ M CI FO XI u) := by
  simp only [runS]
  congr 1
  funext p s
  obtain ⟨f, e⟩ := p
  cases f <;> rfl
@[simp] theorem runS_assign {t : Tx} : runS Φ M CI FO XI (.assign t e) env s = (runE Φ M CI FO e env s).bind fun w s => (assignT Φ M CI FO t w env s).bind fun env s => .ok (.next, env) s := by simp only [runS]
@[simp] theorem runS_expr : runS Φ M CI FO XI (.expr e) env s = (runE Φ M CI FO e env s).bind fun _ s => .ok (.next, env) s := by simp only [runS]
@[simp] theorem runS_ret : runS Φ M CI FO XI (.ret e) env s = (runE Φ M CI FO e env s).bind fun w s => .ok (.ret w, env) s := by simp only [runS]
@[simp] theorem runS_ite {t : Bx} {u v : Sx} : runS Φ M CI FO XI (.ite t u v) env s = (runT Φ M CI FO t env s).bind fun k s => if k then runS Φ M CI FO XI u env s else runS Φ M CI FO XI v env s := by simp only [runS]
@[simp] theorem runS_for {gc : Bool} {tg : List Nat} {one : Bool} {walk : Wk} {its : List Ex} {body : Sx} : runS Φ M CI FO XI (.for gc tg one walk its body) env s = (runEs Φ M CI FO its env s).bind fun ws s => match walkW walk ws s with
    | some (ws, g) => forL (still g s) gc s.length (fun w env s => match bindN tg one w env with
        | some env => runS Φ M CI FO XI body env s
        | none => .stuck) ws env s
    | none => .stuck := by
  simp only [runS] <;> rfl
end
@[simp] theorem top_d {s : Store} {x : PyData} : top s (.d x) = some x := rfl
@[simp] theorem bop_add {i j : Int} : bopD .add (.int i) (.int j) = some (.int (i + j)) := rfl
@[simp] theorem bop_addL {x y : List PyData} : bopD .add (.list x) (.list y) = if x.length + y.length ≤ sizeLine then some (.list (x ++ y)) else none := rfl
@[simp] theorem bop_addT {x y : List PyData} : bopD .add (.tuple x) (.tuple y) = if x.length + y.length ≤ sizeLine then some (.tuple (x ++ y)) else none := rfl
@[simp] theorem bop_addS {x y : Str} : bopD .add (.str x) (.str y) = if x.length + y.length ≤ sizeLine then some (.str (x ++ y)) else none := rfl
@[simp] theorem bop_sub {i j : Int} : bopD .sub (.int i) (.int j) = some (.int (i - j)) := rfl
@[simp] theorem bop_mul {i j : Int} : bopD .mul (.int i) (.int j) = if mulOk i j then some (.int (i * j)) else none := rfl
@[simp] theorem bop_mulS {x : Str} {j : Int} : bopD .mul (.str x) (.int j) = if j = 1 then some (.str x) else if j = 0 then some (.str ⟨#[]⟩) else none := rfl
@[simp] theorem bop_mulT {xs : List PyData} {j : Int} : bopD .mul (.tuple xs) (.int j) = if j = 1 then some (.tuple xs) else if j = 0 ∧ xs.isEmpty = false then some (.tuple []) else none := rfl
@[simp] theorem bop_fdiv {i j : Int} : bopD .fdiv (.int i) (.int j) = if 0 < j ∧ j.natAbs.log2 < 9000 then some (.int (i / j)) else none := rfl
@[simp] theorem bop_mod {i j : Int} : bopD .mod (.int i) (.int j) = if 0 < j then some (.int (i % j)) else none := rfl
@[simp] theorem bop_pow {i j : Int} : bopD .pow (.int i) (.int j) = if 0 ≤ j ∧ j ≤ 1000000 ∧ i.natAbs < 2 ^ 64 then some (.int (i ^ j.toNat)) else none := rfl
@[simp] theorem neg_int {i : Int} : Cc.neg (.int i) = some (.int (-i)) := rfl
@[simp] theorem cmpW_eq {s : Store} {x y : PyData} : cmpW .eq s (.d x) (.d y) = eqD x y := rfl
@[simp] theorem cmpW_ne {s : Store} {x y : PyData} : cmpW .ne s (.d x) (.d y) = (eqD x y).map (!·) := rfl
@[simp] theorem cmpW_lt {s : Store} {i j : Int} : cmpW .lt s (.d (.int i)) (.d (.int j)) = some (decide (i < j)) := rfl
@[simp] theorem cmpW_le {s : Store} {i j : Int} : cmpW .le s (.d (.int i)) (.d (.int j)) = some (decide (i ≤ j)) := rfl
@[simp] theorem cmpW_gt {s : Store} {i j : Int} : cmpW .gt s (.d (.int i)) (.d (.int j)) = some (decide (j < i)) := rfl
@[simp] theorem cmpW_ge {s : Store} {i j : Int} : cmpW .ge s (.d (.int i)) (.d (.int j)) = some (decide (j ≤ i)) := rfl
@[simp] theorem cmpW_is {s : Store} {x y : W} : cmpW .is_ s x y = isW s x y := rfl
@[simp] theorem cmpW_isnot {s : Store} {x y : W} : cmpW .isnot s x y = (isW s x y).map (!·) := rfl
theorem int_eqv {i j : Int} : PyData.eqv (.int i) (.int j) = decide (i = j) := by
  simp only [PyData.eqv]
  rfl
@[simp] theorem eqD_int {i j : Int} : eqD (.int i) (.int j) = some (decide (i = j)) := by
  simp [eqD, scP, int_eqv]
@[simp] theorem eqD_str {i j : Str} : eqD (.str i) (.str j) = some (decide (i = j)) := by
  have e : PyData.eqv (.str i) (.str j) = decide (i = j) := by
    simp only [PyData.eqv]
    by_cases h : i = j
    · subst h; simp
    · simp [h]
  simp [eqD, scP, e]
@[simp] theorem truW_bool {s : Store} {b : Bool} : truW s (.d (.bool b)) = some b := rfl
@[simp] theorem truW_int {s : Store} {i : Int} : truW s (.d (.int i)) = some (i != 0) := rfl
@[simp] theorem partW_int {i : Int} : partW (.d (.int i)) = some i := rfl
section
variable {s : Store} {k : Nat} {xs : List PyData} {i : Int}
theorem idx_cell (h : s[k]? = some (.lst xs)) : idxW s (.ref k) (.d (.int i)) = (L2.atI xs i).map .d := by
  simp only [idxW]
  rw [h]
theorem top_cell (h : s[k]? = some (.lst xs)) : top s (.ref k) = some (.list xs) := by
  simp only [top]
  rw [h]
theorem set_cell {j : Nat} {x : PyData} (h : s[k]? = some (.lst xs)) (hj : L2.ixN xs.length i = some j) : setIx (.ref k) (.d (.int i)) (.d x) s = .ok () (s.set k (.lst (xs.set j x))) := by
  simp only [setIx]
  rw [h]
  dsimp only
  rw [hj]
theorem set_at {c : Cell} (h : s[k]? = some (.lst xs)) : (s.set k c)[k]? = some c := List.getElem?_set_self (List.getElem?_eq_some_iff.mp h).1
theorem pop_cell {j : Nat} {x : PyData} (h : s[k]? = some (.lst xs)) (hz : xs.length ≤ sizeLine) (hj : L2.ixN xs.length i = some j) (hx : xs[j]? = some x) : mutW .popAt (.ref k) [.d (.int i)] s = .ok (.d x) (s.set k (.lst (xs.eraseIdx j))) := by
  simp only [mutW, chg]
  rw [h, Option.bind_some]
  simp only [popAtC]
  rw [if_pos hz, hj, Option.bind_some, hx]
  rfl
@[simp] theorem atI_0 {α : Type} {x : α} {r : List α} : L2.atI (x :: r) 0 = some x := by
  simp [L2.atI, L2.ixN]
@[simp] theorem atI_1 {α : Type} {x y : α} {r : List α} : L2.atI (x :: y :: r) 1 = some y := by
  have h : (1 : Int) < ((x :: y :: r).length : Nat) := by simp; omega
  simp only [L2.atI, L2.ixN]
  rw [if_pos (by omega), if_pos h]
  rfl
@[simp] theorem atI_2 {α : Type} {x y z : α} {r : List α} : L2.atI (x :: y :: z :: r) 2 = some z := by
  have h : (2 : Int) < ((x :: y :: z :: r).length : Nat) := by simp; omega
  simp only [L2.atI, L2.ixN]
  rw [if_pos (by omega), if_pos h]
  rfl
@[simp] theorem atI_3 {α : Type} {x y z u : α} {r : List α} : L2.atI (x :: y :: z :: u :: r) 3 = some u := by
  have h : (3 : Int) < ((x :: y :: z :: u :: r).length : Nat) := by simp; omega
  simp only [L2.atI, L2.ixN]
  rw [if_pos (by omega), if_pos h]
  rfl
end
/-- what a run of a body ends in -/
def retQ (Q : W → Store → Prop) : Flow × Env → Store → Prop := fun p s => match p.1 with | .ret w => Q w s | .next => Q (.d .none) s | _ => False
@[simp] theorem retQ_ret {Q : W → Store → Prop} {w : W} {e : Env} {s : Store} : retQ Q (.ret w, e) s ↔ Q w s := Iff.rfl
@[simp] theorem retQ_next {Q : W → Store → Prop} {e : Env} {s : Store} : retQ Q (.next, e) s ↔ Q (.d .none) s := Iff.rfl
theorem phi_ok {C : Cf} {n i ps ns : Nat} {b : Sx} {ws : List W} {s : Store} {Q : W → Store → Prop} (h : i < n) (hd : C.ds i = ⟨ps, ns, b⟩) (hl : ws.length = ps) (hr : Ok (runS (C.Φ i) C.M C.CI C.FO C.xi b (startE ns ws) s) (retQ Q)) : Ok (C.Φ n i ws s) Q := by
  rw [phi_at h, hd]
  exact runF_ok hl hr
theorem set_cell' {s : Store} {k : Nat} {xs : List PyData} {i : Int} {x : PyData} (h : s[k]? = some (.lst xs)) : setIx (.ref k) (.d (.int i)) (.d x) s = match L2.ixN xs.length i with
    | some j => .ok () (s.set k (.lst (xs.set j x)))
    | none => .stuck := by
  simp only [setIx]
  rw [h]
  dsimp only
  cases L2.ixN xs.length i <;> rfl
theorem idx_set {s : Store} {k : Nat} {c : Cell} (h : s[k]? = some c) (xs : List PyData) (i : Int) : idxW (s.set k (.lst xs)) (.ref k) (.d (.int i)) = (L2.atI xs i).map .d :=
  idx_cell (List.getElem?_set_self (List.getElem?_eq_some_iff.mp h).1)
theorem set_set {s : Store} {k : Nat} {c : Cell} (h : s[k]? = some c) (xs : List PyData) (i : Int) (x : PyData) : setIx (.ref k) (.d (.int i)) (.d x) (s.set k (.lst xs)) = match L2.ixN xs.length i with
    | some j => .ok () (s.set k (.lst (xs.set j x)))
    | none => .stuck := by
  rw [set_cell' (List.getElem?_set_self (List.getElem?_eq_some_iff.mp h).1)]
  simp only [List.set_set]
theorem top_set {s : Store} {k : Nat} {c : Cell} (h : s[k]? = some c) (xs : List PyData) : top (s.set k (.lst xs)) (.ref k) = some (.list xs) := top_cell (List.getElem?_set_self (List.getElem?_eq_some_iff.mp h).1)
@[simp] theorem ix20 : L2.ixN 2 0 = some 0 := rfl
@[simp] theorem ix21 : L2.ixN 2 1 = some 1 := rfl
/-- a product that the machine's line allows -/
theorem mulOk_r {i j : Int} (h1 : -18446744073709551616 < j) (h2 : j < 18446744073709551616) : mulOk i j = true := by
  unfold mulOk
  rw [mulB_of h1 h2]
  simp
theorem mulOk_l {i j : Int} (h1 : -18446744073709551616 < i) (h2 : i < 18446744073709551616) : mulOk i j = true := by
  unfold mulOk
  rw [mulB_of h1 h2]
  simp
@[simp] theorem cutX_map {α β : Type} (f : α → β) (xs : List α) (lo hi : Option Int) : cutX (xs.map f) lo hi = (cutX xs lo hi).map f := by simp [cutX]
theorem cutX_len {α : Type} (xs : List α) (lo hi : Option Int) : (cutX xs lo hi).length ≤ xs.length := by
  simp only [cutX, List.length_take, List.length_drop]
  omega
theorem cutX_pre {α : Type} (xs : List α) (k : Nat) : cutX xs none (some (k : Int)) = xs.take k := by
  simp only [cutX, HT.sIx]
  rw [if_neg (by omega)]
  simp only [List.drop_zero, Nat.sub_zero, Int.toNat_natCast]
  rcases Nat.le_total k xs.length with h | h
  · rw [Nat.min_eq_left h]
  · rw [Nat.min_eq_right h, List.take_of_length_le h, List.take_of_length_le (Nat.le_refl _)]
@[simp] theorem intsOf_map (l : List Int) : intsOf (l.map PyData.int) = some l := by
  induction l with
  | nil => rfl
  | cons x l ih => simp [intsOf, ih]
@[simp] theorem boolsOf_map (l : List Bool) : boolsOf (l.map PyData.bool) = some l := by
  induction l with
  | nil => rfl
  | cons x l ih => simp [boolsOf, ih]
@[simp] theorem strsOf_map (l : List Str) : strsOf (l.map PyData.str) = some l := by
  induction l with
  | nil => rfl
  | cons x l ih => simp [strsOf, ih]
@[simp] theorem still_none {s0 s : Store} : still none s0 s = true := rfl
section
variable {F : List W → Store → Res W} {k : Nat} {ws : List W} {s : Store} {x : PyData} {Q : W → Store → Prop}
@[simp] theorem allPure_ref : allPure (.ref k :: ws) = none := by
  simp only [allPure]
@[simp] theorem allPure_d : allPure (.d x :: ws) = (allPure ws).map (x :: ·) := allPure_cons_d x ws
@[simp] theorem callM_frz_ref : callM .frz F (.ref k :: ws) s = F (.ref k :: ws) s := by
  simp only [callM, allPure_ref]
@[simp] theorem callM_keep_ref : callM .keep F (.ref k :: ws) s = F (.ref k :: ws) s := by
  simp only [callM, allPure_ref]
theorem frz_ok {xs : List PyData} (hp : allPure ws = some xs) (h : Ok (F ws []) fun w t => ∃ x, frzW t w = some x ∧ Q (.d x) s) : Ok (callM .frz F ws s) Q := by
  simp only [callM, hp]
  cases r : F ws [] with
  | stuck => rw [r] at h; exact h
  | exc x t => rw [r] at h; exact h
  | ok w t =>
    rw [r] at h
    obtain ⟨x, e, q⟩ := h
    dsimp only
    rw [e]
    exact q
theorem frz_eq {xs : List PyData} (hp : allPure ws = some xs) {w : W} {t : Store} (h : F ws [] = .ok w t) (he : frzW t w = some x) : callM .frz F ws s = .ok (.d x) s := by
  simp only [callM, hp, h, he]
theorem keep_eq {xs : List PyData} (hp : allPure ws = some xs) {w : W} {t : Store} (h : F ws [] = .ok w t) : callM .keep F ws s = .ok (w.shift s.length) (s ++ t.map (Cell.shift s.length)) := by
  simp only [callM, hp, h]
@[simp] theorem frzW_d : frzW s (.d x) = some x := by simp only [frzW]
@[simp] theorem shift_ref {n : Nat} : W.shift k (.ref n) = .ref (n + k) := by simp only [W.shift]
@[simp] theorem shift_d : W.shift k (.d x) = .d x := by simp only [W.shift]
@[simp] theorem cshift_lst {xs : List PyData} : Cell.shift k (.lst xs) = .lst xs := rfl
@[simp] theorem lo_d {n : Nat} : W.lo n (.d x) = true := by simp only [W.lo]
@[simp] theorem lo_ref {n : Nat} : W.lo n (.ref k) = decide (k < n) := by simp only [W.lo]
@[simp] theorem clo_lst {n : Nat} {xs : List PyData} : Cell.lo n (.lst xs) = true := rfl
@[simp] theorem drop_none {n : Nat} : dropRef n none = none := rfl
@[simp] theorem drop_d {n : Nat} : dropRef n (some (.d x)) = some (.d x) := by simp [dropRef]
@[simp] theorem drop_ref {n : Nat} : dropRef n (some (.ref k)) = if k < n then some (.ref k) else none := by
  simp only [dropRef, lo_ref]
  by_cases h : k < n <;> simp [h]
end
section
variable {Φ : FT} {M : CTab} {CI : Nat → Option Nat} {FO : Nat → Str → Bool} {XI : Nat → List PyData → Option (List (Str × PyData))} {env : Env} {s : Store} {a b c e o : Ex} {es : List Ex} {i : Nat}
@[simp] theorem runE_make {c : Nat} : runE Φ M CI FO (.make c es) env s = (runEs Φ M CI FO es env s).bind fun ws s => match CI c with
      | some i => (Φ i (.ref s.length :: ws) (s ++ [.ins c []])).bind fun w s' => match w with
        | .d .none => .ok (.ref s.length) s'
        | _ => .stuck
      | none => .stuck := by
  simp only [runE] <;> rfl
@[simp] theorem runE_meth {m : Str} : runE Φ M CI FO (.meth o m es) env s = (runE Φ M CI FO o env s).bind fun x s => match x with
      | .ref n => match s[n]? with
        | some (.ins c fs) => match fs.lookup m, M c m with
          | none, some i => (runEs Φ M CI FO es env s).bind fun ws s => Φ i (.ref n :: ws) s
          | _, _ => .stuck
        | _ => .stuck
      | _ => .stuck := by
  simp only [runE] <;> rfl
@[simp] theorem runE_comp {own tg : List Nat} {cell gc one : Bool} {walk : Wk} {its : List Ex} {c : Option Bx} : runE Φ M CI FO (.comp own cell gc tg one walk its c e) env s = (runEs Φ M CI FO its env s).bind fun ws s => match walkW walk ws s with
      | some (ws, g) => (compL (still g s) gc s.length (fun w s => match bindN tg one w (wipeE env own) with
          | some env => (runC Φ M CI FO c env s).bind fun k s => if k then (runE Φ M CI FO e env s).bind fun x s => .ok (some x) s else .ok none s
          | none => .stuck) ws [] s).bind fun ws s => compEnd cell ws s
      | none => .stuck := by
  simp only [runE] <;> rfl
@[simp] theorem runE_bm {m : Bm} : runE Φ M CI FO (.bm m o es) env s = (runE Φ M CI FO o env s).bind fun x s => if bmOk x then (runEs Φ M CI FO es env s).bind fun ws s => .of ((bmD s m x ws).map .d) s else .stuck := by
  simp only [runE]
end
@[simp] theorem isW_none {s : Store} {w : W} : isW s w (.d .none) = someW s w := by
  unfold isW
  rfl
@[simp] theorem isW_bool {s : Store} {a b : Bool} : isW s (.d (.bool a)) (.d (.bool b)) = some (decide (a = b)) := rfl
@[simp] theorem someW_none {s : Store} : someW s (.d .none) = some true := rfl
@[simp] theorem someW_int {s : Store} {i : Int} : someW s (.d (.int i)) = some false := rfl
@[simp] theorem someW_str {s : Store} {i : Str} : someW s (.d (.str i)) = some false := rfl
@[simp] theorem someW_tup {s : Store} {i : List PyData} : someW s (.d (.tuple i)) = some false := rfl
@[simp] theorem someW_list {s : Store} {i : List PyData} : someW s (.d (.list i)) = some false := rfl
@[simp] theorem someW_bool {s : Store} {i : Bool} : someW s (.d (.bool i)) = some false := rfl
@[simp] theorem eqD_none : eqD .none .none = some true := by simp [eqD, scP, PyData.eqv]
@[simp] theorem eqD_none_int {i : Int} : eqD .none (.int i) = some false := by simp [eqD, scP, PyData.eqv]
@[simp] theorem eqD_int_none {i : Int} : eqD (.int i) .none = some false := by simp [eqD, scP, PyData.eqv]
@[simp] theorem eqD_none_str {i : Str} : eqD .none (.str i) = some false := by simp [eqD, scP, PyData.eqv]
@[simp] theorem eqD_str_none {i : Str} : eqD (.str i) .none = some false := by simp [eqD, scP, PyData.eqv]
@[simp] theorem eqD_bool {i j : Bool} : eqD (.bool i) (.bool j) = some (decide (i = j)) := by
  cases i <;> cases j <;> simp [eqD, scP, PyData.eqv]
theorem eqD_refl {x : PyData} (h : SeqAt.shaped x = true) : eqD x x = some true := by
  have h2 := SeqAt.canLay_of_shaped h
  have h3 := SeqAt.eqv_refl x h2
  unfold eqD
  rw [h3]
  split
  · rfl
  · rw [h, h2]; rfl
@[simp] theorem walk_seq {w : W} {s : Store} : walkW .seq [w] s = wSeq s w := by simp only [walkW]
@[simp] theorem walk_rng1 {w : W} {s : Store} : walkW .rng1 [w] s = wRng1 w := by simp only [walkW]
@[simp] theorem walk_rng2 {w u : W} {s : Store} : walkW .rng2 [w, u] s = wRng2 w u := by simp only [walkW]
@[simp] theorem walk_enum {w : W} {s : Store} : walkW .enum [w] s = wEnum s w := by simp only [walkW]
/-- the numbers from i on, n of them -/
def rngW (i : Int) (n : Nat) : List W := (List.range n).map fun (k : Nat) => .d (.int (i + (k : Nat)))
theorem rng1_nat {n : Nat} (h : n < 4611686018427387904) : wRng1 (.d (.int (n : Nat))) = some (rngW 0 n, none) := by
  unfold wRng1
  dsimp only
  rw [if_pos (rngB_of (by omega) (by omega))]
  rfl
theorem rng1_int {i : Int} (h0 : 0 ≤ i) (h : i < 4611686018427387904) : wRng1 (.d (.int i)) = some (rngW 0 i.toNat, none) := by
  unfold wRng1
  dsimp only
  rw [if_pos (rngB_of (by omega) h)]
  rfl
theorem rng2_int {i j : Int} (h1 : -4611686018427387904 ≤ i) (h2 : i < 4611686018427387904) (h3 : -4611686018427387904 ≤ j) (h4 : j < 4611686018427387904) : wRng2 (.d (.int i)) (.d (.int j)) = some (rngW i (j - i).toNat, none) := by
  unfold wRng2
  dsimp only
  rw [if_pos (by rw [rngB_of h1 h2, rngB_of h3 h4]; rfl)]
  rfl
theorem rngW_at {i : Int} {n k : Nat} {w : W} (h : (rngW i n)[k]? = some w) : k < n ∧ w = .d (.int (i + (k : Nat))) := by
  unfold rngW at h
  rw [List.getElem?_map] at h
  obtain ⟨q, hq, rfl⟩ := map_of h
  have hk : k < n := by have := (List.getElem?_eq_some_iff.mp hq).1; simpa using this
  rw [List.getElem?_range hk] at hq
  cases hq
  exact ⟨hk, rfl⟩
@[simp] theorem rngW_len {i : Int} {n : Nat} : (rngW i n).length = n := by simp [rngW]
@[simp] theorem wSeq_d {x : PyData} {s : Store} : wSeq s (.d x) = (items s (.d x)).map (·, none) := rfl
@[simp] theorem wSeq_tup {x : List W} {s : Store} : wSeq s (.tup x) = some (x, none) := rfl
@[simp] theorem items_list {x : List PyData} {s : Store} : items s (.d (.list x)) = some (x.map .d) := rfl
@[simp] theorem items_tuple {x : List PyData} {s : Store} : items s (.d (.tuple x)) = some (x.map .d) := rfl
@[simp] theorem bind_one {i : Nat} {w : W} {env : Env} : bindN [i] true w env = some (env.set i (some w)) := rfl
/-- a comprehension whose turns compute -/
theorem comp_run {α : Type} {xs : List α} {s : Store} {step : W → Store → Res (Option W)} (g : α → W) (f : α → Option PyData) {chk : Store → Bool} (hg : chk s = true) {n : Nat} : ∀ (xs : List α) (acc : List W), (∀ x ∈ xs, step (g x) s = .ok ((f x).map .d) s) → acc.length + xs.length ≤ 16777216 →
    compL chk false n step (xs.map g) acc s = .ok (acc ++ (xs.filterMap f).map .d) s := by
  intro xs
  induction xs with
  | nil => intro acc _ _; simp [compL, hg]
  | cons x xs ih =>
    intro acc h hl
    simp only [List.map_cons, compL, hg, if_true, h x List.mem_cons_self, turnEnd, Bool.false_eq_true, if_false]
    simp only [List.length_cons] at hl
    have z : sizeLine = 16777216 := rfl
    cases e : f x with
    | none =>
      dsimp only [Option.map]
      rw [ih acc (fun w hw => h w (List.mem_cons_of_mem _ hw)) (by omega), List.filterMap_cons, e]
    | some y =>
      dsimp only [Option.map]
      rw [if_pos ⟨by omega, fun z => by cases z⟩, ih (acc ++ [W.d y]) (fun w hw => h w (List.mem_cons_of_mem _ hw)) (by simp; omega), List.filterMap_cons, e]
      simp
theorem comp_ok {α : Type} {xs : List α} {s : Store} {step : W → Store → Res (Option W)} {cell : Bool} {Q : W → Store → Prop} (g : α → W) (f : α → Option PyData) {chk : Store → Bool} (hg : chk s = true) {n : Nat} (hs : ∀ x ∈ xs, step (g x) s = .ok ((f x).map .d) s) (hl : xs.length ≤ 16777216)
    (hq : if cell then Q (.ref s.length) (s ++ [.lst (xs.filterMap f)]) else Q (.d (.list (xs.filterMap f))) s) : Ok (compL chk false n step (xs.map g) [] s) fun a s => Ok (compEnd cell a s) Q := by
  rw [comp_run (xs := xs) g f hg xs [] hs (by simpa using hl)]
  simp only [List.nil_append, Ok_ok, compEnd, allPure_map]
  cases cell <;> simpa using hq
theorem atI_nat {α : Type} {xs : List α} {i : Nat} {x : α} (h : xs[i]? = some x) : L2.atI xs (i : Nat) = some x := by
  have hi := (List.getElem?_eq_some_iff.mp h).1
  unfold L2.atI L2.ixN
  rw [if_pos (by omega), if_pos (by omega)]
  simp [h]
@[simp] theorem atI_map {α β : Type} {xs : List α} {i : Int} {f : α → β} : L2.atI (xs.map f) i = (L2.atI xs i).map f := by
  unfold L2.atI
  rw [List.length_map]
  cases L2.ixN xs.length i <;> simp
@[simp] theorem idx_list {s : Store} {xs : List PyData} {i : Int} : idxW s (.d (.list xs)) (.d (.int i)) = (L2.atI xs i).map .d := rfl
@[simp] theorem idx_tuple {s : Store} {xs : List PyData} {i : Int} : idxW s (.d (.tuple xs)) (.d (.int i)) = (L2.atI xs i).map .d := rfl
/-- the last item -/
theorem atI_last {α : Type} {xs : List α} {x : α} : L2.atI (xs ++ [x]) (-1) = some x := by
  unfold L2.atI L2.ixN
  rw [if_neg (by omega), if_pos (by simp; omega)]
  have e : (-1 + ((xs.length : Int) + 1)).toNat = xs.length := by omega
  simp [e]
end Cc

set_option linter.all false
set_option maxRecDepth 100000
set_option maxHeartbeats 4000000
/-! Cc: draws; more loops. -/
namespace Cc
open PySem hiding Env listOf
def drawB : Sx := Sx.ret (Ex.lst true [Ex.bin (Bop.mul) (Ex.bin (Bop.fdiv) (Ex.var 0) (Ex.const (PyData.int 2))) (Ex.bin (Bop.sub) (Ex.const (PyData.int 1)) (Ex.bin (Bop.mod) (Ex.var 0) (Ex.const (PyData.int 2)))), Ex.var 0])
def nextB : Sx := Sx.seq
  (Sx.assign (Tx.sub (Ex.var 0) (Ex.const (PyData.int 1))) (Ex.bin (Bop.mod) (Ex.bin (Bop.add) (Ex.bin (Bop.mul) (Ex.idx (Ex.var 0) (Ex.const (PyData.int 1))) (Ex.const (PyData.int 48271))) (Ex.const (PyData.int 11))) (Ex.const (PyData.int 2147483647))))
  (Sx.seq
    (Sx.ite
      (Bx.tru (Ex.cmp (Cop.gt) (Ex.idx (Ex.var 0) (Ex.const (PyData.int 0))) (Ex.const (PyData.int 0))))
      (Sx.seq (Sx.assign (Tx.name 3) (Ex.bin (Bop.mod) (Ex.idx (Ex.var 0) (Ex.const (PyData.int 0))) (Ex.var 1))) (Sx.seq (Sx.assign (Tx.sub (Ex.var 0) (Ex.const (PyData.int 0))) (Ex.bin (Bop.fdiv) (Ex.idx (Ex.var 0) (Ex.const (PyData.int 0))) (Ex.var 1))) (Sx.ret (Ex.var 3))))
      (Sx.pass))
    (Sx.seq
      (Sx.assign (Tx.name 2) (Ex.bin (Bop.mod) (Ex.bin (Bop.mul) (Ex.idx (Ex.var 0) (Ex.const (PyData.int 1))) (Ex.bin (Bop.add) (Ex.bin (Bop.fdiv) (Ex.idx (Ex.var 0) (Ex.const (PyData.int 1))) (Ex.const (PyData.int 1009))) (Ex.const (PyData.int 69621)))) (Ex.const (PyData.int 2147483647))))
      (Sx.ret (Ex.bin (Bop.mod) (Ex.bin (Bop.mod) (Ex.bin (Bop.mul) (Ex.var 2) (Ex.bin (Bop.add) (Ex.bin (Bop.fdiv) (Ex.var 2) (Ex.const (PyData.int 757))) (Ex.const (PyData.int 16807)))) (Ex.const (PyData.int 2147483629))) (Ex.var 1)))))

/-- a number below z was drawn, the drawing cell is another -/
def Dr (k : Nat) (z : Int) (s : Store) : W → Store → Prop := fun w s' => ∃ a' b' v, w = .d (.int v) ∧ s' = s.set k (.lst [.int a', .int b']) ∧ 0 ≤ v ∧ v < z
theorem next_gen {C : Cf} {i : Nat} (hd : C.ds i = ⟨2, 4, nextB⟩) {n : Nat} (hn : i < n) {k : Nat} {a b z : Int} {s : Store} (hk : s[k]? = some (.lst [.int a, .int b])) (hz : 0 < z) (hz2 : z.natAbs.log2 < 9000) :
    Ok (C.Φ n i [.ref k, .d (.int z)] s) (Dr k z s) := by
  refine phi_ok hn hd rfl ?_
  unfold nextB
  have m1 : ∀ i : Int, mulOk i 48271 = true := fun i => mulOk_r (by decide) (by decide)
  have m2 : ∀ i j : Int, mulOk (i % 2147483647) j = true := fun i j => mulOk_l (by omega) (by omega)
  have l1 : Nat.log2 1009 < 9000 := by decide
  have l2 : Nat.log2 757 < 9000 := by decide
  simp [startE, Ok_bind, idx_cell hk, m1, m2, set_cell' hk, idx_set hk, set_set hk, l1, l2, hz, hz2]
  split <;> exact ⟨_, _, _, rfl, rfl, Int.emod_nonneg _ (by omega), Int.emod_lt_of_pos _ hz⟩
theorem draw_gen {C : Cf} {i : Nat} (hd : C.ds i = ⟨1, 1, drawB⟩) {n : Nat} (hn : i < n) (c : Int) : C.Φ n i [.d (.int c)] [] = .ok (.ref 0) [.lst [.int (c / 2 * (1 - c % 2)), .int c]] := by
  have m : mulOk (c / 2) (1 - c % 2) = true := mulOk_r (by omega) (by omega)
  have l : Nat.log2 2 < 9000 := by decide
  have h : Ok (C.Φ n i [.d (.int c)] []) fun w s => w = .ref 0 ∧ s = [.lst [.int (c / 2 * (1 - c % 2)), .int c]] := by
    refine phi_ok hn hd rfl ?_
    unfold drawB
    simp [startE, Ok_bind, m, l, newLst, sizeLine]
  obtain ⟨w, s, e, rfl, rfl⟩ := h.ex
  exact e
/-- a new drawing cell behind the store's -/
theorem keep_draw {C : Cf} {i : Nat} (hd : C.ds i = ⟨1, 1, drawB⟩) {n : Nat} (hn : i < n) (c : Int) (s : Store) : callM .keep (C.Φ n i) [.d (.int c)] s = .ok (.ref s.length) (s ++ [.lst [.int (c / 2 * (1 - c % 2)), .int c]]) := by
  rw [keep_eq (ws := [.d (.int c)]) (xs := [.int c]) (by simp) (draw_gen hd hn c)]
  simp
/-- what is drawn from a row of items -/
theorem pick {α : Type} {xs : List α} {v : Int} (h0 : 0 ≤ v) (h : v < xs.length) : ∃ x, x ∈ xs ∧ L2.atI xs v = some x := by
  have hv : v.toNat < xs.length := by omega
  refine ⟨xs[v.toNat], List.getElem_mem hv, ?_⟩
  unfold L2.atI L2.ixN
  rw [if_pos h0, if_pos h]
  simp [List.getElem?_eq_getElem hv]
/-- a loop that looks for the first of its kind -/
theorem Ok_find {α : Type} {chk : Store → Bool} {n : Nat} {step : W → Env → Store → Res (Flow × Env)} {Q : Flow × Env → Store → Prop} (xs : List α) (g : α → W) (p : α → Bool) (h : α → W) (J : Env → Prop) (s : Store) (hc : chk s = true)
    (hs : ∀ x ∈ xs, ∀ env, J env → Ok (step (g x) env s) fun r s' => s' = s ∧ if p x then r.1 = .ret (h x) else r.1 = .next ∧ J r.2)
    (hr : ∀ x env, xs.find? p = some x → Q (.ret (h x), env) s) (hno : xs.find? p = none → ∀ env, J env → Q (.next, env) s) : ∀ env, J env → Ok (forL chk false n step (xs.map g) env s) Q := by
  induction xs with
  | nil =>
    intro env hJ
    simp only [List.map_nil, forL, hc, if_true]
    exact hno rfl env hJ
  | cons x xs ih =>
    intro env hJ
    simp only [List.map_cons, forL, hc, if_true]
    have q := hs x List.mem_cons_self env hJ
    cases r : step (g x) env s with
    | stuck => rw [r] at q; exact q.elim
    | exc x t => rw [r] at q; exact q.elim
    | ok f t =>
      rw [r] at q
      obtain ⟨f, e⟩ := f
      obtain ⟨rfl, q⟩ := q
      cases hp : p x with
      | true =>
        rw [hp, if_pos rfl] at q
        have : f = .ret (h x) := q
        subst this
        exact hr x e (by simp [hp])
      | false =>
        rw [hp, if_neg (by decide)] at q
        obtain ⟨q1, q2⟩ := q
        have : f = .next := q1
        subst this
        simp only [turnEnd, Bool.false_eq_true, if_false]
        exact ih (fun y hy => hs y (List.mem_cons_of_mem _ hy)) (fun y env hf => hr y env (by rw [List.find?_cons, hp]; exact hf)) (fun hf => hno (by rw [List.find?_cons, hp]; exact hf)) e q2
/-- a loop in whose turns all is well -/
theorem Ok_all {α : Type} {chk : Store → Bool} {n : Nat} {step : W → Env → Store → Res (Flow × Env)} {Q : Flow × Env → Store → Prop} (xs : List α) (g : α → W) (J : Env → Prop) (s : Store) (hc : chk s = true)
    (hs : ∀ x ∈ xs, ∀ env, J env → Ok (step (g x) env s) fun r s' => s' = s ∧ r.1 = .next ∧ J r.2)
    (hno : ∀ env, J env → Q (.next, env) s) : ∀ env, J env → Ok (forL chk false n step (xs.map g) env s) Q :=
  Ok_find xs g (fun _ => false) (fun _ => .d .none) J s hc (fun x hx env hJ => (hs x hx env hJ).mono fun r s' q => ⟨q.1, by simpa using q.2⟩) (fun x env hf => by
    have := List.find?_some hf
    cases this) fun _ => hno
theorem Ok_compL {chk : Store → Bool} {n : Nat} {step : W → Store → Res (Option W)} {Q : List W → Store → Prop} (ws : List W) (I : Nat → List W → Store → Prop) (hc : ∀ i acc s, I i acc s → chk s = true)
    (hs : ∀ i w acc s, ws[i]? = some w → I i acc s → Ok (step w s) fun o s' => match o with
      | some x => acc.length < 16777216 ∧ I (i + 1) (acc ++ [x]) s'
      | none => I (i + 1) acc s')
    (he : ∀ acc s, I ws.length acc s → Q acc s) : ∀ (s : Store), I 0 [] s → Ok (compL chk false n step ws [] s) Q := by
  have key : ∀ (rest : List W) (i : Nat) (acc : List W) (s : Store), ws.drop i = rest → i ≤ ws.length → I i acc s → Ok (compL chk false n step rest acc s) Q := by
    intro rest
    induction rest with
    | nil =>
      intro i acc s hd hi h
      have : i = ws.length := by
        have : ws.length ≤ i := by simpa using hd
        omega
      subst this
      simp only [compL, hc _ _ _ h, if_true]
      exact he _ _ h
    | cons w rest ih =>
      intro i acc s hd hi h
      have hwi : ws[i]? = some w := by
        have : (ws.drop i)[0]? = some w := by rw [hd]; rfl
        simpa using this
      have hrest : ws.drop (i + 1) = rest := by
        have : (ws.drop i).drop 1 = rest := by rw [hd]; rfl
        rwa [List.drop_drop] at this
      have hlt : i < ws.length := (List.getElem?_eq_some_iff.mp hwi).1
      simp only [compL, hc _ _ _ h, if_true]
      have q := hs i w acc s hwi h
      cases r : step w s with
      | stuck => rw [r] at q; exact q.elim
      | exc x t => rw [r] at q; exact q.elim
      | ok o t =>
        rw [r] at q
        simp only [turnEnd, Bool.false_eq_true, if_false]
        cases o with
        | none => exact ih (i + 1) acc t hrest hlt q
        | some x =>
          dsimp only
          rw [if_pos ⟨q.1, fun z => by cases z⟩]
          exact ih (i + 1) (acc ++ [x]) t hrest hlt q.2
  exact fun s h => key ws 0 [] s rfl (Nat.zero_le _) h
end Cc

set_option linter.all false
set_option maxRecDepth 100000
set_option maxHeartbeats 1000000
/-! Cc: texts and rows of texts, compared. -/
namespace Cc
open PySem hiding Env listOf
/-- a text of signs that there are -/
abbrev SOk (x : Str) : Prop := PyData.canLay0 (.str x) = true
theorem shaped_str {x : Str} (h : SOk x) : SeqAt.shaped (.str x) = true := by
  unfold SeqAt.shaped
  rw [h, show PyData.depth (.str x) = 0 from by simp only [PyData.depth]]
  rfl
theorem layAll {f : PyData → Prop} : ∀ {xs : List PyData}, (∀ x ∈ xs, x.canLay0 = true) → PyData.canLayAll0 xs = true
  | [], _ => by simp only [PyData.canLayAll0]
  | x :: xs, h => by
    simp only [PyData.canLayAll0, Bool.and_eq_true]
    exact ⟨h x List.mem_cons_self, layAll (f := f) fun y hy => h y (List.mem_cons_of_mem _ hy)⟩
theorem lay_of {x : PyData} : ∀ {xs : List PyData}, PyData.canLayAll0 xs = true → x ∈ xs → x.canLay0 = true
  | [], _, h => by simp at h
  | y :: ys, h, hx => by
    simp only [PyData.canLayAll0, Bool.and_eq_true] at h
    rcases List.mem_cons.mp hx with rfl | hx
    · exact h.1
    · exact lay_of h.2 hx
theorem layAll_strs {xs : List Str} (h : ∀ x ∈ xs, SOk x) : PyData.canLayAll0 (xs.map .str) = true := layAll (f := fun _ => True) fun y hy => by
  obtain ⟨x, hx, rfl⟩ := List.mem_map.mp hy
  exact h x hx
theorem str_eqv {x y : Str} : PyData.eqv (.str x) (.str y) = decide (x = y) := by
  have := eqD_str (i := x) (j := y)
  unfold eqD at this
  rw [if_pos (by rfl)] at this
  exact Option.some.inj this
theorem eqvAll_strs : ∀ (xs ys : List Str), PyData.eqvAll (xs.map .str) (ys.map .str) = decide (xs = ys)
  | [], [] => by simp [PyData.eqvAll]
  | [], y :: ys => by simp [PyData.eqvAll]
  | x :: xs, [] => by simp [PyData.eqvAll]
  | x :: xs, y :: ys => by
    simp only [List.map_cons, PyData.eqvAll, str_eqv, eqvAll_strs xs ys]
    by_cases h1 : x = y <;> by_cases h2 : xs = ys <;> simp [h1, h2]
theorem depth_strs : ∀ xs : List Str, PyData.depthAll (xs.map .str) = 0
  | [] => by simp [PyData.depthAll]
  | x :: xs => by simp [PyData.depthAll, PyData.depth, depth_strs xs]
theorem eqD_strs {xs ys : List Str} (hx : ∀ x ∈ xs, SOk x) (hy : ∀ x ∈ ys, SOk x) : eqD (.tuple (xs.map .str)) (.tuple (ys.map .str)) = some (decide (xs = ys)) := by
  have h1 : PyData.canLay0 (.tuple (xs.map .str)) = true := by simp only [PyData.canLay0]; exact layAll_strs hx
  have h2 : PyData.canLay0 (.tuple (ys.map .str)) = true := by simp only [PyData.canLay0]; exact layAll_strs hy
  have h3 : SeqAt.shaped (.tuple (xs.map .str)) = true := by
    unfold SeqAt.shaped
    rw [h1, show PyData.depth (.tuple (xs.map .str)) = PyData.depthAll (xs.map .str) + 1 from by simp only [PyData.depth], depth_strs]
    rfl
  unfold eqD
  rw [if_neg (by simp [scP]), h3, h2, if_pos (by decide)]
  simp only [PyData.eqv, eqvAll_strs]
theorem eqD_str3 {a b c x y z : Str} (ha : SOk a) (hb : SOk b) (hc : SOk c) (hx : SOk x) (hy : SOk y) (hz : SOk z) : eqD (.tuple [.str a, .str b, .str c]) (.tuple [.str x, .str y, .str z]) = some (decide (a = x) && (decide (b = y) && decide (c = z))) := by
  have := eqD_strs (xs := [a, b, c]) (ys := [x, y, z]) (fun u hu => by simp only [List.mem_cons, List.not_mem_nil, or_false] at hu; rcases hu with rfl | rfl | rfl <;> assumption) (fun u hu => by simp only [List.mem_cons, List.not_mem_nil, or_false] at hu; rcases hu with rfl | rfl | rfl <;> assumption)
  simp only [List.map_cons, List.map_nil] at this
  rw [this]
  by_cases h1 : a = x <;> by_cases h2 : b = y <;> by_cases h3 : c = z <;> simp [h1, h2, h3]
theorem any_strs (xs : List Str) (x : Str) : ((xs.map PyData.str).any fun z => PyData.eqv z (.str x)) = decide (x ∈ xs) := by
  induction xs with
  | nil => simp
  | cons y xs ih =>
    simp only [List.map_cons, List.any_cons, ih, str_eqv]
    by_cases h : y = x
    · simp [h]
    · have h' : ¬ x = y := fun e => h e.symm
      by_cases h2 : x ∈ xs <;> simp [h, h', h2]
theorem inD_list {xs : List Str} {x : Str} (h : SOk x) (hx : ∀ y ∈ xs, SOk y) : inD (.str x) (.list (xs.map .str)) = some (decide (x ∈ xs)) := by
  unfold inD
  dsimp only
  rw [shaped_str h, layAll_strs hx]
  simp only [Bool.and_self, if_true, any_strs]
theorem inD_tuple {xs : List Str} {x : Str} (h : SOk x) (hx : ∀ y ∈ xs, SOk y) : inD (.str x) (.tuple (xs.map .str)) = some (decide (x ∈ xs)) := by
  unfold inD
  dsimp only
  rw [shaped_str h, layAll_strs hx]
  simp only [Bool.and_self, if_true, any_strs]
@[simp] theorem cmpW_in {s : Store} {x y : PyData} : cmpW .isin s (.d x) (.d y) = inD x y := rfl
@[simp] theorem cmpW_notin {s : Store} {x y : PyData} : cmpW .notin s (.d x) (.d y) = (inD x y).map (!·) := rfl
/-- a list against the empty one -/
theorem eqD_nil {xs : List PyData} (h : SeqAt.shaped (.list xs) = true) : eqD (.list xs) (.list []) = some xs.isEmpty := by
  unfold eqD
  rw [if_neg (by simp [scP]), h]
  have e : PyData.canLay0 (.list []) = true := by simp [PyData.canLay0, PyData.canLayAll0]
  rw [e, if_pos (by decide)]
  cases xs <;> simp [PyData.eqv, PyData.eqvAll]
theorem shaped_list {xs : List PyData} (h : ∀ x ∈ xs, x.canLay0 = true ∧ x.depth ≤ 63) : SeqAt.shaped (.list xs) = true := by
  have h1 : PyData.canLay0 (.list xs) = true := by simp only [PyData.canLay0]; exact layAll (f := fun _ => True) fun x hx => (h x hx).1
  have h2 : PyData.depthAll xs ≤ 63 := by
    clear h1
    induction xs with
    | nil => simp [PyData.depthAll]
    | cons x xs ih =>
      simp only [PyData.depthAll]
      exact Nat.max_le.mpr ⟨(h x List.mem_cons_self).2, ih fun y hy => h y (List.mem_cons_of_mem _ hy)⟩
  unfold SeqAt.shaped
  rw [h1, show PyData.depth (.list xs) = PyData.depthAll xs + 1 from by simp only [PyData.depth]]
  simp
  omega
mutual
theorem dEq_refl : ∀ d : PyData, d.canLay0 = true → dEq d d = true
  | .none, _ => by simp [dEq]
  | .bool b, _ => by simp [dEq]
  | .int i, _ => by simp [dEq]
  | .str x, _ => by simp [dEq]
  | .list xs, h => by
    rw [dEq]
    exact dEqL_refl xs (by simpa only [PyData.canLay0] using h)
  | .tuple xs, h => by
    rw [dEq]
    exact dEqL_refl xs (by simpa only [PyData.canLay0] using h)
  | .dict _, h => by simp [PyData.canLay0] at h
theorem dEqL_refl : ∀ xs : List PyData, PyData.canLayAll0 xs = true → dEqL xs xs = true
  | [], _ => by simp [dEqL]
  | x :: xs, h => by
    simp only [PyData.canLayAll0, Bool.and_eq_true] at h
    rw [dEqL, dEq_refl x h.1, dEqL_refl xs h.2]
    rfl
end
theorem still_cell {s0 s : Store} {k : Nat} {xs : List PyData} (h0 : s0[k]? = some (.lst xs)) (h : s[k]? = some (.lst xs)) (hl : PyData.canLayAll0 xs = true) : still (some k) s0 s = true := by
  unfold still
  dsimp only
  rw [h0, h]
  exact dEqL_refl xs hl
theorem wSeq_cell {s : Store} {k : Nat} {xs : List PyData} (h : s[k]? = some (.lst xs)) : wSeq s (.ref k) = some (xs.map .d, some k) := by
  unfold wSeq
  dsimp only
  unfold items
  dsimp only
  rw [h]
  rfl
theorem cutX_mid {α : Type} (xs : List α) (i j : Nat) : (cutX xs (some (i : Int)) (some (j : Int))).length ≤ j - i := by
  simp only [cutX, HT.sIx]
  rw [if_neg (by omega), if_neg (by omega)]
  simp only [List.length_take, List.length_drop, Int.toNat_natCast]
  omega
section
variable {Φ : FT} {M : CTab} {CI : Nat → Option Nat} {FO : Nat → Str → Bool} {XI : Nat → List PyData → Option (List (Str × PyData))} {env : Env} {s : Store} {e : Ex}
@[simp] theorem runS_unpack {ts : List Tx} : runS Φ M CI FO XI (.unpack ts e) env s = (runE Φ M CI FO e env s).bind fun w s => match parts w with
    | some ws => if ws.length = ts.length then (assignTs Φ M CI FO ts ws env s).bind fun env s => .ok (.next, env) s else .stuck
    | none => .stuck := by
  simp only [runS] <;> rfl
@[simp] theorem assignTs_nil : assignTs Φ M CI FO [] [] env s = .ok env s := by simp only [assignTs]
@[simp] theorem assignTs_cons {t : Tx} {ts : List Tx} {w : W} {ws : List W} : assignTs Φ M CI FO (t :: ts) (w :: ws) env s = (assignT Φ M CI FO t w env s).bind fun env s => assignTs Φ M CI FO ts ws env s := by simp only [assignTs]
@[simp] theorem parts_tuple {xs : List PyData} : parts (.d (.tuple xs)) = some (xs.map .d) := rfl
@[simp] theorem parts_tup {xs : List W} : parts (.tup xs) = some xs := rfl
end
end Cc

set_option linter.all false
set_option maxRecDepth 100000
set_option maxHeartbeats 4000000
/-! Cc: cells of a script, digits. -/
namespace Cc
open PySem hiding Env listOf
theorem callf_gen {C : Cf} {n i : Nat} {ws : List W} {xs : List PyData} {s : Store} {y : PyData} (hp : allPure ws = some xs) (h : Ok (C.Φ n i ws []) fun w _ => w = .d y) : callM .frz (C.Φ n i) ws s = .ok (.d y) s := by
  obtain ⟨w, t, e, rfl⟩ := h.ex
  exact frz_eq hp e (by simp)
theorem callfL_gen {C : Cf} {n i : Nat} {ws : List W} {xs : List PyData} {s : Store} {y : List PyData} (hp : allPure ws = some xs) (h : Ok (C.Φ n i ws []) fun w t => w = .ref 0 ∧ t = [.lst y]) : callM .frz (C.Φ n i) ws s = .ok (.d (.list y)) s := by
  obtain ⟨w, t, e, rfl, rfl⟩ := h.ex
  exact frz_eq hp e (by simp [frzW])
/-- with what is told of the result -/
theorem callf_ex {C : Cf} {n i : Nat} {ws : List W} {xs : List PyData} {P : PyData → Prop} (hp : allPure ws = some xs) (h : Ok (C.Φ n i ws []) fun w t => ∃ y, frzW t w = some y ∧ P y) : ∃ y, P y ∧ ∀ s, callM .frz (C.Φ n i) ws s = .ok (.d y) s := by
  obtain ⟨w, t, e, y, hy, hP⟩ := h.ex
  exact ⟨y, hP, fun s => frz_eq hp e hy⟩
/-- a loop without dropped cells -/
theorem Ok_for0 {chk : Store → Bool} {n : Nat} {step : W → Env → Store → Res (Flow × Env)} {Q : Flow × Env → Store → Prop} (ws : List W) (I : Nat → Env → Store → Prop) (hc : ∀ i env s, I i env s → chk s = true)
    (hs : ∀ i w env s, ws[i]? = some w → I i env s → Ok (step w env s) fun p s => match p.1 with
      | .next => I (i + 1) p.2 s
      | .cont => I (i + 1) p.2 s
      | .brk => Q (.next, p.2) s
      | .ret w => Q (.ret w, p.2) s)
    (he : ∀ env s, I ws.length env s → Q (.next, env) s) (env : Env) (s : Store) (h : I 0 env s) : Ok (forL chk false n step ws env s) Q :=
  Ok_forL ws I hc (fun i w env s hw hI => (hs i w env s hw hI).mono fun p s h => by
    obtain ⟨f, e⟩ := p
    cases f with
    | next => exact ⟨e, s, rfl, h⟩
    | cont => exact ⟨e, s, rfl, h⟩
    | brk => exact h
    | ret w => exact h) he env s h
def cellB : Sx := Sx.seq (Sx.ite (Bx.tru (Ex.cmp (Cop.lt) (Ex.var 1) (Ex.bf (Bf.len) [Ex.var 0]))) (Sx.ret (Ex.idx (Ex.var 0) (Ex.var 1))) (Sx.pass)) (Sx.ret (Ex.const (PyData.int 0)))
def cellAt (ns : List Int) (k : Int) : Int := (ns[k.toNat]?).getD 0
@[simp] theorem bf_len_list {s : Store} {xs : List PyData} : bfD s .len [W.d (.list xs)] = some (.int (xs.length : Nat)) := rfl
@[simp] theorem bf_len_tuple {s : Store} {xs : List PyData} : bfD s .len [W.d (.tuple xs)] = some (.int (xs.length : Nat)) := rfl
theorem atI_of {α : Type} {xs : List α} {i : Int} {x : α} (h0 : 0 ≤ i) (h : xs[i.toNat]? = some x) : L2.atI xs i = some x := by
  have := atI_nat h
  rwa [Int.toNat_of_nonneg h0] at this
theorem cell_gen {C : Cf} {i : Nat} (hd : C.ds i = ⟨2, 2, cellB⟩) {n : Nat} (hn : i < n) (ns : List Int) {k : Int} (hk : 0 ≤ k) (s : Store) : callM .frz (C.Φ n i) [.d (.list (ns.map .int)), .d (.int k)] s = .ok (.d (.int (cellAt ns k))) s := by
  refine callf_gen (xs := [.list (ns.map .int), .int k]) (by simp) (phi_ok hn hd rfl ?_)
  unfold cellB
  by_cases h : k < (ns.length : Nat)
  · have e : ns[k.toNat]? = some ns[k.toNat] := List.getElem?_eq_getElem (by omega)
    have a : L2.atI ns k = some ns[k.toNat] := atI_of hk e
    simp [startE, Ok_bind, h, a, cellAt, e]
  · have e : ns[k.toNat]? = none := List.getElem?_eq_none (by omega)
    simp [startE, Ok_bind, h, cellAt, e]
def digB : Sx := Sx.seq
  (Sx.assign (Tx.name 3) (Ex.lst true []))
  (Sx.seq
    (Sx.assign (Tx.name 4) (Ex.bin (Bop.mod) (Ex.bin (Bop.mul) (Ex.bin (Bop.add) (Ex.var 0) (Ex.const (PyData.int 1))) (Ex.const (PyData.int 48271))) (Ex.const (PyData.int 2147483647))))
    (Sx.seq
      (Sx.assign (Tx.name 5) (Ex.bin (Bop.fdiv) (Ex.var 0) (Ex.const (PyData.int 2))))
      (Sx.seq
        (Sx.for
          false
          [6]
          true
          (Wk.rng1)
          [Ex.var 2]
          (Sx.seq
            (Sx.assign
              (Tx.name 4)
              (Ex.bin
                (Bop.mod)
                (Ex.bin (Bop.mul) (Ex.bin (Bop.add) (Ex.bin (Bop.add) (Ex.var 4) (Ex.bin (Bop.mul) (Ex.const (PyData.int 7919)) (Ex.var 6))) (Ex.const (PyData.int 1))) (Ex.bin (Bop.add) (Ex.bin (Bop.fdiv) (Ex.var 4) (Ex.const (PyData.int 1009))) (Ex.const (PyData.int 69621))))
                (Ex.const (PyData.int 2147483647))))
            (Sx.seq
              (Sx.expr
                (Ex.mut
                  (Mt.append)
                  (Ex.var 3)
                  [Ex.idx
                     (Ex.lst false [Ex.bin (Bop.mod) (Ex.bin (Bop.fdiv) (Ex.var 4) (Ex.const (PyData.int 7))) (Ex.var 1), Ex.bin (Bop.mod) (Ex.var 5) (Ex.var 1)])
                     (Ex.bf (Bf.int) [Ex.and (Ex.cmp (Cop.eq) (Ex.bin (Bop.mod) (Ex.var 0) (Ex.const (PyData.int 2))) (Ex.const (PyData.int 0))) (Ex.cmp (Cop.gt) (Ex.var 5) (Ex.const (PyData.int 0)))])]))
              (Sx.assign (Tx.name 5) (Ex.bin (Bop.fdiv) (Ex.var 5) (Ex.var 1))))))
        (Sx.ret (Ex.var 3)))))
@[simp] theorem bf_int_bool {s : Store} {b : Bool} : bfD s .int [W.d (.bool b)] = some (.int (if b then 1 else 0)) := rfl
@[simp] theorem bf_int_int {s : Store} {i : Int} : bfD s .int [W.d (.int i)] = some (.int i) := rfl
/-- numbers from 0 to below z -/
def Dg (z : Int) (m : Nat) (ds : List Int) : Prop := ds.length = m ∧ ∀ d ∈ ds, 0 ≤ d ∧ d < z
theorem Dg.at' {z : Int} {m : Nat} {ds : List Int} (h : Dg z m ds) {k : Int} (h0 : 0 ≤ k) (hk : k < m) : ∃ v, L2.atI ds k = some v ∧ 0 ≤ v ∧ v < z := by
  have hk : k.toNat < ds.length := by rw [h.1]; omega
  exact ⟨ds[k.toNat], atI_of h0 (List.getElem?_eq_getElem hk), h.2 _ (List.getElem_mem hk)⟩
theorem dig_gen {C : Cf} {i : Nat} (hd : C.ds i = ⟨3, 7, digB⟩) {n : Nat} (hn : i < n) (c z : Int) (m : Nat) (hz : 0 < z) (hz2 : z.natAbs.log2 < 9000) (hm : m ≤ 1000) : ∃ ds, Dg z m ds ∧ ∀ s, callM .frz (C.Φ n i) [.d (.int c), .d (.int z), .d (.int (m : Nat))] s = .ok (.d (.list (ds.map .int))) s := by
  have key : Ok (C.Φ n i [.d (.int c), .d (.int z), .d (.int (m : Nat))] []) fun w t => ∃ y, frzW t w = some y ∧ ∃ ds, Dg z m ds ∧ y = .list (ds.map .int) := by
    refine phi_ok hn hd rfl ?_
    unfold digB
    have m1 : ∀ i : Int, mulOk i 48271 = true := fun i => mulOk_r (by decide) (by decide)
    have m2 : ∀ i : Int, mulOk 7919 i = true := fun i => mulOk_l (by decide) (by decide)
    have l1 : Nat.log2 1009 < 9000 := by decide
    have l2 : Nat.log2 2 < 9000 := by decide
    have l7 : Nat.log2 7 < 9000 := by decide
    simp [startE, Ok_bind, newLst, sizeLine, m1, l2, rng1_nat (n := m) (by omega)]
    obtain ⟨I, hI⟩ : ∃ I : Nat → Env → Store → Prop, ∀ i env s, I i env s ↔ ∃ (ds : List Int) (a b : Int) (x6 : Option W), env = [some (.d (.int c)), some (.d (.int z)), some (.d (.int m)), some (.ref 0), some (.d (.int a)), some (.d (.int b)), x6] ∧ s = [.lst (ds.map .int)] ∧ 0 ≤ a ∧ a < 2147483647 ∧ Dg z i ds := ⟨_, fun _ _ _ => Iff.rfl⟩
    refine Ok_for0 _ I (fun _ _ _ _ => rfl) ?_ ?_ _ _ ((hI _ _ _).mpr ⟨[], _, _, _, rfl, rfl, Int.emod_nonneg _ (by decide), Int.emod_lt_of_pos _ (by decide), rfl, by simp⟩)
    · intro i u env s hu h
      obtain ⟨ds, a, b, x6, rfl, rfl, ha, ha2, hds⟩ := (hI _ _ _).mp h
      obtain ⟨hi, rfl⟩ := rngW_at hu
      have hl : ds.length < 16777216 := by rw [hds.1]; omega
      have m3 : ∀ i : Int, mulOk i (a / 1009 + 69621) = true := fun i => mulOk_r (by omega) (by omega)
      generalize hmx : (a + 7919 * (i : Int) + 1) * (a / 1009 + 69621) % 2147483647 = mx
      have mx1 : 0 ≤ mx ∧ mx < 2147483647 := hmx ▸ ⟨Int.emod_nonneg _ (by decide), Int.emod_lt_of_pos _ (by decide)⟩
      have r1 : 0 ≤ mx / 7 % z ∧ mx / 7 % z < z := ⟨Int.emod_nonneg _ (by omega), Int.emod_lt_of_pos _ hz⟩
      have r2 : 0 ≤ b % z ∧ b % z < z := ⟨Int.emod_nonneg _ (by omega), Int.emod_lt_of_pos _ hz⟩
      have app : ∀ v : Int, 0 ≤ v ∧ v < z → Dg z (i + 1) (ds ++ [v]) := fun v hv => ⟨by simp [hds.1], fun d hd => by
        rcases List.mem_append.mp hd with h | h
        · exact hds.2 d h
        · simp at h; subst h; exact hv⟩
      by_cases h1 : c % 2 = 0 <;> by_cases h2 : 0 < b <;>
        simp [Ok_bind, m2, l1, m3, hmx, l7, hz, hz2, isLstC, mutW, chg, appC, appL, sizeLine, h1, h2, hl, newLst]
      · exact (hI _ _ _).mpr ⟨ds ++ [b % z], _, _, _, rfl, by simp, mx1.1, mx1.2, app _ r2⟩
      all_goals exact (hI _ _ _).mpr ⟨ds ++ [mx / 7 % z], _, _, _, rfl, by simp, mx1.1, mx1.2, app _ r1⟩
    · intro env s h
      obtain ⟨ds, a, b, x6, rfl, rfl, ha, ha2, hds⟩ := (hI _ _ _).mp h
      rw [rngW_len] at hds
      simp [Ok_bind, frzW]
      exact ⟨ds, hds, rfl⟩
  obtain ⟨y, ⟨ds, h, rfl⟩, e⟩ := callf_ex (xs := [.int c, .int z, .int (m : Nat)]) (by simp) key
  exact ⟨ds, h, e⟩
end Cc

set_option linter.all false
set_option maxRecDepth 100000
set_option maxHeartbeats 1000000
/-! Cc: texts put together and taken apart. -/
namespace Cc
open PySem hiding Env listOf
open PySem.StrLaws PySem.Builtin.Str
/-- the signs of a text -/
abbrev cl (x : Str) : List Nat := x.cps.toList
@[simp] theorem cl_mk (l : List Nat) : cl ⟨l.toArray⟩ = l := by simp [cl]
theorem cl_inj {x y : Str} (h : cl x = cl y) : x = y := Str.ext' (Array.toList_inj.mp h)
@[simp] theorem cl_append (x y : Str) : cl (x ++ y) = cl x ++ cl y := by
  show (x.cps ++ y.cps).toList = _
  simp
theorem cl_length (x : Str) : (cl x).length = x.length := by simp [cl, Str.length]
theorem cl_sub (x : Str) (i j : Nat) : cl (strSub x i j) = ((cl x).drop i).take (j - i) := by
  have := strSub_toList x i j
  first | exact this | (rw [show cl (strSub x i j) = (strSub x i j).cps.toList from rfl, this]; simp [List.take_drop, List.drop_take])
/-- places of a walk that are taken, none within w behind one -/
def greedy (P : Nat → Bool) (w : Nat) : Nat → Nat → Nat → List Nat
  | 0, _, _ => []
  | n + 1, a, f => if f ≤ a ∧ P a = true then a :: greedy P w n (a + 1) (a + w) else greedy P w n (a + 1) f
theorem occ_greedy (s y : Str) (hi limit : Nat) : ∀ (n a f : Nat) (fd : Array Nat),
    (forIn (List.range' a n) (fd, f) (occBody s y hi limit)).run.fst.toList = fd.toList ++ (greedy (fun i => decide (i + y.length ≤ hi) && subAt s y i) y.length n a f).take (limit - fd.size)
  | 0, a, f, fd => by simp [greedy]
  | n + 1, a, f, fd => by
    rw [List.range'_succ, List.forIn_cons]
    unfold occBody greedy
    by_cases hl : fd.size < limit
    · by_cases hc : f ≤ a ∧ (decide (a + y.length ≤ hi) && subAt s y a) = true
      · have hc2 := hc.2
        simp only [Bool.and_eq_true, decide_eq_true_eq] at hc2
        rw [if_pos ⟨⟨⟨hl, hc.1⟩, hc2.1⟩, hc2.2⟩, if_pos hc]
        have := occ_greedy s y hi limit n (a + 1) (a + y.length) (fd.push a)
        refine this.trans ?_
        rw [Array.toList_push, Array.size_push, List.append_assoc]
        have e : limit - fd.size = limit - (fd.size + 1) + 1 := by omega
        rw [e, List.take_succ_cons]
        rfl
      · have hc3 : ¬ (((fd.size < limit ∧ f ≤ a) ∧ a + y.length ≤ hi) ∧ subAt s y a = true) := fun h => hc ⟨h.1.1.2, by simp [h.1.2, h.2]⟩
        rw [if_neg hc3, if_neg hc]
        exact occ_greedy s y hi limit n (a + 1) f fd
    · have hc3 : ¬ (((fd.size < limit ∧ f ≤ a) ∧ a + y.length ≤ hi) ∧ subAt s y a = true) := fun h => hl h.1.1.1
      rw [if_neg hc3]
      refine (occ_greedy s y hi limit n (a + 1) f fd).trans ?_
      have e : limit - fd.size = 0 := by omega
      rw [e]
      simp
def occP (s y : Str) : Nat → Bool := fun i => decide (i + y.length ≤ s.length) && subAt s y i
theorem occ_is (s y : Str) (limit : Nat) : occurrences s y 0 s.length limit = (greedy (occP s y) y.length (s.length + 1) 0 0).take limit := by
  rw [occ_eq]
  have := occ_greedy s y s.length limit (s.length + 1) 0 0 #[]
  rw [show (fun i => decide (i + y.length ≤ s.length) && subAt s y i) = occP s y from rfl] at this
  simpa using this
theorem greedy_len (P : Nat → Bool) (w : Nat) : ∀ n a f, (greedy P w n a f).length ≤ n
  | 0, _, _ => by simp [greedy]
  | n + 1, a, f => by
    unfold greedy
    split
    · have := greedy_len P w n (a + 1) (a + w); simp; omega
    · have := greedy_len P w n (a + 1) f; omega
theorem greedy_skip (P : Nat → Bool) (w : Nat) : ∀ (m n a f : Nat), (∀ i, a ≤ i → i < a + m → ¬ (f ≤ i ∧ P i = true)) → m ≤ n → greedy P w n a f = greedy P w (n - m) (a + m) f
  | 0, n, a, f, _, _ => by simp
  | m + 1, 0, _, _, _, h => by omega
  | m + 1, n + 1, a, f, h, hm => by
    have h0 := h a (Nat.le_refl _) (by omega)
    rw [greedy, if_neg h0, greedy_skip P w m n (a + 1) f (fun i h1 h2 => h i (by omega) (by omega)) (by omega)]
    congr 1 <;> omega
theorem occP_iff (s y : Str) (i : Nat) : occP s y i = true ↔ i + y.length ≤ s.length ∧ ((cl s).drop i).take y.length = cl y := by
  unfold occP
  rw [subAt_eq]
  simp only [Bool.and_eq_true, decide_eq_true_eq, beq_iff_eq]
/-- a sign of the parting text that stands nowhere in the parts: no other place -/
structure Sep (y : Str) (k c : Nat) : Prop where
  at_ : (cl y)[k]? = some c
  one : ∀ j, j < k → (cl y)[j]? ≠ some c
theorem no_at {s y : Str} {k c : Nat} (S : Sep y k c) {pre p post : List Nat} (e : cl s = pre ++ p ++ post) (hp : c ∉ p) (hq : post = [] ∨ ∃ r, post = cl y ++ r) {i : Nat} (h1 : pre.length ≤ i) (h2 : i < pre.length + p.length ∨ (post = [] ∧ True)) : ¬ occP s y i = true := by
  intro h
  rw [occP_iff] at h
  obtain ⟨hl, ht⟩ := h
  have hk : k < (cl y).length := (List.getElem?_eq_some_iff.mp S.at_).1
  rw [cl_length] at hk
  have hc : (cl s)[i + k]? = some c := by
    have : (((cl s).drop i).take y.length)[k]? = some c := by rw [ht]; exact S.at_
    rw [List.getElem?_take_of_lt hk, List.getElem?_drop] at this
    exact this
  rw [e] at hc
  have ls : s.length = pre.length + p.length + post.length := by rw [← cl_length, e]; simp; omega
  rcases Nat.lt_or_ge (i + k) (pre.length + p.length) with hlt | hge
  · rw [List.getElem?_append_left (by simpa using hlt), List.getElem?_append_right (by omega)] at hc
    exact hp (List.mem_of_getElem? hc)
  · rcases hq with rfl | ⟨r, rfl⟩
    · simp at ls; omega
    · have h2 : i < pre.length + p.length := by
        rcases h2 with h | ⟨h, _⟩
        · exact h
        · have : (cl y) = [] := (List.append_eq_nil_iff.mp h).1
          have e1 := cl_length y
          rw [this] at e1
          simp at e1
          omega
      rw [List.getElem?_append_right (by simpa using hge), List.getElem?_append_left (by rw [cl_length]; simp; omega)] at hc
      exact S.one _ (by simp; omega) hc
theorem at_sep {s y : Str} {pre post : List Nat} (e : cl s = pre ++ cl y ++ post) : occP s y pre.length = true := by
  rw [occP_iff]
  have ls : s.length = pre.length + y.length + post.length := by rw [← cl_length, e]; simp [Str.length]; omega
  refine ⟨by omega, ?_⟩
  rw [e, List.append_assoc, List.drop_left]
  rw [List.take_left' (by rw [cl_length])]
/-- the places of the cuts -/
def cutsOf (w : Nat) : Nat → List Str → List Nat
  | _, [] => []
  | _, [_] => []
  | a, p :: q :: r => (a + p.length) :: cutsOf w (a + p.length + w) (q :: r)
theorem cl_join (y : Str) : ∀ (p q : Str) (r : List Str), cl (Str.join y (p :: q :: r)) = cl p ++ cl y ++ cl (Str.join y (q :: r))
  | p, q, r => by
    show cl (p ++ y ++ Str.join y (q :: r)) = _
    simp
theorem greedy_join {s y : Str} {k c : Nat} (S : Sep y k c) : ∀ (p : Str) (r : List Str) (pre : List Nat) (f n : Nat), cl s = pre ++ cl (Str.join y (p :: r)) → (∀ x ∈ p :: r, c ∉ cl x) → f ≤ pre.length → n = s.length + 1 - pre.length →
    greedy (occP s y) y.length n pre.length f = cutsOf y.length pre.length (p :: r)
  | p, [], pre, f, n, e, hc, hf, hn => by
    have ls : s.length = pre.length + p.length := by rw [← cl_length, e]; show (pre ++ cl p).length = _; simp [Str.length]
    rw [greedy_skip _ _ n n _ _ (fun i h1 h2 => fun h => no_at S (pre := pre) (p := cl p) (post := []) (by rw [e]; simp [Str.join]) (hc p (by simp)) (.inl rfl) h1 (.inr ⟨rfl, trivial⟩) h.2) (Nat.le_refl _)]
    simp [greedy, cutsOf]
  | p, q :: r, pre, f, n, e, hc, hf, hn => by
    rw [cl_join] at e
    have lp : p.length = (cl p).length := (cl_length p).symm
    have ly := cl_length y
    have hk : k < (cl y).length := (List.getElem?_eq_some_iff.mp S.at_).1
    have ls : s.length = pre.length + p.length + y.length + (cl (Str.join y (q :: r))).length := by rw [← cl_length, e]; simp [Str.length]; omega
    have e1 : cl s = pre ++ cl p ++ (cl y ++ cl (Str.join y (q :: r))) := by rw [e]; simp
    rw [greedy_skip _ _ p.length n _ _ (fun i h1 h2 => fun h => no_at S e1 (hc p (by simp)) (.inr ⟨_, rfl⟩) h1 (.inl (by omega)) h.2) (by omega)]
    have hat : occP s y (pre.length + p.length) = true := by
      have := at_sep (s := s) (y := y) (pre := pre ++ cl p) (post := cl (Str.join y (q :: r))) (by rw [e1]; simp)
      simpa [lp] using this
    obtain ⟨m, hm⟩ : ∃ m, n - p.length = m + 1 := ⟨n - p.length - 1, by omega⟩
    rw [hm, greedy, if_pos ⟨by omega, hat⟩, cutsOf]
    congr 1
    have e2 : cl s = (pre ++ cl p ++ cl y) ++ cl (Str.join y (q :: r)) := by rw [e]; simp
    have l2 : (pre ++ cl p ++ cl y).length = pre.length + p.length + y.length := by simp [Str.length]; omega
    have ih := greedy_join S q r (pre ++ cl p ++ cl y) (pre.length + p.length + y.length) (s.length + 1 - (pre.length + p.length + y.length)) e2 (fun x hx => hc x (List.mem_cons_of_mem _ hx)) (by omega) (by rw [l2])
    rw [l2] at ih
    rw [← ih, greedy_skip _ _ (y.length - 1) m _ _ (fun i h1 h2 => fun h => by omega) (by omega)]
    congr 1 <;> omega
theorem parts_join {s y : Str} : ∀ (p : Str) (r : List Str) (pre : List Nat), cl s = pre ++ cl (Str.join y (p :: r)) → partsFrom s y.length pre.length (cutsOf y.length pre.length (p :: r)) = p :: r
  | p, [], pre, e => by
    have ls : s.length = pre.length + p.length := by rw [← cl_length, e]; show (pre ++ cl p).length = _; simp [Str.length]
    rw [cutsOf, partsFrom]
    congr 1
    refine cl_inj ?_
    rw [cl_sub, e]
    show ((pre ++ cl p).drop pre.length).take (s.length - pre.length) = _
    rw [List.drop_left, List.take_of_length_le (by rw [cl_length]; omega)]
  | p, q :: r, pre, e => by
    rw [cl_join] at e
    rw [cutsOf, partsFrom]
    have lp := cl_length p
    congr 1
    · refine cl_inj ?_
      rw [cl_sub, e]
      rw [show pre ++ (cl p ++ cl y ++ cl (Str.join y (q :: r))) = pre ++ (cl p ++ (cl y ++ cl (Str.join y (q :: r)))) by simp, List.drop_left]
      rw [List.take_left' (by omega)]
    · have e2 : cl s = (pre ++ cl p ++ cl y) ++ cl (Str.join y (q :: r)) := by rw [e]; simp
      have l2 : (pre ++ cl p ++ cl y).length = pre.length + p.length + y.length := by simp [Str.length]; omega
      have ih := parts_join q r (pre ++ cl p ++ cl y) e2
      rw [l2] at ih
      exact ih
theorem kind_le {x y : Str} (hy : y.cps.all (· < 256) = true) : decide (Builtin.Str.strKind x < Builtin.Str.strKind y) = false := by
  have h1 : Builtin.Str.strKind y = 1 := by unfold Builtin.Str.strKind; rw [if_pos hy]
  have h2 : 1 ≤ Builtin.Str.strKind x := by unfold Builtin.Str.strKind; split <;> (try split) <;> omega
  exact decide_eq_false (by omega)
/-- what was put together is taken apart -/
theorem split_join {y : Str} {k c : Nat} (S : Sep y k c) (hy : y.cps.all (· < 256) = true) {xs : List Str} (hx : xs ≠ []) (hc : ∀ x ∈ xs, c ∉ cl x) : Txt.split (Txt.join y xs) y = xs := by
  obtain ⟨p, r, rfl⟩ : ∃ p r, xs = p :: r := by cases xs with | nil => exact absurd rfl hx | cons p r => exact ⟨p, r, rfl⟩
  have ej : Txt.join y (p :: r) = Str.join y (p :: r) := StrLaws.glued_eq_join y (p :: r)
  rw [ej]
  have g := greedy_join (s := Str.join y (p :: r)) S p r [] 0 _ (by simp) hc (Nat.le_refl _) rfl
  have q := parts_join (s := Str.join y (p :: r)) (y := y) p r [] (by simp)
  simp only [List.length_nil, Nat.sub_zero] at g q
  have o := occ_is (Str.join y (p :: r)) y ((Str.join y (p :: r)).length + 1)
  rw [List.take_of_length_le (greedy_len _ _ _ _ _), g] at o
  unfold Txt.split
  rw [kind_le hy, o]
  cases r with
  | nil => simp [cutsOf, Str.join]
  | cons z r =>
    have ll : ¬ (Str.join y (p :: z :: r)).length < y.length := by
      rw [← cl_length, cl_join]
      simp [Str.length]
      omega
    rw [if_neg (by simpa using ll), if_neg (by simp [cutsOf]), partsBetween_eq, q]
/-- the first place of a parting text -/
theorem partition_at {x y : Str} {k c : Nat} (S : Sep y k c) {p r : Str} (e : x = p ++ y ++ r) (hc : c ∉ cl p) : Txt.partition x y = (p, y, r) := by
  have e1 : cl x = [] ++ cl p ++ (cl y ++ cl r) := by rw [e]; simp
  have lx : x.length = p.length + y.length + r.length := by rw [← cl_length, e1]; simp [Str.length]; omega
  have g : occurrences x y 0 x.length 1 = [p.length] := by
    rw [occ_is, greedy_skip _ _ p.length _ _ _ (fun i h1 h2 => fun h => no_at S e1 hc (.inr ⟨_, rfl⟩) (Nat.zero_le _) (.inl (by rw [cl_length]; simpa using h2)) h.2) (by omega)]
    have hat : occP x y p.length = true := by
      have := at_sep (s := x) (y := y) (pre := cl p) (post := cl r) (by rw [e1]; simp)
      rwa [cl_length] at this
    obtain ⟨m, hm⟩ : ∃ m, x.length + 1 - p.length = m + 1 := ⟨x.length - p.length, by omega⟩
    rw [hm, Nat.zero_add, greedy, if_pos ⟨Nat.zero_le _, hat⟩]
    rfl
  unfold Txt.partition
  rw [g]
  dsimp only
  have a1 : strSub x 0 p.length = p := cl_inj (by
    rw [cl_sub, e1]
    simp only [List.nil_append, List.drop_zero, Nat.sub_zero]
    rw [List.take_left' (cl_length p)])
  have a2 : strSub x (p.length + y.length) x.length = r := cl_inj (by
    rw [cl_sub, e1]
    have : [] ++ cl p ++ (cl y ++ cl r) = (cl p ++ cl y) ++ cl r := by simp
    rw [this, List.drop_left' (by simp [Str.length]), List.take_of_length_le (by rw [cl_length]; omega)])
  rw [a1, a2]
theorem partition_not {x y : Str} {k c : Nat} (S : Sep y k c) (hc : c ∉ cl x) : Txt.partition x y = (x, Str.empty, Str.empty) := by
  have g : occurrences x y 0 x.length 1 = [] := by
    rw [occ_is, greedy_skip _ _ (x.length + 1) _ _ _ (fun i h1 h2 => fun h => no_at S (pre := []) (p := cl x) (post := []) (by simp) hc (.inl rfl) (Nat.zero_le _) (.inr ⟨rfl, trivial⟩) h.2) (Nat.le_refl _)]
    simp [greedy]
  unfold Txt.partition
  rw [g]
end Cc

set_option linter.all false
set_option maxRecDepth 100000
/-! printed by game.py: the game's defs, their places in the text open -/
namespace Cg
open PySem Cc
structure Ix where
  right_of : Nat
  hand_row : Nat
  house_row : Nat
  start : Nat
  excludes : Nat
  clash : Nat
  renamed : Nat
  Hall_I : Nat
  Hall_standing : Nat
  Hall_post : Nat
  Hall_taken_off : Nat
  Hall_tell : Nat
  Hall_load : Nat
  Hall_hand_act : Nat
  Hall_meant : Nat
  Hall_house_act : Nat
  Deed_I : Nat
  Ask_I : Nat
  Ask_row : Nat
  Ask_is_there : Nat
  Ask_done : Nat
  Take_I : Nat
  Take_is_there : Nat
  Take_row : Nat
  Take_done : Nat
  Get_I : Nat
  Get_is_there : Nat
  Get_is_last : Nat
  Get_row : Nat
  Get_done : Nat
  deed_of : Nat
  places : Nat
  may_come : Nat
  asks_of : Nat
  may : Nat
  step : Nat
  play : Nat
  c_Hall : Nat
  c_Ask : Nat
  c_Take : Nat
  c_Get : Nat
  c_NoDeed : Nat
def b_right_of (I : Ix) : Sx := Sx.seq (Sx.for false [2, 3] false (Wk.seq) [Ex.idx (Ex.var 0) (Ex.const (PyData.int 0))] (Sx.ite (Bx.tru (Ex.cmp (Cop.eq) (Ex.var 2) (Ex.var 1))) (Sx.ret (Ex.var 3)) (Sx.pass))) (Sx.ret (Ex.const (PyData.str { cps := #[110, 111, 110, 101] })))
def b_hand_row (I : Ix) : Sx := Sx.seq
  (Sx.for
    false
    [3]
    true
    (Wk.seq)
    [Ex.idx (Ex.var 0) (Ex.const (PyData.int 2))]
    (Sx.ite
      (Bx.and
        (Bx.tru (Ex.cmp (Cop.eq) (Ex.idx (Ex.var 3) (Ex.const (PyData.int 0))) (Ex.const (PyData.str { cps := #[104, 97, 110, 100] }))))
        (Bx.and (Bx.tru (Ex.cmp (Cop.eq) (Ex.idx (Ex.var 3) (Ex.const (PyData.int 1))) (Ex.var 1))) (Bx.tru (Ex.cmp (Cop.eq) (Ex.idx (Ex.var 3) (Ex.const (PyData.int 2))) (Ex.var 2)))))
      (Sx.ret (Ex.var 3))
      (Sx.pass)))
  (Sx.ret (Ex.const (PyData.none)))
def b_house_row (I : Ix) : Sx := Sx.seq
  (Sx.assign (Tx.name 4) (Ex.tup [Ex.const (PyData.str { cps := #[97, 110, 121] }), Ex.ite (Bx.tru (Ex.var 3)) (Ex.const (PyData.str { cps := #[108, 97, 115, 116] })) (Ex.const (PyData.str { cps := #[109, 111, 114, 101] }))]))
  (Sx.seq
    (Sx.for
      false
      [5]
      true
      (Wk.seq)
      [Ex.idx (Ex.var 0) (Ex.const (PyData.int 2))]
      (Sx.ite
        (Bx.and
          (Bx.tru (Ex.cmp (Cop.eq) (Ex.idx (Ex.var 5) (Ex.const (PyData.int 0))) (Ex.const (PyData.str { cps := #[104, 111, 117, 115, 101] }))))
          (Bx.and (Bx.tru (Ex.cmp (Cop.eq) (Ex.idx (Ex.var 5) (Ex.const (PyData.int 1))) (Ex.var 1))) (Bx.and (Bx.tru (Ex.cmp (Cop.eq) (Ex.idx (Ex.var 5) (Ex.const (PyData.int 2))) (Ex.var 2))) (Bx.tru (Ex.cmp (Cop.isin) (Ex.idx (Ex.var 5) (Ex.const (PyData.int 3))) (Ex.var 4))))))
        (Sx.ret (Ex.var 5))
        (Sx.pass)))
    (Sx.ret (Ex.const (PyData.none))))
def b_start (I : Ix) : Sx := Sx.seq
  (Sx.assign (Tx.name 2) (Ex.tup [Ex.idx (Ex.idx (Ex.idx (Ex.var 0) (Ex.const (PyData.int 0))) (Ex.const (PyData.int 0))) (Ex.const (PyData.int 0)), Ex.const (PyData.none), Ex.const (PyData.int 0), Ex.tup [], Ex.tup [], Ex.const (PyData.int 0)]))
  (Sx.ret
    (Ex.tup [Ex.idx (Ex.idx (Ex.var 0) (Ex.const (PyData.int 1))) (Ex.const (PyData.int 0)), Ex.tup [Ex.const (PyData.int 0), Ex.const (PyData.int 0)], Ex.tup [Ex.const (PyData.int 0), Ex.const (PyData.int 0)], Ex.bf (Bf.tuple) [Ex.comp [3] false false [3] true (Wk.rng1) [Ex.var 1] none (Ex.var 2)]]))
def b_excludes (I : Ix) : Sx := Sx.ret
  (Ex.or
    (Ex.and (Ex.cmp (Cop.eq) (Ex.var 0) (Ex.const (PyData.str { cps := #[119, 114, 105, 116, 101] }))) (Ex.cmp (Cop.ne) (Ex.var 1) (Ex.const (PyData.str { cps := #[110, 111, 110, 101] }))))
    (Ex.and (Ex.cmp (Cop.eq) (Ex.var 1) (Ex.const (PyData.str { cps := #[119, 114, 105, 116, 101] }))) (Ex.cmp (Cop.ne) (Ex.var 0) (Ex.const (PyData.str { cps := #[110, 111, 110, 101] })))))
def b_clash (I : Ix) : Sx := Sx.seq
  (Sx.assign (Tx.name 2) (Ex.comp [4] false false [4] true (Wk.seq) [Ex.idx (Ex.var 1) (Ex.const (PyData.int 3))] none (Ex.call (Cm.frz) I.right_of [Ex.var 0, Ex.idx (Ex.var 4) (Ex.const (PyData.int 0))])))
  (Sx.seq
    (Sx.for false [3] true (Wk.rng1) [Ex.bf (Bf.len) [Ex.var 2]] (Sx.ite (Bx.tru (Ex.bf (Bf.any) [Ex.comp [5] false false [5] true (Wk.seq) [Ex.slice (Ex.var 2) none (some (Ex.var 3))] none (Ex.call (Cm.frz) I.excludes [Ex.idx (Ex.var 2) (Ex.var 3), Ex.var 5])])) (Sx.ret (Ex.const (PyData.bool true))) (Sx.pass)))
    (Sx.ret (Ex.const (PyData.bool false))))
def b_renamed (I : Ix) : Sx := Sx.seq (Sx.assign (Tx.name 2) (Ex.idx (Ex.var 0) (Ex.const (PyData.int 3)))) (Sx.ret (Ex.bin (Bop.add) (Ex.slice (Ex.var 0) none (some (Ex.const (PyData.int 3)))) (Ex.tup [Ex.bf (Bf.tuple) [Ex.comp [3] false false [3] true (Wk.seq) [Ex.var 1] none (Ex.idx (Ex.var 2) (Ex.var 3))]])))
def b_Hall_I (I : Ix) : Sx := Sx.seq
  (Sx.unpack [Tx.fld (Ex.var 0) { cps := #[104, 111, 117, 115, 101] }, Tx.fld (Ex.var 0) { cps := #[115, 116, 111, 114, 101] }, Tx.fld (Ex.var 0) { cps := #[108, 97, 115, 116] }, Tx.name 2] (Ex.var 1))
  (Sx.seq
    (Sx.assign (Tx.fld (Ex.var 0) { cps := #[108, 105, 110, 101, 115] }) (Ex.comp [3] true false [3] true (Wk.seq) [Ex.var 2] none (Ex.cell (Ex.bf (Bf.list) [Ex.var 3]))))
    (Sx.seq (Sx.assign (Tx.fld (Ex.var 0) { cps := #[97, 110, 115, 119, 101, 114] }) (Ex.const (PyData.none))) (Sx.assign (Tx.fld (Ex.var 0) { cps := #[98, 114, 111, 107, 101, 110] }) (Ex.const (PyData.none)))))
def b_Hall_standing (I : Ix) : Sx := Sx.ret (Ex.tup [Ex.fld (Ex.var 0) { cps := #[104, 111, 117, 115, 101] }, Ex.fld (Ex.var 0) { cps := #[115, 116, 111, 114, 101] }, Ex.fld (Ex.var 0) { cps := #[108, 97, 115, 116] }, Ex.bf (Bf.tuple) [Ex.comp [1] false false [1] true (Wk.seq) [Ex.fld (Ex.var 0) { cps := #[108, 105, 110, 101, 115] }] none (Ex.bf (Bf.tuple) [Ex.var 1])]])
def b_Hall_post (I : Ix) : Sx := Sx.seq
  (Sx.assign (Tx.name 5) (Ex.idx (Ex.idx (Ex.fld (Ex.var 0) { cps := #[108, 105, 110, 101, 115] }) (Ex.var 1)) (Ex.var 2)))
  (Sx.ite
    (Bx.tru (Ex.cmp (Cop.eq) (Ex.bf (Bf.len) [Ex.var 5]) (Ex.const (PyData.int 2))))
    (Sx.assign (Tx.fld (Ex.var 0) { cps := #[98, 114, 111, 107, 101, 110] }) (Ex.tup [Ex.const (PyData.str { cps := #[102, 117, 108, 108] })]))
    (Sx.assign (Tx.sub (Ex.idx (Ex.fld (Ex.var 0) { cps := #[108, 105, 110, 101, 115] }) (Ex.var 1)) (Ex.var 2)) (Ex.bin (Bop.add) (Ex.var 5) (Ex.tup [Ex.tup [Ex.var 3, Ex.var 4]]))))
def b_Hall_taken_off (I : Ix) : Sx := Sx.seq
  (Sx.assign (Tx.name 4) (Ex.idx (Ex.idx (Ex.fld (Ex.var 0) { cps := #[108, 105, 110, 101, 115] }) (Ex.var 1)) (Ex.var 2)))
  (Sx.seq (Sx.assign (Tx.sub (Ex.idx (Ex.fld (Ex.var 0) { cps := #[108, 105, 110, 101, 115] }) (Ex.var 1)) (Ex.var 2)) (Ex.bin (Bop.add) (Ex.slice (Ex.var 4) none (some (Ex.var 3))) (Ex.slice (Ex.var 4) (some (Ex.bin (Bop.add) (Ex.var 3) (Ex.const (PyData.int 1)))) none))) (Sx.ret (Ex.idx (Ex.var 4) (Ex.var 3))))
def b_Hall_tell (I : Ix) : Sx := Sx.ite
  (Bx.or (Bx.tru (Ex.cmp (Cop.is_) (Ex.var 2) (Ex.const (PyData.none)))) (Bx.tru (Ex.cmp (Cop.ne) (Ex.idx (Ex.var 2) (Ex.const (PyData.int 0))) (Ex.idx (Ex.fld (Ex.var 0) { cps := #[108, 97, 115, 116] }) (Ex.const (PyData.int 0))))))
  (Sx.assign (Tx.fld (Ex.var 0) { cps := #[98, 114, 111, 107, 101, 110] }) (Ex.tup [Ex.const (PyData.str { cps := #[111, 108, 100] })]))
  (Sx.assign (Tx.fld (Ex.var 0) { cps := #[97, 110, 115, 119, 101, 114] }) (Ex.tup [Ex.const (PyData.str { cps := #[114, 101, 97, 100] }), Ex.var 1, Ex.idx (Ex.var 2) (Ex.const (PyData.int 1))]))
def b_Hall_load (I : Ix) : Sx := Sx.seq (Sx.ite (Bx.tru (Ex.cmp (Cop.eq) (Ex.var 1) (Ex.const (PyData.str { cps := #[118, 97, 108, 117, 101] })))) (Sx.ret (Ex.var 2)) (Sx.pass)) (Sx.ret (Ex.const (PyData.none)))
def b_Hall_hand_act (I : Ix) : Sx := Sx.seq
  (Sx.assign (Tx.name 4) (Ex.idx (Ex.fld (Ex.var 0) { cps := #[108, 105, 110, 101, 115] }) (Ex.var 1)))
  (Sx.ite
    (Bx.tru (Ex.cmp (Cop.eq) (Ex.idx (Ex.var 2) (Ex.const (PyData.int 0))) (Ex.const (PyData.str { cps := #[107, 101, 101, 112] }))))
    (Sx.assign (Tx.sub (Ex.var 4) (Ex.const (PyData.int 1))) (Ex.var 3))
    (Sx.ite
      (Bx.tru (Ex.cmp (Cop.eq) (Ex.idx (Ex.var 2) (Ex.const (PyData.int 0))) (Ex.const (PyData.str { cps := #[108, 111, 115, 101] }))))
      (Sx.assign (Tx.sub (Ex.var 4) (Ex.const (PyData.int 1))) (Ex.const (PyData.none)))
      (Sx.ite
        (Bx.tru (Ex.cmp (Cop.eq) (Ex.idx (Ex.var 2) (Ex.const (PyData.int 0))) (Ex.const (PyData.str { cps := #[112, 117, 116] }))))
        (Sx.seq
          (Sx.assign (Tx.fld (Ex.var 0) { cps := #[108, 97, 115, 116] }) (Ex.tup [Ex.bin (Bop.add) (Ex.idx (Ex.fld (Ex.var 0) { cps := #[108, 97, 115, 116] }) (Ex.const (PyData.int 0))) (Ex.const (PyData.int 1)), Ex.idx (Ex.var 4) (Ex.const (PyData.int 2))]))
          (Sx.seq (Sx.assign (Tx.sub (Ex.var 4) (Ex.const (PyData.int 1))) (Ex.fld (Ex.var 0) { cps := #[108, 97, 115, 116] })) (Sx.assign (Tx.fld (Ex.var 0) { cps := #[97, 110, 115, 119, 101, 114] }) (Ex.tup [Ex.const (PyData.str { cps := #[119, 114, 111, 116, 101] }), Ex.var 1, Ex.idx (Ex.var 4) (Ex.const (PyData.int 2))]))))
        (Sx.ite
          (Bx.tru (Ex.cmp (Cop.eq) (Ex.idx (Ex.var 2) (Ex.const (PyData.int 0))) (Ex.const (PyData.str { cps := #[116, 101, 108, 108] }))))
          (Sx.expr (Ex.meth (Ex.var 0) { cps := #[116, 101, 108, 108] } [Ex.var 1, Ex.idx (Ex.var 4) (Ex.const (PyData.int 1))]))
          (Sx.expr (Ex.meth (Ex.var 0) { cps := #[112, 111, 115, 116] } [Ex.var 1, Ex.const (PyData.int 4), Ex.idx (Ex.var 2) (Ex.const (PyData.int 1)), Ex.meth (Ex.var 0) { cps := #[108, 111, 97, 100] } [Ex.idx (Ex.var 2) (Ex.const (PyData.int 2)), Ex.idx (Ex.var 4) (Ex.const (PyData.int 1))]]))))))
def b_Hall_meant (I : Ix) : Sx := Sx.seq
  (Sx.ite
    (Bx.tru (Ex.cmp (Cop.eq) (Ex.var 2) (Ex.const (PyData.str { cps := #[111, 119, 110, 101, 114] }))))
    (Sx.ret
      (Ex.comp
        [3]
        false
        false
        [3]
        true
        (Wk.rng1)
        [Ex.bf (Bf.len) [Ex.fld (Ex.var 0) { cps := #[108, 105, 110, 101, 115] }]]
        (some (Bx.tru (Ex.cmp (Cop.ne) (Ex.bin (Bop.band) (Ex.idx (Ex.idx (Ex.fld (Ex.var 0) { cps := #[108, 105, 110, 101, 115] }) (Ex.var 3)) (Ex.const (PyData.int 5))) (Ex.const (PyData.int 2))) (Ex.const (PyData.int 0)))))
        (Ex.var 3)))
    (Sx.pass))
  (Sx.ret
    (Ex.comp
      [3]
      false
      false
      [3]
      true
      (Wk.rng1)
      [Ex.bf (Bf.len) [Ex.fld (Ex.var 0) { cps := #[108, 105, 110, 101, 115] }]]
      (some (Bx.and (Bx.tru (Ex.cmp (Cop.ne) (Ex.var 3) (Ex.var 1))) (Bx.tru (Ex.cmp (Cop.ne) (Ex.bin (Bop.band) (Ex.idx (Ex.idx (Ex.fld (Ex.var 0) { cps := #[108, 105, 110, 101, 115] }) (Ex.var 3)) (Ex.const (PyData.int 5))) (Ex.const (PyData.int 1))) (Ex.const (PyData.int 0))))))
      (Ex.var 3)))
def b_Hall_house_act (I : Ix) : Sx := Sx.ite
  (Bx.tru (Ex.cmp (Cop.eq) (Ex.idx (Ex.var 2) (Ex.const (PyData.int 0))) (Ex.const (PyData.str { cps := #[107, 101, 101, 112] }))))
  (Sx.assign (Tx.fld (Ex.var 0) { cps := #[115, 116, 111, 114, 101] }) (Ex.var 3))
  (Sx.ite
    (Bx.tru (Ex.cmp (Cop.eq) (Ex.idx (Ex.var 2) (Ex.const (PyData.int 0))) (Ex.const (PyData.str { cps := #[115, 101, 110, 100] }))))
    (Sx.expr (Ex.meth (Ex.var 0) { cps := #[112, 111, 115, 116] } [Ex.var 1, Ex.const (PyData.int 3), Ex.idx (Ex.var 2) (Ex.const (PyData.int 1)), Ex.meth (Ex.var 0) { cps := #[108, 111, 97, 100] } [Ex.idx (Ex.var 2) (Ex.const (PyData.int 2)), Ex.fld (Ex.var 0) { cps := #[115, 116, 111, 114, 101] }]]))
    (Sx.ite
      (Bx.or (Bx.tru (Ex.cmp (Cop.eq) (Ex.idx (Ex.var 2) (Ex.const (PyData.int 0))) (Ex.const (PyData.str { cps := #[111, 119, 110, 101, 114] })))) (Bx.tru (Ex.cmp (Cop.eq) (Ex.idx (Ex.var 2) (Ex.const (PyData.int 0))) (Ex.const (PyData.str { cps := #[111, 116, 104, 101, 114, 115] })))))
      (Sx.for
        false
        [4]
        true
        (Wk.seq)
        [Ex.meth (Ex.var 0) { cps := #[109, 101, 97, 110, 116] } [Ex.var 1, Ex.idx (Ex.var 2) (Ex.const (PyData.int 0))]]
        (Sx.ite
          (Bx.tru (Ex.cmp (Cop.is_) (Ex.fld (Ex.var 0) { cps := #[98, 114, 111, 107, 101, 110] }) (Ex.const (PyData.none))))
          (Sx.expr (Ex.meth (Ex.var 0) { cps := #[112, 111, 115, 116] } [Ex.var 4, Ex.const (PyData.int 3), Ex.idx (Ex.var 2) (Ex.const (PyData.int 1)), Ex.meth (Ex.var 0) { cps := #[108, 111, 97, 100] } [Ex.idx (Ex.var 2) (Ex.const (PyData.int 2)), Ex.fld (Ex.var 0) { cps := #[115, 116, 111, 114, 101] }]]))
          (Sx.pass)))
      (Sx.ite
        (Bx.tru (Ex.cmp (Cop.eq) (Ex.idx (Ex.var 2) (Ex.const (PyData.int 0))) (Ex.const (PyData.str { cps := #[111, 119, 110] }))))
        (Sx.assign (Tx.sub (Ex.idx (Ex.fld (Ex.var 0) { cps := #[108, 105, 110, 101, 115] }) (Ex.var 1)) (Ex.const (PyData.int 5))) (Ex.bin (Bop.bor) (Ex.idx (Ex.idx (Ex.fld (Ex.var 0) { cps := #[108, 105, 110, 101, 115] }) (Ex.var 1)) (Ex.const (PyData.int 5))) (Ex.const (PyData.int 2))))
        (Sx.ite
          (Bx.tru (Ex.cmp (Cop.eq) (Ex.idx (Ex.var 2) (Ex.const (PyData.int 0))) (Ex.const (PyData.str { cps := #[115, 104, 97, 114, 101] }))))
          (Sx.assign (Tx.sub (Ex.idx (Ex.fld (Ex.var 0) { cps := #[108, 105, 110, 101, 115] }) (Ex.var 1)) (Ex.const (PyData.int 5))) (Ex.bin (Bop.bor) (Ex.idx (Ex.idx (Ex.fld (Ex.var 0) { cps := #[108, 105, 110, 101, 115] }) (Ex.var 1)) (Ex.const (PyData.int 5))) (Ex.const (PyData.int 1))))
          (Sx.ite
            (Bx.tru (Ex.cmp (Cop.eq) (Ex.idx (Ex.var 2) (Ex.const (PyData.int 0))) (Ex.const (PyData.str { cps := #[102, 111, 114, 103, 101, 116] }))))
            (Sx.assign (Tx.sub (Ex.idx (Ex.fld (Ex.var 0) { cps := #[108, 105, 110, 101, 115] }) (Ex.var 1)) (Ex.const (PyData.int 5))) (Ex.const (PyData.int 0)))
            (Sx.ite
              (Bx.tru (Ex.cmp (Cop.eq) (Ex.idx (Ex.var 2) (Ex.const (PyData.int 0))) (Ex.const (PyData.str { cps := #[99, 108, 101, 97, 114] }))))
              (Sx.for false [5] true (Wk.seq) [Ex.fld (Ex.var 0) { cps := #[108, 105, 110, 101, 115] }] (Sx.assign (Tx.sub (Ex.var 5) (Ex.const (PyData.int 5))) (Ex.const (PyData.int 0))))
              (Sx.pass)))))))
def b_Deed_I (I : Ix) : Sx := Sx.assign (Tx.fld (Ex.var 0) { cps := #[104, 97, 110, 100] }) (Ex.var 1)
def b_Ask_I (I : Ix) : Sx := Sx.seq (Sx.expr (Ex.call (Cm.frz) I.Deed_I [Ex.var 0, Ex.var 1])) (Sx.seq (Sx.assign (Tx.fld (Ex.var 0) { cps := #[119, 111, 114, 100] }) (Ex.var 2)) (Sx.assign (Tx.fld (Ex.var 0) { cps := #[110, 117, 109, 98, 101, 114] }) (Ex.var 3)))
def b_Ask_row (I : Ix) : Sx := Sx.ret (Ex.call (Cm.frz) I.hand_row [Ex.var 1, Ex.idx (Ex.idx (Ex.idx (Ex.var 2) (Ex.const (PyData.int 3))) (Ex.fld (Ex.var 0) { cps := #[104, 97, 110, 100] })) (Ex.const (PyData.int 0)), Ex.fld (Ex.var 0) { cps := #[119, 111, 114, 100] }])
def b_Ask_is_there (I : Ix) : Sx := Sx.ret (Ex.const (PyData.bool true))
def b_Ask_done (I : Ix) : Sx := Sx.seq
  (Sx.ite
    (Bx.tru (Ex.cmp (Cop.eq) (Ex.fld (Ex.var 0) { cps := #[119, 111, 114, 100] }) (Ex.const (PyData.str { cps := #[119, 114, 105, 116, 101] }))))
    (Sx.assign (Tx.sub (Ex.idx (Ex.fld (Ex.var 1) { cps := #[108, 105, 110, 101, 115] }) (Ex.fld (Ex.var 0) { cps := #[104, 97, 110, 100] })) (Ex.const (PyData.int 2))) (Ex.fld (Ex.var 0) { cps := #[110, 117, 109, 98, 101, 114] }))
    (Sx.pass))
  (Sx.for
    false
    [3]
    true
    (Wk.seq)
    [Ex.var 2]
    (Sx.ite (Bx.tru (Ex.cmp (Cop.is_) (Ex.fld (Ex.var 1) { cps := #[98, 114, 111, 107, 101, 110] }) (Ex.const (PyData.none)))) (Sx.expr (Ex.meth (Ex.var 1) { cps := #[104, 97, 110, 100, 95, 97, 99, 116] } [Ex.fld (Ex.var 0) { cps := #[104, 97, 110, 100] }, Ex.var 3, Ex.const (PyData.none)])) (Sx.pass)))
def b_Take_I (I : Ix) : Sx := Sx.seq (Sx.expr (Ex.call (Cm.frz) I.Deed_I [Ex.var 0, Ex.var 1])) (Sx.assign (Tx.fld (Ex.var 0) { cps := #[107] }) (Ex.var 2))
def b_Take_is_there (I : Ix) : Sx := Sx.ret (Ex.cmp (Cop.lt) (Ex.fld (Ex.var 0) { cps := #[107] }) (Ex.bf (Bf.len) [Ex.idx (Ex.idx (Ex.idx (Ex.var 1) (Ex.const (PyData.int 3))) (Ex.fld (Ex.var 0) { cps := #[104, 97, 110, 100] })) (Ex.const (PyData.int 3))]))
def b_Take_row (I : Ix) : Sx := Sx.seq
  (Sx.assign (Tx.name 3) (Ex.idx (Ex.idx (Ex.var 2) (Ex.const (PyData.int 3))) (Ex.fld (Ex.var 0) { cps := #[104, 97, 110, 100] })))
  (Sx.ret (Ex.call (Cm.frz) I.hand_row [Ex.var 1, Ex.idx (Ex.var 3) (Ex.const (PyData.int 0)), Ex.idx (Ex.idx (Ex.idx (Ex.var 3) (Ex.const (PyData.int 3))) (Ex.fld (Ex.var 0) { cps := #[107] })) (Ex.const (PyData.int 0))]))
def b_Take_done (I : Ix) : Sx := Sx.seq
  (Sx.unpack [Tx.name 4, Tx.name 5] (Ex.meth (Ex.var 1) { cps := #[116, 97, 107, 101, 110, 95, 111, 102, 102] } [Ex.fld (Ex.var 0) { cps := #[104, 97, 110, 100] }, Ex.const (PyData.int 3), Ex.fld (Ex.var 0) { cps := #[107] }]))
  (Sx.for false [3] true (Wk.seq) [Ex.var 2] (Sx.ite (Bx.tru (Ex.cmp (Cop.is_) (Ex.fld (Ex.var 1) { cps := #[98, 114, 111, 107, 101, 110] }) (Ex.const (PyData.none)))) (Sx.expr (Ex.meth (Ex.var 1) { cps := #[104, 97, 110, 100, 95, 97, 99, 116] } [Ex.fld (Ex.var 0) { cps := #[104, 97, 110, 100] }, Ex.var 3, Ex.var 5])) (Sx.pass)))
def b_Get_I (I : Ix) : Sx := Sx.seq (Sx.expr (Ex.call (Cm.frz) I.Deed_I [Ex.var 0, Ex.var 1])) (Sx.assign (Tx.fld (Ex.var 0) { cps := #[107] }) (Ex.var 2))
def b_Get_is_there (I : Ix) : Sx := Sx.ret (Ex.cmp (Cop.lt) (Ex.fld (Ex.var 0) { cps := #[107] }) (Ex.bf (Bf.len) [Ex.idx (Ex.idx (Ex.idx (Ex.var 1) (Ex.const (PyData.int 3))) (Ex.fld (Ex.var 0) { cps := #[104, 97, 110, 100] })) (Ex.const (PyData.int 4))]))
def b_Get_is_last (I : Ix) : Sx := Sx.seq
  (Sx.assign (Tx.name 2) (Ex.idx (Ex.var 1) (Ex.const (PyData.int 3))))
  (Sx.ret
    (Ex.not
      (Ex.bf
        (Bf.any)
        [Ex.comp
           [3]
           false
           false
           [3]
           true
           (Wk.rng1)
           [Ex.bf (Bf.len) [Ex.var 2]]
           (some (Bx.tru (Ex.cmp (Cop.ne) (Ex.var 3) (Ex.fld (Ex.var 0) { cps := #[104, 97, 110, 100] }))))
           (Ex.cmp (Cop.ne) (Ex.bin (Bop.band) (Ex.idx (Ex.idx (Ex.var 2) (Ex.var 3)) (Ex.const (PyData.int 5))) (Ex.const (PyData.int 1))) (Ex.const (PyData.int 0)))])))
def b_Get_row (I : Ix) : Sx := Sx.seq
  (Sx.assign (Tx.name 3) (Ex.idx (Ex.idx (Ex.idx (Ex.idx (Ex.idx (Ex.var 2) (Ex.const (PyData.int 3))) (Ex.fld (Ex.var 0) { cps := #[104, 97, 110, 100] })) (Ex.const (PyData.int 4))) (Ex.fld (Ex.var 0) { cps := #[107] })) (Ex.const (PyData.int 0))))
  (Sx.ret (Ex.call (Cm.frz) I.house_row [Ex.var 1, Ex.idx (Ex.var 2) (Ex.const (PyData.int 0)), Ex.var 3, Ex.meth (Ex.var 0) { cps := #[105, 115, 95, 108, 97, 115, 116] } [Ex.var 2]]))
def b_Get_done (I : Ix) : Sx := Sx.seq
  (Sx.unpack [Tx.name 4, Tx.name 5] (Ex.idx (Ex.idx (Ex.idx (Ex.fld (Ex.var 1) { cps := #[108, 105, 110, 101, 115] }) (Ex.fld (Ex.var 0) { cps := #[104, 97, 110, 100] })) (Ex.const (PyData.int 4))) (Ex.fld (Ex.var 0) { cps := #[107] })))
  (Sx.seq
    (Sx.ite (Bx.tru (Ex.cmp (Cop.notin) (Ex.tup [Ex.const (PyData.str { cps := #[115, 116, 97, 121] })]) (Ex.var 2))) (Sx.expr (Ex.meth (Ex.var 1) { cps := #[116, 97, 107, 101, 110, 95, 111, 102, 102] } [Ex.fld (Ex.var 0) { cps := #[104, 97, 110, 100] }, Ex.const (PyData.int 4), Ex.fld (Ex.var 0) { cps := #[107] }])) (Sx.pass))
    (Sx.for false [3] true (Wk.seq) [Ex.var 2] (Sx.ite (Bx.tru (Ex.cmp (Cop.is_) (Ex.fld (Ex.var 1) { cps := #[98, 114, 111, 107, 101, 110] }) (Ex.const (PyData.none)))) (Sx.expr (Ex.meth (Ex.var 1) { cps := #[104, 111, 117, 115, 101, 95, 97, 99, 116] } [Ex.fld (Ex.var 0) { cps := #[104, 97, 110, 100] }, Ex.var 3, Ex.var 5])) (Sx.pass))))
def b_deed_of (I : Ix) : Sx := Sx.seq
  (Sx.ite
    (Bx.and (Bx.tru (Ex.cmp (Cop.eq) (Ex.idx (Ex.var 0) (Ex.const (PyData.int 0))) (Ex.const (PyData.str { cps := #[97, 115, 107] })))) (Bx.tru (Ex.cmp (Cop.eq) (Ex.idx (Ex.var 0) (Ex.const (PyData.int 2))) (Ex.const (PyData.str { cps := #[119, 114, 105, 116, 101] })))))
    (Sx.ret (Ex.make I.c_Ask [Ex.idx (Ex.var 0) (Ex.const (PyData.int 1)), Ex.const (PyData.str { cps := #[119, 114, 105, 116, 101] }), Ex.idx (Ex.var 0) (Ex.const (PyData.int 3))]))
    (Sx.pass))
  (Sx.seq
    (Sx.ite (Bx.tru (Ex.cmp (Cop.eq) (Ex.idx (Ex.var 0) (Ex.const (PyData.int 0))) (Ex.const (PyData.str { cps := #[97, 115, 107] })))) (Sx.ret (Ex.make I.c_Ask [Ex.idx (Ex.var 0) (Ex.const (PyData.int 1)), Ex.idx (Ex.var 0) (Ex.const (PyData.int 2)), Ex.const (PyData.int 0)])) (Sx.pass))
    (Sx.seq
      (Sx.ite (Bx.tru (Ex.cmp (Cop.eq) (Ex.idx (Ex.var 0) (Ex.const (PyData.int 0))) (Ex.const (PyData.str { cps := #[116, 97, 107, 101] })))) (Sx.ret (Ex.make I.c_Take [Ex.idx (Ex.var 0) (Ex.const (PyData.int 1)), Ex.idx (Ex.var 0) (Ex.const (PyData.int 2))])) (Sx.pass))
      (Sx.ret (Ex.make I.c_Get [Ex.idx (Ex.var 0) (Ex.const (PyData.int 1)), Ex.idx (Ex.var 0) (Ex.const (PyData.int 2))]))))
def b_places (I : Ix) : Sx := Sx.seq (Sx.ite (Bx.tru (Ex.var 1)) (Sx.ret (Ex.bf (Bf.lrng) [Ex.bf (Bf.min2) [Ex.const (PyData.int 1), Ex.bf (Bf.len) [Ex.var 0]]])) (Sx.pass)) (Sx.ret (Ex.bf (Bf.lrng) [Ex.bf (Bf.len) [Ex.var 0]]))
def b_may_come (I : Ix) : Sx := Sx.seq
  (Sx.assign (Tx.name 4) (Ex.call (Cm.keep) I.deed_of [Ex.tup [Ex.const (PyData.str { cps := #[103, 101, 116] }), Ex.var 2, Ex.var 3]]))
  (Sx.seq
    (Sx.assign (Tx.name 5) (Ex.meth (Ex.var 4) { cps := #[114, 111, 119] } [Ex.var 0, Ex.var 1]))
    (Sx.ret (Ex.or (Ex.cmp (Cop.is_) (Ex.var 5) (Ex.const (PyData.none))) (Ex.cmp (Cop.ne) (Ex.idx (Ex.var 5) (Ex.neg (Ex.const (PyData.int 1)))) (Ex.const (PyData.tuple [PyData.tuple [PyData.str { cps := #[119, 97, 105, 116] }]]))))))
def b_asks_of (I : Ix) : Sx := Sx.seq
  (Sx.assign (Tx.name 3) (Ex.lst true []))
  (Sx.seq
    (Sx.ite
      (Bx.tru (Ex.cmp (Cop.isnot) (Ex.call (Cm.frz) I.hand_row [Ex.var 0, Ex.var 1, Ex.const (PyData.str { cps := #[114, 101, 97, 100] })]) (Ex.const (PyData.none))))
      (Sx.expr (Ex.mut (Mt.append) (Ex.var 3) [Ex.tup [Ex.const (PyData.str { cps := #[97, 115, 107] }), Ex.var 2, Ex.const (PyData.str { cps := #[114, 101, 97, 100] })]]))
      (Sx.pass))
    (Sx.seq
      (Sx.ite
        (Bx.tru (Ex.cmp (Cop.isnot) (Ex.call (Cm.frz) I.hand_row [Ex.var 0, Ex.var 1, Ex.const (PyData.str { cps := #[119, 114, 105, 116, 101] })]) (Ex.const (PyData.none))))
        (Sx.expr (Ex.mut (Mt.append) (Ex.var 3) [Ex.tup [Ex.const (PyData.str { cps := #[97, 115, 107] }), Ex.var 2, Ex.const (PyData.str { cps := #[119, 114, 105, 116, 101] }), Ex.const (PyData.int 0)]]))
        (Sx.pass))
      (Sx.seq
        (Sx.ite
          (Bx.tru (Ex.cmp (Cop.isnot) (Ex.call (Cm.frz) I.hand_row [Ex.var 0, Ex.var 1, Ex.const (PyData.str { cps := #[100, 114, 111, 112] })]) (Ex.const (PyData.none))))
          (Sx.expr (Ex.mut (Mt.append) (Ex.var 3) [Ex.tup [Ex.const (PyData.str { cps := #[97, 115, 107] }), Ex.var 2, Ex.const (PyData.str { cps := #[100, 114, 111, 112] })]]))
          (Sx.pass))
        (Sx.ret (Ex.var 3)))))
def b_may (I : Ix) : Sx := Sx.seq
  (Sx.assign (Tx.name 3) (Ex.lst true []))
  (Sx.seq
    (Sx.for
      false
      [4]
      true
      (Wk.rng1)
      [Ex.bf (Bf.len) [Ex.idx (Ex.var 1) (Ex.const (PyData.int 3))]]
      (Sx.seq
        (Sx.assign (Tx.name 5) (Ex.idx (Ex.idx (Ex.var 1) (Ex.const (PyData.int 3))) (Ex.var 4)))
        (Sx.seq
          (Sx.expr (Ex.mut (Mt.extend) (Ex.var 3) [Ex.call (Cm.frz) I.asks_of [Ex.var 0, Ex.idx (Ex.var 5) (Ex.const (PyData.int 0)), Ex.var 4]]))
          (Sx.seq
            (Sx.expr (Ex.mut (Mt.extend) (Ex.var 3) [Ex.comp [6] false false [6] true (Wk.seq) [Ex.call (Cm.frz) I.places [Ex.idx (Ex.var 5) (Ex.const (PyData.int 3)), Ex.var 2]] none (Ex.tup [Ex.const (PyData.str { cps := #[116, 97, 107, 101] }), Ex.var 4, Ex.var 6])]))
            (Sx.for
              false
              [6]
              true
              (Wk.seq)
              [Ex.call (Cm.frz) I.places [Ex.idx (Ex.var 5) (Ex.const (PyData.int 4)), Ex.var 2]]
              (Sx.ite (Bx.tru (Ex.call (Cm.frz) I.may_come [Ex.var 0, Ex.var 1, Ex.var 4, Ex.var 6])) (Sx.expr (Ex.mut (Mt.append) (Ex.var 3) [Ex.tup [Ex.const (PyData.str { cps := #[103, 101, 116] }), Ex.var 4, Ex.var 6]])) (Sx.pass)))))))
    (Sx.ret (Ex.var 3)))
def b_step (I : Ix) : Sx := Sx.seq
  (Sx.ite
    (Bx.or
      (Bx.not (Bx.tru (Ex.chain (Cop.le) (Cop.lt) (Ex.const (PyData.int 0)) (Ex.idx (Ex.var 2) (Ex.const (PyData.int 1))) (Ex.bf (Bf.len) [Ex.idx (Ex.var 1) (Ex.const (PyData.int 3))]))))
      (Bx.and (Bx.tru (Ex.cmp (Cop.ne) (Ex.idx (Ex.var 2) (Ex.const (PyData.int 0))) (Ex.const (PyData.str { cps := #[97, 115, 107] })))) (Bx.tru (Ex.cmp (Cop.lt) (Ex.idx (Ex.var 2) (Ex.const (PyData.int 2))) (Ex.const (PyData.int 0))))))
    (Sx.raise I.c_NoDeed [Ex.const (PyData.str { cps := #[110, 111, 32, 115, 117, 99, 104, 32, 100, 101, 101, 100] })])
    (Sx.pass))
  (Sx.seq
    (Sx.assign (Tx.name 3) (Ex.call (Cm.keep) I.deed_of [Ex.var 2]))
    (Sx.seq
      (Sx.ite (Bx.not (Bx.tru (Ex.meth (Ex.var 3) { cps := #[105, 115, 95, 116, 104, 101, 114, 101] } [Ex.var 1]))) (Sx.raise I.c_NoDeed [Ex.const (PyData.str { cps := #[110, 111, 32, 115, 117, 99, 104, 32, 108, 101, 116, 116, 101, 114] })]) (Sx.pass))
      (Sx.seq
        (Sx.assign (Tx.name 4) (Ex.meth (Ex.var 3) { cps := #[114, 111, 119] } [Ex.var 0, Ex.var 1]))
        (Sx.seq
          (Sx.ite
            (Bx.tru (Ex.cmp (Cop.is_) (Ex.var 4) (Ex.const (PyData.none))))
            (Sx.seq
              (Sx.ite (Bx.tru (Ex.cmp (Cop.eq) (Ex.idx (Ex.var 2) (Ex.const (PyData.int 0))) (Ex.const (PyData.str { cps := #[97, 115, 107] })))) (Sx.raise I.c_NoDeed [Ex.const (PyData.str { cps := #[110, 111, 32, 114, 111, 119, 32, 102, 111, 114, 32, 119, 104, 97, 116, 32, 105, 115, 32, 97, 115, 107, 101, 100] })]) (Sx.pass))
              (Sx.ret (Ex.tup [Ex.var 1, Ex.const (PyData.none), Ex.tup [Ex.const (PyData.str { cps := #[110, 111, 114, 111, 119] })]])))
            (Sx.pass))
          (Sx.seq
            (Sx.ite (Bx.tru (Ex.cmp (Cop.eq) (Ex.idx (Ex.var 4) (Ex.neg (Ex.const (PyData.int 1)))) (Ex.const (PyData.tuple [PyData.tuple [PyData.str { cps := #[119, 97, 105, 116] }]])))) (Sx.raise I.c_NoDeed [Ex.const (PyData.str { cps := #[116, 104, 101, 32, 108, 101, 116, 116, 101, 114, 32, 119, 97, 105, 116, 115] })]) (Sx.pass))
            (Sx.seq
              (Sx.assign (Tx.name 5) (Ex.make I.c_Hall [Ex.var 1]))
              (Sx.seq
                (Sx.expr (Ex.meth (Ex.var 3) { cps := #[100, 111, 110, 101] } [Ex.var 5, Ex.idx (Ex.var 4) (Ex.neg (Ex.const (PyData.int 1)))]))
                (Sx.seq
                  (Sx.ite (Bx.tru (Ex.cmp (Cop.isnot) (Ex.fld (Ex.var 5) { cps := #[98, 114, 111, 107, 101, 110] }) (Ex.const (PyData.none)))) (Sx.ret (Ex.tup [Ex.var 1, Ex.const (PyData.none), Ex.fld (Ex.var 5) { cps := #[98, 114, 111, 107, 101, 110] }])) (Sx.pass))
                  (Sx.seq
                    (Sx.ite
                      (Bx.tru (Ex.cmp (Cop.eq) (Ex.idx (Ex.var 4) (Ex.const (PyData.int 0))) (Ex.const (PyData.str { cps := #[104, 97, 110, 100] }))))
                      (Sx.assign (Tx.sub (Ex.idx (Ex.fld (Ex.var 5) { cps := #[108, 105, 110, 101, 115] }) (Ex.idx (Ex.var 2) (Ex.const (PyData.int 1)))) (Ex.const (PyData.int 0))) (Ex.idx (Ex.var 4) (Ex.const (PyData.int 3))))
                      (Sx.assign (Tx.fld (Ex.var 5) { cps := #[104, 111, 117, 115, 101] }) (Ex.idx (Ex.var 4) (Ex.const (PyData.int 4)))))
                    (Sx.seq
                      (Sx.assign (Tx.name 6) (Ex.meth (Ex.var 5) { cps := #[115, 116, 97, 110, 100, 105, 110, 103] } []))
                      (Sx.seq
                        (Sx.ite (Bx.tru (Ex.call (Cm.frz) I.clash [Ex.var 0, Ex.var 6])) (Sx.ret (Ex.tup [Ex.var 1, Ex.const (PyData.none), Ex.tup [Ex.const (PyData.str { cps := #[99, 108, 97, 115, 104] })]])) (Sx.pass))
                        (Sx.ret (Ex.tup [Ex.var 6, Ex.fld (Ex.var 5) { cps := #[97, 110, 115, 119, 101, 114] }, Ex.const (PyData.none)])))))))))))))
def b_play (I : Ix) : Sx := Sx.seq
  (Sx.assign (Tx.name 3) (Ex.call (Cm.frz) I.start [Ex.var 0, Ex.var 1]))
  (Sx.seq
    (Sx.assign (Tx.name 4) (Ex.lst true []))
    (Sx.seq
      (Sx.for
        false
        [5]
        true
        (Wk.seq)
        [Ex.var 2]
        (Sx.seq
          (Sx.unpack [Tx.name 3, Tx.name 6, Tx.name 7] (Ex.call (Cm.frz) I.step [Ex.var 0, Ex.var 3, Ex.var 5]))
          (Sx.seq (Sx.ite (Bx.tru (Ex.cmp (Cop.isnot) (Ex.var 7) (Ex.const (PyData.none)))) (Sx.ret (Ex.tup [Ex.var 3, Ex.var 4, Ex.var 7])) (Sx.pass)) (Sx.ite (Bx.tru (Ex.cmp (Cop.isnot) (Ex.var 6) (Ex.const (PyData.none)))) (Sx.expr (Ex.mut (Mt.append) (Ex.var 4) [Ex.var 6])) (Sx.pass)))))
      (Sx.ret (Ex.tup [Ex.var 3, Ex.var 4, Ex.const (PyData.none)]))))
structure Has (C : Cf) (I : Ix) : Prop where
  d_right_of : C.ds I.right_of = ⟨2, 4, b_right_of I⟩
  d_hand_row : C.ds I.hand_row = ⟨3, 4, b_hand_row I⟩
  d_house_row : C.ds I.house_row = ⟨4, 6, b_house_row I⟩
  d_excludes : C.ds I.excludes = ⟨2, 2, b_excludes I⟩
  d_clash : C.ds I.clash = ⟨2, 6, b_clash I⟩
  d_Hall_I : C.ds I.Hall_I = ⟨2, 4, b_Hall_I I⟩
  d_Hall_standing : C.ds I.Hall_standing = ⟨1, 2, b_Hall_standing I⟩
  d_Hall_post : C.ds I.Hall_post = ⟨5, 6, b_Hall_post I⟩
  d_Hall_taken_off : C.ds I.Hall_taken_off = ⟨4, 5, b_Hall_taken_off I⟩
  d_Hall_tell : C.ds I.Hall_tell = ⟨3, 3, b_Hall_tell I⟩
  d_Hall_load : C.ds I.Hall_load = ⟨3, 3, b_Hall_load I⟩
  d_Hall_hand_act : C.ds I.Hall_hand_act = ⟨4, 5, b_Hall_hand_act I⟩
  d_Hall_meant : C.ds I.Hall_meant = ⟨3, 4, b_Hall_meant I⟩
  d_Hall_house_act : C.ds I.Hall_house_act = ⟨4, 6, b_Hall_house_act I⟩
  d_Deed_I : C.ds I.Deed_I = ⟨2, 2, b_Deed_I I⟩
  d_Ask_I : C.ds I.Ask_I = ⟨4, 4, b_Ask_I I⟩
  d_Ask_row : C.ds I.Ask_row = ⟨3, 3, b_Ask_row I⟩
  d_Ask_is_there : C.ds I.Ask_is_there = ⟨2, 2, b_Ask_is_there I⟩
  d_Ask_done : C.ds I.Ask_done = ⟨3, 4, b_Ask_done I⟩
  d_Take_I : C.ds I.Take_I = ⟨3, 3, b_Take_I I⟩
  d_Take_is_there : C.ds I.Take_is_there = ⟨2, 2, b_Take_is_there I⟩
  d_Take_row : C.ds I.Take_row = ⟨3, 4, b_Take_row I⟩
  d_Take_done : C.ds I.Take_done = ⟨3, 6, b_Take_done I⟩
  d_Get_I : C.ds I.Get_I = ⟨3, 3, b_Get_I I⟩
  d_Get_is_there : C.ds I.Get_is_there = ⟨2, 2, b_Get_is_there I⟩
  d_Get_is_last : C.ds I.Get_is_last = ⟨2, 4, b_Get_is_last I⟩
  d_Get_row : C.ds I.Get_row = ⟨3, 4, b_Get_row I⟩
  d_Get_done : C.ds I.Get_done = ⟨3, 6, b_Get_done I⟩
  d_deed_of : C.ds I.deed_of = ⟨1, 1, b_deed_of I⟩
  d_step : C.ds I.step = ⟨3, 7, b_step I⟩
  lt_right_of_clash : I.right_of < I.clash
  lt_excludes_clash : I.excludes < I.clash
  lt_Hall_post_Hall_hand_act : I.Hall_post < I.Hall_hand_act
  lt_Hall_tell_Hall_hand_act : I.Hall_tell < I.Hall_hand_act
  lt_Hall_load_Hall_hand_act : I.Hall_load < I.Hall_hand_act
  lt_Hall_post_Hall_house_act : I.Hall_post < I.Hall_house_act
  lt_Hall_load_Hall_house_act : I.Hall_load < I.Hall_house_act
  lt_Hall_meant_Hall_house_act : I.Hall_meant < I.Hall_house_act
  lt_Deed_I_Ask_I : I.Deed_I < I.Ask_I
  lt_hand_row_Ask_row : I.hand_row < I.Ask_row
  lt_Hall_hand_act_Ask_done : I.Hall_hand_act < I.Ask_done
  lt_Deed_I_Take_I : I.Deed_I < I.Take_I
  lt_hand_row_Take_row : I.hand_row < I.Take_row
  lt_Hall_taken_off_Take_done : I.Hall_taken_off < I.Take_done
  lt_Hall_hand_act_Take_done : I.Hall_hand_act < I.Take_done
  lt_Deed_I_Get_I : I.Deed_I < I.Get_I
  lt_house_row_Get_row : I.house_row < I.Get_row
  lt_Get_is_last_Get_row : I.Get_is_last < I.Get_row
  lt_Hall_taken_off_Get_done : I.Hall_taken_off < I.Get_done
  lt_Hall_house_act_Get_done : I.Hall_house_act < I.Get_done
  lt_Ask_I_deed_of : I.Ask_I < I.deed_of
  lt_Take_I_deed_of : I.Take_I < I.deed_of
  lt_Get_I_deed_of : I.Get_I < I.deed_of
  lt_clash_step : I.clash < I.step
  lt_Hall_I_step : I.Hall_I < I.step
  lt_Hall_standing_step : I.Hall_standing < I.step
  lt_Ask_row_step : I.Ask_row < I.step
  lt_Ask_is_there_step : I.Ask_is_there < I.step
  lt_Ask_done_step : I.Ask_done < I.step
  lt_Take_is_there_step : I.Take_is_there < I.step
  lt_Take_row_step : I.Take_row < I.step
  lt_Take_done_step : I.Take_done < I.step
  lt_Get_is_there_step : I.Get_is_there < I.step
  lt_Get_row_step : I.Get_row < I.step
  lt_Get_done_step : I.Get_done < I.step
  lt_deed_of_step : I.deed_of < I.step
  m_Hall_standing : C.M I.c_Hall ⟨#[115, 116, 97, 110, 100, 105, 110, 103]⟩ = some I.Hall_standing
  m_Hall_post : C.M I.c_Hall ⟨#[112, 111, 115, 116]⟩ = some I.Hall_post
  m_Hall_taken_off : C.M I.c_Hall ⟨#[116, 97, 107, 101, 110, 95, 111, 102, 102]⟩ = some I.Hall_taken_off
  m_Hall_hand_act : C.M I.c_Hall ⟨#[104, 97, 110, 100, 95, 97, 99, 116]⟩ = some I.Hall_hand_act
  m_Hall_tell : C.M I.c_Hall ⟨#[116, 101, 108, 108]⟩ = some I.Hall_tell
  m_Hall_load : C.M I.c_Hall ⟨#[108, 111, 97, 100]⟩ = some I.Hall_load
  m_Hall_house_act : C.M I.c_Hall ⟨#[104, 111, 117, 115, 101, 95, 97, 99, 116]⟩ = some I.Hall_house_act
  m_Hall_meant : C.M I.c_Hall ⟨#[109, 101, 97, 110, 116]⟩ = some I.Hall_meant
  m_Ask_row : C.M I.c_Ask ⟨#[114, 111, 119]⟩ = some I.Ask_row
  m_Ask_is_there : C.M I.c_Ask ⟨#[105, 115, 95, 116, 104, 101, 114, 101]⟩ = some I.Ask_is_there
  m_Ask_done : C.M I.c_Ask ⟨#[100, 111, 110, 101]⟩ = some I.Ask_done
  m_Take_row : C.M I.c_Take ⟨#[114, 111, 119]⟩ = some I.Take_row
  m_Take_is_there : C.M I.c_Take ⟨#[105, 115, 95, 116, 104, 101, 114, 101]⟩ = some I.Take_is_there
  m_Take_done : C.M I.c_Take ⟨#[100, 111, 110, 101]⟩ = some I.Take_done
  m_Get_row : C.M I.c_Get ⟨#[114, 111, 119]⟩ = some I.Get_row
  m_Get_is_there : C.M I.c_Get ⟨#[105, 115, 95, 116, 104, 101, 114, 101]⟩ = some I.Get_is_there
  m_Get_done : C.M I.c_Get ⟨#[100, 111, 110, 101]⟩ = some I.Get_done
  m_Get_is_last : C.M I.c_Get ⟨#[105, 115, 95, 108, 97, 115, 116]⟩ = some I.Get_is_last
  i_Hall : C.CI I.c_Hall = some I.Hall_I
  i_Ask : C.CI I.c_Ask = some I.Ask_I
  i_Take : C.CI I.c_Take = some I.Take_I
  i_Get : C.CI I.c_Get = some I.Get_I
  f_Hall_house : C.FO I.c_Hall ⟨#[104, 111, 117, 115, 101]⟩ = true
  f_Hall_store : C.FO I.c_Hall ⟨#[115, 116, 111, 114, 101]⟩ = true
  f_Hall_last : C.FO I.c_Hall ⟨#[108, 97, 115, 116]⟩ = true
  f_Hall_lines : C.FO I.c_Hall ⟨#[108, 105, 110, 101, 115]⟩ = true
  f_Hall_answer : C.FO I.c_Hall ⟨#[97, 110, 115, 119, 101, 114]⟩ = true
  f_Hall_broken : C.FO I.c_Hall ⟨#[98, 114, 111, 107, 101, 110]⟩ = true
  f_Ask_hand : C.FO I.c_Ask ⟨#[104, 97, 110, 100]⟩ = true
  f_Ask_word : C.FO I.c_Ask ⟨#[119, 111, 114, 100]⟩ = true
  f_Ask_number : C.FO I.c_Ask ⟨#[110, 117, 109, 98, 101, 114]⟩ = true
  f_Take_hand : C.FO I.c_Take ⟨#[104, 97, 110, 100]⟩ = true
  f_Take_k : C.FO I.c_Take ⟨#[107]⟩ = true
  f_Get_hand : C.FO I.c_Get ⟨#[104, 97, 110, 100]⟩ = true
  f_Get_k : C.FO I.c_Get ⟨#[107]⟩ = true
  x_NoDeed : C.xl.contains I.c_NoDeed = true
structure HasP (C : Cf) (I : Ix) : Prop extends Has C I where
  d_start : C.ds I.start = ⟨2, 4, b_start I⟩
  d_play : C.ds I.play = ⟨3, 8, b_play I⟩
  lt_start_play : I.start < I.play
  lt_step_play : I.step < I.play
structure HasM (C : Cf) (I : Ix) : Prop extends Has C I where
  d_places : C.ds I.places = ⟨2, 2, b_places I⟩
  d_may_come : C.ds I.may_come = ⟨4, 6, b_may_come I⟩
  d_asks_of : C.ds I.asks_of = ⟨3, 4, b_asks_of I⟩
  d_may : C.ds I.may = ⟨3, 7, b_may I⟩
  lt_Ask_row_may_come : I.Ask_row < I.may_come
  lt_Take_row_may_come : I.Take_row < I.may_come
  lt_Get_row_may_come : I.Get_row < I.may_come
  lt_deed_of_may_come : I.deed_of < I.may_come
  lt_hand_row_asks_of : I.hand_row < I.asks_of
  lt_places_may : I.places < I.may
  lt_may_come_may : I.may_come < I.may
  lt_asks_of_may : I.asks_of < I.may
structure HasN (C : Cf) (I : Ix) : Prop extends Has C I where
  d_renamed : C.ds I.renamed = ⟨2, 4, b_renamed I⟩
end Cg

set_option linter.all false
set_option maxRecDepth 100000
set_option maxHeartbeats 4000000
/-! Cg: the words, the hall as it lies in the store. -/
namespace Cg
open PySem hiding Env listOf
open Cc
abbrev w_house : Str := ⟨#[104, 111, 117, 115, 101]⟩
abbrev w_store : Str := ⟨#[115, 116, 111, 114, 101]⟩
abbrev w_last : Str := ⟨#[108, 97, 115, 116]⟩
abbrev w_lines : Str := ⟨#[108, 105, 110, 101, 115]⟩
abbrev w_answer : Str := ⟨#[97, 110, 115, 119, 101, 114]⟩
abbrev w_broken : Str := ⟨#[98, 114, 111, 107, 101, 110]⟩
abbrev w_hand : Str := ⟨#[104, 97, 110, 100]⟩
abbrev w_word : Str := ⟨#[119, 111, 114, 100]⟩
abbrev w_number : Str := ⟨#[110, 117, 109, 98, 101, 114]⟩
abbrev w_k : Str := ⟨#[107]⟩
abbrev w_full : Str := ⟨#[102, 117, 108, 108]⟩
abbrev w_old : Str := ⟨#[111, 108, 100]⟩
abbrev w_wrote : Str := ⟨#[119, 114, 111, 116, 101]⟩
abbrev w_read : Str := ⟨#[114, 101, 97, 100]⟩
abbrev w_keep : Str := ⟨#[107, 101, 101, 112]⟩
abbrev w_lose : Str := ⟨#[108, 111, 115, 101]⟩
abbrev w_put : Str := ⟨#[112, 117, 116]⟩
abbrev w_tell : Str := ⟨#[116, 101, 108, 108]⟩
abbrev w_send : Str := ⟨#[115, 101, 110, 100]⟩
abbrev w_owner : Str := ⟨#[111, 119, 110, 101, 114]⟩
abbrev w_others : Str := ⟨#[111, 116, 104, 101, 114, 115]⟩
abbrev w_own : Str := ⟨#[111, 119, 110]⟩
abbrev w_share : Str := ⟨#[115, 104, 97, 114, 101]⟩
abbrev w_forget : Str := ⟨#[102, 111, 114, 103, 101, 116]⟩
abbrev w_clear : Str := ⟨#[99, 108, 101, 97, 114]⟩
abbrev w_value : Str := ⟨#[118, 97, 108, 117, 101]⟩
abbrev w_write : Str := ⟨#[119, 114, 105, 116, 101]⟩
abbrev w_drop : Str := ⟨#[100, 114, 111, 112]⟩
abbrev w_ask : Str := ⟨#[97, 115, 107]⟩
abbrev w_take : Str := ⟨#[116, 97, 107, 101]⟩
abbrev w_get : Str := ⟨#[103, 101, 116]⟩
abbrev w_stay : Str := ⟨#[115, 116, 97, 121]⟩
abbrev w_wait : Str := ⟨#[119, 97, 105, 116]⟩
abbrev w_norow : Str := ⟨#[110, 111, 114, 111, 119]⟩
abbrev w_clash : Str := ⟨#[99, 108, 97, 115, 104]⟩
abbrev w_any : Str := ⟨#[97, 110, 121]⟩
abbrev w_more : Str := ⟨#[109, 111, 114, 101]⟩
abbrev w_none : Str := ⟨#[110, 111, 110, 101]⟩
abbrev Vl := Option (Int × Int)
def encV : Vl → PyData
  | none => .none
  | some p => .tuple [.int p.1, .int p.2]
abbrev Lt := Str × Vl
def encK (p : Lt) : PyData := .tuple [.str p.1, encV p.2]
def encW (w : List Lt) : PyData := .tuple (w.map encK)
/-- a line: a hand's state, value, wish, ways to and back, marks -/
structure Ln where
  st : Str
  v : Vl
  want : Int
  to : List Lt
  ba : List Lt
  f : Int
def Ln.l (x : Ln) : List PyData := [.str x.st, encV x.v, .int x.want, encW x.to, encW x.ba, .int x.f]
def encN (x : Ln) : PyData := .tuple x.l
structure Sd where
  house : Str
  store : Vl
  last : Int × Int
  lines : List Ln
def encL (p : Int × Int) : PyData := .tuple [.int p.1, .int p.2]
def encS (x : Sd) : PyData := .tuple [.str x.house, encV x.store, encL x.last, .tuple (x.lines.map encN)]
abbrev An := Option (Str × Int × Int)
def encAn : An → PyData
  | none => .none
  | some a => .tuple [.str a.1, .int a.2.1, .int a.2.2]
abbrev Br := Option Str
def encB : Br → PyData
  | none => .none
  | some x => .tuple [.str x]
/-- the hall at work -/
structure Hl where
  sd : Sd
  an : An
  br : Br
def Ln.len_ok (x : Ln) : Prop := x.to.length ≤ 2 ∧ x.ba.length ≤ 2
def Sd.Ok (x : Sd) : Prop := x.lines.length ≤ 100 ∧ ∀ y ∈ x.lines, y.len_ok
abbrev Hl.n (H : Hl) : Nat := H.sd.lines.length
def hfs (H : Hl) : List (Str × W) := [(w_house, .d (.str H.sd.house)), (w_store, .d (encV H.sd.store)), (w_last, .d (encL H.sd.last)), (w_lines, .ref (H.n + 2)), (w_answer, .d (encAn H.an)), (w_broken, .d (encB H.br))]
def cells (ls : List Ln) : List Cell := ls.map fun x => .lst x.l
def refs (n : Nat) : List W := (List.range n).map fun k => .ref (k + 2)
/-- the store: a deed, the hall, its lines -/
def hst (I : Ix) (d : Cell) (H : Hl) : Store := d :: .ins I.c_Hall (hfs H) :: (cells H.sd.lines ++ [.wl (refs H.n)])
section
variable {I : Ix} {d : Cell} {H : Hl} {k : Nat} {x : Ln}
theorem h0 : (hst I d H)[0]? = some d := rfl
theorem h1 : (hst I d H)[1]? = some (.ins I.c_Hall (hfs H)) := rfl
theorem hL (h : H.sd.lines[k]? = some x) : (hst I d H)[k + 2]? = some (.lst x.l) := by
  show ((cells H.sd.lines ++ [Cell.wl (refs H.n)]))[k]? = _
  rw [List.getElem?_append_left (by rw [cells, List.length_map]; exact (List.getElem?_eq_some_iff.mp h).1)]
  simp [cells, h]
theorem hW : (hst I d H)[H.n + 2]? = some (.wl (refs H.n)) := by
  show ((cells H.sd.lines ++ [Cell.wl (refs H.n)]))[H.n]? = _
  rw [List.getElem?_append_right (by simp [cells])]
  simp [cells]
def Hl.setL (H : Hl) (k : Nat) (x : Ln) : Hl := { H with sd := { H.sd with lines := H.sd.lines.set k x } }
@[simp] theorem setL_n {y : Ln} : (H.setL k y).n = H.n := by simp [Hl.setL, Hl.n]
theorem hSet {y : Ln} (h : H.sd.lines[k]? = some x) : (hst I d H).set (k + 2) (.lst y.l) = hst I d (H.setL k y) := by
  have l := (List.getElem?_eq_some_iff.mp h).1
  have e : (cells H.sd.lines ++ [Cell.wl (refs H.n)]).set k (.lst y.l) = cells (H.sd.lines.set k y) ++ [Cell.wl (refs H.n)] := by
    rw [List.set_append_left _ _ (by simpa [cells] using l)]
    simp [cells, List.map_set]
  have e2 : (H.setL k y).n = H.n := setL_n
  show d :: Cell.ins I.c_Hall (hfs H) :: (cells H.sd.lines ++ [Cell.wl (refs H.n)]).set k (.lst y.l) = _
  rw [e]
  unfold hst
  rw [e2]
  have e3 : hfs (H.setL k y) = hfs H := by
    unfold hfs
    rw [e2]
    rfl
  rw [e3]
  rfl
theorem hSet1 {H' : Hl} (e : H'.sd.lines = H.sd.lines) : (hst I d H).set 1 (.ins I.c_Hall (hfs H')) = hst I d H' := by
  unfold hst Hl.n
  rw [e]
  rfl
theorem ixN_at {n j : Nat} (h : j < n) : L2.ixN n (j : Int) = some j := by
  unfold L2.ixN
  rw [if_pos (by omega), if_pos (by omega)]
  simp
theorem refs_at {n : Nat} (h : k < n) : L2.atI (refs n) (k : Int) = some (.ref (k + 2)) := by
  unfold L2.atI
  rw [show (refs n).length = n by simp [refs], ixN_at h]
  simp [refs, h]
/-- a line, by the hall's list -/
theorem iW (h : k < H.n) : idxW (hst I d H) (.ref (H.n + 2)) (.d (.int (k : Int))) = some (.ref (k + 2)) := by
  simp only [idxW]
  rw [hW]
  exact refs_at h
theorem iL (h : H.sd.lines[k]? = some x) (i : Int) : idxW (hst I d H) (.ref (k + 2)) (.d (.int i)) = (L2.atI x.l i).map .d := by
  simp only [idxW]
  rw [hL h]
variable {C : Cf} (g : Has C I)
include g
theorem fHouse : fldW C.FO (hst I d H) w_house (.ref 1) = some (.d (.str H.sd.house)) := by
  simp only [fldW]; rw [h1]; dsimp only; rw [g.f_Hall_house]; rfl
theorem fStore : fldW C.FO (hst I d H) w_store (.ref 1) = some (.d (encV H.sd.store)) := by
  simp only [fldW]; rw [h1]; dsimp only; rw [g.f_Hall_store]; rfl
theorem fLast : fldW C.FO (hst I d H) w_last (.ref 1) = some (.d (encL H.sd.last)) := by
  simp only [fldW]; rw [h1]; dsimp only; rw [g.f_Hall_last]; rfl
theorem fLines : fldW C.FO (hst I d H) w_lines (.ref 1) = some (.ref (H.n + 2)) := by
  simp only [fldW]; rw [h1]; dsimp only; rw [g.f_Hall_lines]; rfl
theorem fAnswer : fldW C.FO (hst I d H) w_answer (.ref 1) = some (.d (encAn H.an)) := by
  simp only [fldW]; rw [h1]; dsimp only; rw [g.f_Hall_answer]; rfl
theorem fBroken : fldW C.FO (hst I d H) w_broken (.ref 1) = some (.d (encB H.br)) := by
  simp only [fldW]; rw [h1]; dsimp only; rw [g.f_Hall_broken]; rfl
theorem sHouseF (y : Str) : setFld C.FO (.ref 1) w_house (.d (.str y)) (hst I d H) = .ok () (hst I d { H with sd := { H.sd with house := y } }) := by
  simp only [setFld]; rw [h1]; dsimp only; rw [if_pos ⟨g.f_Hall_house, by simp [hfs]⟩]
  exact congrArg _ (hSet1 (H' := { H with sd := { H.sd with house := y } }) rfl)
theorem sStore (y : Vl) : setFld C.FO (.ref 1) w_store (.d (encV y)) (hst I d H) = .ok () (hst I d { H with sd := { H.sd with store := y } }) := by
  simp only [setFld]; rw [h1]; dsimp only; rw [if_pos ⟨g.f_Hall_store, by simp [hfs]⟩]
  exact congrArg _ (hSet1 (H' := { H with sd := { H.sd with store := y } }) rfl)
theorem sLastF (y : Int × Int) : setFld C.FO (.ref 1) w_last (.d (encL y)) (hst I d H) = .ok () (hst I d { H with sd := { H.sd with last := y } }) := by
  simp only [setFld]; rw [h1]; dsimp only; rw [if_pos ⟨g.f_Hall_last, by simp [hfs]⟩]
  exact congrArg _ (hSet1 (H' := { H with sd := { H.sd with last := y } }) rfl)
theorem sAnswer (y : An) : setFld C.FO (.ref 1) w_answer (.d (encAn y)) (hst I d H) = .ok () (hst I d { H with an := y }) := by
  simp only [setFld]; rw [h1]; dsimp only; rw [if_pos ⟨g.f_Hall_answer, by simp [hfs]⟩]
  exact congrArg _ (hSet1 (H' := { H with an := y }) rfl)
theorem sBroken (y : Br) : setFld C.FO (.ref 1) w_broken (.d (encB y)) (hst I d H) = .ok () (hst I d { H with br := y }) := by
  simp only [setFld]; rw [h1]; dsimp only; rw [if_pos ⟨g.f_Hall_broken, by simp [hfs]⟩]
  exact congrArg _ (hSet1 (H' := { H with br := y }) rfl)
end
end Cg

set_option linter.all false
set_option maxRecDepth 100000
set_option maxHeartbeats 4000000
/-! Cg: the hall's small defs. -/
namespace Cg
open PySem hiding Env listOf
open Cc
/-- a way of a line: 3 there, 4 back -/
def Ln.way (x : Ln) : Bool → List Lt
  | true => x.to
  | false => x.ba
def Ln.setWay (x : Ln) (b : Bool) (w : List Lt) : Ln := match b with
  | true => { x with to := w }
  | false => { x with ba := w }
def wayI (b : Bool) : Int := if b then 3 else 4
theorem l_way (x : Ln) (b : Bool) : L2.atI x.l (wayI b) = some (encW (x.way b)) := by
  cases b <;> simp [wayI, Ln.l, Ln.way, L2.atI, L2.ixN]
theorem l_set (x : Ln) (b : Bool) (w : List Lt) : ∃ j, L2.ixN x.l.length (wayI b) = some j ∧ x.l.set j (encW w) = (x.setWay b w).l := by
  cases b
  · exact ⟨4, by simp [wayI, Ln.l, L2.ixN], rfl⟩
  · exact ⟨3, by simp [wayI, Ln.l, L2.ixN], rfl⟩
def post (H : Hl) (h : Nat) (b : Bool) (p : Lt) : Hl := match H.sd.lines[h]? with
  | some x => if (x.way b).length = 2 then { H with br := some w_full } else H.setL h (x.setWay b (x.way b ++ [p]))
  | none => H
section
variable {C : Cf} {I : Ix} (g : Has C I) {n : Nat} {d : Cell} {H : Hl} {h k : Nat} {x : Ln}
include g
theorem post_ok (hn : I.Hall_post < n) (hx : H.sd.lines[h]? = some x) (b : Bool) (hl : (x.way b).length ≤ 2) (s : Str) (v : Vl) :
    Ok (C.Φ n I.Hall_post [.ref 1, .d (.int h), .d (.int (wayI b)), .d (.str s), .d (encV v)] (hst I d H)) fun w t => w = .d .none ∧ t = hst I d (post H h b (s, v)) := by
  refine phi_ok hn g.d_Hall_post rfl ?_
  have hh : h < H.n := (List.getElem?_eq_some_iff.mp hx).1
  obtain ⟨j, hj, hs⟩ := l_set x b (x.way b ++ [(s, v)])
  have e1 := l_way x b
  unfold b_Hall_post
  generalize wayI b = wi at *
  have e2 : encW (x.way b) = .tuple ((x.way b).map encK) := rfl
  simp [startE, Ok_bind, fLines g, iW hh, iL hx, e1]
  by_cases h2 : (x.way b).length = 2
  · simp [e2, h2, Ok_bind, fLines g, iW hh, iL hx, e1, mkTupW, mkTup, sizeLine]
    rw [show PyData.tuple [PyData.str ⟨#[102, 117, 108, 108]⟩] = encB (some w_full) from rfl, sBroken g]
    simp [post, hx, h2]
  · have h3 : (x.way b).length + 1 ≤ 16777216 := by omega
    have h4 : ¬ ((x.way b).length : Int) = 2 := by omega
    simp [e2, h2, h4, Ok_bind, fLines g, iW hh, iL hx, e1, mkTupW, mkTup, sizeLine, h3]
    rw [set_cell (hL hx) hj]
    have e3 : PyData.tuple ((x.way b).map encK ++ [.tuple [.str s, encV v]]) = encW (x.way b ++ [(s, v)]) := by simp [encW, encK]
    rw [e3, hs, hSet hx]
    simp [post, hx, h2]
theorem load_ok (hn : I.Hall_load < n) (s : Str) (v : Vl) (t : Store) : C.Φ n I.Hall_load [.ref 1, .d (.str s), .d (encV v)] t = .ok (.d (encV (if s = w_value then v else none))) t := by
  have key : Ok (C.Φ n I.Hall_load [.ref 1, .d (.str s), .d (encV v)] t) fun w t' => w = .d (encV (if s = w_value then v else none)) ∧ t' = t := by
    refine phi_ok hn g.d_Hall_load rfl ?_
    unfold b_Hall_load
    by_cases e : s = w_value
    · simp [startE, Ok_bind, e]
    · simp [startE, Ok_bind, e, encV]
  obtain ⟨w, t', e, rfl, rfl⟩ := key.ex
  exact e
end
/-- tell: what is held must be the last -/
theorem cutX_suf {α : Type} (xs : List α) (k : Nat) : cutX xs (some (k : Int)) none = xs.drop k := by
  simp only [cutX, HT.sIx]
  rw [if_neg (by omega)]
  simp only [Int.toNat_natCast]
  rcases Nat.le_total k xs.length with h | h
  · rw [Nat.min_eq_left h]
    exact List.take_of_length_le (by simp)
  · rw [Nat.min_eq_right h]
    simp [List.drop_eq_nil_of_le h]
def tell (H : Hl) (h : Nat) (v : Vl) : Hl := match v with
  | none => { H with br := some w_old }
  | some p => if p.1 = H.sd.last.1 then { H with an := some (w_read, (h : Int), p.2) } else { H with br := some w_old }
def cut (w : List Lt) (k : Nat) : List Lt := w.take k ++ w.drop (k + 1)
def takenOff (H : Hl) (h : Nat) (b : Bool) (k : Nat) : Hl := match H.sd.lines[h]? with
  | some x => H.setL h (x.setWay b (cut (x.way b) k))
  | none => H
section
variable {C : Cf} {I : Ix} (g : Has C I) {n : Nat} {d : Cell} {H : Hl} {h k : Nat} {x : Ln}
include g
theorem tell_ok (hn : I.Hall_tell < n) (v : Vl) : Ok (C.Φ n I.Hall_tell [.ref 1, .d (.int (h : Nat)), .d (encV v)] (hst I d H)) fun w t => w = .d .none ∧ t = hst I d (tell H h v) := by
  refine phi_ok hn g.d_Hall_tell rfl ?_
  unfold b_Hall_tell
  have eb : PyData.tuple [PyData.str ⟨#[111, 108, 100]⟩] = encB (some w_old) := rfl
  cases v with
  | none =>
    simp [startE, Ok_bind, encV, mkTupW, mkTup, sizeLine]
    rw [eb, sBroken g]
    simp [tell]
  | some p =>
    by_cases e : p.1 = H.sd.last.1
    · simp [startE, Ok_bind, encV, fLast g, encL, e, mkTupW, mkTup, sizeLine]
      rw [show PyData.tuple [PyData.str ⟨#[114, 101, 97, 100]⟩, .int (h : Nat), .int p.2] = encAn (some (w_read, (h : Int), p.2)) from rfl, sAnswer g]
      simp [tell, e]
    · simp [startE, Ok_bind, encV, fLast g, encL, e, mkTupW, mkTup, sizeLine]
      rw [eb, sBroken g]
      simp [tell, e]
theorem off_ok (hn : I.Hall_taken_off < n) (hx : H.sd.lines[h]? = some x) (b : Bool) (hl : (x.way b).length ≤ 2) {p : Lt} (hp : (x.way b)[k]? = some p) :
    Ok (C.Φ n I.Hall_taken_off [.ref 1, .d (.int (h : Nat)), .d (.int (wayI b)), .d (.int (k : Nat))] (hst I d H)) fun w t => w = .d (encK p) ∧ t = hst I d (takenOff H h b k) := by
  refine phi_ok hn g.d_Hall_taken_off rfl ?_
  have hh : h < H.n := (List.getElem?_eq_some_iff.mp hx).1
  have hk : k < (x.way b).length := (List.getElem?_eq_some_iff.mp hp).1
  obtain ⟨j, hj, hs⟩ := l_set x b (cut (x.way b) k)
  have e1 := l_way x b
  unfold b_Hall_taken_off
  generalize wayI b = wi at *
  have e2 : encW (x.way b) = .tuple ((x.way b).map encK) := rfl
  have c1 : cutX (x.way b) none (some (k : Int)) = (x.way b).take k := cutX_pre _ _
  have c2 : cutX (x.way b) (some ((k : Int) + 1)) none = (x.way b).drop (k + 1) := by
    have e : ((k : Int) + 1) = ((k + 1 : Nat) : Int) := by omega
    rw [e]
    exact cutX_suf _ _
  have hp' : L2.atI (x.way b) (k : Int) = some p := by
    unfold L2.atI
    rw [ixN_at hk]
    simpa using hp
  have l1 : min k (x.way b).length + ((x.way b).length - (k + 1)) ≤ 16777216 := by omega
  have e3 : PyData.tuple (List.take k ((x.way b).map encK) ++ List.drop (k + 1) ((x.way b).map encK)) = encW (cut (x.way b) k) := by simp [encW, cut]
  simp [startE, Ok_bind, fLines g, iW hh, iL hx, e1, e2, cutD, c1, c2, sizeLine, l1]
  rw [e3, set_cell (hL hx) hj, hs, hSet hx]
  simp [hp', takenOff, hx]
end
end Cg

set_option linter.all false
set_option maxRecDepth 100000
set_option maxHeartbeats 4000000
/-! Cg: a hand's act. -/
namespace Cg
open PySem hiding Env listOf
open Cc
theorem _root_.Cc.Ok.eq {α : Type} {r : Res α} {w : α} {t : Store} (h : Ok r fun w' t' => w' = w ∧ t' = t) : r = .ok w t := by
  obtain ⟨w', t', e, rfl, rfl⟩ := h.ex
  exact e
abbrev Ac := List Str
def encA (a : Ac) : PyData := .tuple (a.map .str)
section
variable {I : Ix} {d : Cell} {H : Hl} {h : Nat} {x : Ln}
@[simp] theorem lk_standing : (hfs H).lookup ⟨#[115, 116, 97, 110, 100, 105, 110, 103]⟩ = none := rfl
@[simp] theorem lk_post : (hfs H).lookup ⟨#[112, 111, 115, 116]⟩ = none := rfl
@[simp] theorem lk_taken_off : (hfs H).lookup ⟨#[116, 97, 107, 101, 110, 95, 111, 102, 102]⟩ = none := rfl
@[simp] theorem lk_hand_act : (hfs H).lookup ⟨#[104, 97, 110, 100, 95, 97, 99, 116]⟩ = none := rfl
@[simp] theorem lk_tell : (hfs H).lookup ⟨#[116, 101, 108, 108]⟩ = none := rfl
@[simp] theorem lk_load : (hfs H).lookup ⟨#[108, 111, 97, 100]⟩ = none := rfl
@[simp] theorem lk_house_act : (hfs H).lookup ⟨#[104, 111, 117, 115, 101, 95, 97, 99, 116]⟩ = none := rfl
@[simp] theorem lk_meant : (hfs H).lookup ⟨#[109, 101, 97, 110, 116]⟩ = none := rfl
theorem sV (hx : H.sd.lines[h]? = some x) (v : Vl) : setIx (.ref (h + 2)) (.d (.int 1)) (.d (encV v)) (hst I d H) = .ok () (hst I d (H.setL h { x with v := v })) := by
  rw [set_cell (j := 1) (hL hx) (by simp [Ln.l, L2.ixN])]
  exact congrArg _ (hSet (y := { x with v := v }) hx)
theorem sSt (hx : H.sd.lines[h]? = some x) (v : Str) : setIx (.ref (h + 2)) (.d (.int 0)) (.d (.str v)) (hst I d H) = .ok () (hst I d (H.setL h { x with st := v })) := by
  rw [set_cell (j := 0) (hL hx) (by simp [Ln.l, L2.ixN])]
  exact congrArg _ (hSet (y := { x with st := v }) hx)
theorem sWant (hx : H.sd.lines[h]? = some x) (v : Int) : setIx (.ref (h + 2)) (.d (.int 2)) (.d (.int v)) (hst I d H) = .ok () (hst I d (H.setL h { x with want := v })) := by
  rw [set_cell (j := 2) (hL hx) (by simp [Ln.l, L2.ixN])]
  exact congrArg _ (hSet (y := { x with want := v }) hx)
theorem sF (hx : H.sd.lines[h]? = some x) (v : Int) : setIx (.ref (h + 2)) (.d (.int 5)) (.d (.int v)) (hst I d H) = .ok () (hst I d (H.setL h { x with f := v })) := by
  rw [set_cell (j := 5) (hL hx) (by simp [Ln.l, L2.ixN])]
  exact congrArg _ (hSet (y := { x with f := v }) hx)
end
def sent (l : Str) (v : Vl) : Vl := if l = w_value then v else none
def handAct (H : Hl) (h : Nat) (a : Ac) (v : Vl) : Hl := match H.sd.lines[h]?, a with
  | some x, a0 :: r =>
    if a0 = w_keep then H.setL h { x with v := v } else if a0 = w_lose then H.setL h { x with v := none }
    else if a0 = w_put then { H.setL h { x with v := some (H.sd.last.1 + 1, x.want) } with sd := { (H.setL h { x with v := some (H.sd.last.1 + 1, x.want) }).sd with last := (H.sd.last.1 + 1, x.want) }, an := some (w_wrote, (h : Int), x.want) }
    else if a0 = w_tell then tell H h x.v
    else match r with
      | [k, l] => post H h false (k, sent l x.v)
      | _ => H
  | _, _ => H
/-- an act that a hand can do -/
def HAct (a : Ac) : Prop := (∃ a0 r, a = a0 :: r ∧ (a0 = w_keep ∨ a0 = w_lose ∨ a0 = w_put ∨ a0 = w_tell)) ∨ ∃ a0 k l, a = [a0, k, l]
section
variable {C : Cf} {I : Ix} (g : Has C I) {n : Nat} {d : Cell} {H : Hl} {h k : Nat} {x : Ln}
include g
theorem hand_ok (hn : I.Hall_hand_act < n) (hx : H.sd.lines[h]? = some x) (hl : x.ba.length ≤ 2) (a : Ac) (ha : HAct a) (v : Vl) :
    Ok (C.Φ n I.Hall_hand_act [.ref 1, .d (.int (h : Nat)), .d (encA a), .d (encV v)] (hst I d H)) fun w t => w = .d .none ∧ t = hst I d (handAct H h a v) := by
  refine phi_ok hn g.d_Hall_hand_act rfl ?_
  have hh : h < H.n := (List.getElem?_eq_some_iff.mp hx).1
  unfold b_Hall_hand_act
  have e2 : ∀ a0 r, encA (a0 :: r) = .tuple (.str a0 :: r.map .str) := fun _ _ => rfl
  obtain ⟨a0, r, rfl⟩ : ∃ a0 r, a = a0 :: r := by
    rcases ha with ⟨a0, r, e, _⟩ | ⟨a0, k, l, e⟩
    · exact ⟨_, _, e⟩
    · exact ⟨_, _, e⟩
  have lv : L2.atI x.l 1 = some (encV x.v) := by simp [Ln.l]
  have lw : L2.atI x.l 2 = some (.int x.want) := by simp [Ln.l]
  simp [startE, Ok_bind, fLines g, iW hh, e2]
  by_cases c1 : a0 = w_keep
  · simp [c1, Ok_bind, e2]
    rw [sV hx]
    simp [handAct, hx]
  by_cases c2 : a0 = w_lose
  · simp [c2, Ok_bind, e2]
    rw [show PyData.none = encV none from rfl, sV hx]
    simp [handAct, hx]
  by_cases c3 : a0 = w_put
  · have e5 : PyData.tuple [.int (H.sd.last.1 + 1), .int x.want] = encL (H.sd.last.1 + 1, x.want) := rfl
    simp [c3, Ok_bind, e2, fLast g, encL, mkTupW, mkTup, sizeLine, iL hx, lw]
    rw [show PyData.tuple [.int (H.sd.last.1 + 1), .int x.want] = encL (H.sd.last.1 + 1, x.want) from rfl, sLastF g]
    have hx' : ({ H with sd := { H.sd with last := (H.sd.last.1 + 1, x.want) } } : Hl).sd.lines[h]? = some x := hx
    simp [fLast g]
    rw [show encL (H.sd.last.1 + 1, x.want) = encV (some (H.sd.last.1 + 1, x.want)) from rfl, sV hx']
    have hx2 : (({ H with sd := { H.sd with last := (H.sd.last.1 + 1, x.want) } } : Hl).setL h { x with v := some (H.sd.last.1 + 1, x.want) }).sd.lines[h]? = some { x with v := some (H.sd.last.1 + 1, x.want) } := by
      simp only [Hl.setL]
      rw [List.getElem?_set_self hh]
    have lw2 : L2.atI ({ x with v := some (H.sd.last.1 + 1, x.want) } : Ln).l 2 = some (.int x.want) := by simp [Ln.l]
    simp [iL hx2, lw2]
    rw [show PyData.tuple [PyData.str ⟨#[119, 114, 111, 116, 101]⟩, .int (h : Nat), .int x.want] = encAn (some (w_wrote, (h : Int), x.want)) from rfl, sAnswer g]
    simp [handAct, hx, Hl.setL]
  by_cases c4 : a0 = w_tell
  · simp [c4, Ok_bind, e2, iL hx, lv, h1, g.m_Hall_tell]
    rw [(tell_ok g g.lt_Hall_tell_Hall_hand_act x.v).eq]
    simp [handAct, hx]
  have hr : ∃ k l, r = [k, l] := by
    rcases ha with ⟨b0, r', e, hb⟩ | ⟨b0, k, l, e⟩
    · cases e
      simp [c1, c2, c3, c4] at hb
    · cases e
      exact ⟨_, _, rfl⟩
  obtain ⟨k, l, rfl⟩ := hr
  simp [c1, c2, c3, c4, Ok_bind, e2, iL hx, lv, h1, g.m_Hall_load, g.m_Hall_post, load_ok g g.lt_Hall_load_Hall_hand_act]
  have e6 := (post_ok g (d := d) g.lt_Hall_post_Hall_hand_act hx false hl k (sent l x.v)).eq
  simp only [wayI] at e6
  simp only [sent] at e6
  simp at e6
  rw [e6]
  simp [handAct, hx, c1, c2, c3, c4, sent]
end
end Cg

set_option linter.all false
set_option maxRecDepth 100000
set_option maxHeartbeats 4000000
/-! Cg: whom the house means. -/
namespace Cg
open PySem hiding Env listOf
open Cc
def hasF (H : Hl) (b : Int) (k : Nat) : Bool := match H.sd.lines[k]? with
  | some x => decide (¬ Builtin.bitAnd x.f b = 0)
  | none => false
def meantL (H : Hl) (h : Nat) (o : Bool) : List Nat := (List.range H.n).filter fun k => if o then hasF H 2 k else !decide (k = h) && hasF H 1 k
def wordOf (o : Bool) : Str := if o then w_owner else w_others
theorem fm_if {α β : Type} (p : α → Bool) (f : α → β) (xs : List α) : (xs.filterMap fun x => if p x = true then some (f x) else none) = (xs.filter p).map f := by
  induction xs with
  | nil => rfl
  | cons x xs ih => by_cases h : p x = true <;> simp [h, ih]
section
variable {C : Cf} {I : Ix} (g : Has C I) {n : Nat} {d : Cell} {H : Hl} {h k : Nat} {x : Ln}
theorem len_lines : bfD (hst I d H) .len [.ref (H.n + 2)] = some (.int (H.n : Nat)) := by
  simp only [bfD, one1, bfLen, lenW]
  rw [hW]
  simp [refs]
include g
theorem meant_ok (hn : I.Hall_meant < n) (hl : H.n ≤ 100) (o : Bool) :
    Ok (C.Φ n I.Hall_meant [.ref 1, .d (.int (h : Nat)), .d (.str (wordOf o))] (hst I d H)) fun w t => w = .d (.list ((meantL H h o).map fun k => .int (k : Nat))) ∧ t = hst I d H := by
  refine phi_ok hn g.d_Hall_meant rfl ?_
  unfold b_Hall_meant
  have bd : ∀ i j : Int, bopD .band (.int i) (.int j) = some (.int (Builtin.bitAnd i j)) := fun _ _ => rfl
  cases o
  · simp [startE, Ok_bind, wordOf, fLines g, len_lines, rng1_nat (n := H.n) (by omega)]
    refine comp_ok (xs := List.range H.n) (fun (k : Nat) => W.d (.int (0 + (k : Nat)))) (fun (k : Nat) => if (!decide (k = h) && hasF H 1 k) = true then some (.int (k : Nat)) else none) rfl (fun i hi => ?_) (by simpa using (by omega : H.n ≤ 16777216)) ?_
    · have hi : i < H.n := by simpa using hi
      have ei : H.sd.lines[i]? = some H.sd.lines[i] := List.getElem?_eq_getElem hi
      have lf : L2.atI (H.sd.lines[i]).l 5 = some (.int (H.sd.lines[i]).f) := by simp [Ln.l, L2.atI, L2.ixN]
      by_cases e : i = h
      · simp [wipeE, e]
      · have e' : ¬ (i : Int) = h := by omega
        by_cases e3 : Builtin.bitAnd (H.sd.lines[i]).f 1 = 0 <;> simp [wipeE, e, e', fLines g, iW hi, iL ei, lf, bd, hasF, ei, e3]
    · rw [if_neg (by decide), fm_if]
      simp [meantL]
  · simp [startE, Ok_bind, wordOf, fLines g, len_lines, rng1_nat (n := H.n) (by omega)]
    refine comp_ok (xs := List.range H.n) (fun (k : Nat) => W.d (.int (0 + (k : Nat)))) (fun (k : Nat) => if hasF H 2 k = true then some (.int (k : Nat)) else none) rfl (fun i hi => ?_) (by simpa using (by omega : H.n ≤ 16777216)) ?_
    · have hi : i < H.n := by simpa using hi
      have ei : H.sd.lines[i]? = some H.sd.lines[i] := List.getElem?_eq_getElem hi
      have lf : L2.atI (H.sd.lines[i]).l 5 = some (.int (H.sd.lines[i]).f) := by simp [Ln.l, L2.atI, L2.ixN]
      by_cases e3 : Builtin.bitAnd (H.sd.lines[i]).f 2 = 0 <;> simp [wipeE, fLines g, iW hi, iL ei, lf, bd, hasF, ei, e3]
    · rw [if_neg (by decide), fm_if]
      simp [meantL]
end
end Cg

set_option linter.all false
set_option maxRecDepth 100000
set_option maxHeartbeats 4000000
/-! Cg: the house's act. -/
namespace Cg
open PySem hiding Env listOf
open Cc
theorem setWay_ok {x : Ln} (hx : x.len_ok) (b : Bool) {w : List Lt} (hw : w.length ≤ 2) : (x.setWay b w).len_ok := by
  cases b
  · exact ⟨hx.1, hw⟩
  · exact ⟨hw, hx.2⟩
theorem way_ok {x : Ln} (hx : x.len_ok) (b : Bool) : (x.way b).length ≤ 2 := by
  cases b
  · exact hx.2
  · exact hx.1
theorem setL_ok {H : Hl} (hH : H.sd.Ok) {h : Nat} {x : Ln} (hx : x.len_ok) : (H.setL h x).sd.Ok := by
  refine ⟨by simpa [Hl.setL] using hH.1, fun y hy => ?_⟩
  rcases List.mem_or_eq_of_mem_set hy with q | q
  · exact hH.2 y q
  · subst q; exact hx
theorem at_ok {H : Hl} (hH : H.sd.Ok) {h : Nat} {x : Ln} (hx : H.sd.lines[h]? = some x) : x.len_ok := hH.2 x (List.mem_of_getElem? hx)
theorem post_good {H : Hl} (hH : H.sd.Ok) (h : Nat) (b : Bool) (p : Lt) : (post H h b p).sd.Ok := by
  unfold post
  split
  · rename_i x hx
    split
    · exact hH
    · rename_i h2
      have := way_ok (at_ok hH hx) b
      exact setL_ok hH (setWay_ok (at_ok hH hx) b (by simp; omega))
  · exact hH
theorem post_n (H : Hl) (h : Nat) (b : Bool) (p : Lt) : (post H h b p).n = H.n := by
  unfold post
  split
  · split
    · rfl
    · exact setL_n
  · rfl
theorem post_store (H : Hl) (h : Nat) (b : Bool) (p : Lt) : (post H h b p).sd.store = H.sd.store := by
  unfold post
  split
  · split <;> rfl
  · rfl
def postIf (p : Lt) (H : Hl) (one : Nat) : Hl := if H.br = none then post H one true p else H
def clearL (ls : List Ln) : List Ln := ls.map fun x => { x with f := 0 }
def setFl (H : Hl) (h : Nat) (x : Ln) (f : Int) : Hl := H.setL h { x with f := f }
def houseAct (H : Hl) (h : Nat) (a : Ac) (v : Vl) : Hl := match H.sd.lines[h]?, a with
  | some x, a0 :: r =>
    if a0 = w_keep then { H with sd := { H.sd with store := v } }
    else if a0 = w_send then (match r with
      | [k, l] => post H h true (k, sent l H.sd.store)
      | _ => H)
    else if a0 = w_owner then (match r with
      | [k, l] => (meantL H h true).foldl (postIf (k, sent l H.sd.store)) H
      | _ => H)
    else if a0 = w_others then (match r with
      | [k, l] => (meantL H h false).foldl (postIf (k, sent l H.sd.store)) H
      | _ => H)
    else if a0 = w_own then setFl H h x (Builtin.bitOr x.f 2)
    else if a0 = w_share then setFl H h x (Builtin.bitOr x.f 1)
    else if a0 = w_forget then setFl H h x 0
    else if a0 = w_clear then { H with sd := { H.sd with lines := clearL H.sd.lines } }
    else H
  | _, _ => H
def SAct (a : Ac) : Prop := (∃ a0 r, a = a0 :: r ∧ a0 ≠ w_send ∧ a0 ≠ w_owner ∧ a0 ≠ w_others) ∨ ∃ a0 k l, a = [a0, k, l]
def postFor : Sx := (Sx.ite
          (Bx.tru (Ex.cmp (Cop.is_) (Ex.fld (Ex.var 0) { cps := #[98, 114, 111, 107, 101, 110] }) (Ex.const (PyData.none))))
          (Sx.expr (Ex.meth (Ex.var 0) { cps := #[112, 111, 115, 116] } [Ex.var 4, Ex.const (PyData.int 3), Ex.idx (Ex.var 2) (Ex.const (PyData.int 1)), Ex.meth (Ex.var 0) { cps := #[108, 111, 97, 100] } [Ex.idx (Ex.var 2) (Ex.const (PyData.int 2)), Ex.fld (Ex.var 0) { cps := #[115, 116, 111, 114, 101] }]]))
          (Sx.pass))
theorem hs_eq (I : Ix) : b_Hall_house_act I = Sx.ite
  (Bx.tru (Ex.cmp (Cop.eq) (Ex.idx (Ex.var 2) (Ex.const (PyData.int 0))) (Ex.const (PyData.str { cps := #[107, 101, 101, 112] }))))
  (Sx.assign (Tx.fld (Ex.var 0) { cps := #[115, 116, 111, 114, 101] }) (Ex.var 3))
  (Sx.ite
    (Bx.tru (Ex.cmp (Cop.eq) (Ex.idx (Ex.var 2) (Ex.const (PyData.int 0))) (Ex.const (PyData.str { cps := #[115, 101, 110, 100] }))))
    (Sx.expr (Ex.meth (Ex.var 0) { cps := #[112, 111, 115, 116] } [Ex.var 1, Ex.const (PyData.int 3), Ex.idx (Ex.var 2) (Ex.const (PyData.int 1)), Ex.meth (Ex.var 0) { cps := #[108, 111, 97, 100] } [Ex.idx (Ex.var 2) (Ex.const (PyData.int 2)), Ex.fld (Ex.var 0) { cps := #[115, 116, 111, 114, 101] }]]))
    (Sx.ite
      (Bx.or (Bx.tru (Ex.cmp (Cop.eq) (Ex.idx (Ex.var 2) (Ex.const (PyData.int 0))) (Ex.const (PyData.str { cps := #[111, 119, 110, 101, 114] })))) (Bx.tru (Ex.cmp (Cop.eq) (Ex.idx (Ex.var 2) (Ex.const (PyData.int 0))) (Ex.const (PyData.str { cps := #[111, 116, 104, 101, 114, 115] })))))
      (Sx.for
        false
        [4]
        true
        (Wk.seq)
        [Ex.meth (Ex.var 0) { cps := #[109, 101, 97, 110, 116] } [Ex.var 1, Ex.idx (Ex.var 2) (Ex.const (PyData.int 0))]]
        postFor)
      (Sx.ite
        (Bx.tru (Ex.cmp (Cop.eq) (Ex.idx (Ex.var 2) (Ex.const (PyData.int 0))) (Ex.const (PyData.str { cps := #[111, 119, 110] }))))
        (Sx.assign (Tx.sub (Ex.idx (Ex.fld (Ex.var 0) { cps := #[108, 105, 110, 101, 115] }) (Ex.var 1)) (Ex.const (PyData.int 5))) (Ex.bin (Bop.bor) (Ex.idx (Ex.idx (Ex.fld (Ex.var 0) { cps := #[108, 105, 110, 101, 115] }) (Ex.var 1)) (Ex.const (PyData.int 5))) (Ex.const (PyData.int 2))))
        (Sx.ite
          (Bx.tru (Ex.cmp (Cop.eq) (Ex.idx (Ex.var 2) (Ex.const (PyData.int 0))) (Ex.const (PyData.str { cps := #[115, 104, 97, 114, 101] }))))
          (Sx.assign (Tx.sub (Ex.idx (Ex.fld (Ex.var 0) { cps := #[108, 105, 110, 101, 115] }) (Ex.var 1)) (Ex.const (PyData.int 5))) (Ex.bin (Bop.bor) (Ex.idx (Ex.idx (Ex.fld (Ex.var 0) { cps := #[108, 105, 110, 101, 115] }) (Ex.var 1)) (Ex.const (PyData.int 5))) (Ex.const (PyData.int 1))))
          (Sx.ite
            (Bx.tru (Ex.cmp (Cop.eq) (Ex.idx (Ex.var 2) (Ex.const (PyData.int 0))) (Ex.const (PyData.str { cps := #[102, 111, 114, 103, 101, 116] }))))
            (Sx.assign (Tx.sub (Ex.idx (Ex.fld (Ex.var 0) { cps := #[108, 105, 110, 101, 115] }) (Ex.var 1)) (Ex.const (PyData.int 5))) (Ex.const (PyData.int 0)))
            (Sx.ite
              (Bx.tru (Ex.cmp (Cop.eq) (Ex.idx (Ex.var 2) (Ex.const (PyData.int 0))) (Ex.const (PyData.str { cps := #[99, 108, 101, 97, 114] }))))
              (Sx.for false [5] true (Wk.seq) [Ex.fld (Ex.var 0) { cps := #[108, 105, 110, 101, 115] }] (Sx.assign (Tx.sub (Ex.var 5) (Ex.const (PyData.int 5))) (Ex.const (PyData.int 0))))
              (Sx.pass))))))) := rfl
section
variable {C : Cf} {I : Ix} (g : Has C I) {n : Nat} {d : Cell} {H : Hl} {h k : Nat} {x : Ln}
include g
theorem cBroken : cmpW .is_ (hst I d H) (.d (encB H.br)) (.d .none) = some (decide (H.br = none)) := by
  cases e : H.br with
  | none => simp [encB, cmpW, isW]
  | some b => simp [encB, cmpW, isW]
omit g in
theorem fold_good {p : Lt} : ∀ (ks : List Nat) {H : Hl}, H.sd.Ok → (ks.foldl (postIf p) H).sd.Ok ∧ (ks.foldl (postIf p) H).n = H.n ∧ (ks.foldl (postIf p) H).sd.store = H.sd.store
  | [], H, h => ⟨h, rfl, rfl⟩
  | k :: ks, H, h => by
    have e : (postIf p H k).sd.Ok ∧ (postIf p H k).n = H.n ∧ (postIf p H k).sd.store = H.sd.store := by
      unfold postIf
      split
      · exact ⟨post_good h _ _ _, post_n _ _ _ _, post_store _ _ _ _⟩
      · exact ⟨h, rfl, rfl⟩
    obtain ⟨a, b, c⟩ := fold_good (p := p) ks e.1
    exact ⟨a, b.trans e.2.1, c.trans e.2.2⟩
omit g in
theorem fold_take {p : Lt} {ks : List Nat} {i k : Nat} (hk : ks[i]? = some k) : (ks.take (i + 1)).foldl (postIf p) H = postIf p ((ks.take i).foldl (postIf p) H) k := by
  have hi := (List.getElem?_eq_some_iff.mp hk)
  obtain ⟨h1, h2⟩ := hi
  rw [List.take_succ_eq_append_getElem h1, List.foldl_append, h2]
  rfl
omit g in
theorem someB {t : Store} {b : Br} : someW t (.d (encB b)) = some (decide (b = none)) := by
  cases b <;> simp [encB, someW]
theorem post_loop (hH : H.sd.Ok) (ks : List Nat) (hk : ∀ k ∈ ks, k < H.n) (a0 k l : Str) (v : Vl) (w4 w5 : Option W) (s0 : Store) (N : Nat) : Ok (forL (still none s0) false N (fun w env s => match bindN [4] true w env with
      | some env => runS (C.Φ I.Hall_house_act) C.M C.CI C.FO C.xi postFor env s
      | none => .stuck) (ks.map fun (k : Nat) => W.d (.int (k : Nat))) [some (.ref 1), some (.d (.int (h : Nat))), some (.d (encA [a0, k, l])), some (.d (encV v)), w4, w5] (hst I d H)) fun p t => p.1 = .next ∧ t = hst I d (ks.foldl (postIf (k, sent l H.sd.store)) H) := by
  obtain ⟨J, hJ⟩ : ∃ J : Nat → Env → Store → Prop, ∀ i e s, J i e s ↔ s = hst I d ((ks.take i).foldl (postIf (k, sent l H.sd.store)) H) ∧ ∃ w4 w5, e = [some (.ref 1), some (.d (.int (h : Nat))), some (.d (encA [a0, k, l])), some (.d (encV v)), w4, w5] := ⟨_, fun _ _ _ => Iff.rfl⟩
  refine Ok_for0 _ J (fun i e s _ => rfl) (fun i w e s hw hI => ?_) (fun e s hI => ?_) _ _ ((hJ _ _ _).mpr ⟨by simp, _, _, rfl⟩)
  · obtain ⟨rfl, w4, w5, rfl⟩ := (hJ _ _ _).mp hI
    simp only [List.getElem?_map, Option.map_eq_some_iff] at hw
    obtain ⟨one, hone, rfl⟩ := hw
    have ft := fold_take (H := H) (p := (k, sent l H.sd.store)) hone
    obtain ⟨q1, q2, q3⟩ := fold_good (p := (k, sent l H.sd.store)) (ks.take i) hH
    have nx : ∀ t w5, t = hst I d (postIf (k, sent l H.sd.store) ((ks.take i).foldl (postIf (k, sent l H.sd.store)) H) one) → J (i + 1) [some (.ref 1), some (.d (.int (h : Nat))), some (.d (encA [a0, k, l])), some (.d (encV v)), some (.d (.int (one : Nat))), w5] t := fun t w5 e => (hJ _ _ _).mpr ⟨by rw [e, ft], _, _, rfl⟩
    clear ft hJ hI
    generalize (ks.take i).foldl (postIf (k, sent l H.sd.store)) H = H1 at *
    have h9 : one < H1.n := by rw [q2]; exact hk _ (List.mem_of_getElem? hone)
    have hy : H1.sd.lines[one]? = some H1.sd.lines[one] := List.getElem?_eq_getElem h9
    have e6 := (post_ok g (d := d) g.lt_Hall_post_Hall_house_act hy true (way_ok (at_ok q1 hy) true) k (sent l H1.sd.store)).eq
    have e7 := load_ok g (t := hst I d H1) g.lt_Hall_load_Hall_house_act l H1.sd.store
    have ea : encA [a0, k, l] = .tuple [.str a0, .str k, .str l] := rfl
    simp only [wayI, if_true] at e6
    unfold postFor
    rw [← q3] at nx
    by_cases hb : H1.br = none
    · simp [bindN, Ok_bind, fBroken g, someB, hb]
      simp [bindN, Ok_bind, fStore g, h1, ea, g.m_Hall_load, g.m_Hall_post, e7]
      rw [show (if l = w_value then H1.sd.store else none) = sent l H1.sd.store from rfl, e6]
      exact nx _ _ (by simp [postIf, hb])
    · simp [bindN, Ok_bind, fBroken g, someB, hb]
      exact nx _ _ (by simp [postIf, hb])
  · obtain ⟨rfl, w4, w5, rfl⟩ := (hJ _ _ _).mp hI
    simp
omit g in
theorem wEqL_refs : ∀ l : List Nat, wEqL (l.map fun k => W.ref (k + 2)) (l.map fun k => W.ref (k + 2)) = true
  | [] => rfl
  | k :: l => by simp [wEqL, wEq, wEqL_refs l]
omit g in
theorem still_hst {H1 : Hl} (e : H1.n = H.n) : still (some (H.n + 2)) (hst I d H) (hst I d H1) = true := by
  unfold still
  dsimp only
  have e1 := hW (I := I) (d := d) (H := H1)
  rw [e] at e1
  rw [hW, e1]
  exact wEqL_refs _
def clr (i : Nat) (ls : List Ln) : List Ln := clearL (ls.take i) ++ ls.drop i
omit g in
theorem clr_at {i : Nat} {ls : List Ln} {x : Ln} (h : ls[i]? = some x) : (clr i ls)[i]? = some x ∧ (clr i ls).set i { x with f := 0 } = clr (i + 1) ls := by
  obtain ⟨h1, h2⟩ := List.getElem?_eq_some_iff.mp h
  have l : (clearL (ls.take i)).length = i := by simp [clearL]; omega
  constructor
  · unfold clr
    rw [List.getElem?_append_right (by omega), l, Nat.sub_self, List.getElem?_drop, Nat.add_zero, h]
  · unfold clr
    rw [List.set_append_right _ _ (by omega), l, Nat.sub_self, List.drop_eq_getElem_cons h1, List.set_cons_zero, List.take_succ_eq_append_getElem h1, h2]
    simp [clearL]
omit g in
theorem clr_len {i : Nat} {ls : List Ln} (h : i ≤ ls.length) : (clr i ls).length = ls.length := by
  simp [clr, clearL]; omega
def withL (H : Hl) (ls : List Ln) : Hl := { H with sd := { H.sd with lines := ls } }
theorem clear_loop (e0 e1 e2 e3 e4 e5 : Option W) (N : Nat) : Ok (forL (still (some (H.n + 2)) (hst I d H)) false N (fun w env s => match bindN [5] true w env with
      | some env => runS (C.Φ I.Hall_house_act) C.M C.CI C.FO C.xi (Sx.assign (Tx.sub (Ex.var 5) (Ex.const (PyData.int 5))) (Ex.const (PyData.int 0))) env s
      | none => .stuck) (refs H.n) [e0, e1, e2, e3, e4, e5] (hst I d H)) fun p t => p.1 = .next ∧ t = hst I d (withL H (clearL H.sd.lines)) := by
  have hlen : (refs H.n).length = H.n := by simp [refs]
  obtain ⟨J, hJ⟩ : ∃ J : Nat → Env → Store → Prop, ∀ i e s, J i e s ↔ i ≤ H.n ∧ s = hst I d (withL H (clr i H.sd.lines)) ∧ ∃ e5, e = [e0, e1, e2, e3, e4, e5] := ⟨_, fun _ _ _ => Iff.rfl⟩
  refine Ok_for0 _ J (fun i e s hI => ?_) (fun i w e s hw hI => ?_) (fun e s hI => ?_) _ _ ((hJ _ _ _).mpr ⟨Nat.zero_le _, rfl, _, rfl⟩)
  · obtain ⟨hi, rfl, e5, rfl⟩ := (hJ _ _ _).mp hI
    exact still_hst (by simp [withL, Hl.n, clr_len hi])
  · obtain ⟨hi, rfl, e5, rfl⟩ := (hJ _ _ _).mp hI
    have hi2 : i < H.n := by have := (List.getElem?_eq_some_iff.mp hw).1; omega
    have ew : w = .ref (i + 2) := by
      simp [refs, hi2] at hw
      exact hw.symm
    subst ew
    obtain ⟨c1, c2⟩ := clr_at (List.getElem?_eq_getElem hi2)
    have hx : (withL H (clr i H.sd.lines)).sd.lines[i]? = some H.sd.lines[i] := c1
    simp [bindN]
    rw [sF hx]
    simp
    refine (hJ _ _ _).mpr ⟨hi2, ?_, _, rfl⟩
    simp only [withL, Hl.setL, c2]
  · obtain ⟨hi, rfl, e5, rfl⟩ := (hJ _ _ _).mp hI
    rw [hlen]
    simp [clr, Hl.n]
theorem house_ok (hn : I.Hall_house_act < n) (hx : H.sd.lines[h]? = some x) (hH : H.sd.Ok) (a : Ac) (ha : SAct a) (v : Vl) :
    Ok (C.Φ n I.Hall_house_act [.ref 1, .d (.int (h : Nat)), .d (encA a), .d (encV v)] (hst I d H)) fun w t => w = .d .none ∧ t = hst I d (houseAct H h a v) := by
  refine phi_ok hn g.d_Hall_house_act rfl ?_
  have hh : h < H.n := (List.getElem?_eq_some_iff.mp hx).1
  rw [hs_eq]
  have e2 : ∀ a0 r, encA (a0 :: r) = .tuple (.str a0 :: r.map .str) := fun _ _ => rfl
  obtain ⟨a0, r, rfl⟩ : ∃ a0 r, a = a0 :: r := by
    rcases ha with ⟨a0, r, e, _⟩ | ⟨a0, k, l, e⟩
    · exact ⟨_, _, e⟩
    · exact ⟨_, _, e⟩
  have lf : L2.atI x.l 5 = some (.int x.f) := by simp [Ln.l, L2.atI, L2.ixN]
  have bd : ∀ i j : Int, bopD .bor (.int i) (.int j) = some (.int (Builtin.bitOr i j)) := fun _ _ => rfl
  simp [startE, Ok_bind, e2]
  by_cases c1 : a0 = w_keep
  · simp [c1, Ok_bind, e2]
    rw [sStore g]
    simp [houseAct, hx]
  have h3 : a0 = w_send ∨ a0 = w_owner ∨ a0 = w_others → ∃ k l, r = [k, l] := fun hc => by
    rcases ha with ⟨b0, r', e, hb⟩ | ⟨b0, k, l, e⟩
    · cases e
      simp [hb] at hc
    · cases e
      exact ⟨_, _, rfl⟩
  have e6 : ∀ (H' : Hl) (one : Nat) (y : Ln), H'.sd.Ok → H'.sd.lines[one]? = some y → ∀ k z, C.Φ I.Hall_house_act I.Hall_post [.ref 1, .d (.int (one : Nat)), .d (.int 3), .d (.str k), .d (encV z)] (hst I d H') = .ok (.d .none) (hst I d (post H' one true (k, z))) := fun H' one y h1 h2 k z => (post_ok g (d := d) g.lt_Hall_post_Hall_house_act h2 true (way_ok (at_ok h1 h2) true) k z).eq
  by_cases c2 : a0 = w_send
  · obtain ⟨k, l, rfl⟩ := h3 (.inl c2)
    simp [c2, Ok_bind, e2, fStore g, h1, g.m_Hall_load, g.m_Hall_post, load_ok g g.lt_Hall_load_Hall_house_act, e6 H h x hH hx]
    simp [houseAct, hx, sent]
  have mk : ∀ o, ∀ k ∈ meantL H h o, k < H.n := fun o k hk => by
    have := (List.mem_filter.mp hk).1
    simpa using this
  have items : ∀ (t : Store) (o : Bool), wSeq t (.d (.list ((meantL H h o).map fun k => .int (k : Nat)))) = some ((meantL H h o).map fun (k : Nat) => W.d (.int (k : Nat)), none) := fun t o => by
    simp [wSeq, Cc.items]
  by_cases c3 : a0 = w_owner
  · obtain ⟨k, l, rfl⟩ := h3 (.inr (.inl c3))
    subst c3
    have hm := (meant_ok g (d := d) (h := h) g.lt_Hall_meant_Hall_house_act hH.1 true).eq
    rw [show wordOf true = w_owner from rfl] at hm
    have ea : encA [w_owner, k, l] = .tuple [.str w_owner, .str k, .str l] := rfl
    simp [Ok_bind, h1, g.m_Hall_meant, ea]
    rw [hm]
    simp [items]
    rw [← ea]
    refine (post_loop g hH _ (mk true) w_owner k l v _ _ _ _).mono fun p t q => ?_
    obtain ⟨fl, e⟩ := p
    obtain ⟨rfl, rfl⟩ := q
    simp [houseAct, hx]
  by_cases c4 : a0 = w_others
  · obtain ⟨k, l, rfl⟩ := h3 (.inr (.inr c4))
    subst c4
    have hm := (meant_ok g (d := d) (h := h) g.lt_Hall_meant_Hall_house_act hH.1 false).eq
    rw [show wordOf false = w_others from rfl] at hm
    have ea : encA [w_others, k, l] = .tuple [.str w_others, .str k, .str l] := rfl
    simp [Ok_bind, h1, g.m_Hall_meant, ea]
    rw [hm]
    simp [items]
    rw [← ea]
    refine (post_loop g hH _ (mk false) w_others k l v _ _ _ _).mono fun p t q => ?_
    obtain ⟨fl, e⟩ := p
    obtain ⟨rfl, rfl⟩ := q
    simp [houseAct, hx]
  by_cases c5 : a0 = w_own
  · subst c5
    simp [Ok_bind, e2, fLines g, iW hh, iL hx, lf, bd]
    rw [sF hx]
    simp [houseAct, hx, setFl]
  by_cases c6 : a0 = w_share
  · subst c6
    simp [Ok_bind, e2, fLines g, iW hh, iL hx, lf, bd]
    rw [sF hx]
    simp [houseAct, hx, setFl]
  by_cases c7 : a0 = w_forget
  · subst c7
    simp [Ok_bind, e2, fLines g, iW hh, iL hx, lf, bd]
    rw [sF hx]
    simp [houseAct, hx, setFl]
  by_cases c8 : a0 = w_clear
  · subst c8
    have ws : wSeq (hst I d H) (.ref (H.n + 2)) = some (refs H.n, some (H.n + 2)) := by
      simp only [wSeq, Cc.items]
      rw [hW]
      rfl
    simp [Ok_bind, e2, fLines g, ws]
    refine (clear_loop g _ _ _ _ _ _ _).mono fun p t q => ?_
    obtain ⟨fl, e⟩ := p
    obtain ⟨rfl, rfl⟩ := q
    simp [houseAct, hx, withL]
  · simp [c1, c2, c3, c4, c5, c6, c7, c8, Ok_bind, e2]
    simp [houseAct, hx, c1, c2, c3, c4, c5, c6, c7, c8]
end
end Cg

set_option linter.all false
set_option maxRecDepth 100000
set_option maxHeartbeats 4000000
/-! Cg: the hall is made, and its standing read. -/
namespace Cg
open PySem hiding Env listOf
open Cc
theorem fm_range {α β : Type} (f : α → β) (ls : List α) : ((List.range ls.length).filterMap fun k => (ls[k]?).map f) = ls.map f := by
  induction ls with
  | nil => rfl
  | cons x ls ih => simp [List.range_succ_eq_map, List.filterMap_map, Function.comp_def, ih]
section
variable {C : Cf} {I : Ix} (g : Has C I) {n : Nat} {d : Cell} {H : Hl} {h k : Nat} {x : Ln} {S : Sd}
include g
theorem init_ok (hn : I.Hall_I < n) (hS : S.lines.length ≤ 100) (h0 : 0 < S.lines.length) :
    Ok (C.Φ n I.Hall_I [.ref 1, .d (encS S)] [d, .ins I.c_Hall []]) fun w t => w = .d .none ∧ t = hst I d ⟨S, none, none⟩ := by
  refine phi_ok hn g.d_Hall_I rfl ?_
  unfold b_Hall_I
  have e1 : encS S = .tuple [.str S.house, encV S.store, encL S.last, .tuple (S.lines.map encN)] := rfl
  simp [startE, Ok_bind, e1, setFld, g.f_Hall_house, g.f_Hall_store, g.f_Hall_last, fput]
  generalize hi0 : Cell.ins I.c_Hall [(({ cps := #[104, 111, 117, 115, 101] } : Str), W.d (PyData.str S.house)), (({ cps := #[115, 116, 111, 114, 101] } : Str), W.d (encV S.store)), (({ cps := #[108, 97, 115, 116] } : Str), W.d (encL S.last))] = i0
  obtain ⟨J, hJ⟩ : ∃ J : Nat → List W → Store → Prop, ∀ i a s, J i a s ↔ i ≤ S.lines.length ∧ a = refs i ∧ s = d :: i0 :: cells (S.lines.take i) := ⟨_, fun _ _ _ => Iff.rfl⟩
  refine Ok_compL _ J (fun _ _ _ _ => rfl) (fun i w acc s hw hI => ?_) (fun acc s hI => ?_) _ ((hJ _ _ _).mpr ⟨Nat.zero_le _, rfl, rfl⟩)
  · obtain ⟨hi, rfl, rfl⟩ := (hJ _ _ _).mp hI
    simp only [List.getElem?_map, Option.map_eq_some_iff] at hw
    obtain ⟨x, hx, rfl⟩ := hw
    obtain ⟨l1, l2⟩ := List.getElem?_eq_some_iff.mp hx
    have eb : ∀ s, bfD s .list [W.d (encN x)] = some (.list x.l) := fun s => by simp [encN, Ln.l, bfD, one1, bfList, Cc.listOf, seqOf]
    simp [wipeE, Ok_bind, eb, toCell]
    have el : (cells (S.lines.take i)).length = i := by simp [cells]; omega
    refine ⟨by simp [refs]; omega, (hJ _ _ _).mpr ⟨l1, ?_, ?_⟩⟩
    · rw [el]
      simp [refs, List.range_succ]
    · rw [List.take_succ_eq_append_getElem l1, l2]
      simp [cells]
  · obtain ⟨hi, rfl, rfl⟩ := (hJ _ _ _).mp hI
    have ep : allPure (refs S.lines.length) = none := by
      unfold refs
      obtain ⟨m, hm⟩ : ∃ m, S.lines.length = m + 1 := ⟨S.lines.length - 1, by omega⟩
      rw [hm, List.range_succ_eq_map, List.map_cons]
      exact allPure_ref
    simp [compEnd, ep, List.take_length]
    subst hi0
    simp [g.f_Hall_lines, g.f_Hall_answer, g.f_Hall_broken, fput, hst, hfs, cells, encAn, encB, Hl.n]
theorem standing_ok (hn : I.Hall_standing < n) (hS : H.n ≤ 100) : Ok (C.Φ n I.Hall_standing [.ref 1] (hst I d H)) fun w t => w = .d (encS H.sd) ∧ t = hst I d H := by
  refine phi_ok hn g.d_Hall_standing rfl ?_
  unfold b_Hall_standing
  have ws : wSeq (hst I d H) (.ref (H.n + 2)) = some (refs H.n, some (H.n + 2)) := by
    simp only [wSeq, Cc.items]
    rw [hW]
    rfl
  simp [startE, Ok_bind, fHouse g, fStore g, fLast g, fLines g, ws]
  refine comp_ok (xs := List.range H.n) (fun (k : Nat) => W.ref (k + 2)) (fun (k : Nat) => (H.sd.lines[k]?).map encN) (still_hst rfl) (fun i hi => ?_) (by simpa using (by omega : H.n ≤ 16777216)) ?_
  · have hi : i < H.n := by simpa using hi
    have ei : H.sd.lines[i]? = some H.sd.lines[i] := List.getElem?_eq_getElem hi
    have eb : bfD (hst I d H) .tuple [W.ref (i + 2)] = some (encN H.sd.lines[i]) := by
      simp only [bfD, one1, bfTuple, Cc.listOf, top]
      rw [hL ei]
      rfl
    simp [wipeE, eb, ei]
  · rw [if_neg (by decide)]
    have eb : bfD (hst I d H) .tuple [W.d (PyData.list (H.sd.lines.map encN))] = some (.tuple (H.sd.lines.map encN)) := by simp [bfD, one1, bfTuple, seqOf]
    rw [fm_range, eb]
    simp [mkTupW, mkTup, sizeLine, encS]
end
end Cg

set_option linter.all false
set_option maxRecDepth 100000
set_option maxHeartbeats 4000000
/-! Cg: tables, rights, clashes. -/
namespace Cg
open PySem hiding Env listOf
open Cc
structure Rw where
  a : Str
  b : Str
  c : Str
  e : Str
  t : Option Str
  acts : List Ac
def encAs (as : List Ac) : PyData := .tuple (as.map encA)
def Rw.l (r : Rw) : List PyData := .str r.a :: .str r.b :: .str r.c :: .str r.e :: (match r.t with | none => [encAs r.acts] | some x => [.str x, encAs r.acts])
def encR (r : Rw) : PyData := .tuple r.l
structure Tb where
  hs : List (Str × Str)
  ho : List Str
  rs : List Rw
def encP (p : Str × Str) : PyData := .tuple [.str p.1, .str p.2]
def encT (T : Tb) : PyData := .tuple [.tuple (T.hs.map encP), .tuple (T.ho.map .str), .tuple (T.rs.map encR)]
def rightOf (T : Tb) (st : Str) : Str := match T.hs.find? (fun p => decide (p.1 = st)) with
  | some p => p.2
  | none => w_none
def exclB (a b : Str) : Bool := decide (a = w_write) && !decide (b = w_none) || (decide (b = w_write) && !decide (a = w_none))
def rights (T : Tb) (ls : List Ln) : List Str := ls.map fun x => rightOf T x.st
def clashR (rs : List Str) : Bool := (List.range rs.length).any fun k => (rs.take k).any fun o => exclB (rs.getD k w_none) o
def clashB (T : Tb) (ls : List Ln) : Bool := clashR (rights T ls)
theorem callf {C : Cf} {n i : Nat} {ws : List W} {xs : List PyData} {s : Store} {y : PyData} (hp : allPure ws = some xs) (h : Ok (C.Φ n i ws []) fun w _ => w = .d y) : callM .frz (C.Φ n i) ws s = .ok (.d y) s := by
  obtain ⟨w, t, e, rfl⟩ := h.ex
  exact frz_eq hp e (by simp)
section
variable {C : Cf} {I : Ix} (g : Has C I) {n : Nat} {T : Tb}
include g
theorem right_eq (hn : I.right_of < n) (st : Str) (s : Store) : callM .frz (C.Φ n I.right_of) [.d (encT T), .d (.str st)] s = .ok (.d (.str (rightOf T st))) s := by
  refine callf (xs := [encT T, .str st]) (by simp) (phi_ok hn g.d_right_of rfl ?_)
  unfold b_right_of
  simp [startE, Ok_bind, encT]
  refine Ok_find T.hs (W.d ∘ encP) (fun p => decide (p.1 = st)) (fun p => .d (.str p.2)) (fun env => ∃ x2 x3, env = [some (.d (encT T)), some (.d (.str st)), x2, x3]) _ rfl ?_ ?_ ?_ _ ⟨_, _, rfl⟩
  · rintro p _ env ⟨x2, x3, rfl⟩
    by_cases h1 : p.1 = st <;> simp [bindN, encP, Ok_bind, h1]
  · intro p env hf
    simp [rightOf, hf]
  · rintro hf env ⟨x2, x3, rfl⟩
    simp [Ok_bind, rightOf, hf]
theorem excl_eq (hn : I.excludes < n) (a b : Str) (s : Store) : callM .frz (C.Φ n I.excludes) [.d (.str a), .d (.str b)] s = .ok (.d (.bool (exclB a b))) s := by
  refine callf (xs := [.str a, .str b]) (by simp) (phi_ok hn g.d_excludes rfl ?_)
  unfold b_excludes
  by_cases h1 : a = w_write <;> by_cases h2 : b = w_write <;> by_cases h3 : a = w_none <;> by_cases h4 : b = w_none <;> simp [startE, Ok_bind, exclB, h1, h2, h3, h4]
theorem clash_eq (hn : I.clash < n) (S : Sd) (hl : S.lines.length ≤ 100) (s : Store) : callM .frz (C.Φ n I.clash) [.d (encT T), .d (encS S)] s = .ok (.d (.bool (clashB T S.lines))) s := by
  refine callf (xs := [encT T, encS S]) (by simp) (phi_ok hn g.d_clash rfl ?_)
  unfold b_clash
  have e1 : encS S = .tuple [.str S.house, encV S.store, encL S.last, .tuple (S.lines.map encN)] := rfl
  simp [startE, Ok_bind, e1]
  refine comp_ok (xs := S.lines) (W.d ∘ encN) (fun x => some (.str (rightOf T x.st))) rfl (fun x hx => ?_) (by omega) ?_
  · simp [wipeE, encN, Ln.l, right_eq g g.lt_right_of_clash]
  · rw [if_neg (by decide)]
    have er : (S.lines.filterMap fun x => some (PyData.str (rightOf T x.st))) = (rights T S.lines).map .str := by simp [rights, List.filterMap_eq_map, Function.comp_def]
    have lr : (rights T S.lines).length = S.lines.length := by simp [rights]
    rw [er]
    unfold clashB
    generalize rights T S.lines = rs at *
    have el : ∀ s, bfD s .len [W.d (.list (rs.map .str))] = some (.int (rs.length : Nat)) := fun s => by simp [bfD, one1, bfLen, lenW, lenD]
    simp [Ok_bind, el, rng1_nat (n := rs.length) (by omega)]
    refine Ok_find (List.range rs.length) (fun (k : Nat) => W.d (.int (0 + (k : Nat)))) (fun k => (rs.take k).any fun o => exclB (rs.getD k w_none) o) (fun _ => .d (.bool true)) (fun env => ∃ x3, env = [some (.d (encT T)), some (.d (encS S)), some (.d (.list (rs.map .str))), x3, none, none]) _ rfl ?_ ?_ ?_ _ ⟨_, rfl⟩
    · rintro k hk env ⟨x3, rfl⟩
      have hk : k < rs.length := by simpa using hk
      have ek : rs[k]? = some rs[k] := List.getElem?_eq_getElem hk
      have ak : L2.atI rs (k : Nat) = some rs[k] := atI_nat ek
      have c1 : cutX rs none (some (k : Int)) = rs.take k := cutX_pre _ _
      have gk : rs.getD k w_none = rs[k] := by simp [hk]
      simp only [gk]
      simp [bindN, Ok_bind, cutD, c1]
      rw [← List.map_take]
      refine comp_ok (xs := rs.take k) (W.d ∘ PyData.str) (fun o => some (.bool (exclB rs[k] o))) rfl (fun o ho => ?_) (by simp; omega) ?_
      · simp [wipeE, ak, excl_eq g g.lt_excludes_clash]
      · rw [if_neg (by decide)]
        have e3 : ((rs.take k).filterMap fun o => some (PyData.bool (exclB rs[k] o))) = ((rs.take k).map (exclB rs[k])).map .bool := by simp [List.filterMap_eq_map, Function.comp_def]
        rw [e3]
        have e4 : ∀ (l : List Bool) s, bfD s .any [W.d (.list (l.map .bool))] = some (.bool (l.any id)) := fun l s => by simp [bfD, one1, bfAny, Cc.listOf, seqOf]
        rw [e4]
        have e5 : ((rs.take k).map (exclB rs[k])).any id = (rs.take k).any (exclB rs[k]) := by rw [List.any_map]; rfl
        rw [e5]
        cases hb : (rs.take k).any (exclB rs[k]) with
        | true => simp; simpa using hb
        | false => simp; simpa using hb
    · intro k env hf
      have h2 := List.find?_some hf
      have : clashR rs = true := by
        unfold clashR
        exact List.any_eq_true.mpr ⟨k, List.mem_of_find?_eq_some hf, h2⟩
      simp [this]
    · rintro hf env ⟨x3, rfl⟩
      have : clashR rs = false := by
        unfold clashR
        rw [List.find?_eq_none] at hf
        rw [List.any_eq_false]
        intro k hk h
        exact hf k hk h
      simp [Ok_bind, this]
end
end Cg

set_option linter.all false
set_option maxRecDepth 100000
set_option maxHeartbeats 4000000
/-! Cg: rows, deeds. -/
namespace Cg
open PySem hiding Env listOf
open Cc
theorem row0 {r : Rw} {s : Store} : idxW s (.d (encR r)) (.d (.int 0)) = some (.d (.str r.a)) := by simp [encR, Rw.l]
theorem row1 {r : Rw} {s : Store} : idxW s (.d (encR r)) (.d (.int 1)) = some (.d (.str r.b)) := by simp [encR, Rw.l]
theorem row2 {r : Rw} {s : Store} : idxW s (.d (encR r)) (.d (.int 2)) = some (.d (.str r.c)) := by simp [encR, Rw.l]
theorem row3 {r : Rw} {s : Store} : idxW s (.d (encR r)) (.d (.int 3)) = some (.d (.str r.e)) := by simp [encR, Rw.l]
theorem row4 {r : Rw} {s : Store} {x : Str} (h : r.t = some x) : idxW s (.d (encR r)) (.d (.int 4)) = some (.d (.str x)) := by simp [encR, Rw.l, h, L2.atI, L2.ixN]
theorem rowZ {r : Rw} {s : Store} : idxW s (.d (encR r)) (.d (.int (-1))) = some (.d (encAs r.acts)) := by
  cases h : r.t <;> simp [encR, Rw.l, h, L2.atI, L2.ixN]
def encO : Option Rw → PyData
  | none => .none
  | some r => encR r
def handRow (T : Tb) (st ev : Str) : Option Rw := T.rs.find? fun r => decide (r.a = w_hand) && (decide (r.b = st) && decide (r.c = ev))
def pH (st k x : Str) (r : Rw) : Bool := decide (r.a = w_house) && (decide (r.b = st) && (decide (r.c = k) && (decide (r.e = w_any) || decide (r.e = x))))
def houseRow (T : Tb) (st k : Str) (l : Bool) : Option Rw := T.rs.find? (pH st k (if l then w_last else w_more))
theorem okAny : SOk w_any := by decide +kernel
theorem okLast : SOk w_last := by decide +kernel
theorem okMore : SOk w_more := by decide +kernel
theorem fit2 {x y z : Str} (hx : SOk x) (hy : SOk y) (hz : SOk z) : inD (.str x) (.tuple [.str y, .str z]) = some (decide (x = y) || decide (x = z)) := by
  have := inD_tuple (xs := [y, z]) hx fun u hu => by
    simp only [List.mem_cons, List.not_mem_nil, or_false] at hu
    rcases hu with rfl | rfl <;> assumption
  simpa using this
/-- what the rows of a table keep -/
structure RwOk (r : Rw) : Prop where
  e : SOk r.e
  hand : r.a = w_hand → r.t = none ∧ ∀ a ∈ r.acts, HAct a
  house : r.a = w_house → (∃ x, r.t = some x) ∧ ∀ a ∈ r.acts, SAct a
  lay : PyData.canLayAll0 (r.acts.map encA) = true
  sh : SeqAt.shaped (encAs r.acts) = true
section
variable {C : Cf} {I : Ix} (g : Has C I) {n : Nat} {T : Tb} {st ev : Str}
include g
theorem hand_eq (hn : I.hand_row < n) (s : Store) : callM .frz (C.Φ n I.hand_row) [.d (encT T), .d (.str st), .d (.str ev)] s = .ok (.d (encO (handRow T st ev))) s := by
  refine callf (xs := [encT T, .str st, .str ev]) (by simp) (phi_ok hn g.d_hand_row rfl ?_)
  unfold b_hand_row
  simp [startE, Ok_bind, encT]
  refine Ok_find T.rs (W.d ∘ encR) (fun r => decide (r.a = w_hand) && (decide (r.b = st) && decide (r.c = ev))) (fun r => .d (encR r)) (fun env => ∃ x3, env = [some (.d (encT T)), some (.d (.str st)), some (.d (.str ev)), x3]) _ rfl ?_ ?_ ?_ _ ⟨_, rfl⟩
  · rintro r _ env ⟨x3, rfl⟩
    simp [Ok_bind, row0, row1, row2]
    by_cases h1 : r.a = w_hand <;> by_cases h2 : r.b = st <;> by_cases h3 : r.c = ev <;> simp [h1, h2, h3, Ok_bind, row0, row1, row2]
  · intro x env hf
    simp [handRow, hf, encO]
  · rintro hf env ⟨x3, rfl⟩
    simp [Ok_bind, handRow, hf, encO]
theorem house_eq (hn : I.house_row < n) (hg : ∀ r ∈ T.rs, RwOk r) (l : Bool) (s : Store) : callM .frz (C.Φ n I.house_row) [.d (encT T), .d (.str st), .d (.str ev), .d (.bool l)] s = .ok (.d (encO (houseRow T st ev l))) s := by
  refine callf (xs := [encT T, .str st, .str ev, .bool l]) (by simp) (phi_ok hn g.d_house_row rfl ?_)
  unfold b_house_row
  have fit : ∀ r : Rw, RwOk r → ∀ x, SOk x → inD (.str r.e) (.tuple [.str w_any, .str x]) = some (decide (r.e = w_any) || decide (r.e = x)) := fun r h x hx => fit2 h.e okAny hx
  cases l
  · simp [startE, Ok_bind, encT, mkTupW, mkTup, sizeLine]
    refine Ok_find T.rs (W.d ∘ encR) (pH st ev w_more) (fun r => .d (encR r)) (fun env => ∃ x5, env = [some (.d (encT T)), some (.d (.str st)), some (.d (.str ev)), some (.d (.bool false)), some (.d (.tuple [.str w_any, .str w_more])), x5]) _ rfl ?_ ?_ ?_ _ ⟨_, rfl⟩
    · rintro r hr env ⟨x5, rfl⟩
      have hf := fit r (hg r hr) w_more okMore
      simp [Ok_bind, row0, row1, row2, row3]
      by_cases h1 : r.a = w_house <;> by_cases h2 : r.b = st <;> by_cases h3 : r.c = ev <;> by_cases h4 : r.e = w_any <;> by_cases h5 : r.e = w_more <;> simp_all [Ok_bind, row0, row1, row2, row3, pH]
    · intro x env hf
      simp [houseRow, hf, encO]
    · rintro hf env ⟨x5, rfl⟩
      simp [Ok_bind, houseRow, hf, encO]
  · simp [startE, Ok_bind, encT, mkTupW, mkTup, sizeLine]
    refine Ok_find T.rs (W.d ∘ encR) (pH st ev w_last) (fun r => .d (encR r)) (fun env => ∃ x5, env = [some (.d (encT T)), some (.d (.str st)), some (.d (.str ev)), some (.d (.bool true)), some (.d (.tuple [.str w_any, .str w_last])), x5]) _ rfl ?_ ?_ ?_ _ ⟨_, rfl⟩
    · rintro r hr env ⟨x5, rfl⟩
      have hf := fit r (hg r hr) w_last okLast
      simp [Ok_bind, row0, row1, row2, row3]
      by_cases h1 : r.a = w_house <;> by_cases h2 : r.b = st <;> by_cases h3 : r.c = ev <;> by_cases h4 : r.e = w_any <;> by_cases h5 : r.e = w_last <;> simp_all [Ok_bind, row0, row1, row2, row3, pH]
    · intro x env hf
      simp [houseRow, hf, encO]
    · rintro hf env ⟨x5, rfl⟩
      simp [Ok_bind, houseRow, hf, encO]
end
/-! ### deeds -/
inductive Dd where
  | ask (h : Int) (w : Str)
  | write (h : Int) (v : Int)
  | take (h k : Int)
  | get (h k : Int)
def encD : Dd → PyData
  | .ask h w => .tuple [.str w_ask, .int h, .str w]
  | .write h v => .tuple [.str w_ask, .int h, .str w_write, .int v]
  | .take h k => .tuple [.str w_take, .int h, .int k]
  | .get h k => .tuple [.str w_get, .int h, .int k]
def dcell (I : Ix) : Dd → Cell
  | .ask h w => .ins I.c_Ask [(w_hand, .d (.int h)), (w_word, .d (.str w)), (w_number, .d (.int 0))]
  | .write h v => .ins I.c_Ask [(w_hand, .d (.int h)), (w_word, .d (.str w_write)), (w_number, .d (.int v))]
  | .take h k => .ins I.c_Take [(w_hand, .d (.int h)), (w_k, .d (.int k))]
  | .get h k => .ins I.c_Get [(w_hand, .d (.int h)), (w_k, .d (.int k))]
/-- a deed as it is written -/
def Dd.Ok : Dd → Prop
  | .ask _ w => w ≠ w_write
  | _ => True
section
variable {C : Cf} {I : Ix} (g : Has C I) {n : Nat}
include g
theorem askI_ok (hn : I.Ask_I < n) (h v : Int) (w : Str) : Ok (C.Φ n I.Ask_I [.ref 0, .d (.int h), .d (.str w), .d (.int v)] [.ins I.c_Ask []]) fun x s => x = .d .none ∧ s = [.ins I.c_Ask [(w_hand, .d (.int h)), (w_word, .d (.str w)), (w_number, .d (.int v))]] := by
  refine phi_ok hn g.d_Ask_I rfl ?_
  have base : Ok (C.Φ I.Ask_I I.Deed_I [.ref 0, .d (.int h)] [.ins I.c_Ask []]) fun x s => x = .d .none ∧ s = [.ins I.c_Ask [(w_hand, .d (.int h))]] := by
    refine phi_ok g.lt_Deed_I_Ask_I g.d_Deed_I rfl ?_
    unfold b_Deed_I
    simp [startE, Ok_bind, setFld, g.f_Ask_hand, fput]
  unfold b_Ask_I
  simp [startE, Ok_bind, base.eq, setFld, g.f_Ask_word, g.f_Ask_number, fput]
theorem takeI_ok (hn : I.Take_I < n) (h k : Int) : Ok (C.Φ n I.Take_I [.ref 0, .d (.int h), .d (.int k)] [.ins I.c_Take []]) fun x s => x = .d .none ∧ s = [.ins I.c_Take [(w_hand, .d (.int h)), (w_k, .d (.int k))]] := by
  refine phi_ok hn g.d_Take_I rfl ?_
  have base : Ok (C.Φ I.Take_I I.Deed_I [.ref 0, .d (.int h)] [.ins I.c_Take []]) fun x s => x = .d .none ∧ s = [.ins I.c_Take [(w_hand, .d (.int h))]] := by
    refine phi_ok g.lt_Deed_I_Take_I g.d_Deed_I rfl ?_
    unfold b_Deed_I
    simp [startE, Ok_bind, setFld, g.f_Take_hand, fput]
  unfold b_Take_I
  simp [startE, Ok_bind, base.eq, setFld, g.f_Take_k, fput]
theorem getI_ok (hn : I.Get_I < n) (h k : Int) : Ok (C.Φ n I.Get_I [.ref 0, .d (.int h), .d (.int k)] [.ins I.c_Get []]) fun x s => x = .d .none ∧ s = [.ins I.c_Get [(w_hand, .d (.int h)), (w_k, .d (.int k))]] := by
  refine phi_ok hn g.d_Get_I rfl ?_
  have base : Ok (C.Φ I.Get_I I.Deed_I [.ref 0, .d (.int h)] [.ins I.c_Get []]) fun x s => x = .d .none ∧ s = [.ins I.c_Get [(w_hand, .d (.int h))]] := by
    refine phi_ok g.lt_Deed_I_Get_I g.d_Deed_I rfl ?_
    unfold b_Deed_I
    simp [startE, Ok_bind, setFld, g.f_Get_hand, fput]
  unfold b_Get_I
  simp [startE, Ok_bind, base.eq, setFld, g.f_Get_k, fput]
theorem deed_ok (hn : I.deed_of < n) (D : Dd) (hD : D.Ok) : Ok (C.Φ n I.deed_of [.d (encD D)] []) fun w s => w = .ref 0 ∧ s = [dcell I D] := by
  refine phi_ok hn g.d_deed_of rfl ?_
  unfold b_deed_of
  cases D with
  | ask h w =>
    have hw : ¬ w = w_write := hD
    simp [startE, Ok_bind, encD, hw, g.i_Ask, (askI_ok g g.lt_Ask_I_deed_of h 0 w).eq, dcell]
  | write h v => simp [startE, Ok_bind, encD, g.i_Ask, (askI_ok g g.lt_Ask_I_deed_of h v w_write).eq, dcell]
  | take h k => simp [startE, Ok_bind, encD, g.i_Take, (takeI_ok g g.lt_Take_I_deed_of h k).eq, dcell]
  | get h k => simp [startE, Ok_bind, encD, g.i_Get, (getI_ok g g.lt_Get_I_deed_of h k).eq, dcell]
end
end Cg

set_option linter.all false
set_option maxRecDepth 100000
set_option maxHeartbeats 4000000
/-! Cg: is a deed there, and by which row. -/
namespace Cg
open PySem hiding Env listOf
open Cc
def shares (ls : List Ln) (k : Nat) : Bool := match ls[k]? with
  | some x => decide (¬ Builtin.bitAnd x.f 1 = 0)
  | none => false
def lastB (ls : List Ln) (h : Nat) : Bool := !((List.range ls.length).any fun k => !decide (k = h) && shares ls k)
theorem fm_bool (ls : List Ln) (h : Nat) (r : List Nat) : ∃ bs : List Bool, (r.filterMap fun (k : Nat) => if k = h then none else some (PyData.bool (shares ls k))) = bs.map .bool ∧ bs.any id = r.any fun k => !decide (k = h) && shares ls k := by
  induction r with
  | nil => exact ⟨[], rfl, rfl⟩
  | cons k r ih =>
    obtain ⟨bs, e1, e2⟩ := ih
    by_cases e : k = h
    · exact ⟨bs, by simp [e, ← e1], by simp [e, e2]⟩
    · exact ⟨shares ls k :: bs, by simp [e, e1], by simp [e, e2]⟩
section
variable {C : Cf} {I : Ix} (g : Has C I) {n : Nat} {S : Sd} {h k : Nat} {x : Ln} {T : Tb}
theorem sLine (hx : S.lines[h]? = some x) : L2.atI (S.lines.map encN) (h : Int) = some (encN x) := by
  simp [atI_nat hx]
include g
theorem fT (f : Str) (hf : f = w_hand ∨ f = w_k) (h k : Int) : fldW C.FO [dcell I (.take h k)] f (.ref 0) = some (.d (.int (if f = w_hand then h else k))) := by
  rcases hf with rfl | rfl
  · simp [fldW, dcell, g.f_Take_hand]
  · simp [fldW, dcell, g.f_Take_k]
    rfl
theorem fG (f : Str) (hf : f = w_hand ∨ f = w_k) (h k : Int) : fldW C.FO [dcell I (.get h k)] f (.ref 0) = some (.d (.int (if f = w_hand then h else k))) := by
  rcases hf with rfl | rfl
  · simp [fldW, dcell, g.f_Get_hand]
  · simp [fldW, dcell, g.f_Get_k]
    rfl
theorem thereA (hn : I.Ask_is_there < n) (w : W) (s : Store) (d : W) : Ok (C.Φ n I.Ask_is_there [d, w] s) fun a t => a = .d (.bool true) ∧ t = s := by
  refine phi_ok hn g.d_Ask_is_there rfl ?_
  unfold b_Ask_is_there
  simp [startE, Ok_bind]
theorem thereT (hn : I.Take_is_there < n) (hx : S.lines[h]? = some x) : Ok (C.Φ n I.Take_is_there [.ref 0, .d (encS S)] [dcell I (.take h k)]) fun a t => a = .d (.bool (decide (k < x.to.length))) ∧ t = [dcell I (.take h k)] := by
  refine phi_ok hn g.d_Take_is_there rfl ?_
  unfold b_Take_is_there
  have l3 : L2.atI x.l 3 = some (encW x.to) := l_way x true
  have el : ∀ s, bfD s .len [W.d (encW x.to)] = some (.int (x.to.length : Nat)) := fun s => by simp [encW, bfD, one1, bfLen, lenW, lenD]
  simp [startE, Ok_bind, encS, fT g _ (.inl rfl), fT g _ (.inr rfl), atI_nat hx, encN, l3, el]
theorem thereG (hn : I.Get_is_there < n) (hx : S.lines[h]? = some x) : Ok (C.Φ n I.Get_is_there [.ref 0, .d (encS S)] [dcell I (.get h k)]) fun a t => a = .d (.bool (decide (k < x.ba.length))) ∧ t = [dcell I (.get h k)] := by
  refine phi_ok hn g.d_Get_is_there rfl ?_
  unfold b_Get_is_there
  have l3 : L2.atI x.l 4 = some (encW x.ba) := l_way x false
  have el : ∀ s, bfD s .len [W.d (encW x.ba)] = some (.int (x.ba.length : Nat)) := fun s => by simp [encW, bfD, one1, bfLen, lenW, lenD]
  simp [startE, Ok_bind, encS, fG g _ (.inl rfl), fG g _ (.inr rfl), atI_nat hx, encN, l3, el]
theorem rowA (hn : I.Ask_row < n) (hx : S.lines[h]? = some x) (w : Str) (v : Int) : Ok (C.Φ n I.Ask_row [.ref 0, .d (encT T), .d (encS S)] [.ins I.c_Ask [(w_hand, .d (.int (h : Nat))), (w_word, .d (.str w)), (w_number, .d (.int v))]]) fun a t => a = .d (encO (handRow T x.st w)) ∧ t = [.ins I.c_Ask [(w_hand, .d (.int (h : Nat))), (w_word, .d (.str w)), (w_number, .d (.int v))]] := by
  refine phi_ok hn g.d_Ask_row rfl ?_
  unfold b_Ask_row
  have l0 : L2.atI x.l 0 = some (.str x.st) := by simp [Ln.l]
  have lw : List.lookup (⟨#[119, 111, 114, 100]⟩ : Str) [(w_hand, W.d (.int (h : Nat))), (w_word, W.d (.str w)), (w_number, W.d (.int v))] = some (.d (.str w)) := rfl
  simp [startE, Ok_bind, encS, fldW, g.f_Ask_hand, g.f_Ask_word, lw, atI_nat hx, encN, l0, hand_eq g g.lt_hand_row_Ask_row]
theorem rowT (hn : I.Take_row < n) (hx : S.lines[h]? = some x) {p : Lt} (hp : x.to[k]? = some p) : Ok (C.Φ n I.Take_row [.ref 0, .d (encT T), .d (encS S)] [dcell I (.take h k)]) fun a t => a = .d (encO (handRow T x.st p.1)) ∧ t = [dcell I (.take h k)] := by
  refine phi_ok hn g.d_Take_row rfl ?_
  unfold b_Take_row
  have l0 : L2.atI x.l 0 = some (.str x.st) := by simp [Ln.l]
  have l3 : L2.atI x.l 3 = some (encW x.to) := l_way x true
  simp [startE, Ok_bind, encS, fT g _ (.inl rfl), fT g _ (.inr rfl), atI_nat hx, encN, l0, l3, encW, atI_nat hp, encK, hand_eq g g.lt_hand_row_Take_row]
theorem last_ok (hn : I.Get_is_last < n) (hl : S.lines.length ≤ 100) : Ok (C.Φ n I.Get_is_last [.ref 0, .d (encS S)] [dcell I (.get h k)]) fun a t => a = .d (.bool (lastB S.lines h)) ∧ t = [dcell I (.get h k)] := by
  refine phi_ok hn g.d_Get_is_last rfl ?_
  unfold b_Get_is_last
  have el : ∀ s, bfD s .len [W.d (.tuple (S.lines.map encN))] = some (.int (S.lines.length : Nat)) := fun s => by simp [bfD, one1, bfLen, lenW, lenD]
  simp [startE, Ok_bind, encS, el, rng1_nat (n := S.lines.length) (by omega)]
  refine comp_ok (xs := List.range S.lines.length) (fun (k : Nat) => W.d (.int (0 + (k : Nat)))) (fun (k : Nat) => if k = h then none else some (.bool (shares S.lines k))) rfl (fun i hi => ?_) (by simpa using (by omega : S.lines.length ≤ 16777216)) ?_
  · have hi : i < S.lines.length := by simpa using hi
    have ea := atI_nat (List.getElem?_eq_getElem hi)
    have l5 : L2.atI (S.lines[i]).l 5 = some (.int (S.lines[i]).f) := by simp [Ln.l, L2.atI, L2.ixN]
    by_cases e : i = h
    · simp [wipeE, e, fG g _ (.inl rfl)]
    · have bd : ∀ i j : Int, bopD .band (.int i) (.int j) = some (.int (Builtin.bitAnd i j)) := fun _ _ => rfl
      have e' : ¬ (i : Int) = h := by omega
      simp [wipeE, e, e', fG g _ (.inl rfl), ea, encN, shares, hi, l5, bd]
  · rw [if_neg (by decide)]
    obtain ⟨bs, e1, e2⟩ := fm_bool S.lines h (List.range S.lines.length)
    rw [e1]
    have e4 : ∀ (l : List Bool) s, bfD s .any [W.d (.list (l.map .bool))] = some (.bool (l.any id)) := fun l s => by simp [bfD, one1, bfAny, Cc.listOf, seqOf]
    rw [e4, e2]
    simp [lastB]
theorem rowG (hn : I.Get_row < n) (hT : ∀ r ∈ T.rs, RwOk r) (hl : S.lines.length ≤ 100) (hx : S.lines[h]? = some x) {p : Lt} (hp : x.ba[k]? = some p) : Ok (C.Φ n I.Get_row [.ref 0, .d (encT T), .d (encS S)] [dcell I (.get h k)]) fun a t => a = .d (encO (houseRow T S.house p.1 (lastB S.lines h))) ∧ t = [dcell I (.get h k)] := by
  refine phi_ok hn g.d_Get_row rfl ?_
  unfold b_Get_row
  have l3 : L2.atI x.l 4 = some (encW x.ba) := l_way x false
  have e1 : encS S = .tuple [.str S.house, encV S.store, encL S.last, .tuple (S.lines.map encN)] := rfl
  have hla := (last_ok g (S := S) (h := h) (k := k) g.lt_Get_is_last_Get_row hl).eq
  rw [e1] at hla
  simp [startE, Ok_bind, e1, fG g _ (.inl rfl), fG g _ (.inr rfl), atI_nat hx, encN, l3, encW, atI_nat hp, encK]
  have lk : List.lookup (⟨#[105, 115, 95, 108, 97, 115, 116]⟩ : Str) [(w_hand, W.d (.int (h : Nat))), (w_k, W.d (.int (k : Nat)))] = none := rfl
  simp only [dcell] at hla ⊢
  try dsimp only
  rw [lk, g.m_Get_is_last]
  try dsimp only
  rw [hla]
  simp [house_eq g g.lt_house_row_Get_row hT]
end
end Cg

set_option linter.all false
set_option maxRecDepth 100000
set_option maxHeartbeats 4000000
/-! Cg: deeds done. -/
namespace Cg
open PySem hiding Env listOf
open Cc
theorem setL_good {H : Hl} (hH : H.sd.Ok) {h : Nat} {x : Ln} (hx : x.len_ok) : (H.setL h x).sd.Ok ∧ (H.setL h x).n = H.n := ⟨setL_ok hH hx, setL_n⟩
theorem tell_good {H : Hl} (hH : H.sd.Ok) (h : Nat) (v : Vl) : (tell H h v).sd.Ok ∧ (tell H h v).n = H.n := by
  unfold tell
  cases v with
  | none => exact ⟨hH, rfl⟩
  | some p => dsimp only; split <;> exact ⟨hH, rfl⟩
theorem handAct_good {H : Hl} (hH : H.sd.Ok) (h : Nat) (a : Ac) (v : Vl) : (handAct H h a v).sd.Ok ∧ (handAct H h a v).n = H.n := by
  unfold handAct
  split
  · rename_i x a0 r hx
    have ox := at_ok hH hx
    split
    · exact setL_good hH ox
    split
    · exact setL_good hH ox
    split
    · exact ⟨(setL_good (h := h) (x := { x with v := some (H.sd.last.1 + 1, x.want) }) hH ox).1, setL_n⟩
    split
    · exact tell_good hH _ _
    split
    · exact ⟨post_good hH _ _ _, post_n _ _ _ _⟩
    · exact ⟨hH, rfl⟩
  · exact ⟨hH, rfl⟩
theorem clear_good {H : Hl} (hH : H.sd.Ok) : ({ H with sd := { H.sd with lines := clearL H.sd.lines } } : Hl).sd.Ok := by
  refine ⟨by simpa [clearL] using hH.1, fun y hy => ?_⟩
  obtain ⟨x, hx, rfl⟩ := List.mem_map.mp hy
  exact hH.2 x hx
theorem houseAct_good {H : Hl} (hH : H.sd.Ok) (h : Nat) (a : Ac) (v : Vl) : (houseAct H h a v).sd.Ok ∧ (houseAct H h a v).n = H.n := by
  unfold houseAct
  split
  · rename_i x a0 r hx
    have ox := at_ok hH hx
    split
    · exact ⟨hH, rfl⟩
    split
    · split
      · exact ⟨post_good hH _ _ _, post_n _ _ _ _⟩
      · exact ⟨hH, rfl⟩
    split
    · split
      · exact ⟨(fold_good _ hH).1, (fold_good _ hH).2.1⟩
      · exact ⟨hH, rfl⟩
    split
    · split
      · exact ⟨(fold_good _ hH).1, (fold_good _ hH).2.1⟩
      · exact ⟨hH, rfl⟩
    split
    · exact setL_good hH ox
    split
    · exact setL_good hH ox
    split
    · exact setL_good hH ox
    split
    · exact ⟨clear_good hH, by simp [Hl.n, clearL]⟩
    · exact ⟨hH, rfl⟩
  · exact ⟨hH, rfl⟩
theorem off_good {H : Hl} (hH : H.sd.Ok) (h : Nat) (b : Bool) (k : Nat) : (takenOff H h b k).sd.Ok ∧ (takenOff H h b k).n = H.n := by
  unfold takenOff
  split
  · rename_i x hx
    have ox := at_ok hH hx
    have := way_ok ox b
    exact setL_good hH (setWay_ok ox b (by simp only [cut, List.length_append, List.length_take, List.length_drop]; omega))
  · exact ⟨hH, rfl⟩
/-- an act, unless the hall is broken -/
def ifOk (f : Hl → Ac → Hl) (H : Hl) (a : Ac) : Hl := if H.br = none then f H a else H
theorem acts_good {f : Hl → Ac → Hl} (hf : ∀ H a, H.sd.Ok → (f H a).sd.Ok ∧ (f H a).n = H.n) : ∀ (as : List Ac) {H : Hl}, H.sd.Ok → (as.foldl (ifOk f) H).sd.Ok ∧ (as.foldl (ifOk f) H).n = H.n
  | [], H, h => ⟨h, rfl⟩
  | a :: as, H, h => by
    have e : (ifOk f H a).sd.Ok ∧ (ifOk f H a).n = H.n := by
      unfold ifOk
      split
      · exact hf _ _ h
      · exact ⟨h, rfl⟩
    obtain ⟨q1, q2⟩ := acts_good hf as e.1
    exact ⟨q1, q2.trans e.2⟩
section
variable {C : Cf} {I : Ix} {n : Nat} {d : Cell} {H : Hl} {Φ : FT}
theorem act_loop (f : Hl → Ac → Hl) (hf : ∀ H a, H.sd.Ok → (f H a).sd.Ok ∧ (f H a).n = H.n) (hH : H.sd.Ok) (body : Sx) (as : List Ac) (e0 e1 e2 : Option W) (er : List (Option W)) (w3 : Option W) (s0 : Store) (N : Nat)
    (hs : ∀ H1 a, a ∈ as → H1.sd.Ok → H1.n = H.n → Ok (runS Φ C.M C.CI C.FO C.xi body (e0 :: e1 :: e2 :: some (.d (encA a)) :: er) (hst I d H1)) fun p t => p = (.next, e0 :: e1 :: e2 :: some (.d (encA a)) :: er) ∧ t = hst I d (ifOk f H1 a)) :
    Ok (forL (still none s0) false N (fun w env s => match bindN [3] true w env with
      | some env => runS Φ C.M C.CI C.FO C.xi body env s
      | none => .stuck) (as.map (W.d ∘ encA)) (e0 :: e1 :: e2 :: w3 :: er) (hst I d H)) fun p t => p.1 = .next ∧ t = hst I d (as.foldl (ifOk f) H) := by
  obtain ⟨J, hJ⟩ : ∃ J : Nat → Env → Store → Prop, ∀ i e s, J i e s ↔ s = hst I d ((as.take i).foldl (ifOk f) H) ∧ ∃ w3, e = e0 :: e1 :: e2 :: w3 :: er := ⟨_, fun _ _ _ => Iff.rfl⟩
  refine Ok_for0 _ J (fun i e s _ => rfl) (fun i w e s hw hI => ?_) (fun e s hI => ?_) _ _ ((hJ _ _ _).mpr ⟨by simp, _, rfl⟩)
  · obtain ⟨rfl, w3, rfl⟩ := (hJ _ _ _).mp hI
    simp only [List.getElem?_map, Option.map_eq_some_iff] at hw
    obtain ⟨a, ha, rfl⟩ := hw
    obtain ⟨h1, h2⟩ := List.getElem?_eq_some_iff.mp ha
    obtain ⟨q1, q2⟩ := acts_good hf (as.take i) hH
    have q := hs _ a (List.mem_of_getElem? ha) q1 q2
    show Ok (runS Φ C.M C.CI C.FO C.xi body (e0 :: e1 :: e2 :: some (.d (encA a)) :: er) _) _
    refine q.mono fun p t e => ?_
    obtain ⟨rfl, rfl⟩ := e
    refine (hJ _ _ _).mpr ⟨?_, _, rfl⟩
    rw [List.take_succ_eq_append_getElem h1, List.foldl_append, h2]
    rfl
  · obtain ⟨rfl, w3, rfl⟩ := (hJ _ _ _).mp hI
    simp
end
end Cg

set_option linter.all false
set_option maxRecDepth 100000
set_option maxHeartbeats 4000000
/-! Cg: the three kinds of deeds done. -/
namespace Cg
open PySem hiding Env listOf
open Cc
def acell (I : Ix) (h : Int) (w : Str) (v : Int) : Cell := .ins I.c_Ask [(w_hand, .d (.int h)), (w_word, .d (.str w)), (w_number, .d (.int v))]
def wish (H : Hl) (h : Nat) (w : Str) (v : Int) : Hl := if w = w_write then (match H.sd.lines[h]? with
  | some x => H.setL h { x with want := v }
  | none => H) else H
theorem wish_good {H : Hl} (hH : H.sd.Ok) (h : Nat) (w : Str) (v : Int) : (wish H h w v).sd.Ok ∧ (wish H h w v).n = H.n := by
  unfold wish
  split
  · split
    · rename_i x hx
      have ox := at_ok hH hx
      exact setL_good hH ox
    · exact ⟨hH, rfl⟩
  · exact ⟨hH, rfl⟩
def handF (h : Nat) (v : Vl) (H : Hl) (a : Ac) : Hl := handAct H h a v
def houseF (h : Nat) (v : Vl) (H : Hl) (a : Ac) : Hl := houseAct H h a v
theorem ws_acts (s : Store) (as : List Ac) : wSeq s (.d (encAs as)) = some (as.map (W.d ∘ encA), none) := by
  simp [wSeq, Cc.items, encAs]
def aFor : Sx := (Sx.ite (Bx.tru (Ex.cmp (Cop.is_) (Ex.fld (Ex.var 1) { cps := #[98, 114, 111, 107, 101, 110] }) (Ex.const (PyData.none)))) (Sx.expr (Ex.meth (Ex.var 1) { cps := #[104, 97, 110, 100, 95, 97, 99, 116] } [Ex.fld (Ex.var 0) { cps := #[104, 97, 110, 100] }, Ex.var 3, Ex.const (PyData.none)])) (Sx.pass))
theorem aFor_eq (I : Ix) : b_Ask_done I = Sx.seq
  (Sx.ite
    (Bx.tru (Ex.cmp (Cop.eq) (Ex.fld (Ex.var 0) { cps := #[119, 111, 114, 100] }) (Ex.const (PyData.str { cps := #[119, 114, 105, 116, 101] }))))
    (Sx.assign (Tx.sub (Ex.idx (Ex.fld (Ex.var 1) { cps := #[108, 105, 110, 101, 115] }) (Ex.fld (Ex.var 0) { cps := #[104, 97, 110, 100] })) (Ex.const (PyData.int 2))) (Ex.fld (Ex.var 0) { cps := #[110, 117, 109, 98, 101, 114] }))
    (Sx.pass))
  (Sx.for
    false
    [3]
    true
    (Wk.seq)
    [Ex.var 2]
    aFor) := rfl
def tFor : Sx := (Sx.ite (Bx.tru (Ex.cmp (Cop.is_) (Ex.fld (Ex.var 1) { cps := #[98, 114, 111, 107, 101, 110] }) (Ex.const (PyData.none)))) (Sx.expr (Ex.meth (Ex.var 1) { cps := #[104, 97, 110, 100, 95, 97, 99, 116] } [Ex.fld (Ex.var 0) { cps := #[104, 97, 110, 100] }, Ex.var 3, Ex.var 5])) (Sx.pass))
theorem tFor_eq (I : Ix) : b_Take_done I = Sx.seq
  (Sx.unpack [Tx.name 4, Tx.name 5] (Ex.meth (Ex.var 1) { cps := #[116, 97, 107, 101, 110, 95, 111, 102, 102] } [Ex.fld (Ex.var 0) { cps := #[104, 97, 110, 100] }, Ex.const (PyData.int 3), Ex.fld (Ex.var 0) { cps := #[107] }]))
  (Sx.for false [3] true (Wk.seq) [Ex.var 2] tFor) := rfl
def gFor : Sx := (Sx.ite (Bx.tru (Ex.cmp (Cop.is_) (Ex.fld (Ex.var 1) { cps := #[98, 114, 111, 107, 101, 110] }) (Ex.const (PyData.none)))) (Sx.expr (Ex.meth (Ex.var 1) { cps := #[104, 111, 117, 115, 101, 95, 97, 99, 116] } [Ex.fld (Ex.var 0) { cps := #[104, 97, 110, 100] }, Ex.var 3, Ex.var 5])) (Sx.pass))
theorem gFor_eq (I : Ix) : b_Get_done I = Sx.seq
  (Sx.unpack [Tx.name 4, Tx.name 5] (Ex.idx (Ex.idx (Ex.idx (Ex.fld (Ex.var 1) { cps := #[108, 105, 110, 101, 115] }) (Ex.fld (Ex.var 0) { cps := #[104, 97, 110, 100] })) (Ex.const (PyData.int 4))) (Ex.fld (Ex.var 0) { cps := #[107] })))
  (Sx.seq
    (Sx.ite (Bx.tru (Ex.cmp (Cop.notin) (Ex.tup [Ex.const (PyData.str { cps := #[115, 116, 97, 121] })]) (Ex.var 2))) (Sx.expr (Ex.meth (Ex.var 1) { cps := #[116, 97, 107, 101, 110, 95, 111, 102, 102] } [Ex.fld (Ex.var 0) { cps := #[104, 97, 110, 100] }, Ex.const (PyData.int 4), Ex.fld (Ex.var 0) { cps := #[107] }])) (Sx.pass))
    (Sx.for false [3] true (Wk.seq) [Ex.var 2] gFor)) := rfl
theorem it_acts (s : Store) (as : List Ac) : items s (.d (encAs as)) = some (as.map (W.d ∘ encA)) := by
  simp [Cc.items, encAs]
section
variable {C : Cf} {I : Ix} (g : Has C I) {n : Nat} {H : Hl} {h k : Nat} {x : Ln}
include g
theorem fA (f : Str) (h : Int) (w : Str) (v : Int) (u : W) (hf : (f = w_hand ∧ u = .d (.int h)) ∨ (f = w_word ∧ u = .d (.str w)) ∨ (f = w_number ∧ u = .d (.int v))) : fldW C.FO (hst I (acell I h w v) H) f (.ref 0) = some u := by
  simp only [fldW]
  rw [h0]
  unfold acell
  dsimp only
  rcases hf with ⟨rfl, rfl⟩ | ⟨rfl, rfl⟩ | ⟨rfl, rfl⟩
  · rw [g.f_Ask_hand]; rfl
  · rw [g.f_Ask_word]; rfl
  · rw [g.f_Ask_number]; rfl
theorem fTh (f : Str) (h k : Int) (u : W) (hf : (f = w_hand ∧ u = .d (.int h)) ∨ (f = w_k ∧ u = .d (.int k))) : fldW C.FO (hst I (dcell I (.take h k)) H) f (.ref 0) = some u := by
  simp only [fldW]
  rw [h0]
  unfold dcell
  dsimp only
  rcases hf with ⟨rfl, rfl⟩ | ⟨rfl, rfl⟩
  · rw [g.f_Take_hand]; rfl
  · rw [g.f_Take_k]; rfl
theorem fGh (f : Str) (h k : Int) (u : W) (hf : (f = w_hand ∧ u = .d (.int h)) ∨ (f = w_k ∧ u = .d (.int k))) : fldW C.FO (hst I (dcell I (.get h k)) H) f (.ref 0) = some u := by
  simp only [fldW]
  rw [h0]
  unfold dcell
  dsimp only
  rcases hf with ⟨rfl, rfl⟩ | ⟨rfl, rfl⟩
  · rw [g.f_Get_hand]; rfl
  · rw [g.f_Get_k]; rfl
theorem doneA (hn : I.Ask_done < n) (hh : h < H.n) (hH : H.sd.Ok) (w : Str) (v : Int) (as : List Ac) (ha : ∀ a ∈ as, HAct a) :
    Ok (C.Φ n I.Ask_done [.ref 0, .ref 1, .d (encAs as)] (hst I (acell I h w v) H)) fun a t => a = .d .none ∧ t = hst I (acell I h w v) (as.foldl (ifOk (handF h none)) (wish H h w v)) := by
  refine phi_ok hn g.d_Ask_done rfl ?_
  obtain ⟨x, hx⟩ : ∃ x, H.sd.lines[h]? = some x := ⟨_, List.getElem?_eq_getElem hh⟩
  have loop : ∀ H1 : Hl, H1.sd.Ok → H1.n = H.n → ∀ s0 N w3, Ok (forL (still none s0) false N (fun w env s => match bindN [3] true w env with
      | some env => runS (C.Φ I.Ask_done) C.M C.CI C.FO C.xi aFor env s
      | none => .stuck) (as.map (W.d ∘ encA)) [some (.ref 0), some (.ref 1), some (.d (encAs as)), w3] (hst I (acell I h w v) H1)) fun p t => p.1 = .next ∧ t = hst I (acell I h w v) (as.foldl (ifOk (handF h none)) H1) := fun H1 q1 q2 s0 N w3 => by
    refine act_loop (handF h none) (fun H a hH => handAct_good hH h a none) q1 _ as _ _ _ [] _ _ _ fun H2 a hm g1 g2 => ?_
    obtain ⟨y, hy⟩ : ∃ x, H2.sd.lines[h]? = some x := ⟨_, List.getElem?_eq_getElem (by show h < H2.n; omega)⟩
    have eh := (hand_ok g (d := acell I h w v) g.lt_Hall_hand_act_Ask_done hy (at_ok g1 hy).2 a (ha a hm) none).eq
    unfold aFor
    by_cases hb : H2.br = none
    · simp [Ok_bind, fBroken g, someB, hb, h1, fA g w_hand _ _ _ _ (.inl ⟨rfl, rfl⟩), g.m_Hall_hand_act]
      rw [show PyData.none = encV none from rfl, eh]
      simp [ifOk, hb, handF]
    · simp [Ok_bind, fBroken g, someB, hb]
      simp [ifOk, hb]
  rw [aFor_eq]
  have fw := fA g (H := H) w_word h w v _ (.inr (.inl ⟨rfl, rfl⟩))
  have fn := fA g (H := H) w_number h w v _ (.inr (.inr ⟨rfl, rfl⟩))
  have fh := fA g (H := H) w_hand h w v _ (.inl ⟨rfl, rfl⟩)
  by_cases hw : w = w_write
  · subst hw
    simp [startE, Ok_bind, fw, fn, fh, fLines g, iW hh]
    rw [sWant hx]
    simp [it_acts]
    obtain ⟨q1, q2⟩ := wish_good hH h w_write v
    have ew : wish H h w_write v = H.setL h { x with want := v } := by simp [wish, hx]
    rw [ew] at q1 q2
    refine (loop _ q1 q2 _ _ _).mono fun p t q => ?_
    obtain ⟨fl, e⟩ := p
    obtain ⟨rfl, rfl⟩ := q
    rw [ew]
    simp
  · simp [startE, Ok_bind, fw, fn, fh, hw, it_acts]
    refine (loop _ hH rfl _ _ _).mono fun p t q => ?_
    obtain ⟨fl, e⟩ := p
    obtain ⟨rfl, rfl⟩ := q
    simp [wish, hw]
theorem doneT (hn : I.Take_done < n) (hx : H.sd.lines[h]? = some x) (hH : H.sd.Ok) {q : Lt} (hp : x.to[k]? = some q) (as : List Ac) (ha : ∀ a ∈ as, HAct a) :
    Ok (C.Φ n I.Take_done [.ref 0, .ref 1, .d (encAs as)] (hst I (dcell I (.take h k)) H)) fun a t => a = .d .none ∧ t = hst I (dcell I (.take h k)) (as.foldl (ifOk (handF h q.2)) (takenOff H h true k)) := by
  refine phi_ok hn g.d_Take_done rfl ?_
  have hh : h < H.n := (List.getElem?_eq_some_iff.mp hx).1
  obtain ⟨q1, q2⟩ := off_good hH h true k
  have loop : ∀ s0 N w3 w4, Ok (forL (still none s0) false N (fun w env s => match bindN [3] true w env with
      | some env => runS (C.Φ I.Take_done) C.M C.CI C.FO C.xi tFor env s
      | none => .stuck) (as.map (W.d ∘ encA)) [some (.ref 0), some (.ref 1), some (.d (encAs as)), w3, w4, some (.d (encV q.2))] (hst I (dcell I (.take h k)) (takenOff H h true k))) fun p t => p.1 = .next ∧ t = hst I (dcell I (.take h k)) (as.foldl (ifOk (handF h q.2)) (takenOff H h true k)) := fun s0 N w3 w4 => by
    refine act_loop (handF h q.2) (fun H a hH => handAct_good hH h a q.2) q1 _ as _ _ _ _ _ _ _ fun H2 a hm g1 g2 => ?_
    obtain ⟨y, hy⟩ : ∃ x, H2.sd.lines[h]? = some x := ⟨_, List.getElem?_eq_getElem (by show h < H2.n; omega)⟩
    have eh := (hand_ok g (d := dcell I (.take h k)) g.lt_Hall_hand_act_Take_done hy (at_ok g1 hy).2 a (ha a hm) q.2).eq
    have fh := fTh g (H := H2) w_hand h k _ (.inl ⟨rfl, rfl⟩)
    unfold tFor
    by_cases hb : H2.br = none
    · simp [Ok_bind, fBroken g, someB, hb, h1, fh, g.m_Hall_hand_act]
      rw [eh]
      simp [ifOk, hb, handF]
    · simp [Ok_bind, fBroken g, someB, hb]
      simp [ifOk, hb]
  rw [tFor_eq]
  have fh := fTh g (H := H) w_hand h k _ (.inl ⟨rfl, rfl⟩)
  have fk := fTh g (H := H) w_k h k _ (.inr ⟨rfl, rfl⟩)
  have eo := (off_ok g (d := dcell I (.take h k)) g.lt_Hall_taken_off_Take_done hx true (way_ok (at_ok hH hx) true) hp).eq
  simp only [wayI, if_true] at eo
  simp [startE, Ok_bind, fh, fk, h1, g.m_Hall_taken_off]
  rw [eo]
  simp [encK, it_acts]
  refine (loop _ _ _ _).mono fun p t q => ?_
  obtain ⟨fl, e⟩ := p
  obtain ⟨rfl, rfl⟩ := q
  simp
end
/-- a row that leaves the letter where it is -/
def stayB (as : List Ac) : Bool := (as.map encA).any fun z => PyData.eqv z (.tuple [.str w_stay])
def taken (H : Hl) (h k : Nat) (as : List Ac) : Hl := if stayB as then H else takenOff H h false k
section
variable {C : Cf} {I : Ix} (g : Has C I) {n : Nat} {H : Hl} {h k : Nat} {x : Ln}
include g
theorem doneG (hn : I.Get_done < n) (hx : H.sd.lines[h]? = some x) (hH : H.sd.Ok) {q : Lt} (hp : x.ba[k]? = some q) (as : List Ac) (ha : ∀ a ∈ as, SAct a) (hl : PyData.canLayAll0 (as.map encA) = true) :
    Ok (C.Φ n I.Get_done [.ref 0, .ref 1, .d (encAs as)] (hst I (dcell I (.get h k)) H)) fun a t => a = .d .none ∧ t = hst I (dcell I (.get h k)) (as.foldl (ifOk (houseF h q.2)) (taken H h k as)) := by
  refine phi_ok hn g.d_Get_done rfl ?_
  have hh : h < H.n := (List.getElem?_eq_some_iff.mp hx).1
  have loop : ∀ H1 : Hl, H1.sd.Ok → H1.n = H.n → ∀ s0 N w3 w4, Ok (forL (still none s0) false N (fun w env s => match bindN [3] true w env with
      | some env => runS (C.Φ I.Get_done) C.M C.CI C.FO C.xi gFor env s
      | none => .stuck) (as.map (W.d ∘ encA)) [some (.ref 0), some (.ref 1), some (.d (encAs as)), w3, w4, some (.d (encV q.2))] (hst I (dcell I (.get h k)) H1)) fun p t => p.1 = .next ∧ t = hst I (dcell I (.get h k)) (as.foldl (ifOk (houseF h q.2)) H1) := fun H1 q1 q2 s0 N w3 w4 => by
    refine act_loop (houseF h q.2) (fun H a hH => houseAct_good hH h a q.2) q1 _ as _ _ _ _ _ _ _ fun H2 a hm g1 g2 => ?_
    obtain ⟨y, hy⟩ : ∃ x, H2.sd.lines[h]? = some x := ⟨_, List.getElem?_eq_getElem (by show h < H2.n; omega)⟩
    have eh := (house_ok g (d := dcell I (.get h k)) g.lt_Hall_house_act_Get_done hy g1 a (ha a hm) q.2).eq
    have fh := fGh g (H := H2) w_hand h k _ (.inl ⟨rfl, rfl⟩)
    unfold gFor
    by_cases hb : H2.br = none
    · simp [Ok_bind, fBroken g, someB, hb, h1, fh, g.m_Hall_house_act]
      rw [eh]
      simp [ifOk, hb, houseF]
    · simp [Ok_bind, fBroken g, someB, hb]
      simp [ifOk, hb]
  rw [gFor_eq]
  have fh := fGh g (H := H) w_hand h k _ (.inl ⟨rfl, rfl⟩)
  have fk := fGh g (H := H) w_k h k _ (.inr ⟨rfl, rfl⟩)
  have l4 : L2.atI x.l 4 = some (encW x.ba) := l_way x false
  have eo := (off_ok g (d := dcell I (.get h k)) g.lt_Hall_taken_off_Get_done hx false (way_ok (at_ok hH hx) false) hp).eq
  have ew : wayI false = 4 := rfl
  rw [ew] at eo
  have ei : inD (.tuple [.str w_stay]) (encAs as) = some (stayB as) := by
    unfold encAs inD
    dsimp only
    rw [hl, show SeqAt.shaped (.tuple [.str w_stay]) = true by decide +kernel]
    rfl
  have ak : L2.atI (x.ba.map encK) (k : Int) = some (encK q) := by simp [atI_nat hp]
  simp [startE, Ok_bind, fh, fk, fLines g, iW hh, iL hx, l4, encW, atI_nat hp, encK, mkTupW, mkTup, sizeLine, ei]
  by_cases hs : stayB as = true
  · rw [if_pos hs, it_acts]
    have et : taken H h k as = H := by simp [taken, hs]
    rw [et]
    refine (loop H hH rfl _ _ _ _).mono fun p t q => ?_
    obtain ⟨fl, e⟩ := p
    obtain ⟨rfl, rfl⟩ := q
    simp
  · rw [if_neg hs]
    obtain ⟨q1, q2⟩ := off_good hH h false k
    have et : taken H h k as = takenOff H h false k := by simp [taken, hs]
    rw [et]
    simp [h1, g.m_Hall_taken_off]
    rw [eo]
    simp [it_acts]
    refine (loop _ q1 q2 _ _ _ _).mono fun p t q => ?_
    obtain ⟨fl, e⟩ := p
    obtain ⟨rfl, rfl⟩ := q
    simp
end
end Cg

set_option linter.all false
set_option maxRecDepth 100000
set_option maxHeartbeats 4000000
/-! Cg: a step. -/
namespace Cg
open PySem hiding Env listOf
open Cc
def Ra {α : Type} (r : Res α) (x : Exn) : Prop := match r with
  | .exc y _ => y = x
  | _ => False
section
variable {α β : Type} {s : Store} {x y : Exn}
@[simp] theorem Ra_exc : Ra (.exc y s : Res α) x ↔ y = x := Iff.rfl
@[simp] theorem Ra_ok {a : α} : Ra (.ok a s) x ↔ False := Iff.rfl
@[simp] theorem Ra_stuck : Ra (.stuck : Res α) x ↔ False := Iff.rfl
theorem Ra.ex {r : Res α} (h : Ra r x) : ∃ s, r = .exc x s := by
  cases r with
  | exc y s => cases (show y = x from h); exact ⟨s, rfl⟩
  | ok a s => exact h.elim
  | stuck => exact h.elim
end
@[simp] theorem bind_exc {α β : Type} {x : Exn} {s : Store} {f : α → Store → Res β} : (Res.exc x s : Res α).bind f = .exc x s := rfl
@[simp] theorem runS_raise {Φ : FT} {M : CTab} {CI : Nat → Option Nat} {FO : Nat → Str → Bool} {XI : Nat → List PyData → Option (List (Str × PyData))} {c : Nat} {es : List Ex} {env : Cc.Env} {s : Store} : runS Φ M CI FO XI (.raise c es) env s = (runEs Φ M CI FO es env s).bind fun ws s => match allPure ws with
    | some xs => match XI c xs with
      | some fs => .exc ⟨c, fs⟩ s
      | none => .stuck
    | none => .stuck := by
  simp only [runS] <;> rfl
theorem phi_ra {C : Cf} {n i ps ns : Nat} {b : Sx} {ws : List W} {s : Store} {x : Exn} (h : i < n) (hd : C.ds i = ⟨ps, ns, b⟩) (hl : ws.length = ps) (hr : Ra (runS (C.Φ i) C.M C.CI C.FO C.xi b (startE ns ws) s) x) : Ra (C.Φ n i ws s) x := by
  rw [phi_at h, hd]
  unfold runF
  rw [if_pos hl]
  obtain ⟨t, e⟩ := hr.ex
  rw [e]
  rfl
structure Out where
  sd : Sd
  an : An
  ft : Br
def encOut (o : Out) : PyData := .tuple [encS o.sd, encAn o.an, encB o.ft]
/-- an end of step: what it hands back, or NoDeed -/
def Ends (I : Ix) (r : Res (Cc.Flow × Cc.Env)) (o : Option Out) : Prop := match o with
  | some y => Ok r fun p _ => p.1 = .ret (.d (encOut y))
  | none => Ra r ⟨I.c_NoDeed, []⟩
def waitB (as : List Ac) : Bool := PyData.eqv (encAs as) (.tuple [.tuple [.str w_wait]])
def sLast (I : Ix) : Sx := (Sx.seq
                      (Sx.assign (Tx.name 6) (Ex.meth (Ex.var 5) { cps := #[115, 116, 97, 110, 100, 105, 110, 103] } []))
                      (Sx.seq
                        (Sx.ite (Bx.tru (Ex.call (Cm.frz) I.clash [Ex.var 0, Ex.var 6])) (Sx.ret (Ex.tup [Ex.var 1, Ex.const (PyData.none), Ex.tup [Ex.const (PyData.str { cps := #[99, 108, 97, 115, 104] })]])) (Sx.pass))
                        (Sx.ret (Ex.tup [Ex.var 6, Ex.fld (Ex.var 5) { cps := #[97, 110, 115, 119, 101, 114] }, Ex.const (PyData.none)]))))
def sEnd (I : Ix) : Sx := (Sx.seq
              (Sx.assign (Tx.name 5) (Ex.make I.c_Hall [Ex.var 1]))
              (Sx.seq
                (Sx.expr (Ex.meth (Ex.var 3) { cps := #[100, 111, 110, 101] } [Ex.var 5, Ex.idx (Ex.var 4) (Ex.neg (Ex.const (PyData.int 1)))]))
                (Sx.seq
                  (Sx.ite (Bx.tru (Ex.cmp (Cop.isnot) (Ex.fld (Ex.var 5) { cps := #[98, 114, 111, 107, 101, 110] }) (Ex.const (PyData.none)))) (Sx.ret (Ex.tup [Ex.var 1, Ex.const (PyData.none), Ex.fld (Ex.var 5) { cps := #[98, 114, 111, 107, 101, 110] }])) (Sx.pass))
                  (Sx.seq
                    (Sx.ite
                      (Bx.tru (Ex.cmp (Cop.eq) (Ex.idx (Ex.var 4) (Ex.const (PyData.int 0))) (Ex.const (PyData.str { cps := #[104, 97, 110, 100] }))))
                      (Sx.assign (Tx.sub (Ex.idx (Ex.fld (Ex.var 5) { cps := #[108, 105, 110, 101, 115] }) (Ex.idx (Ex.var 2) (Ex.const (PyData.int 1)))) (Ex.const (PyData.int 0))) (Ex.idx (Ex.var 4) (Ex.const (PyData.int 3))))
                      (Sx.assign (Tx.fld (Ex.var 5) { cps := #[104, 111, 117, 115, 101] }) (Ex.idx (Ex.var 4) (Ex.const (PyData.int 4)))))
                    (sLast I)))))
def sTail (I : Ix) : Sx := (Sx.seq
      (Sx.ite (Bx.not (Bx.tru (Ex.meth (Ex.var 3) { cps := #[105, 115, 95, 116, 104, 101, 114, 101] } [Ex.var 1]))) (Sx.raise I.c_NoDeed [Ex.const (PyData.str { cps := #[110, 111, 32, 115, 117, 99, 104, 32, 108, 101, 116, 116, 101, 114] })]) (Sx.pass))
      (Sx.seq
        (Sx.assign (Tx.name 4) (Ex.meth (Ex.var 3) { cps := #[114, 111, 119] } [Ex.var 0, Ex.var 1]))
        (Sx.seq
          (Sx.ite
            (Bx.tru (Ex.cmp (Cop.is_) (Ex.var 4) (Ex.const (PyData.none))))
            (Sx.seq
              (Sx.ite (Bx.tru (Ex.cmp (Cop.eq) (Ex.idx (Ex.var 2) (Ex.const (PyData.int 0))) (Ex.const (PyData.str { cps := #[97, 115, 107] })))) (Sx.raise I.c_NoDeed [Ex.const (PyData.str { cps := #[110, 111, 32, 114, 111, 119, 32, 102, 111, 114, 32, 119, 104, 97, 116, 32, 105, 115, 32, 97, 115, 107, 101, 100] })]) (Sx.pass))
              (Sx.ret (Ex.tup [Ex.var 1, Ex.const (PyData.none), Ex.tup [Ex.const (PyData.str { cps := #[110, 111, 114, 111, 119] })]])))
            (Sx.pass))
          (Sx.seq
            (Sx.ite (Bx.tru (Ex.cmp (Cop.eq) (Ex.idx (Ex.var 4) (Ex.neg (Ex.const (PyData.int 1)))) (Ex.const (PyData.tuple [PyData.tuple [PyData.str { cps := #[119, 97, 105, 116] }]])))) (Sx.raise I.c_NoDeed [Ex.const (PyData.str { cps := #[116, 104, 101, 32, 108, 101, 116, 116, 101, 114, 32, 119, 97, 105, 116, 115] })]) (Sx.pass))
            (sEnd I)))))
theorem step_eq (I : Ix) : b_step I = Sx.seq
  (Sx.ite
    (Bx.or
      (Bx.not (Bx.tru (Ex.chain (Cop.le) (Cop.lt) (Ex.const (PyData.int 0)) (Ex.idx (Ex.var 2) (Ex.const (PyData.int 1))) (Ex.bf (Bf.len) [Ex.idx (Ex.var 1) (Ex.const (PyData.int 3))]))))
      (Bx.and (Bx.tru (Ex.cmp (Cop.ne) (Ex.idx (Ex.var 2) (Ex.const (PyData.int 0))) (Ex.const (PyData.str { cps := #[97, 115, 107] })))) (Bx.tru (Ex.cmp (Cop.lt) (Ex.idx (Ex.var 2) (Ex.const (PyData.int 2))) (Ex.const (PyData.int 0))))))
    (Sx.raise I.c_NoDeed [Ex.const (PyData.str { cps := #[110, 111, 32, 115, 117, 99, 104, 32, 100, 101, 101, 100] })])
    (Sx.pass))
  (Sx.seq
    (Sx.assign (Tx.name 3) (Ex.call (Cm.keep) I.deed_of [Ex.var 2]))
    (sTail I)) := rfl
end Cg

set_option linter.all false
set_option maxRecDepth 100000
set_option maxHeartbeats 4000000
/-! Cg: the end of a step. -/
namespace Cg
open PySem hiding Env listOf
open Cc
/-- the row's last word -/
def lastH (H : Hl) (h : Nat) (r : Rw) : Hl := if r.a = w_hand then (match H.sd.lines[h]? with
  | some x => H.setL h { x with st := r.e }
  | none => H) else { H with sd := { H.sd with house := r.t.getD w_none } }
def lastO (T : Tb) (S : Sd) (H : Hl) : Out := if clashB T H.sd.lines then ⟨S, none, some w_clash⟩ else ⟨H.sd, H.an, none⟩
def endO (T : Tb) (S : Sd) (h : Nat) (r : Rw) (H : Hl) : Out := match H.br with
  | some b => ⟨S, none, some b⟩
  | none => lastO T S (lastH H h r)
theorem lastH_good {H : Hl} (hH : H.sd.Ok) (h : Nat) (r : Rw) : (lastH H h r).sd.Ok ∧ (lastH H h r).n = H.n := by
  unfold lastH
  split
  · split
    · rename_i x hx
      have ox := at_ok hH hx
      exact setL_good hH ox
    · exact ⟨hH, rfl⟩
  · exact ⟨hH, rfl⟩
section
variable {C : Cf} {I : Ix} (g : Has C I) {n : Nat} {d : Cell} {H : Hl} {h k : Nat} {x : Ln} {T : Tb} {S : Sd}
include g
theorem sLast_ok (hH : H.sd.Ok) (D w4 : Option W) (w3 w6 : Option W) :
    Ok (runS (C.Φ I.step) C.M C.CI C.FO C.xi (sLast I) [some (.d (encT T)), some (.d (encS S)), D, w3, w4, some (.ref 1), w6] (hst I d H)) fun p _ => p.1 = .ret (.d (encOut (lastO T S H))) := by
  unfold sLast
  have e1 := (standing_ok g (d := d) (H := H) g.lt_Hall_standing_step hH.1).eq
  simp [Ok_bind, h1, g.m_Hall_standing]
  rw [e1]
  simp [Ok_bind, clash_eq g g.lt_clash_step H.sd hH.1]
  by_cases hc : clashB T H.sd.lines = true
  · simp [hc, Ok_bind, mkTupW, mkTup, sizeLine, lastO, encOut, encAn, encB]
  · simp [hc, Ok_bind, mkTupW, mkTup, sizeLine, lastO, encOut, encAn, encB, fAnswer g]
theorem sEnd_ok (hS : S.Ok) (hh : h < S.lines.length) (r : Rw) (hr : (r.a = w_hand) ∨ (r.a ≠ w_hand ∧ ∃ x, r.t = some x)) (D : PyData) (dr : List PyData) (kd : Str) (hD : D = .tuple (.str kd :: .int (h : Nat) :: dr)) (F : Hl) (hF : F.sd.Ok ∧ F.n = S.lines.length)
    (c : Nat) (fs : List (Str × W)) (i : Nat) (hlk : fs.lookup ⟨#[100, 111, 110, 101]⟩ = none) (hm : C.M c ⟨#[100, 111, 110, 101]⟩ = some i)
    (hd : C.Φ I.step i [.ref 0, .ref 1, .d (encAs r.acts)] (hst I (.ins c fs) ⟨S, none, none⟩) = .ok (.d .none) (hst I (.ins c fs) F)) (w5 w6 : Option W) :
    Ok (runS (C.Φ I.step) C.M C.CI C.FO C.xi (sEnd I) [some (.d (encT T)), some (.d (encS S)), some (.d D), some (.ref 0), some (.d (encR r)), w5, w6] [.ins c fs]) fun p _ => p.1 = .ret (.d (encOut (endO T S h r F))) := by
  subst hD
  unfold sEnd
  have e1 := (init_ok g (d := .ins c fs) (S := S) g.lt_Hall_I_step hS.1 (by omega)).eq
  simp [Ok_bind, g.i_Hall]
  rw [e1]
  simp [Ok_bind, h0, hlk, hm, rowZ]
  rw [hd]
  cases hb : F.br with
  | some b => simp [Ok_bind, fBroken g, someB, hb, mkTupW, mkTup, sizeLine, endO, encOut, encAn]
  | none =>
    have hh2 : h < F.n := by rw [hF.2]; exact hh
    obtain ⟨y, hy⟩ : ∃ x, F.sd.lines[h]? = some x := ⟨_, List.getElem?_eq_getElem hh2⟩
    obtain ⟨q1, q2⟩ := lastH_good hF.1 h r
    have fin : ∀ w6, Ok (runS (C.Φ I.step) C.M C.CI C.FO C.xi (sLast I) [some (.d (encT T)), some (.d (encS S)), some (.d (.tuple (.str kd :: .int (h : Nat) :: dr))), some (.ref 0), some (.d (encR r)), some (.ref 1), w6] (hst I (.ins c fs) (lastH F h r))) fun p _ => p.1 = .ret (.d (encOut (endO T S h r F))) := fun w6 => by
      have := sLast_ok g (d := .ins c fs) (T := T) (S := S) q1 (some (.d (.tuple (.str kd :: .int (h : Nat) :: dr)))) (some (.d (encR r))) (some (.ref 0)) w6
      simpa [endO, hb] using this
    rcases hr with hr | ⟨hr, t, ht⟩
    · simp [Ok_bind, fBroken g, someB, hb, row0, hr, row3, fLines g, iW hh2]
      rw [sSt hy]
      have el : lastH F h r = F.setL h { y with st := r.e } := by simp [lastH, hr, hy]
      rw [← el]
      simpa using fin _
    · simp [Ok_bind, fBroken g, someB, hb, row0, hr, row4 ht]
      rw [sHouseF g]
      have el : lastH F h r = { F with sd := { F.sd with house := t } } := by simp [lastH, hr, ht]
      rw [← el]
      simpa using fin _
end
end Cg

set_option linter.all false
set_option maxRecDepth 100000
set_option maxHeartbeats 4000000
/-! Cg: a step, behind its deed. -/
namespace Cg
open PySem hiding Env listOf
open Cc
def tailO (T : Tb) (S : Sd) (ask : Bool) (h : Nat) (b : Bool) (o : Option Rw) (F : Rw → Hl) : Option Out :=
  if b then match o with
    | none => if ask then none else some ⟨S, none, some ⟨#[110, 111, 114, 111, 119]⟩⟩
    | some r => if waitB r.acts then none else some (endO T S h r (F r))
  else none
section
variable {C : Cf} {I : Ix} (g : Has C I) {h : Nat} {T : Tb} {S : Sd}
include g
theorem xi_no (m : Str) : C.xi I.c_NoDeed [.str m] = some [] := by
  unfold Cf.xi
  rw [if_pos g.x_NoDeed]
theorem tail_ok (hS : S.Ok) (hh : h < S.lines.length) (D : PyData) (dr : List PyData) (kd : Str) (hD : D = .tuple (.str kd :: .int (h : Nat) :: dr)) (c : Nat) (fs : List (Str × W)) (b : Bool) (o : Option Rw) (F : Rw → Hl)
    (iT iR iD : Nat) (lT : fs.lookup ⟨#[105, 115, 95, 116, 104, 101, 114, 101]⟩ = none) (lR : fs.lookup ⟨#[114, 111, 119]⟩ = none) (lD : fs.lookup ⟨#[100, 111, 110, 101]⟩ = none)
    (mT : C.M c ⟨#[105, 115, 95, 116, 104, 101, 114, 101]⟩ = some iT) (mR : C.M c ⟨#[114, 111, 119]⟩ = some iR) (mD : C.M c ⟨#[100, 111, 110, 101]⟩ = some iD)
    (hT : C.Φ I.step iT [.ref 0, .d (encS S)] [.ins c fs] = .ok (.d (.bool b)) [.ins c fs])
    (hR : b = true → C.Φ I.step iR [.ref 0, .d (encT T), .d (encS S)] [.ins c fs] = .ok (.d (encO o)) [.ins c fs])
    (hr : ∀ r, o = some r → RwOk r ∧ (r.a = w_hand ∨ (r.a ≠ w_hand ∧ ∃ x, r.t = some x)))
    (hd : b = true → ∀ r, o = some r → ((F r).sd.Ok ∧ (F r).n = S.lines.length) ∧ C.Φ I.step iD [.ref 0, .ref 1, .d (encAs r.acts)] (hst I (.ins c fs) ⟨S, none, none⟩) = .ok (.d .none) (hst I (.ins c fs) (F r))) (w4 w5 w6 : Option W) :
    Ends I (runS (C.Φ I.step) C.M C.CI C.FO C.xi (sTail I) [some (.d (encT T)), some (.d (encS S)), some (.d D), some (.ref 0), w4, w5, w6] [.ins c fs]) (tailO T S (decide (kd = w_ask)) h b o F) := by
  unfold sTail
  have hx := xi_no g
  cases b with
  | false =>
    show Ra _ _
    simp [lT, mT, hT, hx]
  | true =>
    have hR := hR rfl
    have hd := hd rfl
    cases o with
    | none =>
      by_cases hk : kd = w_ask
      · have : tailO T S (decide (kd = w_ask)) h true none F = none := by simp [tailO, hk]
        rw [this]
        show Ra _ _
        subst hD
        simp [lT, mT, hT, lR, mR, hR, encO, hk, hx]
      · have : tailO T S (decide (kd = w_ask)) h true none F = some ⟨S, none, some ⟨#[110, 111, 114, 111, 119]⟩⟩ := by simp [tailO, hk]
        rw [this]
        show Ok _ _
        subst hD
        simp [Ok_bind, lT, mT, hT, lR, mR, hR, encO, hk, mkTupW, mkTup, sizeLine, encOut, encAn, encB]
    | some r =>
      obtain ⟨r1, r2⟩ := hr r rfl
      obtain ⟨d1, d2⟩ := hd r rfl
      have ew : eqD (encAs r.acts) (.tuple [.tuple [.str ⟨#[119, 97, 105, 116]⟩]]) = some (waitB r.acts) := by
        unfold eqD
        have e1 : scP (encAs r.acts) (.tuple [.tuple [.str ⟨#[119, 97, 105, 116]⟩]]) = false := rfl
        rw [e1, r1.sh, show PyData.canLay0 (.tuple [.tuple [.str ⟨#[119, 97, 105, 116]⟩]]) = true by decide +kernel]
        rfl
      have nn : ∀ s, someW s (.d (encR r)) = some false := fun s => by simp [encR, someW]
      by_cases hw : waitB r.acts = true
      · have : tailO T S (decide (kd = w_ask)) h true (some r) F = none := by simp [tailO, hw]
        rw [this]
        show Ra _ _
        simp [lT, mT, hT, lR, mR, hR, encO, nn, rowZ, ew, hw, hx]
      · have : tailO T S (decide (kd = w_ask)) h true (some r) F = some (endO T S h r (F r)) := by simp [tailO, hw]
        rw [this]
        show Ok _ _
        have fin := fun w5 w6 => sEnd_ok g (T := T) hS hh r r2 D dr kd hD (F r) d1 c fs iD lD mD d2 w5 w6
        simp [Ok_bind, lT, mT, hT, lR, mR, hR, encO, nn, rowZ, ew, hw]
        exact fin _ _
end
end Cg

set_option linter.all false
set_option maxRecDepth 100000
set_option maxHeartbeats 4000000
/-! Cg: a whole step. -/
namespace Cg
open PySem hiding Env listOf
open Cc
abbrev hall0 (S : Sd) : Hl := ⟨S, none, none⟩
/-- what a step does: none is NoDeed -/
def stepP (T : Tb) (S : Sd) : Dd → Option Out
  | .ask h w => if 0 ≤ h ∧ h < S.lines.length then (match S.lines[h.toNat]? with
    | some x => tailO T S true h.toNat true (handRow T x.st w) fun r => r.acts.foldl (ifOk (handF h.toNat none)) (wish (hall0 S) h.toNat w 0)
    | none => none) else none
  | .write h v => if 0 ≤ h ∧ h < S.lines.length then (match S.lines[h.toNat]? with
    | some x => tailO T S true h.toNat true (handRow T x.st w_write) fun r => r.acts.foldl (ifOk (handF h.toNat none)) (wish (hall0 S) h.toNat w_write v)
    | none => none) else none
  | .take h k => if (0 ≤ h ∧ h < S.lines.length) ∧ 0 ≤ k then (match S.lines[h.toNat]? with
    | some x => (match x.to[k.toNat]? with
      | some p => tailO T S false h.toNat true (handRow T x.st p.1) fun r => r.acts.foldl (ifOk (handF h.toNat p.2)) (takenOff (hall0 S) h.toNat true k.toNat)
      | none => none)
    | none => none) else none
  | .get h k => if (0 ≤ h ∧ h < S.lines.length) ∧ 0 ≤ k then (match S.lines[h.toNat]? with
    | some x => (match x.ba[k.toNat]? with
      | some p => tailO T S false h.toNat true (houseRow T S.house p.1 (lastB S.lines h.toNat)) fun r => r.acts.foldl (ifOk (houseF h.toNat p.2)) (taken (hall0 S) h.toNat k.toNat r.acts)
      | none => none)
    | none => none) else none
theorem handRow_mem {T : Tb} {st ev : Str} {r : Rw} (h : handRow T st ev = some r) : r ∈ T.rs ∧ r.a = w_hand := by
  refine ⟨List.mem_of_find?_eq_some h, ?_⟩
  have := List.find?_some h
  simp only [Bool.and_eq_true, decide_eq_true_eq] at this
  exact this.1
theorem houseRow_mem {T : Tb} {st k : Str} {l : Bool} {r : Rw} (h : houseRow T st k l = some r) : r ∈ T.rs ∧ r.a = w_house := by
  refine ⟨List.mem_of_find?_eq_some h, ?_⟩
  have := List.find?_some h
  simp only [pH, Bool.and_eq_true, decide_eq_true_eq] at this
  exact this.1
@[simp] theorem runE_chain {Φ : FT} {M : CTab} {CI : Nat → Option Nat} {FO : Nat → Str → Bool} {o o' : Cop} {a b c : Ex} {env : Cc.Env} {s : Store} : runE Φ M CI FO (.chain o o' a b c) env s = (runE Φ M CI FO a env s).bind fun x s => (runE Φ M CI FO b env s).bind fun y s => (Res.of (cmpW o s x y) s).bind fun k s =>
      if k then (runE Φ M CI FO c env s).bind fun z s => .of ((cmpW o' s y z).map fun b => .d (.bool b)) s else .ok (.d (.bool false)) s := by
  simp only [runE] <;> rfl
section
variable {C : Cf} {I : Ix} (g : Has C I) {h : Nat} {T : Tb} {S : Sd}
include g
theorem deed_keep (D : Dd) (hD : D.Ok) : callM .keep (C.Φ I.step I.deed_of) [.d (encD D)] [] = .ok (.ref 0) [dcell I D] := by
  rw [keep_eq (xs := [encD D]) (by simp) (deed_ok g g.lt_deed_of_step D hD).eq]
  cases D <;> rfl
theorem lenS : ∀ s, bfD s .len [W.d (.tuple (S.lines.map encN))] = some (.int (S.lines.length : Nat)) := fun s => by simp [bfD, one1, bfLen, lenW, lenD]
abbrev env0 (T : Tb) (S : Sd) (D : PyData) : Cc.Env := [some (.d (encT T)), some (.d (encS S)), some (.d D), none, none, none, none]
theorem head_ask (h : Int) (w : Str) (hw : w ≠ w_write) (h1 : 0 ≤ h) (h2 : h < S.lines.length) :
    runS (C.Φ I.step) C.M C.CI C.FO C.xi (b_step I) (env0 T S (encD (.ask h w))) [] = runS (C.Φ I.step) C.M C.CI C.FO C.xi (sTail I) [some (.d (encT T)), some (.d (encS S)), some (.d (encD (.ask h w))), some (.ref 0), none, none, none] [dcell I (.ask h w)] := by
  rw [step_eq]
  have ed := deed_keep g (.ask h w) hw
  have e1 : encS S = .tuple [.str S.house, encV S.store, encL S.last, .tuple (S.lines.map encN)] := rfl
  have e2 : encD (.ask h w) = .tuple [.str w_ask, .int h, .str w] := rfl
  rw [e2] at ed ⊢
  simp [env0, e1, lenS g, h1, h2]
  rw [ed]
  simp
theorem head_bad (D : PyData) (dr : List PyData) (kd : Str) (h : Int) (hD : D = .tuple (.str kd :: .int h :: dr)) (hb : ¬ (0 ≤ h ∧ h < S.lines.length)) :
    Ra (runS (C.Φ I.step) C.M C.CI C.FO C.xi (b_step I) (env0 T S D) []) ⟨I.c_NoDeed, []⟩ := by
  subst hD
  rw [step_eq]
  have e1 : encS S = .tuple [.str S.house, encV S.store, encL S.last, .tuple (S.lines.map encN)] := rfl
  by_cases h1 : 0 ≤ h
  · have h2 : ¬ h < S.lines.length := fun z => hb ⟨h1, z⟩
    have h2' : (S.lines.length : Int) ≤ h := by omega
    simp [env0, e1, lenS g, h1, h2, h2', xi_no g]
  · simp [env0, e1, lenS g, h1, xi_no g]
theorem head_write (h v : Int) (h1 : 0 ≤ h) (h2 : h < S.lines.length) :
    runS (C.Φ I.step) C.M C.CI C.FO C.xi (b_step I) (env0 T S (encD (.write h v))) [] = runS (C.Φ I.step) C.M C.CI C.FO C.xi (sTail I) [some (.d (encT T)), some (.d (encS S)), some (.d (encD (.write h v))), some (.ref 0), none, none, none] [dcell I (.write h v)] := by
  rw [step_eq]
  have ed := deed_keep g (.write h v) trivial
  have e1 : encS S = .tuple [.str S.house, encV S.store, encL S.last, .tuple (S.lines.map encN)] := rfl
  have e2 : encD (.write h v) = .tuple [.str w_ask, .int h, .str w_write, .int v] := rfl
  rw [e2] at ed ⊢
  simp [env0, e1, lenS g, h1, h2]
  rw [ed]
  simp
theorem head_take (h k : Int) (h1 : 0 ≤ h) (h2 : h < S.lines.length) (hk : 0 ≤ k) :
    runS (C.Φ I.step) C.M C.CI C.FO C.xi (b_step I) (env0 T S (encD (.take h k))) [] = runS (C.Φ I.step) C.M C.CI C.FO C.xi (sTail I) [some (.d (encT T)), some (.d (encS S)), some (.d (encD (.take h k))), some (.ref 0), none, none, none] [dcell I (.take h k)] := by
  rw [step_eq]
  have ed := deed_keep g (.take h k) trivial
  have e1 : encS S = .tuple [.str S.house, encV S.store, encL S.last, .tuple (S.lines.map encN)] := rfl
  have e2 : encD (.take h k) = .tuple [.str w_take, .int h, .int k] := rfl
  have h3 : ¬ k < 0 := by omega
  rw [e2] at ed ⊢
  simp [env0, e1, lenS g, h1, h2, h3]
  rw [ed]
  simp
theorem head_get (h k : Int) (h1 : 0 ≤ h) (h2 : h < S.lines.length) (hk : 0 ≤ k) :
    runS (C.Φ I.step) C.M C.CI C.FO C.xi (b_step I) (env0 T S (encD (.get h k))) [] = runS (C.Φ I.step) C.M C.CI C.FO C.xi (sTail I) [some (.d (encT T)), some (.d (encS S)), some (.d (encD (.get h k))), some (.ref 0), none, none, none] [dcell I (.get h k)] := by
  rw [step_eq]
  have ed := deed_keep g (.get h k) trivial
  have e1 : encS S = .tuple [.str S.house, encV S.store, encL S.last, .tuple (S.lines.map encN)] := rfl
  have e2 : encD (.get h k) = .tuple [.str w_get, .int h, .int k] := rfl
  have h3 : ¬ k < 0 := by omega
  rw [e2] at ed ⊢
  simp [env0, e1, lenS g, h1, h2, h3]
  rw [ed]
  simp
theorem head_badk (kd : Str) (hkd : kd ≠ w_ask) (h k : Int) (h1 : 0 ≤ h) (h2 : h < S.lines.length) (hk : k < 0) :
    Ra (runS (C.Φ I.step) C.M C.CI C.FO C.xi (b_step I) (env0 T S (.tuple [.str kd, .int h, .int k])) []) ⟨I.c_NoDeed, []⟩ := by
  rw [step_eq]
  have e1 : encS S = .tuple [.str S.house, encV S.store, encL S.last, .tuple (S.lines.map encN)] := rfl
  simp [env0, e1, lenS g, h1, h2, hkd, hk, xi_no g]
end
end Cg

set_option linter.all false
set_option maxRecDepth 100000
set_option maxHeartbeats 4000000
/-! Cg: a whole step, as a call. -/
namespace Cg
open PySem hiding Env listOf
open Cc
/-- a table whose rows are sound -/
def Tb.Ok (T : Tb) : Prop := ∀ r ∈ T.rs, RwOk r
theorem hall0_ok {S : Sd} (hS : S.Ok) : (hall0 S).sd.Ok := hS
theorem handF_good (h : Nat) (v : Vl) : ∀ H a, H.sd.Ok → (handF h v H a).sd.Ok ∧ (handF h v H a).n = H.n := fun H a hH => handAct_good hH h a v
theorem houseF_good (h : Nat) (v : Vl) : ∀ H a, H.sd.Ok → (houseF h v H a).sd.Ok ∧ (houseF h v H a).n = H.n := fun H a hH => houseAct_good hH h a v
theorem taken_good {H : Hl} (hH : H.sd.Ok) (h k : Nat) (as : List Ac) : (taken H h k as).sd.Ok ∧ (taken H h k as).n = H.n := by
  unfold taken
  split
  · exact ⟨hH, rfl⟩
  · exact off_good hH _ _ _
theorem handRow_ok {T : Tb} (hT : T.Ok) {st ev : Str} {o : Option Rw} (ho : handRow T st ev = o) : ∀ r, o = some r → RwOk r ∧ (r.a = w_hand ∨ (r.a ≠ w_hand ∧ ∃ x, r.t = some x)) := fun r e => by
  obtain ⟨m, a⟩ := handRow_mem (ho.trans e)
  exact ⟨hT r m, .inl a⟩
theorem houseRow_ok {T : Tb} (hT : T.Ok) {st k : Str} {l : Bool} {o : Option Rw} (ho : houseRow T st k l = o) : ∀ r, o = some r → RwOk r ∧ (r.a = w_hand ∨ (r.a ≠ w_hand ∧ ∃ x, r.t = some x)) := fun r e => by
  obtain ⟨m, a⟩ := houseRow_mem (ho.trans e)
  exact ⟨hT r m, .inr ⟨by rw [a]; decide +kernel, ((hT r m).house a).1⟩⟩
section
variable {C : Cf} {I : Ix} (g : Has C I) {T : Tb} {S : Sd}
include g
theorem ends_askw (hT : T.Ok) (hS : S.Ok) (h : Nat) (hh : h < S.lines.length) (x : Ln) (hx : S.lines[h]? = some x) (w : Str) (v : Int) (D : PyData) (dr : List PyData) (hD : D = .tuple (.str w_ask :: .int (h : Nat) :: dr)) :
    Ends I (runS (C.Φ I.step) C.M C.CI C.FO C.xi (sTail I) [some (.d (encT T)), some (.d (encS S)), some (.d D), some (.ref 0), none, none, none] [acell I h w v])
      (tailO T S true h true (handRow T x.st w) fun r => r.acts.foldl (ifOk (handF h none)) (wish (hall0 S) h w v)) := by
  obtain ⟨q1, q2⟩ := wish_good (hall0_ok hS) h w v
  have := tail_ok g hS hh D dr w_ask hD I.c_Ask [(w_hand, .d (.int (h : Nat))), (w_word, .d (.str w)), (w_number, .d (.int v))] true (handRow T x.st w) (fun r => r.acts.foldl (ifOk (handF h none)) (wish (hall0 S) h w v))
    I.Ask_is_there I.Ask_row I.Ask_done rfl rfl rfl g.m_Ask_is_there g.m_Ask_row g.m_Ask_done (thereA g g.lt_Ask_is_there_step _ _ _).eq (fun _ => (rowA g g.lt_Ask_row_step hx w v).eq) (handRow_ok hT rfl)
    (fun _ r hr => by
      obtain ⟨m, a⟩ := handRow_mem hr
      obtain ⟨a1, a2⟩ := acts_good (handF_good h none) r.acts q1
      exact ⟨⟨a1, a2.trans q2⟩, (doneA g g.lt_Ask_done_step (H := hall0 S) hh hS w v r.acts ((hT r m).hand a).2).eq⟩) none none none
  have e : decide (w_ask = w_ask) = true := by decide +kernel
  rw [e] at this
  exact this
theorem ends_take (hT : T.Ok) (hS : S.Ok) (h k : Nat) (hh : h < S.lines.length) (x : Ln) (hx : S.lines[h]? = some x) :
    Ends I (runS (C.Φ I.step) C.M C.CI C.FO C.xi (sTail I) [some (.d (encT T)), some (.d (encS S)), some (.d (encD (.take h k))), some (.ref 0), none, none, none] [dcell I (.take h k)])
      (match x.to[k]? with
      | some p => tailO T S false h true (handRow T x.st p.1) fun r => r.acts.foldl (ifOk (handF h p.2)) (takenOff (hall0 S) h true k)
      | none => none) := by
  obtain ⟨q1, q2⟩ := off_good (hall0_ok hS) h true k
  cases hp : x.to[k]? with
  | none =>
    have hk : ¬ k < x.to.length := fun z => by rw [List.getElem?_eq_getElem z] at hp; cases hp
    have := tail_ok g (T := T) hS hh (encD (.take h k)) [.int (k : Nat)] w_take rfl I.c_Take [(w_hand, .d (.int (h : Nat))), (w_k, .d (.int (k : Nat)))] false none (fun _ => hall0 S)
      I.Take_is_there I.Take_row I.Take_done rfl rfl rfl g.m_Take_is_there g.m_Take_row g.m_Take_done (by have := (thereT g g.lt_Take_is_there_step (h := h) (k := k) hx).eq; simpa [hk, dcell] using this) (fun z => by cases z) (fun r z => by cases z)
      (fun z => by cases z) none none none
    exact this
  | some p =>
    have hk : k < x.to.length := (List.getElem?_eq_some_iff.mp hp).1
    have := tail_ok g (T := T) hS hh (encD (.take h k)) [.int (k : Nat)] w_take rfl I.c_Take [(w_hand, .d (.int (h : Nat))), (w_k, .d (.int (k : Nat)))] true (handRow T x.st p.1) (fun r => r.acts.foldl (ifOk (handF h p.2)) (takenOff (hall0 S) h true k))
      I.Take_is_there I.Take_row I.Take_done rfl rfl rfl g.m_Take_is_there g.m_Take_row g.m_Take_done (by have := (thereT g g.lt_Take_is_there_step (h := h) (k := k) hx).eq; simpa [hk, dcell] using this) (fun _ => (rowT g g.lt_Take_row_step (T := T) hx hp).eq) (handRow_ok hT rfl)
      (fun _ r hr => by
        obtain ⟨m, a⟩ := handRow_mem hr
        obtain ⟨a1, a2⟩ := acts_good (handF_good h p.2) r.acts q1
        exact ⟨⟨a1, a2.trans q2⟩, (doneT g g.lt_Take_done_step (H := hall0 S) hx hS hp r.acts ((hT r m).hand a).2).eq⟩) none none none
    have e : decide (w_take = w_ask) = false := by decide +kernel
    rw [e] at this
    exact this
theorem ends_get (hT : T.Ok) (hS : S.Ok) (h k : Nat) (hh : h < S.lines.length) (x : Ln) (hx : S.lines[h]? = some x) :
    Ends I (runS (C.Φ I.step) C.M C.CI C.FO C.xi (sTail I) [some (.d (encT T)), some (.d (encS S)), some (.d (encD (.get h k))), some (.ref 0), none, none, none] [dcell I (.get h k)])
      (match x.ba[k]? with
      | some p => tailO T S false h true (houseRow T S.house p.1 (lastB S.lines h)) fun r => r.acts.foldl (ifOk (houseF h p.2)) (taken (hall0 S) h k r.acts)
      | none => none) := by
  cases hp : x.ba[k]? with
  | none =>
    have hk : ¬ k < x.ba.length := fun z => by rw [List.getElem?_eq_getElem z] at hp; cases hp
    have := tail_ok g (T := T) hS hh (encD (.get h k)) [.int (k : Nat)] w_get rfl I.c_Get [(w_hand, .d (.int (h : Nat))), (w_k, .d (.int (k : Nat)))] false none (fun _ => hall0 S)
      I.Get_is_there I.Get_row I.Get_done rfl rfl rfl g.m_Get_is_there g.m_Get_row g.m_Get_done (by have := (thereG g g.lt_Get_is_there_step (h := h) (k := k) hx).eq; simpa [hk, dcell] using this) (fun z => by cases z) (fun r z => by cases z)
      (fun z => by cases z) none none none
    exact this
  | some p =>
    have hk : k < x.ba.length := (List.getElem?_eq_some_iff.mp hp).1
    have := tail_ok g (T := T) hS hh (encD (.get h k)) [.int (k : Nat)] w_get rfl I.c_Get [(w_hand, .d (.int (h : Nat))), (w_k, .d (.int (k : Nat)))] true (houseRow T S.house p.1 (lastB S.lines h)) (fun r => r.acts.foldl (ifOk (houseF h p.2)) (taken (hall0 S) h k r.acts))
      I.Get_is_there I.Get_row I.Get_done rfl rfl rfl g.m_Get_is_there g.m_Get_row g.m_Get_done (by have := (thereG g g.lt_Get_is_there_step (h := h) (k := k) hx).eq; simpa [hk, dcell] using this) (fun _ => (rowG g g.lt_Get_row_step hT hS.1 hx hp).eq) (houseRow_ok hT rfl)
      (fun _ r hr => by
        obtain ⟨m, a⟩ := houseRow_mem hr
        obtain ⟨q1, q2⟩ := taken_good (hall0_ok hS) h k r.acts
        obtain ⟨a1, a2⟩ := acts_good (houseF_good h p.2) r.acts q1
        exact ⟨⟨a1, a2.trans q2⟩, (doneG g g.lt_Get_done_step (H := hall0 S) hx hS hp r.acts ((hT r m).house a).2 (hT r m).lay).eq⟩) none none none
    have e : decide (w_get = w_ask) = false := by decide +kernel
    rw [e] at this
    exact this
theorem step_ends (hT : T.Ok) (hS : S.Ok) (D : Dd) (hD : D.Ok) : Ends I (runS (C.Φ I.step) C.M C.CI C.FO C.xi (b_step I) (env0 T S (encD D)) []) (stepP T S D) := by
  have line : ∀ h : Int, 0 ≤ h → h < S.lines.length → ∃ m : Nat, h = m ∧ m < S.lines.length ∧ ∃ x, S.lines[m]? = some x := fun h h1 h2 => by
    have hl : h.toNat < S.lines.length := by omega
    exact ⟨h.toNat, by omega, hl, _, List.getElem?_eq_getElem hl⟩
  cases D with
  | ask h w =>
    by_cases hv : 0 ≤ h ∧ h < S.lines.length
    · rw [head_ask g h w hD hv.1 hv.2]
      obtain ⟨m, rfl, hm, x, hx⟩ := line h hv.1 hv.2
      have := ends_askw g hT hS m hm x hx w 0 (encD (.ask m w)) [.str w] rfl
      simp only [stepP, if_pos hv, Int.toNat_natCast, hx]
      exact this
    · have := head_bad g (T := T) (S := S) (encD (.ask h w)) [.str w] w_ask h rfl hv
      simp only [stepP, if_neg hv]
      exact this
  | write h v =>
    by_cases hv : 0 ≤ h ∧ h < S.lines.length
    · rw [head_write g h v hv.1 hv.2]
      obtain ⟨m, rfl, hm, x, hx⟩ := line h hv.1 hv.2
      have := ends_askw g hT hS m hm x hx w_write v (encD (.write m v)) [.str w_write, .int v] rfl
      simp only [stepP, if_pos hv, Int.toNat_natCast, hx]
      exact this
    · have := head_bad g (T := T) (S := S) (encD (.write h v)) [.str w_write, .int v] w_ask h rfl hv
      simp only [stepP, if_neg hv]
      exact this
  | take h k =>
    by_cases hv : 0 ≤ h ∧ h < S.lines.length
    · by_cases hk : 0 ≤ k
      · rw [head_take g h k hv.1 hv.2 hk]
        obtain ⟨m, rfl, hm, x, hx⟩ := line h hv.1 hv.2
        obtain ⟨j, rfl⟩ : ∃ j : Nat, k = j := ⟨k.toNat, by omega⟩
        have := ends_take g hT hS m j hm x hx
        simp only [stepP, if_pos (And.intro hv hk), Int.toNat_natCast, hx]
        exact this
      · have := head_badk g (T := T) (S := S) w_take (by decide +kernel) h k hv.1 hv.2 (by omega)
        simp only [stepP, if_neg (fun z : (0 ≤ h ∧ h < S.lines.length) ∧ 0 ≤ k => hk z.2)]
        exact this
    · have := head_bad g (T := T) (S := S) (encD (.take h k)) [.int k] w_take h rfl hv
      simp only [stepP, if_neg (fun z : (0 ≤ h ∧ h < S.lines.length) ∧ 0 ≤ k => hv z.1)]
      exact this
  | get h k =>
    by_cases hv : 0 ≤ h ∧ h < S.lines.length
    · by_cases hk : 0 ≤ k
      · rw [head_get g h k hv.1 hv.2 hk]
        obtain ⟨m, rfl, hm, x, hx⟩ := line h hv.1 hv.2
        obtain ⟨j, rfl⟩ : ∃ j : Nat, k = j := ⟨k.toNat, by omega⟩
        have := ends_get g hT hS m j hm x hx
        simp only [stepP, if_pos (And.intro hv hk), Int.toNat_natCast, hx]
        exact this
      · have := head_badk g (T := T) (S := S) w_get (by decide +kernel) h k hv.1 hv.2 (by omega)
        simp only [stepP, if_neg (fun z : (0 ≤ h ∧ h < S.lines.length) ∧ 0 ≤ k => hk z.2)]
        exact this
    · have := head_bad g (T := T) (S := S) (encD (.get h k)) [.int k] w_get h rfl hv
      simp only [stepP, if_neg (fun z : (0 ≤ h ∧ h < S.lines.length) ∧ 0 ≤ k => hv z.1)]
      exact this
/-- what a call of step answers -/
def stepR (I : Ix) (o : Option Out) (s : Store) : Res W := match o with
  | some y => .ok (.d (encOut y)) s
  | none => .exc ⟨I.c_NoDeed, []⟩ s
theorem step_eqn {n : Nat} (hn : I.step < n) (hT : T.Ok) (hS : S.Ok) (D : Dd) (hD : D.Ok) (s : Store) : callM .frz (C.Φ n I.step) [.d (encT T), .d (encS S), .d (encD D)] s = stepR I (stepP T S D) s := by
  have e := step_ends g hT hS D hD
  cases q : stepP T S D with
  | some y =>
    rw [q] at e
    refine callf (xs := [encT T, encS S, encD D]) (by simp) (phi_ok hn g.d_step rfl ?_)
    refine Ok.mono (show Ok _ _ from e) fun p t h => ?_
    obtain ⟨fl, en⟩ := p
    cases h
    rfl
  | none =>
    rw [q] at e
    obtain ⟨t, ht⟩ := (phi_ra (C := C) (n := n) (ws := [.d (encT T), .d (encS S), .d (encD D)]) (s := []) hn g.d_step rfl e).ex
    simp only [callM, allPure_d, allPure, Option.map_some]
    rw [ht]
    rfl
end
end Cg

set_option linter.all false
set_option maxRecDepth 100000
set_option maxHeartbeats 4000000
/-! Cg: a step keeps standings sound; start. -/
namespace Cg
open PySem hiding Env listOf
open Cc
theorem endO_good {T : Tb} {S : Sd} (hS : S.Ok) {h : Nat} {r : Rw} {H : Hl} (hH : H.sd.Ok ∧ H.n = S.lines.length) : (endO T S h r H).sd.Ok ∧ (endO T S h r H).sd.lines.length = S.lines.length := by
  unfold endO
  split
  · exact ⟨hS, rfl⟩
  · obtain ⟨q1, q2⟩ := lastH_good hH.1 h r
    unfold lastO
    split
    · exact ⟨hS, rfl⟩
    · exact ⟨q1, q2.trans hH.2⟩
theorem tailO_good {T : Tb} {S : Sd} (hS : S.Ok) {a : Bool} {h : Nat} {b : Bool} {o : Option Rw} {F : Rw → Hl} (hF : ∀ r, (F r).sd.Ok ∧ (F r).n = S.lines.length) {y : Out} (e : tailO T S a h b o F = some y) : y.sd.Ok ∧ y.sd.lines.length = S.lines.length := by
  unfold tailO at e
  split at e
  · split at e
    · split at e
      · cases e
      · cases e; exact ⟨hS, rfl⟩
    · split at e
      · cases e
      · cases e; exact endO_good hS (hF _)
  · cases e
theorem stepP_good {T : Tb} {S : Sd} (hS : S.Ok) {D : Dd} {y : Out} (e : stepP T S D = some y) : y.sd.Ok ∧ y.sd.lines.length = S.lines.length := by
  have f1 : ∀ h w v (as : List Ac), (as.foldl (ifOk (handF h none)) (wish (hall0 S) h w v)).sd.Ok ∧ (as.foldl (ifOk (handF h none)) (wish (hall0 S) h w v)).n = S.lines.length := fun h w v as => by
    obtain ⟨q1, q2⟩ := wish_good (hall0_ok hS) h w v
    obtain ⟨a1, a2⟩ := acts_good (handF_good h none) as q1
    exact ⟨a1, a2.trans q2⟩
  have f2 : ∀ h k v (as : List Ac), (as.foldl (ifOk (handF h v)) (takenOff (hall0 S) h true k)).sd.Ok ∧ (as.foldl (ifOk (handF h v)) (takenOff (hall0 S) h true k)).n = S.lines.length := fun h k v as => by
    obtain ⟨q1, q2⟩ := off_good (hall0_ok hS) h true k
    obtain ⟨a1, a2⟩ := acts_good (handF_good h v) as q1
    exact ⟨a1, a2.trans q2⟩
  have f3 : ∀ h k v (as bs : List Ac), (as.foldl (ifOk (houseF h v)) (taken (hall0 S) h k bs)).sd.Ok ∧ (as.foldl (ifOk (houseF h v)) (taken (hall0 S) h k bs)).n = S.lines.length := fun h k v as bs => by
    obtain ⟨q1, q2⟩ := taken_good (hall0_ok hS) h k bs
    obtain ⟨a1, a2⟩ := acts_good (houseF_good h v) as q1
    exact ⟨a1, a2.trans q2⟩
  cases D <;> simp only [stepP] at e <;> split at e <;> try (cases e; done)
  · split at e
    · exact tailO_good hS (fun r => f1 _ _ _ _) e
    · cases e
  · split at e
    · exact tailO_good hS (fun r => f1 _ _ _ _) e
    · cases e
  · split at e
    · split at e
      · exact tailO_good hS (fun r => f2 _ _ _ _) e
      · cases e
    · cases e
  · split at e
    · split at e
      · exact tailO_good hS (fun r => f3 _ _ _ _ _) e
      · cases e
    · cases e
/-- the standing at the start -/
def startP (T : Tb) (many : Nat) : Sd := ⟨T.ho.getD 0 w_none, some (0, 0), (0, 0), List.replicate many ⟨((T.hs.map (·.1)).getD 0 w_none), none, 0, [], [], 0⟩⟩
theorem startP_ok (T : Tb) {many : Nat} (h : many ≤ 100) : (startP T many).Ok := by
  refine ⟨by simpa [startP] using h, fun y hy => ?_⟩
  have := List.eq_of_mem_replicate hy
  subst this
  exact ⟨Nat.zero_le _, Nat.zero_le _⟩
section
variable {C : Cf} {I : Ix} (g : HasP C I) {T : Tb} {S : Sd}
include g
theorem start_eqn {n : Nat} (hn : I.start < n) (h1 : T.hs ≠ []) (h2 : T.ho ≠ []) {many : Nat} (hm : many ≤ 100) (s : Store) : callM .frz (C.Φ n I.start) [.d (encT T), .d (.int (many : Nat))] s = .ok (.d (encS (startP T many))) s := by
  refine callf (xs := [encT T, .int (many : Nat)]) (by simp) (phi_ok hn g.d_start rfl ?_)
  unfold b_start
  obtain ⟨p, ps, e1⟩ := List.exists_cons_of_ne_nil h1
  obtain ⟨q, qs, e2⟩ := List.exists_cons_of_ne_nil h2
  simp [startE, Ok_bind, encT, e1, e2, encP, mkTupW, mkTup, sizeLine, rng1_nat (n := many) (by omega)]
  refine comp_ok (xs := List.range many) (fun (k : Nat) => W.d (.int (0 + (k : Nat)))) (fun (k : Nat) => some (.tuple [.str p.1, .none, .int 0, .tuple [], .tuple [], .int 0])) rfl (fun i hi => ?_) (by simpa using (by omega : many ≤ 16777216)) ?_
  · simp [wipeE]
  · rw [if_neg (by decide)]
    have eb : ∀ xs : List PyData, bfD [] .tuple [W.d (.list xs)] = some (.tuple xs) := fun xs => by simp [bfD, one1, bfTuple, seqOf]
    rw [eb]
    have ef : ((List.range many).filterMap fun (k : Nat) => some (PyData.tuple [.str p.1, .none, .int 0, .tuple [], .tuple [], .int 0])) = (startP T many).lines.map encN := by
      have key : ∀ (x : PyData) (l : List Nat), (l.filterMap fun _ => some x) = List.replicate l.length x := fun x l => by
        induction l with
        | nil => rfl
        | cons a l ih => simp [ih, List.replicate_succ]
      rw [key]
      simp [startP, e1, encN, Ln.l, encV, encW]
    rw [ef]
    simp [encS, startP, e2, encV, encL]
end
end Cg

set_option linter.all false
set_option maxRecDepth 100000
set_option maxHeartbeats 4000000
/-! Cg: a play. -/
namespace Cg
open PySem hiding Env listOf
open Cc
abbrev A1 := Str × Int × Int
def encA1 (a : A1) : PyData := .tuple [.str a.1, .int a.2.1, .int a.2.2]
theorem encAn_some (a : A1) : encAn (some a) = encA1 a := rfl
structure Pl where
  sd : Sd
  an : List A1
  ft : Br
def encPl (p : Pl) : PyData := .tuple [encS p.sd, .list (p.an.map encA1), encB p.ft]
def playP (T : Tb) : List Dd → Sd → List A1 → Option Pl
  | [], S, as => some ⟨S, as, none⟩
  | D :: Ds, S, as => match stepP T S D with
    | none => none
    | some y => match y.ft with
      | some b => some ⟨y.sd, as, some b⟩
      | none => playP T Ds y.sd (as ++ y.an.toList)
def playFor (I : Ix) : Sx := (Sx.seq
          (Sx.unpack [Tx.name 3, Tx.name 6, Tx.name 7] (Ex.call (Cm.frz) I.step [Ex.var 0, Ex.var 3, Ex.var 5]))
          (Sx.seq (Sx.ite (Bx.tru (Ex.cmp (Cop.isnot) (Ex.var 7) (Ex.const (PyData.none)))) (Sx.ret (Ex.tup [Ex.var 3, Ex.var 4, Ex.var 7])) (Sx.pass)) (Sx.ite (Bx.tru (Ex.cmp (Cop.isnot) (Ex.var 6) (Ex.const (PyData.none)))) (Sx.expr (Ex.mut (Mt.append) (Ex.var 4) [Ex.var 6])) (Sx.pass))))
theorem play_eq (I : Ix) : b_play I = Sx.seq
  (Sx.assign (Tx.name 3) (Ex.call (Cm.frz) I.start [Ex.var 0, Ex.var 1]))
  (Sx.seq
    (Sx.assign (Tx.name 4) (Ex.lst true []))
    (Sx.seq
      (Sx.for
        false
        [5]
        true
        (Wk.seq)
        [Ex.var 2]
        (playFor I))
      (Sx.ret (Ex.tup [Ex.var 3, Ex.var 4, Ex.const (PyData.none)])))) := rfl
/-- how the loop of a play ends -/
def EndsL (I : Ix) (T : Tb) (e1 e2 : Option W) (r : Res (Cc.Flow × Cc.Env)) (o : Option Pl) : Prop := match o with
  | none => Ra r ⟨I.c_NoDeed, []⟩
  | some y => match y.ft with
    | some b => Ok r fun p t => p.1 = .ret (.tup [.d (encS y.sd), .ref 0, .d (encB y.ft)]) ∧ t = [.lst (y.an.map encA1)]
    | none => Ok r fun p t => p.1 = .next ∧ t = [.lst (y.an.map encA1)] ∧ ∃ w5 w6 w7, p.2 = [some (.d (encT T)), e1, e2, some (.d (encS y.sd)), some (.ref 0), w5, w6, w7]
section
variable {C : Cf} {I : Ix} (g : HasP C I) {T : Tb}
include g
theorem play_loop (hT : T.Ok) (e1 e2 : Option W) (s0 : Store) (N : Nat) : ∀ (Ds : List Dd) (S : Sd) (as : List A1), S.Ok → (∀ D ∈ Ds, D.Ok) → as.length + Ds.length ≤ 1000 → ∀ w5 w6 w7, EndsL I T e1 e2 (forL (still none s0) false N (fun w env s => match bindN [5] true w env with
      | some env => runS (C.Φ I.play) C.M C.CI C.FO C.xi (playFor I) env s
      | none => .stuck) (Ds.map (W.d ∘ encD)) [some (.d (encT T)), e1, e2, some (.d (encS S)), some (.ref 0), w5, w6, w7] [.lst (as.map encA1)]) (playP T Ds S as)
  | [], S, as, hS, hD, hl, w5, w6, w7 => by
    simp only [List.map_nil, forL, still, if_true, playP]
    exact ⟨rfl, rfl, _, _, _, rfl⟩
  | D :: Ds, S, as, hS, hD, hl, w5, w6, w7 => by
    have ih := fun S as h1 h2 w5 w6 w7 => play_loop hT e1 e2 s0 N Ds S as h1 (fun D h => hD D (List.mem_cons_of_mem _ h)) h2 w5 w6 w7
    have es := step_eqn g.toHas g.lt_step_play hT hS D (hD D List.mem_cons_self) [.lst (as.map encA1)]
    have body : runS (C.Φ I.play) C.M C.CI C.FO C.xi (playFor I) [some (.d (encT T)), e1, e2, some (.d (encS S)), some (.ref 0), some (.d (encD D)), w6, w7] [.lst (as.map encA1)] = (match stepP T S D with
      | none => .exc ⟨I.c_NoDeed, []⟩ [.lst (as.map encA1)]
      | some y => match y.ft with
        | some b => .ok (.ret (.tup [.d (encS y.sd), .ref 0, .d (encB y.ft)]), [some (.d (encT T)), e1, e2, some (.d (encS y.sd)), some (.ref 0), some (.d (encD D)), some (.d (encAn y.an)), some (.d (encB y.ft))]) [.lst (as.map encA1)]
        | none => .ok (.next, [some (.d (encT T)), e1, e2, some (.d (encS y.sd)), some (.ref 0), some (.d (encD D)), some (.d (encAn y.an)), some (.d (encB y.ft))]) [.lst ((as ++ y.an.toList).map encA1)]) := by
      unfold playFor
      simp
      rw [es]
      cases q : stepP T S D with
      | none => simp [stepR]
      | some y =>
        cases hb : y.ft with
        | some b => simp [stepR, encOut, hb, someB, mkTupW, sizeLine]
        | none =>
          have la : as.length < 16777216 := by simp at hl; omega
          cases ha : y.an with
          | none => simp [stepR, encOut, hb, ha, someB, encAn, encB, someW]
          | some a => simp [stepR, encOut, hb, ha, someB, encAn, encB, someW, isLstC, mutW, chg, appC, appL, sizeLine, la, encA1]
    show EndsL I T e1 e2 (forL _ false N _ ((W.d (encD D)) :: Ds.map (W.d ∘ encD)) _ _) _
    have bn : ∀ (w : W), bindN [5] true w [some (.d (encT T)), e1, e2, some (.d (encS S)), some (.ref 0), w5, w6, w7] = some [some (.d (encT T)), e1, e2, some (.d (encS S)), some (.ref 0), some w, w6, w7] := fun w => rfl
    simp only [forL, still, if_true, bn, body, playP]
    cases q : stepP T S D with
    | none => rfl
    | some y =>
      have hy := (stepP_good hS q).1
      obtain ⟨ysd, yan, yft⟩ := y
      cases yft with
      | some b => exact ⟨rfl, rfl⟩
      | none =>
        have l2 : (as ++ yan.toList).length + Ds.length ≤ 1000 := by
          have : yan.toList.length ≤ 1 := by cases yan <;> simp
          simp at hl ⊢
          omega
        exact ih ysd (as ++ yan.toList) hy l2 _ _ _
end
end Cg

set_option linter.all false
set_option maxRecDepth 100000
set_option maxHeartbeats 4000000
/-! Cg: a play, as a call. -/
namespace Cg
open PySem hiding Env listOf
open Cc
/-- what a call of play answers -/
def playR (I : Ix) (o : Option Pl) (s : Store) : Res W := match o with
  | some y => .ok (.d (encPl y)) s
  | none => .exc ⟨I.c_NoDeed, []⟩ s
section
variable {C : Cf} {I : Ix} (g : HasP C I) {T : Tb}
include g
theorem play_eqn {n : Nat} (hn : I.play < n) (hT : T.Ok) (h1 : T.hs ≠ []) (h2 : T.ho ≠ []) {many : Nat} (hm : many ≤ 100) (Ds : List Dd) (hD : ∀ D ∈ Ds, D.Ok) (hl : Ds.length ≤ 1000) (s : Store) :
    callM .frz (C.Φ n I.play) [.d (encT T), .d (.int (many : Nat)), .d (.list (Ds.map encD))] s = playR I (playP T Ds (startP T many) []) s := by
  have st := start_eqn g g.lt_start_play h1 h2 hm []
  have ws : ∀ t, items t (.d (.list (Ds.map encD))) = some (Ds.map (W.d ∘ encD)) := fun t => by simp [Cc.items]
  have lp : EndsL I T (some (.d (.int (many : Nat)))) (some (.d (.list (Ds.map encD)))) (forL (still none [.lst []]) false 1 (fun w env s => match bindN [5] true w env with
      | some env => runS (C.Φ I.play) C.M C.CI C.FO C.xi (playFor I) env s
      | none => .stuck) (Ds.map (W.d ∘ encD)) [some (.d (encT T)), some (.d (.int (many : Nat))), some (.d (.list (Ds.map encD))), some (.d (encS (startP T many))), some (.ref 0), none, none, none] [.lst []]) (playP T Ds (startP T many) []) := play_loop g hT (some (.d (.int (many : Nat)))) (some (.d (.list (Ds.map encD)))) [.lst []] 1 Ds (startP T many) [] (startP_ok T hm) hD (by simpa using hl) none none none
  have e0 : runS (C.Φ I.play) C.M C.CI C.FO C.xi (b_play I) [some (.d (encT T)), some (.d (.int (many : Nat))), some (.d (.list (Ds.map encD))), none, none, none, none, none] [] = (forL (still none [.lst []]) false 1 (fun w env s => match bindN [5] true w env with
      | some env => runS (C.Φ I.play) C.M C.CI C.FO C.xi (playFor I) env s
      | none => .stuck) (Ds.map (W.d ∘ encD)) [some (.d (encT T)), some (.d (.int (many : Nat))), some (.d (.list (Ds.map encD))), some (.d (encS (startP T many))), some (.ref 0), none, none, none] [.lst []]).bind
        (seqK (C.Φ I.play) C.M C.CI C.FO C.xi (Sx.ret (Ex.tup [Ex.var 3, Ex.var 4, Ex.const (PyData.none)]))) := by
    rw [play_eq]
    simp [st, newLst, ws]
  have run : C.Φ n I.play [.d (encT T), .d (.int (many : Nat)), .d (.list (Ds.map encD))] [] = runF (C.Φ I.play) C.M C.CI C.FO C.xi ⟨3, 8, b_play I⟩ [.d (encT T), .d (.int (many : Nat)), .d (.list (Ds.map encD))] [] := by
    rw [phi_at hn, g.d_play]
  have es : startE 8 [.d (encT T), .d (.int (many : Nat)), .d (.list (Ds.map encD))] = [some (.d (encT T)), some (.d (.int (many : Nat))), some (.d (.list (Ds.map encD))), none, none, none, none, none] := rfl
  simp only [callM, allPure_d, allPure, Option.map_some]
  rw [run]
  unfold runF
  rw [if_pos (show [W.d (encT T), W.d (.int (many : Nat)), W.d (.list (Ds.map encD))].length = (⟨3, 8, b_play I⟩ : Def).ps from rfl)]
  dsimp only
  rw [es, e0]
  cases q : playP T Ds (startP T many) [] with
  | none =>
    rw [q] at lp
    obtain ⟨t, ht⟩ := (show Ra _ _ from lp).ex
    rw [ht]
    rfl
  | some y =>
    rw [q] at lp
    obtain ⟨sd, an, ft⟩ := y
    cases ft with
    | some b =>
      obtain ⟨p, t, e, e2, e3⟩ := (show Ok _ _ from lp).ex
      rw [e]
      obtain ⟨fl, en⟩ := p
      cases e2
      subst e3
      simp [playR, encPl, frzW, frzL]
    | none =>
      obtain ⟨p, t, e, e2, e3, w5, w6, w7, e4⟩ := (show Ok _ _ from lp).ex
      rw [e]
      obtain ⟨fl, en⟩ := p
      cases e2
      subst e3
      cases e4
      simp [playR, encPl, frzW, frzL, mkTupW, sizeLine, encB]
end
end Cg

set_option linter.all false
set_option maxRecDepth 100000
set_option maxHeartbeats 4000000
/-! Cg: what may be done. -/
namespace Cg
open PySem hiding Env listOf
open Cc
def encI (l : List Nat) : List PyData := l.map fun (k : Nat) => .int (k : Nat)
def placesL (w : Nat) (o : Bool) : Nat := if o then min 1 w else w
def mayB (o : Option Rw) : Bool := match o with
  | none => true
  | some r => !waitB r.acts
def hasB (T : Tb) (st ev : Str) : Bool := (handRow T st ev).isSome
def askD (h : Nat) (ev : Str) : Dd := if ev = w_write then .write h 0 else .ask h ev
def asksL (T : Tb) (st : Str) (h : Nat) : List Dd := ([w_read, w_write, w_drop].filter fun ev => hasB T st ev).map (askD h)
def comeB (T : Tb) (S : Sd) (h : Nat) (x : Ln) (k : Nat) : Bool := match x.ba[k]? with
  | some q => mayB (houseRow T S.house q.1 (lastB S.lines h))
  | none => true
def lineM (T : Tb) (S : Sd) (o : Bool) (h : Nat) (x : Ln) : List Dd :=
  asksL T x.st h ++ (List.range (placesL x.to.length o)).map (fun k => .take h k) ++ ((List.range (placesL x.ba.length o)).filter (comeB T S h x)).map (fun k => .get h k)
def mayI (T : Tb) (S : Sd) (o : Bool) (i : Nat) : List Dd := (S.lines.zipIdx.take i).flatMap fun p => lineM T S o p.2 p.1
def mayP (T : Tb) (S : Sd) (o : Bool) : List Dd := mayI T S o S.lines.length
theorem places_le (w : Nat) (o : Bool) : placesL w o ≤ w := by
  unfold placesL
  split <;> omega
theorem asks_len (T : Tb) (st : Str) (h : Nat) : (asksL T st h).length ≤ 3 := by
  unfold asksL
  rw [List.length_map]
  exact List.length_filter_le _ _
theorem lineM_len (T : Tb) (S : Sd) (o : Bool) (h : Nat) (x : Ln) (hx : x.len_ok) : (lineM T S o h x).length ≤ 7 := by
  have a := asks_len T x.st h
  have b := places_le x.to.length o
  have c := places_le x.ba.length o
  have d := List.length_filter_le (comeB T S h x) (List.range (placesL x.ba.length o))
  obtain ⟨h1, h2⟩ := hx
  simp only [lineM, List.length_append, List.length_map, List.length_range] at *
  omega
theorem mayI_succ {T : Tb} {S : Sd} {o : Bool} {i : Nat} {x : Ln} (h : S.lines[i]? = some x) : mayI T S o (i + 1) = mayI T S o i ++ lineM T S o i x := by
  have e : S.lines.zipIdx[i]? = some (x, i) := by simp [h]
  unfold mayI
  rw [List.take_succ, e]
  simp
theorem mayI_len (T : Tb) {S : Sd} (hS : S.Ok) (o : Bool) : ∀ i, i ≤ S.lines.length → (mayI T S o i).length ≤ 7 * i
  | 0, _ => by simp [mayI]
  | i + 1, h => by
    have hi : i < S.lines.length := h
    rw [mayI_succ (List.getElem?_eq_getElem hi), List.length_append]
    have := mayI_len T hS o i (by omega)
    have := lineM_len T S o i S.lines[i] (hS.2 _ (List.getElem_mem hi))
    omega
section
variable {C : Cf} {I : Ix} (g : HasM C I) {T : Tb} {S : Sd}
include g
theorem places_eq {n : Nat} (hn : I.places < n) (w : List Lt) (o : Bool) (hw : w.length ≤ 100) (s : Store) : callM .frz (C.Φ n I.places) [.d (encW w), .d (.bool o)] s = .ok (.d (.list (encI (List.range (placesL w.length o))))) s := by
  refine callf (xs := [encW w, .bool o]) (by simp) (phi_ok hn g.d_places rfl ?_)
  unfold b_places
  have e : ∀ s, bfD s .len [W.d (encW w)] = some (.int (w.length : Nat)) := fun s => by simp [encW, bfD, one1, bfLen, lenW, lenD]
  have r : ∀ (m : Nat) s, m ≤ 16777216 → bfD s .lrng [W.d (.int (m : Nat))] = some (.list (encI (List.range m))) := fun m s h => by
    show bfLrng (W.d (.int (Int.ofNat m))) = _
    unfold bfLrng
    dsimp only
    rw [if_pos (Nat.ble_eq_true_of_le h)]
    simp [encI]
  have m2 : ∀ s, bfD s .min2 [W.d (.int 1), W.d (.int (w.length : Nat))] = some (.int ((min 1 w.length : Nat))) := fun s => by
    show some (PyData.int (if ((w.length : Nat) : Int) < 1 then (w.length : Nat) else 1)) = _
    congr 2
    split <;> omega
  cases o
  · simp [startE, Ok_bind, e, r _ _ (show w.length ≤ 16777216 by omega), placesL]
  · simp [startE, Ok_bind, e, m2, r _ _ (show min 1 w.length ≤ 16777216 by omega), placesL]
theorem come_eq {n : Nat} (hn : I.may_come < n) (hT : T.Ok) (hS : S.Ok) (h k : Nat) (x : Ln) (q : Lt) (hx : S.lines[h]? = some x) (hq : x.ba[k]? = some q) (s : Store) :
    callM .frz (C.Φ n I.may_come) [.d (encT T), .d (encS S), .d (.int (h : Nat)), .d (.int (k : Nat))] s = .ok (.d (.bool (mayB (houseRow T S.house q.1 (lastB S.lines h))))) s := by
  refine callf (xs := [encT T, encS S, .int h, .int k]) (by simp) (phi_ok hn g.d_may_come rfl ?_)
  unfold b_may_come
  have dk : callM .keep (C.Φ I.may_come I.deed_of) [.d (.tuple [.str w_get, .int (h : Nat), .int (k : Nat)])] [] = .ok (.ref 0) [dcell I (.get h k)] := by
    show callM .keep (C.Φ I.may_come I.deed_of) [.d (encD (.get h k))] [] = _
    rw [keep_eq (xs := [encD (.get h k)]) (by simp) (deed_ok g.toHas g.lt_deed_of_may_come (.get h k) trivial).eq]
    rfl
  have ro := (rowG g.toHas g.lt_Get_row_may_come hT hS.1 hx hq).eq
  have lo : List.lookup (⟨#[114, 111, 119]⟩ : Str) [(w_hand, W.d (.int (h : Nat))), (w_k, W.d (.int (k : Nat)))] = none := rfl
  simp only [dcell] at dk ro
  simp [startE, Ok_bind, mkTupW, mkTup, sizeLine, dk, g.m_Get_row, lo, ro]
  cases e : houseRow T S.house q.1 (lastB S.lines h) with
  | none => simp [Ok_bind, encO, mayB]
  | some r =>
    have ro := (hT r (houseRow_mem e).1)
    have ew : eqD (encAs r.acts) (.tuple [.tuple [.str ⟨#[119, 97, 105, 116]⟩]]) = some (waitB r.acts) := by
      unfold eqD
      have e1 : scP (encAs r.acts) (.tuple [.tuple [.str ⟨#[119, 97, 105, 116]⟩]]) = false := rfl
      rw [e1, ro.sh, show PyData.canLay0 (.tuple [.tuple [.str ⟨#[119, 97, 105, 116]⟩]]) = true by decide +kernel]
      rfl
    have nn : ∀ s, someW s (.d (encR r)) = some false := fun s => by simp [encR, someW]
    have nn' : ∀ s, someW s (.d (encO (some r))) = some false := nn
    simp [Ok_bind, encO, mayB, nn, rowZ, ew]
theorem asks_eq {n : Nat} (hn : I.asks_of < n) (st : Str) (h : Nat) (s : Store) : callM .frz (C.Φ n I.asks_of) [.d (encT T), .d (.str st), .d (.int (h : Nat))] s = .ok (.d (.list ((asksL T st h).map encD))) s := by
  have key : Ok (C.Φ n I.asks_of [.d (encT T), .d (.str st), .d (.int (h : Nat))] []) fun w t => w = .ref 0 ∧ t = [.lst ((asksL T st h).map encD)] := by
    refine phi_ok hn g.d_asks_of rfl ?_
    unfold b_asks_of
    have e := fun ev s => hand_eq g.toHas (T := T) g.lt_hand_row_asks_of (st := st) (ev := ev) s
    have e2 : ∀ (s : Store) ev, someW s (.d (encO (handRow T st ev))) = some (!hasB T st ev) := fun s ev => by
      unfold hasB
      cases handRow T st ev <;> simp [encO, encR, someW]
    cases h1 : hasB T st w_read <;> cases h2 : hasB T st w_write <;> cases h3 : hasB T st w_drop <;>
      simp [startE, Ok_bind, newLst, sizeLine, e, e2, h1, h2, h3, mkTupW, mkTup, isLstC, mutW, chg, appC, appL, asksL, askD, encD]
  obtain ⟨w, t, e, rfl, rfl⟩ := key.ex
  exact frz_eq (xs := [encT T, .str st, .int h]) (by simp) e (by simp [frzW])
theorem may_ok {n : Nat} (hn : I.may < n) (hT : T.Ok) (hS : S.Ok) (o : Bool) :
    Ok (C.Φ n I.may [.d (encT T), .d (encS S), .d (.bool o)] []) fun w t => w = .ref 0 ∧ t = [.lst ((mayP T S o).map encD)] := by
  refine phi_ok hn g.d_may rfl ?_
  unfold b_may
  have hl := hS.1
  have i3 : ∀ s, idxW s (.d (encS S)) (.d (.int 3)) = some (.d (.tuple (S.lines.map encN))) := fun s => by simp [encS]
  have e : ∀ s, bfD s .len [W.d (.tuple (S.lines.map encN))] = some (.int (S.lines.length : Nat)) := fun s => by simp [bfD, one1, bfLen, lenW, lenD]
  simp [startE, Ok_bind, newLst, sizeLine, i3, e, rng1_nat (n := S.lines.length) (by omega)]
  refine Ok_forL _ (fun i env s => (∃ x4 x5 x6, env = [some (.d (encT T)), some (.d (encS S)), some (.d (.bool o)), some (.ref 0), x4, x5, x6]) ∧ s = [.lst ((mayI T S o i).map encD)]) (fun _ _ _ _ => rfl) ?_ ?_ _ _ ⟨⟨_, _, _, rfl⟩, by simp [mayI]⟩
  · rintro i u env s hu ⟨⟨x4, x5, x6, rfl⟩, rfl⟩
    obtain ⟨hi, rfl⟩ := rngW_at hu
    have hx : S.lines[i]? = some S.lines[i] := List.getElem?_eq_getElem hi
    have ea : L2.atI S.lines (i : Nat) = some S.lines[i] := atI_nat hx
    have q := hS.2 S.lines[i] (List.getElem_mem hi)
    have hm := mayI_len T hS o i (by omega)
    have hs1 := mayI_succ (T := T) (o := o) hx
    generalize S.lines[i] = x at *
    have l0 : L2.atI x.l 0 = some (.str x.st) := by simp [Ln.l]
    have l3 : L2.atI x.l 3 = some (encW x.to) := l_way x true
    have l4 : L2.atI x.l 4 = some (encW x.ba) := l_way x false
    have ae := asks_eq g (T := T) g.lt_asks_of_may x.st i
    have pt := places_eq g g.lt_places_may x.to o (by have := q.1; omega)
    have pb := places_eq g g.lt_places_may x.ba o (by have := q.2; omega)
    have al := asks_len T x.st i
    have lt1 : (mayI T S o i).length + (asksL T x.st i).length ≤ 16777216 := by omega
    simp [Ok_bind, i3, ea, isLstC, encN, l0, l3, ae, mutW, chg, extC, Cc.listOf, sizeLine, lt1, pt]
    have em : ∀ r : List Nat, List.map W.d (encI r) = r.map fun (k : Nat) => W.d (.int (k : Nat)) := fun r => by simp [encI]
    rw [em]
    refine comp_ok (xs := List.range (placesL x.to.length o)) (fun (k : Nat) => W.d (.int (k : Nat))) (fun k => some (encD (.take i k))) rfl (fun k hk => by simp [wipeE, mkTupW, mkTup, sizeLine, encD]) (by have := places_le x.to.length o; have := q.1; simp; omega) ?_
    rw [if_neg (by decide)]
    have lt2 : (mayI T S o i).length + (asksL T x.st i).length + (placesL x.to.length o) ≤ 16777216 := by have := places_le x.to.length o; have := q.1; omega
    simp [Cc.listOf, lt2, l4, pb, em]
    generalize hP : (List.map encD (mayI T S o i) ++ (List.map encD (asksL T x.st i) ++ List.map (fun (k : Nat) => encD (Dd.take (i : Nat) (k : Nat))) (List.range (placesL x.to.length o)))) = P
    have hPl : P.length ≤ 10000 := by
      have := places_le x.to.length o
      have := q.1
      rw [← hP]; simp; omega
    refine Ok_forL _ (fun j env s => (∃ x6, env = [some (.d (encT T)), some (.d (encS S)), some (.d (.bool o)), some (.ref 0), some (.d (.int (i : Nat))), some (.d (.tuple x.l)), x6]) ∧ s = [.lst (P ++ ((List.range j).filter (comeB T S i x)).map fun (k : Nat) => encD (.get (i : Nat) (k : Nat)))]) (fun _ _ _ _ => rfl) ?_ ?_ _ _ ⟨⟨_, rfl⟩, by simp⟩
    · rintro j u env s hu ⟨⟨x6, rfl⟩, rfl⟩
      rw [List.getElem?_map] at hu
      obtain ⟨j', hj, rfl⟩ := map_of hu
      have hjl : j < placesL x.ba.length o := by have := (List.getElem?_eq_some_iff.mp hj).1; simpa using this
      rw [List.getElem?_range hjl] at hj
      cases hj
      have hb : j < x.ba.length := Nat.lt_of_lt_of_le hjl (places_le _ _)
      have hq : x.ba[j]? = some x.ba[j] := List.getElem?_eq_getElem hb
      have ce := fun s => come_eq g g.lt_may_come_may hT hS i j x x.ba[j] hx hq s
      have cb : comeB T S i x j = mayB (houseRow T S.house x.ba[j].1 (lastB S.lines i)) := by simp only [comeB, hq]
      rw [← cb] at ce
      have fl := List.length_filter_le (comeB T S i x) (List.range j)
      have b2 := q.2
      simp only [List.length_range] at fl
      have lt3 : P.length + (List.filter (comeB T S i x) (List.range j)).length < 16777216 := by omega
      cases hc : comeB T S i x j
      · simp [Ok_bind, ce, hc, turnEnd, List.range_succ]
      · simp [Ok_bind, ce, hc, turnEnd, List.range_succ, isLstC, mkTupW, mkTup, sizeLine, appC, appL, lt3, encD]
    · rintro env s ⟨⟨x6, rfl⟩, rfl⟩
      simp [turnEnd, hs1, lineM, ← hP, Function.comp_def]
  · rintro env s ⟨⟨x4, x5, x6, rfl⟩, rfl⟩
    simp [Ok_bind, mayP]
theorem may_eqn {n : Nat} (hn : I.may < n) (hT : T.Ok) (hS : S.Ok) (o : Bool) (s : Store) : callM .frz (C.Φ n I.may) [.d (encT T), .d (encS S), .d (.bool o)] s = .ok (.d (.list ((mayP T S o).map encD))) s := by
  obtain ⟨w, t, e, rfl, rfl⟩ := (may_ok g hn hT hS o).ex
  exact frz_eq (xs := [encT T, encS S, .bool o]) (by simp) e (by simp [frzW])
end
end Cg

set_option linter.all false
set_option maxRecDepth 100000
set_option maxHeartbeats 4000000
/-! Cg: hands renamed. -/
namespace Cg
open PySem hiding Env listOf
open Cc
def renameL (ls : List Ln) (od : List Nat) : List Ln := od.filterMap fun k => ls[k]?
def renameS (S : Sd) (od : List Nat) : Sd := { S with lines := renameL S.lines od }
section
variable {C : Cf} {I : Ix} (g : HasN C I) {T : Tb} {S : Sd}
include g
theorem renamed_eqn {n : Nat} (hn : I.renamed < n) (od : List Nat) (ho : ∀ k ∈ od, k < S.lines.length) (hl : od.length ≤ 100) (s : Store) : callM .frz (C.Φ n I.renamed) [.d (encS S), .d (.list (encI od))] s = .ok (.d (encS (renameS S od))) s := by
  refine callf (xs := [encS S, .list (encI od)]) (by simp) (phi_ok hn g.d_renamed rfl ?_)
  unfold b_renamed
  have e1 : encS S = .tuple [.str S.house, encV S.store, encL S.last, .tuple (S.lines.map encN)] := rfl
  have em : List.map W.d (encI od) = od.map fun (k : Nat) => W.d (.int (k : Nat)) := by simp [encI]
  have ec : cutX [PyData.str S.house, encV S.store, encL S.last, .tuple (S.lines.map encN)] none (some 3) = [.str S.house, encV S.store, encL S.last] := by
    have := cutX_pre [PyData.str S.house, encV S.store, encL S.last, .tuple (S.lines.map encN)] 3
    simpa using this
  simp [startE, Ok_bind, e1, cutD, ec, em]
  refine comp_ok (xs := od) (fun (k : Nat) => W.d (.int (k : Nat))) (fun k => (S.lines[k]?).map encN) rfl (fun k hk => ?_) (by omega) ?_
  · have ek := List.getElem?_eq_getElem (ho k hk)
    simp [wipeE, atI_nat ek, ek]
  · rw [if_neg (by decide)]
    have eb : ∀ xs : List PyData, bfD [] .tuple [W.d (.list xs)] = some (.tuple xs) := fun xs => by simp [bfD, one1, bfTuple, seqOf]
    have ef : (od.filterMap fun k => (S.lines[k]?).map encN) = (renameL S.lines od).map encN := by
      unfold renameL
      rw [List.map_filterMap]
    rw [ef, eb]
    simp [mkTupW, mkTup, sizeLine, encS, renameS]
end
end Cg

set_option linter.all false
set_option maxRecDepth 100000
set_option maxHeartbeats 4000000
/-! Cg: an order of hands (_law_order of k11 and k23). -/
namespace Cg
open PySem hiding Env listOf
open Cc
@[simp] theorem runS_while {Φ : FT} {M : CTab} {CI : Nat → Option Nat} {FO : Nat → Str → Bool} {XI : Nat → List PyData → Option (List (Str × PyData))} {k : Nat} {c : Bx} {b : Sx} {env : Cc.Env} {s : Store} : runS Φ M CI FO XI (.while k c b) env s = whileL (fun env s => runT Φ M CI FO c env s) (fun env s => runS Φ M CI FO XI b env s) k env s := by
  simp only [runS]
def ordFor : Sx := (Sx.seq (Sx.expr (Ex.mut (Mt.append) (Ex.var 3) [Ex.mut (Mt.popAt) (Ex.var 2) [Ex.bin (Bop.mod) (Ex.var 0) (Ex.bf (Bf.len) [Ex.var 2])]])) (Sx.assign (Tx.name 0) (Ex.bin (Bop.fdiv) (Ex.var 0) (Ex.const (PyData.int 10)))))
def ordC : Bx := Bx.tru (Ex.cmp (Cop.ne) (Ex.var 2) (Ex.lst false []))
def ordB : Sx := Sx.seq
  (Sx.assign (Tx.name 2) (Ex.cell (Ex.bf (Bf.lrng) [Ex.var 1])))
  (Sx.seq
    (Sx.assign (Tx.name 3) (Ex.lst true []))
    (Sx.seq
      (Sx.while 100000 ordC ordFor)
      (Sx.ret (Ex.var 3))))
theorem erase_map {α β : Type} (f : α → β) : ∀ (l : List α) (i : Nat), (l.map f).eraseIdx i = (l.eraseIdx i).map f
  | [], _ => rfl
  | _ :: _, 0 => rfl
  | x :: l, i + 1 => congrArg (f x :: ·) (erase_map f l i)
theorem perm_erase {α : Type} : ∀ {l : List α} {i : Nat} (h : i < l.length), (l[i] :: l.eraseIdx i).Perm l
  | x :: l, 0, _ => List.Perm.refl _
  | x :: l, i + 1, h => (List.Perm.swap x _ _).trans (List.Perm.cons x (perm_erase (Nat.lt_of_succ_lt_succ h)))
section
variable {Φ : FT} {M : CTab} {CI : Nat → Option Nat} {FO : Nat → Str → Bool} {XI : Nat → List PyData → Option (List (Str × PyData))}
theorem ord_cond (x1 : Option W) (lf od : List Nat) (c : Int) : runT Φ M CI FO ordC [some (.d (.int c)), x1, some (.ref 0), some (.ref 1)] [.lst (encI lf), .lst (encI od)] = .ok (!lf.isEmpty) [.lst (encI lf), .lst (encI od)] := by
  have e : cmpW .ne [Cell.lst (encI lf), Cell.lst (encI od)] (.ref 0) (.d (.list [])) = some (!lf.isEmpty) := by
    show (eqD (.list (encI lf)) (.list [])).map (!·) = _
    rw [eqD_nil (shaped_list fun x hx => by
      obtain ⟨k, _, rfl⟩ := List.mem_map.mp hx
      exact ⟨rfl, by simp [PyData.depth]⟩)]
    cases lf <;> rfl
  simp [ordC, newLst, sizeLine, e]
theorem ord_step (x1 : Option W) (lf od : List Nat) (c : Int) (h : lf ≠ []) (hl : lf.length + od.length ≤ 1000) : ∃ j, ∃ hj : j < lf.length, runS Φ M CI FO XI ordFor [some (.d (.int c)), x1, some (.ref 0), some (.ref 1)] [.lst (encI lf), .lst (encI od)] = .ok (.next, [some (.d (.int (c / 10))), x1, some (.ref 0), some (.ref 1)]) [.lst (encI (lf.eraseIdx j)), .lst (encI (od ++ [lf[j]]))] := by
  have hp : 0 < lf.length := List.length_pos_iff.mpr h
  have m1 : 0 ≤ c % (lf.length : Nat) := Int.emod_nonneg _ (by omega)
  have m2 : c % (lf.length : Nat) < (lf.length : Nat) := Int.emod_lt_of_pos _ (by omega)
  obtain ⟨j, ej⟩ : ∃ j : Nat, c % (lf.length : Nat) = (j : Nat) := ⟨_, (Int.toNat_of_nonneg m1).symm⟩
  have hjl : j < lf.length := by omega
  refine ⟨j, hjl, ?_⟩
  have el : bfD [Cell.lst (encI lf), Cell.lst (encI od)] .len [W.ref 0] = some (.int (lf.length : Nat)) := by
    simp [bfD, one1, bfLen, lenW, lenD, encI]
  have ep : mutW .popAt (.ref 0) [.d (.int (j : Nat))] [Cell.lst (encI lf), Cell.lst (encI od)] = .ok (.d (.int (lf[j] : Nat))) [Cell.lst (encI (lf.eraseIdx j)), Cell.lst (encI od)] := by
    rw [pop_cell (xs := encI lf) (j := j) (x := .int (lf[j] : Nat)) rfl (by simp [encI, sizeLine]; omega) (by simpa [encI] using ixN_at hjl) (by simp [encI, hjl])]
    rw [show (encI lf).eraseIdx j = encI (lf.eraseIdx j) from erase_map _ _ _]
    rfl
  unfold ordFor
  have lo : od.length < 16777216 := by omega
  have ea : mutW .append (.ref 1) [.d (.int (lf[j] : Nat))] [Cell.lst (encI (lf.eraseIdx j)), Cell.lst (encI od)] = .ok (.d .none) [Cell.lst (encI (lf.eraseIdx j)), Cell.lst (encI (od ++ [lf[j]]))] := by
    have l2 : (encI od).length < 16777216 := by simpa [encI] using lo
    simp [mutW, chg, appC, appL, sizeLine, l2]
    simp [encI]
  simp [isLstC, el, hp, ej, ep]
  rw [ea]
  have l10 : Nat.log2 10 < 9000 := by decide +kernel
  simp [l10]
theorem ord_loop (x1 : Option W) : ∀ (k : Nat) (lf od : List Nat) (c : Int), lf.length < k → lf.length + od.length ≤ 1000 →
    Ok (whileL (fun env s => runT Φ M CI FO ordC env s) (fun env s => runS Φ M CI FO XI ordFor env s) k [some (.d (.int c)), x1, some (.ref 0), some (.ref 1)] [.lst (encI lf), .lst (encI od)]) fun p t => p.1 = .next ∧ ∃ c' od', p.2 = [some (.d (.int c')), x1, some (.ref 0), some (.ref 1)] ∧ t = [.lst [], .lst (encI od')] ∧ od'.Perm (od ++ lf)
  | 0, lf, od, c, h, _ => absurd h (Nat.not_lt_zero _)
  | k + 1, lf, od, c, h, hl => by
    simp only [whileL, ord_cond, Res.bind_ok]
    by_cases e : lf = []
    · subst e
      simp only [List.isEmpty_nil, Bool.not_true, Bool.false_eq_true, if_false]
      exact ⟨rfl, c, od, rfl, rfl, by simp⟩
    · have e1 : (!lf.isEmpty) = true := by cases lf with | nil => exact absurd rfl e | cons _ _ => rfl
      rw [if_pos e1]
      obtain ⟨j, hj, es⟩ := ord_step (Φ := Φ) (M := M) (CI := CI) (FO := FO) (XI := XI) x1 lf od c e hl
      rw [es]
      dsimp only
      have l1 := List.length_eraseIdx_of_lt hj
      refine (ord_loop x1 k (lf.eraseIdx j) (od ++ [lf[j]]) (c / 10) (by omega) (by simp; omega)).mono fun p t q => ?_
      obtain ⟨q1, c', od', q2, q3, q4⟩ := q
      refine ⟨q1, c', od', q2, q3, q4.trans ?_⟩
      rw [List.append_assoc]
      exact List.Perm.append_left _ (perm_erase hj)
end
theorem ord_eqn {C : Cf} {i n : Nat} (hd : C.ds i = ⟨2, 4, ordB⟩) (hn : i < n) (c : Int) {many : Nat} (hm : many ≤ 100) : ∃ od : List Nat, od.Perm (List.range many) ∧ ∀ s, callM .frz (C.Φ n i) [.d (.int c), .d (.int (many : Nat))] s = .ok (.d (.list (encI od))) s := by
  have key : Ok (C.Φ n i [.d (.int c), .d (.int (many : Nat))] []) fun w t => ∃ od : List Nat, od.Perm (List.range many) ∧ w = .ref 1 ∧ t = [.lst [], .lst (encI od)] := by
    refine phi_ok hn hd rfl ?_
    unfold ordB
    have r : ∀ s, bfD s .lrng [W.d (.int (many : Nat))] = some (.list (encI (List.range many))) := fun s => by
      show bfLrng (W.d (.int (Int.ofNat many))) = _
      unfold bfLrng
      dsimp only
      rw [if_pos (Nat.ble_eq_true_of_le (show many ≤ 16777216 by omega))]
      simp [encI]
    have lp := ord_loop (Φ := C.Φ i) (M := C.M) (CI := C.CI) (FO := C.FO) (XI := C.xi) (some (.d (.int (many : Nat)))) 100000 (List.range many) [] c (by simp; omega) (by simp; omega)
    simp only [startE, runS_seq, runS_assign, runE_cell, Ok_bind]
    simp [Ok_bind, r, toCell, newLst, sizeLine]
    refine lp.mono fun p t q => ?_
    obtain ⟨q1, c', od', q2, rfl, q4⟩ := q
    obtain ⟨fl, en⟩ := p
    cases q1
    cases q2
    simpa [Ok_bind] using ⟨od', by simpa using q4, rfl⟩
  obtain ⟨w, t, e, od, hp, rfl, rfl⟩ := key.ex
  exact ⟨od, hp, fun s => frz_eq (xs := [.int c, .int many]) (by simp) e (by simp [frzW])⟩
end Cg

set_option linter.all false
set_option maxRecDepth 100000
set_option maxHeartbeats 4000000
/-! Cg: a play that is refused (_law_refused of k23). -/
namespace Cg
open PySem hiding Env listOf
open Cc
@[simp] theorem runS_tr {Φ : FT} {M : CTab} {CI : Nat → Option Nat} {FO : Nat → Str → Bool} {XI : Nat → List PyData → Option (List (Str × PyData))} {i : Option Nat} {e : Ex} {l : List (Nat × Bool)} {h : Hd} {env : Cc.Env} {s : Store} : runS Φ M CI FO XI (.tr i e l h) env s = match runE Φ M CI FO e env s with
    | .ok w s => .ok (.next, match i with | some i => env.set i (some w) | none => env) s
    | .exc x s => match l.lookup x.cls with
      | some true => match runH h x env with
        | some env => .ok (.next, env) s
        | none => .stuck
      | some false => .exc x s
      | none => .stuck
    | .stuck => .stuck := by
  simp only [runS] <;> rfl
def refB (I : Ix) (l : List (Nat × Bool)) : Sx := Sx.seq (Sx.assign (Tx.name 3) (Ex.const (PyData.bool false))) (Sx.seq (Sx.tr none (Ex.call (Cm.frz) I.play [Ex.var 0, Ex.var 1, Ex.var 2]) l (Hd.flag 3 (PyData.bool true))) (Sx.ret (Ex.var 3)))
section
variable {C : Cf} {I : Ix} (g : HasP C I) {T : Tb}
include g
theorem refused_eqn {i n : Nat} {l : List (Nat × Bool)} (hd : C.ds i = ⟨3, 4, refB I l⟩) (hp : I.play < i) (hn : i < n) (hl : l.lookup I.c_NoDeed = some true) (hT : T.Ok) (h1 : T.hs ≠ []) (h2 : T.ho ≠ []) {many : Nat} (hm : many ≤ 100) (Ds : List Dd) (hD : ∀ D ∈ Ds, D.Ok) (hds : Ds.length ≤ 1000) (s : Store) :
    callM .frz (C.Φ n i) [.d (encT T), .d (.int (many : Nat)), .d (.list (Ds.map encD))] s = .ok (.d (.bool (playP T Ds (startP T many) []).isNone)) s := by
  refine callf (xs := [encT T, .int (many : Nat), .list (Ds.map encD)]) (by simp) (phi_ok hn hd rfl ?_)
  unfold refB
  have pe := play_eqn g (n := i) hp hT h1 h2 hm Ds hD hds []
  cases q : playP T Ds (startP T many) [] with
  | none =>
    rw [q] at pe
    simp [startE, Ok_bind, pe, playR, hl, runH]
  | some y =>
    rw [q] at pe
    simp [startE, Ok_bind, pe, playR]
end
end Cg

set_option linter.all false
set_option maxRecDepth 100000
set_option maxHeartbeats 4000000
/-! Cg: plays put together (plain). -/
namespace Cg
open PySem hiding Env listOf
open Cc
/-- going on with a play -/
def onP (T : Tb) (Es : List Dd) (y : Pl) : Option Pl := match y.ft with
  | some _ => some y
  | none => playP T Es y.sd y.an
theorem playP_no {T : Tb} {D : Dd} {Ds : List Dd} {S : Sd} {as : List A1} (h : stepP T S D = none) : playP T (D :: Ds) S as = none := by
  simp only [playP, h]
theorem playP_ft {T : Tb} {D : Dd} {Ds : List Dd} {S sd : Sd} {as : List A1} {an : An} {b : Str} (h : stepP T S D = some ⟨sd, an, some b⟩) : playP T (D :: Ds) S as = some ⟨sd, as, some b⟩ := by
  simp only [playP, h]
theorem playP_go {T : Tb} {D : Dd} {Ds : List Dd} {S sd : Sd} {as : List A1} {an : An} (h : stepP T S D = some ⟨sd, an, none⟩) : playP T (D :: Ds) S as = playP T Ds sd (as ++ an.toList) := by
  simp only [playP, h]
theorem playP_append {T : Tb} : ∀ (Ds Es : List Dd) (S : Sd) (as : List A1), playP T (Ds ++ Es) S as = (playP T Ds S as).bind (onP T Es)
  | [], Es, S, as => rfl
  | D :: Ds, Es, S, as => by
    rw [List.cons_append]
    cases q : stepP T S D with
    | none => rw [playP_no q, playP_no q]; rfl
    | some y =>
      obtain ⟨sd, an, ft⟩ := y
      cases ft with
      | some b => rw [playP_ft q, playP_ft q]; rfl
      | none => rw [playP_go q, playP_go q]; exact playP_append Ds Es sd (as ++ an.toList)
/-- behind a fault nothing is played -/
theorem playP_fault {T : Tb} {Ds : List Dd} {S : Sd} {as : List A1} {y : Pl} {b : Str} (h : playP T Ds S as = some y) (hb : y.ft = some b) (Es : List Dd) : playP T (Ds ++ Es) S as = some y := by
  rw [playP_append, h, Option.bind_some]
  unfold onP
  rw [hb]
/-- a refused deed -/
theorem playP_bad {T : Tb} {Ds : List Dd} {S : Sd} {as : List A1} {y : Pl} (h : playP T Ds S as = some y) (hb : y.ft = none) {D : Dd} (hD : stepP T y.sd D = none) (Es : List Dd) : playP T (Ds ++ D :: Es) S as = none := by
  rw [playP_append, h, Option.bind_some]
  unfold onP
  rw [hb]
  exact playP_no hD
/-- before its last deed a play has no fault -/
theorem playP_pre {T : Tb} : ∀ (Ds : List Dd) {S : Sd} {as : List A1} {y : Pl}, playP T Ds S as = some y → y.ft = none → ∀ i, ∃ z, playP T (Ds.take i) S as = some z ∧ z.ft = none := fun Ds S as y h hf i => by
  have e := playP_append (T := T) (Ds.take i) (Ds.drop i) S as
  rw [List.take_append_drop, h] at e
  cases q : playP T (Ds.take i) S as with
  | none => rw [q] at e; cases e
  | some z =>
    rw [q, Option.bind_some] at e
    refine ⟨z, rfl, ?_⟩
    cases hz : z.ft with
    | none => rfl
    | some b =>
      unfold onP at e
      rw [hz] at e
      cases e
      rw [hz] at hf
      cases hf
theorem playP_len {T : Tb} : ∀ (Ds : List Dd) {S : Sd} {as : List A1} {y : Pl}, S.Ok → playP T Ds S as = some y → y.sd.Ok ∧ y.sd.lines.length = S.lines.length
  | [], S, as, y, hS, h => by cases h; exact ⟨hS, rfl⟩
  | D :: Ds, S, as, y, hS, h => by
    cases q : stepP T S D with
    | none => rw [playP_no q] at h; cases h
    | some z =>
      obtain ⟨z1, z2⟩ := stepP_good hS q
      obtain ⟨sd, an, ft⟩ := z
      cases ft with
      | some b => rw [playP_ft q] at h; cases h; exact ⟨z1, z2⟩
      | none =>
        rw [playP_go q] at h
        obtain ⟨w1, w2⟩ := playP_len Ds z1 h
        exact ⟨w1, w2.trans z2⟩
end Cg

set_option linter.all false
set_option maxRecDepth 100000
set_option maxHeartbeats 4000000
/-! Cg: what may be done can be done (plain). -/
namespace Cg
open PySem hiding Env listOf
open Cc
theorem mem_may {T : Tb} {S : Sd} {o : Bool} {D : Dd} (h : D ∈ mayP T S o) : ∃ i x, S.lines[i]? = some x ∧ D ∈ lineM T S o i x := by
  unfold mayP mayI at h
  obtain ⟨p, hp, hD⟩ := List.mem_flatMap.mp h
  have := List.mem_of_mem_take hp
  have q := List.mem_zipIdx_iff_getElem?.mp this
  exact ⟨p.2, p.1, q, hD⟩
/-- hands never wait by a row -/
def NoWait (T : Tb) : Prop := ∀ r ∈ T.rs, r.a = w_hand → waitB r.acts = false
theorem tail_some {T : Tb} {S : Sd} {a : Bool} {h : Nat} {r : Rw} {F : Rw → Hl} (hw : waitB r.acts = false) : (tailO T S a h true (some r) F).isSome = true := by
  simp [tailO, hw]
theorem tail_none {T : Tb} {S : Sd} {h : Nat} {F : Rw → Hl} : (tailO T S false h true none F).isSome = true := by
  simp [tailO]
/-- a deed that differs in the number alone -/
def sameD : Dd → Dd → Prop
  | .write h _, .write h' _ => h = h'
  | D, D' => D = D'
theorem may_step {T : Tb} {S : Sd} {o : Bool} {D D' : Dd} (hT : NoWait T) (hD : D ∈ mayP T S o) (hs : sameD D D') : (stepP T S D').isSome = true ∧ D'.Ok := by
  obtain ⟨i, x, hx, hm⟩ := mem_may hD
  have hi : i < S.lines.length := (List.getElem?_eq_some_iff.mp hx).1
  have hv : (0 : Int) ≤ (i : Nat) ∧ ((i : Nat) : Int) < S.lines.length := by omega
  unfold lineM at hm
  rw [List.mem_append, List.mem_append] at hm
  rcases hm with (hm | hm) | hm
  · obtain ⟨ev, hev, rfl⟩ := List.mem_map.mp hm
    have hb := (List.mem_filter.mp hev).2
    unfold hasB at hb
    obtain ⟨r, hr⟩ := Option.isSome_iff_exists.mp hb
    obtain ⟨m, a⟩ := handRow_mem hr
    unfold askD at hs
    split at hs
    · rename_i e
      subst e
      cases D' with
      | write h v =>
        have : (i : Int) = h := hs
        subst this
        refine ⟨?_, trivial⟩
        simp only [stepP, if_pos hv, Int.toNat_natCast, hx, hr]
        exact tail_some (hT r m a)
      | ask h w => cases hs
      | take h k => cases hs
      | get h k => cases hs
    · rename_i e
      have : Dd.ask i ev = D' := by cases D' <;> exact hs
      subst this
      refine ⟨?_, e⟩
      simp only [stepP, if_pos hv, Int.toNat_natCast, hx, hr]
      exact tail_some (hT r m a)
  · obtain ⟨k, hk, rfl⟩ := List.mem_map.mp hm
    have : Dd.take i k = D' := by cases D' <;> exact hs
    subst this
    refine ⟨?_, trivial⟩
    have hk2 : k < x.to.length := Nat.lt_of_lt_of_le (List.mem_range.mp hk) (places_le _ _)
    have hv2 : ((0 : Int) ≤ (i : Nat) ∧ ((i : Nat) : Int) < S.lines.length) ∧ (0 : Int) ≤ (k : Nat) := ⟨hv, by omega⟩
    simp only [stepP, if_pos hv2, Int.toNat_natCast, hx, List.getElem?_eq_getElem hk2]
    cases hr : handRow T x.st (x.to[k]).1 with
    | none => exact tail_none
    | some r =>
      obtain ⟨m, a⟩ := handRow_mem hr
      exact tail_some (hT r m a)
  · obtain ⟨k, hk, rfl⟩ := List.mem_map.mp hm
    have : Dd.get i k = D' := by cases D' <;> exact hs
    subst this
    refine ⟨?_, trivial⟩
    obtain ⟨h1, h2⟩ := List.mem_filter.mp hk
    have hk2 : k < x.ba.length := Nat.lt_of_lt_of_le (List.mem_range.mp h1) (places_le _ _)
    have hv2 : ((0 : Int) ≤ (i : Nat) ∧ ((i : Nat) : Int) < S.lines.length) ∧ (0 : Int) ≤ (k : Nat) := ⟨hv, by omega⟩
    simp only [stepP, if_pos hv2, Int.toNat_natCast, hx, List.getElem?_eq_getElem hk2]
    unfold comeB at h2
    rw [List.getElem?_eq_getElem hk2] at h2
    dsimp only at h2
    cases hr : houseRow T S.house (x.ba[k]).1 (lastB S.lines i) with
    | none => exact tail_none
    | some r =>
      rw [hr] at h2
      refine tail_some ?_
      simpa [mayB] using h2
end Cg

set_option linter.all false
set_option maxRecDepth 100000
set_option maxHeartbeats 4000000
/-! Cg: clashes do not look at the order (plain). -/
namespace Cg
open PySem hiding Env listOf
open Cc
theorem snoc_ind {α : Type} {P : List α → Prop} (h0 : P []) (hs : ∀ l a, P l → P (l ++ [a])) : ∀ l, P l := by
  have : ∀ l : List α, P l.reverse := fun l => by
    induction l with
    | nil => exact h0
    | cons a l ih => rw [List.reverse_cons]; exact hs _ _ ih
  intro l
  have := this l.reverse
  rwa [List.reverse_reverse] at this
theorem clash_snoc (rs : List Str) (a : Str) : clashR (rs ++ [a]) = (clashR rs || rs.any (exclB a)) := by
  unfold clashR
  rw [List.length_append, List.length_singleton, List.range_succ, List.any_append]
  have key : ∀ k ∈ List.range rs.length, (((rs ++ [a]).take k).any fun o => exclB ((rs ++ [a]).getD k w_none) o) = ((rs.take k).any fun o => exclB (rs.getD k w_none) o) := fun k hk => by
    have hk : k < rs.length := List.mem_range.mp hk
    rw [List.take_append_of_le_length (Nat.le_of_lt hk), List.getD_eq_getElem?_getD, List.getElem?_append_left hk, ← List.getD_eq_getElem?_getD]
  have e1 : ((List.range rs.length).any fun k => ((rs ++ [a]).take k).any fun o => exclB ((rs ++ [a]).getD k w_none) o) = ((List.range rs.length).any fun k => (rs.take k).any fun o => exclB (rs.getD k w_none) o) := by
    rw [Bool.eq_iff_iff, List.any_eq_true, List.any_eq_true]
    constructor
    · rintro ⟨k, hk, h⟩
      exact ⟨k, hk, by rw [← key k hk]; exact h⟩
    · rintro ⟨k, hk, h⟩
      exact ⟨k, hk, by rw [key k hk]; exact h⟩
  rw [e1]
  congr 1
  simp
/-- how many rights there are -/
def many (rs : List Str) : Nat := (rs.filter fun o => !decide (o = w_none)).length
theorem many_pos {rs : List Str} : 0 < many rs ↔ ∃ o ∈ rs, o ≠ w_none := by
  unfold many
  rw [List.length_pos_iff_exists_mem]
  simp
theorem many_snoc (rs : List Str) (a : Str) : many (rs ++ [a]) = many rs + if a = w_none then 0 else 1 := by
  unfold many
  rw [List.filter_append, List.length_append]
  by_cases h : a = w_none <;> simp [h]
theorem wn : w_write ≠ w_none := by decide +kernel
theorem clash_iff : ∀ rs : List Str, clashR rs = true ↔ w_write ∈ rs ∧ 1 < many rs := by
  refine snoc_ind ?_ fun rs a ih => ?_
  · simp [clashR]
  · rw [clash_snoc, Bool.or_eq_true, ih, many_snoc, List.any_eq_true, List.mem_append, List.mem_singleton]
    have wp : w_write ∈ rs → 0 < many rs := fun h => many_pos.mpr ⟨_, h, wn⟩
    by_cases h1 : a = w_none
    · subst h1
      have ha : w_write ≠ w_none := wn
      simp [exclB, ha, Ne.symm ha]
    · by_cases h2 : a = w_write
      · subst h2
        have e : (∃ o, o ∈ rs ∧ exclB w_write o = true) ↔ 0 < many rs := by
          rw [many_pos]
          constructor
          · rintro ⟨o, h, ho⟩
            refine ⟨o, h, fun z => ?_⟩
            subst z
            simp [exclB] at ho
          · rintro ⟨o, h, ho⟩
            exact ⟨o, h, by simp [exclB, ho]⟩
        rw [e, if_neg h1]
        simp
        omega
      · have e : (∃ o, o ∈ rs ∧ exclB a o = true) ↔ w_write ∈ rs := by
          constructor
          · rintro ⟨o, h, ho⟩
            have : o = w_write := by simpa [exclB, h1, h2] using ho
            exact this ▸ h
          · intro h
            exact ⟨_, h, by simp [exclB, h1]⟩
        rw [e, if_neg h1]
        have h3 : ¬ w_write = a := fun z => h2 z.symm
        simp only [h3, or_false]
        constructor
        · rintro (⟨h, k⟩ | h)
          · exact ⟨h, by omega⟩
          · exact ⟨h, by have := wp h; omega⟩
        · rintro ⟨h, k⟩
          exact .inr h
theorem clash_perm {rs qs : List Str} (h : rs.Perm qs) : clashR rs = clashR qs := by
  have e : clashR rs = true ↔ clashR qs = true := by
    rw [clash_iff, clash_iff]
    have e1 : many rs = many qs := (h.filter _).length_eq
    rw [e1, h.mem_iff]
  cases h1 : clashR rs <;> cases h2 : clashR qs <;> simp_all
end Cg

set_option linter.all false
set_option maxRecDepth 100000
set_option maxHeartbeats 4000000
/-! Cg: a run (_law_run of k23). -/
namespace Cg
open PySem hiding Env listOf
open Cc
def runTl (I : Ix) : Sx := (Sx.seq
                    (Sx.expr (Ex.mut (Mt.append) (Ex.var 6) [Ex.var 9]))
                    (Sx.seq
                      (Sx.unpack [Tx.name 4, Tx.name 10, Tx.name 11] (Ex.call (Cm.frz) I.step [Ex.var 1, Ex.var 4, Ex.var 9]))
                      (Sx.seq
                        (Sx.ite (Bx.tru (Ex.cmp (Cop.isnot) (Ex.var 11) (Ex.const (PyData.none)))) (Sx.ret (Ex.tup [Ex.var 6, Ex.var 4, Ex.var 5, Ex.var 11])) (Sx.pass))
                        (Sx.ite (Bx.tru (Ex.cmp (Cop.isnot) (Ex.var 10) (Ex.const (PyData.none)))) (Sx.expr (Ex.mut (Mt.append) (Ex.var 5) [Ex.var 10])) (Sx.pass)))))
def runFor (I : Ix) : Sx := (Sx.seq
            (Sx.assign (Tx.name 8) (Ex.call (Cm.frz) I.may [Ex.var 1, Ex.var 4, Ex.var 3]))
            (Sx.seq
              (Sx.ite (Bx.tru (Ex.cmp (Cop.eq) (Ex.var 8) (Ex.lst false []))) (Sx.ret (Ex.tup [Ex.var 6, Ex.var 4, Ex.var 5, Ex.const (PyData.none)])) (Sx.pass))
              (Sx.seq
                (Sx.assign (Tx.name 9) (Ex.idx (Ex.var 8) (Ex.bin (Bop.mod) (Ex.var 7) (Ex.bf (Bf.len) [Ex.var 8]))))
                (Sx.seq
                  (Sx.ite
                    (Bx.tru (Ex.cmp (Cop.eq) (Ex.bf (Bf.len) [Ex.var 9]) (Ex.const (PyData.int 4))))
                    (Sx.assign
                      (Tx.name 9)
                      (Ex.bin
                        (Bop.add)
                        (Ex.slice (Ex.var 9) none (some (Ex.const (PyData.int 3))))
                        (Ex.tup
                          [Ex.bin
                             (Bop.add)
                             (Ex.bin
                               (Bop.sub)
                               (Ex.bin (Bop.mod) (Ex.bin (Bop.fdiv) (Ex.var 7) (Ex.const (PyData.int 3))) (Ex.bin (Bop.sub) (Ex.bin (Bop.mul) (Ex.const (PyData.int 2)) (Ex.bin (Bop.pow) (Ex.const (PyData.int 10)) (Ex.const (PyData.int 40)))) (Ex.const (PyData.int 1))))
                               (Ex.bin (Bop.pow) (Ex.const (PyData.int 10)) (Ex.const (PyData.int 40))))
                             (Ex.const (PyData.int 1))])))
                    (Sx.pass))
                  (runTl I)))))
def runB (I : Ix) : Sx := Sx.seq
  (Sx.assign (Tx.name 4) (Ex.call (Cm.frz) I.start [Ex.var 1, Ex.var 2]))
  (Sx.seq
    (Sx.assign (Tx.name 5) (Ex.lst true []))
    (Sx.seq
      (Sx.assign (Tx.name 6) (Ex.lst true []))
      (Sx.seq
        (Sx.for
          false
          [7]
          true
          (Wk.seq)
          [Ex.var 0]
          (runFor I))
        (Sx.ret (Ex.tup [Ex.var 6, Ex.var 4, Ex.var 5, Ex.const (PyData.none)])))))
section
variable {C : Cf} {I : Ix} (g : Has C I) {T : Tb} {i : Nat}
include g
/-- the deed is done: what stands behind -/
theorem runTl_ok (hp : I.step < i) (hT : T.Ok) {S : Sd} (hS : S.Ok) {D : Dd} (hD : D.Ok) {y : Out} (hy : stepP T S D = some y) (ds : List Dd) (as : List A1) (hl : ds.length ≤ 1000) (ha : as.length ≤ 1000) (e0 e2 e3 e7 e8 e10 e11 : Option W) :
    runS (C.Φ i) C.M C.CI C.FO C.xi (runTl I) [e0, some (.d (encT T)), e2, e3, some (.d (encS S)), some (.ref 0), some (.ref 1), e7, e8, some (.d (encD D)), e10, e11] [.lst (as.map encA1), .lst (ds.map encD)]
      = match y.ft with
        | some b => .ok (.ret (.tup [.ref 1, .d (encS y.sd), .ref 0, .d (encB (some b))]), [e0, some (.d (encT T)), e2, e3, some (.d (encS y.sd)), some (.ref 0), some (.ref 1), e7, e8, some (.d (encD D)), some (.d (encAn y.an)), some (.d (encB y.ft))]) [.lst (as.map encA1), .lst ((ds ++ [D]).map encD)]
        | none => .ok (.next, [e0, some (.d (encT T)), e2, e3, some (.d (encS y.sd)), some (.ref 0), some (.ref 1), e7, e8, some (.d (encD D)), some (.d (encAn y.an)), some (.d (encB y.ft))]) [.lst ((as ++ y.an.toList).map encA1), .lst ((ds ++ [D]).map encD)] := by
  have es := fun s => step_eqn g hp hT hS D hD s
  rw [hy] at es
  have l1 : ds.length < 16777216 := by omega
  have l2 : as.length < 16777216 := by omega
  unfold runTl
  simp [isLstC, mutW, chg, appC, appL, sizeLine, l1, es, stepR, encOut]
  obtain ⟨sd, an, ft⟩ := y
  cases ft with
  | some b => simp [someB, mkTupW, sizeLine, encB]
  | none =>
    cases an with
    | none => simp [someB, encAn, encB, someW]
    | some a => simp [someB, encAn, encB, someW, isLstC, mutW, chg, appC, appL, sizeLine, l2, encA1]
end
end Cg

set_option linter.all false
set_option maxRecDepth 100000
set_option maxHeartbeats 4000000
/-! Cg: a run's turn (_law_run of k23). -/
namespace Cg
open PySem hiding Env listOf
open Cc
theorem wwr : ¬ w_read = w_write := by decide +kernel
theorem wwd : ¬ w_drop = w_write := by decide +kernel
theorem dOk_may {T : Tb} {S : Sd} {o : Bool} {D : Dd} (h : D ∈ mayP T S o) : D.Ok ∧ PyData.canLay0 (encD D) = true ∧ PyData.depth (encD D) ≤ 62 := by
  obtain ⟨i, x, hx, hm⟩ := mem_may h
  unfold lineM at hm
  rw [List.mem_append, List.mem_append] at hm
  rcases hm with (hm | hm) | hm
  · obtain ⟨ev, hev, rfl⟩ := List.mem_map.mp hm
    have he := (List.mem_filter.mp hev).1
    simp only [List.mem_cons, List.not_mem_nil, or_false] at he
    rcases he with rfl | rfl | rfl
    · exact ⟨by unfold askD; rw [if_neg (by decide +kernel)]; exact (by decide +kernel : w_read ≠ w_write), by simp [askD, wwr, wwd, encD, PyData.canLay0, PyData.canLayAll0] <;> decide +kernel, by simp [askD, encD, PyData.depth, PyData.depthAll]⟩
    · exact ⟨by unfold askD; rw [if_pos rfl]; trivial, by simp [askD, wwr, wwd, encD, PyData.canLay0, PyData.canLayAll0] <;> decide +kernel, by simp [askD, encD, PyData.depth, PyData.depthAll]⟩
    · exact ⟨by unfold askD; rw [if_neg (by decide +kernel)]; exact (by decide +kernel : w_drop ≠ w_write), by simp [askD, wwr, wwd, encD, PyData.canLay0, PyData.canLayAll0] <;> decide +kernel, by simp [askD, encD, PyData.depth, PyData.depthAll]⟩
  · obtain ⟨k, hk, rfl⟩ := List.mem_map.mp hm
    exact ⟨trivial, by simp [encD, PyData.canLay0, PyData.canLayAll0] <;> decide +kernel, by simp [encD, PyData.depth, PyData.depthAll]⟩
  · obtain ⟨k, hk, rfl⟩ := List.mem_map.mp hm
    exact ⟨trivial, by simp [encD, PyData.canLay0, PyData.canLayAll0] <;> decide +kernel, by simp [encD, PyData.depth, PyData.depthAll]⟩
end Cg

set_option linter.all false
set_option maxRecDepth 100000
set_option maxHeartbeats 4000000
/-! Cg: a run's turn, whole (_law_run of k23). -/
namespace Cg
open PySem hiding Env listOf
open Cc
section
variable {C : Cf} {I : Ix} (g : HasM C I) {T : Tb} {i : Nat}
include g
theorem runFor_pick (hm : I.may < i) (hT : T.Ok) {S : Sd} (hS : S.Ok) (o : Bool) (c : Int) (s : Store) (e0 e2 e8 e9 e10 e11 : Option W) :
    (mayP T S o = [] ∧ runS (C.Φ i) C.M C.CI C.FO C.xi (runFor I) [e0, some (.d (encT T)), e2, some (.d (.bool o)), some (.d (encS S)), some (.ref 0), some (.ref 1), some (.d (.int c)), e8, e9, e10, e11] s
      = .ok (.ret (.tup [.ref 1, .d (encS S), .ref 0, .d .none]), [e0, some (.d (encT T)), e2, some (.d (.bool o)), some (.d (encS S)), some (.ref 0), some (.ref 1), some (.d (.int c)), some (.d (.list [])), e9, e10, e11]) s) ∨
    (∃ D D', D ∈ mayP T S o ∧ sameD D D' ∧ runS (C.Φ i) C.M C.CI C.FO C.xi (runFor I) [e0, some (.d (encT T)), e2, some (.d (.bool o)), some (.d (encS S)), some (.ref 0), some (.ref 1), some (.d (.int c)), e8, e9, e10, e11] s
      = runS (C.Φ i) C.M C.CI C.FO C.xi (runTl I) [e0, some (.d (encT T)), e2, some (.d (.bool o)), some (.d (encS S)), some (.ref 0), some (.ref 1), some (.d (.int c)), some (.d (.list ((mayP T S o).map encD))), some (.d (encD D')), e10, e11] s) := by
  have me := fun s => may_eqn g hm hT hS o s
  have hd := fun D h => dOk_may (T := T) (S := S) (o := o) (D := D) h
  generalize mayP T S o = ms at *
  have en : ∀ s : Store, cmpW .eq s (.d (.list (ms.map encD))) (.d (.list [])) = some ms.isEmpty := fun s => by
    rw [cmpW_eq, eqD_nil (shaped_list fun x hx => by
      obtain ⟨D, h, rfl⟩ := List.mem_map.mp hx
      obtain ⟨_, h2, h3⟩ := hd D h
      exact ⟨h2, by omega⟩)]
    cases ms <;> rfl
  cases hms : ms with
  | nil =>
    subst hms
    refine .inl ⟨rfl, ?_⟩
    have en' := fun s => en s
    simp only [List.map_nil] at me en'
    unfold runFor
    simp [me, newLst, sizeLine, en', mkTupW]
  | cons m0 r =>
    rw [← hms]
    refine .inr ?_
    have hp : 0 < ms.length := by rw [hms]; simp
    have m1 : 0 ≤ c % (ms.length : Nat) := Int.emod_nonneg _ (by omega)
    have m2 : c % (ms.length : Nat) < (ms.length : Nat) := Int.emod_lt_of_pos _ (by omega)
    obtain ⟨j, ej⟩ : ∃ j : Nat, c % (ms.length : Nat) = (j : Nat) := ⟨_, (Int.toNat_of_nonneg m1).symm⟩
    have hjl : j < ms.length := by omega
    have hn : ms.isEmpty = false := by rw [hms]; rfl
    have el : ∀ s, bfD s .len [W.d (.list (ms.map encD))] = some (.int (ms.length : Nat)) := fun s => by simp [bfD, one1, bfLen, lenW, lenD]
    have aj : L2.atI ms (j : Nat) = some ms[j] := atI_nat (List.getElem?_eq_getElem hjl)
    have en' := fun s => en s
    rw [hn] at en'
    have hmem : ms[j] ∈ ms := List.getElem_mem hjl
    generalize ms[j] = D at *
    unfold runFor
    cases D with
    | write h v =>
      have l4 : ∀ s, bfD s .len [W.d (encD (.write h v))] = some (.int 4) := fun s => by simp [encD, bfD, one1, bfLen, lenW, lenD]
      have ec : cutX [PyData.str w_ask, .int h, .str w_write, .int v] none (some 3) = [.str w_ask, .int h, .str w_write] := by
        have := cutX_pre [PyData.str w_ask, .int h, .str w_write, .int v] 3
        simpa using this
      have e1 : encD (.write h v) = .tuple [.str w_ask, .int h, .str w_write, .int v] := rfl
      refine ⟨.write h v, .write h (c / 3 % (2 * 10 ^ 40 - 1) - 10 ^ 40 + 1), hmem, rfl, ?_⟩
      have l3 : Nat.log2 3 < 9000 := by decide +kernel
      have mo : mulOk 2 10000000000000000000000000000000000000000 = true := mulOk_l (by decide) (by decide)
      have e2 : encD (.write h (c / 3 % (2 * 10 ^ 40 - 1) - 10 ^ 40 + 1)) = .tuple [.str w_ask, .int h, .str w_write, .int (c / 3 % (2 * 10 ^ 40 - 1) - 10 ^ 40 + 1)] := rfl
      rw [e2]
      simp [me, newLst, sizeLine, en', el, hp, ej, aj, l4, e1, cutD, ec, l3, mo, mkTupW, mkTup]
    | ask h w =>
      have l4 : ∀ s, bfD s .len [W.d (encD (.ask h w))] = some (.int 3) := fun s => by simp [encD, bfD, one1, bfLen, lenW, lenD]
      refine ⟨.ask h w, .ask h w, hmem, rfl, ?_⟩
      simp [me, newLst, sizeLine, en', el, hp, ej, aj, l4]
    | take h k =>
      have l4 : ∀ s, bfD s .len [W.d (encD (.take h k))] = some (.int 3) := fun s => by simp [encD, bfD, one1, bfLen, lenW, lenD]
      refine ⟨.take h k, .take h k, hmem, rfl, ?_⟩
      simp [me, newLst, sizeLine, en', el, hp, ej, aj, l4]
    | get h k =>
      have l4 : ∀ s, bfD s .len [W.d (encD (.get h k))] = some (.int 3) := fun s => by simp [encD, bfD, one1, bfLen, lenW, lenD]
      refine ⟨.get h k, .get h k, hmem, rfl, ?_⟩
      simp [me, newLst, sizeLine, en', el, hp, ej, aj, l4]
end
end Cg

set_option linter.all false
set_option maxRecDepth 100000
set_option maxHeartbeats 4000000
/-! Cg: a run (_law_run of k23), as a call. -/
namespace Cg
open PySem hiding Env listOf
open Cc
/-- a deed that can be done and compared -/
def DOk (D : Dd) : Prop := D.Ok ∧ (encD D).canLay0 = true ∧ (encD D).depth ≤ 62
theorem DOk.same {D D' : Dd} (hs : sameD D D') (hD : DOk D) (hok : D'.Ok) : DOk D' := by
  obtain ⟨_, h2, h3⟩ := hD
  refine ⟨hok, ?_⟩
  cases D with
  | write h v =>
    cases D' with
    | write h' v' =>
      have a : (encD (.write h' v')).canLay0 = (encD (.write h v)).canLay0 := by simp [encD, PyData.canLay0, PyData.canLayAll0]
      have b : (encD (.write h' v')).depth = (encD (.write h v)).depth := by simp [encD, PyData.depth, PyData.depthAll]
      rw [a, b]
      exact ⟨h2, h3⟩
    | ask _ _ => cases hs
    | take _ _ => cases hs
    | get _ _ => cases hs
  | ask h w => cases hs; exact ⟨h2, h3⟩
  | take h k => cases hs; exact ⟨h2, h3⟩
  | get h k => cases hs; exact ⟨h2, h3⟩
/-- what a run tells -/
def RunW (T : Tb) (many k : Nat) (w : W) (t : Store) : Prop := ∃ ds y, playP T ds (startP T many) [] = some y ∧ (∃ z, playP T ds.dropLast (startP T many) [] = some z ∧ z.ft = none) ∧ (∀ D ∈ ds, DOk D) ∧ ds.length ≤ k ∧ w = .tup [.ref 1, .d (encS y.sd), .ref 0, .d (encB y.ft)] ∧ t = [.lst (y.an.map encA1), .lst (ds.map encD)]
theorem play_drop {T : Tb} {ds : List Dd} {S : Sd} {y : Pl} (h : playP T ds S [] = some y) (hf : y.ft = none) : ∃ z, playP T ds.dropLast S [] = some z ∧ z.ft = none := by
  rw [List.dropLast_eq_take]
  exact playP_pre ds h hf _
section
variable {C : Cf} {I : Ix} (gP : HasP C I) (gM : HasM C I) {T : Tb} {i n : Nat}
include gP gM
theorem run_ok (hd : C.ds i = ⟨4, 12, runB I⟩) (hn : i < n) (hs : I.start < i) (hm : I.may < i) (hp : I.step < i) (hT : T.Ok) (hw : NoWait T) (h1 : T.hs ≠ []) (h2 : T.ho ≠ []) {many : Nat} (hmany : many ≤ 100) (cs : List Int) (hc : cs.length ≤ 100) (o : Bool) :
    Ok (C.Φ n i [.d (.list (cs.map .int)), .d (encT T), .d (.int (many : Nat)), .d (.bool o)] []) fun w t => RunW T many cs.length w t := by
  refine phi_ok hn hd rfl ?_
  unfold runB
  have st := fun s => start_eqn gP hs h1 h2 hmany s
  obtain ⟨Q, hQ⟩ : ∃ Q : W → Store → Prop, ∀ w t, Q w t ↔ RunW T many cs.length w t := ⟨_, fun _ _ => Iff.rfl⟩
  suffices h : Ok (runS (C.Φ i) C.M C.CI C.FO C.xi (runB I) (startE 12 [.d (.list (cs.map .int)), .d (encT T), .d (.int (many : Nat)), .d (.bool o)]) []) (retQ Q) by
    refine Ok.mono h fun p s q => ?_
    obtain ⟨fl, e⟩ := p
    cases fl with
    | ret w => exact (hQ _ _).mp q
    | next => exact (hQ _ _).mp q
    | brk => exact q
    | cont => exact q
  unfold runB
  simp [startE, Ok_bind, st, newLst, sizeLine, wSeq, Cc.items]
  obtain ⟨J, hJ⟩ : ∃ J : Nat → Cc.Env → Store → Prop, ∀ k e s, J k e s ↔ ∃ ds S as w7 w8 w9 w10 w11, playP T ds (startP T many) [] = some ⟨S, as, none⟩ ∧ S.Ok ∧ (∀ D ∈ ds, DOk D) ∧ ds.length ≤ k ∧ as.length ≤ k ∧ e = [some (.d (.list (cs.map .int))), some (.d (encT T)), some (.d (.int (many : Nat))), some (.d (.bool o)), some (.d (encS S)), some (.ref 0), some (.ref 1), w7, w8, w9, w10, w11] ∧ s = [.lst (as.map encA1), .lst (ds.map encD)] := ⟨_, fun _ _ _ => Iff.rfl⟩
  refine Ok_for0 _ J (fun _ _ _ _ => rfl) (fun k w e s hwk hI => ?_) (fun e s hI => ?_) _ _ ((hJ _ _ _).mpr ⟨[], startP T many, [], none, none, none, none, none, rfl, startP_ok T hmany, by simp, by simp, by simp, rfl, rfl⟩)
  · obtain ⟨ds, S, as, w7, w8, w9, w10, w11, e1, hS, hD, l1, l2, rfl, rfl⟩ := (hJ _ _ _).mp hI
    simp only [List.getElem?_map, Option.map_eq_some_iff] at hwk
    obtain ⟨c, hck, rfl⟩ := hwk
    have hk : k < cs.length := (List.getElem?_eq_some_iff.mp hck).1
    simp [bindN]
    rcases runFor_pick gM hm hT hS o c [.lst (as.map encA1), .lst (ds.map encD)] (some (.d (.list (cs.map .int)))) (some (.d (.int (many : Nat)))) w8 w9 w10 w11 with ⟨_, e2⟩ | ⟨D, D', hmem, hsame, e2⟩
    · rw [e2]
      simp [Ok_bind]
      exact (hQ _ _).mpr ⟨ds, ⟨S, as, none⟩, e1, play_drop e1 rfl, hD, by omega, rfl, rfl⟩
    · rw [e2]
      obtain ⟨q1, q2⟩ := may_step hw hmem hsame
      obtain ⟨y, hy⟩ := Option.isSome_iff_exists.mp q1
      rw [runTl_ok gP.toHas hp hT hS q2 hy ds as (by omega) (by omega)]
      have e3 : playP T (ds ++ [D']) (startP T many) [] = playP T [D'] S as := by
        rw [playP_append, e1]
        rfl
      have hD' : ∀ E ∈ ds ++ [D'], DOk E := fun E hE => by
        rcases List.mem_append.mp hE with h | h
        · exact hD E h
        · rw [List.mem_singleton.mp h]; exact DOk.same hsame (dOk_may hmem) q2
      have hy2 := (stepP_good hS hy).1
      obtain ⟨sd, an, ft⟩ := y
      cases ft with
      | some b =>
        rw [playP_ft hy] at e3
        simp [Ok_bind]
        exact (hQ _ _).mpr ⟨ds ++ [D'], ⟨sd, as, some b⟩, e3, ⟨_, by rw [List.dropLast_concat]; exact e1, rfl⟩, hD', by simp; omega, rfl, by simp⟩
      | none =>
        rw [playP_go hy] at e3
        have ll : an.toList.length ≤ 1 := by cases an <;> simp
        simp
        exact (hJ _ _ _).mpr ⟨ds ++ [D'], sd, as ++ an.toList, _, _, _, _, _, e3, hy2, hD', by simp; omega, by simp; omega, rfl, by simp⟩
  · obtain ⟨ds, S, as, w7, w8, w9, w10, w11, e1, hS, hD, l1, l2, rfl, rfl⟩ := (hJ _ _ _).mp hI
    simp [Ok_bind, mkTupW, sizeLine]
    exact (hQ _ _).mpr ⟨ds, ⟨S, as, none⟩, e1, play_drop e1 rfl, hD, by simpa using l1, rfl, rfl⟩
end
end Cg

set_option linter.all false
set_option maxRecDepth 100000
set_option maxHeartbeats 4000000
/-! Cg: a run (_law_run of k23), frozen. -/
namespace Cg
open PySem hiding Env listOf
open Cc
section
variable {C : Cf} {I : Ix} (gP : HasP C I) (gM : HasM C I) {T : Tb} {i n : Nat}
include gP gM
theorem run_eqn (hd : C.ds i = ⟨4, 12, runB I⟩) (hn : i < n) (hs : I.start < i) (hm : I.may < i) (hp : I.step < i) (hT : T.Ok) (hw : NoWait T) (h1 : T.hs ≠ []) (h2 : T.ho ≠ []) {many : Nat} (hmany : many ≤ 100) (cs : List Int) (hc : cs.length ≤ 100) (o : Bool) :
    ∃ ds y, playP T ds (startP T many) [] = some y ∧ (∃ z, playP T ds.dropLast (startP T many) [] = some z ∧ z.ft = none) ∧ (∀ D ∈ ds, DOk D) ∧ ds.length ≤ cs.length ∧
      ∀ s, callM .frz (C.Φ n i) [.d (.list (cs.map .int)), .d (encT T), .d (.int (many : Nat)), .d (.bool o)] s = .ok (.d (.tuple [.list (ds.map encD), encS y.sd, .list (y.an.map encA1), encB y.ft])) s := by
  obtain ⟨w, t, e, ds, y, e1, hz, hD, hl, rfl, rfl⟩ := (run_ok gP gM hd hn hs hm hp hT hw h1 h2 hmany cs hc o).ex
  exact ⟨ds, y, e1, hz, hD, hl, fun s => frz_eq (xs := [.list (cs.map .int), encT T, .int (many : Nat), .bool o]) (by simp) e (by simp [frzW, frzL])⟩
end
end Cg

set_option linter.all false
set_option maxRecDepth 100000
set_option maxHeartbeats 4000000
/-! Cg: rows looked at. -/
namespace Cg
open PySem hiding Env listOf
open Cc
def hActB : Ac → Bool
  | [x] => decide (x = w_keep) || (decide (x = w_lose) || (decide (x = w_put) || decide (x = w_tell)))
  | [_, _, _] => true
  | _ => false
theorem hActB_ok {a : Ac} (h : hActB a = true) : HAct a := by
  unfold hActB at h
  split at h
  · rename_i x
    simp only [Bool.or_eq_true, decide_eq_true_eq] at h
    exact .inl ⟨x, [], rfl, h⟩
  · exact .inr ⟨_, _, _, rfl⟩
  · cases h
def sActB : Ac → Bool
  | [x] => !decide (x = w_send) && (!decide (x = w_owner) && !decide (x = w_others))
  | [_, _, _] => true
  | _ => false
theorem sActB_ok {a : Ac} (h : sActB a = true) : SAct a := by
  unfold sActB at h
  split at h
  · rename_i x
    simp only [Bool.and_eq_true, Bool.not_eq_true', decide_eq_false_iff_not] at h
    exact .inl ⟨x, [], rfl, h⟩
  · exact .inr ⟨_, _, _, rfl⟩
  · cases h
/-- a row that is sound, and no hand waits by it -/
def rwB (r : Rw) : Bool := PyData.canLay0 (.str r.e) && ((if r.a = w_hand then r.t.isNone && (r.acts.all hActB && !waitB r.acts) else r.t.isSome && r.acts.all sActB) && (PyData.canLayAll0 (r.acts.map encA) && SeqAt.shaped (encAs r.acts)))
theorem wh : w_house ≠ w_hand := by decide +kernel
theorem rwB_ok {r : Rw} (h : rwB r = true) : RwOk r ∧ (r.a = w_hand → waitB r.acts = false) := by
  unfold rwB at h
  simp only [Bool.and_eq_true] at h
  obtain ⟨h1, h2, h3, h4⟩ := h
  by_cases ha : r.a = w_hand
  · rw [if_pos ha] at h2
    simp only [Bool.and_eq_true, Option.isNone_iff_eq_none, List.all_eq_true, Bool.not_eq_true'] at h2
    exact ⟨⟨h1, fun _ => ⟨h2.1, fun a m => hActB_ok (h2.2.1 a m)⟩, fun z => absurd (z.symm.trans ha) wh, h3, h4⟩, fun _ => h2.2.2⟩
  · rw [if_neg ha] at h2
    simp only [Bool.and_eq_true, List.all_eq_true] at h2
    exact ⟨⟨h1, fun z => absurd z ha, fun _ => ⟨Option.isSome_iff_exists.mp h2.1, fun a m => sActB_ok (h2.2 a m)⟩, h3, h4⟩, fun z => absurd z ha⟩
theorem tb_ok {T : Tb} (h : T.rs.all rwB = true) : T.Ok ∧ NoWait T :=
  ⟨fun r m => (rwB_ok (List.all_eq_true.mp h r m)).1, fun r m => (rwB_ok (List.all_eq_true.mp h r m)).2⟩
end Cg

set_option linter.all false
set_option maxRecDepth 100000
set_option maxHeartbeats 4000000
/-! Cg: hands in another order (plain): one act. -/
namespace Cg
open PySem hiding Env listOf
open Cc
/-- an order of n hands -/
structure Od (n : Nat) (od : List Nat) : Prop where
  p : od.Perm (List.range n)
def rho (od : List Nat) (h : Nat) : Nat := od.idxOf h
section
variable {n : Nat} {od : List Nat} (hO : Od n od)
include hO
theorem Od.len : od.length = n := by have := hO.p.length_eq; simpa using this
theorem Od.lt {k : Nat} (h : k ∈ od) : k < n := by have := hO.p.mem_iff.mp h; simpa using this
theorem Od.mem {k : Nat} (h : k < n) : k ∈ od := hO.p.mem_iff.mpr (by simpa using h)
theorem Od.nd : od.Nodup := hO.p.nodup_iff.mpr List.nodup_range
theorem Od.rho_lt {k : Nat} (h : k < n) : rho od k < n := by
  have := List.idxOf_lt_length_of_mem (hO.mem h)
  rwa [hO.len] at this
theorem Od.at_rho {k : Nat} (h : k < n) : od[rho od k]? = some k := by
  have hl := List.idxOf_lt_length_of_mem (hO.mem h)
  rw [List.getElem?_eq_getElem (show rho od k < od.length from hl)]
  congr 1
  exact List.getElem_idxOf hl
theorem Od.rho_at {j k : Nat} (h : od[j]? = some k) : rho od k = j := by
  obtain ⟨hj, e⟩ := List.getElem?_eq_some_iff.mp h
  have := hO.nd.idxOf_getElem j hj
  rwa [e] at this
theorem Od.ex {j : Nat} (h : j < n) : ∃ k, od[j]? = some k ∧ k < n := by
  have hj : j < od.length := by rw [hO.len]; exact h
  exact ⟨od[j], List.getElem?_eq_getElem hj, hO.lt (List.getElem_mem hj)⟩
end
theorem rn_get {ls : List Ln} : ∀ {od : List Nat}, (∀ k ∈ od, k < ls.length) → ∀ j : Nat, (renameL ls od)[j]? = (od[j]?).bind fun k => ls[k]?
  | [], _, j => by simp [renameL]
  | k :: od, h, j => by
    have hk : ls[k]? = some (ls[k]'(h k List.mem_cons_self)) := List.getElem?_eq_getElem (h k List.mem_cons_self)
    have e : renameL ls (k :: od) = ls[k]'(h k List.mem_cons_self) :: renameL ls od := by simp [renameL, hk]
    rw [e]
    cases j with
    | zero => simp [hk]
    | succ j => simpa using rn_get (fun k hk => h k (List.mem_cons_of_mem _ hk)) j
theorem rn_len {ls : List Ln} {od : List Nat} (h : ∀ k ∈ od, k < ls.length) : (renameL ls od).length = od.length := by
  have a := rn_get h
  refine Nat.le_antisymm ?_ ?_
  · refine Nat.le_of_not_lt fun q => ?_
    have e := a od.length
    rw [List.getElem?_eq_getElem q, List.getElem?_eq_none (Nat.le_refl _)] at e
    cases e
  · refine Nat.le_of_not_lt fun q => ?_
    have e := a (renameL ls od).length
    have hl := h _ (List.getElem_mem q)
    rw [List.getElem?_eq_none (Nat.le_refl _), List.getElem?_eq_getElem q] at e
    simp [List.getElem?_eq_getElem hl] at e
section
variable {n : Nat} {od : List Nat} (hO : Od n od) {ls : List Ln} (hl : ls.length = n)
include hO hl
theorem rn_in : ∀ k ∈ od, k < ls.length := fun k hk => by rw [hl]; exact hO.lt hk
theorem rn_at {j k : Nat} (h : od[j]? = some k) : (renameL ls od)[j]? = ls[k]? := by
  rw [rn_get (rn_in hO hl), h]
  rfl
theorem rn_rho {h : Nat} (hh : h < n) : (renameL ls od)[rho od h]? = ls[h]? := rn_at hO hl (hO.at_rho hh)
theorem rn_length : (renameL ls od).length = n := by rw [rn_len (rn_in hO hl), hO.len]
theorem rn_none {j : Nat} (h : ¬ j < n) : (renameL ls od)[j]? = none := List.getElem?_eq_none (by rw [rn_length hO hl]; omega)
theorem rn_set {h : Nat} (hh : h < n) (x : Ln) : renameL (ls.set h x) od = (renameL ls od).set (rho od h) x := by
  refine List.ext_getElem? fun j => ?_
  have hl2 : (ls.set h x).length = n := by simpa using hl
  by_cases hj : j < n
  · obtain ⟨k, ek, hk⟩ := hO.ex hj
    rw [rn_at hO hl2 ek, List.getElem?_set, List.getElem?_set, rn_at hO hl ek, rn_length hO hl, hl]
    by_cases e : h = k
    · subst e
      rw [hO.rho_at ek, if_pos rfl, if_pos rfl, if_pos hh, if_pos hj]
    · have e2 : ¬ rho od h = j := fun q => e (by
        have := hO.at_rho hh
        rw [q, ek] at this
        exact (Option.some.inj this).symm)
      rw [if_neg e, if_neg e2]
  · rw [rn_none hO hl2 hj, List.getElem?_eq_none (by rw [List.length_set, rn_length hO hl]; omega)]
theorem rn_idx (f g : Nat → Ln → Ln) (hfg : ∀ j k x, od[j]? = some k → f k x = g j x) : renameL (ls.mapIdx f) od = (renameL ls od).mapIdx g := by
  refine List.ext_getElem? fun j => ?_
  have hl2 : (ls.mapIdx f).length = n := by simpa using hl
  by_cases hj : j < n
  · obtain ⟨k, ek, hk⟩ := hO.ex hj
    rw [rn_at hO hl2 ek, List.getElem?_mapIdx, List.getElem?_mapIdx, rn_at hO hl ek]
    cases ls[k]? with
    | none => rfl
    | some x => exact congrArg some (hfg j k x ek)
  · rw [rn_none hO hl2 hj, List.getElem?_eq_none (by rw [List.length_mapIdx, rn_length hO hl]; omega)]
theorem rn_perm : (renameL ls od).Perm ls := by
  have h := hO.p.filterMap fun k => ls[k]?
  refine h.trans ?_
  have := fm_range (id : Ln → Ln) ls
  rw [hl] at this
  simp only [Option.map_id, id] at this
  rw [this]
  simp
end
theorem rn_map (f : Ln → Ln) (ls : List Ln) (od : List Nat) : renameL (ls.map f) od = (renameL ls od).map f := by
  unfold renameL
  rw [List.map_filterMap]
  congr 1
  funext k
  simp
def renA (od : List Nat) (a : An) : An := a.map fun a => (a.1, ((rho od a.2.1.toNat : Nat) : Int), a.2.2)
/-- halls that differ in their hands' names -/
structure Rel (n : Nat) (od : List Nat) (H H' : Hl) : Prop where
  n : H.n = n
  br : H'.br = H.br
  ok : H.br = none → H'.sd = renameS H.sd od ∧ H'.an = renA od H.an
section
variable {n : Nat} {od : List Nat} (hO : Od n od) {H H' : Hl} (R : Rel n od H H') {h : Nat} (hh : h < n) (hb : H.br = none)
include hO R hh hb
theorem Rel.line : H'.sd.lines[rho od h]? = H.sd.lines[h]? := by
  rw [(R.ok hb).1]
  exact rn_rho hO R.n hh
theorem Rel.at {x : Ln} (hx : H.sd.lines[h]? = some x) : H'.sd.lines[rho od h]? = some x := (R.line hO hh hb).trans hx
theorem Rel.ex : ∃ x, H.sd.lines[h]? = some x := ⟨_, List.getElem?_eq_getElem (show h < H.sd.lines.length by have := R.n; show h < H.n; omega)⟩
theorem Rel.setL (x : Ln) : Rel n od (H.setL h x) (H'.setL (rho od h) x) := by
  refine ⟨setL_n.trans R.n, R.br, fun _ => ?_⟩
  obtain ⟨e1, e2⟩ := R.ok hb
  refine ⟨?_, e2⟩
  have := rn_set hO R.n hh x
  simp only [Hl.setL, e1, renameS, this]
theorem Rel.post (b : Bool) (p : Lt) : Rel n od (post H h b p) (post H' (rho od h) b p) := by
  obtain ⟨x, hx⟩ := R.ex hO hh hb
  have hx' := R.at hO hh hb hx
  unfold Cg.post
  rw [hx, hx']
  dsimp only
  split
  · exact ⟨R.n, rfl, fun q => by cases q⟩
  · exact R.setL hO hh hb _
theorem Rel.tell (v : Vl) : Rel n od (tell H h v) (tell H' (rho od h) v) := by
  obtain ⟨e1, e2⟩ := R.ok hb
  have el : H'.sd.last = H.sd.last := by rw [e1]; rfl
  unfold Cg.tell
  cases v with
  | none => exact ⟨R.n, rfl, fun q => by cases q⟩
  | some p =>
    dsimp only
    rw [el]
    split
    · exact ⟨R.n, R.br, fun _ => ⟨e1, by simp [renA]⟩⟩
    · exact ⟨R.n, rfl, fun q => by cases q⟩
theorem Rel.handAct (a : Ac) (v : Vl) : Rel n od (handAct H h a v) (handAct H' (rho od h) a v) := by
  obtain ⟨x, hx⟩ := R.ex hO hh hb
  have hx' := R.at hO hh hb hx
  obtain ⟨e1, e2⟩ := R.ok hb
  have el : H'.sd.last = H.sd.last := by rw [e1]; rfl
  unfold Cg.handAct
  rw [hx, hx']
  cases a with
  | nil => exact R
  | cons a0 r =>
    dsimp only
    rw [el]
    split
    · exact R.setL hO hh hb _
    split
    · exact R.setL hO hh hb _
    split
    · have q := R.setL hO hh hb { x with v := some (H.sd.last.1 + 1, x.want) }
      obtain ⟨q1, q2⟩ := q.ok hb
      refine ⟨q.n, R.br, fun _ => ⟨?_, by simp [renA]⟩⟩
      dsimp only
      rw [q1]
      rfl
    split
    · exact R.tell hO hh hb _
    split
    · exact R.post hO hh hb _ _
    · exact R
end
/-- letters to several hands -/
def full2 (H : Hl) (k : Nat) : Bool := match H.sd.lines[k]? with
  | some x => decide (x.to.length = 2)
  | none => false
def addAll (p : Lt) (ks : List Nat) (ls : List Ln) : List Ln := ls.mapIdx fun k x => if k ∈ ks then { x with to := x.to ++ [p] } else x
theorem postIf_br (p : Lt) {H : Hl} (hb : H.br ≠ none) : ∀ ks : List Nat, ks.foldl (postIf p) H = H
  | [] => rfl
  | k :: ks => by
    have e : postIf p H k = H := by unfold postIf; rw [if_neg hb]
    rw [List.foldl_cons, e]
    exact postIf_br p hb ks
theorem postIf_n (p : Lt) : ∀ (ks : List Nat) (H : Hl), (ks.foldl (postIf p) H).n = H.n
  | [], H => rfl
  | k :: ks, H => by
    rw [List.foldl_cons, postIf_n p ks]
    unfold postIf
    split
    · exact post_n _ _ _ _
    · rfl
theorem any_congr' {α : Type} {f g : α → Bool} : ∀ {l : List α}, (∀ x ∈ l, f x = g x) → l.any f = l.any g
  | [], _ => rfl
  | x :: l, h => by
    rw [List.any_cons, List.any_cons, h x List.mem_cons_self, any_congr' fun y hy => h y (List.mem_cons_of_mem _ hy)]
theorem fold_post (p : Lt) : ∀ (ks : List Nat) (H : Hl), ks.Nodup → (∀ k ∈ ks, k < H.n) → H.br = none →
    if ks.any (full2 H) then (ks.foldl (postIf p) H).br = some w_full else ks.foldl (postIf p) H = { H with sd := { H.sd with lines := addAll p ks H.sd.lines } }
  | [], H, _, _, hb => by
    have : addAll p [] H.sd.lines = H.sd.lines := by
      unfold addAll
      refine List.ext_getElem? fun j => ?_
      rw [List.getElem?_mapIdx]
      cases H.sd.lines[j]? <;> simp
    simp [this]
  | k :: ks, H, hd, hk, hb => by
    obtain ⟨hk1, hd1⟩ := List.nodup_cons.mp hd
    have hx : H.sd.lines[k]? = some (H.sd.lines[k]'(hk k List.mem_cons_self)) := List.getElem?_eq_getElem (hk k List.mem_cons_self)
    generalize H.sd.lines[k]'(hk k List.mem_cons_self) = x at hx
    rw [List.foldl_cons]
    have e1 : postIf p H k = Cg.post H k true p := by unfold postIf; rw [if_pos hb]
    rw [e1]
    unfold Cg.post
    rw [hx]
    dsimp only
    have ef : full2 H k = decide (x.to.length = 2) := by unfold full2; rw [hx]
    by_cases h2 : x.to.length = 2
    · have h2' : (x.way true).length = 2 := h2
      rw [if_pos h2', List.any_cons, ef, decide_eq_true h2, Bool.true_or, if_pos rfl, postIf_br p (by simp)]
    · have h2' : ¬ (x.way true).length = 2 := h2
      rw [if_neg h2', List.any_cons, ef, decide_eq_false h2, Bool.false_or]
      have ih := fold_post p ks (H.setL k (x.setWay true (x.way true ++ [p]))) hd1 (fun j hj => by rw [setL_n]; exact hk j (List.mem_cons_of_mem _ hj)) hb
      have ea : ks.any (full2 (H.setL k (x.setWay true (x.way true ++ [p])))) = ks.any (full2 H) := any_congr' fun j hj => by
        have : k ≠ j := fun q => hk1 (q ▸ hj)
        unfold full2
        simp only [Hl.setL]
        rw [List.getElem?_set_ne this]
      rw [ea] at ih
      have ee : addAll p ks (H.sd.lines.set k (x.setWay true (x.way true ++ [p]))) = addAll p (k :: ks) H.sd.lines := by
        unfold addAll
        refine List.ext_getElem? fun j => ?_
        rw [List.getElem?_mapIdx, List.getElem?_mapIdx]
        by_cases e : k = j
        · subst e
          rw [List.getElem?_set_self (hk k List.mem_cons_self), hx]
          simp only [Option.map_some, List.mem_cons, true_or, if_true, if_neg hk1]
          rfl
        · rw [List.getElem?_set_ne e]
          have e' : ¬ j = k := fun q => e q.symm
          simp only [List.mem_cons, e', false_or]
      split
      · rename_i q
        rw [if_pos q] at ih
        exact ih
      · rename_i q
        rw [if_neg q] at ih
        rw [ih]
        simp only [Hl.setL, ee]
theorem meant_nodup (H : Hl) (h : Nat) (o : Bool) : (meantL H h o).Nodup := List.nodup_range.filter _
theorem meant_lt {H : Hl} {h : Nat} {o : Bool} {k : Nat} (hk : k ∈ meantL H h o) : k < H.n := by
  have := (List.mem_filter.mp hk).1
  simpa using this
section
variable {n : Nat} {od : List Nat} (hO : Od n od) {H H' : Hl} (R : Rel n od H H') {h : Nat} (hh : h < n) (hb : H.br = none)
include hO R hb
theorem Rel.n' : H'.n = n := by
  show H'.sd.lines.length = n
  rw [(R.ok hb).1]
  exact rn_length hO R.n
theorem Rel.lj {j k : Nat} (e : od[j]? = some k) : H'.sd.lines[j]? = H.sd.lines[k]? := by
  rw [(R.ok hb).1]
  exact rn_at hO R.n e
include hh
theorem Rel.meant (o : Bool) {j k : Nat} (e : od[j]? = some k) : j ∈ meantL H' (rho od h) o ↔ k ∈ meantL H h o := by
  have hj : j < n := by have := (List.getElem?_eq_some_iff.mp e).1; rwa [hO.len] at this
  have hk : k < n := hO.lt (List.mem_of_getElem? e)
  have hf : ∀ b, hasF H' b j = hasF H b k := fun b => by unfold hasF; rw [R.lj hO hb e]
  have hn : j = rho od h ↔ k = h := ⟨fun q => by
    have := hO.at_rho hh
    rw [← q, e] at this
    exact Option.some.inj this, fun q => by subst q; exact (hO.rho_at e).symm⟩
  unfold meantL
  rw [List.mem_filter, List.mem_filter, List.mem_range, List.mem_range, R.n, R.n' hO hb, hf, hf]
  simp only [hj, hk, true_and]
  cases o
  · simp only [Bool.false_eq_true, if_false, Bool.and_eq_true, Bool.not_eq_true', decide_eq_false_iff_not, hn]
  · simp
theorem Rel.posts (o : Bool) (p : Lt) : Rel n od ((meantL H h o).foldl (postIf p) H) ((meantL H' (rho od h) o).foldl (postIf p) H') := by
  have a := fold_post p (meantL H h o) H (meant_nodup _ _ _) (fun k hk => meant_lt hk) hb
  have b := fold_post p (meantL H' (rho od h) o) H' (meant_nodup _ _ _) (fun k hk => meant_lt hk) (R.br.trans hb)
  have ef : ∀ {j k : Nat}, od[j]? = some k → full2 H' j = full2 H k := fun e => by unfold full2; rw [R.lj hO hb e]
  have ea : (meantL H' (rho od h) o).any (full2 H') = (meantL H h o).any (full2 H) := by
    rw [Bool.eq_iff_iff, List.any_eq_true, List.any_eq_true]
    constructor
    · rintro ⟨j, hj, hf⟩
      have hjn : j < n := by have := meant_lt hj; rwa [R.n' hO hb] at this
      obtain ⟨k, ek, hk⟩ := hO.ex hjn
      exact ⟨k, (R.meant hO hh hb o ek).mp hj, by rw [← ef ek]; exact hf⟩
    · rintro ⟨k, hk, hf⟩
      have hkn : k < n := by have := meant_lt hk; rwa [R.n] at this
      have ek := hO.at_rho hkn
      exact ⟨rho od k, (R.meant hO hh hb o ek).mpr hk, by rw [ef ek]; exact hf⟩
  rw [ea] at b
  obtain ⟨e1, e2⟩ := R.ok hb
  split at a
  · rename_i q
    rw [if_pos q] at b
    refine ⟨(postIf_n _ _ _).trans R.n, b.trans a.symm, fun z => ?_⟩
    rw [a] at z
    cases z
  · rename_i q
    rw [if_neg q] at b
    rw [a, b]
    refine ⟨?_, R.br, fun _ => ⟨?_, e2⟩⟩
    · show (addAll p (meantL H h o) H.sd.lines).length = n
      rw [addAll, List.length_mapIdx]
      exact R.n
    · have : renameL (addAll p (meantL H h o) H.sd.lines) od = addAll p (meantL H' (rho od h) o) (renameL H.sd.lines od) := by
        unfold addAll
        refine rn_idx hO R.n _ _ fun j k x ek => ?_
        by_cases hm : k ∈ meantL H h o
        · rw [if_pos hm, if_pos ((R.meant hO hh hb o ek).mpr hm)]
        · rw [if_neg hm, if_neg fun z => hm ((R.meant hO hh hb o ek).mp z)]
      simp only [renameS, this, e1]
theorem Rel.houseAct (a : Ac) (v : Vl) : Rel n od (houseAct H h a v) (houseAct H' (rho od h) a v) := by
  obtain ⟨x, hx⟩ := R.ex hO hh hb
  have hx' := R.at hO hh hb hx
  obtain ⟨e1, e2⟩ := R.ok hb
  have es : H'.sd.store = H.sd.store := by rw [e1]; rfl
  unfold Cg.houseAct
  rw [hx, hx']
  cases a with
  | nil => exact R
  | cons a0 r =>
    dsimp only
    rw [es]
    split
    · exact ⟨R.n, R.br, fun _ => ⟨by simp only [e1, renameS], e2⟩⟩
    split
    · split
      · exact R.post hO hh hb _ _
      · exact R
    split
    · split
      · exact R.posts hO hh hb _ _
      · exact R
    split
    · split
      · exact R.posts hO hh hb _ _
      · exact R
    split
    · exact R.setL hO hh hb _
    split
    · exact R.setL hO hh hb _
    split
    · exact R.setL hO hh hb _
    split
    · refine ⟨by show (clearL H.sd.lines).length = n; rw [clearL, List.length_map]; exact R.n, R.br, fun _ => ⟨?_, e2⟩⟩
      have : renameL (clearL H.sd.lines) od = clearL (renameL H.sd.lines od) := rn_map _ _ _
      simp only [e1, renameS, this]
    · exact R
end
end Cg

set_option linter.all false
set_option maxRecDepth 100000
set_option maxHeartbeats 4000000
/-! Cg: hands in another order (plain): a step, a play. -/
namespace Cg
open PySem hiding Env listOf
open Cc
def Dd.hand : Dd → Int
  | .ask h _ => h
  | .write h _ => h
  | .take h _ => h
  | .get h _ => h
def renI (od : List Nat) (h : Int) : Int := (rho od h.toNat : Nat)
def renD (od : List Nat) : Dd → Dd
  | .ask h w => .ask (renI od h) w
  | .write h v => .write (renI od h) v
  | .take h k => .take (renI od h) k
  | .get h k => .get (renI od h) k
def renO (od : List Nat) (y : Out) : Out := ⟨renameS y.sd od, renA od y.an, y.ft⟩
section
variable {n : Nat} {od : List Nat} (hO : Od n od)
include hO
theorem acts_rel {f f' : Hl → Ac → Hl} (hf : ∀ H H' a, Rel n od H H' → H.br = none → Rel n od (f H a) (f' H' a)) : ∀ (as : List Ac) {H H' : Hl}, Rel n od H H' → Rel n od (as.foldl (ifOk f) H) (as.foldl (ifOk f') H')
  | [], H, H', R => R
  | a :: as, H, H', R => by
    rw [List.foldl_cons, List.foldl_cons]
    refine acts_rel hf as ?_
    unfold ifOk
    rw [R.br]
    by_cases hb : H.br = none
    · rw [if_pos hb, if_pos hb]
      exact hf _ _ _ R hb
    · rw [if_neg hb, if_neg hb]
      exact R
theorem rel0 {S : Sd} (hS : S.lines.length = n) : Rel n od (hall0 S) (hall0 (renameS S od)) := ⟨hS, rfl, fun _ => ⟨rfl, rfl⟩⟩
theorem clash_ren (T : Tb) {ls : List Ln} (hl : ls.length = n) : clashB T (renameL ls od) = clashB T ls := clash_perm ((rn_perm hO hl).map _)
theorem last_ren {ls : List Ln} (hl : ls.length = n) {h : Nat} (hh : h < n) : lastB (renameL ls od) (rho od h) = lastB ls h := by
  unfold lastB
  rw [rn_length hO hl, hl]
  congr 1
  have hs : ∀ {j k : Nat}, od[j]? = some k → shares (renameL ls od) j = shares ls k := fun e => by unfold shares; rw [rn_at hO hl e]
  have hn : ∀ {j k : Nat}, od[j]? = some k → (j = rho od h ↔ k = h) := fun e => ⟨fun q => by
    have := hO.at_rho hh
    rw [← q, e] at this
    exact Option.some.inj this, fun q => by subst q; exact (hO.rho_at e).symm⟩
  rw [Bool.eq_iff_iff, List.any_eq_true, List.any_eq_true]
  simp only [List.mem_range, Bool.and_eq_true, Bool.not_eq_true', decide_eq_false_iff_not]
  constructor
  · rintro ⟨j, hj, h1, h2⟩
    obtain ⟨k, ek, hk⟩ := hO.ex hj
    exact ⟨k, hk, fun q => h1 ((hn ek).mpr q), by rw [← hs ek]; exact h2⟩
  · rintro ⟨k, hk, h1, h2⟩
    have ek := hO.at_rho hk
    exact ⟨rho od k, hO.rho_lt hk, fun q => h1 ((hn ek).mp q), by rw [hs ek]; exact h2⟩
theorem Rel.lastH {H H' : Hl} (R : Rel n od H H') (hb : H.br = none) {h : Nat} (hh : h < n) (r : Rw) : Rel n od (lastH H h r) (lastH H' (rho od h) r) := by
  obtain ⟨x, hx⟩ := R.ex hO hh hb
  have hx' := R.at hO hh hb hx
  obtain ⟨e1, e2⟩ := R.ok hb
  unfold Cg.lastH
  rw [hx, hx']
  split
  · exact R.setL hO hh hb _
  · exact ⟨R.n, R.br, fun _ => ⟨by simp only [e1, renameS], e2⟩⟩
theorem lastH_br {H : Hl} {h : Nat} {r : Rw} : (lastH H h r).br = H.br := by
  unfold Cg.lastH
  split
  · split <;> rfl
  · rfl
theorem end_ren (T : Tb) {S : Sd} (hS : S.lines.length = n) {H H' : Hl} (R : Rel n od H H') {h : Nat} (hh : h < n) (r : Rw) : endO T (renameS S od) (rho od h) r H' = renO od (endO T S h r H) := by
  unfold endO
  rw [R.br]
  cases hb : H.br with
  | some b => rfl
  | none =>
    dsimp only
    have R2 := R.lastH hO hb hh r
    have hb2 : (lastH H h r).br = none := (lastH_br hO).trans hb
    obtain ⟨e1, e2⟩ := R2.ok hb2
    unfold lastO
    rw [e1, e2]
    have : (renameS (lastH H h r).sd od).lines = renameL (lastH H h r).sd.lines od := rfl
    rw [this, clash_ren hO T R2.n]
    split <;> rfl
theorem tail_ren (T : Tb) {S : Sd} (hS : S.lines.length = n) {h : Nat} (hh : h < n) (a b : Bool) (o : Option Rw) {F F' : Rw → Hl} (hF : ∀ r, Rel n od (F r) (F' r)) : tailO T (renameS S od) a (rho od h) b o F' = (tailO T S a h b o F).map (renO od) := by
  unfold tailO
  cases b with
  | false => rfl
  | true =>
    cases o with
    | none => cases a <;> rfl
    | some r =>
      simp only [if_true]
      split
      · rfl
      · rw [end_ren hO T hS (hF r) hh]
        rfl
theorem wish_rel {H H' : Hl} (R : Rel n od H H') (hb : H.br = none) {h : Nat} (hh : h < n) (w : Str) (v : Int) : Rel n od (wish H h w v) (wish H' (rho od h) w v) := by
  obtain ⟨x, hx⟩ := R.ex hO hh hb
  have hx' := R.at hO hh hb hx
  unfold wish
  rw [hx, hx']
  split
  · exact R.setL hO hh hb _
  · exact R
theorem off_rel {H H' : Hl} (R : Rel n od H H') (hb : H.br = none) {h : Nat} (hh : h < n) (b : Bool) (k : Nat) : Rel n od (takenOff H h b k) (takenOff H' (rho od h) b k) := by
  obtain ⟨x, hx⟩ := R.ex hO hh hb
  have hx' := R.at hO hh hb hx
  unfold takenOff
  rw [hx, hx']
  exact R.setL hO hh hb _
theorem taken_rel {H H' : Hl} (R : Rel n od H H') (hb : H.br = none) {h : Nat} (hh : h < n) (k : Nat) (as : List Ac) : Rel n od (taken H h k as) (taken H' (rho od h) k as) := by
  unfold taken
  split
  · exact R
  · exact off_rel hO R hb hh _ _
theorem renI_at {h : Int} (h0 : 0 ≤ h) (h1 : h < n) : 0 ≤ renI od h ∧ renI od h < n ∧ (renI od h).toNat = rho od h.toNat := by
  have := hO.rho_lt (show h.toNat < n by omega)
  unfold renI
  omega
theorem step_ren (T : Tb) {S : Sd} (hS : S.lines.length = n) {D : Dd} (h0 : 0 ≤ D.hand) (h1 : D.hand < n) : stepP T (renameS S od) (renD od D) = (stepP T S D).map (renO od) := by
  have hl : (renameS S od).lines.length = n := rn_length hO hS
  have R := rel0 hO hS
  have hhn : (renameS S od).house = S.house := rfl
  cases D with
  | ask h w =>
    change 0 ≤ h at h0
    change h < n at h1
    obtain ⟨q0, q1, q2⟩ := renI_at hO h0 h1
    have hh : h.toNat < n := by omega
    have el : (renameS S od).lines[rho od h.toNat]? = S.lines[h.toNat]? := rn_rho hO hS hh
    simp only [renD, stepP, hl, hS, h0, h1, q0, q1, q2, el, and_self, if_true]
    cases S.lines[h.toNat]? with
    | none => rfl
    | some x => exact tail_ren hO T hS hh _ _ _ fun r => acts_rel hO (fun H H' a R hb => R.handAct hO hh hb a none) _ (wish_rel hO R rfl hh _ _)
  | write h v =>
    change 0 ≤ h at h0
    change h < n at h1
    obtain ⟨q0, q1, q2⟩ := renI_at hO h0 h1
    have hh : h.toNat < n := by omega
    have el : (renameS S od).lines[rho od h.toNat]? = S.lines[h.toNat]? := rn_rho hO hS hh
    simp only [renD, stepP, hl, hS, h0, h1, q0, q1, q2, el, and_self, if_true]
    cases S.lines[h.toNat]? with
    | none => rfl
    | some x => exact tail_ren hO T hS hh _ _ _ fun r => acts_rel hO (fun H H' a R hb => R.handAct hO hh hb a none) _ (wish_rel hO R rfl hh _ _)
  | take h k =>
    change 0 ≤ h at h0
    change h < n at h1
    obtain ⟨q0, q1, q2⟩ := renI_at hO h0 h1
    have hh : h.toNat < n := by omega
    have el : (renameS S od).lines[rho od h.toNat]? = S.lines[h.toNat]? := rn_rho hO hS hh
    simp only [renD, stepP, hl, hS, h0, h1, q0, q1, q2, el, and_self, true_and]
    split
    · cases S.lines[h.toNat]? with
      | none => rfl
      | some x =>
        dsimp only
        cases x.to[k.toNat]? with
        | none => rfl
        | some p => exact tail_ren hO T hS hh _ _ _ fun r => acts_rel hO (fun H H' a R hb => R.handAct hO hh hb a p.2) _ (off_rel hO R rfl hh _ _)
    · rfl
  | get h k =>
    change 0 ≤ h at h0
    change h < n at h1
    obtain ⟨q0, q1, q2⟩ := renI_at hO h0 h1
    have hh : h.toNat < n := by omega
    have el : (renameS S od).lines[rho od h.toNat]? = S.lines[h.toNat]? := rn_rho hO hS hh
    have ela : lastB (renameS S od).lines (rho od h.toNat) = lastB S.lines h.toNat := last_ren hO hS hh
    simp only [renD, stepP, hl, hS, h0, h1, q0, q1, q2, el, ela, hhn, and_self, true_and]
    split
    · cases S.lines[h.toNat]? with
      | none => rfl
      | some x =>
        dsimp only
        cases x.ba[k.toNat]? with
        | none => rfl
        | some p => exact tail_ren hO T hS hh _ _ _ fun r => acts_rel hO (fun H H' a R hb => R.houseAct hO hh hb a p.2) _ (taken_rel hO R rfl hh _ _)
    · rfl
omit hO in
theorem step_hand {T : Tb} {S : Sd} {D : Dd} {y : Out} (h : stepP T S D = some y) : 0 ≤ D.hand ∧ D.hand < S.lines.length := by
  cases D <;> simp only [stepP] at h <;> split at h <;> first | (rename_i q; exact q) | (rename_i q; exact q.1) | cases h
def renA1 (od : List Nat) (a : A1) : A1 := (a.1, renI od a.2.1, a.2.2)
omit hO in
theorem renA_toList (a : An) : (renA od a).toList = a.toList.map (renA1 od) := by cases a <;> rfl
def renPl (od : List Nat) (y : Pl) : Pl := ⟨renameS y.sd od, y.an.map (renA1 od), y.ft⟩
theorem play_ren (T : Tb) : ∀ (Ds : List Dd) {S : Sd} (as : List A1) {y : Pl}, S.Ok → S.lines.length = n → playP T Ds S as = some y → playP T (Ds.map (renD od)) (renameS S od) (as.map (renA1 od)) = some (renPl od y)
  | [], S, as, y, _, _, h => by cases h; rfl
  | D :: Ds, S, as, y, hS, hl, h => by
    cases q : stepP T S D with
    | none => rw [playP_no q] at h; cases h
    | some z =>
      obtain ⟨h0, h1⟩ := step_hand q
      rw [hl] at h1
      have e := step_ren hO T hl h0 h1
      rw [q] at e
      obtain ⟨z1, z2⟩ := stepP_good hS q
      obtain ⟨sd, an, ft⟩ := z
      rw [List.map_cons]
      cases ft with
      | some b =>
        rw [playP_ft q] at h
        cases h
        rw [playP_ft (sd := renameS sd od) (an := renA od an) (b := b) e]
        rfl
      | none =>
        rw [playP_go q] at h
        rw [playP_go (sd := renameS sd od) (an := renA od an) e, renA_toList, ← List.map_append]
        exact play_ren T Ds _ z1 (z2.trans hl) h
theorem start_ren (T : Tb) : renameS (startP T n) od = startP T n := by
  have : renameL (startP T n).lines od = (startP T n).lines := by
    refine List.ext_getElem? fun j => ?_
    have hl : (startP T n).lines.length = n := by simp [startP]
    by_cases hj : j < n
    · obtain ⟨k, ek, hk⟩ := hO.ex hj
      rw [rn_at hO hl ek]
      simp [startP, hj, hk]
    · rw [rn_none hO hl hj]
      exact (List.getElem?_eq_none (by omega)).symm
  unfold renameS
  rw [this]
end
end Cg

set_option linter.all false
set_option maxRecDepth 100000
set_option maxHeartbeats 4000000
/-! Cg: the signs of a standing's words are such (plain). -/
namespace Cg
open PySem hiding Env listOf
open Cc
structure Tb.Lay (T : Tb) : Prop where
  hs : ∀ p ∈ T.hs, SOk p.1
  ho : ∀ x ∈ T.ho, SOk x
  re : ∀ r ∈ T.rs, SOk r.e
  rt : ∀ r ∈ T.rs, ∀ x, r.t = some x → SOk x
  ra : ∀ r ∈ T.rs, ∀ a ∈ r.acts, ∀ w ∈ a, SOk w
structure Ln.Lay (x : Ln) : Prop where
  st : SOk x.st
  to : ∀ p ∈ x.to, SOk p.1
  ba : ∀ p ∈ x.ba, SOk p.1
structure Sd.Lay (S : Sd) : Prop where
  house : SOk S.house
  lines : ∀ x ∈ S.lines, x.Lay
theorem lay_none : SOk w_none := by decide +kernel
theorem Ln.Lay.way {x : Ln} (h : x.Lay) (b : Bool) : ∀ p ∈ x.way b, SOk p.1 := by
  cases b
  · exact h.ba
  · exact h.to
theorem Ln.Lay.setWay {x : Ln} (h : x.Lay) (b : Bool) {w : List Lt} (hw : ∀ p ∈ w, SOk p.1) : (x.setWay b w).Lay := by
  cases b
  · exact ⟨h.st, h.to, hw⟩
  · exact ⟨h.st, hw, h.ba⟩
section
variable {H : Hl} (hL : H.sd.Lay)
include hL
theorem lay_at {h : Nat} {x : Ln} (hx : H.sd.lines[h]? = some x) : x.Lay := hL.lines x (List.mem_of_getElem? hx)
theorem lay_setL {h : Nat} {x : Ln} (hx : x.Lay) : (H.setL h x).sd.Lay := by
  refine ⟨hL.house, fun y hy => ?_⟩
  rcases List.mem_or_eq_of_mem_set hy with q | q
  · exact hL.lines y q
  · subst q; exact hx
theorem lay_post (h : Nat) (b : Bool) {p : Lt} (hp : SOk p.1) : (post H h b p).sd.Lay := by
  unfold post
  split
  · rename_i x hx
    split
    · exact hL
    · exact lay_setL hL ((lay_at hL hx).setWay b fun q hq => by
        rcases List.mem_append.mp hq with h | h
        · exact (lay_at hL hx).way b q h
        · rw [List.mem_singleton.mp h]; exact hp)
  · exact hL
theorem lay_tell (h : Nat) (v : Vl) : (tell H h v).sd.Lay := by
  unfold tell
  split
  · exact hL
  · split <;> exact hL
theorem lay_hand (h : Nat) {a : Ac} (ha : ∀ w ∈ a, SOk w) (v : Vl) : (handAct H h a v).sd.Lay := by
  unfold handAct
  split
  · rename_i x a0 r hx
    have ox := lay_at hL hx
    split
    · exact lay_setL hL ⟨ox.st, ox.to, ox.ba⟩
    split
    · exact lay_setL hL ⟨ox.st, ox.to, ox.ba⟩
    split
    · exact ⟨hL.house, (lay_setL (h := h) hL (x := { x with v := some (H.sd.last.1 + 1, x.want) }) ⟨ox.st, ox.to, ox.ba⟩).lines⟩
    split
    · exact lay_tell hL _ _
    split
    · exact lay_post hL _ _ (ha _ (by simp))
    · exact hL
  · exact hL
omit hL in
theorem lay_posts {p : Lt} (hp : SOk p.1) : ∀ (ks : List Nat) {H : Hl}, H.sd.Lay → (ks.foldl (postIf p) H).sd.Lay
  | [], H, h => h
  | k :: ks, H, h => by
    rw [List.foldl_cons]
    refine lay_posts hp ks ?_
    unfold postIf
    split
    · exact lay_post h _ _ hp
    · exact h
theorem lay_house (h : Nat) {a : Ac} (ha : ∀ w ∈ a, SOk w) (v : Vl) : (houseAct H h a v).sd.Lay := by
  unfold houseAct
  split
  · rename_i x a0 r hx
    have ox := lay_at hL hx
    split
    · exact ⟨hL.house, hL.lines⟩
    split
    · split
      · exact lay_post hL _ _ (ha _ (by simp))
      · exact hL
    split
    · split
      · exact lay_posts (by exact ha _ (by simp)) _ hL
      · exact hL
    split
    · split
      · exact lay_posts (by exact ha _ (by simp)) _ hL
      · exact hL
    split
    · exact lay_setL hL ⟨ox.st, ox.to, ox.ba⟩
    split
    · exact lay_setL hL ⟨ox.st, ox.to, ox.ba⟩
    split
    · exact lay_setL hL ⟨ox.st, ox.to, ox.ba⟩
    split
    · refine ⟨hL.house, fun y hy => ?_⟩
      obtain ⟨z, hz, rfl⟩ := List.mem_map.mp hy
      have := hL.lines z hz
      exact ⟨this.st, this.to, this.ba⟩
    · exact hL
  · exact hL
theorem lay_wish (h : Nat) (w : Str) (v : Int) : (wish H h w v).sd.Lay := by
  unfold wish
  split
  · split
    · rename_i x hx
      have ox := lay_at hL hx
      exact lay_setL hL ⟨ox.st, ox.to, ox.ba⟩
    · exact hL
  · exact hL
theorem lay_off (h : Nat) (b : Bool) (k : Nat) : (takenOff H h b k).sd.Lay := by
  unfold takenOff
  split
  · rename_i x hx
    have ox := lay_at hL hx
    exact lay_setL hL (ox.setWay b fun p hp => ox.way b p (by
      unfold cut at hp
      rcases List.mem_append.mp hp with h | h
      · exact List.mem_of_mem_take h
      · exact List.mem_of_mem_drop h))
  · exact hL
theorem lay_taken (h k : Nat) (as : List Ac) : (taken H h k as).sd.Lay := by
  unfold taken
  split
  · exact hL
  · exact lay_off hL _ _ _
end
theorem lay_acts {f : Hl → Ac → Hl} : ∀ (as : List Ac), (∀ a ∈ as, ∀ H : Hl, H.sd.Lay → (f H a).sd.Lay) → ∀ {H : Hl}, H.sd.Lay → (as.foldl (ifOk f) H).sd.Lay
  | [], _, H, h => h
  | a :: as, hf, H, h => by
    rw [List.foldl_cons]
    refine lay_acts as (fun b hb => hf b (List.mem_cons_of_mem _ hb)) ?_
    unfold ifOk
    split
    · exact hf a List.mem_cons_self _ h
    · exact h
theorem lay_lastH {H : Hl} (hL : H.sd.Lay) (h : Nat) {r : Rw} (he : SOk r.e) (ht : ∀ x, r.t = some x → SOk x) : (lastH H h r).sd.Lay := by
  unfold lastH
  split
  · split
    · rename_i x hx
      have ox := lay_at hL hx
      exact lay_setL hL ⟨he, ox.to, ox.ba⟩
    · exact hL
  · refine ⟨?_, hL.lines⟩
    cases e : r.t with
    | none => exact lay_none
    | some x => exact ht x e
theorem lay_tail {T : Tb} (hT : T.Lay) {S : Sd} (hS : S.Lay) {a : Bool} {h : Nat} {b : Bool} {o : Option Rw} (ho : ∀ r, o = some r → r ∈ T.rs) {F : Rw → Hl} (hF : ∀ r ∈ T.rs, (F r).sd.Lay) {y : Out} (e : tailO T S a h b o F = some y) : y.sd.Lay := by
  unfold tailO at e
  split at e
  · split at e
    · split at e
      · cases e
      · cases e; exact hS
    · rename_i r
      have hr := ho r rfl
      split at e
      · cases e
      · cases e
        unfold endO
        split
        · exact hS
        · unfold lastO
          split
          · exact hS
          · exact lay_lastH (hF r hr) h (hT.re r hr) (hT.rt r hr)
  · cases e
theorem step_lay {T : Tb} (hT : T.Lay) {S : Sd} (hS : S.Lay) {D : Dd} {y : Out} (e : stepP T S D = some y) : y.sd.Lay := by
  have f1 : ∀ h w v, ∀ r ∈ T.rs, (r.acts.foldl (ifOk (handF h none)) (wish (hall0 S) h w v)).sd.Lay := fun h w v r hr => lay_acts _ (fun a ha H hH => lay_hand hH h (hT.ra r hr a ha) none) (lay_wish (H := hall0 S) hS h w v)
  have f2 : ∀ h k v, ∀ r ∈ T.rs, (r.acts.foldl (ifOk (handF h v)) (takenOff (hall0 S) h true k)).sd.Lay := fun h k v r hr => lay_acts _ (fun a ha H hH => lay_hand hH h (hT.ra r hr a ha) v) (lay_off (H := hall0 S) hS h true k)
  have f3 : ∀ h k v, ∀ r ∈ T.rs, (r.acts.foldl (ifOk (houseF h v)) (taken (hall0 S) h k r.acts)).sd.Lay := fun h k v r hr => lay_acts _ (fun a ha H hH => lay_house hH h (hT.ra r hr a ha) v) (lay_taken (H := hall0 S) hS h k _)
  have m1 : ∀ st ev r, handRow T st ev = some r → r ∈ T.rs := fun st ev r h => (handRow_mem h).1
  have m2 : ∀ st k l r, houseRow T st k l = some r → r ∈ T.rs := fun st k l r h => (houseRow_mem h).1
  cases D <;> simp only [stepP] at e <;> split at e <;> try (cases e; done)
  · split at e
    · exact lay_tail hT hS (m1 _ _) (f1 _ _ _) e
    · cases e
  · split at e
    · exact lay_tail hT hS (m1 _ _) (f1 _ _ _) e
    · cases e
  · split at e
    · split at e
      · exact lay_tail hT hS (m1 _ _) (f2 _ _ _) e
      · cases e
    · cases e
  · split at e
    · split at e
      · exact lay_tail hT hS (m2 _ _ _) (f3 _ _ _) e
      · cases e
    · cases e
theorem play_lay {T : Tb} (hT : T.Lay) : ∀ (Ds : List Dd) {S : Sd} {as : List A1} {y : Pl}, S.Lay → playP T Ds S as = some y → y.sd.Lay
  | [], S, as, y, hS, h => by cases h; exact hS
  | D :: Ds, S, as, y, hS, h => by
    cases q : stepP T S D with
    | none => rw [playP_no q] at h; cases h
    | some z =>
      have z1 := step_lay hT hS q
      obtain ⟨sd, an, ft⟩ := z
      cases ft with
      | some b => rw [playP_ft q] at h; cases h; exact z1
      | none => rw [playP_go q] at h; exact play_lay hT Ds z1 h
theorem start_lay {T : Tb} (hT : T.Lay) (many : Nat) : (startP T many).Lay := by
  refine ⟨?_, fun y hy => ?_⟩
  · show SOk (T.ho.getD 0 w_none)
    cases e : T.ho with
    | nil => exact lay_none
    | cons x l => exact hT.ho x (by rw [e]; simp)
  · have := List.eq_of_mem_replicate hy
    subst this
    refine ⟨?_, by simp, by simp⟩
    show SOk ((T.hs.map (·.1)).getD 0 w_none)
    cases e : T.hs with
    | nil => exact lay_none
    | cons x l => exact hT.hs x (by rw [e]; simp)
/-! ### what a play tells can be compared -/
abbrev Ly (x : PyData) : Prop := x.canLay0 = true ∧ x.depth ≤ 20
theorem lay_pos {xs : List PyData} {d : Nat} (h : ∀ x ∈ xs, x.canLay0 = true ∧ x.depth ≤ d) : PyData.canLay0 (.tuple xs) = true ∧ PyData.depth (.tuple xs) ≤ d + 1 ∧ PyData.canLay0 (.list xs) = true ∧ PyData.depth (.list xs) ≤ d + 1 := by
  have h1 : PyData.canLayAll0 xs = true := layAll (f := fun _ => True) fun x hx => (h x hx).1
  have h2 : PyData.depthAll xs ≤ d := by
    clear h1
    induction xs with
    | nil => simp [PyData.depthAll]
    | cons x xs ih =>
      simp only [PyData.depthAll]
      exact Nat.max_le.mpr ⟨(h x List.mem_cons_self).2, ih fun y hy => h y (List.mem_cons_of_mem _ hy)⟩
  simp only [PyData.canLay0, PyData.depth]
  exact ⟨h1, by omega, h1, by omega⟩
theorem lay_tup {xs : List PyData} (d : Nat) (h : ∀ x ∈ xs, x.canLay0 = true ∧ x.depth ≤ d) : PyData.canLay0 (.tuple xs) = true ∧ PyData.depth (.tuple xs) ≤ d + 1 := ⟨(lay_pos h).1, (lay_pos h).2.1⟩
theorem lay_lst {xs : List PyData} (d : Nat) (h : ∀ x ∈ xs, x.canLay0 = true ∧ x.depth ≤ d) : PyData.canLay0 (.list xs) = true ∧ PyData.depth (.list xs) ≤ d + 1 := ⟨(lay_pos h).2.2.1, (lay_pos h).2.2.2⟩
theorem lay_le {x : PyData} {d e : Nat} (h : x.canLay0 = true ∧ x.depth ≤ d) (hd : d ≤ e) : x.canLay0 = true ∧ x.depth ≤ e := ⟨h.1, Nat.le_trans h.2 hd⟩
theorem lay_str {x : Str} (h : SOk x) (d : Nat) : PyData.canLay0 (.str x) = true ∧ PyData.depth (.str x) ≤ d := ⟨h, by simp [PyData.depth]⟩
theorem lay_int (i : Int) (d : Nat) : PyData.canLay0 (.int i) = true ∧ PyData.depth (.int i) ≤ d := ⟨by simp [PyData.canLay0], by simp [PyData.depth]⟩
theorem lay_encV (v : Vl) : (encV v).canLay0 = true ∧ (encV v).depth ≤ 1 := by
  cases v with
  | none => exact ⟨by simp [encV, PyData.canLay0], by simp [encV, PyData.depth]⟩
  | some p =>
    exact lay_tup 0 fun x hx => by
      simp only [List.mem_cons, List.not_mem_nil, or_false] at hx
      rcases hx with rfl | rfl <;> exact lay_int _ _
theorem lay_encW {w : List Lt} (h : ∀ p ∈ w, SOk p.1) : (encW w).canLay0 = true ∧ (encW w).depth ≤ 3 := lay_tup 2 fun x hx => by
  obtain ⟨p, hp, rfl⟩ := List.mem_map.mp hx
  refine lay_tup 1 fun x hx => ?_
  simp only [List.mem_cons, List.not_mem_nil, or_false] at hx
  rcases hx with rfl | rfl
  · exact lay_str (h p hp) _
  · exact lay_encV _
theorem lay_encN {x : Ln} (h : x.Lay) : (encN x).canLay0 = true ∧ (encN x).depth ≤ 4 := lay_tup 3 fun y hy => by
  simp only [Ln.l, List.mem_cons, List.not_mem_nil, or_false] at hy
  rcases hy with rfl | rfl | rfl | rfl | rfl | rfl
  · exact lay_str h.st _
  · exact lay_le (lay_encV _) (by omega)
  · exact lay_int _ _
  · exact lay_encW h.to
  · exact lay_encW h.ba
  · exact lay_int _ _
theorem lay_encS {S : Sd} (h : S.Lay) : (encS S).canLay0 = true ∧ (encS S).depth ≤ 6 := lay_tup 5 fun y hy => by
  simp only [List.mem_cons, List.not_mem_nil, or_false] at hy
  rcases hy with rfl | rfl | rfl | rfl
  · exact lay_str h.house _
  · exact lay_le (lay_encV _) (by omega)
  · exact lay_le (lay_encV (some _)) (by omega)
  · exact lay_tup 4 fun x hx => by
      obtain ⟨z, hz, rfl⟩ := List.mem_map.mp hx
      exact lay_encN (h.lines z hz)
theorem shaped_of {x : PyData} (h : x.canLay0 = true ∧ x.depth ≤ 63) : SeqAt.shaped x = true := by
  unfold SeqAt.shaped
  rw [h.1]
  have := h.2
  simp
  omega
end Cg

set_option linter.all false
set_option maxRecDepth 100000
set_option maxHeartbeats 4000000
/-! Cg: answers and faults are well laid; bad deeds; hands of a play; places in an order (plain). -/
namespace Cg
open PySem hiding Env listOf
open Cc
structure HOk (h : Nat) (H : Hl) : Prop where
  an : ∀ a, H.an = some a → SOk a.1 ∧ a.2.1 = (h : Int)
  br : ∀ b, H.br = some b → SOk b
section
variable {h : Nat} {H : Hl} (k : HOk h H)
include k
theorem HOk.same {H' : Hl} (e1 : H'.an = H.an) (e2 : H'.br = H.br) : HOk h H' := ⟨fun a e => k.an a (e1 ▸ e), fun b e => k.br b (e2 ▸ e)⟩
theorem HOk.broke {b : Str} (hb : SOk b) : HOk h { H with br := some b } := ⟨k.an, fun c e => by cases e; exact hb⟩
theorem HOk.says {sd : Sd} {w : Str} {v : Int} (hw : SOk w) : HOk h ⟨sd, some (w, (h : Int), v), H.br⟩ := ⟨fun a e => by cases e; exact ⟨hw, rfl⟩, k.br⟩
theorem ok_post (g : Nat) (b : Bool) (p : Lt) : HOk h (post H g b p) := by
  unfold post
  split
  · split
    · exact k.broke (by decide +kernel)
    · exact k.same rfl rfl
  · exact k
theorem ok_tell (v : Vl) : HOk h (tell H h v) := by
  unfold tell
  split
  · exact k.broke (by decide +kernel)
  · split
    · exact k.says (by decide +kernel)
    · exact k.broke (by decide +kernel)
theorem ok_hand (a : Ac) (v : Vl) : HOk h (handAct H h a v) := by
  unfold handAct
  split
  · split
    · exact k.same rfl rfl
    split
    · exact k.same rfl rfl
    split
    · exact k.says (by decide +kernel)
    split
    · exact ok_tell k _
    split
    · exact ok_post k _ _ _
    · exact k
  · exact k
omit k in
theorem ok_posts {p : Lt} : ∀ (ks : List Nat) {H : Hl}, HOk h H → HOk h (ks.foldl (postIf p) H)
  | [], H, k => k
  | g :: ks, H, k => by
    rw [List.foldl_cons]
    refine ok_posts ks ?_
    unfold postIf
    split
    · exact ok_post k _ _ _
    · exact k
theorem ok_house (a : Ac) (v : Vl) : HOk h (houseAct H h a v) := by
  unfold houseAct
  split
  · split
    · exact k.same rfl rfl
    split
    · split
      · exact ok_post k _ _ _
      · exact k
    split
    · split
      · exact ok_posts _ k
      · exact k
    split
    · split
      · exact ok_posts _ k
      · exact k
    split
    · exact k.same rfl rfl
    split
    · exact k.same rfl rfl
    split
    · exact k.same rfl rfl
    split
    · exact k.same rfl rfl
    · exact k
  · exact k
theorem ok_wish (g : Nat) (w : Str) (v : Int) : HOk h (wish H g w v) := by
  unfold wish
  split
  · split
    · exact k.same rfl rfl
    · exact k
  · exact k
theorem ok_off (g : Nat) (b : Bool) (j : Nat) : HOk h (takenOff H g b j) := by
  unfold takenOff
  split
  · exact k.same rfl rfl
  · exact k
theorem ok_taken (g j : Nat) (as : List Ac) : HOk h (taken H g j as) := by
  unfold taken
  split
  · exact k
  · exact ok_off k _ _ _
omit k in
theorem ok_acts {f : Hl → Ac → Hl} (hf : ∀ H a, HOk h H → HOk h (f H a)) : ∀ (as : List Ac) {H : Hl}, HOk h H → HOk h (as.foldl (ifOk f) H)
  | [], H, k => k
  | a :: as, H, k => by
    rw [List.foldl_cons]
    refine ok_acts hf as ?_
    unfold ifOk
    split
    · exact hf _ _ k
    · exact k
theorem ok_lastH (g : Nat) (r : Rw) : HOk h (lastH H g r) := by
  unfold lastH
  split
  · split
    · exact k.same rfl rfl
    · exact k
  · exact k.same rfl rfl
end
structure OutOk (n : Nat) (an : An) (ft : Br) : Prop where
  an : ∀ a, an = some a → SOk a.1 ∧ 0 ≤ a.2.1 ∧ a.2.1 < n
  ft : ∀ b, ft = some b → SOk b
theorem out_tail {T : Tb} {S : Sd} {a : Bool} {h n : Nat} (hn : h < n) {b : Bool} {o : Option Rw} {F : Rw → Hl} (hF : ∀ r, HOk h (F r)) {y : Out} (e : tailO T S a h b o F = some y) : OutOk n y.an y.ft := by
  have br : ∀ w : Str, SOk w → OutOk n none (some w) := fun w hw => ⟨fun a e => (by cases e), fun b e => (by cases e; exact hw)⟩
  unfold tailO at e
  split at e
  · split at e
    · split at e
      · cases e
      · cases e; exact br _ (by decide +kernel)
    · rename_i r
      split at e
      · cases e
      · cases e
        unfold endO
        split
        · rename_i b hb
          exact br _ ((hF r).br b hb)
        · rename_i hb
          unfold lastO
          split
          · exact br _ (by decide +kernel)
          · have q := ok_lastH (hF r) h r
            exact ⟨fun a e => by
              obtain ⟨q1, q2⟩ := q.an a e
              exact ⟨q1, by omega, by omega⟩, fun b e => (by cases e)⟩
  · cases e
theorem ok_hall0 (h : Nat) (S : Sd) : HOk h (hall0 S) := ⟨fun a e => (by cases e), fun b e => (by cases e)⟩
theorem step_out {T : Tb} {S : Sd} {D : Dd} {y : Out} (e : stepP T S D = some y) : OutOk S.lines.length y.an y.ft := by
  have f1 : ∀ h w v, ∀ r : Rw, HOk h (r.acts.foldl (ifOk (handF h none)) (wish (hall0 S) h w v)) := fun h w v r => ok_acts (fun H a k => ok_hand k a none) _ (ok_wish (ok_hall0 h S) h w v)
  have f2 : ∀ h k v, ∀ r : Rw, HOk h (r.acts.foldl (ifOk (handF h v)) (takenOff (hall0 S) h true k)) := fun h k v r => ok_acts (fun H a k => ok_hand k a v) _ (ok_off (ok_hall0 h S) h true k)
  have f3 : ∀ h k v, ∀ r : Rw, HOk h (r.acts.foldl (ifOk (houseF h v)) (taken (hall0 S) h k r.acts)) := fun h k v r => ok_acts (fun H a k => ok_house k a v) _ (ok_taken (ok_hall0 h S) h k _)
  cases D <;> simp only [stepP] at e <;> split at e <;> try (cases e; done)
  · rename_i q
    split at e
    · exact out_tail (by omega) (f1 _ _ _) e
    · cases e
  · rename_i q
    split at e
    · exact out_tail (by omega) (f1 _ _ _) e
    · cases e
  · rename_i q
    split at e
    · split at e
      · exact out_tail (by omega) (f2 _ _ _) e
      · cases e
    · cases e
  · rename_i q
    split at e
    · split at e
      · exact out_tail (by omega) (f3 _ _ _) e
      · cases e
    · cases e
structure PlOk (n : Nat) (an : List A1) (ft : Br) : Prop where
  an : ∀ a ∈ an, SOk a.1 ∧ 0 ≤ a.2.1 ∧ a.2.1 < n
  ft : ∀ b, ft = some b → SOk b
theorem play_out {T : Tb} {n : Nat} : ∀ (Ds : List Dd) {S : Sd} {as : List A1} {y : Pl}, S.Ok → S.lines.length = n → PlOk n as none → playP T Ds S as = some y → PlOk n y.an y.ft
  | [], S, as, y, hS, hl, ha, h => by cases h; exact ha
  | D :: Ds, S, as, y, hS, hl, ha, h => by
    cases q : stepP T S D with
    | none => rw [playP_no q] at h; cases h
    | some z =>
      have z1 := step_out q
      obtain ⟨z2, z3⟩ := stepP_good hS q
      rw [hl] at z1
      obtain ⟨sd, an, ft⟩ := z
      cases ft with
      | some b =>
        rw [playP_ft q] at h
        cases h
        exact ⟨ha.an, z1.ft⟩
      | none =>
        rw [playP_go q] at h
        refine play_out Ds z2 (z3.trans hl) ⟨fun a hm => ?_, fun b e => (by cases e)⟩ h
        rcases List.mem_append.mp hm with hm | hm
        · exact ha.an a hm
        · cases an with
          | none => cases hm
          | some c => rw [List.mem_singleton.mp hm]; exact z1.an c rfl
/-! ### hands -/
theorem play_hands {T : Tb} {n : Nat} : ∀ (Ds : List Dd) {S : Sd} {as : List A1} {z : Pl}, S.Ok → S.lines.length = n → playP T Ds S as = some z → z.ft = none → ∀ D ∈ Ds, 0 ≤ D.hand ∧ D.hand < n
  | [], S, as, z, _, _, _, _, D, hD => by cases hD
  | E :: Ds, S, as, z, hS, hl, h, hz, D, hD => by
    cases q : stepP T S E with
    | none => rw [playP_no q] at h; cases h
    | some y =>
      have z1 := step_hand q
      obtain ⟨z2, z3⟩ := stepP_good hS q
      rw [hl] at z1
      obtain ⟨sd, an, ft⟩ := y
      cases ft with
      | some b => rw [playP_ft q] at h; cases h; cases hz
      | none =>
        rw [playP_go q] at h
        rcases List.mem_cons.mp hD with rfl | hD
        · exact z1
        · exact play_hands Ds z2 (z3.trans hl) h hz D hD
theorem run_hands {T : Tb} {n : Nat} {ds : List Dd} {S : Sd} {y : Pl} (hS : S.Ok) (hl : S.lines.length = n) (h : playP T ds S [] = some y) (hz : ∃ z, playP T ds.dropLast S [] = some z ∧ z.ft = none) : ∀ D ∈ ds, 0 ≤ D.hand ∧ D.hand < n := by
  obtain ⟨z, e, hf⟩ := hz
  rcases List.eq_nil_or_concat ds with rfl | ⟨l, E, rfl⟩
  · intro D hD; cases hD
  · rw [List.concat_eq_append] at *
    rw [List.dropLast_concat] at e
    intro D hD
    rcases List.mem_append.mp hD with hD | hD
    · exact play_hands l hS hl e hf D hD
    · rw [List.mem_singleton.mp hD]
      rw [playP_append, e, Option.bind_some] at h
      unfold onP at h
      rw [hf] at h
      dsimp only at h
      cases q : stepP T z.sd E with
      | none => rw [playP_no q] at h; cases h
      | some y =>
        have z1 := step_hand q
        obtain ⟨_, z3⟩ := playP_len l hS e
        rwa [z3, hl] at z1
/-! ### deeds that may not be done -/
def badD (n : Nat) : Nat → Dd
  | 0 => .take 0 9
  | 1 => .get ((n : Int) - 1) (-1)
  | 2 => .ask n w_drop
  | _ => .take (-1) 0
theorem badD_ok (n j : Nat) : (badD n j).Ok := by
  unfold badD
  split <;> first | exact wwd | trivial
theorem bad_none (T : Tb) {S : Sd} (hS : S.Ok) {n : Nat} (hl : S.lines.length = n) (j : Nat) : stepP T S (badD n j) = none := by
  unfold badD
  split
  · simp only [stepP]
    split
    · cases e : S.lines[(0 : Int).toNat]? with
      | none => rfl
      | some x =>
        have := (hS.2 x (List.mem_of_getElem? e)).1
        have e2 : x.to[(9 : Int).toNat]? = none := List.getElem?_eq_none (by show x.to.length ≤ 9; omega)
        dsimp only
        rw [e2]
    · rfl
  · simp only [stepP]
    rw [if_neg (by omega)]
  · simp only [stepP]
    rw [if_neg (by omega)]
  · simp only [stepP]
    rw [if_neg (by omega)]
theorem ins_refused {T : Tb} {n : Nat} {ds : List Dd} {S : Sd} {y : Pl} (hS : S.Ok) (hl : S.lines.length = n) (h : playP T ds S [] = some y) (hz : ∃ z, playP T ds.dropLast S [] = some z ∧ z.ft = none) (j : Nat) {i : Nat} (hi : i ≤ ds.length) :
    (playP T (ds.take i ++ badD n j :: ds.drop i) S []).isNone = (y.ft.isNone || decide (i < ds.length)) := by
  have key : ∀ {l : List Dd} {z : Pl}, playP T l S [] = some z → z.ft = none → playP T (l ++ badD n j :: ds.drop i) S [] = none := fun e hf => by
    obtain ⟨k1, k2⟩ := playP_len _ hS e
    exact playP_bad e hf (bad_none T k1 (k2.trans hl) j) _
  by_cases c : i < ds.length
  · obtain ⟨z, e, hf⟩ := hz
    obtain ⟨z', e', hf'⟩ := playP_pre _ e hf i
    have : ds.dropLast.take i = ds.take i := by
      rw [List.dropLast_eq_take, List.take_take]
      congr 1
      omega
    rw [this] at e'
    rw [key e' hf']
    simp [c]
  · have hi2 : i = ds.length := by omega
    subst hi2
    rw [List.take_length, decide_eq_false c, Bool.or_false]
    cases hf : y.ft with
    | none => rw [key h hf]; rfl
    | some b => rw [playP_fault h hf]; rfl
/-! ### places in an order -/
theorem find_at (od : List Nat) {k : Nat} (hk : k ∈ od) : ((encI od).findIdx? fun z => PyData.eqv z (.int (k : Nat))) = some (rho od k) := by
  unfold encI rho
  rw [List.findIdx?_map]
  have e : ((fun z => PyData.eqv z (.int (k : Nat))) ∘ fun (j : Nat) => PyData.int (j : Nat)) = fun j => j == k := by
    funext j
    show PyData.eqv (.int (j : Nat)) (.int (k : Nat)) = _
    rw [show PyData.eqv (.int (j : Nat)) (.int (k : Nat)) = decide ((j : Int) = (k : Int)) from by rfl]
    by_cases q : j = k
    · simp [q]
    · have : ¬ (j : Int) = (k : Int) := by omega
      simp [q, this]
  rw [e, List.findIdx?_eq_some_iff_findIdx_eq]
  exact ⟨List.findIdx_lt_length.mpr ⟨k, hk, by simp⟩, rfl⟩
theorem index_od {od : List Nat} {k : Nat} (hk : k ∈ od) (s : Store) : lmD s .index (.d (.list (encI od))) [.d (.int (k : Nat))] = some (.int (rho od k : Nat)) := by
  have h1 : SeqAt.shaped (.list (encI od)) = true := shaped_list fun x hx => by
    obtain ⟨j, _, rfl⟩ := List.mem_map.mp hx
    exact ⟨rfl, by simp [PyData.depth]⟩
  have h2 : SeqAt.shaped (.int (k : Nat)) = true := by simp [SeqAt.shaped, PyData.canLay0, PyData.depth]
  show lmIndex s (.d (.list (encI od))) (.d (.int (k : Nat))) = _
  unfold lmIndex
  simp only [Cc.top, Option.bind_some, Cc.listOf, h1, h2, Bool.and_self, if_true, find_at od hk, Option.map_some]
theorem index_hand {n : Nat} {od : List Nat} (hO : Od n od) {h : Int} (h0 : 0 ≤ h) (h1 : h < n) (s : Store) : lmD s .index (.d (.list (encI od))) [.d (.int h)] = some (.int (renI od h)) := by
  have := index_od (hO.mem (show h.toNat < n by omega)) s
  rwa [Int.toNat_of_nonneg h0] at this
end Cg

set_option linter.all false
set_option maxRecDepth 100000
set_option maxHeartbeats 4000000
/-! Cg: sound tables; a table with one row bent (_law_bent of k23, k71, k72, k96, k99). -/
namespace Cg
open PySem hiding Env listOf
open Cc
/-- a sound row -/
structure GR (r : Rw) : Prop where
  e : SOk r.e
  t : ∀ x, r.t = some x → SOk x
  w : ∀ a ∈ r.acts, ∀ x ∈ a, SOk x
  k : if r.a = w_hand then r.t = none ∧ ∀ a ∈ r.acts, hActB a = true else r.t ≠ none ∧ ∀ a ∈ r.acts, sActB a = true
def okS (x : Str) : Bool := PyData.canLay0 (.str x)
def gB (r : Rw) : Bool := okS r.e && ((match r.t with | some x => okS x | none => true) && ((r.acts.all fun a => a.all okS) && if r.a = w_hand then r.t.isNone && r.acts.all hActB else r.t.isSome && r.acts.all sActB))
theorem gB_ok {r : Rw} (h : gB r = true) : GR r := by
  unfold gB at h
  simp only [Bool.and_eq_true] at h
  obtain ⟨h1, h2, h3, h4⟩ := h
  refine ⟨h1, fun x e => by rw [e] at h2; exact h2, fun a ha x hx => List.all_eq_true.mp (List.all_eq_true.mp h3 a ha) x hx, ?_⟩
  split at h4
  · rename_i q
    rw [if_pos q]
    simp only [Bool.and_eq_true, Option.isNone_iff_eq_none, List.all_eq_true] at h4
    exact h4
  · rename_i q
    rw [if_neg q]
    simp only [Bool.and_eq_true, Option.isSome_iff_ne_none, List.all_eq_true] at h4
    exact h4
theorem lay_acts2 {as : List Ac} (h : ∀ a ∈ as, ∀ x ∈ a, SOk x) : ∀ y ∈ as.map encA, y.canLay0 = true ∧ y.depth ≤ 1 := fun y hy => by
  obtain ⟨a, ha, rfl⟩ := List.mem_map.mp hy
  exact lay_tup 0 fun z hz => by
    obtain ⟨x, hx, rfl⟩ := List.mem_map.mp hz
    exact ⟨h a ha x hx, by simp [PyData.depth]⟩
theorem wait_of {as : List Ac} (h : waitB as = true) : as = [[w_wait]] := by
  unfold waitB encAs at h
  cases as with
  | nil => cases h
  | cons a r =>
    have h2 : (PyData.eqv (encA a) (.tuple [.str w_wait]) && PyData.eqvAll (r.map encA) []) = true := h
    rw [Bool.and_eq_true] at h2
    obtain ⟨h1, h2⟩ := h2
    cases r with
    | cons b r => cases h2
    | nil =>
      cases a with
      | nil => cases h1
      | cons x a =>
        have h3 : (PyData.eqv (.str x) (.str w_wait) && PyData.eqvAll (a.map .str) []) = true := h1
        rw [Bool.and_eq_true] at h3
        obtain ⟨h3, h4⟩ := h3
        cases a with
        | cons b r => cases h4
        | nil =>
          rw [str_eqv, decide_eq_true_eq] at h3
          rw [h3]
theorem GR.ok {r : Rw} (h : GR r) : RwOk r := by
  have l := lay_tup 1 (lay_acts2 h.w)
  have hk := h.k
  refine ⟨h.e, fun q => ?_, fun q => ?_, layAll (f := fun _ => True) fun x hx => (lay_acts2 h.w x hx).1, shaped_of ⟨l.1, Nat.le_trans l.2 (by omega)⟩⟩
  · rw [if_pos q] at hk
    exact ⟨hk.1, fun a ha => hActB_ok (hk.2 a ha)⟩
  · rw [if_neg (fun z => wh (q.symm.trans z))] at hk
    exact ⟨Option.isSome_iff_exists.mp (Option.isSome_iff_ne_none.mpr hk.1), fun a ha => sActB_ok (hk.2 a ha)⟩
theorem GR.wait {r : Rw} (h : GR r) (q : r.a = w_hand) : waitB r.acts = false := by
  have hk := h.k
  rw [if_pos q] at hk
  cases e : waitB r.acts with
  | false => rfl
  | true =>
    have := hk.2 [w_wait] (by rw [wait_of e]; simp)
    exact absurd this (by decide +kernel)
theorem GR.eq_wait {r : Rw} (h : GR r) : eqD (encAs r.acts) (.tuple [.tuple [.str w_wait]]) = some (waitB r.acts) := by
  have := h.ok.sh
  have h2 : PyData.canLay0 (.tuple [.tuple [.str w_wait]]) = true := by decide +kernel
  have h3 : scP (encAs r.acts) (.tuple [.tuple [.str w_wait]]) = false := rfl
  unfold eqD
  rw [this, h2, h3]
  rfl
/-- a sound table -/
structure GT (T : Tb) : Prop where
  rs : ∀ r ∈ T.rs, GR r
  h1 : T.hs ≠ []
  h2 : T.ho ≠ []
  hs : ∀ p ∈ T.hs, SOk p.1
  ho : ∀ x ∈ T.ho, SOk x
  ln : T.rs.length ≤ 1000
theorem GT.ok {T : Tb} (h : GT T) : T.Ok := fun r m => (h.rs r m).ok
theorem GT.nw {T : Tb} (h : GT T) : NoWait T := fun r m => (h.rs r m).wait
theorem GT.lay {T : Tb} (h : GT T) : T.Lay := ⟨h.hs, h.ho, fun r m => (h.rs r m).e, fun r m => (h.rs r m).t, fun r m => (h.rs r m).w⟩
def gT (T : Tb) : Bool := T.rs.all gB && (!T.hs.isEmpty && (!T.ho.isEmpty && (T.hs.all (fun p => okS p.1) && (T.ho.all okS && Nat.ble T.rs.length 1000))))
theorem gT_ok {T : Tb} (h : gT T = true) : GT T := by
  unfold gT at h
  simp only [Bool.and_eq_true, Bool.not_eq_true', List.all_eq_true, List.isEmpty_eq_false_iff] at h
  obtain ⟨h1, h2, h3, h4, h5, h6⟩ := h
  exact ⟨fun r m => gB_ok (h1 r m), h2, h3, fun p m => h4 p m, fun x m => h5 x m, Nat.le_of_ble_eq_true h6⟩
theorem GR.cut {r : Rw} (h : GR r) : GR { r with acts := r.acts.drop 1 } := by
  have hk := h.k
  refine ⟨h.e, h.t, fun a ha => h.w a (List.mem_of_mem_drop ha), ?_⟩
  by_cases q : r.a = w_hand
  · rw [if_pos q] at hk ⊢
    exact ⟨hk.1, fun a ha => hk.2 a (List.mem_of_mem_drop ha)⟩
  · rw [if_neg q] at hk ⊢
    exact ⟨hk.1, fun a ha => hk.2 a (List.mem_of_mem_drop ha)⟩
theorem GR.to {r : Rw} (h : GR r) {x : Str} (hx : SOk x) : GR { r with e := x } := ⟨hx, h.t, h.w, h.k⟩
theorem cut_row (r : Rw) : cutX r.l none (some (-1)) ++ [encAs (r.acts.drop 1)] = Rw.l { r with acts := r.acts.drop 1 } := by
  obtain ⟨a, b, c, e, t, acts⟩ := r
  cases t <;> rfl
theorem to_row {r : Rw} (h : r.t = none) (x : Str) : cutX r.l none (some 3) ++ [.str x, encAs r.acts] = Rw.l { r with e := x } := by
  obtain ⟨a, b, c, e, t, acts⟩ := r
  cases h
  rfl
def bentB (dg : Nat) : Sx := Sx.seq
  (Sx.assign (Tx.name 2) (Ex.call (Cm.frz) dg [Ex.var 1, Ex.const (PyData.int 64), Ex.const (PyData.int 3)]))
  (Sx.seq
    (Sx.assign (Tx.name 3) (Ex.cell (Ex.bf (Bf.list) [Ex.idx (Ex.var 0) (Ex.const (PyData.int 2))])))
    (Sx.seq
      (Sx.assign (Tx.name 4) (Ex.bin (Bop.mod) (Ex.idx (Ex.var 2) (Ex.const (PyData.int 0))) (Ex.bf (Bf.len) [Ex.var 3])))
      (Sx.seq
        (Sx.assign (Tx.name 5) (Ex.idx (Ex.var 3) (Ex.var 4)))
        (Sx.seq
          (Sx.ite
            (Bx.tru (Ex.cmp (Cop.eq) (Ex.bin (Bop.mod) (Ex.idx (Ex.var 2) (Ex.const (PyData.int 1))) (Ex.const (PyData.int 3))) (Ex.const (PyData.int 0))))
            (Sx.assign (Tx.name 3) (Ex.cell (Ex.bin (Bop.add) (Ex.slice (Ex.var 3) none (some (Ex.var 4))) (Ex.slice (Ex.var 3) (some (Ex.bin (Bop.add) (Ex.var 4) (Ex.const (PyData.int 1)))) none))))
            (Sx.ite
              (Bx.and
                (Bx.tru (Ex.cmp (Cop.eq) (Ex.bin (Bop.mod) (Ex.idx (Ex.var 2) (Ex.const (PyData.int 1))) (Ex.const (PyData.int 3))) (Ex.const (PyData.int 1))))
                (Bx.tru (Ex.cmp (Cop.ne) (Ex.idx (Ex.var 5) (Ex.neg (Ex.const (PyData.int 1)))) (Ex.tup [Ex.tup [Ex.const (PyData.str { cps := #[119, 97, 105, 116] })]]))))
              (Sx.assign (Tx.sub (Ex.var 3) (Ex.var 4)) (Ex.bin (Bop.add) (Ex.slice (Ex.var 5) none (some (Ex.neg (Ex.const (PyData.int 1))))) (Ex.tup [Ex.slice (Ex.idx (Ex.var 5) (Ex.neg (Ex.const (PyData.int 1)))) (some (Ex.const (PyData.int 1))) none])))
              (Sx.ite
                (Bx.tru (Ex.cmp (Cop.eq) (Ex.idx (Ex.var 5) (Ex.const (PyData.int 0))) (Ex.const (PyData.str { cps := #[104, 97, 110, 100] }))))
                (Sx.assign
                  (Tx.sub (Ex.var 3) (Ex.var 4))
                  (Ex.bin
                    (Bop.add)
                    (Ex.slice (Ex.var 5) none (some (Ex.const (PyData.int 3))))
                    (Ex.tup [Ex.idx (Ex.idx (Ex.idx (Ex.var 0) (Ex.const (PyData.int 0))) (Ex.bin (Bop.mod) (Ex.idx (Ex.var 2) (Ex.const (PyData.int 2))) (Ex.bf (Bf.len) [Ex.idx (Ex.var 0) (Ex.const (PyData.int 0))]))) (Ex.const (PyData.int 0)), Ex.idx (Ex.var 5) (Ex.const (PyData.int 4))])))
                (Sx.pass))))
          (Sx.ret (Ex.tup [Ex.idx (Ex.var 0) (Ex.const (PyData.int 0)), Ex.idx (Ex.var 0) (Ex.const (PyData.int 1)), Ex.bf (Bf.tuple) [Ex.var 3]]))))))
section
variable {C : Cf} {i dg n : Nat} {T : Tb}
theorem bent_eqn (hg : C.ds dg = ⟨3, 7, digB⟩) (hd : C.ds i = ⟨2, 6, bentB dg⟩) (hdi : dg < i) (hn : i < n) (hT : GT T) (hr : T.rs ≠ []) (c : Int) :
    ∃ T', GT T' ∧ ∀ s, callM .frz (C.Φ n i) [.d (encT T), .d (.int c)] s = .ok (.d (encT T')) s := by
  have key : Ok (C.Φ n i [.d (encT T), .d (.int c)] []) fun w t => ∃ y, frzW t w = some y ∧ ∃ T', GT T' ∧ y = encT T' := by
    refine phi_ok hn hd rfl ?_
    obtain ⟨ds, ⟨hl, hb⟩, e⟩ := dig_gen hg hdi c 64 3 (by decide) (by decide +kernel) (by decide)
    obtain ⟨d0, d1, d2, rfl⟩ : ∃ d0 d1 d2, ds = [d0, d1, d2] := by
      match ds, hl with
      | [a, b, c], _ => exact ⟨a, b, c, rfl⟩
    have hp : 0 < T.rs.length := List.length_pos_iff.mpr hr
    have hq : 0 < T.hs.length := List.length_pos_iff.mpr hT.h1
    have m1 : 0 ≤ d0 % (T.rs.length : Nat) := Int.emod_nonneg _ (by omega)
    have m2 : d0 % (T.rs.length : Nat) < (T.rs.length : Nat) := Int.emod_lt_of_pos _ (by omega)
    obtain ⟨j, ej⟩ : ∃ j : Nat, d0 % (T.rs.length : Nat) = (j : Nat) := ⟨_, (Int.toNat_of_nonneg m1).symm⟩
    have hjl : j < T.rs.length := by omega
    have k1 : 0 ≤ d2 % (T.hs.length : Nat) := Int.emod_nonneg _ (by omega)
    have k2 : d2 % (T.hs.length : Nat) < (T.hs.length : Nat) := Int.emod_lt_of_pos _ (by omega)
    obtain ⟨m, em⟩ : ∃ m : Nat, d2 % (T.hs.length : Nat) = (m : Nat) := ⟨_, (Int.toNat_of_nonneg k1).symm⟩
    have hml : m < T.hs.length := by omega
    have aj : L2.atI T.rs (j : Nat) = some T.rs[j] := atI_nat (List.getElem?_eq_getElem hjl)
    have am : L2.atI T.hs (m : Nat) = some T.hs[m] := atI_nat (List.getElem?_eq_getElem hml)
    have gr : GR T.rs[j] := hT.rs _ (List.getElem_mem hjl)
    have hm := hT.hs _ (List.getElem_mem hml)
    have jx : L2.ixN (T.rs.map encR).length (j : Nat) = some j := ixN_at (by simpa using hjl)
    generalize T.rs[j] = r at *
    generalize T.hs[m] = p at *
    have ln := hT.ln
    have e0 : ∀ s, idxW s (.d (encT T)) (.d (.int 0)) = some (.d (.tuple (T.hs.map encP))) := fun s => rfl
    have e1 : ∀ s, idxW s (.d (encT T)) (.d (.int 1)) = some (.d (.tuple (T.ho.map .str))) := fun s => rfl
    have e2 : ∀ s, idxW s (.d (encT T)) (.d (.int 2)) = some (.d (.tuple (T.rs.map encR))) := fun s => rfl
    have el : ∀ xs : List PyData, bfD [Cell.lst xs] .len [W.ref 0] = some (.int (xs.length : Nat)) := fun xs => rfl
    have et : ∀ xs : List PyData, bfD [Cell.lst xs] .tuple [W.ref 0] = some (.tuple xs) := fun xs => rfl
    have et1 : ∀ (xs : List PyData) c, bfD [c, Cell.lst xs] .tuple [W.ref 1] = some (.tuple xs) := fun xs c => rfl
    have eb : ∀ (xs : List PyData) s, bfD s .list [W.d (.tuple xs)] = some (.list xs) := fun xs s => rfl
    have ei : ∀ (xs : List PyData) (i : Int), idxW [Cell.lst xs] (.ref 0) (.d (.int i)) = (L2.atI xs i).map .d := fun xs i => idx_cell rfl
    have ex : ∀ x : PyData, setIx (.ref 0) (.d (.int (j : Nat))) (.d x) [Cell.lst (T.rs.map encR)] = .ok () [Cell.lst ((T.rs.map encR).set j x)] := fun x => set_cell rfl jx
    have i0 : ∀ s, idxW s (.d (encR r)) (.d (.int 0)) = some (.d (.str r.a)) := fun s => row0
    have iZ : ∀ s, idxW s (.d (encR r)) (.d (.int (-1))) = some (.d (encAs r.acts)) := fun s => rowZ
    have ew : ∀ s, cmpW .ne s (.d (encAs r.acts)) (.d (.tuple [.tuple [.str w_wait]])) = some (!waitB r.acts) := fun s => by
      show (eqD _ _).map (!·) = _
      rw [gr.eq_wait]
      rfl
    have c1 : cutD (encR r) none (some (-1)) = some (.tuple (cutX r.l none (some (-1)))) := rfl
    have c3 : cutD (encR r) none (some 3) = some (.tuple (cutX r.l none (some 3))) := rfl
    have c4 : cutD (encAs r.acts) (some 1) none = some (encAs (r.acts.drop 1)) := by
      show some (PyData.tuple (cutX (r.acts.map encA) (some 1) none)) = _
      rw [cutX_map]
      exact congrArg (fun x => some (PyData.tuple (x.map encA))) (cutX_suf r.acts 1)
    have rl : r.l.length ≤ 6 := by unfold Rw.l; cases r.t <;> simp
    have tp : ∀ xs : List PyData, Cc.top [Cell.lst xs] (.ref 0) = some (.list xs) := fun xs => rfl
    have hw : { cps := #[119, 97, 105, 116] } = w_wait := rfl
    have hh : { cps := #[104, 97, 110, 100] } = w_hand := rfl
    have l3 : Nat.log2 3 < 9000 := by decide
    have stays : ∀ {rs : List Rw}, (∀ x ∈ rs, GR x) → rs.length ≤ 1000 → GT ⟨T.hs, T.ho, rs⟩ := fun h l => ⟨h, hT.h1, hT.h2, hT.hs, hT.ho, l⟩
    have setG : ∀ {q : Rw}, GR q → ∀ x ∈ T.rs.set j q, GR x := fun hq x hx => by
      rcases List.mem_or_eq_of_mem_set hx with h | h
      · exact hT.rs x h
      · subst h; exact hq
    have e' : ∀ s, callM .frz (C.Φ i dg) [.d (.int c), .d (.int 64), .d (.int 3)] s = .ok (.d (.list [.int d0, .int d1, .int d2])) s := e
    unfold bentB
    by_cases h0 : d1 % 3 = 0
    · have ca : cutX T.rs (some ((j : Int) + 1)) none = T.rs.drop (j + 1) := cutX_suf T.rs (j + 1)
      have cb : cutX T.rs none (some (j : Int)) = T.rs.take j := cutX_pre T.rs j
      have sz : min j T.rs.length + (T.rs.length - (j + 1)) ≤ 16777216 := by omega
      simp [startE, Ok_bind, e', e0, e1, e2, eb, toCell, el, hp, ej, ei, aj, l3, h0, cutD, ca, cb, sizeLine, sz, et1, mkTupW, mkTup, tp]
      exact ⟨_, stays (rs := T.rs.take j ++ T.rs.drop (j + 1)) (fun x hx => by
        rcases List.mem_append.mp hx with h | h
        · exact hT.rs x (List.mem_of_mem_take h)
        · exact hT.rs x (List.mem_of_mem_drop h)) (by simp; omega), by simp [encT]⟩
    · by_cases h1 : d1 % 3 = 1 ∧ waitB r.acts = false
      · obtain ⟨h1, h2⟩ := h1
        have cl : (cutX r.l none (some (-1))).length ≤ 16777215 := Nat.le_trans (cutX_len _ _ _) (by omega)
        have ex' := ex (encR { r with acts := r.acts.tail })
        have cr : cutX r.l none (some (-1)) ++ [encAs r.acts.tail] = Rw.l { r with acts := r.acts.tail } := by
          have := cut_row r
          rwa [List.drop_one] at this
        have gc := gr.cut
        rw [List.drop_one] at gc
        simp [startE, Ok_bind, e', e0, e1, e2, eb, toCell, el, hp, ej, ei, aj, l3, h0, h1, h2, ew, iZ, c1, c4, mkTupW, mkTup, sizeLine, cl, cr]
        rw [show PyData.tuple (Rw.l { r with acts := r.acts.tail }) = encR { r with acts := r.acts.tail } from rfl]
        simp [ex', et]
        exact ⟨_, stays (rs := T.rs.set j { r with acts := r.acts.tail }) (setG gc) (by simpa using ln), by simp [encT]⟩
      · have h1' : d1 % 3 = 1 → waitB r.acts = true := fun q => by
          cases z : waitB r.acts with
          | true => rfl
          | false => exact absurd ⟨q, z⟩ h1
        by_cases h2 : r.a = w_hand
        · have hk := gr.k
          rw [if_pos h2] at hk
          have ex' := ex (encR { r with e := p.1 })
          have cl : (cutX r.l none (some 3)).length ≤ 16777214 := Nat.le_trans (cutX_len _ _ _) (by omega)
          have i4 : ∀ s, idxW s (.d (encR r)) (.d (.int 4)) = some (.d (encAs r.acts)) := fun s => by
            obtain ⟨a, b, c, e, t, acts⟩ := r
            cases hk.1
            rfl
          have p0 : ∀ s, idxW s (.d (encP p)) (.d (.int 0)) = some (.d (.str p.1)) := fun s => rfl
          have cr := to_row hk.1 p.1
          by_cases h3 : d1 % 3 = 1
          all_goals
            try have h4 := h1' h3
            simp [startE, Ok_bind, e', e0, e1, e2, eb, toCell, el, hp, ej, ei, aj, l3, h0, h3, h2, ew, iZ, i0, c3, mkTupW, mkTup, sizeLine, hq, em, am, p0, i4, cl, cr, *]
            refine ⟨_, stays (rs := T.rs.set j { r with e := p.1 }) (setG (gr.to hm)) (by simpa using ln), ?_⟩
            simp [encT, encR, h2, hk.1]
        · by_cases h3 : d1 % 3 = 1
          all_goals
            try have h4 := h1' h3
            simp [startE, Ok_bind, e', e0, e1, e2, eb, toCell, el, hp, ej, ei, aj, l3, h0, h3, h2, ew, iZ, i0, c3, mkTupW, mkTup, sizeLine, et, *]
            exact ⟨T, hT, rfl⟩
  obtain ⟨y, ⟨T', h, rfl⟩, e⟩ := callf_ex (xs := [encT T, .int c]) (by simp) key
  exact ⟨T', h, e⟩
end
end Cg

set_option linter.all false
set_option maxRecDepth 100000
/-! printed by gen.py: the defs of the text by places, names, classes, notes -/
namespace K23
open PySem L2 Cc
def top (i : Nat) : Stmt := PySem.Challenge.pw_copyclerk_k23_runs_played.main.body.getD i (.Pass ⟨0, 0, 0, 0⟩)
abbrev st0 : Stmt := top 1
def n0 : List Str := ["table", "state", "name", "right"]
def p0 : List Str := ["table", "state"]
abbrev st1 : Stmt := top 2
def n1 : List Str := ["table", "state", "event", "row"]
def p1 : List Str := ["table", "state", "event"]
abbrev st2 : Stmt := top 3
def n2 : List Str := ["table", "state", "kind", "last", "fitting", "row"]
def p2 : List Str := ["table", "state", "kind", "last"]
abbrev st3 : Stmt := top 7
def n3 : List Str := ["table", "many", "line", "k"]
def p3 : List Str := ["table", "many"]
abbrev st4 : Stmt := top 8
def n4 : List Str := ["one", "other"]
def p4 : List Str := ["one", "other"]
abbrev st5 : Stmt := top 9
def n5 : List Str := ["table", "standing", "rights", "k", "line", "other"]
def p5 : List Str := ["table", "standing"]
abbrev st6 : Stmt := top 10
def n6 : List Str := ["standing", "order", "lines", "k"]
def p6 : List Str := ["standing", "order"]
abbrev st7 : Stmt := inClass (top 14) 0
def n7 : List Str := ["self", "standing", "lines", "line"]
def p7 : List Str := ["self", "standing"]
abbrev st8 : Stmt := inClass (top 14) 1
def n8 : List Str := ["self", "line"]
def p8 : List Str := ["self"]
abbrev st9 : Stmt := inClass (top 14) 2
def n9 : List Str := ["self", "hand", "way", "kind", "value", "letters"]
def p9 : List Str := ["self", "hand", "way", "kind", "value"]
abbrev st10 : Stmt := inClass (top 14) 3
def n10 : List Str := ["self", "hand", "way", "k", "letters"]
def p10 : List Str := ["self", "hand", "way", "k"]
abbrev st11 : Stmt := inClass (top 14) 5
def n11 : List Str := ["self", "hand", "value"]
def p11 : List Str := ["self", "hand", "value"]
abbrev st12 : Stmt := inClass (top 14) 6
def n12 : List Str := ["self", "load", "value"]
def p12 : List Str := ["self", "load", "value"]
abbrev st13 : Stmt := inClass (top 14) 4
def n13 : List Str := ["self", "hand", "act", "value", "line"]
def p13 : List Str := ["self", "hand", "act", "value"]
abbrev st14 : Stmt := inClass (top 14) 8
def n14 : List Str := ["self", "hand", "word", "k"]
def p14 : List Str := ["self", "hand", "word"]
abbrev st15 : Stmt := inClass (top 14) 7
def n15 : List Str := ["self", "hand", "act", "value", "one", "line"]
def p15 : List Str := ["self", "hand", "act", "value"]
abbrev st16 : Stmt := inClass (top 16) 0
def n16 : List Str := ["self", "hand"]
def p16 : List Str := ["self", "hand"]
abbrev st17 : Stmt := inClass (top 16) 1
def n17 : List Str := ["self", "table", "standing"]
def p17 : List Str := ["self", "table", "standing"]
abbrev st18 : Stmt := inClass (top 16) 2
def n18 : List Str := ["self", "standing"]
def p18 : List Str := ["self", "standing"]
abbrev st19 : Stmt := inClass (top 16) 3
def n19 : List Str := ["self", "hall", "acts"]
def p19 : List Str := ["self", "hall", "acts"]
abbrev st20 : Stmt := inClass (top 17) 0
def n20 : List Str := ["self", "hand", "word", "number"]
def p20 : List Str := ["self", "hand", "word", "number"]
abbrev st21 : Stmt := inClass (top 17) 1
def n21 : List Str := ["self", "table", "standing"]
def p21 : List Str := ["self", "table", "standing"]
abbrev st22 : Stmt := inClass (top 17) 2
def n22 : List Str := ["self", "standing"]
def p22 : List Str := ["self", "standing"]
abbrev st23 : Stmt := inClass (top 17) 3
def n23 : List Str := ["self", "hall", "acts", "act"]
def p23 : List Str := ["self", "hall", "acts"]
abbrev st24 : Stmt := inClass (top 18) 0
def n24 : List Str := ["self", "hand", "k"]
def p24 : List Str := ["self", "hand", "k"]
abbrev st25 : Stmt := inClass (top 18) 1
def n25 : List Str := ["self", "standing"]
def p25 : List Str := ["self", "standing"]
abbrev st26 : Stmt := inClass (top 18) 2
def n26 : List Str := ["self", "table", "standing", "line"]
def p26 : List Str := ["self", "table", "standing"]
abbrev st27 : Stmt := inClass (top 18) 3
def n27 : List Str := ["self", "hall", "acts", "act", "kind", "value"]
def p27 : List Str := ["self", "hall", "acts"]
abbrev st28 : Stmt := inClass (top 19) 0
def n28 : List Str := ["self", "hand", "k"]
def p28 : List Str := ["self", "hand", "k"]
abbrev st29 : Stmt := inClass (top 19) 1
def n29 : List Str := ["self", "standing"]
def p29 : List Str := ["self", "standing"]
abbrev st30 : Stmt := inClass (top 19) 2
def n30 : List Str := ["self", "standing", "lines", "k"]
def p30 : List Str := ["self", "standing"]
abbrev st31 : Stmt := inClass (top 19) 3
def n31 : List Str := ["self", "table", "standing", "kind"]
def p31 : List Str := ["self", "table", "standing"]
abbrev st32 : Stmt := inClass (top 19) 4
def n32 : List Str := ["self", "hall", "acts", "act", "kind", "value"]
def p32 : List Str := ["self", "hall", "acts"]
abbrev st33 : Stmt := top 20
def n33 : List Str := ["deed"]
def p33 : List Str := ["deed"]
abbrev st34 : Stmt := top 26
def n34 : List Str := ["way", "order"]
def p34 : List Str := ["way", "order"]
abbrev st35 : Stmt := top 27
def n35 : List Str := ["table", "standing", "hand", "k", "deed", "row"]
def p35 : List Str := ["table", "standing", "hand", "k"]
abbrev st36 : Stmt := top 28
def n36 : List Str := ["table", "state", "hand", "found"]
def p36 : List Str := ["table", "state", "hand"]
abbrev st37 : Stmt := top 29
def n37 : List Str := ["table", "standing", "order", "found", "hand", "line", "k"]
def p37 : List Str := ["table", "standing", "order"]
abbrev st38 : Stmt := top 30
def n38 : List Str := ["table", "standing", "deed", "doing", "row", "hall", "behind"]
def p38 : List Str := ["table", "standing", "deed"]
abbrev st39 : Stmt := top 31
def n39 : List Str := ["table", "many", "deeds", "standing", "answers", "deed", "answer", "fault"]
def p39 : List Str := ["table", "many", "deeds"]
abbrev st40 : Stmt := top 33
def n40 : List Str := ["_law_script", "_law_k"]
def p40 : List Str := ["_law_script", "_law_k"]
abbrev st41 : Stmt := top 34
def n41 : List Str := ["_law_cell", "_law_size", "_law_many", "_law_found", "_law_mix", "_law_rest", "_law_k"]
def p41 : List Str := ["_law_cell", "_law_size", "_law_many"]
abbrev st42 : Stmt := top 35
def n42 : List Str := ["_law_hands", "_law_rows"]
def p42 : List Str := []
abbrev st43 : Stmt := top 36
def n43 : List Str := ["_law_hands", "_law_rows"]
def p43 : List Str := []
abbrev st44 : Stmt := top 37
def n44 : List Str := ["_law_table_here", "_law_cell", "_law_ds", "_law_rows", "_law_at", "_law_row"]
def p44 : List Str := ["_law_table_here", "_law_cell"]
abbrev st45 : Stmt := top 38
def n45 : List Str := ["_law_cell", "_law_ds", "_law_rights", "_law_hands", "_law_letters", "_law_asks", "_law_house", "_law_rows", "_law_k", "_law_d", "_law_event", "_law_acts", "_law_when", "_law_state"]
def p45 : List Str := ["_law_cell"]
abbrev st46 : Stmt := top 39
def n46 : List Str := ["_law_cell", "_law_table_here"]
def p46 : List Str := ["_law_cell"]
abbrev st47 : Stmt := top 40
def n47 : List Str := ["_law_cells", "_law_table_here", "_law_many", "_law_order_here", "_law_standing", "_law_answers", "_law_deeds", "_law_cell", "_law_some", "_law_deed", "_law_answer", "_law_fault"]
def p47 : List Str := ["_law_cells", "_law_table_here", "_law_many", "_law_order_here"]
abbrev st48 : Stmt := top 41
def n48 : List Str := ["_law_table_here", "_law_many", "_law_deeds", "_law_found"]
def p48 : List Str := ["_law_table_here", "_law_many", "_law_deeds"]
abbrev st49 : Stmt := top 42
def n49 : List Str := ["_law_cell", "_law_many", "_law_left", "_law_order_here"]
def p49 : List Str := ["_law_cell", "_law_many"]
abbrev st50 : Stmt := top 43
def n50 : List Str := ["_law_script", "_law_table_here", "_law_many", "_law_order_here", "_law_by_turn", "_law_handed", "_law_found", "_law_due", "_law_at", "_law_bad", "_law_turned", "_law_others", "_law_deeds", "_law_standing", "_law_answers", "_law_fault", "_law_deed", "_law_word", "_law_hand", "_law_number"]
def p50 : List Str := ["_law_script"]
def gl : List (Str × GI) := [(("Ask" : Str), .cls 2 3 []),
  (("BACK" : Str), .con (.int 4)),
  (("Deed" : Str), .cls 1 1 []),
  (("Get" : Str), .cls 4 2 []),
  (("Hall" : Str), .cls 0 1 []),
  (("NoDeed" : Str), .pex 6),
  (("OWNS" : Str), .con (.int 2)),
  (("SHARES" : Str), .con (.int 1)),
  (("TO" : Str), .con (.int 3)),
  (("Take" : Str), .cls 3 2 []),
  (("WAIT" : Str), .con (.tuple [.tuple [.str ⟨#[119, 97, 105, 116]⟩]])),
  (("_law_bent" : Str), .fn 44 2 []),
  (("_law_cell_at" : Str), .fn 40 2 []),
  (("_law_digits" : Str), .fn 41 3 []),
  (("_law_free" : Str), .fn 45 1 []),
  (("_law_one_copy" : Str), .fn 42 0 []),
  (("_law_order" : Str), .fn 49 2 []),
  (("_law_readers" : Str), .fn 43 0 []),
  (("_law_refused" : Str), .fn 48 3 []),
  (("_law_run" : Str), .fn 47 4 []),
  (("_law_table" : Str), .fn 46 1 []),
  (("any" : Str), .blt),
  (("asks_of" : Str), .fn 36 3 []),
  (("clash" : Str), .fn 5 2 []),
  (("deed_of" : Str), .fn 33 1 []),
  (("excludes" : Str), .fn 4 2 []),
  (("hand_row" : Str), .fn 1 3 []),
  (("house_row" : Str), .fn 2 4 []),
  (("int" : Str), .blt),
  (("isinstance" : Str), .blt),
  (("law" : Str), .fn 50 1 []),
  (("len" : Str), .blt),
  (("list" : Str), .blt),
  (("may" : Str), .fn 37 3 [.bool true]),
  (("may_come" : Str), .fn 35 4 []),
  (("min" : Str), .blt),
  (("places" : Str), .fn 34 2 []),
  (("play" : Str), .fn 39 3 []),
  (("range" : Str), .blt),
  (("renamed" : Str), .fn 6 2 []),
  (("right_of" : Str), .fn 0 2 []),
  (("start" : Str), .fn 3 2 []),
  (("step" : Str), .fn 38 3 []),
  (("tuple" : Str), .blt),
  (("Deed.__init__" : Str), .bas 1 ("__init__" : Str) 16 2 [])]
def annL : List (Pos × Nat) := [(⟨62, 15, 62, 31⟩, 1), (⟨209, 12, 209, 14⟩, 1), (⟨218, 12, 218, 14⟩, 1), (⟨254, 14, 254, 16⟩, 1), (⟨268, 17, 268, 19⟩, 1), (⟨278, 16, 278, 79⟩, 1), (⟨290, 16, 290, 78⟩, 1), (⟨298, 16, 298, 40⟩, 1), (⟨302, 20, 302, 65⟩, 1), (⟨316, 17, 316, 121⟩, 1), (⟨317, 17, 317, 107⟩, 1), (⟨319, 16, 319, 18⟩, 1), (⟨341, 19, 341, 21⟩, 1), (⟨342, 17, 342, 19⟩, 1), (⟨365, 16, 365, 38⟩, 1), (⟨366, 22, 366, 24⟩, 1), (⟨42, 22, 42, 32⟩, 1), (⟨42, 21, 42, 51⟩, 1), (⟨205, 11, 205, 36⟩, 2), (⟨230, 12, 230, 25⟩, 2)]
def ann (p : Pos) : Nat := (annL.lookup p).getD 0
def ml : List ((Nat × Str) × Nat) := [((0, ("standing" : Str)), 8), ((0, ("post" : Str)), 9), ((0, ("taken_off" : Str)), 10), ((0, ("hand_act" : Str)), 13), ((0, ("tell" : Str)), 11), ((0, ("load" : Str)), 12), ((0, ("house_act" : Str)), 15), ((0, ("meant" : Str)), 14), ((1, ("row" : Str)), 17), ((1, ("is_there" : Str)), 18), ((1, ("done" : Str)), 19), ((2, ("row" : Str)), 21), ((2, ("is_there" : Str)), 22), ((2, ("done" : Str)), 23), ((3, ("is_there" : Str)), 25), ((3, ("row" : Str)), 26), ((3, ("done" : Str)), 27), ((4, ("is_there" : Str)), 29), ((4, ("is_last" : Str)), 30), ((4, ("row" : Str)), 31), ((4, ("done" : Str)), 32)]
def cil : List (Nat × Nat) := [(0, 7), (1, 16), (2, 20), (3, 24), (4, 28)]
def fol : List (Nat × Str) := [(0, ("lines" : Str)), (0, ("answer" : Str)), (0, ("broken" : Str)), (0, ("house" : Str)), (0, ("store" : Str)), (0, ("last" : Str)), (1, ("hand" : Str)), (2, ("word" : Str)), (2, ("number" : Str)), (2, ("hand" : Str)), (3, ("k" : Str)), (3, ("hand" : Str)), (4, ("k" : Str)), (4, ("hand" : Str))]
def cn : List Str := [("Hall" : Str), ("Deed" : Str), ("Ask" : Str), ("Take" : Str), ("Get" : Str), ("CopyError" : Str), ("NoDeed" : Str)]
def pl : List (Str × Option Str) := [(("right_of" : Str), none), (("hand_row" : Str), none), (("house_row" : Str), none), (("start" : Str), none), (("excludes" : Str), none), (("clash" : Str), none), (("renamed" : Str), none), (("Hall" : Str), some ("__init__" : Str)), (("Hall" : Str), some ("standing" : Str)), (("Hall" : Str), some ("post" : Str)), (("Hall" : Str), some ("taken_off" : Str)), (("Hall" : Str), some ("tell" : Str)), (("Hall" : Str), some ("load" : Str)), (("Hall" : Str), some ("hand_act" : Str)), (("Hall" : Str), some ("meant" : Str)), (("Hall" : Str), some ("house_act" : Str)), (("Deed" : Str), some ("__init__" : Str)), (("Deed" : Str), some ("row" : Str)), (("Deed" : Str), some ("is_there" : Str)), (("Deed" : Str), some ("done" : Str)), (("Ask" : Str), some ("__init__" : Str)), (("Ask" : Str), some ("row" : Str)), (("Ask" : Str), some ("is_there" : Str)), (("Ask" : Str), some ("done" : Str)), (("Take" : Str), some ("__init__" : Str)), (("Take" : Str), some ("is_there" : Str)), (("Take" : Str), some ("row" : Str)), (("Take" : Str), some ("done" : Str)), (("Get" : Str), some ("__init__" : Str)), (("Get" : Str), some ("is_there" : Str)), (("Get" : Str), some ("is_last" : Str)), (("Get" : Str), some ("row" : Str)), (("Get" : Str), some ("done" : Str)), (("deed_of" : Str), none), (("places" : Str), none), (("may_come" : Str), none), (("asks_of" : Str), none), (("may" : Str), none), (("step" : Str), none), (("play" : Str), none), (("_law_cell_at" : Str), none), (("_law_digits" : Str), none), (("_law_one_copy" : Str), none), (("_law_readers" : Str), none), (("_law_bent" : Str), none), (("_law_free" : Str), none), (("_law_table" : Str), none), (("_law_run" : Str), none), (("_law_refused" : Str), none), (("_law_order" : Str), none), (("law" : Str), none)]
def d0 : DefS := ⟨n0, p0, ("right_of" : Str), ("right_of" : Str), defArgs st0, defBody st0, defScope st0, [], ann, 100000⟩
def d1 : DefS := ⟨n1, p1, ("hand_row" : Str), ("hand_row" : Str), defArgs st1, defBody st1, defScope st1, [], ann, 100000⟩
def d2 : DefS := ⟨n2, p2, ("house_row" : Str), ("house_row" : Str), defArgs st2, defBody st2, defScope st2, [], ann, 100000⟩
def d3 : DefS := ⟨n3, p3, ("start" : Str), ("start" : Str), defArgs st3, defBody st3, defScope st3, [], ann, 100000⟩
def d4 : DefS := ⟨n4, p4, ("excludes" : Str), ("excludes" : Str), defArgs st4, defBody st4, defScope st4, [], ann, 100000⟩
def d5 : DefS := ⟨n5, p5, ("clash" : Str), ("clash" : Str), defArgs st5, defBody st5, defScope st5, [], ann, 100000⟩
def d6 : DefS := ⟨n6, p6, ("renamed" : Str), ("renamed" : Str), defArgs st6, defBody st6, defScope st6, [], ann, 100000⟩
def d7 : DefS := ⟨n7, p7, ("__init__" : Str), ("Hall.__init__" : Str), defArgs st7, defBody st7, defScope st7, [], ann, 100000⟩
def d8 : DefS := ⟨n8, p8, ("standing" : Str), ("Hall.standing" : Str), defArgs st8, defBody st8, defScope st8, [], ann, 100000⟩
def d9 : DefS := ⟨n9, p9, ("post" : Str), ("Hall.post" : Str), defArgs st9, defBody st9, defScope st9, [], ann, 100000⟩
def d10 : DefS := ⟨n10, p10, ("taken_off" : Str), ("Hall.taken_off" : Str), defArgs st10, defBody st10, defScope st10, [], ann, 100000⟩
def d11 : DefS := ⟨n11, p11, ("tell" : Str), ("Hall.tell" : Str), defArgs st11, defBody st11, defScope st11, [], ann, 100000⟩
def d12 : DefS := ⟨n12, p12, ("load" : Str), ("Hall.load" : Str), defArgs st12, defBody st12, defScope st12, [], ann, 100000⟩
def d13 : DefS := ⟨n13, p13, ("hand_act" : Str), ("Hall.hand_act" : Str), defArgs st13, defBody st13, defScope st13, [], ann, 100000⟩
def d14 : DefS := ⟨n14, p14, ("meant" : Str), ("Hall.meant" : Str), defArgs st14, defBody st14, defScope st14, [], ann, 100000⟩
def d15 : DefS := ⟨n15, p15, ("house_act" : Str), ("Hall.house_act" : Str), defArgs st15, defBody st15, defScope st15, [], ann, 100000⟩
def d16 : DefS := ⟨n16, p16, ("__init__" : Str), ("Deed.__init__" : Str), defArgs st16, defBody st16, defScope st16, [], ann, 100000⟩
def d17 : DefS := ⟨n17, p17, ("row" : Str), ("Deed.row" : Str), defArgs st17, defBody st17, defScope st17, [], ann, 100000⟩
def d18 : DefS := ⟨n18, p18, ("is_there" : Str), ("Deed.is_there" : Str), defArgs st18, defBody st18, defScope st18, [], ann, 100000⟩
def d19 : DefS := ⟨n19, p19, ("done" : Str), ("Deed.done" : Str), defArgs st19, defBody st19, defScope st19, [], ann, 100000⟩
def d20 : DefS := ⟨n20, p20, ("__init__" : Str), ("Ask.__init__" : Str), defArgs st20, defBody st20, defScope st20, [], ann, 100000⟩
def d21 : DefS := ⟨n21, p21, ("row" : Str), ("Ask.row" : Str), defArgs st21, defBody st21, defScope st21, [], ann, 100000⟩
def d22 : DefS := ⟨n22, p22, ("is_there" : Str), ("Ask.is_there" : Str), defArgs st22, defBody st22, defScope st22, [], ann, 100000⟩
def d23 : DefS := ⟨n23, p23, ("done" : Str), ("Ask.done" : Str), defArgs st23, defBody st23, defScope st23, [], ann, 100000⟩
def d24 : DefS := ⟨n24, p24, ("__init__" : Str), ("Take.__init__" : Str), defArgs st24, defBody st24, defScope st24, [], ann, 100000⟩
def d25 : DefS := ⟨n25, p25, ("is_there" : Str), ("Take.is_there" : Str), defArgs st25, defBody st25, defScope st25, [], ann, 100000⟩
def d26 : DefS := ⟨n26, p26, ("row" : Str), ("Take.row" : Str), defArgs st26, defBody st26, defScope st26, [], ann, 100000⟩
def d27 : DefS := ⟨n27, p27, ("done" : Str), ("Take.done" : Str), defArgs st27, defBody st27, defScope st27, [], ann, 100000⟩
def d28 : DefS := ⟨n28, p28, ("__init__" : Str), ("Get.__init__" : Str), defArgs st28, defBody st28, defScope st28, [], ann, 100000⟩
def d29 : DefS := ⟨n29, p29, ("is_there" : Str), ("Get.is_there" : Str), defArgs st29, defBody st29, defScope st29, [], ann, 100000⟩
def d30 : DefS := ⟨n30, p30, ("is_last" : Str), ("Get.is_last" : Str), defArgs st30, defBody st30, defScope st30, [], ann, 100000⟩
def d31 : DefS := ⟨n31, p31, ("row" : Str), ("Get.row" : Str), defArgs st31, defBody st31, defScope st31, [], ann, 100000⟩
def d32 : DefS := ⟨n32, p32, ("done" : Str), ("Get.done" : Str), defArgs st32, defBody st32, defScope st32, [], ann, 100000⟩
def d33 : DefS := ⟨n33, p33, ("deed_of" : Str), ("deed_of" : Str), defArgs st33, defBody st33, defScope st33, [], ann, 100000⟩
def d34 : DefS := ⟨n34, p34, ("places" : Str), ("places" : Str), defArgs st34, defBody st34, defScope st34, [], ann, 100000⟩
def d35 : DefS := ⟨n35, p35, ("may_come" : Str), ("may_come" : Str), defArgs st35, defBody st35, defScope st35, [], ann, 100000⟩
def d36 : DefS := ⟨n36, p36, ("asks_of" : Str), ("asks_of" : Str), defArgs st36, defBody st36, defScope st36, [], ann, 100000⟩
def d37 : DefS := ⟨n37, p37, ("may" : Str), ("may" : Str), defArgs st37, defBody st37, defScope st37, [.bool true], ann, 100000⟩
def d38 : DefS := ⟨n38, p38, ("step" : Str), ("step" : Str), defArgs st38, defBody st38, defScope st38, [], ann, 100000⟩
def d39 : DefS := ⟨n39, p39, ("play" : Str), ("play" : Str), defArgs st39, defBody st39, defScope st39, [], ann, 100000⟩
def d40 : DefS := ⟨n40, p40, ("_law_cell_at" : Str), ("_law_cell_at" : Str), defArgs st40, defBody st40, defScope st40, [], ann, 100000⟩
def d41 : DefS := ⟨n41, p41, ("_law_digits" : Str), ("_law_digits" : Str), defArgs st41, defBody st41, defScope st41, [], ann, 100000⟩
def d42 : DefS := ⟨n42, p42, ("_law_one_copy" : Str), ("_law_one_copy" : Str), defArgs st42, defBody st42, defScope st42, [], ann, 100000⟩
def d43 : DefS := ⟨n43, p43, ("_law_readers" : Str), ("_law_readers" : Str), defArgs st43, defBody st43, defScope st43, [], ann, 100000⟩
def d44 : DefS := ⟨n44, p44, ("_law_bent" : Str), ("_law_bent" : Str), defArgs st44, defBody st44, defScope st44, [], ann, 100000⟩
def d45 : DefS := ⟨n45, p45, ("_law_free" : Str), ("_law_free" : Str), defArgs st45, defBody st45, defScope st45, [], ann, 100000⟩
def d46 : DefS := ⟨n46, p46, ("_law_table" : Str), ("_law_table" : Str), defArgs st46, defBody st46, defScope st46, [], ann, 100000⟩
def d47 : DefS := ⟨n47, p47, ("_law_run" : Str), ("_law_run" : Str), defArgs st47, defBody st47, defScope st47, [], ann, 100000⟩
def d48 : DefS := ⟨n48, p48, ("_law_refused" : Str), ("_law_refused" : Str), defArgs st48, defBody st48, defScope st48, [], ann, 100000⟩
def d49 : DefS := ⟨n49, p49, ("_law_order" : Str), ("_law_order" : Str), defArgs st49, defBody st49, defScope st49, [], ann, 100000⟩
def d50 : DefS := ⟨n50, p50, ("law" : Str), ("law" : Str), defArgs st50, defBody st50, defScope st50, [], ann, 100000⟩
def dl : List DefS := [d0, d1, d2, d3, d4, d5, d6, d7, d8, d9, d10, d11, d12, d13, d14, d15, d16, d17, d18, d19, d20, d21, d22, d23, d24, d25, d26, d27, d28, d29, d30, d31, d32, d33, d34, d35, d36, d37, d38, d39, d40, d41, d42, d43, d44, d45, d46, d47, d48, d49, d50]
def xl : List Nat := [6]
def xsl : List (Str × List (Nat × Bool)) := [(("NoDeed" : Str), [(6, true)])]
def C : Cf := ⟨dl, pl, gl, cn, ml, cil, fol, xl, xsl⟩
def defNames : List String := ["right_of", "hand_row", "house_row", "start", "excludes", "clash", "renamed", "Hall.__init__", "Hall.standing", "Hall.post", "Hall.taken_off", "Hall.tell", "Hall.load", "Hall.hand_act", "Hall.meant", "Hall.house_act", "Deed.__init__", "Deed.row", "Deed.is_there", "Deed.done", "Ask.__init__", "Ask.row", "Ask.is_there", "Ask.done", "Take.__init__", "Take.is_there", "Take.row", "Take.done", "Get.__init__", "Get.is_there", "Get.is_last", "Get.row", "Get.done", "deed_of", "places", "may_come", "asks_of", "may", "step", "play", "_law_cell_at", "_law_digits", "_law_one_copy", "_law_readers", "_law_bent", "_law_free", "_law_table", "_law_run", "_law_refused", "_law_order", "law"]
end K23

set_option linter.all false
set_option maxRecDepth 100000
namespace K23
open PySem Cc PyProof.Rows
def b0 : Sx := Sx.seq (Sx.for false [2, 3] false (Wk.seq) [Ex.idx (Ex.var 0) (Ex.const (PyData.int 0))] (Sx.ite (Bx.tru (Ex.cmp (Cop.eq) (Ex.var 2) (Ex.var 1))) (Sx.ret (Ex.var 3)) (Sx.pass))) (Sx.ret (Ex.const (PyData.str { cps := #[110, 111, 110, 101] })))
theorem ds0 : C.ds 0 = ⟨2, 4, b0⟩ := by kernel_rfl
def b1 : Sx := Sx.seq
  (Sx.for
    false
    [3]
    true
    (Wk.seq)
    [Ex.idx (Ex.var 0) (Ex.const (PyData.int 2))]
    (Sx.ite
      (Bx.and
        (Bx.tru (Ex.cmp (Cop.eq) (Ex.idx (Ex.var 3) (Ex.const (PyData.int 0))) (Ex.const (PyData.str { cps := #[104, 97, 110, 100] }))))
        (Bx.and (Bx.tru (Ex.cmp (Cop.eq) (Ex.idx (Ex.var 3) (Ex.const (PyData.int 1))) (Ex.var 1))) (Bx.tru (Ex.cmp (Cop.eq) (Ex.idx (Ex.var 3) (Ex.const (PyData.int 2))) (Ex.var 2)))))
      (Sx.ret (Ex.var 3))
      (Sx.pass)))
  (Sx.ret (Ex.const (PyData.none)))
theorem ds1 : C.ds 1 = ⟨3, 4, b1⟩ := by kernel_rfl
def b2 : Sx := Sx.seq
  (Sx.assign (Tx.name 4) (Ex.tup [Ex.const (PyData.str { cps := #[97, 110, 121] }), Ex.ite (Bx.tru (Ex.var 3)) (Ex.const (PyData.str { cps := #[108, 97, 115, 116] })) (Ex.const (PyData.str { cps := #[109, 111, 114, 101] }))]))
  (Sx.seq
    (Sx.for
      false
      [5]
      true
      (Wk.seq)
      [Ex.idx (Ex.var 0) (Ex.const (PyData.int 2))]
      (Sx.ite
        (Bx.and
          (Bx.tru (Ex.cmp (Cop.eq) (Ex.idx (Ex.var 5) (Ex.const (PyData.int 0))) (Ex.const (PyData.str { cps := #[104, 111, 117, 115, 101] }))))
          (Bx.and (Bx.tru (Ex.cmp (Cop.eq) (Ex.idx (Ex.var 5) (Ex.const (PyData.int 1))) (Ex.var 1))) (Bx.and (Bx.tru (Ex.cmp (Cop.eq) (Ex.idx (Ex.var 5) (Ex.const (PyData.int 2))) (Ex.var 2))) (Bx.tru (Ex.cmp (Cop.isin) (Ex.idx (Ex.var 5) (Ex.const (PyData.int 3))) (Ex.var 4))))))
        (Sx.ret (Ex.var 5))
        (Sx.pass)))
    (Sx.ret (Ex.const (PyData.none))))
theorem ds2 : C.ds 2 = ⟨4, 6, b2⟩ := by kernel_rfl
def b3 : Sx := Sx.seq
  (Sx.assign (Tx.name 2) (Ex.tup [Ex.idx (Ex.idx (Ex.idx (Ex.var 0) (Ex.const (PyData.int 0))) (Ex.const (PyData.int 0))) (Ex.const (PyData.int 0)), Ex.const (PyData.none), Ex.const (PyData.int 0), Ex.tup [], Ex.tup [], Ex.const (PyData.int 0)]))
  (Sx.ret
    (Ex.tup [Ex.idx (Ex.idx (Ex.var 0) (Ex.const (PyData.int 1))) (Ex.const (PyData.int 0)), Ex.tup [Ex.const (PyData.int 0), Ex.const (PyData.int 0)], Ex.tup [Ex.const (PyData.int 0), Ex.const (PyData.int 0)], Ex.bf (Bf.tuple) [Ex.comp [3] false false [3] true (Wk.rng1) [Ex.var 1] none (Ex.var 2)]]))
theorem ds3 : C.ds 3 = ⟨2, 4, b3⟩ := by kernel_rfl
def b4 : Sx := Sx.ret
  (Ex.or
    (Ex.and (Ex.cmp (Cop.eq) (Ex.var 0) (Ex.const (PyData.str { cps := #[119, 114, 105, 116, 101] }))) (Ex.cmp (Cop.ne) (Ex.var 1) (Ex.const (PyData.str { cps := #[110, 111, 110, 101] }))))
    (Ex.and (Ex.cmp (Cop.eq) (Ex.var 1) (Ex.const (PyData.str { cps := #[119, 114, 105, 116, 101] }))) (Ex.cmp (Cop.ne) (Ex.var 0) (Ex.const (PyData.str { cps := #[110, 111, 110, 101] })))))
theorem ds4 : C.ds 4 = ⟨2, 2, b4⟩ := by kernel_rfl
def b5 : Sx := Sx.seq
  (Sx.assign (Tx.name 2) (Ex.comp [4] false false [4] true (Wk.seq) [Ex.idx (Ex.var 1) (Ex.const (PyData.int 3))] none (Ex.call (Cm.frz) 0 [Ex.var 0, Ex.idx (Ex.var 4) (Ex.const (PyData.int 0))])))
  (Sx.seq
    (Sx.for false [3] true (Wk.rng1) [Ex.bf (Bf.len) [Ex.var 2]] (Sx.ite (Bx.tru (Ex.bf (Bf.any) [Ex.comp [5] false false [5] true (Wk.seq) [Ex.slice (Ex.var 2) none (some (Ex.var 3))] none (Ex.call (Cm.frz) 4 [Ex.idx (Ex.var 2) (Ex.var 3), Ex.var 5])])) (Sx.ret (Ex.const (PyData.bool true))) (Sx.pass)))
    (Sx.ret (Ex.const (PyData.bool false))))
theorem ds5 : C.ds 5 = ⟨2, 6, b5⟩ := by kernel_rfl
def b6 : Sx := Sx.seq (Sx.assign (Tx.name 2) (Ex.idx (Ex.var 0) (Ex.const (PyData.int 3)))) (Sx.ret (Ex.bin (Bop.add) (Ex.slice (Ex.var 0) none (some (Ex.const (PyData.int 3)))) (Ex.tup [Ex.bf (Bf.tuple) [Ex.comp [3] false false [3] true (Wk.seq) [Ex.var 1] none (Ex.idx (Ex.var 2) (Ex.var 3))]])))
theorem ds6 : C.ds 6 = ⟨2, 4, b6⟩ := by kernel_rfl
def b7 : Sx := Sx.seq
  (Sx.unpack [Tx.fld (Ex.var 0) { cps := #[104, 111, 117, 115, 101] }, Tx.fld (Ex.var 0) { cps := #[115, 116, 111, 114, 101] }, Tx.fld (Ex.var 0) { cps := #[108, 97, 115, 116] }, Tx.name 2] (Ex.var 1))
  (Sx.seq
    (Sx.assign (Tx.fld (Ex.var 0) { cps := #[108, 105, 110, 101, 115] }) (Ex.comp [3] true false [3] true (Wk.seq) [Ex.var 2] none (Ex.cell (Ex.bf (Bf.list) [Ex.var 3]))))
    (Sx.seq (Sx.assign (Tx.fld (Ex.var 0) { cps := #[97, 110, 115, 119, 101, 114] }) (Ex.const (PyData.none))) (Sx.assign (Tx.fld (Ex.var 0) { cps := #[98, 114, 111, 107, 101, 110] }) (Ex.const (PyData.none)))))
theorem ds7 : C.ds 7 = ⟨2, 4, b7⟩ := by kernel_rfl
def b8 : Sx := Sx.ret (Ex.tup [Ex.fld (Ex.var 0) { cps := #[104, 111, 117, 115, 101] }, Ex.fld (Ex.var 0) { cps := #[115, 116, 111, 114, 101] }, Ex.fld (Ex.var 0) { cps := #[108, 97, 115, 116] }, Ex.bf (Bf.tuple) [Ex.comp [1] false false [1] true (Wk.seq) [Ex.fld (Ex.var 0) { cps := #[108, 105, 110, 101, 115] }] none (Ex.bf (Bf.tuple) [Ex.var 1])]])
theorem ds8 : C.ds 8 = ⟨1, 2, b8⟩ := by kernel_rfl
def b9 : Sx := Sx.seq
  (Sx.assign (Tx.name 5) (Ex.idx (Ex.idx (Ex.fld (Ex.var 0) { cps := #[108, 105, 110, 101, 115] }) (Ex.var 1)) (Ex.var 2)))
  (Sx.ite
    (Bx.tru (Ex.cmp (Cop.eq) (Ex.bf (Bf.len) [Ex.var 5]) (Ex.const (PyData.int 2))))
    (Sx.assign (Tx.fld (Ex.var 0) { cps := #[98, 114, 111, 107, 101, 110] }) (Ex.tup [Ex.const (PyData.str { cps := #[102, 117, 108, 108] })]))
    (Sx.assign (Tx.sub (Ex.idx (Ex.fld (Ex.var 0) { cps := #[108, 105, 110, 101, 115] }) (Ex.var 1)) (Ex.var 2)) (Ex.bin (Bop.add) (Ex.var 5) (Ex.tup [Ex.tup [Ex.var 3, Ex.var 4]]))))
theorem ds9 : C.ds 9 = ⟨5, 6, b9⟩ := by kernel_rfl
def b10 : Sx := Sx.seq
  (Sx.assign (Tx.name 4) (Ex.idx (Ex.idx (Ex.fld (Ex.var 0) { cps := #[108, 105, 110, 101, 115] }) (Ex.var 1)) (Ex.var 2)))
  (Sx.seq (Sx.assign (Tx.sub (Ex.idx (Ex.fld (Ex.var 0) { cps := #[108, 105, 110, 101, 115] }) (Ex.var 1)) (Ex.var 2)) (Ex.bin (Bop.add) (Ex.slice (Ex.var 4) none (some (Ex.var 3))) (Ex.slice (Ex.var 4) (some (Ex.bin (Bop.add) (Ex.var 3) (Ex.const (PyData.int 1)))) none))) (Sx.ret (Ex.idx (Ex.var 4) (Ex.var 3))))
theorem ds10 : C.ds 10 = ⟨4, 5, b10⟩ := by kernel_rfl
def b11 : Sx := Sx.ite
  (Bx.or (Bx.tru (Ex.cmp (Cop.is_) (Ex.var 2) (Ex.const (PyData.none)))) (Bx.tru (Ex.cmp (Cop.ne) (Ex.idx (Ex.var 2) (Ex.const (PyData.int 0))) (Ex.idx (Ex.fld (Ex.var 0) { cps := #[108, 97, 115, 116] }) (Ex.const (PyData.int 0))))))
  (Sx.assign (Tx.fld (Ex.var 0) { cps := #[98, 114, 111, 107, 101, 110] }) (Ex.tup [Ex.const (PyData.str { cps := #[111, 108, 100] })]))
  (Sx.assign (Tx.fld (Ex.var 0) { cps := #[97, 110, 115, 119, 101, 114] }) (Ex.tup [Ex.const (PyData.str { cps := #[114, 101, 97, 100] }), Ex.var 1, Ex.idx (Ex.var 2) (Ex.const (PyData.int 1))]))
theorem ds11 : C.ds 11 = ⟨3, 3, b11⟩ := by kernel_rfl
def b12 : Sx := Sx.seq (Sx.ite (Bx.tru (Ex.cmp (Cop.eq) (Ex.var 1) (Ex.const (PyData.str { cps := #[118, 97, 108, 117, 101] })))) (Sx.ret (Ex.var 2)) (Sx.pass)) (Sx.ret (Ex.const (PyData.none)))
theorem ds12 : C.ds 12 = ⟨3, 3, b12⟩ := by kernel_rfl
def b13 : Sx := Sx.seq
  (Sx.assign (Tx.name 4) (Ex.idx (Ex.fld (Ex.var 0) { cps := #[108, 105, 110, 101, 115] }) (Ex.var 1)))
  (Sx.ite
    (Bx.tru (Ex.cmp (Cop.eq) (Ex.idx (Ex.var 2) (Ex.const (PyData.int 0))) (Ex.const (PyData.str { cps := #[107, 101, 101, 112] }))))
    (Sx.assign (Tx.sub (Ex.var 4) (Ex.const (PyData.int 1))) (Ex.var 3))
    (Sx.ite
      (Bx.tru (Ex.cmp (Cop.eq) (Ex.idx (Ex.var 2) (Ex.const (PyData.int 0))) (Ex.const (PyData.str { cps := #[108, 111, 115, 101] }))))
      (Sx.assign (Tx.sub (Ex.var 4) (Ex.const (PyData.int 1))) (Ex.const (PyData.none)))
      (Sx.ite
        (Bx.tru (Ex.cmp (Cop.eq) (Ex.idx (Ex.var 2) (Ex.const (PyData.int 0))) (Ex.const (PyData.str { cps := #[112, 117, 116] }))))
        (Sx.seq
          (Sx.assign (Tx.fld (Ex.var 0) { cps := #[108, 97, 115, 116] }) (Ex.tup [Ex.bin (Bop.add) (Ex.idx (Ex.fld (Ex.var 0) { cps := #[108, 97, 115, 116] }) (Ex.const (PyData.int 0))) (Ex.const (PyData.int 1)), Ex.idx (Ex.var 4) (Ex.const (PyData.int 2))]))
          (Sx.seq (Sx.assign (Tx.sub (Ex.var 4) (Ex.const (PyData.int 1))) (Ex.fld (Ex.var 0) { cps := #[108, 97, 115, 116] })) (Sx.assign (Tx.fld (Ex.var 0) { cps := #[97, 110, 115, 119, 101, 114] }) (Ex.tup [Ex.const (PyData.str { cps := #[119, 114, 111, 116, 101] }), Ex.var 1, Ex.idx (Ex.var 4) (Ex.const (PyData.int 2))]))))
        (Sx.ite
          (Bx.tru (Ex.cmp (Cop.eq) (Ex.idx (Ex.var 2) (Ex.const (PyData.int 0))) (Ex.const (PyData.str { cps := #[116, 101, 108, 108] }))))
          (Sx.expr (Ex.meth (Ex.var 0) { cps := #[116, 101, 108, 108] } [Ex.var 1, Ex.idx (Ex.var 4) (Ex.const (PyData.int 1))]))
          (Sx.expr (Ex.meth (Ex.var 0) { cps := #[112, 111, 115, 116] } [Ex.var 1, Ex.const (PyData.int 4), Ex.idx (Ex.var 2) (Ex.const (PyData.int 1)), Ex.meth (Ex.var 0) { cps := #[108, 111, 97, 100] } [Ex.idx (Ex.var 2) (Ex.const (PyData.int 2)), Ex.idx (Ex.var 4) (Ex.const (PyData.int 1))]]))))))
theorem ds13 : C.ds 13 = ⟨4, 5, b13⟩ := by kernel_rfl
def b14 : Sx := Sx.seq
  (Sx.ite
    (Bx.tru (Ex.cmp (Cop.eq) (Ex.var 2) (Ex.const (PyData.str { cps := #[111, 119, 110, 101, 114] }))))
    (Sx.ret
      (Ex.comp
        [3]
        false
        false
        [3]
        true
        (Wk.rng1)
        [Ex.bf (Bf.len) [Ex.fld (Ex.var 0) { cps := #[108, 105, 110, 101, 115] }]]
        (some (Bx.tru (Ex.cmp (Cop.ne) (Ex.bin (Bop.band) (Ex.idx (Ex.idx (Ex.fld (Ex.var 0) { cps := #[108, 105, 110, 101, 115] }) (Ex.var 3)) (Ex.const (PyData.int 5))) (Ex.const (PyData.int 2))) (Ex.const (PyData.int 0)))))
        (Ex.var 3)))
    (Sx.pass))
  (Sx.ret
    (Ex.comp
      [3]
      false
      false
      [3]
      true
      (Wk.rng1)
      [Ex.bf (Bf.len) [Ex.fld (Ex.var 0) { cps := #[108, 105, 110, 101, 115] }]]
      (some (Bx.and (Bx.tru (Ex.cmp (Cop.ne) (Ex.var 3) (Ex.var 1))) (Bx.tru (Ex.cmp (Cop.ne) (Ex.bin (Bop.band) (Ex.idx (Ex.idx (Ex.fld (Ex.var 0) { cps := #[108, 105, 110, 101, 115] }) (Ex.var 3)) (Ex.const (PyData.int 5))) (Ex.const (PyData.int 1))) (Ex.const (PyData.int 0))))))
      (Ex.var 3)))
theorem ds14 : C.ds 14 = ⟨3, 4, b14⟩ := by kernel_rfl
def b15 : Sx := Sx.ite
  (Bx.tru (Ex.cmp (Cop.eq) (Ex.idx (Ex.var 2) (Ex.const (PyData.int 0))) (Ex.const (PyData.str { cps := #[107, 101, 101, 112] }))))
  (Sx.assign (Tx.fld (Ex.var 0) { cps := #[115, 116, 111, 114, 101] }) (Ex.var 3))
  (Sx.ite
    (Bx.tru (Ex.cmp (Cop.eq) (Ex.idx (Ex.var 2) (Ex.const (PyData.int 0))) (Ex.const (PyData.str { cps := #[115, 101, 110, 100] }))))
    (Sx.expr (Ex.meth (Ex.var 0) { cps := #[112, 111, 115, 116] } [Ex.var 1, Ex.const (PyData.int 3), Ex.idx (Ex.var 2) (Ex.const (PyData.int 1)), Ex.meth (Ex.var 0) { cps := #[108, 111, 97, 100] } [Ex.idx (Ex.var 2) (Ex.const (PyData.int 2)), Ex.fld (Ex.var 0) { cps := #[115, 116, 111, 114, 101] }]]))
    (Sx.ite
      (Bx.or (Bx.tru (Ex.cmp (Cop.eq) (Ex.idx (Ex.var 2) (Ex.const (PyData.int 0))) (Ex.const (PyData.str { cps := #[111, 119, 110, 101, 114] })))) (Bx.tru (Ex.cmp (Cop.eq) (Ex.idx (Ex.var 2) (Ex.const (PyData.int 0))) (Ex.const (PyData.str { cps := #[111, 116, 104, 101, 114, 115] })))))
      (Sx.for
        false
        [4]
        true
        (Wk.seq)
        [Ex.meth (Ex.var 0) { cps := #[109, 101, 97, 110, 116] } [Ex.var 1, Ex.idx (Ex.var 2) (Ex.const (PyData.int 0))]]
        (Sx.ite
          (Bx.tru (Ex.cmp (Cop.is_) (Ex.fld (Ex.var 0) { cps := #[98, 114, 111, 107, 101, 110] }) (Ex.const (PyData.none))))
          (Sx.expr (Ex.meth (Ex.var 0) { cps := #[112, 111, 115, 116] } [Ex.var 4, Ex.const (PyData.int 3), Ex.idx (Ex.var 2) (Ex.const (PyData.int 1)), Ex.meth (Ex.var 0) { cps := #[108, 111, 97, 100] } [Ex.idx (Ex.var 2) (Ex.const (PyData.int 2)), Ex.fld (Ex.var 0) { cps := #[115, 116, 111, 114, 101] }]]))
          (Sx.pass)))
      (Sx.ite
        (Bx.tru (Ex.cmp (Cop.eq) (Ex.idx (Ex.var 2) (Ex.const (PyData.int 0))) (Ex.const (PyData.str { cps := #[111, 119, 110] }))))
        (Sx.assign (Tx.sub (Ex.idx (Ex.fld (Ex.var 0) { cps := #[108, 105, 110, 101, 115] }) (Ex.var 1)) (Ex.const (PyData.int 5))) (Ex.bin (Bop.bor) (Ex.idx (Ex.idx (Ex.fld (Ex.var 0) { cps := #[108, 105, 110, 101, 115] }) (Ex.var 1)) (Ex.const (PyData.int 5))) (Ex.const (PyData.int 2))))
        (Sx.ite
          (Bx.tru (Ex.cmp (Cop.eq) (Ex.idx (Ex.var 2) (Ex.const (PyData.int 0))) (Ex.const (PyData.str { cps := #[115, 104, 97, 114, 101] }))))
          (Sx.assign (Tx.sub (Ex.idx (Ex.fld (Ex.var 0) { cps := #[108, 105, 110, 101, 115] }) (Ex.var 1)) (Ex.const (PyData.int 5))) (Ex.bin (Bop.bor) (Ex.idx (Ex.idx (Ex.fld (Ex.var 0) { cps := #[108, 105, 110, 101, 115] }) (Ex.var 1)) (Ex.const (PyData.int 5))) (Ex.const (PyData.int 1))))
          (Sx.ite
            (Bx.tru (Ex.cmp (Cop.eq) (Ex.idx (Ex.var 2) (Ex.const (PyData.int 0))) (Ex.const (PyData.str { cps := #[102, 111, 114, 103, 101, 116] }))))
            (Sx.assign (Tx.sub (Ex.idx (Ex.fld (Ex.var 0) { cps := #[108, 105, 110, 101, 115] }) (Ex.var 1)) (Ex.const (PyData.int 5))) (Ex.const (PyData.int 0)))
            (Sx.ite
              (Bx.tru (Ex.cmp (Cop.eq) (Ex.idx (Ex.var 2) (Ex.const (PyData.int 0))) (Ex.const (PyData.str { cps := #[99, 108, 101, 97, 114] }))))
              (Sx.for false [5] true (Wk.seq) [Ex.fld (Ex.var 0) { cps := #[108, 105, 110, 101, 115] }] (Sx.assign (Tx.sub (Ex.var 5) (Ex.const (PyData.int 5))) (Ex.const (PyData.int 0))))
              (Sx.pass)))))))
theorem ds15 : C.ds 15 = ⟨4, 6, b15⟩ := by kernel_rfl
def b16 : Sx := Sx.assign (Tx.fld (Ex.var 0) { cps := #[104, 97, 110, 100] }) (Ex.var 1)
theorem ds16 : C.ds 16 = ⟨2, 2, b16⟩ := by kernel_rfl
def b17 : Sx := Sx.ret (Ex.const (PyData.none))
theorem ds17 : C.ds 17 = ⟨3, 3, b17⟩ := by kernel_rfl
def b18 : Sx := Sx.ret (Ex.const (PyData.bool false))
theorem ds18 : C.ds 18 = ⟨2, 2, b18⟩ := by kernel_rfl
def b19 : Sx := Sx.ret (Ex.const (PyData.none))
theorem ds19 : C.ds 19 = ⟨3, 3, b19⟩ := by kernel_rfl
def b20 : Sx := Sx.seq (Sx.expr (Ex.call (Cm.frz) 16 [Ex.var 0, Ex.var 1])) (Sx.seq (Sx.assign (Tx.fld (Ex.var 0) { cps := #[119, 111, 114, 100] }) (Ex.var 2)) (Sx.assign (Tx.fld (Ex.var 0) { cps := #[110, 117, 109, 98, 101, 114] }) (Ex.var 3)))
theorem ds20 : C.ds 20 = ⟨4, 4, b20⟩ := by kernel_rfl
def b21 : Sx := Sx.ret (Ex.call (Cm.frz) 1 [Ex.var 1, Ex.idx (Ex.idx (Ex.idx (Ex.var 2) (Ex.const (PyData.int 3))) (Ex.fld (Ex.var 0) { cps := #[104, 97, 110, 100] })) (Ex.const (PyData.int 0)), Ex.fld (Ex.var 0) { cps := #[119, 111, 114, 100] }])
theorem ds21 : C.ds 21 = ⟨3, 3, b21⟩ := by kernel_rfl
def b22 : Sx := Sx.ret (Ex.const (PyData.bool true))
theorem ds22 : C.ds 22 = ⟨2, 2, b22⟩ := by kernel_rfl
def b23 : Sx := Sx.seq
  (Sx.ite
    (Bx.tru (Ex.cmp (Cop.eq) (Ex.fld (Ex.var 0) { cps := #[119, 111, 114, 100] }) (Ex.const (PyData.str { cps := #[119, 114, 105, 116, 101] }))))
    (Sx.assign (Tx.sub (Ex.idx (Ex.fld (Ex.var 1) { cps := #[108, 105, 110, 101, 115] }) (Ex.fld (Ex.var 0) { cps := #[104, 97, 110, 100] })) (Ex.const (PyData.int 2))) (Ex.fld (Ex.var 0) { cps := #[110, 117, 109, 98, 101, 114] }))
    (Sx.pass))
  (Sx.for
    false
    [3]
    true
    (Wk.seq)
    [Ex.var 2]
    (Sx.ite (Bx.tru (Ex.cmp (Cop.is_) (Ex.fld (Ex.var 1) { cps := #[98, 114, 111, 107, 101, 110] }) (Ex.const (PyData.none)))) (Sx.expr (Ex.meth (Ex.var 1) { cps := #[104, 97, 110, 100, 95, 97, 99, 116] } [Ex.fld (Ex.var 0) { cps := #[104, 97, 110, 100] }, Ex.var 3, Ex.const (PyData.none)])) (Sx.pass)))
theorem ds23 : C.ds 23 = ⟨3, 4, b23⟩ := by kernel_rfl
def b24 : Sx := Sx.seq (Sx.expr (Ex.call (Cm.frz) 16 [Ex.var 0, Ex.var 1])) (Sx.assign (Tx.fld (Ex.var 0) { cps := #[107] }) (Ex.var 2))
theorem ds24 : C.ds 24 = ⟨3, 3, b24⟩ := by kernel_rfl
def b25 : Sx := Sx.ret (Ex.cmp (Cop.lt) (Ex.fld (Ex.var 0) { cps := #[107] }) (Ex.bf (Bf.len) [Ex.idx (Ex.idx (Ex.idx (Ex.var 1) (Ex.const (PyData.int 3))) (Ex.fld (Ex.var 0) { cps := #[104, 97, 110, 100] })) (Ex.const (PyData.int 3))]))
theorem ds25 : C.ds 25 = ⟨2, 2, b25⟩ := by kernel_rfl
def b26 : Sx := Sx.seq
  (Sx.assign (Tx.name 3) (Ex.idx (Ex.idx (Ex.var 2) (Ex.const (PyData.int 3))) (Ex.fld (Ex.var 0) { cps := #[104, 97, 110, 100] })))
  (Sx.ret (Ex.call (Cm.frz) 1 [Ex.var 1, Ex.idx (Ex.var 3) (Ex.const (PyData.int 0)), Ex.idx (Ex.idx (Ex.idx (Ex.var 3) (Ex.const (PyData.int 3))) (Ex.fld (Ex.var 0) { cps := #[107] })) (Ex.const (PyData.int 0))]))
theorem ds26 : C.ds 26 = ⟨3, 4, b26⟩ := by kernel_rfl
def b27 : Sx := Sx.seq
  (Sx.unpack [Tx.name 4, Tx.name 5] (Ex.meth (Ex.var 1) { cps := #[116, 97, 107, 101, 110, 95, 111, 102, 102] } [Ex.fld (Ex.var 0) { cps := #[104, 97, 110, 100] }, Ex.const (PyData.int 3), Ex.fld (Ex.var 0) { cps := #[107] }]))
  (Sx.for false [3] true (Wk.seq) [Ex.var 2] (Sx.ite (Bx.tru (Ex.cmp (Cop.is_) (Ex.fld (Ex.var 1) { cps := #[98, 114, 111, 107, 101, 110] }) (Ex.const (PyData.none)))) (Sx.expr (Ex.meth (Ex.var 1) { cps := #[104, 97, 110, 100, 95, 97, 99, 116] } [Ex.fld (Ex.var 0) { cps := #[104, 97, 110, 100] }, Ex.var 3, Ex.var 5])) (Sx.pass)))
theorem ds27 : C.ds 27 = ⟨3, 6, b27⟩ := by kernel_rfl
def b28 : Sx := Sx.seq (Sx.expr (Ex.call (Cm.frz) 16 [Ex.var 0, Ex.var 1])) (Sx.assign (Tx.fld (Ex.var 0) { cps := #[107] }) (Ex.var 2))
theorem ds28 : C.ds 28 = ⟨3, 3, b28⟩ := by kernel_rfl
def b29 : Sx := Sx.ret (Ex.cmp (Cop.lt) (Ex.fld (Ex.var 0) { cps := #[107] }) (Ex.bf (Bf.len) [Ex.idx (Ex.idx (Ex.idx (Ex.var 1) (Ex.const (PyData.int 3))) (Ex.fld (Ex.var 0) { cps := #[104, 97, 110, 100] })) (Ex.const (PyData.int 4))]))
theorem ds29 : C.ds 29 = ⟨2, 2, b29⟩ := by kernel_rfl
def b30 : Sx := Sx.seq
  (Sx.assign (Tx.name 2) (Ex.idx (Ex.var 1) (Ex.const (PyData.int 3))))
  (Sx.ret
    (Ex.not
      (Ex.bf
        (Bf.any)
        [Ex.comp
           [3]
           false
           false
           [3]
           true
           (Wk.rng1)
           [Ex.bf (Bf.len) [Ex.var 2]]
           (some (Bx.tru (Ex.cmp (Cop.ne) (Ex.var 3) (Ex.fld (Ex.var 0) { cps := #[104, 97, 110, 100] }))))
           (Ex.cmp (Cop.ne) (Ex.bin (Bop.band) (Ex.idx (Ex.idx (Ex.var 2) (Ex.var 3)) (Ex.const (PyData.int 5))) (Ex.const (PyData.int 1))) (Ex.const (PyData.int 0)))])))
theorem ds30 : C.ds 30 = ⟨2, 4, b30⟩ := by kernel_rfl
def b31 : Sx := Sx.seq
  (Sx.assign (Tx.name 3) (Ex.idx (Ex.idx (Ex.idx (Ex.idx (Ex.idx (Ex.var 2) (Ex.const (PyData.int 3))) (Ex.fld (Ex.var 0) { cps := #[104, 97, 110, 100] })) (Ex.const (PyData.int 4))) (Ex.fld (Ex.var 0) { cps := #[107] })) (Ex.const (PyData.int 0))))
  (Sx.ret (Ex.call (Cm.frz) 2 [Ex.var 1, Ex.idx (Ex.var 2) (Ex.const (PyData.int 0)), Ex.var 3, Ex.meth (Ex.var 0) { cps := #[105, 115, 95, 108, 97, 115, 116] } [Ex.var 2]]))
theorem ds31 : C.ds 31 = ⟨3, 4, b31⟩ := by kernel_rfl
def b32 : Sx := Sx.seq
  (Sx.unpack [Tx.name 4, Tx.name 5] (Ex.idx (Ex.idx (Ex.idx (Ex.fld (Ex.var 1) { cps := #[108, 105, 110, 101, 115] }) (Ex.fld (Ex.var 0) { cps := #[104, 97, 110, 100] })) (Ex.const (PyData.int 4))) (Ex.fld (Ex.var 0) { cps := #[107] })))
  (Sx.seq
    (Sx.ite (Bx.tru (Ex.cmp (Cop.notin) (Ex.tup [Ex.const (PyData.str { cps := #[115, 116, 97, 121] })]) (Ex.var 2))) (Sx.expr (Ex.meth (Ex.var 1) { cps := #[116, 97, 107, 101, 110, 95, 111, 102, 102] } [Ex.fld (Ex.var 0) { cps := #[104, 97, 110, 100] }, Ex.const (PyData.int 4), Ex.fld (Ex.var 0) { cps := #[107] }])) (Sx.pass))
    (Sx.for false [3] true (Wk.seq) [Ex.var 2] (Sx.ite (Bx.tru (Ex.cmp (Cop.is_) (Ex.fld (Ex.var 1) { cps := #[98, 114, 111, 107, 101, 110] }) (Ex.const (PyData.none)))) (Sx.expr (Ex.meth (Ex.var 1) { cps := #[104, 111, 117, 115, 101, 95, 97, 99, 116] } [Ex.fld (Ex.var 0) { cps := #[104, 97, 110, 100] }, Ex.var 3, Ex.var 5])) (Sx.pass))))
theorem ds32 : C.ds 32 = ⟨3, 6, b32⟩ := by kernel_rfl
def b33 : Sx := Sx.seq
  (Sx.ite
    (Bx.and (Bx.tru (Ex.cmp (Cop.eq) (Ex.idx (Ex.var 0) (Ex.const (PyData.int 0))) (Ex.const (PyData.str { cps := #[97, 115, 107] })))) (Bx.tru (Ex.cmp (Cop.eq) (Ex.idx (Ex.var 0) (Ex.const (PyData.int 2))) (Ex.const (PyData.str { cps := #[119, 114, 105, 116, 101] })))))
    (Sx.ret (Ex.make 2 [Ex.idx (Ex.var 0) (Ex.const (PyData.int 1)), Ex.const (PyData.str { cps := #[119, 114, 105, 116, 101] }), Ex.idx (Ex.var 0) (Ex.const (PyData.int 3))]))
    (Sx.pass))
  (Sx.seq
    (Sx.ite (Bx.tru (Ex.cmp (Cop.eq) (Ex.idx (Ex.var 0) (Ex.const (PyData.int 0))) (Ex.const (PyData.str { cps := #[97, 115, 107] })))) (Sx.ret (Ex.make 2 [Ex.idx (Ex.var 0) (Ex.const (PyData.int 1)), Ex.idx (Ex.var 0) (Ex.const (PyData.int 2)), Ex.const (PyData.int 0)])) (Sx.pass))
    (Sx.seq
      (Sx.ite (Bx.tru (Ex.cmp (Cop.eq) (Ex.idx (Ex.var 0) (Ex.const (PyData.int 0))) (Ex.const (PyData.str { cps := #[116, 97, 107, 101] })))) (Sx.ret (Ex.make 3 [Ex.idx (Ex.var 0) (Ex.const (PyData.int 1)), Ex.idx (Ex.var 0) (Ex.const (PyData.int 2))])) (Sx.pass))
      (Sx.ret (Ex.make 4 [Ex.idx (Ex.var 0) (Ex.const (PyData.int 1)), Ex.idx (Ex.var 0) (Ex.const (PyData.int 2))]))))
theorem ds33 : C.ds 33 = ⟨1, 1, b33⟩ := by kernel_rfl
def b34 : Sx := Sx.seq (Sx.ite (Bx.tru (Ex.var 1)) (Sx.ret (Ex.bf (Bf.lrng) [Ex.bf (Bf.min2) [Ex.const (PyData.int 1), Ex.bf (Bf.len) [Ex.var 0]]])) (Sx.pass)) (Sx.ret (Ex.bf (Bf.lrng) [Ex.bf (Bf.len) [Ex.var 0]]))
theorem ds34 : C.ds 34 = ⟨2, 2, b34⟩ := by kernel_rfl
def b35 : Sx := Sx.seq
  (Sx.assign (Tx.name 4) (Ex.call (Cm.keep) 33 [Ex.tup [Ex.const (PyData.str { cps := #[103, 101, 116] }), Ex.var 2, Ex.var 3]]))
  (Sx.seq
    (Sx.assign (Tx.name 5) (Ex.meth (Ex.var 4) { cps := #[114, 111, 119] } [Ex.var 0, Ex.var 1]))
    (Sx.ret (Ex.or (Ex.cmp (Cop.is_) (Ex.var 5) (Ex.const (PyData.none))) (Ex.cmp (Cop.ne) (Ex.idx (Ex.var 5) (Ex.neg (Ex.const (PyData.int 1)))) (Ex.const (PyData.tuple [PyData.tuple [PyData.str { cps := #[119, 97, 105, 116] }]]))))))
theorem ds35 : C.ds 35 = ⟨4, 6, b35⟩ := by kernel_rfl
def b36 : Sx := Sx.seq
  (Sx.assign (Tx.name 3) (Ex.lst true []))
  (Sx.seq
    (Sx.ite
      (Bx.tru (Ex.cmp (Cop.isnot) (Ex.call (Cm.frz) 1 [Ex.var 0, Ex.var 1, Ex.const (PyData.str { cps := #[114, 101, 97, 100] })]) (Ex.const (PyData.none))))
      (Sx.expr (Ex.mut (Mt.append) (Ex.var 3) [Ex.tup [Ex.const (PyData.str { cps := #[97, 115, 107] }), Ex.var 2, Ex.const (PyData.str { cps := #[114, 101, 97, 100] })]]))
      (Sx.pass))
    (Sx.seq
      (Sx.ite
        (Bx.tru (Ex.cmp (Cop.isnot) (Ex.call (Cm.frz) 1 [Ex.var 0, Ex.var 1, Ex.const (PyData.str { cps := #[119, 114, 105, 116, 101] })]) (Ex.const (PyData.none))))
        (Sx.expr (Ex.mut (Mt.append) (Ex.var 3) [Ex.tup [Ex.const (PyData.str { cps := #[97, 115, 107] }), Ex.var 2, Ex.const (PyData.str { cps := #[119, 114, 105, 116, 101] }), Ex.const (PyData.int 0)]]))
        (Sx.pass))
      (Sx.seq
        (Sx.ite
          (Bx.tru (Ex.cmp (Cop.isnot) (Ex.call (Cm.frz) 1 [Ex.var 0, Ex.var 1, Ex.const (PyData.str { cps := #[100, 114, 111, 112] })]) (Ex.const (PyData.none))))
          (Sx.expr (Ex.mut (Mt.append) (Ex.var 3) [Ex.tup [Ex.const (PyData.str { cps := #[97, 115, 107] }), Ex.var 2, Ex.const (PyData.str { cps := #[100, 114, 111, 112] })]]))
          (Sx.pass))
        (Sx.ret (Ex.var 3)))))
theorem ds36 : C.ds 36 = ⟨3, 4, b36⟩ := by kernel_rfl
def b37 : Sx := Sx.seq
  (Sx.assign (Tx.name 3) (Ex.lst true []))
  (Sx.seq
    (Sx.for
      false
      [4]
      true
      (Wk.rng1)
      [Ex.bf (Bf.len) [Ex.idx (Ex.var 1) (Ex.const (PyData.int 3))]]
      (Sx.seq
        (Sx.assign (Tx.name 5) (Ex.idx (Ex.idx (Ex.var 1) (Ex.const (PyData.int 3))) (Ex.var 4)))
        (Sx.seq
          (Sx.expr (Ex.mut (Mt.extend) (Ex.var 3) [Ex.call (Cm.frz) 36 [Ex.var 0, Ex.idx (Ex.var 5) (Ex.const (PyData.int 0)), Ex.var 4]]))
          (Sx.seq
            (Sx.expr (Ex.mut (Mt.extend) (Ex.var 3) [Ex.comp [6] false false [6] true (Wk.seq) [Ex.call (Cm.frz) 34 [Ex.idx (Ex.var 5) (Ex.const (PyData.int 3)), Ex.var 2]] none (Ex.tup [Ex.const (PyData.str { cps := #[116, 97, 107, 101] }), Ex.var 4, Ex.var 6])]))
            (Sx.for
              false
              [6]
              true
              (Wk.seq)
              [Ex.call (Cm.frz) 34 [Ex.idx (Ex.var 5) (Ex.const (PyData.int 4)), Ex.var 2]]
              (Sx.ite (Bx.tru (Ex.call (Cm.frz) 35 [Ex.var 0, Ex.var 1, Ex.var 4, Ex.var 6])) (Sx.expr (Ex.mut (Mt.append) (Ex.var 3) [Ex.tup [Ex.const (PyData.str { cps := #[103, 101, 116] }), Ex.var 4, Ex.var 6]])) (Sx.pass)))))))
    (Sx.ret (Ex.var 3)))
theorem ds37 : C.ds 37 = ⟨3, 7, b37⟩ := by kernel_rfl
def b38 : Sx := Sx.seq
  (Sx.ite
    (Bx.or
      (Bx.not (Bx.tru (Ex.chain (Cop.le) (Cop.lt) (Ex.const (PyData.int 0)) (Ex.idx (Ex.var 2) (Ex.const (PyData.int 1))) (Ex.bf (Bf.len) [Ex.idx (Ex.var 1) (Ex.const (PyData.int 3))]))))
      (Bx.and (Bx.tru (Ex.cmp (Cop.ne) (Ex.idx (Ex.var 2) (Ex.const (PyData.int 0))) (Ex.const (PyData.str { cps := #[97, 115, 107] })))) (Bx.tru (Ex.cmp (Cop.lt) (Ex.idx (Ex.var 2) (Ex.const (PyData.int 2))) (Ex.const (PyData.int 0))))))
    (Sx.raise 6 [Ex.const (PyData.str { cps := #[110, 111, 32, 115, 117, 99, 104, 32, 100, 101, 101, 100] })])
    (Sx.pass))
  (Sx.seq
    (Sx.assign (Tx.name 3) (Ex.call (Cm.keep) 33 [Ex.var 2]))
    (Sx.seq
      (Sx.ite (Bx.not (Bx.tru (Ex.meth (Ex.var 3) { cps := #[105, 115, 95, 116, 104, 101, 114, 101] } [Ex.var 1]))) (Sx.raise 6 [Ex.const (PyData.str { cps := #[110, 111, 32, 115, 117, 99, 104, 32, 108, 101, 116, 116, 101, 114] })]) (Sx.pass))
      (Sx.seq
        (Sx.assign (Tx.name 4) (Ex.meth (Ex.var 3) { cps := #[114, 111, 119] } [Ex.var 0, Ex.var 1]))
        (Sx.seq
          (Sx.ite
            (Bx.tru (Ex.cmp (Cop.is_) (Ex.var 4) (Ex.const (PyData.none))))
            (Sx.seq
              (Sx.ite (Bx.tru (Ex.cmp (Cop.eq) (Ex.idx (Ex.var 2) (Ex.const (PyData.int 0))) (Ex.const (PyData.str { cps := #[97, 115, 107] })))) (Sx.raise 6 [Ex.const (PyData.str { cps := #[110, 111, 32, 114, 111, 119, 32, 102, 111, 114, 32, 119, 104, 97, 116, 32, 105, 115, 32, 97, 115, 107, 101, 100] })]) (Sx.pass))
              (Sx.ret (Ex.tup [Ex.var 1, Ex.const (PyData.none), Ex.tup [Ex.const (PyData.str { cps := #[110, 111, 114, 111, 119] })]])))
            (Sx.pass))
          (Sx.seq
            (Sx.ite (Bx.tru (Ex.cmp (Cop.eq) (Ex.idx (Ex.var 4) (Ex.neg (Ex.const (PyData.int 1)))) (Ex.const (PyData.tuple [PyData.tuple [PyData.str { cps := #[119, 97, 105, 116] }]])))) (Sx.raise 6 [Ex.const (PyData.str { cps := #[116, 104, 101, 32, 108, 101, 116, 116, 101, 114, 32, 119, 97, 105, 116, 115] })]) (Sx.pass))
            (Sx.seq
              (Sx.assign (Tx.name 5) (Ex.make 0 [Ex.var 1]))
              (Sx.seq
                (Sx.expr (Ex.meth (Ex.var 3) { cps := #[100, 111, 110, 101] } [Ex.var 5, Ex.idx (Ex.var 4) (Ex.neg (Ex.const (PyData.int 1)))]))
                (Sx.seq
                  (Sx.ite (Bx.tru (Ex.cmp (Cop.isnot) (Ex.fld (Ex.var 5) { cps := #[98, 114, 111, 107, 101, 110] }) (Ex.const (PyData.none)))) (Sx.ret (Ex.tup [Ex.var 1, Ex.const (PyData.none), Ex.fld (Ex.var 5) { cps := #[98, 114, 111, 107, 101, 110] }])) (Sx.pass))
                  (Sx.seq
                    (Sx.ite
                      (Bx.tru (Ex.cmp (Cop.eq) (Ex.idx (Ex.var 4) (Ex.const (PyData.int 0))) (Ex.const (PyData.str { cps := #[104, 97, 110, 100] }))))
                      (Sx.assign (Tx.sub (Ex.idx (Ex.fld (Ex.var 5) { cps := #[108, 105, 110, 101, 115] }) (Ex.idx (Ex.var 2) (Ex.const (PyData.int 1)))) (Ex.const (PyData.int 0))) (Ex.idx (Ex.var 4) (Ex.const (PyData.int 3))))
                      (Sx.assign (Tx.fld (Ex.var 5) { cps := #[104, 111, 117, 115, 101] }) (Ex.idx (Ex.var 4) (Ex.const (PyData.int 4)))))
                    (Sx.seq
                      (Sx.assign (Tx.name 6) (Ex.meth (Ex.var 5) { cps := #[115, 116, 97, 110, 100, 105, 110, 103] } []))
                      (Sx.seq
                        (Sx.ite (Bx.tru (Ex.call (Cm.frz) 5 [Ex.var 0, Ex.var 6])) (Sx.ret (Ex.tup [Ex.var 1, Ex.const (PyData.none), Ex.tup [Ex.const (PyData.str { cps := #[99, 108, 97, 115, 104] })]])) (Sx.pass))
                        (Sx.ret (Ex.tup [Ex.var 6, Ex.fld (Ex.var 5) { cps := #[97, 110, 115, 119, 101, 114] }, Ex.const (PyData.none)])))))))))))))
theorem ds38 : C.ds 38 = ⟨3, 7, b38⟩ := by kernel_rfl
def b39 : Sx := Sx.seq
  (Sx.assign (Tx.name 3) (Ex.call (Cm.frz) 3 [Ex.var 0, Ex.var 1]))
  (Sx.seq
    (Sx.assign (Tx.name 4) (Ex.lst true []))
    (Sx.seq
      (Sx.for
        false
        [5]
        true
        (Wk.seq)
        [Ex.var 2]
        (Sx.seq
          (Sx.unpack [Tx.name 3, Tx.name 6, Tx.name 7] (Ex.call (Cm.frz) 38 [Ex.var 0, Ex.var 3, Ex.var 5]))
          (Sx.seq (Sx.ite (Bx.tru (Ex.cmp (Cop.isnot) (Ex.var 7) (Ex.const (PyData.none)))) (Sx.ret (Ex.tup [Ex.var 3, Ex.var 4, Ex.var 7])) (Sx.pass)) (Sx.ite (Bx.tru (Ex.cmp (Cop.isnot) (Ex.var 6) (Ex.const (PyData.none)))) (Sx.expr (Ex.mut (Mt.append) (Ex.var 4) [Ex.var 6])) (Sx.pass)))))
      (Sx.ret (Ex.tup [Ex.var 3, Ex.var 4, Ex.const (PyData.none)]))))
theorem ds39 : C.ds 39 = ⟨3, 8, b39⟩ := by kernel_rfl
def b40 : Sx := Sx.seq (Sx.ite (Bx.tru (Ex.cmp (Cop.lt) (Ex.var 1) (Ex.bf (Bf.len) [Ex.var 0]))) (Sx.ret (Ex.idx (Ex.var 0) (Ex.var 1))) (Sx.pass)) (Sx.ret (Ex.const (PyData.int 0)))
theorem ds40 : C.ds 40 = ⟨2, 2, b40⟩ := by kernel_rfl
def b41 : Sx := Sx.seq
  (Sx.assign (Tx.name 3) (Ex.lst true []))
  (Sx.seq
    (Sx.assign (Tx.name 4) (Ex.bin (Bop.mod) (Ex.bin (Bop.mul) (Ex.bin (Bop.add) (Ex.var 0) (Ex.const (PyData.int 1))) (Ex.const (PyData.int 48271))) (Ex.const (PyData.int 2147483647))))
    (Sx.seq
      (Sx.assign (Tx.name 5) (Ex.bin (Bop.fdiv) (Ex.var 0) (Ex.const (PyData.int 2))))
      (Sx.seq
        (Sx.for
          false
          [6]
          true
          (Wk.rng1)
          [Ex.var 2]
          (Sx.seq
            (Sx.assign
              (Tx.name 4)
              (Ex.bin
                (Bop.mod)
                (Ex.bin (Bop.mul) (Ex.bin (Bop.add) (Ex.bin (Bop.add) (Ex.var 4) (Ex.bin (Bop.mul) (Ex.const (PyData.int 7919)) (Ex.var 6))) (Ex.const (PyData.int 1))) (Ex.bin (Bop.add) (Ex.bin (Bop.fdiv) (Ex.var 4) (Ex.const (PyData.int 1009))) (Ex.const (PyData.int 69621))))
                (Ex.const (PyData.int 2147483647))))
            (Sx.seq
              (Sx.expr
                (Ex.mut
                  (Mt.append)
                  (Ex.var 3)
                  [Ex.idx
                     (Ex.lst false [Ex.bin (Bop.mod) (Ex.bin (Bop.fdiv) (Ex.var 4) (Ex.const (PyData.int 7))) (Ex.var 1), Ex.bin (Bop.mod) (Ex.var 5) (Ex.var 1)])
                     (Ex.bf (Bf.int) [Ex.and (Ex.cmp (Cop.eq) (Ex.bin (Bop.mod) (Ex.var 0) (Ex.const (PyData.int 2))) (Ex.const (PyData.int 0))) (Ex.cmp (Cop.gt) (Ex.var 5) (Ex.const (PyData.int 0)))])]))
              (Sx.assign (Tx.name 5) (Ex.bin (Bop.fdiv) (Ex.var 5) (Ex.var 1))))))
        (Sx.ret (Ex.var 3)))))
theorem ds41 : C.ds 41 = ⟨3, 7, b41⟩ := by kernel_rfl
def b42 : Sx := Sx.seq
  (Sx.assign
    (Tx.name 0)
    (Ex.tup
      [Ex.tup [Ex.const (PyData.str { cps := #[105, 100, 108, 101] }), Ex.const (PyData.str { cps := #[110, 111, 110, 101] })],
       Ex.tup [Ex.const (PyData.str { cps := #[119, 97, 105, 116] }), Ex.const (PyData.str { cps := #[110, 111, 110, 101] })],
       Ex.tup [Ex.const (PyData.str { cps := #[109, 105, 110, 101] }), Ex.const (PyData.str { cps := #[119, 114, 105, 116, 101] })]]))
  (Sx.seq
    (Sx.assign
      (Tx.name 1)
      (Ex.lst
        true
        [Ex.tup
           [Ex.const (PyData.str { cps := #[104, 97, 110, 100] }),
            Ex.const (PyData.str { cps := #[105, 100, 108, 101] }),
            Ex.const (PyData.str { cps := #[119, 114, 105, 116, 101] }),
            Ex.const (PyData.str { cps := #[119, 97, 105, 116] }),
            Ex.tup [Ex.tup [Ex.const (PyData.str { cps := #[115, 101, 110, 100] }), Ex.const (PyData.str { cps := #[103, 101, 116] }), Ex.const (PyData.str { cps := #[98, 97, 114, 101] })]]]]))
    (Sx.seq
      (Sx.expr
        (Ex.mut
          (Mt.append)
          (Ex.var 1)
          [Ex.tup
             [Ex.const (PyData.str { cps := #[104, 97, 110, 100] }),
              Ex.const (PyData.str { cps := #[119, 97, 105, 116] }),
              Ex.const (PyData.str { cps := #[103, 105, 118, 101] }),
              Ex.const (PyData.str { cps := #[109, 105, 110, 101] }),
              Ex.tup [Ex.tup [Ex.const (PyData.str { cps := #[107, 101, 101, 112] })], Ex.tup [Ex.const (PyData.str { cps := #[112, 117, 116] })]]]]))
      (Sx.seq
        (Sx.expr
          (Ex.mut
            (Mt.append)
            (Ex.var 1)
            [Ex.tup [Ex.const (PyData.str { cps := #[104, 97, 110, 100] }), Ex.const (PyData.str { cps := #[109, 105, 110, 101] }), Ex.const (PyData.str { cps := #[119, 114, 105, 116, 101] }), Ex.const (PyData.str { cps := #[109, 105, 110, 101] }), Ex.tup [Ex.tup [Ex.const (PyData.str { cps := #[112, 117, 116] })]]]]))
        (Sx.seq
          (Sx.expr
            (Ex.mut
              (Mt.append)
              (Ex.var 1)
              [Ex.tup [Ex.const (PyData.str { cps := #[104, 97, 110, 100] }), Ex.const (PyData.str { cps := #[109, 105, 110, 101] }), Ex.const (PyData.str { cps := #[114, 101, 97, 100] }), Ex.const (PyData.str { cps := #[109, 105, 110, 101] }), Ex.tup [Ex.tup [Ex.const (PyData.str { cps := #[116, 101, 108, 108] })]]]]))
          (Sx.seq
            (Sx.expr
              (Ex.mut
                (Mt.append)
                (Ex.var 1)
                [Ex.tup
                   [Ex.const (PyData.str { cps := #[104, 97, 110, 100] }),
                    Ex.const (PyData.str { cps := #[109, 105, 110, 101] }),
                    Ex.const (PyData.str { cps := #[99, 97, 108, 108] }),
                    Ex.const (PyData.str { cps := #[105, 100, 108, 101] }),
                    Ex.tup [Ex.tup [Ex.const (PyData.str { cps := #[115, 101, 110, 100] }), Ex.const (PyData.str { cps := #[98, 97, 99, 107] }), Ex.const (PyData.str { cps := #[118, 97, 108, 117, 101] })], Ex.tup [Ex.const (PyData.str { cps := #[108, 111, 115, 101] })]]]]))
            (Sx.seq
              (Sx.expr
                (Ex.mut
                  (Mt.append)
                  (Ex.var 1)
                  [Ex.tup
                     [Ex.const (PyData.str { cps := #[104, 111, 117, 115, 101] }),
                      Ex.const (PyData.str { cps := #[104, 111, 109, 101] }),
                      Ex.const (PyData.str { cps := #[103, 101, 116] }),
                      Ex.const (PyData.str { cps := #[97, 110, 121] }),
                      Ex.const (PyData.str { cps := #[111, 117, 116] }),
                      Ex.tup [Ex.tup [Ex.const (PyData.str { cps := #[111, 119, 110] })], Ex.tup [Ex.const (PyData.str { cps := #[115, 101, 110, 100] }), Ex.const (PyData.str { cps := #[103, 105, 118, 101] }), Ex.const (PyData.str { cps := #[118, 97, 108, 117, 101] })]]]]))
              (Sx.seq
                (Sx.expr
                  (Ex.mut
                    (Mt.append)
                    (Ex.var 1)
                    [Ex.tup
                       [Ex.const (PyData.str { cps := #[104, 111, 117, 115, 101] }),
                        Ex.const (PyData.str { cps := #[111, 117, 116] }),
                        Ex.const (PyData.str { cps := #[103, 101, 116] }),
                        Ex.const (PyData.str { cps := #[97, 110, 121] }),
                        Ex.const (PyData.str { cps := #[99, 97, 108, 108, 115] }),
                        Ex.tup [Ex.tup [Ex.const (PyData.str { cps := #[111, 119, 110, 101, 114] }), Ex.const (PyData.str { cps := #[99, 97, 108, 108] }), Ex.const (PyData.str { cps := #[98, 97, 114, 101] })], Ex.tup [Ex.const (PyData.str { cps := #[115, 116, 97, 121] })]]]]))
                (Sx.seq
                  (Sx.expr
                    (Ex.mut
                      (Mt.append)
                      (Ex.var 1)
                      [Ex.tup
                         [Ex.const (PyData.str { cps := #[104, 111, 117, 115, 101] }),
                          Ex.const (PyData.str { cps := #[99, 97, 108, 108, 115] }),
                          Ex.const (PyData.str { cps := #[103, 101, 116] }),
                          Ex.const (PyData.str { cps := #[97, 110, 121] }),
                          Ex.const (PyData.str { cps := #[99, 97, 108, 108, 115] }),
                          Ex.tup [Ex.tup [Ex.const (PyData.str { cps := #[119, 97, 105, 116] })]]]]))
                  (Sx.seq
                    (Sx.expr
                      (Ex.mut
                        (Mt.append)
                        (Ex.var 1)
                        [Ex.tup
                           [Ex.const (PyData.str { cps := #[104, 111, 117, 115, 101] }),
                            Ex.const (PyData.str { cps := #[99, 97, 108, 108, 115] }),
                            Ex.const (PyData.str { cps := #[98, 97, 99, 107] }),
                            Ex.const (PyData.str { cps := #[97, 110, 121] }),
                            Ex.const (PyData.str { cps := #[104, 111, 109, 101] }),
                            Ex.tup [Ex.tup [Ex.const (PyData.str { cps := #[107, 101, 101, 112] })], Ex.tup [Ex.const (PyData.str { cps := #[99, 108, 101, 97, 114] })]]]]))
                    (Sx.ret (Ex.tup [Ex.var 0, Ex.tup [Ex.const (PyData.str { cps := #[104, 111, 109, 101] }), Ex.const (PyData.str { cps := #[111, 117, 116] }), Ex.const (PyData.str { cps := #[99, 97, 108, 108, 115] })], Ex.bf (Bf.tuple) [Ex.var 1]])))))))))))
theorem ds42 : C.ds 42 = ⟨0, 2, b42⟩ := by kernel_rfl
def b43 : Sx := Sx.seq
  (Sx.assign
    (Tx.name 0)
    (Ex.tup
      [Ex.tup [Ex.const (PyData.str { cps := #[105, 100, 108, 101] }), Ex.const (PyData.str { cps := #[110, 111, 110, 101] })],
       Ex.tup [Ex.const (PyData.str { cps := #[97, 115, 107, 115] }), Ex.const (PyData.str { cps := #[110, 111, 110, 101] })],
       Ex.tup [Ex.const (PyData.str { cps := #[104, 97, 115] }), Ex.const (PyData.str { cps := #[114, 101, 97, 100] })]]))
  (Sx.seq
    (Sx.assign
      (Tx.name 1)
      (Ex.lst
        true
        [Ex.tup
           [Ex.const (PyData.str { cps := #[104, 97, 110, 100] }),
            Ex.const (PyData.str { cps := #[105, 100, 108, 101] }),
            Ex.const (PyData.str { cps := #[114, 101, 97, 100] }),
            Ex.const (PyData.str { cps := #[97, 115, 107, 115] }),
            Ex.tup [Ex.tup [Ex.const (PyData.str { cps := #[115, 101, 110, 100] }), Ex.const (PyData.str { cps := #[97, 115, 107] }), Ex.const (PyData.str { cps := #[98, 97, 114, 101] })]]]]))
    (Sx.seq
      (Sx.expr
        (Ex.mut
          (Mt.append)
          (Ex.var 1)
          [Ex.tup
             [Ex.const (PyData.str { cps := #[104, 97, 110, 100] }),
              Ex.const (PyData.str { cps := #[97, 115, 107, 115] }),
              Ex.const (PyData.str { cps := #[103, 105, 118, 101] }),
              Ex.const (PyData.str { cps := #[104, 97, 115] }),
              Ex.tup [Ex.tup [Ex.const (PyData.str { cps := #[107, 101, 101, 112] })], Ex.tup [Ex.const (PyData.str { cps := #[116, 101, 108, 108] })]]]]))
      (Sx.seq
        (Sx.expr
          (Ex.mut (Mt.append) (Ex.var 1) [Ex.tup [Ex.const (PyData.str { cps := #[104, 97, 110, 100] }), Ex.const (PyData.str { cps := #[104, 97, 115] }), Ex.const (PyData.str { cps := #[114, 101, 97, 100] }), Ex.const (PyData.str { cps := #[104, 97, 115] }), Ex.tup [Ex.tup [Ex.const (PyData.str { cps := #[116, 101, 108, 108] })]]]]))
        (Sx.seq
          (Sx.expr
            (Ex.mut
              (Mt.append)
              (Ex.var 1)
              [Ex.tup [Ex.const (PyData.str { cps := #[104, 97, 110, 100] }), Ex.const (PyData.str { cps := #[104, 97, 115] }), Ex.const (PyData.str { cps := #[100, 114, 111, 112] }), Ex.const (PyData.str { cps := #[105, 100, 108, 101] }), Ex.tup [Ex.tup [Ex.const (PyData.str { cps := #[108, 111, 115, 101] })]]]]))
          (Sx.seq
            (Sx.expr
              (Ex.mut
                (Mt.append)
                (Ex.var 1)
                [Ex.tup
                   [Ex.const (PyData.str { cps := #[104, 111, 117, 115, 101] }),
                    Ex.const (PyData.str { cps := #[104, 111, 109, 101] }),
                    Ex.const (PyData.str { cps := #[97, 115, 107] }),
                    Ex.const (PyData.str { cps := #[97, 110, 121] }),
                    Ex.const (PyData.str { cps := #[104, 111, 109, 101] }),
                    Ex.tup [Ex.tup [Ex.const (PyData.str { cps := #[115, 101, 110, 100] }), Ex.const (PyData.str { cps := #[103, 105, 118, 101] }), Ex.const (PyData.str { cps := #[118, 97, 108, 117, 101] })]]]]))
            (Sx.ret (Ex.tup [Ex.var 0, Ex.tup [Ex.const (PyData.str { cps := #[104, 111, 109, 101] })], Ex.bf (Bf.tuple) [Ex.var 1]])))))))
theorem ds43 : C.ds 43 = ⟨0, 2, b43⟩ := by kernel_rfl
def b44 : Sx := Sx.seq
  (Sx.assign (Tx.name 2) (Ex.call (Cm.frz) 41 [Ex.var 1, Ex.const (PyData.int 64), Ex.const (PyData.int 3)]))
  (Sx.seq
    (Sx.assign (Tx.name 3) (Ex.cell (Ex.bf (Bf.list) [Ex.idx (Ex.var 0) (Ex.const (PyData.int 2))])))
    (Sx.seq
      (Sx.assign (Tx.name 4) (Ex.bin (Bop.mod) (Ex.idx (Ex.var 2) (Ex.const (PyData.int 0))) (Ex.bf (Bf.len) [Ex.var 3])))
      (Sx.seq
        (Sx.assign (Tx.name 5) (Ex.idx (Ex.var 3) (Ex.var 4)))
        (Sx.seq
          (Sx.ite
            (Bx.tru (Ex.cmp (Cop.eq) (Ex.bin (Bop.mod) (Ex.idx (Ex.var 2) (Ex.const (PyData.int 1))) (Ex.const (PyData.int 3))) (Ex.const (PyData.int 0))))
            (Sx.assign (Tx.name 3) (Ex.cell (Ex.bin (Bop.add) (Ex.slice (Ex.var 3) none (some (Ex.var 4))) (Ex.slice (Ex.var 3) (some (Ex.bin (Bop.add) (Ex.var 4) (Ex.const (PyData.int 1)))) none))))
            (Sx.ite
              (Bx.and
                (Bx.tru (Ex.cmp (Cop.eq) (Ex.bin (Bop.mod) (Ex.idx (Ex.var 2) (Ex.const (PyData.int 1))) (Ex.const (PyData.int 3))) (Ex.const (PyData.int 1))))
                (Bx.tru (Ex.cmp (Cop.ne) (Ex.idx (Ex.var 5) (Ex.neg (Ex.const (PyData.int 1)))) (Ex.tup [Ex.tup [Ex.const (PyData.str { cps := #[119, 97, 105, 116] })]]))))
              (Sx.assign (Tx.sub (Ex.var 3) (Ex.var 4)) (Ex.bin (Bop.add) (Ex.slice (Ex.var 5) none (some (Ex.neg (Ex.const (PyData.int 1))))) (Ex.tup [Ex.slice (Ex.idx (Ex.var 5) (Ex.neg (Ex.const (PyData.int 1)))) (some (Ex.const (PyData.int 1))) none])))
              (Sx.ite
                (Bx.tru (Ex.cmp (Cop.eq) (Ex.idx (Ex.var 5) (Ex.const (PyData.int 0))) (Ex.const (PyData.str { cps := #[104, 97, 110, 100] }))))
                (Sx.assign
                  (Tx.sub (Ex.var 3) (Ex.var 4))
                  (Ex.bin
                    (Bop.add)
                    (Ex.slice (Ex.var 5) none (some (Ex.const (PyData.int 3))))
                    (Ex.tup [Ex.idx (Ex.idx (Ex.idx (Ex.var 0) (Ex.const (PyData.int 0))) (Ex.bin (Bop.mod) (Ex.idx (Ex.var 2) (Ex.const (PyData.int 2))) (Ex.bf (Bf.len) [Ex.idx (Ex.var 0) (Ex.const (PyData.int 0))]))) (Ex.const (PyData.int 0)), Ex.idx (Ex.var 5) (Ex.const (PyData.int 4))])))
                (Sx.pass))))
          (Sx.ret (Ex.tup [Ex.idx (Ex.var 0) (Ex.const (PyData.int 0)), Ex.idx (Ex.var 0) (Ex.const (PyData.int 1)), Ex.bf (Bf.tuple) [Ex.var 3]]))))))
theorem ds44 : C.ds 44 = ⟨2, 6, b44⟩ := by kernel_rfl
def b45 : Sx := Sx.seq
  (Sx.assign (Tx.name 1) (Ex.call (Cm.frz) 41 [Ex.var 0, Ex.const (PyData.int 64), Ex.const (PyData.int 30)]))
  (Sx.seq
    (Sx.assign (Tx.name 2) (Ex.lst false [Ex.const (PyData.str { cps := #[110, 111, 110, 101] }), Ex.const (PyData.str { cps := #[110, 111, 110, 101] }), Ex.const (PyData.str { cps := #[114, 101, 97, 100] }), Ex.const (PyData.str { cps := #[119, 114, 105, 116, 101] })]))
    (Sx.seq
      (Sx.assign
        (Tx.name 3)
        (Ex.bf
          (Bf.tuple)
          [Ex.comp
             [8]
             false
             false
             [8]
             true
             (Wk.rng1)
             [Ex.const (PyData.int 3)]
             none
             (Ex.tup
               [Ex.idx (Ex.lst false [Ex.const (PyData.str { cps := #[97] }), Ex.const (PyData.str { cps := #[98] }), Ex.const (PyData.str { cps := #[99] })]) (Ex.var 8),
                Ex.bin
                  (Bop.add)
                  (Ex.bin (Bop.mul) (Ex.idx (Ex.var 2) (Ex.bin (Bop.mod) (Ex.idx (Ex.var 1) (Ex.var 8)) (Ex.const (PyData.int 4)))) (Ex.bf (Bf.int) [Ex.cmp (Cop.gt) (Ex.var 8) (Ex.const (PyData.int 0))]))
                  (Ex.bin (Bop.mul) (Ex.const (PyData.str { cps := #[110, 111, 110, 101] })) (Ex.bf (Bf.int) [Ex.cmp (Cop.eq) (Ex.var 8) (Ex.const (PyData.int 0))]))])]))
      (Sx.seq
        (Sx.assign
          (Tx.name 4)
          (Ex.lst
            false
            [Ex.tup [],
             Ex.tup [Ex.tup [Ex.const (PyData.str { cps := #[107, 101, 101, 112] })]],
             Ex.tup [Ex.tup [Ex.const (PyData.str { cps := #[107, 101, 101, 112] })], Ex.tup [Ex.const (PyData.str { cps := #[116, 101, 108, 108] })]],
             Ex.tup [Ex.tup [Ex.const (PyData.str { cps := #[107, 101, 101, 112] })], Ex.tup [Ex.const (PyData.str { cps := #[112, 117, 116] })]],
             Ex.tup [Ex.tup [Ex.const (PyData.str { cps := #[112, 117, 116] })], Ex.tup [Ex.const (PyData.str { cps := #[107, 101, 101, 112] })]]]))
        (Sx.seq
          (Sx.assign
            (Tx.name 4)
            (Ex.bin
              (Bop.add)
              (Ex.var 4)
              (Ex.lst
                false
                [Ex.tup [Ex.tup [Ex.const (PyData.str { cps := #[107, 101, 101, 112] })], Ex.tup [Ex.const (PyData.str { cps := #[115, 101, 110, 100] }), Ex.const (PyData.str { cps := #[110] }), Ex.const (PyData.str { cps := #[118, 97, 108, 117, 101] })]],
                 Ex.tup [Ex.tup [Ex.const (PyData.str { cps := #[108, 111, 115, 101] })], Ex.tup [Ex.const (PyData.str { cps := #[115, 101, 110, 100] }), Ex.const (PyData.str { cps := #[109] }), Ex.const (PyData.str { cps := #[118, 97, 108, 117, 101] })]]])))
          (Sx.seq
            (Sx.assign
              (Tx.name 5)
              (Ex.lst
                false
                [Ex.tup [],
                 Ex.tup [Ex.tup [Ex.const (PyData.str { cps := #[116, 101, 108, 108] })]],
                 Ex.tup [Ex.tup [Ex.const (PyData.str { cps := #[112, 117, 116] })]],
                 Ex.tup [Ex.tup [Ex.const (PyData.str { cps := #[115, 101, 110, 100] }), Ex.const (PyData.str { cps := #[109] }), Ex.const (PyData.str { cps := #[98, 97, 114, 101] })]],
                 Ex.tup [Ex.tup [Ex.const (PyData.str { cps := #[115, 101, 110, 100] }), Ex.const (PyData.str { cps := #[110] }), Ex.const (PyData.str { cps := #[118, 97, 108, 117, 101] })], Ex.tup [Ex.const (PyData.str { cps := #[108, 111, 115, 101] })]]]))
            (Sx.seq
              (Sx.assign
                (Tx.name 5)
                (Ex.bin
                  (Bop.add)
                  (Ex.var 5)
                  (Ex.lst
                    false
                    [Ex.tup [Ex.tup [Ex.const (PyData.str { cps := #[115, 101, 110, 100] }), Ex.const (PyData.str { cps := #[109] }), Ex.const (PyData.str { cps := #[118, 97, 108, 117, 101] })]],
                     Ex.tup [Ex.tup [Ex.const (PyData.str { cps := #[112, 117, 116] })], Ex.tup [Ex.const (PyData.str { cps := #[115, 101, 110, 100] }), Ex.const (PyData.str { cps := #[110] }), Ex.const (PyData.str { cps := #[118, 97, 108, 117, 101] })]]])))
              (Sx.seq
                (Sx.assign
                  (Tx.name 6)
                  (Ex.lst
                    true
                    [Ex.tup [Ex.tup [Ex.const (PyData.str { cps := #[107, 101, 101, 112] })]],
                     Ex.tup [Ex.tup [Ex.const (PyData.str { cps := #[111, 119, 110] })], Ex.tup [Ex.const (PyData.str { cps := #[115, 101, 110, 100] }), Ex.const (PyData.str { cps := #[109] }), Ex.const (PyData.str { cps := #[118, 97, 108, 117, 101] })]],
                     Ex.tup [Ex.tup [Ex.const (PyData.str { cps := #[115, 104, 97, 114, 101] })], Ex.tup [Ex.const (PyData.str { cps := #[115, 101, 110, 100] }), Ex.const (PyData.str { cps := #[110] }), Ex.const (PyData.str { cps := #[118, 97, 108, 117, 101] })]],
                     Ex.tup [Ex.tup [Ex.const (PyData.str { cps := #[102, 111, 114, 103, 101, 116] })]]]))
                (Sx.seq
                  (Sx.assign
                    (Tx.name 6)
                    (Ex.cell
                      (Ex.bin
                        (Bop.add)
                        (Ex.var 6)
                        (Ex.lst
                          false
                          [Ex.tup [Ex.tup [Ex.const (PyData.str { cps := #[111, 116, 104, 101, 114, 115] }), Ex.const (PyData.str { cps := #[110] }), Ex.const (PyData.str { cps := #[98, 97, 114, 101] })], Ex.tup [Ex.const (PyData.str { cps := #[107, 101, 101, 112] })]],
                           Ex.tup [Ex.tup [Ex.const (PyData.str { cps := #[111, 119, 110, 101, 114] }), Ex.const (PyData.str { cps := #[109] }), Ex.const (PyData.str { cps := #[118, 97, 108, 117, 101] })], Ex.tup [Ex.const (PyData.str { cps := #[99, 108, 101, 97, 114] })]]]))))
                  (Sx.seq
                    (Sx.expr (Ex.mut (Mt.append) (Ex.var 6) [Ex.tup [Ex.tup [Ex.const (PyData.str { cps := #[115, 101, 110, 100] }), Ex.const (PyData.str { cps := #[109] }), Ex.const (PyData.str { cps := #[98, 97, 114, 101] })]]]))
                    (Sx.seq
                      (Sx.assign (Tx.name 7) (Ex.lst true []))
                      (Sx.seq
                        (Sx.for
                          false
                          [8]
                          true
                          (Wk.rng1)
                          [Ex.const (PyData.int 15)]
                          (Sx.seq
                            (Sx.assign (Tx.name 9) (Ex.idx (Ex.var 1) (Ex.bin (Bop.add) (Ex.const (PyData.int 3)) (Ex.var 8))))
                            (Sx.seq
                              (Sx.assign
                                (Tx.name 10)
                                (Ex.idx
                                  (Ex.lst false [Ex.const (PyData.str { cps := #[114, 101, 97, 100] }), Ex.const (PyData.str { cps := #[119, 114, 105, 116, 101] }), Ex.const (PyData.str { cps := #[100, 114, 111, 112] }), Ex.const (PyData.str { cps := #[109] }), Ex.const (PyData.str { cps := #[110] })])
                                  (Ex.bin (Bop.mod) (Ex.var 8) (Ex.const (PyData.int 5)))))
                              (Sx.seq
                                (Sx.assign (Tx.name 11) (Ex.idx (Ex.idx (Ex.lst false [Ex.var 5, Ex.var 4]) (Ex.bf (Bf.int) [Ex.cmp (Cop.gt) (Ex.bin (Bop.mod) (Ex.var 8) (Ex.const (PyData.int 5))) (Ex.const (PyData.int 2))])) (Ex.bin (Bop.mod) (Ex.var 9) (Ex.const (PyData.int 7)))))
                                (Sx.ite
                                  (Bx.or (Bx.tru (Ex.cmp (Cop.gt) (Ex.bin (Bop.fdiv) (Ex.var 9) (Ex.const (PyData.int 21))) (Ex.const (PyData.int 0)))) (Bx.tru (Ex.cmp (Cop.gt) (Ex.bin (Bop.mod) (Ex.var 8) (Ex.const (PyData.int 5))) (Ex.const (PyData.int 2)))))
                                  (Sx.expr
                                    (Ex.mut
                                      (Mt.append)
                                      (Ex.var 7)
                                      [Ex.tup
                                         [Ex.const (PyData.str { cps := #[104, 97, 110, 100] }),
                                          Ex.idx (Ex.lst false [Ex.const (PyData.str { cps := #[97] }), Ex.const (PyData.str { cps := #[98] }), Ex.const (PyData.str { cps := #[99] })]) (Ex.bin (Bop.fdiv) (Ex.var 8) (Ex.const (PyData.int 5))),
                                          Ex.var 10,
                                          Ex.idx (Ex.lst false [Ex.const (PyData.str { cps := #[97] }), Ex.const (PyData.str { cps := #[98] }), Ex.const (PyData.str { cps := #[99] })]) (Ex.bin (Bop.mod) (Ex.bin (Bop.fdiv) (Ex.var 9) (Ex.const (PyData.int 7))) (Ex.const (PyData.int 3))),
                                          Ex.var 11]]))
                                  (Sx.pass))))))
                        (Sx.seq
                          (Sx.for
                            false
                            [8]
                            true
                            (Wk.rng1)
                            [Ex.const (PyData.int 8)]
                            (Sx.seq
                              (Sx.assign (Tx.name 9) (Ex.idx (Ex.var 1) (Ex.bin (Bop.add) (Ex.const (PyData.int 18)) (Ex.var 8))))
                              (Sx.seq
                                (Sx.assign (Tx.name 12) (Ex.idx (Ex.lst false [Ex.const (PyData.str { cps := #[108, 97, 115, 116] }), Ex.const (PyData.str { cps := #[109, 111, 114, 101] })]) (Ex.bin (Bop.mod) (Ex.var 8) (Ex.const (PyData.int 2)))))
                                (Sx.seq
                                  (Sx.assign (Tx.name 13) (Ex.idx (Ex.lst false [Ex.const (PyData.str { cps := #[104] }), Ex.const (PyData.str { cps := #[107] })]) (Ex.bin (Bop.fdiv) (Ex.var 8) (Ex.const (PyData.int 4)))))
                                  (Sx.expr
                                    (Ex.mut
                                      (Mt.append)
                                      (Ex.var 7)
                                      [Ex.tup
                                         [Ex.const (PyData.str { cps := #[104, 111, 117, 115, 101] }),
                                          Ex.var 13,
                                          Ex.idx (Ex.lst false [Ex.const (PyData.str { cps := #[109] }), Ex.const (PyData.str { cps := #[110] })]) (Ex.bin (Bop.mod) (Ex.bin (Bop.fdiv) (Ex.var 8) (Ex.const (PyData.int 2))) (Ex.const (PyData.int 2))),
                                          Ex.var 12,
                                          Ex.idx (Ex.lst false [Ex.const (PyData.str { cps := #[104] }), Ex.const (PyData.str { cps := #[107] })]) (Ex.bin (Bop.mod) (Ex.bin (Bop.fdiv) (Ex.var 9) (Ex.const (PyData.int 7))) (Ex.const (PyData.int 2))),
                                          Ex.idx (Ex.var 6) (Ex.bin (Bop.mod) (Ex.var 9) (Ex.const (PyData.int 7)))]]))))))
                          (Sx.ret (Ex.tup [Ex.var 3, Ex.tup [Ex.const (PyData.str { cps := #[104] }), Ex.const (PyData.str { cps := #[107] })], Ex.bf (Bf.tuple) [Ex.var 7]]))))))))))))))
theorem ds45 : C.ds 45 = ⟨1, 14, b45⟩ := by kernel_rfl
def b46 : Sx := Sx.seq
  (Sx.ite (Bx.tru (Ex.cmp (Cop.eq) (Ex.bin (Bop.mod) (Ex.var 0) (Ex.const (PyData.int 3))) (Ex.const (PyData.int 2)))) (Sx.ret (Ex.call (Cm.frz) 45 [Ex.bin (Bop.fdiv) (Ex.var 0) (Ex.const (PyData.int 3))])) (Sx.pass))
  (Sx.seq
    (Sx.assign (Tx.name 1) (Ex.idx (Ex.lst false [Ex.call (Cm.frz) 42 [], Ex.call (Cm.frz) 43 []]) (Ex.bin (Bop.mod) (Ex.var 0) (Ex.const (PyData.int 3)))))
    (Sx.seq
      (Sx.ite (Bx.tru (Ex.cmp (Cop.eq) (Ex.bin (Bop.mod) (Ex.bin (Bop.fdiv) (Ex.var 0) (Ex.const (PyData.int 3))) (Ex.const (PyData.int 2))) (Ex.const (PyData.int 0)))) (Sx.ret (Ex.var 1)) (Sx.pass))
      (Sx.ret (Ex.call (Cm.frz) 44 [Ex.var 1, Ex.bin (Bop.fdiv) (Ex.var 0) (Ex.const (PyData.int 6))]))))
theorem ds46 : C.ds 46 = ⟨1, 2, b46⟩ := by kernel_rfl
def b47 : Sx := Sx.seq
  (Sx.assign (Tx.name 4) (Ex.call (Cm.frz) 3 [Ex.var 1, Ex.var 2]))
  (Sx.seq
    (Sx.assign (Tx.name 5) (Ex.lst true []))
    (Sx.seq
      (Sx.assign (Tx.name 6) (Ex.lst true []))
      (Sx.seq
        (Sx.for
          false
          [7]
          true
          (Wk.seq)
          [Ex.var 0]
          (Sx.seq
            (Sx.assign (Tx.name 8) (Ex.call (Cm.frz) 37 [Ex.var 1, Ex.var 4, Ex.var 3]))
            (Sx.seq
              (Sx.ite (Bx.tru (Ex.cmp (Cop.eq) (Ex.var 8) (Ex.lst false []))) (Sx.ret (Ex.tup [Ex.var 6, Ex.var 4, Ex.var 5, Ex.const (PyData.none)])) (Sx.pass))
              (Sx.seq
                (Sx.assign (Tx.name 9) (Ex.idx (Ex.var 8) (Ex.bin (Bop.mod) (Ex.var 7) (Ex.bf (Bf.len) [Ex.var 8]))))
                (Sx.seq
                  (Sx.ite
                    (Bx.tru (Ex.cmp (Cop.eq) (Ex.bf (Bf.len) [Ex.var 9]) (Ex.const (PyData.int 4))))
                    (Sx.assign
                      (Tx.name 9)
                      (Ex.bin
                        (Bop.add)
                        (Ex.slice (Ex.var 9) none (some (Ex.const (PyData.int 3))))
                        (Ex.tup
                          [Ex.bin
                             (Bop.add)
                             (Ex.bin
                               (Bop.sub)
                               (Ex.bin (Bop.mod) (Ex.bin (Bop.fdiv) (Ex.var 7) (Ex.const (PyData.int 3))) (Ex.bin (Bop.sub) (Ex.bin (Bop.mul) (Ex.const (PyData.int 2)) (Ex.bin (Bop.pow) (Ex.const (PyData.int 10)) (Ex.const (PyData.int 40)))) (Ex.const (PyData.int 1))))
                               (Ex.bin (Bop.pow) (Ex.const (PyData.int 10)) (Ex.const (PyData.int 40))))
                             (Ex.const (PyData.int 1))])))
                    (Sx.pass))
                  (Sx.seq
                    (Sx.expr (Ex.mut (Mt.append) (Ex.var 6) [Ex.var 9]))
                    (Sx.seq
                      (Sx.unpack [Tx.name 4, Tx.name 10, Tx.name 11] (Ex.call (Cm.frz) 38 [Ex.var 1, Ex.var 4, Ex.var 9]))
                      (Sx.seq
                        (Sx.ite (Bx.tru (Ex.cmp (Cop.isnot) (Ex.var 11) (Ex.const (PyData.none)))) (Sx.ret (Ex.tup [Ex.var 6, Ex.var 4, Ex.var 5, Ex.var 11])) (Sx.pass))
                        (Sx.ite (Bx.tru (Ex.cmp (Cop.isnot) (Ex.var 10) (Ex.const (PyData.none)))) (Sx.expr (Ex.mut (Mt.append) (Ex.var 5) [Ex.var 10])) (Sx.pass))))))))))
        (Sx.ret (Ex.tup [Ex.var 6, Ex.var 4, Ex.var 5, Ex.const (PyData.none)])))))
theorem ds47 : C.ds 47 = ⟨4, 12, b47⟩ := by kernel_rfl
def b48 : Sx := Sx.seq (Sx.assign (Tx.name 3) (Ex.const (PyData.bool false))) (Sx.seq (Sx.tr none (Ex.call (Cm.frz) 39 [Ex.var 0, Ex.var 1, Ex.var 2]) [(6, true)] (Hd.flag 3 (PyData.bool true))) (Sx.ret (Ex.var 3)))
theorem ds48 : C.ds 48 = ⟨3, 4, b48⟩ := by kernel_rfl
def b49 : Sx := Sx.seq
  (Sx.assign (Tx.name 2) (Ex.cell (Ex.bf (Bf.lrng) [Ex.var 1])))
  (Sx.seq
    (Sx.assign (Tx.name 3) (Ex.lst true []))
    (Sx.seq
      (Sx.while 100000 (Bx.tru (Ex.cmp (Cop.ne) (Ex.var 2) (Ex.lst false []))) (Sx.seq (Sx.expr (Ex.mut (Mt.append) (Ex.var 3) [Ex.mut (Mt.popAt) (Ex.var 2) [Ex.bin (Bop.mod) (Ex.var 0) (Ex.bf (Bf.len) [Ex.var 2])]])) (Sx.assign (Tx.name 0) (Ex.bin (Bop.fdiv) (Ex.var 0) (Ex.const (PyData.int 10))))))
      (Sx.ret (Ex.var 3))))
theorem ds49 : C.ds 49 = ⟨2, 4, b49⟩ := by kernel_rfl
def b50 : Sx := Sx.seq
  (Sx.assign (Tx.name 1) (Ex.call (Cm.frz) 46 [Ex.call (Cm.frz) 40 [Ex.var 0, Ex.const (PyData.int 0)]]))
  (Sx.seq
    (Sx.assign (Tx.name 2) (Ex.bin (Bop.add) (Ex.const (PyData.int 1)) (Ex.bin (Bop.mod) (Ex.call (Cm.frz) 40 [Ex.var 0, Ex.const (PyData.int 1)]) (Ex.const (PyData.int 6)))))
    (Sx.seq
      (Sx.assign (Tx.name 3) (Ex.call (Cm.frz) 49 [Ex.call (Cm.frz) 40 [Ex.var 0, Ex.const (PyData.int 2)], Ex.var 2]))
      (Sx.seq
        (Sx.assign (Tx.name 4) (Ex.cmp (Cop.eq) (Ex.bin (Bop.mod) (Ex.bin (Bop.fdiv) (Ex.call (Cm.frz) 40 [Ex.var 0, Ex.const (PyData.int 1)]) (Ex.const (PyData.int 6))) (Ex.const (PyData.int 2))) (Ex.const (PyData.int 0))))
        (Sx.seq
          (Sx.unpack [Tx.name 12, Tx.name 13, Tx.name 14, Tx.name 15] (Ex.call (Cm.frz) 47 [Ex.slice (Ex.var 0) (some (Ex.const (PyData.int 3))) (some (Ex.const (PyData.int 53))), Ex.var 1, Ex.var 2, Ex.var 4]))
          (Sx.seq
            (Sx.assign (Tx.name 5) (Ex.bf (Bf.list) [Ex.var 12]))
            (Sx.seq
              (Sx.assign (Tx.name 6) (Ex.call (Cm.frz) 39 [Ex.var 1, Ex.var 2, Ex.var 5]))
              (Sx.seq
                (Sx.ite
                  (Bx.or (Bx.tru (Ex.cmp (Cop.ne) (Ex.var 6) (Ex.tup [Ex.var 13, Ex.var 14, Ex.var 15]))) (Bx.or (Bx.tru (Ex.cmp (Cop.ne) (Ex.var 5) (Ex.var 12))) (Bx.not (Bx.tru (Ex.bf (Bf.isa (Ty.list)) [Ex.idx (Ex.var 6) (Ex.const (PyData.int 1))])))))
                  (Sx.ret (Ex.const (PyData.bool false)))
                  (Sx.pass))
                (Sx.seq
                  (Sx.assign (Tx.name 7) (Ex.tup [Ex.var 13, Ex.var 14, Ex.var 15]))
                  (Sx.seq
                    (Sx.ite
                      (Bx.and
                        (Bx.tru (Ex.cmp (Cop.isnot) (Ex.var 15) (Ex.const (PyData.none))))
                        (Bx.tru (Ex.cmp (Cop.ne) (Ex.call (Cm.frz) 39 [Ex.var 1, Ex.var 2, Ex.bin (Bop.add) (Ex.var 12) (Ex.lst false [Ex.tup [Ex.const (PyData.str { cps := #[97, 115, 107] }), Ex.const (PyData.int 0), Ex.const (PyData.str { cps := #[100, 114, 111, 112] })]])]) (Ex.var 7))))
                      (Sx.ret (Ex.const (PyData.bool false)))
                      (Sx.pass))
                    (Sx.seq
                      (Sx.assign (Tx.name 8) (Ex.bin (Bop.mod) (Ex.bin (Bop.fdiv) (Ex.call (Cm.frz) 40 [Ex.var 0, Ex.const (PyData.int 2)]) (Ex.const (PyData.int 7))) (Ex.bin (Bop.add) (Ex.bf (Bf.len) [Ex.var 12]) (Ex.const (PyData.int 1)))))
                      (Sx.seq
                        (Sx.assign
                          (Tx.name 9)
                          (Ex.idx
                            (Ex.lst
                              false
                              [Ex.tup [Ex.const (PyData.str { cps := #[116, 97, 107, 101] }), Ex.const (PyData.int 0), Ex.const (PyData.int 9)],
                               Ex.tup [Ex.const (PyData.str { cps := #[103, 101, 116] }), Ex.bin (Bop.sub) (Ex.var 2) (Ex.const (PyData.int 1)), Ex.neg (Ex.const (PyData.int 1))],
                               Ex.tup [Ex.const (PyData.str { cps := #[97, 115, 107] }), Ex.var 2, Ex.const (PyData.str { cps := #[100, 114, 111, 112] })],
                               Ex.tup [Ex.const (PyData.str { cps := #[116, 97, 107, 101] }), Ex.neg (Ex.const (PyData.int 1)), Ex.const (PyData.int 0)]])
                            (Ex.bin (Bop.mod) (Ex.bf (Bf.len) [Ex.var 12]) (Ex.const (PyData.int 4)))))
                        (Sx.seq
                          (Sx.ite
                            (Bx.tru
                              (Ex.cmp
                                (Cop.ne)
                                (Ex.call (Cm.frz) 48 [Ex.var 1, Ex.var 2, Ex.bin (Bop.add) (Ex.bin (Bop.add) (Ex.slice (Ex.var 12) none (some (Ex.var 8))) (Ex.lst false [Ex.var 9])) (Ex.slice (Ex.var 12) (some (Ex.var 8)) none)])
                                (Ex.or (Ex.cmp (Cop.is_) (Ex.var 15) (Ex.const (PyData.none))) (Ex.cmp (Cop.lt) (Ex.var 8) (Ex.bf (Bf.len) [Ex.var 12])))))
                            (Sx.ret (Ex.const (PyData.bool false)))
                            (Sx.pass))
                          (Sx.seq
                            (Sx.assign
                              (Tx.name 10)
                              (Ex.comp
                                [16]
                                false
                                false
                                [16]
                                true
                                (Wk.seq)
                                [Ex.var 12]
                                none
                                (Ex.bin (Bop.add) (Ex.bin (Bop.add) (Ex.slice (Ex.var 16) none (some (Ex.const (PyData.int 1)))) (Ex.tup [Ex.lm (Lm.index) (Ex.var 3) [Ex.idx (Ex.var 16) (Ex.const (PyData.int 1))]])) (Ex.slice (Ex.var 16) (some (Ex.const (PyData.int 2))) none))))
                            (Sx.seq
                              (Sx.assign (Tx.name 11) (Ex.comp [17, 18, 19] false false [17, 18, 19] false (Wk.seq) [Ex.var 14] none (Ex.tup [Ex.var 17, Ex.lm (Lm.index) (Ex.var 3) [Ex.var 18], Ex.var 19])))
                              (Sx.ret (Ex.cmp (Cop.eq) (Ex.call (Cm.frz) 39 [Ex.var 1, Ex.var 2, Ex.var 10]) (Ex.tup [Ex.call (Cm.frz) 6 [Ex.var 13, Ex.var 3], Ex.var 11, Ex.var 15])))))))))))))))))
theorem ds50 : C.ds 50 = ⟨1, 20, b50⟩ := by kernel_rfl
end K23

set_option maxRecDepth 100000
namespace K23
open PySem Cc
def ix : Cg.Ix := ⟨0, 1, 2, 3, 4, 5, 6, 7, 8, 9, 10, 11, 12, 13, 14, 15, 16, 20, 21, 22, 23, 24, 25, 26, 27, 28, 29, 30, 31, 32, 33, 34, 35, 36, 37, 38, 39, 0, 2, 3, 4, 6⟩
theorem has : Cg.Has C ix := ⟨by kernel_rfl, by kernel_rfl, by kernel_rfl, by kernel_rfl, by kernel_rfl, by kernel_rfl, by kernel_rfl, by kernel_rfl, by kernel_rfl, by kernel_rfl, by kernel_rfl, by kernel_rfl, by kernel_rfl, by kernel_rfl, by kernel_rfl, by kernel_rfl, by kernel_rfl, by kernel_rfl, by kernel_rfl, by kernel_rfl, by kernel_rfl, by kernel_rfl, by kernel_rfl, by kernel_rfl, by kernel_rfl, by kernel_rfl, by kernel_rfl, by kernel_rfl, by kernel_rfl, by kernel_rfl, by decide, by decide, by decide, by decide, by decide, by decide, by decide, by decide, by decide, by decide, by decide, by decide, by decide, by decide, by decide, by decide, by decide, by decide, by decide, by decide, by decide, by decide, by decide, by decide, by decide, by decide, by decide, by decide, by decide, by decide, by decide, by decide, by decide, by decide, by decide, by decide, by kernel_rfl, by kernel_rfl, by kernel_rfl, by kernel_rfl, by kernel_rfl, by kernel_rfl, by kernel_rfl, by kernel_rfl, by kernel_rfl, by kernel_rfl, by kernel_rfl, by kernel_rfl, by kernel_rfl, by kernel_rfl, by kernel_rfl, by kernel_rfl, by kernel_rfl, by kernel_rfl, by kernel_rfl, by kernel_rfl, by kernel_rfl, by kernel_rfl, by kernel_rfl, by kernel_rfl, by kernel_rfl, by kernel_rfl, by kernel_rfl, by kernel_rfl, by kernel_rfl, by kernel_rfl, by kernel_rfl, by kernel_rfl, by kernel_rfl, by kernel_rfl, by kernel_rfl, by kernel_rfl⟩
theorem hasP : Cg.HasP C ix := ⟨has, by kernel_rfl, by kernel_rfl, by decide, by decide⟩
theorem hasM : Cg.HasM C ix := ⟨has, by kernel_rfl, by kernel_rfl, by kernel_rfl, by kernel_rfl, by decide, by decide, by decide, by decide, by decide, by decide, by decide, by decide⟩
theorem hasN : Cg.HasN C ix := ⟨has, by kernel_rfl⟩
end K23

set_option maxRecDepth 100000
namespace K23
open PySem Cc Cg
theorem ds49o : C.ds 49 = ⟨2, 4, ordB⟩ := by kernel_rfl
theorem ds48r : C.ds 48 = ⟨3, 4, refB ix [(6, true)]⟩ := by kernel_rfl
theorem ds47r : C.ds 47 = ⟨4, 12, runB ix⟩ := by kernel_rfl
end K23

set_option linter.all false
set_option maxRecDepth 100000
set_option maxHeartbeats 4000000
namespace K23
open PySem hiding Env listOf
open Cc Cg
abbrev s_idle : Str := ⟨#[105, 100, 108, 101]⟩
abbrev s_asks : Str := ⟨#[97, 115, 107, 115]⟩
abbrev s_has : Str := ⟨#[104, 97, 115]⟩
abbrev s_home : Str := ⟨#[104, 111, 109, 101]⟩
abbrev s_give : Str := ⟨#[103, 105, 118, 101]⟩
abbrev s_bare : Str := ⟨#[98, 97, 114, 101]⟩
def readers : Tb := ⟨[(s_idle, w_none), (s_asks, w_none), (s_has, w_read)], [s_home],
  [⟨w_hand, s_idle, w_read, s_asks, none, [[w_send, w_ask, s_bare]]⟩, ⟨w_hand, s_asks, s_give, s_has, none, [[w_keep], [w_tell]]⟩, ⟨w_hand, s_has, w_read, s_has, none, [[w_tell]]⟩,
   ⟨w_hand, s_has, w_drop, s_idle, none, [[w_lose]]⟩, ⟨w_house, s_home, w_ask, w_any, some s_home, [[w_send, s_give, w_value]]⟩]⟩
theorem readers_ok : readers.rs.all rwB = true := by decide +kernel
theorem readers_eqn {n : Nat} (hn : 43 < n) (s : Store) : callM .frz (C.Φ n 43) [] s = .ok (.d (encT readers)) s := by
  refine Cg.callf (xs := []) (by simp) (phi_ok hn ds43 rfl ?_)
  unfold b43
  simp [startE, Ok_bind, newLst, sizeLine, isLstC, mutW, chg, appC, appL, mkTupW, mkTup, bfD, one1, bfTuple, seqOf]
  rfl
end K23

set_option linter.all false
set_option maxRecDepth 100000
set_option maxHeartbeats 4000000
namespace K23
open PySem hiding Env listOf
open Cc Cg
abbrev s_wait : Str := ⟨#[119, 97, 105, 116]⟩
abbrev s_mine : Str := ⟨#[109, 105, 110, 101]⟩
abbrev s_get : Str := ⟨#[103, 101, 116]⟩
abbrev s_call : Str := ⟨#[99, 97, 108, 108]⟩
abbrev s_back : Str := ⟨#[98, 97, 99, 107]⟩
abbrev s_out : Str := ⟨#[111, 117, 116]⟩
abbrev s_calls : Str := ⟨#[99, 97, 108, 108, 115]⟩
def oneCopy : Tb := ⟨[(s_idle, w_none), (s_wait, w_none), (s_mine, w_write)], [s_home, s_out, s_calls],
  [⟨w_hand, s_idle, w_write, s_wait, none, [[w_send, s_get, s_bare]]⟩, ⟨w_hand, s_wait, s_give, s_mine, none, [[w_keep], [w_put]]⟩, ⟨w_hand, s_mine, w_write, s_mine, none, [[w_put]]⟩,
   ⟨w_hand, s_mine, w_read, s_mine, none, [[w_tell]]⟩, ⟨w_hand, s_mine, s_call, s_idle, none, [[w_send, s_back, w_value], [w_lose]]⟩,
   ⟨w_house, s_home, s_get, w_any, some s_out, [[w_own], [w_send, s_give, w_value]]⟩, ⟨w_house, s_out, s_get, w_any, some s_calls, [[w_owner, s_call, s_bare], [w_stay]]⟩,
   ⟨w_house, s_calls, s_get, w_any, some s_calls, [[w_wait]]⟩, ⟨w_house, s_calls, s_back, w_any, some s_home, [[w_keep], [w_clear]]⟩]⟩
theorem oneCopy_ok : oneCopy.rs.all rwB = true := by decide +kernel
theorem oneCopy_eqn {n : Nat} (hn : 42 < n) (s : Store) : callM .frz (C.Φ n 42) [] s = .ok (.d (encT oneCopy)) s := by
  refine Cg.callf (xs := []) (by simp) (phi_ok hn ds42 rfl ?_)
  unfold b42
  simp [startE, Ok_bind, newLst, sizeLine, isLstC, mutW, chg, appC, appL, mkTupW, mkTup, bfD, one1, bfTuple, seqOf]
  rfl
end K23

set_option linter.all false
set_option maxRecDepth 100000
set_option maxHeartbeats 4000000
/-! k23: a free table. -/
namespace K23
open PySem hiding Env listOf
open Cc Cg
abbrev s_a : Str := ⟨#[97]⟩
abbrev s_b : Str := ⟨#[98]⟩
abbrev s_c : Str := ⟨#[99]⟩
abbrev s_m : Str := ⟨#[109]⟩
abbrev s_n : Str := ⟨#[110]⟩
abbrev s_h : Str := ⟨#[104]⟩
abbrev s_k : Str := ⟨#[107]⟩
abbrev s_lst : Str := ⟨#[108, 97, 115, 116]⟩
abbrev s_more : Str := ⟨#[109, 111, 114, 101]⟩
def lettersL : List (List Ac) := [[], [[w_keep]], [[w_keep], [w_tell]], [[w_keep], [w_put]], [[w_put], [w_keep]], [[w_keep], [w_send, s_n, w_value]], [[w_lose], [w_send, s_m, w_value]]]
def asksL : List (List Ac) := [[], [[w_tell]], [[w_put]], [[w_send, s_m, s_bare]], [[w_send, s_n, w_value], [w_lose]], [[w_send, s_m, w_value]], [[w_put], [w_send, s_n, w_value]]]
def houseL : List (List Ac) := [[[w_keep]], [[w_own], [w_send, s_m, w_value]], [[w_share], [w_send, s_n, w_value]], [[w_forget]], [[w_others, s_n, s_bare], [w_keep]], [[w_owner, s_m, w_value], [w_clear]], [[w_send, s_m, s_bare]]]
def eventsL : List Str := [w_read, w_write, w_drop, s_m, s_n]
def abcL : List Str := [s_a, s_b, s_c]
def hkL : List Str := [s_h, s_k]
def mnL : List Str := [s_m, s_n]
def whenL : List Str := [s_lst, s_more]
theorem hand_good : (abcL.all fun x => eventsL.all fun ev => abcL.all fun y => (asksL ++ lettersL).all fun as => gB ⟨w_hand, x, ev, y, none, as⟩) = true := by decide +kernel
theorem house_good : (hkL.all fun x => mnL.all fun k => whenL.all fun w => hkL.all fun y => houseL.all fun as => gB ⟨w_house, x, k, w, some y, as⟩) = true := by decide +kernel
theorem handG {x ev y : Str} {as : List Ac} (h1 : x ∈ abcL) (h2 : ev ∈ eventsL) (h3 : y ∈ abcL) (h4 : as ∈ asksL ++ lettersL) : GR ⟨w_hand, x, ev, y, none, as⟩ := by
  have := hand_good
  simp only [List.all_eq_true] at this
  exact gB_ok (this x h1 ev h2 y h3 as h4)
theorem houseG {x k w y : Str} {as : List Ac} (h1 : x ∈ hkL) (h2 : k ∈ mnL) (h3 : w ∈ whenL) (h4 : y ∈ hkL) (h5 : as ∈ houseL) : GR ⟨w_house, x, k, w, some y, as⟩ := by
  have := house_good
  simp only [List.all_eq_true] at this
  exact gB_ok (this x h1 k h2 w h3 y h4 as h5)
/-- an item of a row, by a number -/
theorem pickS {xs : List Str} {v : Int} (h0 : 0 ≤ v) (h : v < xs.length) : ∃ x, x ∈ xs ∧ ∀ s, idxW s (.d (.list (xs.map .str))) (.d (.int v)) = some (.d (.str x)) := by
  obtain ⟨x, hx, e⟩ := pick (xs := xs) h0 h
  refine ⟨x, hx, fun s => ?_⟩
  simp [e]
theorem pickA {xs : List (List Ac)} {v : Int} (h0 : 0 ≤ v) (h : v < xs.length) : ∃ x, x ∈ xs ∧ ∀ s, idxW s (.d (.list (xs.map encAs))) (.d (.int v)) = some (.d (encAs x)) := by
  obtain ⟨x, hx, e⟩ := pick (xs := xs) h0 h
  refine ⟨x, hx, fun s => ?_⟩
  simp [e]
def freeC : Ex := Ex.comp
             [8]
             false
             false
             [8]
             true
             (Wk.rng1)
             [Ex.const (PyData.int 3)]
             none
             (Ex.tup
               [Ex.idx (Ex.lst false [Ex.const (PyData.str { cps := #[97] }), Ex.const (PyData.str { cps := #[98] }), Ex.const (PyData.str { cps := #[99] })]) (Ex.var 8),
                Ex.bin
                  (Bop.add)
                  (Ex.bin (Bop.mul) (Ex.idx (Ex.var 2) (Ex.bin (Bop.mod) (Ex.idx (Ex.var 1) (Ex.var 8)) (Ex.const (PyData.int 4)))) (Ex.bf (Bf.int) [Ex.cmp (Cop.gt) (Ex.var 8) (Ex.const (PyData.int 0))]))
                  (Ex.bin (Bop.mul) (Ex.const (PyData.str { cps := #[110, 111, 110, 101] })) (Ex.bf (Bf.int) [Ex.cmp (Cop.eq) (Ex.var 8) (Ex.const (PyData.int 0))]))])
def freeH : Sx := (Sx.seq
                            (Sx.assign (Tx.name 9) (Ex.idx (Ex.var 1) (Ex.bin (Bop.add) (Ex.const (PyData.int 3)) (Ex.var 8))))
                            (Sx.seq
                              (Sx.assign
                                (Tx.name 10)
                                (Ex.idx
                                  (Ex.lst false [Ex.const (PyData.str { cps := #[114, 101, 97, 100] }), Ex.const (PyData.str { cps := #[119, 114, 105, 116, 101] }), Ex.const (PyData.str { cps := #[100, 114, 111, 112] }), Ex.const (PyData.str { cps := #[109] }), Ex.const (PyData.str { cps := #[110] })])
                                  (Ex.bin (Bop.mod) (Ex.var 8) (Ex.const (PyData.int 5)))))
                              (Sx.seq
                                (Sx.assign (Tx.name 11) (Ex.idx (Ex.idx (Ex.lst false [Ex.var 5, Ex.var 4]) (Ex.bf (Bf.int) [Ex.cmp (Cop.gt) (Ex.bin (Bop.mod) (Ex.var 8) (Ex.const (PyData.int 5))) (Ex.const (PyData.int 2))])) (Ex.bin (Bop.mod) (Ex.var 9) (Ex.const (PyData.int 7)))))
                                (Sx.ite
                                  (Bx.or (Bx.tru (Ex.cmp (Cop.gt) (Ex.bin (Bop.fdiv) (Ex.var 9) (Ex.const (PyData.int 21))) (Ex.const (PyData.int 0)))) (Bx.tru (Ex.cmp (Cop.gt) (Ex.bin (Bop.mod) (Ex.var 8) (Ex.const (PyData.int 5))) (Ex.const (PyData.int 2)))))
                                  (Sx.expr
                                    (Ex.mut
                                      (Mt.append)
                                      (Ex.var 7)
                                      [Ex.tup
                                         [Ex.const (PyData.str { cps := #[104, 97, 110, 100] }),
                                          Ex.idx (Ex.lst false [Ex.const (PyData.str { cps := #[97] }), Ex.const (PyData.str { cps := #[98] }), Ex.const (PyData.str { cps := #[99] })]) (Ex.bin (Bop.fdiv) (Ex.var 8) (Ex.const (PyData.int 5))),
                                          Ex.var 10,
                                          Ex.idx (Ex.lst false [Ex.const (PyData.str { cps := #[97] }), Ex.const (PyData.str { cps := #[98] }), Ex.const (PyData.str { cps := #[99] })]) (Ex.bin (Bop.mod) (Ex.bin (Bop.fdiv) (Ex.var 9) (Ex.const (PyData.int 7))) (Ex.const (PyData.int 3))),
                                          Ex.var 11]]))
                                  (Sx.pass)))))
def freeK : Sx := (Sx.seq
                              (Sx.assign (Tx.name 9) (Ex.idx (Ex.var 1) (Ex.bin (Bop.add) (Ex.const (PyData.int 18)) (Ex.var 8))))
                              (Sx.seq
                                (Sx.assign (Tx.name 12) (Ex.idx (Ex.lst false [Ex.const (PyData.str { cps := #[108, 97, 115, 116] }), Ex.const (PyData.str { cps := #[109, 111, 114, 101] })]) (Ex.bin (Bop.mod) (Ex.var 8) (Ex.const (PyData.int 2)))))
                                (Sx.seq
                                  (Sx.assign (Tx.name 13) (Ex.idx (Ex.lst false [Ex.const (PyData.str { cps := #[104] }), Ex.const (PyData.str { cps := #[107] })]) (Ex.bin (Bop.fdiv) (Ex.var 8) (Ex.const (PyData.int 4)))))
                                  (Sx.expr
                                    (Ex.mut
                                      (Mt.append)
                                      (Ex.var 7)
                                      [Ex.tup
                                         [Ex.const (PyData.str { cps := #[104, 111, 117, 115, 101] }),
                                          Ex.var 13,
                                          Ex.idx (Ex.lst false [Ex.const (PyData.str { cps := #[109] }), Ex.const (PyData.str { cps := #[110] })]) (Ex.bin (Bop.mod) (Ex.bin (Bop.fdiv) (Ex.var 8) (Ex.const (PyData.int 2))) (Ex.const (PyData.int 2))),
                                          Ex.var 12,
                                          Ex.idx (Ex.lst false [Ex.const (PyData.str { cps := #[104] }), Ex.const (PyData.str { cps := #[107] })]) (Ex.bin (Bop.mod) (Ex.bin (Bop.fdiv) (Ex.var 9) (Ex.const (PyData.int 7))) (Ex.const (PyData.int 2))),
                                          Ex.idx (Ex.var 6) (Ex.bin (Bop.mod) (Ex.var 9) (Ex.const (PyData.int 7)))]])))))
theorem b45_eq : b45 = Sx.seq
  (Sx.assign (Tx.name 1) (Ex.call (Cm.frz) 41 [Ex.var 0, Ex.const (PyData.int 64), Ex.const (PyData.int 30)]))
  (Sx.seq
    (Sx.assign (Tx.name 2) (Ex.lst false [Ex.const (PyData.str { cps := #[110, 111, 110, 101] }), Ex.const (PyData.str { cps := #[110, 111, 110, 101] }), Ex.const (PyData.str { cps := #[114, 101, 97, 100] }), Ex.const (PyData.str { cps := #[119, 114, 105, 116, 101] })]))
    (Sx.seq
      (Sx.assign
        (Tx.name 3)
        (Ex.bf
          (Bf.tuple)
          [freeC]))
      (Sx.seq
        (Sx.assign
          (Tx.name 4)
          (Ex.lst
            false
            [Ex.tup [],
             Ex.tup [Ex.tup [Ex.const (PyData.str { cps := #[107, 101, 101, 112] })]],
             Ex.tup [Ex.tup [Ex.const (PyData.str { cps := #[107, 101, 101, 112] })], Ex.tup [Ex.const (PyData.str { cps := #[116, 101, 108, 108] })]],
             Ex.tup [Ex.tup [Ex.const (PyData.str { cps := #[107, 101, 101, 112] })], Ex.tup [Ex.const (PyData.str { cps := #[112, 117, 116] })]],
             Ex.tup [Ex.tup [Ex.const (PyData.str { cps := #[112, 117, 116] })], Ex.tup [Ex.const (PyData.str { cps := #[107, 101, 101, 112] })]]]))
        (Sx.seq
          (Sx.assign
            (Tx.name 4)
            (Ex.bin
              (Bop.add)
              (Ex.var 4)
              (Ex.lst
                false
                [Ex.tup [Ex.tup [Ex.const (PyData.str { cps := #[107, 101, 101, 112] })], Ex.tup [Ex.const (PyData.str { cps := #[115, 101, 110, 100] }), Ex.const (PyData.str { cps := #[110] }), Ex.const (PyData.str { cps := #[118, 97, 108, 117, 101] })]],
                 Ex.tup [Ex.tup [Ex.const (PyData.str { cps := #[108, 111, 115, 101] })], Ex.tup [Ex.const (PyData.str { cps := #[115, 101, 110, 100] }), Ex.const (PyData.str { cps := #[109] }), Ex.const (PyData.str { cps := #[118, 97, 108, 117, 101] })]]])))
          (Sx.seq
            (Sx.assign
              (Tx.name 5)
              (Ex.lst
                false
                [Ex.tup [],
                 Ex.tup [Ex.tup [Ex.const (PyData.str { cps := #[116, 101, 108, 108] })]],
                 Ex.tup [Ex.tup [Ex.const (PyData.str { cps := #[112, 117, 116] })]],
                 Ex.tup [Ex.tup [Ex.const (PyData.str { cps := #[115, 101, 110, 100] }), Ex.const (PyData.str { cps := #[109] }), Ex.const (PyData.str { cps := #[98, 97, 114, 101] })]],
                 Ex.tup [Ex.tup [Ex.const (PyData.str { cps := #[115, 101, 110, 100] }), Ex.const (PyData.str { cps := #[110] }), Ex.const (PyData.str { cps := #[118, 97, 108, 117, 101] })], Ex.tup [Ex.const (PyData.str { cps := #[108, 111, 115, 101] })]]]))
            (Sx.seq
              (Sx.assign
                (Tx.name 5)
                (Ex.bin
                  (Bop.add)
                  (Ex.var 5)
                  (Ex.lst
                    false
                    [Ex.tup [Ex.tup [Ex.const (PyData.str { cps := #[115, 101, 110, 100] }), Ex.const (PyData.str { cps := #[109] }), Ex.const (PyData.str { cps := #[118, 97, 108, 117, 101] })]],
                     Ex.tup [Ex.tup [Ex.const (PyData.str { cps := #[112, 117, 116] })], Ex.tup [Ex.const (PyData.str { cps := #[115, 101, 110, 100] }), Ex.const (PyData.str { cps := #[110] }), Ex.const (PyData.str { cps := #[118, 97, 108, 117, 101] })]]])))
              (Sx.seq
                (Sx.assign
                  (Tx.name 6)
                  (Ex.lst
                    true
                    [Ex.tup [Ex.tup [Ex.const (PyData.str { cps := #[107, 101, 101, 112] })]],
                     Ex.tup [Ex.tup [Ex.const (PyData.str { cps := #[111, 119, 110] })], Ex.tup [Ex.const (PyData.str { cps := #[115, 101, 110, 100] }), Ex.const (PyData.str { cps := #[109] }), Ex.const (PyData.str { cps := #[118, 97, 108, 117, 101] })]],
                     Ex.tup [Ex.tup [Ex.const (PyData.str { cps := #[115, 104, 97, 114, 101] })], Ex.tup [Ex.const (PyData.str { cps := #[115, 101, 110, 100] }), Ex.const (PyData.str { cps := #[110] }), Ex.const (PyData.str { cps := #[118, 97, 108, 117, 101] })]],
                     Ex.tup [Ex.tup [Ex.const (PyData.str { cps := #[102, 111, 114, 103, 101, 116] })]]]))
                (Sx.seq
                  (Sx.assign
                    (Tx.name 6)
                    (Ex.cell
                      (Ex.bin
                        (Bop.add)
                        (Ex.var 6)
                        (Ex.lst
                          false
                          [Ex.tup [Ex.tup [Ex.const (PyData.str { cps := #[111, 116, 104, 101, 114, 115] }), Ex.const (PyData.str { cps := #[110] }), Ex.const (PyData.str { cps := #[98, 97, 114, 101] })], Ex.tup [Ex.const (PyData.str { cps := #[107, 101, 101, 112] })]],
                           Ex.tup [Ex.tup [Ex.const (PyData.str { cps := #[111, 119, 110, 101, 114] }), Ex.const (PyData.str { cps := #[109] }), Ex.const (PyData.str { cps := #[118, 97, 108, 117, 101] })], Ex.tup [Ex.const (PyData.str { cps := #[99, 108, 101, 97, 114] })]]]))))
                  (Sx.seq
                    (Sx.expr (Ex.mut (Mt.append) (Ex.var 6) [Ex.tup [Ex.tup [Ex.const (PyData.str { cps := #[115, 101, 110, 100] }), Ex.const (PyData.str { cps := #[109] }), Ex.const (PyData.str { cps := #[98, 97, 114, 101] })]]]))
                    (Sx.seq
                      (Sx.assign (Tx.name 7) (Ex.lst true []))
                      (Sx.seq
                        (Sx.for
                          false
                          [8]
                          true
                          (Wk.rng1)
                          [Ex.const (PyData.int 15)]
                          freeH)
                        (Sx.seq
                          (Sx.for
                            false
                            [8]
                            true
                            (Wk.rng1)
                            [Ex.const (PyData.int 8)]
                            freeK)
                          (Sx.ret (Ex.tup [Ex.var 3, Ex.tup [Ex.const (PyData.str { cps := #[104] }), Ex.const (PyData.str { cps := #[107] })], Ex.bf (Bf.tuple) [Ex.var 7]])))))))))))))) := by kernel_rfl
def rightsW : W := .d (.list [.str w_none, .str w_none, .str w_read, .str w_write])
section
variable {Φ : FT} {M : CTab} {CI : Nat → Option Nat} {FO : Nat → Str → Bool} {XI : Nat → List PyData → Option (List (Str × PyData))}
theorem mul1 {x : Str} : bopD .mul (.str x) (.int 1) = some (.str x) := rfl
theorem mul0 {x : Str} : bopD .mul (.str x) (.int 0) = some (.str ⟨#[]⟩) := rfl
theorem right_len {x : Str} (h : x ∈ [w_none, w_none, w_read, w_write]) : x.length ≤ 5 := by
  simp only [List.mem_cons, List.not_mem_nil, or_false] at h
  rcases h with rfl | rfl | rfl | rfl <;> decide
theorem freeC_eqn {ds : List Int} (hds : Dg 64 30 ds) (e0 : Option W) : ∃ hs : List (Str × Str), hs ≠ [] ∧ (∀ p ∈ hs, SOk p.1) ∧
    runE Φ M CI FO freeC [e0, some (.d (.list (ds.map .int))), some rightsW, none, none, none, none, none, none, none, none, none, none, none] [] = .ok (.d (.list (hs.map encP))) [] := by
  obtain ⟨v0, a0, _, _⟩ := hds.at' (k := 0) (by decide) (by decide)
  obtain ⟨v1, a1, _, _⟩ := hds.at' (k := 1) (by decide) (by decide)
  obtain ⟨v2, a2, _, _⟩ := hds.at' (k := 2) (by decide) (by decide)
  have pk : ∀ v : Int, ∃ x, x.length ≤ 5 ∧ ∀ s, idxW s rightsW (.d (.int (v % 4))) = some (.d (.str x)) := fun v => by
    obtain ⟨x, hx, e⟩ := pickS (xs := [w_none, w_none, w_read, w_write]) (v := v % 4) (by omega) (by show v % 4 < 4; omega)
    exact ⟨x, right_len hx, e⟩
  obtain ⟨x0, l0, p0⟩ := pk v0
  obtain ⟨x1, l1, p1⟩ := pk v1
  obtain ⟨x2, l2, p2⟩ := pk v2
  have key : Ok (runE Φ M CI FO freeC [e0, some (.d (.list (ds.map .int))), some rightsW, none, none, none, none, none, none, none, none, none, none, none] []) fun w t => t = [] ∧ w = .d (.list ([(s_a, (⟨#[]⟩ : Str) ++ w_none), (s_b, x1 ++ ⟨#[]⟩), (s_c, x2 ++ ⟨#[]⟩)].map encP)) := by
    unfold freeC
    have r3 : wRng1 (.d (.int 3)) = some ((List.range 3).map (fun (k : Nat) => W.d (.int (0 + (k : Nat)))), none) := rfl
    simp only [runE_comp, runEs_cons, runEs_nil, runE_const, Res.bind_ok, walkW, r3, Ok_bind]
    refine comp_ok (xs := List.range 3) (fun (k : Nat) => W.d (.int (0 + (k : Nat)))) (fun k => match k with
      | 0 => some (encP (s_a, (⟨#[]⟩ : Str) ++ w_none))
      | 1 => some (encP (s_b, x1 ++ ⟨#[]⟩))
      | _ => some (encP (s_c, x2 ++ ⟨#[]⟩))) rfl (fun k hk => ?_) (by decide) ?_
    · have hk : k = 0 ∨ k = 1 ∨ k = 2 := by have := List.mem_range.mp hk; omega
      rcases hk with rfl | rfl | rfl
      · have q : (⟨#[]⟩ : Str).length + (⟨#[110, 111, 110, 101]⟩ : Str).length ≤ 16777216 := by decide
        simp [wipeE, newLst, sizeLine, a0, p0, mul1, mul0, mkTupW, mkTup, q, encP]
      · have q : x1.length + (⟨#[]⟩ : Str).length ≤ 16777216 := Nat.le_trans (Nat.add_le_add l1 (Nat.le_refl 0)) (by decide)
        simp [wipeE, newLst, sizeLine, a1, p1, mul1, mul0, mkTupW, mkTup, q, encP]
      · have q : x2.length + (⟨#[]⟩ : Str).length ≤ 16777216 := Nat.le_trans (Nat.add_le_add l2 (Nat.le_refl 0)) (by decide)
        simp [wipeE, newLst, sizeLine, a2, p2, mul1, mul0, mkTupW, mkTup, q, encP]
    · rw [if_neg (by decide)]
      exact ⟨rfl, rfl⟩
  obtain ⟨w, t, e, rfl, rfl⟩ := key.ex
  refine ⟨_, by simp, fun p hp => ?_, e⟩
  simp only [List.mem_cons, List.not_mem_nil, or_false] at hp
  rcases hp with rfl | rfl | rfl
  · exact (by decide +kernel : SOk s_a)
  · exact (by decide +kernel : SOk s_b)
  · exact (by decide +kernel : SOk s_c)
/-- what the loops' turns do with the rows -/
def AddR (rs rs' : List Rw) : Prop := rs' = rs ∨ ∃ r, GR r ∧ rs' = rs ++ [r]
def envF (c : Int) (ds : List Int) (hs : List (Str × Str)) (k : Option W) (t : List (Option W)) : Cc.Env := some (.d (.int c)) :: some (.d (.list (ds.map .int))) :: some rightsW :: some (.d (.tuple (hs.map encP))) :: some (.d (.list (lettersL.map encAs))) :: some (.d (.list (asksL.map encAs))) :: some (.ref 1) :: some (.ref 2) :: k :: t
def stF (A : Cell) (rs : List Rw) : Store := [A, .lst (houseL.map encAs), .lst (rs.map encR)]
theorem freeH_ok {ds : List Int} (hds : Dg 64 30 ds) (c : Int) (hs : List (Str × Str)) {k : Nat} (hk : k < 15) {rs : List Rw} (hl : rs.length ≤ 100) (A : Cell) (x9 x10 x11 x12 x13 : Option W) :
    Ok (runS Φ M CI FO XI freeH (envF c ds hs (some (.d (.int (k : Nat)))) [x9, x10, x11, x12, x13]) (stF A rs)) fun p t => p.1 = .next ∧ ∃ rs' y9 y10 y11, AddR rs rs' ∧ p.2 = envF c ds hs (some (.d (.int (k : Nat)))) [y9, y10, y11, x12, x13] ∧ t = stF A rs' := by
  obtain ⟨d, ad, d0, d1⟩ := hds.at' (k := 3 + (k : Int)) (by omega) (by omega)
  obtain ⟨ev, hev, ie⟩ := pickS (xs := eventsL) (v := (k : Int) % 5) (by omega) (by show (k : Int) % 5 < 5; omega)
  obtain ⟨y, hy, iy⟩ := pickS (xs := abcL) (v := d / 7 % 3) (by omega) (by show d / 7 % 3 < 3; omega)
  obtain ⟨x, hx, ix⟩ := pickS (xs := abcL) (v := (k : Int) / 5) (by omega) (by show (k : Int) / 5 < 3; omega)
  obtain ⟨u, hu, iu⟩ := pickA (xs := asksL) (v := d % 7) (by omega) (by show d % 7 < 7; omega)
  obtain ⟨v, hv, iv⟩ := pickA (xs := lettersL) (v := d % 7) (by omega) (by show d % 7 < 7; omega)
  have ie' : ∀ s, idxW s (.d (.list [.str w_read, .str w_write, .str w_drop, .str s_m, .str s_n])) (.d (.int ((k : Int) % 5))) = some (.d (.str ev)) := ie
  have iy' : ∀ s, idxW s (.d (.list [.str s_a, .str s_b, .str s_c])) (.d (.int (d / 7 % 3))) = some (.d (.str y)) := iy
  have ix' : ∀ s, idxW s (.d (.list [.str s_a, .str s_b, .str s_c])) (.d (.int ((k : Int) / 5))) = some (.d (.str x)) := ix
  have g21 : Nat.log2 21 < 9000 := by decide
  have g5 : Nat.log2 5 < 9000 := by decide
  have g7 : Nat.log2 7 < 9000 := by decide
  have ll : rs.length < 16777216 := by omega
  have yes : ∀ as, as ∈ asksL ++ lettersL → ∃ rs', AddR rs rs' ∧ List.map encR rs ++ [PyData.tuple [.str w_hand, .str x, .str ev, .str y, encAs as]] = List.map encR rs' := fun as ha => ⟨_, .inr ⟨_, handG hx hev hy ha, rfl⟩, by simp [encR, Rw.l]⟩
  unfold freeH envF stF
  by_cases h : 2 < (k : Int) % 5
  · by_cases h2 : 0 < d / 21
    all_goals
      simp [Ok_bind, ad, ie', iu, iv, ix', iy', h, h2, newLst, sizeLine, g21, g5, g7, mkTupW, mkTup, isLstC, mutW, chg, appC, appL, ll]
      exact yes v (List.mem_append_right _ hv)
  · by_cases h2 : 0 < d / 21
    all_goals
      simp [Ok_bind, ad, ie', iu, iv, ix', iy', h, h2, newLst, sizeLine, g21, g5, g7, mkTupW, mkTup, isLstC, mutW, chg, appC, appL, ll]
      first | exact yes u (List.mem_append_left _ hu) | exact ⟨rs, .inl rfl, rfl⟩
theorem freeK_ok {ds : List Int} (hds : Dg 64 30 ds) (c : Int) (hs : List (Str × Str)) {k : Nat} (hk : k < 8) {rs : List Rw} (hl : rs.length ≤ 100) (A : Cell) (x9 x10 x11 x12 x13 : Option W) :
    Ok (runS Φ M CI FO XI freeK (envF c ds hs (some (.d (.int (k : Nat)))) [x9, x10, x11, x12, x13]) (stF A rs)) fun p t => p.1 = .next ∧ ∃ rs' y9 y12 y13, AddR rs rs' ∧ p.2 = envF c ds hs (some (.d (.int (k : Nat)))) [y9, x10, x11, y12, y13] ∧ t = stF A rs' := by
  obtain ⟨d, ad, d0, d1⟩ := hds.at' (k := 18 + (k : Int)) (by omega) (by omega)
  obtain ⟨w, hw, iw⟩ := pickS (xs := whenL) (v := (k : Int) % 2) (by omega) (by show (k : Int) % 2 < 2; omega)
  obtain ⟨x, hx, ix⟩ := pickS (xs := hkL) (v := (k : Int) / 4) (by omega) (by show (k : Int) / 4 < 2; omega)
  obtain ⟨e, he, ie⟩ := pickS (xs := mnL) (v := (k : Int) / 2 % 2) (by omega) (by show (k : Int) / 2 % 2 < 2; omega)
  obtain ⟨y, hy, iy⟩ := pickS (xs := hkL) (v := d / 7 % 2) (by omega) (by show d / 7 % 2 < 2; omega)
  obtain ⟨u, hu, au⟩ := pick (xs := houseL) (v := d % 7) (by omega) (by show d % 7 < 7; omega)
  have iw' : ∀ s, idxW s (.d (.list [.str s_lst, .str s_more])) (.d (.int ((k : Int) % 2))) = some (.d (.str w)) := iw
  have ix' : ∀ s, idxW s (.d (.list [.str s_h, .str s_k])) (.d (.int ((k : Int) / 4))) = some (.d (.str x)) := ix
  have ie' : ∀ s, idxW s (.d (.list [.str s_m, .str s_n])) (.d (.int ((k : Int) / 2 % 2))) = some (.d (.str e)) := ie
  have iy' : ∀ s, idxW s (.d (.list [.str s_h, .str s_k])) (.d (.int (d / 7 % 2))) = some (.d (.str y)) := iy
  have iu : idxW [A, .lst (houseL.map encAs), .lst (rs.map encR)] (.ref 1) (.d (.int (d % 7))) = some (.d (encAs u)) := by
    rw [idx_cell (xs := houseL.map encAs) rfl]
    simp [au]
  have g2 : Nat.log2 2 < 9000 := by decide
  have g4 : Nat.log2 4 < 9000 := by decide
  have g7 : Nat.log2 7 < 9000 := by decide
  have ll : rs.length < 16777216 := by omega
  have yes : ∃ rs', AddR rs rs' ∧ List.map encR rs ++ [PyData.tuple [.str w_house, .str x, .str e, .str w, .str y, encAs u]] = List.map encR rs' := ⟨_, .inr ⟨_, houseG hx he hw hy hu, rfl⟩, by simp [encR, Rw.l]⟩
  unfold freeK envF stF
  simp [Ok_bind, ad, iw', ix', ie', iy', iu, newLst, sizeLine, g2, g4, g7, mkTupW, mkTup, isLstC, mutW, chg, appC, appL, ll]
  exact yes
end
def EnvF (c : Int) (ds : List Int) (hs : List (Str × Str)) (e : Cc.Env) : Prop := ∃ x8 x9 x10 x11 x12 x13, e = envF c ds hs x8 [x9, x10, x11, x12, x13]
def RowsF (m : Nat) (rs : List Rw) : Prop := rs.length ≤ m ∧ ∀ r ∈ rs, GR r
theorem RowsF.add {m : Nat} {rs rs' : List Rw} (h : RowsF m rs) (a : AddR rs rs') : RowsF (m + 1) rs' := by
  rcases a with rfl | ⟨r, hr, rfl⟩
  · exact ⟨Nat.le_succ_of_le h.1, h.2⟩
  · refine ⟨by simpa using h.1, fun x hx => ?_⟩
    rcases List.mem_append.mp hx with hx | hx
    · exact h.2 x hx
    · rw [List.mem_singleton.mp hx]; exact hr
theorem loop_rows {c : Int} {ds : List Int} {hs : List (Str × Str)} {A : Cell} {step : W → Cc.Env → Store → Res (Cc.Flow × Cc.Env)} {N n0 m : Nat} {Q : Cc.Flow × Cc.Env → Store → Prop} (s0 : Store)
    (hstep : ∀ k, k < m → ∀ rs, RowsF (n0 + k) rs → ∀ e, EnvF c ds hs e → Ok (step (.d (.int (0 + (k : Nat)))) e (stF A rs)) fun p t => p.1 = .next ∧ ∃ rs', AddR rs rs' ∧ EnvF c ds hs p.2 ∧ t = stF A rs')
    (he : ∀ rs, RowsF (n0 + m) rs → ∀ e, EnvF c ds hs e → Q (.next, e) (stF A rs)) {rs : List Rw} (h0 : RowsF n0 rs) {e : Cc.Env} (hE : EnvF c ds hs e) : Ok (forL (still none s0) false N step (rngW 0 m) e (stF A rs)) Q := by
  refine Ok_for0 _ (fun k e s => ∃ rs, RowsF (n0 + k) rs ∧ EnvF c ds hs e ∧ s = stF A rs) (fun _ _ _ _ => rfl) (fun k w e s hw hI => ?_) (fun e s hI => ?_) _ _ ⟨rs, h0, hE, rfl⟩
  · obtain ⟨rs, h, hE, rfl⟩ := hI
    obtain ⟨hk, rfl⟩ := rngW_at hw
    refine (hstep k hk rs h e hE).mono fun p t q => ?_
    obtain ⟨q1, rs', q2, q3, q4⟩ := q
    rw [q1]
    exact ⟨rs', h.add q2, q3, q4⟩
  · obtain ⟨rs, h, hE, rfl⟩ := hI
    rw [rngW_len] at h
    exact he rs h e hE
theorem hk_ok : ∀ x ∈ hkL, SOk x := by decide +kernel
theorem free_eqn {n : Nat} (hn : 45 < n) (c : Int) : ∃ T, GT T ∧ ∀ s, callM .frz (C.Φ n 45) [.d (.int c)] s = .ok (.d (encT T)) s := by
  have key : Ok (C.Φ n 45 [.d (.int c)] []) fun w t => ∃ y, frzW t w = some y ∧ ∃ T, GT T ∧ y = encT T := by
    refine phi_ok hn ds45 rfl ?_
    obtain ⟨ds, hds, e⟩ := dig_gen ds41 (show 41 < 45 by decide) c 64 30 (by decide) (by decide +kernel) (by decide)
    have e' : ∀ s, callM .frz (C.Φ 45 41) [.d (.int c), .d (.int 64), .d (.int 30)] s = .ok (.d (.list (ds.map .int))) s := e
    obtain ⟨hs, h1, h2, ec⟩ := freeC_eqn (Φ := C.Φ 45) (M := C.M) (CI := C.CI) (FO := C.FO) hds (some (.d (.int c)))
    rw [b45_eq]
    have et : bfD [] .tuple [W.d (.list (hs.map encP))] = some (.tuple (hs.map encP)) := rfl
    unfold rightsW at ec
    have r15 : wRng1 (.d (.int 15)) = some (rngW 0 15, none) := rng1_nat (n := 15) (by decide)
    have r8 : wRng1 (.d (.int 8)) = some (rngW 0 8, none) := rng1_nat (n := 8) (by decide)
    generalize hC : freeC = cE at *
    generalize hH : freeH = cH at *
    generalize hK : freeK = cK at *
    simp [startE, Ok_bind, e', newLst, sizeLine, ec, et, mkTupW, mkTup, isLstC, mutW, chg, appC, appL, toCell, cutD, Cc.top, r15]
    subst hH hK
    refine loop_rows (c := c) (ds := ds) (hs := hs) (n0 := 0) (m := 15) (rs := []) _ (fun k hk rs h e hE => ?_) (fun rs h e hE => ?_) ⟨Nat.le_refl _, fun r hr => by cases hr⟩ ⟨none, none, none, none, none, none, rfl⟩
    · obtain ⟨x8, x9, x10, x11, x12, x13, rfl⟩ := hE
      rw [Int.zero_add]
      refine (freeH_ok hds c hs hk (by have := h.1; omega) _ x9 x10 x11 x12 x13).mono fun p t q => ?_
      obtain ⟨q1, rs', y9, y10, y11, q2, q3, q4⟩ := q
      exact ⟨q1, rs', q2, ⟨_, _, _, _, _, _, q3⟩, q4⟩
    · obtain ⟨x8, x9, x10, x11, x12, x13, rfl⟩ := hE
      simp [Ok_bind, r8]
      refine loop_rows (c := c) (ds := ds) (hs := hs) (n0 := 15) (m := 8) (rs := rs) _ (fun k hk rs h e hE => ?_) (fun rs h e hE => ?_) h ⟨x8, x9, x10, x11, x12, x13, rfl⟩
      · obtain ⟨x8, x9, x10, x11, x12, x13, rfl⟩ := hE
        rw [Int.zero_add]
        refine (freeK_ok hds c hs hk (by have := h.1; omega) _ x9 x10 x11 x12 x13).mono fun p t q => ?_
        obtain ⟨q1, rs', y9, y12, y13, q2, q3, q4⟩ := q
        exact ⟨q1, rs', q2, ⟨_, _, _, _, _, _, q3⟩, q4⟩
      · obtain ⟨x8, x9, x10, x11, x12, x13, rfl⟩ := hE
        have et2 : ∀ A, bfD (stF A rs) .tuple [W.ref 2] = some (.tuple (rs.map encR)) := fun A => rfl
        simp [Ok_bind, envF, et2, mkTupW, mkTup, sizeLine]
        exact ⟨⟨hs, hkL, rs⟩, ⟨h.2, h1, by simp [hkL], h2, hk_ok, Nat.le_trans h.1 (by decide)⟩, rfl⟩
  obtain ⟨y, ⟨T', h, rfl⟩, e⟩ := callf_ex (xs := [.int c]) (by simp) key
  exact ⟨T', h, e⟩
end K23

set_option linter.all false
set_option maxRecDepth 100000
set_option maxHeartbeats 4000000
/-! k23: the table. -/
namespace K23
open PySem hiding Env listOf
open Cc Cg
theorem ds44b : C.ds 44 = ⟨2, 6, bentB 41⟩ := by kernel_rfl
theorem oneCopy_gt : GT oneCopy := gT_ok (by decide +kernel)
theorem readers_gt : GT readers := gT_ok (by decide +kernel)
theorem table_eqn {n : Nat} (hn : 46 < n) (c : Int) : ∃ T, GT T ∧ ∀ s, callM .frz (C.Φ n 46) [.d (.int c)] s = .ok (.d (encT T)) s := by
  have key : Ok (C.Φ n 46 [.d (.int c)] []) fun w t => ∃ y, frzW t w = some y ∧ ∃ T, GT T ∧ y = encT T := by
    refine phi_ok hn ds46 rfl ?_
    obtain ⟨Tf, hf, ef⟩ := free_eqn (n := 46) (by decide) (c / 3)
    obtain ⟨T0, h0, e0⟩ := bent_eqn ds41 ds44b (by decide) (show 44 < 46 by decide) oneCopy_gt (by decide) (c / 6)
    obtain ⟨T1, h1, e1⟩ := bent_eqn ds41 ds44b (by decide) (show 44 < 46 by decide) readers_gt (by decide) (c / 6)
    have a0 := fun s => oneCopy_eqn (n := 46) (by decide) s
    have a1 := fun s => readers_eqn (n := 46) (by decide) s
    have g2 : Nat.log2 2 < 9000 := by decide
    have g3 : Nat.log2 3 < 9000 := by decide
    have g6 : Nat.log2 6 < 9000 := by decide
    have gt0 := oneCopy_gt
    have gt1 := readers_gt
    generalize oneCopy = To at *
    generalize readers = Tr at *
    unfold b46
    by_cases h2 : c % 3 = 2
    · simp [startE, Ok_bind, ef, g3, h2]
      exact ⟨Tf, hf, rfl⟩
    · have h01 : c % 3 = 0 ∨ c % 3 = 1 := by omega
      rcases h01 with h | h <;> by_cases hb : c / 3 % 2 = 0 <;> simp [startE, Ok_bind, a0, a1, e0, e1, g2, g3, g6, h, hb, newLst, sizeLine]
      · exact ⟨To, gt0, rfl⟩
      · exact ⟨T0, h0, rfl⟩
      · exact ⟨Tr, gt1, rfl⟩
      · exact ⟨T1, h1, rfl⟩
  obtain ⟨y, ⟨T', h, rfl⟩, e⟩ := callf_ex (xs := [.int c]) (by simp) key
  exact ⟨T', h, e⟩
end K23

set_option linter.all false
set_option maxRecDepth 100000
set_option maxHeartbeats 8000000
/-! k23: what its last def needs. -/
namespace K23
open PySem hiding Env listOf
open Cc Cg
theorem ds40c : C.ds 40 = ⟨2, 2, cellB⟩ := by kernel_rfl
theorem lay_encA1 {a : A1} (h : SOk a.1) : (encA1 a).canLay0 = true ∧ (encA1 a).depth ≤ 1 := lay_tup 0 fun y hy => by
  simp only [List.mem_cons, List.not_mem_nil, or_false] at hy
  rcases hy with rfl | rfl | rfl
  · exact lay_str h _
  · exact lay_int _ _
  · exact lay_int _ _
theorem lay_encB {b : Br} (h : ∀ x, b = some x → SOk x) : (encB b).canLay0 = true ∧ (encB b).depth ≤ 1 := by
  cases b with
  | none => exact ⟨by simp [encB, PyData.canLay0], by simp [encB, PyData.depth]⟩
  | some x =>
    refine lay_tup 0 fun y hy => ?_
    simp only [List.mem_cons, List.not_mem_nil, or_false] at hy
    subst hy
    exact lay_str (h x rfl) _
theorem shaped_pl {y : Pl} (hs : y.sd.Lay) (ha : ∀ a ∈ y.an, SOk a.1) (hf : ∀ b, y.ft = some b → SOk b) : SeqAt.shaped (.tuple [encS y.sd, .list (y.an.map encA1), encB y.ft]) = true := by
  refine shaped_of (lay_le (lay_tup 6 fun x hx => ?_) (by omega))
  simp only [List.mem_cons, List.not_mem_nil, or_false] at hx
  rcases hx with rfl | rfl | rfl
  · exact lay_encS hs
  · exact lay_le (lay_lst 1 fun x hx => by
      obtain ⟨a, h, rfl⟩ := List.mem_map.mp hx
      exact lay_encA1 (ha a h)) (by omega)
  · exact lay_le (lay_encB hf) (by omega)
theorem shaped_ds {ds : List Dd} (h : ∀ D ∈ ds, DOk D) : SeqAt.shaped (.list (ds.map encD)) = true :=
  shaped_of (lay_lst 62 fun x hx => by
    obtain ⟨D, hD, rfl⟩ := List.mem_map.mp hx
    exact ⟨(h D hD).2.1, (h D hD).2.2⟩)
theorem bad_at (m : Nat) (l : Nat) : L2.atI [encD (badD m 0), encD (badD m 1), encD (badD m 2), encD (badD m 3)] ((l : Int) % 4) = some (encD (badD m (l % 4))) := by
  have e : (l : Int) % 4 = ((l % 4 : Nat) : Int) := by omega
  rw [e]
  have h : l % 4 < 4 := by omega
  generalize l % 4 = k at h
  match k, h with
  | 0, _ => rfl
  | 1, _ => rfl
  | 2, _ => rfl
  | 3, _ => rfl
theorem cutX_len2 {α : Type} (xs : List α) (lo hi : Option Int) {k : Nat} (h : xs.length ≤ k) : (cutX xs lo hi).length ≤ k := Nat.le_trans (cutX_len xs lo hi) h
theorem deed_parts (D : Dd) : (∀ s, idxW s (.d (encD D)) (.d (.int 1)) = some (.d (.int D.hand))) ∧ ∃ a b, cutD (encD D) none (some 1) = some (.tuple a) ∧ cutD (encD D) (some 2) none = some (.tuple b) ∧ a.length ≤ 4 ∧ b.length ≤ 4 ∧ ∀ od, encD (renD od D) = .tuple (a ++ [.int (renI od D.hand)] ++ b) := by
  cases D <;> exact ⟨fun s => rfl, _, _, rfl, rfl, cutX_len2 _ _ _ (by simp), cutX_len2 _ _ _ (by simp), fun od => rfl⟩
theorem ins_map (ds : List Dd) (i : Nat) (D : Dd) : (ds.map encD).take i ++ [encD D] ++ (ds.map encD).drop i = (ds.take i ++ D :: ds.drop i).map encD := by simp
theorem playP_an {T : Tb} : ∀ (Ds : List Dd) {S : Sd} {as : List A1} {y : Pl}, playP T Ds S as = some y → y.an.length ≤ as.length + Ds.length
  | [], S, as, y, h => by cases h; simp
  | D :: Ds, S, as, y, h => by
    simp only [playP] at h
    cases q : stepP T S D with
    | none => rw [q] at h; cases h
    | some z =>
      rw [q] at h
      obtain ⟨sd, an, ft⟩ := z
      cases ft with
      | some b => cases h; simp
      | none =>
        dsimp only at h
        have := playP_an Ds h
        have l : an.toList.length ≤ 1 := by cases an <;> simp
        rw [List.length_append] at this
        rw [List.length_cons]
        omega
theorem ren_lay {S : Sd} (h : S.Lay) (od : List Nat) : (renameS S od).Lay := ⟨h.house, fun x hx => by
  obtain ⟨k, _, e⟩ := List.mem_filterMap.mp hx
  exact h.lines x (List.mem_of_getElem? e)⟩
theorem ren_out {n m : Nat} {an : List A1} {ft : Br} (h : PlOk n an ft) (od : List Nat) : (∀ a ∈ an.map (renA1 od), SOk a.1) := fun a ha => by
  obtain ⟨b, hb, rfl⟩ := List.mem_map.mp ha
  exact (h.an b hb).1
end K23

set_option linter.all false
set_option maxRecDepth 100000
set_option maxHeartbeats 8000000
/-! k23: the law, in three parts. -/
namespace K23
open PySem hiding Env listOf
open Cc Cg
def law7 : Sx := (Sx.seq (Sx.assign (Tx.name 10) (Ex.comp [16] false false [16] true (Wk.seq) [Ex.var 12] none (Ex.bin (Bop.add) (Ex.bin (Bop.add) (Ex.slice (Ex.var 16) none (some (Ex.const (PyData.int 1)))) (Ex.tup [Ex.lm (Lm.index) (Ex.var 3) [Ex.idx (Ex.var 16) (Ex.const (PyData.int 1))]])) (Ex.slice (Ex.var 16) (some (Ex.const (PyData.int 2))) none)))) (Sx.seq (Sx.assign (Tx.name 11) (Ex.comp [17, 18, 19] false false [17, 18, 19] false (Wk.seq) [Ex.var 14] none (Ex.tup [Ex.var 17, Ex.lm (Lm.index) (Ex.var 3) [Ex.var 18], Ex.var 19]))) (Sx.ret (Ex.cmp (Cop.eq) (Ex.call (Cm.frz) 39 [Ex.var 1, Ex.var 2, Ex.var 10]) (Ex.tup [Ex.call (Cm.frz) 6 [Ex.var 13, Ex.var 3], Ex.var 11, Ex.var 15])))))
def law6 : Sx := (Sx.seq (Sx.assign (Tx.name 8) (Ex.bin (Bop.mod) (Ex.bin (Bop.fdiv) (Ex.call (Cm.frz) 40 [Ex.var 0, Ex.const (PyData.int 2)]) (Ex.const (PyData.int 7))) (Ex.bin (Bop.add) (Ex.bf (Bf.len) [Ex.var 12]) (Ex.const (PyData.int 1))))) (Sx.seq (Sx.assign (Tx.name 9) (Ex.idx (Ex.lst false [Ex.tup [Ex.const (PyData.str { cps := #[116, 97, 107, 101] }), Ex.const (PyData.int 0), Ex.const (PyData.int 9)], Ex.tup [Ex.const (PyData.str { cps := #[103, 101, 116] }), Ex.bin (Bop.sub) (Ex.var 2) (Ex.const (PyData.int 1)), Ex.neg (Ex.const (PyData.int 1))], Ex.tup [Ex.const (PyData.str { cps := #[97, 115, 107] }), Ex.var 2, Ex.const (PyData.str { cps := #[100, 114, 111, 112] })], Ex.tup [Ex.const (PyData.str { cps := #[116, 97, 107, 101] }), Ex.neg (Ex.const (PyData.int 1)), Ex.const (PyData.int 0)]]) (Ex.bin (Bop.mod) (Ex.bf (Bf.len) [Ex.var 12]) (Ex.const (PyData.int 4))))) (Sx.seq (Sx.ite (Bx.tru (Ex.cmp (Cop.ne) (Ex.call (Cm.frz) 48 [Ex.var 1, Ex.var 2, Ex.bin (Bop.add) (Ex.bin (Bop.add) (Ex.slice (Ex.var 12) none (some (Ex.var 8))) (Ex.lst false [Ex.var 9])) (Ex.slice (Ex.var 12) (some (Ex.var 8)) none)]) (Ex.or (Ex.cmp (Cop.is_) (Ex.var 15) (Ex.const (PyData.none))) (Ex.cmp (Cop.lt) (Ex.var 8) (Ex.bf (Bf.len) [Ex.var 12]))))) (Sx.ret (Ex.const (PyData.bool false))) (Sx.pass)) law7)))
def law5 : Sx := (Sx.seq (Sx.assign (Tx.name 5) (Ex.bf (Bf.list) [Ex.var 12])) (Sx.seq (Sx.assign (Tx.name 6) (Ex.call (Cm.frz) 39 [Ex.var 1, Ex.var 2, Ex.var 5])) (Sx.seq (Sx.ite (Bx.or (Bx.tru (Ex.cmp (Cop.ne) (Ex.var 6) (Ex.tup [Ex.var 13, Ex.var 14, Ex.var 15]))) (Bx.or (Bx.tru (Ex.cmp (Cop.ne) (Ex.var 5) (Ex.var 12))) (Bx.not (Bx.tru (Ex.bf (Bf.isa (Ty.list)) [Ex.idx (Ex.var 6) (Ex.const (PyData.int 1))]))))) (Sx.ret (Ex.const (PyData.bool false))) (Sx.pass)) (Sx.seq (Sx.assign (Tx.name 7) (Ex.tup [Ex.var 13, Ex.var 14, Ex.var 15])) (Sx.seq (Sx.ite (Bx.and (Bx.tru (Ex.cmp (Cop.isnot) (Ex.var 15) (Ex.const (PyData.none)))) (Bx.tru (Ex.cmp (Cop.ne) (Ex.call (Cm.frz) 39 [Ex.var 1, Ex.var 2, Ex.bin (Bop.add) (Ex.var 12) (Ex.lst false [Ex.tup [Ex.const (PyData.str { cps := #[97, 115, 107] }), Ex.const (PyData.int 0), Ex.const (PyData.str { cps := #[100, 114, 111, 112] })]])]) (Ex.var 7)))) (Sx.ret (Ex.const (PyData.bool false))) (Sx.pass)) law6)))))
def law4 : Sx := (Sx.seq (Sx.unpack [Tx.name 12, Tx.name 13, Tx.name 14, Tx.name 15] (Ex.call (Cm.frz) 47 [Ex.slice (Ex.var 0) (some (Ex.const (PyData.int 3))) (some (Ex.const (PyData.int 53))), Ex.var 1, Ex.var 2, Ex.var 4])) law5)
def law3 : Sx := (Sx.seq (Sx.assign (Tx.name 4) (Ex.cmp (Cop.eq) (Ex.bin (Bop.mod) (Ex.bin (Bop.fdiv) (Ex.call (Cm.frz) 40 [Ex.var 0, Ex.const (PyData.int 1)]) (Ex.const (PyData.int 6))) (Ex.const (PyData.int 2))) (Ex.const (PyData.int 0)))) law4)
def law2 : Sx := (Sx.seq (Sx.assign (Tx.name 3) (Ex.call (Cm.frz) 49 [Ex.call (Cm.frz) 40 [Ex.var 0, Ex.const (PyData.int 2)], Ex.var 2])) law3)
def law1 : Sx := (Sx.seq (Sx.assign (Tx.name 2) (Ex.bin (Bop.add) (Ex.const (PyData.int 1)) (Ex.bin (Bop.mod) (Ex.call (Cm.frz) 40 [Ex.var 0, Ex.const (PyData.int 1)]) (Ex.const (PyData.int 6))))) law2)
theorem law_eq : b50 = Sx.seq (Sx.assign (Tx.name 1) (Ex.call (Cm.frz) 46 [Ex.call (Cm.frz) 40 [Ex.var 0, Ex.const (PyData.int 0)]])) law1 := by kernel_rfl

/-- what the run told, for the parts behind -/
structure Facts (T : Tb) (m : Nat) (od : List Nat) (ds : List Dd) (y : Pl) : Prop where
  hT : GT T
  hm1 : 1 ≤ m
  hm6 : m ≤ 6
  hO : Od m od
  hy : playP T ds (startP T m) [] = some y
  hz : ∃ z, playP T ds.dropLast (startP T m) [] = some z ∧ z.ft = none
  hD : ∀ D ∈ ds, DOk D
  hl : ds.length ≤ 63
section
variable {T : Tb} {m : Nat} {od : List Nat} {ds : List Dd} {y : Pl} (F : Facts T m od ds y)
include F
theorem Facts.start : (startP T m).Ok ∧ (startP T m).lines.length = m := ⟨startP_ok T (by have := F.hm6; omega), by simp [startP]⟩
theorem Facts.ok : ∀ D ∈ ds, D.Ok := fun D h => (F.hD D h).1
theorem Facts.lay : y.sd.Lay := play_lay F.hT.lay ds (start_lay F.hT.lay m) F.hy
theorem Facts.out : PlOk m y.an y.ft := play_out ds F.start.1 F.start.2 ⟨by simp, by simp⟩ F.hy
theorem Facts.play (s : Store) : callM .frz (C.Φ 50 39) [.d (encT T), .d (.int (m : Nat)), .d (.list (ds.map encD))] s = .ok (.d (.tuple [encS y.sd, .list (y.an.map encA1), encB y.ft])) s := by
  have hm6 := F.hm6
  have hl := F.hl
  have pe := play_eqn hasP (n := 50) (by decide) F.hT.ok F.hT.h1 F.hT.h2 (many := m) (by omega) ds F.ok (by omega) s
  rw [F.hy] at pe
  exact pe
theorem Facts.more {b : Str} (hb : y.ft = some b) (s : Store) : callM .frz (C.Φ 50 39) [.d (encT T), .d (.int (m : Nat)), .d (.list (ds.map encD ++ [encD (.ask 0 w_drop)]))] s = .ok (.d (.tuple [encS y.sd, .list (y.an.map encA1), encB y.ft])) s := by
  have hm6 := F.hm6
  have hl := F.hl
  have e := play_eqn hasP (n := 50) (by decide) F.hT.ok F.hT.h1 F.hT.h2 (many := m) (by omega) (ds ++ [.ask 0 w_drop]) (fun D h => by
    rcases List.mem_append.mp h with h | h
    · exact F.ok D h
    · simp at h; subst h; exact wwd) (by simp; omega) s
  have q : playP T (ds ++ [.ask 0 w_drop]) (startP T m) [] = some y := by rw [playP_fault F.hy hb]
  rw [q] at e
  rw [List.map_append] at e
  exact e
theorem Facts.bad {i : Nat} (hi : i ≤ ds.length) (s : Store) : callM .frz (C.Φ 50 48) [.d (encT T), .d (.int (m : Nat)), .d (.list (List.take i (List.map encD ds) ++ encD (badD m (ds.length % 4)) :: List.drop i (List.map encD ds)))] s = .ok (.d (.bool (y.ft.isNone || decide (i < ds.length)))) s := by
  have hm6 := F.hm6
  have hl := F.hl
  have rf := refused_eqn hasP ds48r (n := 50) (by decide) (by decide) (by rfl) F.hT.ok F.hT.h1 F.hT.h2 (many := m) (by omega) (ds.take i ++ badD m (ds.length % 4) :: ds.drop i) (fun D h => by
    rcases List.mem_append.mp h with h | h
    · exact F.ok D (List.mem_of_mem_take h)
    · rcases List.mem_cons.mp h with h | h
      · subst h; exact badD_ok _ _
      · exact F.ok D (List.mem_of_mem_drop h)) (by simp; omega) s
  rw [ins_refused F.start.1 F.start.2 F.hy F.hz (ds.length % 4) hi, ← ins_map, List.append_assoc, List.singleton_append] at rf
  exact rf
theorem Facts.turned (s : Store) : callM .frz (C.Φ 50 39) [.d (encT T), .d (.int (m : Nat)), .d (.list (List.map (encD ∘ renD od) ds))] s = .ok (.d (.tuple [encS (renameS y.sd od), .list (List.map (encA1 ∘ renA1 od) y.an), encB y.ft])) s := by
  have hm6 := F.hm6
  have hl := F.hl
  have pr := play_ren F.hO T ds [] F.start.1 F.start.2 F.hy
  rw [start_ren F.hO T, List.map_nil] at pr
  have pt := play_eqn hasP (n := 50) (by decide) F.hT.ok F.hT.h1 F.hT.h2 (many := m) (by omega) (ds.map (renD od)) (fun D h => by
    obtain ⟨E, hE, rfl⟩ := List.mem_map.mp h
    have := F.ok E hE
    cases E <;> exact this) (by simp; omega) s
  rw [pr, List.map_map] at pt
  have e : encPl (renPl od y) = .tuple [encS (renameS y.sd od), .list ((y.an.map (renA1 od)).map encA1), encB y.ft] := rfl
  rw [List.map_map] at e
  rw [← e]
  exact pt
theorem Facts.ren (s : Store) : callM .frz (C.Φ 50 6) [.d (encS y.sd), .d (.list (encI od))] s = .ok (.d (encS (renameS y.sd od))) s := by
  have hm6 := F.hm6
  have hyl : y.sd.lines.length = m := (playP_len _ F.start.1 F.hy).2.trans F.start.2
  exact renamed_eqn hasN (S := y.sd) (n := 50) (by decide) od (fun k hk => by rw [hyl]; exact F.hO.lt hk) (by rw [F.hO.len]; omega) s
theorem Facts.eqP : eqD (.tuple [encS y.sd, .list (y.an.map encA1), encB y.ft]) (.tuple [encS y.sd, .list (y.an.map encA1), encB y.ft]) = some true := eqD_refl (shaped_pl F.lay (fun a h => (F.out.an a h).1) F.out.ft)
theorem Facts.eqR : eqD (.tuple [encS (renameS y.sd od), .list (List.map (encA1 ∘ renA1 od) y.an), encB y.ft]) (.tuple [encS (renameS y.sd od), .list (List.map (encA1 ∘ renA1 od) y.an), encB y.ft]) = some true := by
  have := eqD_refl (shaped_pl (y := renPl od y) (ren_lay F.lay od) (ren_out (m := 0) F.out od) F.out.ft)
  rw [show (renPl od y).an = y.an.map (renA1 od) from rfl, List.map_map] at this
  exact this
theorem Facts.eqD : eqD (.list (ds.map encD)) (.list (ds.map encD)) = some true := eqD_refl (shaped_ds F.hD)
/-- with the hands renamed -/
theorem part3 (w0 w4 w5 w6 w7 w8 w9 w16 w17 w18 w19 : Option W) : Ok (runS (C.Φ 50) C.M C.CI C.FO C.xi law7 [w0, some (.d (encT T)), some (.d (.int (m : Nat))), some (.d (.list (encI od))), w4, w5, w6, w7, w8, w9, none, none, some (.d (.list (ds.map encD))), some (.d (encS y.sd)), some (.d (.list (y.an.map encA1))), some (.d (encB y.ft)), w16, w17, w18, w19] []) (retQ fun w x => w = .d (.bool true)) := by
  have hl := F.hl
  have hh := run_hands F.start.1 F.start.2 F.hy F.hz
  have dp := fun D => deed_parts D
  have ix1 : ∀ D ∈ ds, ∀ s, lmD s .index (.d (.list (encI od))) [.d (.int D.hand)] = some (.int (renI od D.hand)) := fun D hD s => index_hand F.hO (hh D hD).1 (hh D hD).2 s
  have ix2 : ∀ a ∈ y.an, ∀ s, lmD s .index (.d (.list (encI od))) [.d (.int a.2.1)] = some (.int (renI od a.2.1)) := fun a ha s => index_hand F.hO (F.out.an a ha).2.1 (F.out.an a ha).2.2 s
  have lk : ∀ s xs, lmOk s (.d (.list xs)) = true := fun s xs => rfl
  have f1 : ∀ l : List Dd, l.filterMap (fun D => some (encD (renD od D))) = (l.map (renD od)).map encD := fun l => by simp
  have f2 : ∀ l : List A1, l.filterMap (fun a => some (encA1 (renA1 od a))) = (l.map (renA1 od)).map encA1 := fun l => by simp
  have hal : y.an.length ≤ 16777216 := by
    have := playP_an ds F.hy
    simp at this
    omega
  have pt := F.turned
  have rn := F.ren
  have r3 := F.eqR
  clear F hh
  generalize encS y.sd = eS at *
  generalize encS (renameS y.sd od) = eS2 at *
  unfold law7
  simp [Ok_bind]
  refine comp_ok (xs := ds) (W.d ∘ encD) (fun D => some (encD (renD od D))) rfl (fun D hD => ?_) (by omega) ?_
  · obtain ⟨d1, a, b, d2, d3, la, lb, d4⟩ := dp D
    have z1 : a.length + 1 ≤ 16777216 := by omega
    have z2 : a.length + (b.length + 1) ≤ 16777216 := by omega
    have z3 : a.length + 1 + b.length ≤ 16777216 := by omega
    simp [wipeE, d1, d2, d3, d4, lk, ix1 D hD, mkTupW, mkTup, sizeLine, z1, z2, z3]
  rw [if_neg (by decide), f1]
  simp
  refine comp_ok (xs := y.an) (W.d ∘ encA1) (fun a => some (encA1 (renA1 od a))) rfl (fun a ha => ?_) hal ?_
  · simp [wipeE, encA1, bindN, lk, ix2 a ha, mkTupW, mkTup, sizeLine, renA1]
  rw [if_neg (by decide), f2]
  simp [Ok_bind, pt, rn, allPure, mkTupW, mkTup, sizeLine, cmpW, cmpD, r3]
/-- a bad deed -/
theorem part2 {ns : List Int} (c2 : ∀ s, callM .frz (C.Φ 50 40) [.d (.list (ns.map .int)), .d (.int 2)] s = .ok (.d (.int (cellAt ns 2))) s) (w4 w5 w6 w7 w16 w17 w18 w19 : Option W) : Ok (runS (C.Φ 50) C.M C.CI C.FO C.xi law6 [some (.d (.list (ns.map .int))), some (.d (encT T)), some (.d (.int (m : Nat))), some (.d (.list (encI od))), w4, w5, w6, w7, none, none, none, none, some (.d (.list (ds.map encD))), some (.d (encS y.sd)), some (.d (.list (y.an.map encA1))), some (.d (encB y.ft)), w16, w17, w18, w19] []) (retQ fun w x => w = .d (.bool true)) := by
  have hl := F.hl
  have l7 : Nat.log2 7 < 9000 := by decide
  obtain ⟨i, hi, ei⟩ : ∃ i : Nat, i ≤ ds.length ∧ cellAt ns 2 / 7 % ((ds.length : Int) + 1) = (i : Int) := by
    have a := Int.emod_nonneg (cellAt ns 2 / 7) (show (ds.length : Int) + 1 ≠ 0 by omega)
    have b := Int.emod_lt_of_pos (cellAt ns 2 / 7) (show (0 : Int) < (ds.length : Int) + 1 by omega)
    exact ⟨(cellAt ns 2 / 7 % ((ds.length : Int) + 1)).toNat, by omega, by omega⟩
  have eNone : ∀ s, someW s (.d (encB y.ft)) = some y.ft.isNone := fun s => by cases y.ft <;> rfl
  have bn : ∀ s, bfD s .len [.d (.list (ds.map encD))] = some (.int (ds.length : Nat)) := fun s => by
    show some (PyData.int ((ds.map encD).length : Nat)) = _
    rw [List.length_map]
  have idx4 : L2.atI [PyData.tuple [.str { cps := #[116, 97, 107, 101] }, .int 0, .int 9], .tuple [.str { cps := #[103, 101, 116] }, .int ((m : Int) - 1), .int (-1)], .tuple [.str { cps := #[97, 115, 107] }, .int m, .str { cps := #[100, 114, 111, 112] }], .tuple [.str { cps := #[116, 97, 107, 101] }, .int (-1), .int 0]] ((ds.length : Int) % 4) = some (encD (badD m (ds.length % 4))) := bad_at m ds.length
  have rf := F.bad hi
  have cut1 : cutD (.list (ds.map encD)) none (some (i : Int)) = some (.list ((ds.map encD).take i)) := congrArg (fun x => some (PyData.list x)) (cutX_pre (ds.map encD) i)
  have cut2 : cutD (.list (ds.map encD)) (some (i : Int)) none = some (.list ((ds.map encD).drop i)) := congrArg (fun x => some (PyData.list x)) (cutX_suf (ds.map encD) i)
  have hpos : (0 : Int) < (ds.length : Int) + 1 := by omega
  have sz3 : min i ds.length + 1 + (ds.length - i) ≤ 16777216 := by omega
  have m1 : min i ds.length ≤ 16777215 := by omega
  have fin := part3 F
  unfold law6
  cases hft : y.ft with
  | none =>
    rw [hft] at rf fin eNone
    simp [Ok_bind, mkTupW, mkTup, sizeLine, newLst, eNone, l7, bn, c2, hpos, ei, idx4, cut1, cut2, rf, m1, sz3]
    exact fin _ _ _ _ _ _ _ _ _ _ _
  | some b =>
    rw [hft] at rf fin eNone
    by_cases hlt : i < ds.length
    · simp [Ok_bind, mkTupW, mkTup, sizeLine, newLst, eNone, l7, bn, c2, hpos, ei, idx4, cut1, cut2, rf, m1, sz3, hlt]
      exact fin _ _ _ _ _ _ _ _ _ _ _
    · simp [Ok_bind, mkTupW, mkTup, sizeLine, newLst, eNone, l7, bn, c2, hpos, ei, idx4, cut1, cut2, rf, m1, sz3, hlt]
      exact fin _ _ _ _ _ _ _ _ _ _ _
end
theorem Ok_asg {Φ : FT} {M : CTab} {CI : Nat → Option Nat} {FO : Nat → Str → Bool} {XI : Nat → List PyData → Option (List (Str × PyData))} {i : Nat} {e : Ex} {rest : Sx} {env : Cc.Env} {s s' : Store} {w : W} {Q : Cc.Flow × Cc.Env → Store → Prop}
    (h : runE Φ M CI FO e env s = .ok w s') (k : Ok (runS Φ M CI FO XI rest (env.set i (some w)) s') Q) : Ok (runS Φ M CI FO XI (Sx.seq (Sx.assign (Tx.name i) e) rest) env s) Q := by
  simp only [runS, h, Res.bind_ok, assignT]
  exact k
/-- behind the run -/
theorem part1 {T : Tb} {m : Nat} {od : List Nat} {ds : List Dd} {y : Pl} (F : Facts T m od ds y) {ns : List Int} (c2 : ∀ s, callM .frz (C.Φ 50 40) [.d (.list (ns.map .int)), .d (.int 2)] s = .ok (.d (.int (cellAt ns 2))) s) (w4 : Option W) :
    Ok (runS (C.Φ 50) C.M C.CI C.FO C.xi law5 [some (.d (.list (ns.map .int))), some (.d (encT T)), some (.d (.int (m : Nat))), some (.d (.list (encI od))), w4, none, none, none, none, none, none, none, some (.d (.list (ds.map encD))), some (.d (encS y.sd)), some (.d (.list (y.an.map encA1))), some (.d (encB y.ft)), none, none, none, none] []) (retQ fun w x => w = .d (.bool true)) := by
  have hl := F.hl
  have pe := F.play
  have pf := fun b hb => F.more (b := b) hb
  have r1 := F.eqP
  have r2 := F.eqD
  have en1 : ∀ s, idxW s (.d (.tuple [encS y.sd, .list (y.an.map encA1), encB y.ft])) (.d (.int 1)) = some (.d (.list (y.an.map encA1))) := fun s => rfl
  have eNone : ∀ s, someW s (.d (encB y.ft)) = some y.ft.isNone := fun s => by cases y.ft <;> rfl
  have bl : ∀ s, bfD s .list [.d (.list (ds.map encD))] = some (.list (ds.map encD)) := fun s => rfl
  have bi : ∀ s xs, bfD s (.isa .list) [.d (.list xs)] = some (.bool true) := fun s xs => rfl
  have cn1 : ∀ s, cmpW .ne s (.d (.tuple [encS y.sd, .list (y.an.map encA1), encB y.ft])) (.d (.tuple [encS y.sd, .list (y.an.map encA1), encB y.ft])) = some false := fun s => by
    show (Cc.eqD _ _).map (!·) = _
    rw [r1]
    rfl
  have cn2 : ∀ s, cmpW .ne s (.d (.list (ds.map encD))) (.d (.list (ds.map encD))) = some false := fun s => by
    show (Cc.eqD _ _).map (!·) = _
    rw [r2]
    rfl
  have ask0 : PyData.tuple [.str { cps := #[97, 115, 107] }, .int 0, .str { cps := #[100, 114, 111, 112] }] = encD (.ask 0 w_drop) := rfl
  have hsz1 : ds.length ≤ 16777215 := by omega
  have fin := part2 F c2
  clear r1 r2 F
  unfold law5
  generalize encS y.sd = eS at *
  cases hft : y.ft with
  | none =>
    rw [hft] at pe en1 cn1 eNone fin
    simp [Ok_bind, pe, en1, bl, bi, cn1, cn2, mkTupW, mkTup, sizeLine, newLst, eNone]
    exact fin _ _ _ _ _ _ _ _
  | some b =>
    have pf := pf b hft
    rw [hft] at pe en1 cn1 eNone fin pf
    simp [Ok_bind, pe, pf, en1, bl, bi, cn1, cn2, mkTupW, mkTup, sizeLine, newLst, eNone, ask0, hsz1]
    exact fin _ _ _ _ _ _ _ _
theorem law_ok {n : Nat} (hn : 50 < n) (ns : List Int) (hns : ns.length ≤ 63) : Ok (C.Φ n 50 [.d (.list (ns.map .int))] []) fun w _ => w = .d (.bool true) := by
  refine phi_ok hn ds50 rfl ?_
  have ce := fun (k : Int) (hk : 0 ≤ k) (s : Store) => cell_gen (i := 40) ds40c (n := 50) (by omega) ns hk s
  have c0 := ce 0 (by omega)
  have c1 := ce 1 (by omega)
  have c2 := ce 2 (by omega)
  obtain ⟨T, hT, te⟩ := table_eqn (n := 50) (by decide) (cellAt ns 0)
  obtain ⟨m, em⟩ : ∃ m : Nat, 1 + cellAt ns 1 % 6 = (m : Int) := ⟨(1 + cellAt ns 1 % 6).toNat, by omega⟩
  have hm1 : 1 ≤ m := by omega
  have hm6 : m ≤ 6 := by omega
  obtain ⟨od, hod, oe⟩ := ord_eqn ds49o (n := 50) (by decide) (cellAt ns 2) (many := m) (by omega)
  have hcs : (cutX ns (some 3) (some 53)).length ≤ 63 := Nat.le_trans (cutX_len _ _ _) hns
  have esl : cutD (.list (ns.map .int)) (some 3) (some 53) = some (.list ((cutX ns (some 3) (some 53)).map .int)) := by
    show some (PyData.list (cutX (ns.map PyData.int) (some 3) (some 53))) = _
    rw [cutX_map]
  generalize cutX ns (some 3) (some 53) = cs at *
  have bt : ∃ o : Bool, decide (cellAt ns 1 / 6 % 2 = 0) = o := ⟨_, rfl⟩
  obtain ⟨o, ebt⟩ := bt
  obtain ⟨ds, y, hy, hz, hD, hl, re⟩ := run_eqn hasP hasM ds47r (n := 50) (by decide) (by decide) (by decide) (by decide) hT.ok hT.nw hT.h1 hT.h2 (many := m) (by omega) cs (by omega) o
  have F : Facts T m od ds y := ⟨hT, hm1, hm6, ⟨hod⟩, hy, hz, hD, by omega⟩
  have fin := part1 F c2 (some (.d (.bool o)))
  have l6 : Nat.log2 6 < 9000 := by decide
  have e0 : startE 20 [W.d (.list (ns.map .int))] = [some (.d (.list (ns.map .int))), none, none, none, none, none, none, none, none, none, none, none, none, none, none, none, none, none, none, none] := rfl
  rw [law_eq, e0]
  clear hy hz hD F hod e0
  refine Ok_asg (w := .d (encT T)) (s' := []) (by simp [c0, te]) ?_
  rw [show law1 = Sx.seq _ law2 from rfl]
  refine Ok_asg (w := .d (.int (m : Nat))) (s' := []) (by simp [c1, em]) ?_
  rw [show law2 = Sx.seq _ law3 from rfl]
  refine Ok_asg (w := .d (.list (encI od))) (s' := []) (by simp [c2, oe]) ?_
  rw [show law3 = Sx.seq _ law4 from rfl]
  refine Ok_asg (w := .d (.bool o)) (s' := []) (by simp [c1, l6, ebt]) ?_
  simp only [List.set]
  unfold law4
  simp [Ok_bind, esl, re]
  exact fin
theorem pure (ns : List Int) (h : ns.length ≤ 63) : ∃ t, C.Φ 51 50 [.d (.list (ns.map .int))] [] = .ok (.d (.bool true)) t := by
  obtain ⟨w, t, e, rfl⟩ := (law_ok (n := 51) (by omega) ns h).ex
  exact ⟨t, e⟩
end K23


set_option Elab.async false
set_option linter.all false
set_option maxRecDepth 100000
set_option maxHeartbeats 0
namespace K23
open PySem PySem.Spec PyProof.Rows L2 Cc
abbrev RO : PySem.W.OpenRow := PySem.W.OpenLaw.row PySem.Challenge.rw_copyclerk_k23_runs_played
theorem chk : C.chk = true := by decide +kernel
theorem bd : ∀ i, i < C.n → C.Bd i
  | 0, _ => .inl ⟨rfl, fun _ _ _ _ _ _ us h => match us, h with | [_, _], _ => rfl⟩
  | 1, _ => .inl ⟨rfl, fun _ _ _ _ _ _ us h => match us, h with | [_, _, _], _ => rfl⟩
  | 2, _ => .inl ⟨rfl, fun _ _ _ _ _ _ us h => match us, h with | [_, _, _, _], _ => rfl⟩
  | 3, _ => .inl ⟨rfl, fun _ _ _ _ _ _ us h => match us, h with | [_, _], _ => rfl⟩
  | 4, _ => .inl ⟨rfl, fun _ _ _ _ _ _ us h => match us, h with | [_, _], _ => rfl⟩
  | 5, _ => .inl ⟨rfl, fun _ _ _ _ _ _ us h => match us, h with | [_, _], _ => rfl⟩
  | 6, _ => .inl ⟨rfl, fun _ _ _ _ _ _ us h => match us, h with | [_, _], _ => rfl⟩
  | 7, _ => .inl ⟨rfl, fun _ _ _ _ _ _ us h => match us, h with | [_, _], _ => rfl⟩
  | 8, _ => .inl ⟨rfl, fun _ _ _ _ _ _ us h => match us, h with | [_], _ => rfl⟩
  | 9, _ => .inl ⟨rfl, fun _ _ _ _ _ _ us h => match us, h with | [_, _, _, _, _], _ => rfl⟩
  | 10, _ => .inl ⟨rfl, fun _ _ _ _ _ _ us h => match us, h with | [_, _, _, _], _ => rfl⟩
  | 11, _ => .inl ⟨rfl, fun _ _ _ _ _ _ us h => match us, h with | [_, _, _], _ => rfl⟩
  | 12, _ => .inl ⟨rfl, fun _ _ _ _ _ _ us h => match us, h with | [_, _, _], _ => rfl⟩
  | 13, _ => .inl ⟨rfl, fun _ _ _ _ _ _ us h => match us, h with | [_, _, _, _], _ => rfl⟩
  | 14, _ => .inl ⟨rfl, fun _ _ _ _ _ _ us h => match us, h with | [_, _, _], _ => rfl⟩
  | 15, _ => .inl ⟨rfl, fun _ _ _ _ _ _ us h => match us, h with | [_, _, _, _], _ => rfl⟩
  | 16, _ => .inl ⟨rfl, fun _ _ _ _ _ _ us h => match us, h with | [_, _], _ => rfl⟩
  | 17, _ => .inl ⟨rfl, fun _ _ _ _ _ _ us h => match us, h with | [_, _, _], _ => rfl⟩
  | 18, _ => .inl ⟨rfl, fun _ _ _ _ _ _ us h => match us, h with | [_, _], _ => rfl⟩
  | 19, _ => .inl ⟨rfl, fun _ _ _ _ _ _ us h => match us, h with | [_, _, _], _ => rfl⟩
  | 20, _ => .inl ⟨rfl, fun _ _ _ _ _ _ us h => match us, h with | [_, _, _, _], _ => rfl⟩
  | 21, _ => .inl ⟨rfl, fun _ _ _ _ _ _ us h => match us, h with | [_, _, _], _ => rfl⟩
  | 22, _ => .inl ⟨rfl, fun _ _ _ _ _ _ us h => match us, h with | [_, _], _ => rfl⟩
  | 23, _ => .inl ⟨rfl, fun _ _ _ _ _ _ us h => match us, h with | [_, _, _], _ => rfl⟩
  | 24, _ => .inl ⟨rfl, fun _ _ _ _ _ _ us h => match us, h with | [_, _, _], _ => rfl⟩
  | 25, _ => .inl ⟨rfl, fun _ _ _ _ _ _ us h => match us, h with | [_, _], _ => rfl⟩
  | 26, _ => .inl ⟨rfl, fun _ _ _ _ _ _ us h => match us, h with | [_, _, _], _ => rfl⟩
  | 27, _ => .inl ⟨rfl, fun _ _ _ _ _ _ us h => match us, h with | [_, _, _], _ => rfl⟩
  | 28, _ => .inl ⟨rfl, fun _ _ _ _ _ _ us h => match us, h with | [_, _, _], _ => rfl⟩
  | 29, _ => .inl ⟨rfl, fun _ _ _ _ _ _ us h => match us, h with | [_, _], _ => rfl⟩
  | 30, _ => .inl ⟨rfl, fun _ _ _ _ _ _ us h => match us, h with | [_, _], _ => rfl⟩
  | 31, _ => .inl ⟨rfl, fun _ _ _ _ _ _ us h => match us, h with | [_, _, _], _ => rfl⟩
  | 32, _ => .inl ⟨rfl, fun _ _ _ _ _ _ us h => match us, h with | [_, _, _], _ => rfl⟩
  | 33, _ => .inl ⟨rfl, fun _ _ _ _ _ _ us h => match us, h with | [_], _ => rfl⟩
  | 34, _ => .inl ⟨rfl, fun _ _ _ _ _ _ us h => match us, h with | [_, _], _ => rfl⟩
  | 35, _ => .inl ⟨rfl, fun _ _ _ _ _ _ us h => match us, h with | [_, _, _, _], _ => rfl⟩
  | 36, _ => .inl ⟨rfl, fun _ _ _ _ _ _ us h => match us, h with | [_, _, _], _ => rfl⟩
  | 37, _ => .inr ⟨fun z => (by cases z), fun m h1 h2 T kV doc pm an cdv ct us its a b => by
      have hm : m = 2 ∨ m = 3 := by change m ≤ 3 at h1; change 3 - m ≤ 1 at h2; omega
      rcases hm with rfl | rfl
      · exact match us, its, a, b with | [_, _], [_], _, _ => ⟨_, rfl, rfl⟩
      · exact match us, its, a, b with | [_, _, _], [_], _, _ => ⟨_, rfl, rfl⟩⟩
  | 38, _ => .inl ⟨rfl, fun _ _ _ _ _ _ us h => match us, h with | [_, _, _], _ => rfl⟩
  | 39, _ => .inl ⟨rfl, fun _ _ _ _ _ _ us h => match us, h with | [_, _, _], _ => rfl⟩
  | 40, _ => .inl ⟨rfl, fun _ _ _ _ _ _ us h => match us, h with | [_, _], _ => rfl⟩
  | 41, _ => .inl ⟨rfl, fun _ _ _ _ _ _ us h => match us, h with | [_, _, _], _ => rfl⟩
  | 42, _ => .inl ⟨rfl, fun _ _ _ _ _ _ us h => match us, h with | [], _ => rfl⟩
  | 43, _ => .inl ⟨rfl, fun _ _ _ _ _ _ us h => match us, h with | [], _ => rfl⟩
  | 44, _ => .inl ⟨rfl, fun _ _ _ _ _ _ us h => match us, h with | [_, _], _ => rfl⟩
  | 45, _ => .inl ⟨rfl, fun _ _ _ _ _ _ us h => match us, h with | [_], _ => rfl⟩
  | 46, _ => .inl ⟨rfl, fun _ _ _ _ _ _ us h => match us, h with | [_], _ => rfl⟩
  | 47, _ => .inl ⟨rfl, fun _ _ _ _ _ _ us h => match us, h with | [_, _, _, _], _ => rfl⟩
  | 48, _ => .inl ⟨rfl, fun _ _ _ _ _ _ us h => match us, h with | [_, _, _], _ => rfl⟩
  | 49, _ => .inl ⟨rfl, fun _ _ _ _ _ _ us h => match us, h with | [_, _], _ => rfl⟩
  | 50, _ => .inl ⟨rfl, fun _ _ _ _ _ _ us h => match us, h with | [_], _ => rfl⟩
  | i + 51, h => absurd h (Nat.not_lt.mpr (Nat.le_add_left _ _))
theorem run (w : World) : HandSHeadRun.RunEq RO (PySem.W.view RO.prog [43]) (hookC 4 C) (obC 4 C) 4000 ("right_of" :: "hand_row" :: "house_row" :: "SHARES" :: "OWNS" :: "start" :: "excludes" :: "clash" :: "renamed" :: "TO" :: "BACK" :: "Hall" :: "Deed" :: "Ask" :: "Take" :: "Get" :: "deed_of" :: "CopyError" :: "NoDeed" :: "WAIT" :: "places" :: "may_come" :: "asks_of" :: "may" :: "step" :: "play" :: "_law_cell_at" :: "_law_digits" :: "_law_one_copy" :: "_law_readers" :: "_law_bent" :: "_law_free" :: "_law_table" :: "_law_run" :: "_law_refused" :: "_law_order" :: []) w := by
  intro os
  kernel_rfl
end K23
open PySem PySem.W PySem.Calls PyProof.Rows
theorem PySem.Challenge.cw_copyclerk_k23_runs_played_holds : PySem.Challenge.rw_copyclerk_k23_runs_played.Holds := by
  w_on; o_law
  refine HandSHeadRun.head_any (r := OpenLaw.row PySem.Challenge.rw_copyclerk_k23_runs_played) (q := view (OpenLaw.row PySem.Challenge.rw_copyclerk_k23_runs_played).prog [43]) (H := Cc.hookC 4 K23.C) (ob := Cc.obC 4 K23.C) (M := 4000) (loose := ("right_of" :: "hand_row" :: "house_row" :: "SHARES" :: "OWNS" :: "start" :: "excludes" :: "clash" :: "renamed" :: "TO" :: "BACK" :: "Hall" :: "Deed" :: "Ask" :: "Take" :: "Get" :: "deed_of" :: "CopyError" :: "NoDeed" :: "WAIT" :: "places" :: "may_come" :: "asks_of" :: "may" :: "step" :: "play" :: "_law_cell_at" :: "_law_digits" :: "_law_one_copy" :: "_law_readers" :: "_law_bent" :: "_law_free" :: "_law_table" :: "_law_run" :: "_law_refused" :: "_law_order" :: [])) (d := HandSHeadRun.topDef (OpenLaw.row PySem.Challenge.rw_copyclerk_k23_runs_played).prog 43) (kwd := []) (Cc.obC_eq 4 K23.C)
    (by kernel_rfl) (fun s => by kernel_rfl) K23.run (by kernel_rfl) (by kernel_rfl) (by kernel_rfl) (by rfl) (by first | assumption | decide +kernel) (by decide +kernel) ⟨rfl, rfl, rfl, rfl, rfl, by decide +kernel⟩ ?hw ?hc
  case hw => w_witness2
  case hc =>
    exact Cc.walk_c (lx := 50) (x := "_law_script") rfl (by kernel_rfl) (by kernel_rfl) ⟨rfl, by decide, by decide⟩ K23.chk K23.bd (by decide) rfl rfl rfl K23.pure
