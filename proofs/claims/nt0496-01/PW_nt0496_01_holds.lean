import PyProof.Rows.All
import PyProof.TupleIter
import PyProof.ExcArgsOwn
import PyProof.ExcBaseAll.Exception
import PyProof.ListIndexNeg
import PyProof.ZipIter
import KE.LcSums
import KE.KBytesCut
import KE.KPop
import KE.KDeep
import KE.KDictAny
import KE.KDictNew
import KE.KIsBytes
import KE.KPairComp
import KE.KxDecode
import Wide.All
import OpenK.AllK
import Wide.FinOn
import Lean
import PySem.Challenge.RW_nt0496_01
set_option Elab.async false
set_option linter.all false
set_option maxRecDepth 100000
namespace Mine
section
open PySem PySem.W PyProof.Rows
set_option maxRecDepth 100000 in
noncomputable def loose0 : List Str := [Str.ofString "PostError", Str.ofString "BadFlat", Str.ofString "BadText", Str.ofString "text_of", Str.ofString "octets_of", Str.ofString "hex_value", Str.ofString "hex_octets", Str.ofString "decimal_octets", Str.ofString "BODY_KINDS", Str.ofString "PLAIN_KINDS", Str.ofString "is_flat_number", Str.ofString "is_flat_plain", Str.ofString "is_flat_recipe", Str.ofString "is_flat_seen", Str.ofString "is_flat_recipes", Str.ofString "flat_shapes", Str.ofString "is_flat_part", Str.ofString "is_flat_row", Str.ofString "FlatProgram", Str.ofString "OPENS", Str.ofString "CLOSES", Str.ofString "BLANK", Str.ofString "MINUS", Str.ofString "QUOTE", Str.ofString "HEX_OPENS", Str.ofString "HEX_CLOSES", Str.ofString "flat_value_octets", Str.ofString "flat_octets", Str.ofString "FlatReader", Str.ofString "flat_read", Str.ofString "_law_deck", Str.ofString "_law_draw", Str.ofString "_law_drawn_octets", Str.ofString "_law_truth", Str.ofString "_law_recipe", Str.ofString "_law_seen", Str.ofString "_law_row", Str.ofString "_law_part", Str.ofString "_law_is_strict", Str.ofString "_law_bent"]
noncomputable def hd.view_39 : Program := (fun (l : List Stmt) (_ : ([44].filterMap fun i => PySem.Challenge.rw_nt0496_01.prog.main.body[i]?) = l) => ({ PySem.Challenge.rw_nt0496_01.prog with main := { PySem.Challenge.rw_nt0496_01.prog.main with body := l } } : Program)) [_] rfl
set_option maxRecDepth 100000 in
set_option maxHeartbeats 0 in
theorem said0 : PySem.Challenge.rw_nt0496_01.wellSaid = true := by
  unfold OpenLaw.wellSaid
  iterate 18 (refine look_both ?_ ?_; rotate_left; (decide +kernel))
  unfold OpenRow.wellSaid
  iterate 2 (refine look_both ?_ ?_; rotate_left; (decide +kernel))
  unfold OpenRow.partSaid
  iterate 12 (refine look_both ?_ ?_; rotate_left; (decide +kernel))
  unfold looksOpen
  iterate 5 (refine look_both ?_ ?_; rotate_left; (decide +kernel))
  decide +kernel
section
set_option maxRecDepth 100000
noncomputable def topRunT (tb : String → Option Builtin) (p : Program) (w : World) (n₀ : Nat) (ann : Option Value) : Nat → SharedT → Thread → Option SharedT
  | 0, _, _ => none
  | n + 1, s, t => match through t with
    | true => some s
    | false => match stepOk n₀ ann t with
      | false => none
      | true => match stepT (denote tb) p w s t with
        | some (s', t') => topRunT tb p w n₀ ann n s' t'
        | none => none
theorem topRunT_of {tb : String → Option Builtin} {p : Program} {w : World} {n₀ : Nat} {ann : Option Value} : ∀ {n : Nat} {s s' : SharedT} {t : Thread}, topRunT tb p w n₀ ann n s t = some s' → topRun tb p w n₀ ann n s.abs t = some s'.abs
  | 0, _, _, _, h => nomatch h
  | n + 1, s, s', t, h => by
    unfold topRunT at h
    unfold topRun
    cases e : through t with
    | true => rw [e] at h; cases h; rfl
    | false =>
      rw [e] at h
      cases e2 : stepOk n₀ ann t with
      | false => rw [e2] at h; cases h
      | true =>
        rw [e2] at h
        cases e3 : stepT (denote tb) p w s t with
        | none => rw [e3] at h; cases h
        | some q =>
          obtain ⟨s2, t2⟩ := q
          rw [e3] at h
          rw [stepT_spec e3]
          exact topRunT_of h
noncomputable def buildT : List Obj → BT → Nat → Option BT
  | [], t, _ => some t
  | o :: r, t, n => match ((t.ins n o).get n).isSome with
    | true => buildT r (t.ins n o) (n + 1)
    | false => none
theorem buildT_of {life : Life} : ∀ {l : List Obj} {t t' : BT} {n : Nat}, buildT l t n = some t' → absHeap t' (n + l.length) life = ⟨((absHeap t n life).objs.toList ++ l).toArray, life⟩
  | [], t, t', n, h => by cases h; rw [List.append_nil]; rfl
  | o :: r, t, t', n, h => by
    unfold buildT at h
    cases e : ((t.ins n o).get n).isSome with
    | false => rw [e] at h; cases h
    | true =>
      rw [e] at h
      have z := buildT_of (life := life) h
      rw [absHeap_ins e] at z
      rw [List.length_cons, Nat.add_comm r.length, ← Nat.add_assoc, z]
      show Heap.mk ((((absHeap t n life).objs.push o).toList ++ r).toArray) life = _
      rw [Array.toList_push, List.append_assoc]
      rfl
noncomputable def endsT (p : Program) (w : World) (N : Nat) : Option SharedT := (fencedOpening treeTable p w N).bind fun s₀ =>
  match s₀.heap.isNs mainGlobals && s₀.gens.size == 0 with
  | false => none
  | true => (buildT s₀.heap.objs.toList .nil 0).bind fun T =>
    (topRunT treeTable p w s₀.heap.objs.size (s₀.heap.nsMap mainGlobals "__annotations__") N ⟨T, 0 + s₀.heap.objs.toList.length, s₀.heap.life, s₀.gens, s₀.drawn, s₀.toks, s₀.os⟩ (topStub p)).bind fun s₁ =>
      match staticsOk (importedModules p.main.body) s₀.heap s₁.abs.heap && namesBound p s₁.abs.heap && gensDone s₁.abs && laidKept s₀.heap s₁.abs.heap with
      | true => some s₁
      | false => none
theorem endsT_of {p : Program} {w : World} {N : Nat} {s₁ : SharedT} (h : endsT p w N = some s₁) : openEnds treeTable p w N = some s₁.abs := by
  obtain ⟨s₀, h0, h⟩ := Option.bind_eq_some_iff.mp h
  unfold openEnds
  rw [h0, Option.bind_some]
  unfold topFrom
  cases e : (s₀.heap.isNs mainGlobals && s₀.gens.size == 0) with
  | false => rw [e] at h; cases h
  | true =>
    rw [e] at h
    obtain ⟨T, hT, h⟩ := Option.bind_eq_some_iff.mp h
    obtain ⟨s₂, h2, h⟩ := Option.bind_eq_some_iff.mp h
    have a := topRunT_of h2
    have b : (⟨T, 0 + s₀.heap.objs.toList.length, s₀.heap.life, s₀.gens, s₀.drawn, s₀.toks, s₀.os⟩ : SharedT).abs = s₀ := by
      unfold SharedT.abs
      rw [buildT_of hT]
      rfl
    rw [b] at a
    dsimp only
    rw [a, Option.bind_some]
    cases e2 : (staticsOk (importedModules p.main.body) s₀.heap s₂.abs.heap && namesBound p s₂.abs.heap && gensDone s₂.abs && laidKept s₀.heap s₂.abs.heap) with
    | false => rw [e2] at h; cases h
    | true => rw [e2] at h; cases h; rfl
theorem left_of {p : Program} {N : Nat} {β : Type} {F : Shared → β} {G : World → β} (h : ∀ w, (endsT p w N).map (fun s => F s.abs) = some (G w)) : ∀ w, (openEnds treeTable p w N).map F = some (G w) := fun w => by
  obtain ⟨s, e, h⟩ := Option.map_eq_some_iff.mp (h w)
  rw [endsT_of e, Option.map_some, h]
end
section
theorem open0 (H : Hook) {d : DefRec} {kwd : List (Str × Expr)} (hdef : defOf hd.view_39 PySem.Challenge.rw_nt0496_01.row.name = some (d, kwd)) (hp : PySem.Challenge.rw_nt0496_01.row.prog.theDef PySem.Challenge.rw_nt0496_01.row.name = some (d.params, d.body, d.scope)) (hk : kwWritten? d.params.kwonlyargs d.params.kw_defaults = some kwd)
    (left : LeftO PySem.Challenge.rw_nt0496_01.row.prog hd.view_39 loose0 (fun s => xlAt hd.view_39 [] s && recOk (RowW.records PySem.Challenge.rw_nt0496_01.row.toRowW) s) H.obs H.val 4790) (k1 : PySem.Challenge.rw_nt0496_01.row.wellSaid = true) (hw : PySem.Challenge.rw_nt0496_01.row.toRowW.promised)
    (call : WalkO hd.view_39 loose0 (XL hd.view_39 []) H.says PySem.Challenge.rw_nt0496_01.row.toRowW d kwd fun f vs => PySem.call f vs) : PySem.Challenge.rw_nt0496_01.row.Holds :=
  holds_open left H.of H.keeps (fun s e => xl_of s (Bool.and_eq_true_iff.mp e).1) XL.keeps hdef hp hk (fun s e => recFacts_of (Bool.and_eq_true_iff.mp e).2) (by rfl) k1 (by decide +kernel) ⟨rfl, rfl, rfl, rfl, rfl, by decide +kernel⟩ hw call
set_option compiler.extract_closed false
local macro_rules | `(tactic| o_head $H) => `(tactic| (refine open0 $H (by rfl) (by rfl) (by rfl) ?hl (by assumption) ?hw ?hc; case hl => (refine left_of ?_; intro w; kernel_rfl)))
set_option maxRecDepth 100000 in
set_option maxHeartbeats 0 in
def hd := fun (walk : _) => show PySem.Challenge.rw_nt0496_01.Holds from by
  w_on
  refine holds_law said0 fun said => ?_
  k_head
  case hw => w_witness2
  exact walk
end
end
section
set_option compiler.extract_closed false
open PySem PySem.W PyProof.Rows PySem.Calls
local macro_rules | `(tactic| k_all) => `(tactic| first | assumption | k_extra "alne")
local macro_rules | `(tactic| walk_at $s:str) => `(tactic| k_extra $s)
section
set_option maxHeartbeats 8000000
local macro_rules | `(tactic| omega) => `(tactic| first | decide | lia | omega (splitDisjunctions := true))
section
theorem room0 {d c n : Nat} (h : d + c < n) : d < n := Nat.lt_of_le_of_lt (Nat.le_add_right d c) h
theorem room1 {d a c n : Nat} (h : d + c < n) (e : Nat.ble a c = true) : d + a < n := Nat.lt_of_le_of_lt (Nat.add_le_add_left (Nat.le_of_ble_eq_true e) d) h
theorem room2 {d a b c n : Nat} (h : d + c < n) (e : Nat.ble (a + b) c = true) : d + a + b < n := by rw [Nat.add_assoc]; exact room1 h e
end
section
open PySem PySem.W PyProof.Rows PySem.Calls
noncomputable def isStar : Expr → Bool
  | .Starred _ _ => true
  | _ => false
noncomputable def adPlain : List Expr → Bool
  | [] => true
  | e :: r => bif isStar e then false else adPlain r
noncomputable def noComp : Expr → Bool
  | .ListComp _ _ _ _ => false
  | .SetComp _ _ _ _ => false
  | .DictComp _ _ _ _ _ => false
  | _ => true
noncomputable def intV : Value → Option Int
  | .int x _ => some x
  | _ => none
section
variable {prog : Program} {w : World} {A : Around} {E : Value → Shared → Prop} {env : Env} {In : Heap → Prop} {gl lk : Str → Option Value} {h : Heap} {g : Array GenState} {d : Drawn} {o : OsState}
theorem star_cons {e : Expr} {rest : List Expr} (hs : isStar e = false) : starEach (e :: rest) env = (false, eval e env) :: starEach rest env := by
  cases e <;> first | rfl | cases hs
theorem plain_cons {e : Expr} {r : List Expr} (hp : adPlain (e :: r) = true) : isStar e = false ∧ adPlain r = true := by
  unfold adPlain at hp
  cases hs : isStar e with
  | true => rw [hs] at hp; cases hp
  | false => rw [hs] at hp; exact ⟨rfl, hp⟩
theorem plain_args {pos : Pos} : ∀ {es : List Expr}, adPlain es = true → (backTo pos (starEach es env)).any (·.1) = false
  | [], _ => rfl
  | e :: r, hp => by
    rw [star_cons (plain_cons hp).1]
    exact plain_args (plain_cons hp).2
theorem callName_eq {f : Str} {p pos : Pos} {args : List Expr} : eval (.Call (.Name f p) args [] pos) env = (do callWith pos (← eval (.Name f p) env) [] (backTo pos (starEach args env)) (backToKw pos (keywordEach [] env))) := rfl
variable {K : Frag}
structure Lks (prog : Program) (w : World) (A : Around) (E : Value → Shared → Prop) (env : Env) (K : Frag) (gl lk : Str → Option Value) (h : Heap) (g : Array GenState) (d : Drawn) (o : OsState) : Prop where
  lkOk : ∀ x v, lk x = some v → ∀ p Q t, Q v ⟨h, g, d, t, o⟩ → wpAny (model prog w) A (eval (.Name x p) env) Q E ⟨h, g, d, t, o⟩
  glOk : ∀ x v, gl x = some v → ∀ p Q t, Q v ⟨h, g, d, t, o⟩ → wpAny (model prog w) A (eval (.Name x p) env) Q E ⟨h, g, d, t, o⟩
  keep : ∀ x a, gl x = some (.ref a) → keepIn K (.ref a) = true
  inK : K.In h
theorem intV_ok {v : Value} {x : Int} (e : intV v = some x) : ∃ t, v = .int x t := by
  cases v <;> first | (cases e; exact ⟨_, rfl⟩) | cases e
theorem noComp_ok {v : Expr} {t : Option Expr} {l : Nat} (hn : noComp v = true) : swapsWith v t l env = pure false := by
  cases v <;> first | rfl | cases hn
noncomputable def noSl (e : Expr) : Bool := match e with
  | .Slice _ _ _ _ => false
  | _ => true
noncomputable def supE (gl lk : Str → Option Value) : Expr → Bool
  | .Name x _ => (lk x).isSome
  | .Constant _ _ _ => true
  | .BinOp _ _ _ _ => true
  | .Subscript _ sl _ => noSl sl
  | .Attribute v _ _ => match v with
    | .Name _ _ => true
    | _ => false
  | .Call f as ks _ => match f with
    | .Name x _ => match ks with
      | [] => adPlain as && (gl x).isSome
      | _ => false
    | _ => false
  | .Tuple _ _ _ => true
  | .List _ _ => true
  | .UnaryOp op _ _ => match op with
    | .USub => true
    | _ => false
  | _ => false
noncomputable def supT : Expr → Bool
  | .Compare _ ops rs _ => match ops with
    | [op] => match rs with
      | [r] => !behindInMarks op r
      | _ => false
    | _ => false
  | .UnaryOp op _ _ => match op with
    | .Not => true
    | _ => false
  | .BoolOp _ _ _ => true
  | .Name _ _ => true
  | .Call _ _ _ _ => true
  | .Subscript _ _ _ => true
  | _ => false
end
end
section
open PySem PySem.W PyProof.Rows
noncomputable def digs (n : Nat) : List Int := (48 + (n % 10 : Nat) : Int) :: (if h : n < 10 then [] else digs (n / 10))
decreasing_by omega
theorem digs_step (n : Nat) : digs n = (48 + (n % 10 : Nat) : Int) :: (if n / 10 = 0 then [] else digs (n / 10)) := by
  rw [digs]
  by_cases h : n < 10
  · rw [dif_pos h, if_pos (by omega)]
  · rw [dif_neg h, if_neg (by omega)]
theorem digs_in (n : Nat) : ∀ k ∈ digs n, 48 ≤ k ∧ k < 58 := by
  induction n using Nat.strongRecOn with
  | ind n ih =>
    intro k hk
    rw [digs_step] at hk
    rcases List.mem_cons.mp hk with rfl | hk
    · omega
    · by_cases h : n / 10 = 0
      · rw [if_pos h] at hk; cases hk
      · rw [if_neg h] at hk; exact ih (n / 10) (by omega) k hk
noncomputable def decInts (i : Int) : List Int := (digs i.natAbs ++ (if i < 0 then [45] else [])).reverse
noncomputable def hexDig (k : Nat) : Int := if k < 10 then 48 + k else 87 + k
noncomputable def hex2 (k : Int) : List Int := [hexDig (k.toNat / 16), hexDig (k.toNat % 16)]
noncomputable def hexInts (b : Array UInt8) : List Int := (KBw.bInts b).flatMap hex2
theorem hex_len : ∀ ks : List Int, (ks.flatMap hex2).length = 2 * ks.length := by
  intro ks
  induction ks with
  | nil => rfl
  | cons k r ih => rw [List.flatMap_cons, List.length_append, ih, List.length_cons]; simp only [hex2, List.length_cons, List.length_nil]; omega
theorem hexDig_in {k : Nat} (h : k < 16) : 48 ≤ hexDig k ∧ hexDig k < 103 := by unfold hexDig; split <;> omega
theorem hex_in {ks : List Int} (h : ∀ k ∈ ks, 0 ≤ k ∧ k < 256) : KBa.In (ks.flatMap hex2) := by
  intro n hn
  obtain ⟨k, hk, hn⟩ := List.mem_flatMap.mp hn
  have := h k hk
  unfold hex2 at hn
  rcases List.mem_cons.mp hn with rfl | hn
  · have := hexDig_in (k := k.toNat / 16) (by omega); omega
  · rw [List.mem_singleton.mp hn]
    have := hexDig_in (k := k.toNat % 16) (by omega); omega
noncomputable abbrev hexSigns : List UInt8 := [48, 49, 50, 51, 52, 53, 54, 55, 56, 57, 97, 98, 99, 100, 101, 102]
structure DigInv (i r : Int) (ns : List Int) : Prop where
  pos : 0 ≤ r
  eq : ns ++ (if r = 0 then [] else digs r.toNat) = digs i.natAbs
theorem DigInv.start {i j : Int} (hj : j = i.natAbs) : DigInv i (j.fdiv 10) [48 + j.fmod 10] := by
  obtain ⟨n, hn⟩ : ∃ n : Nat, i.natAbs = n := ⟨_, rfl⟩
  rw [hn] at hj
  subst hj
  have e1 : Int.fdiv (n : Int) 10 = ((n / 10 : Nat) : Int) := by rw [Int.fdiv_eq_ediv_of_nonneg _ (by omega)]; omega
  have e2 : Int.fmod (n : Int) 10 = ((n % 10 : Nat) : Int) := by rw [Int.fmod_eq_emod_of_nonneg _ (by omega)]; omega
  refine ⟨by omega, ?_⟩
  rw [hn, e1, e2, digs_step n]
  by_cases h : n / 10 = 0
  · simp [h]
  · have : ¬ (((n / 10 : Nat) : Int) = 0) := by omega
    rw [if_neg h, if_neg this, Int.toNat_natCast]; simp
theorem DigInv.turn {i r : Int} {ns : List Int} (h : DigInv i r ns) (h0 : 0 < r) : DigInv i (r.fdiv 10) (ns ++ [48 + r.fmod 10]) := by
  obtain ⟨hp, he⟩ := h
  obtain ⟨n, rfl⟩ : ∃ n : Nat, r = n := ⟨r.toNat, by omega⟩
  have e1 : Int.fdiv (n : Int) 10 = ((n / 10 : Nat) : Int) := by rw [Int.fdiv_eq_ediv_of_nonneg _ (by omega)]; omega
  have e2 : Int.fmod (n : Int) 10 = ((n % 10 : Nat) : Int) := by rw [Int.fmod_eq_emod_of_nonneg _ (by omega)]; omega
  refine ⟨by omega, ?_⟩
  rw [← he, e1, e2, if_neg (by omega : ¬ (n : Int) = 0), Int.toNat_natCast, Int.toNat_natCast, digs_step n, List.append_assoc]
  by_cases h : n / 10 = 0
  · simp [h]
  · have : ¬ (((n / 10 : Nat) : Int) = 0) := by omega
    rw [if_neg h, if_neg this]; simp
theorem DigInv.fin {i r : Int} {ns : List Int} (h : DigInv i r ns) (h0 : ¬ 0 < r) : ns = digs i.natAbs := by
  have := h.eq
  have hp := h.pos
  rw [if_pos (by omega)] at this
  simpa using this
theorem DigInv.sub {i r : Int} {ns : List Int} (h : DigInv i r ns) : ∀ k ∈ ns, k ∈ digs i.natAbs := fun k hk => by rw [← h.eq]; exact List.mem_append_left _ hk
theorem DigInv.in1 {i r : Int} {ns : List Int} (h : DigInv i r ns) : KBa.In ns.reverse := fun k hk => by
  have := digs_in _ _ (h.sub k (List.mem_reverse.mp hk)); omega
theorem DigInv.in2 {i r : Int} {ns : List Int} (h : DigInv i r ns) : KBa.In (ns ++ [45]).reverse := fun k hk => by
  rcases List.mem_append.mp (List.mem_reverse.mp hk) with hk | hk
  · have := digs_in _ _ (h.sub k hk); omega
  · rw [List.mem_singleton.mp hk]; decide
theorem DigInv.len {i r : Int} {ns : List Int} (h : DigInv i r ns) (hi : (decInts i).length ≤ 1000000) : ns.length + 1 ≤ 2000000 := by
  have := congrArg List.length h.eq
  unfold decInts at hi
  rw [List.length_reverse, List.length_append] at hi
  rw [List.length_append] at this
  omega
theorem DigInv.less {r : Int} (h : 0 < r) : (r.fdiv 10).toNat < r.toNat := by
  rw [Int.fdiv_eq_ediv_of_nonneg _ (by omega)]; omega
theorem DigInv.out1 {i r : Int} {ns : List Int} (h : DigInv i r ns) (h0 : ¬ 0 < r) (hi : ¬ i < 0) : ns.reverse = decInts i := by
  rw [h.fin h0]; unfold decInts; rw [if_neg hi]; simp
theorem DigInv.out2 {i r : Int} {ns : List Int} (h : DigInv i r ns) (h0 : ¬ 0 < r) (hi : i < 0) : (ns ++ [45]).reverse = decInts i := by
  rw [h.fin h0]; unfold decInts; rw [if_pos hi]
theorem join_empty : ∀ (l : List Nat), Txt.join (Str.ofString "") (l.map fun c => (⟨#[c]⟩ : Str)) = ⟨l.toArray⟩ := by
  have e0 : Str.ofString "" = (⟨#[]⟩ : Str) := by decide +kernel
  have key : ∀ (l : List Nat) (c : Nat), Str.join (⟨#[]⟩ : Str) (((c :: l).map fun c => (⟨#[c]⟩ : Str))) = ⟨(c :: l).toArray⟩ := by
    intro l
    induction l with
    | nil => intro c; rfl
    | cons d l ih =>
      intro c
      show (⟨#[c]⟩ : Str) ++ (⟨#[]⟩ : Str) ++ Str.join (⟨#[]⟩ : Str) (((d :: l).map fun c => (⟨#[c]⟩ : Str))) = _
      rw [ih d]
      apply Str.ext'
      simp [Str.cps_append]
  intro l
  unfold Txt.join
  rw [StrLaws.glued_eq_join, e0]
  cases l with
  | nil => rfl
  | cons c l => exact key l c
theorem hex_hi {k : Int} (h0 : 0 ≤ k) (h1 : k < 256) : k.fdiv (2 ^ Int.toNat 4) = ((k.toNat / 16 : Nat) : Int) := by
  have e : (2 : Int) ^ Int.toNat 4 = 16 := by decide
  obtain ⟨n, rfl⟩ := Int.eq_ofNat_of_zero_le h0
  rw [e, Int.fdiv_eq_ediv_of_nonneg _ (by decide)]
  rfl
theorem hex_lo0 : ∀ n : Nat, n < 256 → Builtin.bitAnd (n : Int) 15 = ((n % 16 : Nat) : Int) := by decide +kernel
theorem hex_lo {k : Int} (h0 : 0 ≤ k) (h1 : k < 256) : Builtin.bitAnd k 15 = ((k.toNat % 16 : Nat) : Int) := by
  obtain ⟨n, rfl⟩ := Int.eq_ofNat_of_zero_le h0
  exact hex_lo0 n (Int.ofNat_lt.mp h1)
theorem byteArr_cps (a : Array Nat) : byteArr (a.toList.map fun (c : Nat) => (c : Int)) = a.map (·.toUInt8) := by
  unfold byteArr
  rw [List.map_map]
  apply Array.ext'
  simp [Function.comp_def]
end
section
open PySem PySem.W PyProof.Rows
noncomputable abbrev LW : List Str := looseW hd.view_39 loose0
noncomputable abbrev Led := List (Addr × Obj)
noncomputable abbrev tupOf (vs : List Value) (n : Nat) : Obj := { cls := .type "tuple", data := .seq vs.toArray n }
inductive D where
  | none
  | bool (b : Bool)
  | int (i : Int)
  | str (x : Str)
  | bytes (b : Array UInt8)
  | tup (ds : List D)
mutual
inductive DIn (led : Led) : Value → D → Prop
  | none : DIn led Value.none D.none
  | bool (b : Bool) : DIn led (Value.bool b) (D.bool b)
  | int (i : Int) (t : Tok) : DIn led (Value.int i t) (D.int i)
  | str (x : Str) (t : Tok) : DIn led (Value.str x t) (D.str x)
  | bytes (b : Array UInt8) (t : Tok) : DIn led (Value.bytes b t) (D.bytes b)
  | tup {a : Addr} {vs : List Value} {n : Nat} {ds : List D} : (a, tupOf vs n) ∈ led → DAll led vs ds → DIn led (Value.ref a) (D.tup ds)
inductive DAll (led : Led) : List Value → List D → Prop
  | nil : DAll led [] []
  | cons {v : Value} {vs : List Value} {d : D} {ds : List D} : DIn led v d → DAll led vs ds → DAll led (v :: vs) (d :: ds)
end
mutual
theorem DIn.mono {led led' : Led} (hs : ∀ p ∈ led, p ∈ led') : ∀ {v : Value} {d : D}, DIn led v d → DIn led' v d
  | _, _, .none => .none
  | _, _, .bool b => .bool b
  | _, _, .int i t => .int i t
  | _, _, .str x t => .str x t
  | _, _, .bytes b t => .bytes b t
  | _, _, .tup h r => .tup (hs _ h) (DAll.mono hs r)
theorem DAll.mono {led led' : Led} (hs : ∀ p ∈ led, p ∈ led') : ∀ {vs : List Value} {ds : List D}, DAll led vs ds → DAll led' vs ds
  | _, _, .nil => .nil
  | _, _, .cons h r => .cons (DIn.mono hs h) (DAll.mono hs r)
end
section
variable {led : Led} {v : Value} {d : D} {vs ws : List Value} {ds es : List D}
theorem DAll.length (h : DAll led vs ds) : vs.length = ds.length := by
  induction vs generalizing ds with
  | nil => cases h; rfl
  | cons v vs ih =>
    cases h with
    | cons _ r => rw [List.length_cons, List.length_cons, ih r]
theorem DAll.append (h : DAll led vs ds) (k : DAll led ws es) : DAll led (vs ++ ws) (ds ++ es) := by
  induction vs generalizing ds with
  | nil => cases h; exact k
  | cons v vs ih =>
    cases h with
    | cons h r => exact .cons h (ih r)
theorem DAll.one (h : DIn led v d) : DAll led [v] [d] := .cons h .nil
theorem DAll.get (h : DAll led vs ds) {k : Nat} (hk : k < ds.length) : ∃ v, vs[k]? = some v ∧ DIn led v (ds[k]'hk) := by
  induction vs generalizing ds k with
  | nil => cases h; exact absurd hk (Nat.not_lt_zero _)
  | cons v vs ih =>
    cases h with
    | cons h r =>
      cases k with
      | zero => exact ⟨v, rfl, h⟩
      | succ k => exact ih r (Nat.lt_of_succ_lt_succ hk)
end
inductive RetX (led : Led) (x : Value) (led' : Led) (r : Value) : Prop
  | mk (h : led' = led) (e : r = x) : RetX led x led' r
inductive RetB (led : Led) (b : Array UInt8) (led' : Led) (r : Value) : Prop
  | mk (h : led' = led) (t : Tok) (e : r = .bytes b t) : RetB led b led' r
inductive RetI (led : Led) (i : Int) (led' : Led) (r : Value) : Prop
  | mk (h : led' = led) (t : Tok) (e : r = .int i t) : RetI led i led' r
inductive RetS (led : Led) (x : Str) (led' : Led) (r : Value) : Prop
  | mk (h : led' = led) (t : Tok) (e : r = .str x t) : RetS led x led' r
noncomputable def Con (w : World) (f : Addr) (vs : List Value) (led : Led) (dk uk : Nat) (Out : Led → Value → Prop) : Prop :=
  ∀ (mean : ExcName → Option Value) (mg mb : Str → Option Value) (dp un : Nat) (cn : Str) (cs : Scope) (a : Addr) (ccd : Value) (cl : List (Str × Addr)) (outer : List Env) (A₀ : Around) (base h₀ : Heap) (L : Addr) (m : Str → Option Value) (s : Shared)
    (Q E : Value → Shared → Prop),
    Below A₀ base outer h₀ → Fr h₀ L s.heap m → (hd.heap_1 w.params).In h₀ → News h₀ L s.heap led → Top hd.view_39 LW mean mg mb h₀ → cs.kind = .function → dp + dk < recursionLimit → un + uk < cLine →
    (∀ r led' h' tk', Fr h₀ L h' m → News h₀ L h' led' → Out led' r → Q r { s with heap := h', toks := tk' }) →
    wpAny (model PySem.Challenge.rw_nt0496_01.row.prog w) (ktrTop dp un (some []) cn cs L a ccd cl outer) (call (.ref f) vs) Q E s
structure Halt (P : Prop) : Prop where
  go : P
theorem halt {P : Prop} (h : Halt P) : P := h.go
theorem fill : (∀ w : World, (hd.heap_1 w.params).In = (hd.heap_1 w.params).In) ∧ PySem.Challenge.rw_nt0496_01.row = PySem.Challenge.rw_nt0496_01.row := by
  k_fill
  exact ⟨fun _ => rfl, rfl⟩
end
section
open PySem PySem.W PyProof.Rows
noncomputable abbrev S1 (x : String) : Str := Str.ofString x
noncomputable def gtF : List (Str × Value) := [(S1 "_law_draw", .ref 281), (S1 "_law_truth", .ref 293), (S1 "is_flat_number", .ref 99), (S1 "flat_value_octets", .ref 166), (S1 "text_of", .ref 64), (S1 "octets_of", .ref 69), (S1 "hex_value", .ref 76), (S1 "hex_octets", .ref 83), (S1 "decimal_octets", .ref 90), (S1 "is_flat_plain", .ref 106), (S1 "is_flat_recipe", .ref 111), (S1 "is_flat_seen", .ref 116), (S1 "is_flat_recipes", .ref 121), (S1 "flat_shapes", .ref 128), (S1 "is_flat_part", .ref 135), (S1 "is_flat_row", .ref 140), (S1 "FlatProgram", .ref 157), (S1 "flat_octets", .ref 171), (S1 "FlatReader", .ref 258), (S1 "flat_read", .ref 269), (S1 "_law_deck", .ref 274), (S1 "_law_drawn_octets", .ref 286), (S1 "_law_recipe", .ref 300), (S1 "_law_seen", .ref 305), (S1 "_law_row", .ref 310), (S1 "_law_part", .ref 315), (S1 "_law_is_strict", .ref 322), (S1 "_law_bent", .ref 329), (S1 "BadFlat", .ref 45), (S1 "BadText", .ref 57)]
noncomputable def gtO : List (Str × Value) := [(S1 "OPENS", .int 40 393), (S1 "CLOSES", .int 41 395), (S1 "BLANK", .int 32 397), (S1 "MINUS", .int 45 399), (S1 "QUOTE", .int 39 401), (S1 "HEX_OPENS", .int 60 403), (S1 "HEX_CLOSES", .int 62 405), (S1 "PLAIN_KINDS", .ref 92), (S1 "BODY_KINDS", .ref 91)]
noncomputable def gtB : List (Str × Value) := [(S1 "len", .builtin "len"), (S1 "isinstance", .builtin "isinstance"), (S1 "int", .type "int"), (S1 "bool", .type "bool"), (S1 "bytes", .type "bytes"), (S1 "tuple", .type "tuple"), (S1 "str", .type "str"), (S1 "range", .type "range"), (S1 "list", .type "list"), (S1 "chr", .builtin "chr"), (S1 "ord", .builtin "ord"), (S1 "all", .builtin "all"), (S1 "zip", .type "zip"), (S1 "repr", .builtin "repr"), (S1 "enumerate", .type "enumerate")]
noncomputable def OkF (P : Params) : List (Str × Value) → Prop
  | [] => True
  | p :: r => (nsIn (hd.heap_1 P) mainGlobals p.1 = some (some p.2) ∧ keepIn (hd.heap_1 P) p.2 = true) ∧ OkF P r
noncomputable def OkO (P : Params) : List (Str × Value) → Prop
  | [] => True
  | p :: r => nsIn (hd.heap_1 P) mainGlobals p.1 = some (some p.2) ∧ OkO P r
noncomputable def OkB (P : Params) : List (Str × Value) → Prop
  | [] => True
  | p :: r => (nsIn (hd.heap_1 P) mainGlobals p.1 = some none ∧ bootBuiltins p.1 = some p.2 ∧ p.1 ≠ "__name__" ∧ ∀ a, p.2 ≠ .ref a) ∧ OkB P r
theorem okF (P : Params) : OkF P gtF := by
  repeat' (refine And.intro (And.intro ?_ ?_) ?_)
  all_goals first | exact trivial | k_is
theorem okO (P : Params) : OkO P gtO := by
  repeat' (refine And.intro ?_ ?_)
  all_goals first | exact trivial | k_is
theorem okB (P : Params) : OkB P gtB := by
  repeat' (refine And.intro (And.intro ?_ (And.intro ?_ (And.intro ?_ ?_))) ?_)
  all_goals first | exact trivial | k_is | (show bootBuiltins _ = some _; kernel_rfl) | exact (fun _ h => nomatch h) | (show Str.ofString _ ≠ Str.ofString _; decide)
theorem OkF.get {P : Params} {x : Str} {v : Value} : ∀ {l}, OkF P l → l.lookup x = some v → nsIn (hd.heap_1 P) mainGlobals x = some (some v) ∧ keepIn (hd.heap_1 P) v = true
  | [], _, h => nomatch h
  | (y, u) :: r, H, h => by
    by_cases e : x = y
    · subst e; rw [List.lookup_cons_self] at h; cases h; exact H.1
    · rw [List.lookup_cons, beq_false_of_ne e] at h; exact OkF.get H.2 h
theorem OkO.get {P : Params} {x : Str} {v : Value} : ∀ {l}, OkO P l → l.lookup x = some v → nsIn (hd.heap_1 P) mainGlobals x = some (some v)
  | [], _, h => nomatch h
  | (y, u) :: r, H, h => by
    by_cases e : x = y
    · subst e; rw [List.lookup_cons_self] at h; cases h; exact H.1
    · rw [List.lookup_cons, beq_false_of_ne e] at h; exact OkO.get H.2 h
theorem OkB.get {P : Params} {x : Str} {v : Value} : ∀ {l}, OkB P l → l.lookup x = some v → nsIn (hd.heap_1 P) mainGlobals x = some none ∧ bootBuiltins x = some v ∧ x ≠ "__name__" ∧ ∀ a, v ≠ .ref a
  | [], _, h => nomatch h
  | (y, u) :: r, H, h => by
    by_cases e : x = y
    · subst e; rw [List.lookup_cons_self] at h; cases h; exact H.1
    · rw [List.lookup_cons, beq_false_of_ne e] at h; exact OkB.get H.2 h
noncomputable def gtC (x : Str) : Option Value := match gtB.lookup x with
  | some v => some v
  | none => gtF.lookup x
noncomputable def gtA (x : Str) : Option Value := match gtC x with
  | some v => some v
  | none => gtO.lookup x
noncomputable def noDbg : List (Str × NameKind) → Bool
  | [] => true
  | p :: r => match p.1 == ("__debug__" : Str) with
    | true => false
    | false => noDbg r
theorem noDbg_ok {x : Str} {k : NameKind} : ∀ {l}, noDbg l = true → l.lookup x = some k → (x == ("__debug__" : Str)) = false
  | [], _, h => nomatch h
  | (y, u) :: r, H, h => by
    unfold noDbg at H
    cases hy : (y == ("__debug__" : Str)) with
    | true => simp only [hy] at H; cases H
    | false =>
      simp only [hy] at H
      by_cases e : x = y
      · subst e; exact hy
      · rw [List.lookup_cons, beq_false_of_ne e] at h; exact noDbg_ok H h
end
section
open PySem PySem.W PyProof.Rows PySem.Calls
theorem Con.use {w : World} {f : Addr} {vs : List Value} {led : Led} {dk uk : Nat} {Out : Led → Value → Prop} (C : Con w f vs led dk uk Out)
    {mean : ExcName → Option Value} {mg mb : Str → Option Value} {dp un : Nat} {cn : Str} {cs : Scope} {a : Addr} {ccd : Value} {cl : List (Str × Addr)} {outer : List Env} {A₀ : Around} {base h₀ : Heap} {L : Addr} {m : Str → Option Value} {s : Shared}
    {Q E : Value → Shared → Prop} (B : Below A₀ base outer h₀) (F : Fr h₀ L s.heap m) (X : (hd.heap_1 w.params).In h₀) (N : News h₀ L s.heap led) (T : Top hd.view_39 LW mean mg mb h₀) (hk : cs.kind = .function) (hd : dp + dk < recursionLimit) (hu : un + uk < cLine)
    (ret : ∀ r led' h' tk', Fr h₀ L h' m → News h₀ L h' led' → Out led' r → Q r { s with heap := h', toks := tk' }) :
    wpAny (model PySem.Challenge.rw_nt0496_01.row.prog w) (ktrTop dp un (some []) cn cs L a ccd cl outer) (call (.ref f) vs) Q E s := C _ _ _ _ _ _ _ _ _ _ _ _ _ _ _ _ _ _ _ B F X N T hk hd hu ret
section
variable {prog : Program} {w : World} {A : Around} {E : Value → Shared → Prop} {s : Shared} {h₀ : Heap} {L : Addr} {m : Str → Option Value} {env : Env}
theorem rest_gen {elt : Expr} {x : Str} {scope : Scope} {cl : List (Str × Addr)} {S : Led → Prop} {P : Nat → Value → Prop} {Fin : List Value → Led → Prop} {n : Nat} {news : Led} (J : Nat → List Value → Led → Prop) (h0 : J 0 [] news)
    (turn : ∀ i v ys nx I oI C oC D m₂ h tk (E' : Value → Shared → Prop), i < n → P i v → J i ys nx → LCg.NsObj oC m₂ → m₂ x = some v → Fr h₀ L h m → News h₀ L h ((I, oI) :: (C, oC) :: (D, LCg.lst ys) :: nx) → LCg.Off3 I C D nx → ((@Ne Nat I C) ∧ (@Ne Nat I D) ∧ (@Ne Nat C D)) →
      wpAny (model prog w) A (eval elt (compEnvC scope cl C env)) (LCg.CompEnd h₀ L m { s with heap := h, toks := tk } I oI C oC D (LCg.lst ys) S (fun y news' => J (i + 1) (ys ++ [y]) news')) E' { s with heap := h, toks := tk })
    (fin : ∀ ys nx, J n ys nx → Fin ys nx) : LCg.CompRest prog w A h₀ L m env elt x scope cl s S P Fin n 0 [] news := by
  have key : ∀ (j i : Nat) (ys : List Value) (nx : Led), i + j = n → J i ys nx → LCg.CompRest prog w A h₀ L m env elt x scope cl s S P Fin j i ys nx := by
    intro j
    induction j with
    | zero =>
      intro i ys nx hi hy
      have e : i = n := by omega
      subst e
      exact LCg.CompRest.zero (fin ys nx hy)
    | succ j ih =>
      intro i ys nx hi hy
      refine LCg.CompRest.succ ?_
      intro v I oI C oC D m₂ h tk E' hv hC hx F N off ne
      refine wpAny_mono (turn i v ys nx I oI C oC D m₂ h tk E' (by omega) hv hy hC hx F N off ne) (fun y s₂ hq => ?_) fun _ _ e => e
      obtain ⟨h', tk', nw, e, F', N', off', hS, hn⟩ := hq
      exact ⟨h', tk', nw, e, F', N', off', hS, ih (i + 1) _ _ (by omega) hn⟩
  exact key n 0 [] news (by omega) h0
theorem rest_const {elt : Expr} {x : Str} {scope : Scope} {cl : List (Str × Addr)} {S : Led → Prop} {P : Nat → Value → Prop} {Fin : List Value → Led → Prop} {n : Nat} {news : Led} (J : Nat → List Value → Prop) (h0 : J 0 [])
    (turn : ∀ i v ys I oI C oC D m₂ h tk (E' : Value → Shared → Prop), i < n → P i v → J i ys → LCg.NsObj oC m₂ → m₂ x = some v → Fr h₀ L h m → News h₀ L h ((I, oI) :: (C, oC) :: (D, LCg.lst ys) :: news) → LCg.Off3 I C D news → ((@Ne Nat I C) ∧ (@Ne Nat I D) ∧ (@Ne Nat C D)) →
      wpAny (model prog w) A (eval elt (compEnvC scope cl C env)) (LCg.CompEnd h₀ L m { s with heap := h, toks := tk } I oI C oC D (LCg.lst ys) S (fun y news' => news' = news ∧ J (i + 1) (ys ++ [y]))) E' { s with heap := h, toks := tk })
    (fin : ∀ ys, J n ys → Fin ys news) : LCg.CompRest prog w A h₀ L m env elt x scope cl s S P Fin n 0 [] news :=
  rest_gen (fun i ys nx => nx = news ∧ J i ys) ⟨rfl, h0⟩ (by
    rintro i v ys nx I oI C oC D m₂ h tk E' hi hP ⟨rfl, hJ⟩ hC hx F N off ne
    exact turn i v ys I oI C oC D m₂ h tk E' hi hP hJ hC hx F N off ne) (by rintro ys nx ⟨rfl, hJ⟩; exact fin ys hJ)
theorem bools_snoc {vs : List Value} {bs : List Bool} (h : LSm.BoolsAre vs bs) (b : Bool)   : LSm.BoolsAre (vs ++ [.bool b]) (bs ++ [b]) := by
  induction h with
  | nil => exact .cons b .nil
  | cons c _ ih => exact .cons c ih
noncomputable def CompGo (prog : Program) (w : World) (A : Around) (h₀ : Heap) (L : Addr) (m : Str → Option Value) (env : Env) (elt : Expr) (x : Str) (scope : Scope) (cl : List (Str × Addr)) (Fin : Shared → List Value → Led → Prop) (it : Value) (s₂ : Shared) : Prop :=
  ∃ (I : Addr) (fp : List Addr) (n : Nat) (P : Nat → Value → Prop) (St : Nat → Heap → Prop) (S : Led → Prop) (news : Led), it = .ref I ∧ Walks prog w A I fp [I] n P St ∧ n ≤ sizeLine ∧ (∀ i h, St i h → ∃ o, h.get? I = some o) ∧
    (∀ i h h' o nw, St i h → h.get? I = some o → h'.get? I = some o → (∀ b o, h₀.get? b = some o → h'.get? b = some o) → News h₀ L h' nw → S nw → St i h') ∧
    St 0 s₂.heap ∧ (∀ b ∈ fp, b < s₂.heap.objs.size) ∧ Fr h₀ L s₂.heap m ∧ News h₀ L s₂.heap news ∧ L ≠ I ∧ h₀.get? I = none ∧ (∀ p ∈ news, p.1 ≠ I) ∧ S news ∧
    LCg.CompRest prog w A h₀ L m env elt x scope cl s₂ S P (Fin s₂) n 0 [] news
theorem comp_W {elt iter : Expr} {x : Str} {px : Pos} {scope : Scope} {cl : List (Str × Addr)} {pos : Pos} {Q : Value → Shared → Prop} (_F₀ : Fr h₀ L s.heap m)
    (hclos : closureFor scope env = pure cl) (hcell : ∀ y ∈ scope.names, y.2 ≠ .cell) (hkind : scope.kind = .function)
    (hnames : ∀ y ∈ scope.names, y.2 = .local → scope.names.lookup y.1 = some .local) (hx : scope.names.lookup x = some .local)
    (h : wpAny (model prog w) A (eval iter env) (fun xv s₁ => wpAny (model prog w) A (pyIter xv) (CompGo prog w A h₀ L m env elt x scope cl (fun s₂ => LCg.FinE h₀ L m s₂ Q)) E s₁) E s)
    (hs : ∀ x, foldedSetIterable iter env x = pure x := by intro _; rfl) :
    wpAny (model prog w) A (eval (.ListComp elt [⟨.Name x px, iter, [], 0⟩] scope pos) env) Q E s := by
  rw [eval_ListComp]
  refine wpAny_comprehension_free (use := none) rfl hs hclos hkind hnames (wpAny_mono h (fun xv s₁ h₁ => wpAny_mono h₁ (fun it s₂ h₂ => ?_) fun _ _ e => e) fun _ _ e => e)
  obtain ⟨I, fp, n, P, St, S, news, rfl, W, hsz, hIo, hSt, st0, hfp, F, N, hIL, hI₀, off, hS, R⟩ := h₂
  refine LCg.block_U W hsz hIo hSt hcell hkind hx st0 hfp F N hIL hI₀ off hS R ?_
  intro D C h tk m' ys news' F' N' o1 hn hC₀ hD₀ hCL hDL hCD offC fin
  refine ⟨m', hn, fun h'' hs'' => fin D h'' tk (F'.change hs'' hCL hC₀) (fun p hp => ?_) o1⟩
  refine ⟨hs''.extBut _ _ ?_ (N' p hp).1, (N' p hp).2⟩
  rcases List.mem_cons.mp hp with rfl | hp
  · exact Ne.symm hCD
  · exact offC p hp
theorem comp_assign_W {elt iter : Expr} {x y : Str} {px py : Pos} {scope : Scope} {cl : List (Str × Addr)} {pos spos : Pos} {Q : Flow → Shared → Prop} (_F₀ : Fr h₀ L s.heap m) (hLe : env.locals = L)
    (hsw : swapsWith (.ListComp elt [⟨.Name x px, iter, [], 0⟩] scope pos) (some (.Name y py)) spos.line env = pure true)
    (hclos : closureFor scope env = pure cl) (hcell : ∀ z ∈ scope.names, z.2 ≠ .cell) (hkind : scope.kind = .function)
    (hnames : ∀ z ∈ scope.names, z.2 = .local → scope.names.lookup z.1 = some .local) (hx : scope.names.lookup x = some .local)
    (hy : env.kindOf y = some .local) (hp : (env.scope.kind == .class || (env.scope.kind == .module && env.locals != env.globals)) = false)
    (h : wpAny (model prog w) A (eval iter env) (fun xv s₁ => wpAny (model prog w) A (pyIter xv) (CompGo prog w A h₀ L m env elt x scope cl (fun s₂ => LCg.FinA h₀ L m s₂ y Q)) E s₁) E s)
    (hs : ∀ x, foldedSetIterable iter env x = pure x := by intro _; rfl) :
    wpAny (model prog w) A (exec (.Assign [.Name y py] (.ListComp elt [⟨.Name x px, iter, [], 0⟩] scope pos) spos) env) Q E s := by
  subst hLe
  rw [exec_Assign_Name_used _ _ _ _ hsw]
  refine wpAny_bind (wpAny_standAt (wpAny_bind ?_))
  show wpAny _ A (do let _ ← comprehension (.ListComp elt [⟨.Name x px, iter, [], 0⟩] scope pos) scope env _ (newList []) false (eval iter env) (some (assign (.Name y py) env))) _ _ s
  refine wpAny_bind (wpAny_mono (wpAny_comprehension_free (use := some (assign (.Name y py) env)) (Q := fun _ s' => Q .next s') rfl hs hclos hkind hnames
    (wpAny_mono h (fun xv s₁ h₁ => wpAny_mono h₁ (fun it s₂ h₂ => ?_) fun _ _ e => e) fun _ _ e => e)) (fun _ s' hq => wpAny_pure (wpAny_pure hq)) fun _ _ e => e)
  obtain ⟨I, fp, n, P, St, S, news, rfl, W, hsz, hIo, hSt, st0, hfp, F, N, hIL, hI₀, off, hS, R⟩ := h₂
  refine LCg.block_U W hsz hIo hSt hcell hkind hx st0 hfp F N hIL hI₀ off hS R ?_
  intro D C h' tk m' ys news' F' N' o1 hn hC₀ hD₀ hCL hDL hCD offC fin
  show wpAny _ A (assign (.Name y py) env (.ref D)) _ _ _
  refine wpAny_assign_Name (wpAny_storeName_local hy F'.ns (fun h₂ hn₂ hs₂ => ?_) hp)
  have hL₀ : h₀.get? env.locals = none := Heap.get?_none_of_le F'.above
  have F₂ : Fr h₀ env.locals h₂ (fun z => if z = y then some (.ref D) else m z) := ⟨hn₂, fun b o e => hs₂.extBut b o (fun q => by rw [q, hL₀] at e; cases e) (F'.keep b o e), F'.above⟩
  refine ⟨m', hn.sameBut hs₂ hCL, fun h'' hs'' => fin D h'' _ (F₂.change hs'' hCL hC₀) (fun p hp => ?_) o1⟩
  have z : h₂.get? p.1 = some p.2 := hs₂.extBut _ _ (N' p hp).2.1 (N' p hp).1
  refine ⟨hs''.extBut _ _ ?_ z, (N' p hp).2⟩
  rcases List.mem_cons.mp hp with rfl | hp
  · exact Ne.symm hCD
  · exact offC p hp
theorem go_bytes {b : Array UInt8} {tb : Tok} {elt : Expr} {x : Str} {scope : Scope} {cl : List (Str × Addr)} {Fin : Shared → List Value → Led → Prop} {news : Led} (hh : A.handled = none) (F : Fr h₀ L s.heap m) (N : News h₀ L s.heap news) (hsz : b.size ≤ sizeLine)
    (R : ∀ g, LCg.CompRest prog w A h₀ L m env elt x scope cl { s with heap := g } (fun _ => True) (fun i v => ∃ c u, b[i]? = some c ∧ v = .int (c.toNat : Int) u) (Fin { s with heap := g }) b.size 0 [] news) :
    wpAny (model prog w) A (pyIter (.bytes b tb)) (CompGo prog w A h₀ L m env elt x scope cl Fin) E s := by
  refine KBw.pyIter_bytes ⟨_, _, _, _, _, fun _ => True, news, rfl, KBw.walks hh s.heap.objs.size b tb, hsz, fun i h st => let ⟨o, ho, _⟩ := st; ⟨o, ho⟩, fun i h h' o nw st e e' _ _ _ => ?_, ⟨_, Heap.get?_push_size _ rfl, rfl, rfl⟩, fun b hb => ?_, F.push _, N.grown fun _ _ e => Heap.get?_push_of_some _ e,
    Nat.ne_of_lt F.ns.lt, next_is_new F, fun p hp => Nat.ne_of_lt (Heap.lt_size (N p hp).1), trivial, R _⟩
  · obtain ⟨o', h1, h2, h3⟩ := st; rw [e] at h1; cases h1; exact ⟨o, e', h2, h3⟩
  · rw [List.mem_singleton.mp hb]; show s.heap.objs.size < (s.heap.push _).objs.size; rw [Heap.size_push]; exact Nat.lt_succ_self _
theorem go_tuple {ax : Addr} {vs : List Value} {k : Nat} {elt : Expr} {x : Str} {scope : Scope} {cl : List (Str × Addr)} {Fin : Shared → List Value → Led → Prop} {news : Led} (hh : A.handled = none) (F : Fr h₀ L s.heap m) (N : News h₀ L s.heap news) (hm : (ax, tupOf vs k) ∈ news) (hsz : vs.length ≤ sizeLine)
    (R : ∀ g, LCg.CompRest prog w A h₀ L m env elt x scope cl { s with heap := g } (fun nw => (ax, tupOf vs k) ∈ nw) (fun i v => vs[i]? = some v) (Fin { s with heap := g }) vs.length 0 [] news) :
    wpAny (model prog w) A (pyIter (.ref ax)) (CompGo prog w A h₀ L m env elt x scope cl Fin) E s := by
  have ht : s.heap.IsTuple ax vs.toArray := ⟨_, (N _ hm).1, rfl, k, rfl⟩
  have hlt : ax < s.heap.objs.size := Heap.lt_size (N _ hm).1
  have W := Walks.tuple (prog := prog) (w := w) hh s.heap.objs.size ax (Nat.ne_of_lt hlt) vs.toArray
  have hW : Walks prog w A s.heap.objs.size [s.heap.objs.size, ax] [s.heap.objs.size] vs.length (fun i v => vs[i]? = some v) (fun i h => h.IsTupleIter s.heap.objs.size ax i ∧ h.IsTuple ax vs.toArray) := by
    simpa using W
  refine wpAny_pyIter_tuple ht ⟨_, _, _, _, _, fun nw => (ax, tupOf vs k) ∈ nw, news, rfl, hW, hsz, fun i h st => let ⟨o, ho, _⟩ := st.1; ⟨o, ho⟩, fun i h h' o nw st e e' _ N' hS => ?_, ⟨⟨_, Heap.get?_push_size _ rfl, rfl, rfl⟩, ?_⟩, fun b hb => ?_, F.push _, N.grown fun _ _ e => Heap.get?_push_of_some _ e,
    Nat.ne_of_lt F.ns.lt, next_is_new F, fun p hp => Nat.ne_of_lt (Heap.lt_size (N p hp).1), hm, R _⟩
  · refine ⟨?_, ⟨_, (N' _ hS).1, rfl, k, rfl⟩⟩
    obtain ⟨o', h1, h2⟩ := st.1; rw [e] at h1; cases h1; exact ⟨o, e', h2⟩
  · exact ⟨_, Heap.get?_push_of_some _ (N _ hm).1, rfl, k, rfl⟩
  · show b < (s.heap.push _).objs.size
    rw [Heap.size_push]
    rcases List.mem_cons.mp hb with rfl | hb
    · exact Nat.lt_succ_self _
    · rw [List.mem_singleton.mp hb]; exact Nat.lt_succ_of_lt hlt
theorem go_str {y : Str} {tb : Tok} {elt : Expr} {x : Str} {scope : Scope} {cl : List (Str × Addr)} {Fin : Shared → List Value → Led → Prop} {news : Led} (hh : A.handled = none) (F : Fr h₀ L s.heap m) (N : News h₀ L s.heap news) (hsz : y.cps.size ≤ sizeLine)
    (R : ∀ g, LCg.CompRest prog w A h₀ L m env elt x scope cl { s with heap := g } (fun _ => True) (SignAt y) (Fin { s with heap := g }) y.cps.size 0 [] news) :
    wpAny (model prog w) A (pyIter (.str y tb)) (CompGo prog w A h₀ L m env elt x scope cl Fin) E s := by
  cases ha : y.cps.all (· < 128)
  · refine wpAny_pyIter_wide ha ⟨_, _, _, _, _, fun _ => True, news, rfl, Walks.strWide hh s.heap.objs.size y tb, hsz, fun i h st => let ⟨o, ho, _⟩ := st; ⟨o, ho⟩, fun i h h' o nw st e e' _ _ _ => ?_, ⟨_, Heap.get?_push_size _ rfl, rfl, rfl⟩, fun b hb => ?_, F.push _, N.grown fun _ _ e => Heap.get?_push_of_some _ e,
      Nat.ne_of_lt F.ns.lt, next_is_new F, fun p hp => Nat.ne_of_lt (Heap.lt_size (N p hp).1), trivial, R _⟩
    · obtain ⟨o', h1, h2, h3⟩ := st; rw [e] at h1; cases h1; exact ⟨o, e', h2, h3⟩
    · rw [List.mem_singleton.mp hb]; show s.heap.objs.size < (s.heap.push _).objs.size; rw [Heap.size_push]; exact Nat.lt_succ_self _
  · refine wpAny_pyIter_ascii ha ⟨_, _, _, _, _, fun _ => True, news, rfl, Walks.strAscii hh s.heap.objs.size y tb, hsz, fun i h st => let ⟨o, ho, _⟩ := st; ⟨o, ho⟩, fun i h h' o nw st e e' _ _ _ => ?_, ⟨_, Heap.get?_push_size _ rfl, rfl, rfl⟩, fun b hb => ?_, F.push _, N.grown fun _ _ e => Heap.get?_push_of_some _ e,
      Nat.ne_of_lt F.ns.lt, next_is_new F, fun p hp => Nat.ne_of_lt (Heap.lt_size (N p hp).1), trivial, R _⟩
    · obtain ⟨o', h1, h2, h3⟩ := st; rw [e] at h1; cases h1; exact ⟨o, e', h2, h3⟩
    · rw [List.mem_singleton.mp hb]; show s.heap.objs.size < (s.heap.push _).objs.size; rw [Heap.size_push]; exact Nat.lt_succ_self _
end
end
section
open PySem PySem.W PyProof.Rows PySem.Calls PySem.MeetsSeq PySem.SeqAt
theorem g_str_bytes (a : Str) (t : Tok) (b : Array UInt8) (u : Tok) : Gives (Builtin.«str.__eq__» ⟨[.str a t, .bytes b u], []⟩) (.val (Value.notImplemented)) :=
  .of_wp fun M A E s Q h => by obtain ⟨hp, g, d, tk, os⟩ := s; wp_walk; exact ⟨_, rfl, h⟩
theorem g_bytes_str (a : Array UInt8) (t : Tok) (b : Str) (u : Tok) : Gives (Builtin.«bytes.__eq__» ⟨[.bytes a t, .str b u], []⟩) (.val (Value.notImplemented)) :=
  .of_wp fun M A E s Q h => by obtain ⟨hp, g, d, tk, os⟩ := s; have f1 := F.sub_str_bytes; wp_walk; exact ⟨_, rfl, h⟩
theorem sub_bytes_str : isSubtype (.type "bytes") (.type "str") = pure false := by rw [isSubtype_type]; kernel_rfl
theorem slot_bytes_eq_r : Slot "bytes" (cmpInfo .Eq).2.2 "bytes.__eq__" := FB.slot_bytes_eq
section
variable {A : Around} {s : Shared}
theorem rc_bytes_str (a : Array UInt8) (t : Tok) (b : Str) (u : Tok) : RcAt A s (.bytes a t) (.str b u) false := fun prog w E Q h =>
  rc_eq_decline_or (k := false) (typeIs_bytes s a t) (typeIs_str s b u) (by decide) F.sub_str_bytes FB.slot_bytes_eq F.slot_str_eq_refl
    (fun _ hq => call_gives FB.slot_bytes_eq (typeIs_bytes s a t) FB.entry_bytes_eq (FB.args_bytes_eq_2 _ _) (g_bytes_str a t b u) hq)
    (fun _ hq => call_gives F.slot_str_eq_refl (typeIs_str s b u) F.entry_str_eq (F.args_str_eq_2 _ _) (g_str_bytes b u a t) hq)
    (fun _ hq => wpAny_of_eq (rfl : isSame (.bytes a t) (.str b u) = pure false) hq) (.inl rfl) h
theorem rc_str_bytes (a : Str) (t : Tok) (b : Array UInt8) (u : Tok) : RcAt A s (.str a t) (.bytes b u) false := fun prog w E Q h =>
  rc_eq_decline_or (k := false) (typeIs_str s a t) (typeIs_bytes s b u) (by decide) sub_bytes_str F.slot_str_eq slot_bytes_eq_r
    (fun _ hq => call_gives F.slot_str_eq (typeIs_str s a t) F.entry_str_eq (F.args_str_eq_2 _ _) (g_str_bytes a t b u) hq)
    (fun _ hq => call_gives slot_bytes_eq_r (typeIs_bytes s b u) FB.entry_bytes_eq (FB.args_bytes_eq_2 _ _) (g_bytes_str b u a t) hq)
    (fun _ hq => wpAny_of_eq (rfl : isSame (.str a t) (.bytes b u) = pure false) hq) (.inl rfl) h
theorem eqAt_str_bytes (a : Str) (t : Tok) (b : Array UInt8) (u : Tok) : EqAt A s (.str a t) (.bytes b u) false := fun prog w E Q h => by
  unfold eqBool
  refine wpAny_holding ?_
  refine wpAny_ite_split (fun hab => absurd (eq_of_beq hab) nofun) (fun _ => ?_)
  exact wpAny_bind (rc_str_bytes a t b u prog w E _ (wpAny_truthy_bool h))
end
noncomputable def D.isS : D → Str → Bool
  | .str x, y => x == y
  | _, _ => false
noncomputable def D.kind : D → String
  | .none => "NoneType"
  | .bool _ => "bool"
  | .int _ => "int"
  | .str _ => "str"
  | .bytes _ => "bytes"
  | .tup _ => "tuple"
noncomputable def D.isNone : D → Bool
  | .none => true
  | _ => false
theorem DIn.isTup {h₀ h : Heap} {L : Addr} {led : Led} {a : Addr} {vs : List Value} {n : Nat} (N : News h₀ L h led) (hm : (a, tupOf vs n) ∈ led) : h.IsTuple a vs.toArray := ⟨_, (N _ hm).1, rfl, n, rfl⟩
section
variable {w : World} {A : Around} {E : Value → Shared → Prop} {s : Shared} {h₀ : Heap} {L : Addr} {m : Str → Option Value} {Q : Value → Shared → Prop} {led : Led} {v : Value} {d : D} {prog : Program}
theorem isi_int (X : (hd.heap_1 w.params).In h₀) (F : Fr h₀ L s.heap m) (N : News h₀ L s.heap led) (h : DIn led v d) (q : ∀ k, Q (.bool (d.kind == "int" || d.kind == "bool")) { s with toks := k }) : wpAny (model prog w) A (call (.builtin "isinstance") [v, .type "int"]) Q E s := by
  cases h
  all_goals walk1
  all_goals exact q _
theorem isi_bool (X : (hd.heap_1 w.params).In h₀) (F : Fr h₀ L s.heap m) (N : News h₀ L s.heap led) (h : DIn led v d) (q : ∀ k, Q (.bool (d.kind == "bool")) { s with toks := k }) : wpAny (model prog w) A (call (.builtin "isinstance") [v, .type "bool"]) Q E s := by
  cases h
  all_goals walk1
  all_goals exact q _
theorem isi_bytes (X : (hd.heap_1 w.params).In h₀) (F : Fr h₀ L s.heap m) (N : News h₀ L s.heap led) (h : DIn led v d) (q : ∀ k, Q (.bool (d.kind == "bytes")) { s with toks := k }) : wpAny (model prog w) A (call (.builtin "isinstance") [v, .type "bytes"]) Q E s := by
  cases h
  all_goals walk1
  all_goals exact q _
theorem isi_tuple (X : (hd.heap_1 w.params).In h₀) (F : Fr h₀ L s.heap m) (N : News h₀ L s.heap led) (h : DIn led v d) (q : ∀ k, Q (.bool (d.kind == "tuple")) { s with toks := k }) : wpAny (model prog w) A (call (.builtin "isinstance") [v, .type "tuple"]) Q E s := by
  cases h
  all_goals walk1
  all_goals exact q _
theorem isi_str (X : (hd.heap_1 w.params).In h₀) (F : Fr h₀ L s.heap m) (N : News h₀ L s.heap led) (h : DIn led v d) (q : ∀ k, Q (.bool (d.kind == "str")) { s with toks := k }) : wpAny (model prog w) A (call (.builtin "isinstance") [v, .type "str"]) Q E s := by
  cases h
  all_goals walk1
  all_goals exact q _
theorem rcS {y : Str} {u : Tok} (hu : A.units < cLine) (N : News h₀ L s.heap led) (h : DIn led v d) : RcAt A s v (.str y u) (d.isS y) := by
  cases h with
  | none => exact RcAt.none_str y u
  | bool b => exact RcAt.bool_str b y u
  | int i t => exact RcAt.int_str i t y u
  | str x t => exact RcAt.str_str x t y u
  | bytes b t => exact rc_bytes_str b t y u
  | tup hm _ => exact RcAt.tuple_str y u (DIn.isTup N hm) hu
theorem eqS {y : Str} {u : Tok} (hu : A.units < cLine) (N : News h₀ L s.heap led) (h : DIn led v d) (q : Q (.bool (d.isS y)) s) : wpAny (model prog w) A (compareOp .Eq v (.str y u)) Q E s := rcS hu N h prog w E Q q
theorem eqAtS {y : Str} {u : Tok} (hu : A.units < cLine) (N : News h₀ L s.heap led) (h : DIn led v d) : EqAt A s (.str y u) v (d.isS y) := by
  cases h with
  | none => exact EqAt.str_none y u
  | bool b => exact EqAt.str_bool y u b
  | int i t => exact EqAt.str_int y u i t
  | str x t =>
    have e : (D.str x).isS y = (y == x) := by
      show (x == y) = (y == x)
      exact Bool.eq_iff_iff.mpr (by rw [beq_iff_eq, beq_iff_eq]; exact eq_comm)
    rw [e]
    exact EqAt.str_str y u x t
  | bytes b t => exact eqAt_str_bytes y u b t
  | tup hm _ => exact EqAt.str_tuple y u (DIn.isTup N hm) hu
noncomputable def D.inS (d : D) : List Str → Bool
  | [] => false
  | y :: r => d.isS y || d.inS r
noncomputable def isSv (d : D) : Value → Bool
  | .str y _ => d.isS y
  | _ => false
theorem inS {l : Addr} {items : List Value} {ys : List Str} (hu : A.in1.units < cLine) (N : News h₀ L s.heap led) (h : DIn led v d) (hl : s.heap.IsTuple l items.toArray) (hi : StrsAre items ys) (q : Q (.bool (d.inS ys)) s) :
    wpAny (model prog w) A (compareOp .In v (.ref l)) Q E s := by
  have key : ∀ {items : List Value} {ys : List Str}, StrsAre items ys → (∀ y ∈ items, EqAt A.in1 s y v (isSv d y)) ∧ items.any (isSv d) = d.inS ys := by
    intro items ys hi
    induction hi with
    | nil => exact ⟨(fun _ h => nomatch h), rfl⟩
    | cons y t hr ih =>
      refine ⟨fun z hz => ?_, ?_⟩
      · rcases List.mem_cons.mp hz with rfl | hz
        · exact eqAtS hu N h
        · exact ih.1 z hz
      · rw [List.any_cons, ih.2]; rfl
  refine in_tupleAt (isSv d) hl (fun y hy => (key hi).1 y (by simpa using hy)) ?_
  rw [List.any_toArray, (key hi).2]; exact q
theorem notInS {l : Addr} {items : List Value} {ys : List Str} (hu : A.in1.units < cLine) (N : News h₀ L s.heap led) (h : DIn led v d) (hl : s.heap.IsTuple l items.toArray) (hi : StrsAre items ys) (q : Q (.bool (!d.inS ys)) s) :
    wpAny (model prog w) A (compareOp .NotIn v (.ref l)) Q E s := by
  have key : ∀ {items : List Value} {ys : List Str}, StrsAre items ys → (∀ y ∈ items, EqAt A.in1 s y v (isSv d y)) ∧ items.any (isSv d) = d.inS ys := by
    intro items ys hi
    induction hi with
    | nil => exact ⟨(fun _ h => nomatch h), rfl⟩
    | cons y t hr ih =>
      refine ⟨fun z hz => ?_, ?_⟩
      · rcases List.mem_cons.mp hz with rfl | hz
        · exact eqAtS hu N h
        · exact ih.1 z hz
      · rw [List.any_cons, ih.2]; rfl
  refine notIn_tupleAt (isSv d) hl (fun y hy => (key hi).1 y (by simpa using hy)) ?_
  rw [List.any_toArray, (key hi).2]; exact q
theorem isN (h : DIn led v d) (q : Q (.bool d.isNone) s) : wpAny (model prog w) A (compareOp .Is v .none) Q E s := by
  cases h
  all_goals exact wpAny_bind (wpAny_pure (wpAny_pure q))
end
section
variable {w : World} {A : Around} {E : Value → Shared → Prop} {s : Shared} {h₀ : Heap} {L : Addr} {m : Str → Option Value} {Q : Value → Shared → Prop} {led : Led} {v : Value} {d : D} {prog : Program}
theorem inS_K {l : Addr} {n : Nat} {items : List Value} {ys : List Str} (hu : A.in1.units < cLine) (X : (hd.heap_1 w.params).In h₀) (F : Fr h₀ L s.heap m) (N : News h₀ L s.heap led) (h : DIn led v d) (e : (hd.heap_1 w.params).lookup l = some (tupOf items n)) (hi : StrsAre items ys) (q : Q (.bool (d.inS ys)) s) :
    wpAny (model prog w) A (compareOp .In v (.ref l)) Q E s := inS hu N h ⟨_, (X.keeps F.keep) _ _ e, rfl, n, rfl⟩ hi q
theorem notInS_K {l : Addr} {n : Nat} {items : List Value} {ys : List Str} (hu : A.in1.units < cLine) (X : (hd.heap_1 w.params).In h₀) (F : Fr h₀ L s.heap m) (N : News h₀ L s.heap led) (h : DIn led v d) (e : (hd.heap_1 w.params).lookup l = some (tupOf items n)) (hi : StrsAre items ys) (q : Q (.bool (!d.inS ys)) s) :
    wpAny (model prog w) A (compareOp .NotIn v (.ref l)) Q E s := notInS hu N h ⟨_, (X.keeps F.keep) _ _ e, rfl, n, rfl⟩ hi q
end
noncomputable def D.isNum : D → Bool
  | .int i => decide (0 ≤ i)
  | _ => false
noncomputable abbrev bodyKinds : List Str := [Str.ofString "string", Str.ofString "array", Str.ofString "packed", Str.ofString "dict", Str.ofString "file", Str.ofString "gstate", Str.ofString "save"]
noncomputable abbrev plainKinds : List Str := [Str.ofString "integer", Str.ofString "real", Str.ofString "boolean", Str.ofString "null", Str.ofString "mark", Str.ofString "name", Str.ofString "operator", Str.ofString "fontid"]
noncomputable def isPlain (k v : D) : Bool :=
  if k.isS (Str.ofString "name") || k.isS (Str.ofString "operator") then v.kind == "bytes"
  else if k.isS (Str.ofString "null") || k.isS (Str.ofString "mark") then v.isNone
  else if k.isS (Str.ofString "boolean") then v.kind == "bool"
  else k.inS plainKinds && v.kind == "int"
end
section
open PySem PySem.W PyProof.Rows PySem.Calls PySem.MeetsSeq PySem.SeqAt
theorem g_str_ne_bytes (a : Str) (t : Tok) (b : Array UInt8) (u : Tok) : Gives (Builtin.«str.__ne__» ⟨[.str a t, .bytes b u], []⟩) (.val (Value.notImplemented)) :=
  .of_wp fun M A E s Q h => by obtain ⟨hp, g, d, tk, os⟩ := s; wp_walk; exact ⟨_, rfl, h⟩
theorem g_bytes_ne_str (a : Array UInt8) (t : Tok) (b : Str) (u : Tok) : Gives (Builtin.«bytes.__ne__» ⟨[.bytes a t, .str b u], []⟩) (.val (Value.notImplemented)) :=
  .of_wp fun M A E s Q h => by obtain ⟨hp, g, d, tk, os⟩ := s; have f1 := F.sub_str_bytes; wp_walk; exact ⟨_, rfl, h⟩
section
variable {A : Around} {s : Shared}
theorem rn_bytes_str (a : Array UInt8) (t : Tok) (b : Str) (u : Tok) : RcNeAt A s (.bytes a t) (.str b u) true := fun prog w E Q h =>
  rc_ne_decline_or (k := false) (typeIs_bytes s a t) (typeIs_str s b u) (by decide) F.sub_str_bytes FB.slot_bytes_ne F.slot_str_ne_refl
    (fun _ hq => call_gives FB.slot_bytes_ne (typeIs_bytes s a t) FB.entry_bytes_ne (FB.args_bytes_ne_2 _ _) (g_bytes_ne_str a t b u) hq)
    (fun _ hq => call_gives F.slot_str_ne_refl (typeIs_str s b u) F.entry_str_ne (F.args_str_ne_2 _ _) (g_str_ne_bytes b u a t) hq)
    (fun _ hq => wpAny_of_eq (rfl : isSame (.bytes a t) (.str b u) = pure false) hq) (.inl rfl) h
end
section
variable {w : World} {A : Around} {E : Value → Shared → Prop} {s : Shared} {h₀ : Heap} {L : Addr} {m : Str → Option Value} {Q : Value → Shared → Prop} {led led' : Led} {v : Value} {d : D} {prog : Program} {a : Addr} {vs : List Value} {ds : List D} {n : Nat}
theorem rnS {y : Str} {u : Tok} (hu : A.units < cLine) (N : News h₀ L s.heap led) (h : DIn led v d) : RcNeAt A s v (.str y u) (!d.isS y) := by
  cases h with
  | none => exact RcNeAt.none_str y u
  | bool b => exact RcNeAt.bool_str b y u
  | int i t => exact RcNeAt.int_str i t y u
  | str x t => exact RcNeAt.str_str x t y u
  | bytes b t => exact rn_bytes_str b t y u
  | tup hm _ => exact RcNeAt.tuple_str y u (DIn.isTup N hm) hu
theorem neS {y : Str} {u : Tok} (hu : A.units < cLine) (N : News h₀ L s.heap led) (h : DIn led v d) (q : Q (.bool (!d.isS y)) s) : wpAny (model prog w) A (compareOp .NotEq v (.str y u)) Q E s := rnS hu N h prog w E Q q
theorem lenD (N : News h₀ L s.heap led) (hm : (a, tupOf vs n) ∈ led) (hd : DAll led' vs ds) (hf : (ds.length : Int) < 2 ^ 63) (q : ∀ t k, Q (.int (ds.length : Int) t) { s with toks := k }) : wpAny (model prog w) A (call (.builtin "len") [.ref a]) Q E s := by
  have e : ((vs.toArray.size : Nat) : Int) = ds.length := by rw [List.size_toArray, hd.length]
  exact len_tuple (DIn.isTup N hm) (by rw [e]; exact hf) (by rw [e]; exact q _ _)
theorem getD_of {k : Nat} (h : k < ds.length) : ds.getD k .none = ds[k] := by simp [h]
theorem itemD {value slice : Expr} {k : Int} {u : Tok} {Q : Value → Shared → Prop} (N : News h₀ L s.heap led) (hm : (a, tupOf vs n) ∈ led) (hd : DAll led' vs ds) (h0 : 0 ≤ k) (h1 : k.toNat < ds.length) (hf : k < 2 ^ 63) (q : ∀ v, DIn led' v (ds.getD k.toNat .none) → Q v s)
    (hs : subscripted slice false (.ref a) (.int k u) = operate [.ref a, .int k u] (getItem (.ref a) (.int k u)) := by with_unfolding_all rfl) :
    wpAny (model prog w) A (subscriptTail value slice (.ref a) (.int k u)) Q E s := by
  obtain ⟨x, hx, hD⟩ := hd.get h1
  have hj : seqIndex? k vs.length = some k.toNat := seqIndex_of h0 (by have := hd.length; omega)
  exact item_tupleT (DIn.isTup N hm) (by omega) hf hj hx (q x (by rw [getD_of h1]; exact hD)) hs
end
noncomputable def isRecipe : D → Bool
  | .tup ds =>
    if ds.length = 0 then false
    else if (ds.getD 0 .none).isS (Str.ofString "plain") then
      (decide (ds.length = 5) && isPlain (ds.getD 1 .none) (ds.getD 2 .none)) && (ds.getD 3 .none).kind == "bool" && (ds.getD 4 .none).isNum
    else if !(ds.getD 0 .none).isS (Str.ofString "body") || ds.length ≠ 7 || !(ds.getD 2 .none).inS bodyKinds || !((ds.getD 5 .none).kind == "bool") then false
    else [1, 3, 4, 6].all fun k => (ds.getD k .none).isNum
  | _ => false
noncomputable def isPair : D → Bool
  | .tup ds => decide (ds.length = 2) && (ds.getD 0 .none).isNum && (ds.getD 1 .none).isNum
  | _ => false
noncomputable def isSeen : D → Bool
  | .tup ds => ds.all isPair
  | _ => false
noncomputable def isRecipes : D → Bool
  | .tup ds => ds.all isRecipe
  | _ => false
section
variable {w : World} {A : Around} {E : Value → Shared → Prop} {s : Shared} {h₀ : Heap} {L : Addr} {m : Str → Option Value} {Q : Value → Shared → Prop} {led led' : Led} {v : Value} {d : D} {prog : Program} {a : Addr} {vs : List Value} {ds : List D} {n : Nat}
theorem isi_tup1 (X : (hd.heap_1 w.params).In h₀) (F : Fr h₀ L s.heap m) (N : News h₀ L s.heap led) (hm : (a, tupOf vs n) ∈ led) (q : ∀ k, Q (.bool true) { s with toks := k }) : wpAny (model prog w) A (call (.builtin "isinstance") [.ref a, .type "tuple"]) Q E s := by
  walk1
  exact q _
end
mutual
noncomputable def D.wt : D → Nat
  | .none => 1
  | .bool _ => 1
  | .int i => (decInts i).length
  | .str x => x.cps.size + 1
  | .bytes b => 2 * b.size + 2
  | .tup ds => 2 + D.wts ds
noncomputable def D.wts : List D → Nat
  | [] => 0
  | d :: r => d.wt + D.wts r
end
theorem digs_pos (n : Nat) : 1 ≤ (digs n).length := by rw [digs_step]; simp
theorem D.wt_pos (d : D) : 1 ≤ d.wt := by
  cases d with
  | int i => simp only [D.wt, decInts, List.length_reverse, List.length_append]; have := digs_pos i.natAbs; omega
  | _ => simp only [D.wt] <;> omega
theorem D.wts_len : ∀ ds : List D, ds.length ≤ D.wts ds
  | [] => Nat.le_refl _
  | d :: r => by
    have := D.wts_len r
    have := D.wt_pos d
    simp only [D.wts, List.length_cons]; omega
theorem D.wts_mem : ∀ {ds : List D} {d : D}, d ∈ ds → d.wt ≤ D.wts ds
  | e :: r, d, h => by
    simp only [D.wts]
    rcases List.mem_cons.mp h with rfl | h
    · omega
    · have := D.wts_mem h; omega
theorem D.wts_at (ds : List D) (k : Nat) (h : k < ds.length) : (ds.getD k .none).wt ≤ D.wts ds := by
  have : ds.getD k .none = ds[k] := by simp [h]
  rw [this]; exact D.wts_mem (List.getElem_mem h)
theorem take_snoc {α β : Type} (f : α → β) (z : α) {ds : List α} {i : Nat} (h : i < ds.length) : (ds.take (i + 1)).map f = (ds.take i).map f ++ [f (ds.getD i z)] := by
  rw [List.take_add_one, List.getElem?_eq_getElem h]
  have : ds.getD i z = ds[i] := by simp [h]
  rw [this, Option.toList_some, List.map_append]; rfl
theorem DAll.at {led : Led} {vs : List Value} {ds : List D} (h : DAll led vs ds) {i : Nat} {v : Value} (hi : i < vs.length) (hv : vs[i]? = some v) : DIn led v (ds.getD i .none) ∧ i < ds.length := by
  have hl := h.length
  obtain ⟨x, hx, hD⟩ := h.get (k := i) (by omega)
  rw [hx] at hv
  cases hv
  refine ⟨?_, by omega⟩
  rw [getD_of (by omega)]; exact hD
end
section
open PySem PySem.W PyProof.Rows PySem.Calls PySem.MeetsSeq PySem.SeqAt
noncomputable abbrev S (x : String) : Str := Str.ofString x
noncomputable abbrev shapesL : List (Str × List Str) := [(S "push", [S "recipe"]), (S "drop", [S "number"]), (S "call", [S "octets", S "seen"]), (S "whole", [S "octets", S "number", S "seen"]), (S "text", [S "number", S "octets", S "truth"]),
  (S "row", [S "number", S "recipes", S "truth"]), (S "fetch", [S "number", S "recipe", S "number"]), (S "entry", [S "number", S "recipe", S "recipe"]), (S "vm", [S "truth"])]
inductive KvIn (led : Led) : List (Str × Value) → List (Str × List Str) → Prop
  | nil : KvIn led [] []
  | cons {x : Str} {v : Value} {ks : List Str} {r : List (Str × Value)} {q : List (Str × List Str)} : DIn led v (.tup (ks.map .str)) → KvIn led r q → KvIn led ((x, v) :: r) ((x, ks) :: q)
theorem KvIn.mono {led led' : Led} (hs : ∀ p ∈ led, p ∈ led') {a : List (Str × Value)} {b : List (Str × List Str)} (h : KvIn led a b) : KvIn led' a b := by
  induction h with
  | nil => exact .nil
  | cons h _ ih => exact .cons (h.mono hs) ih
theorem KvIn.look {led : Led} {a : List (Str × Value)} {b : List (Str × List Str)} (h : KvIn led a b) (x : Str) :
    (a.lookup x = none ∧ b.lookup x = none) ∨ ∃ v ks, a.lookup x = some v ∧ b.lookup x = some ks ∧ DIn led v (.tup (ks.map .str)) := by
  induction h with
  | nil => exact .inl ⟨rfl, rfl⟩
  | @cons y v ks r q hd _ ih =>
    simp only [List.lookup_cons]
    cases e : x == y with
    | true => exact .inr ⟨v, ks, rfl, rfl, hd⟩
    | false => exact ih
noncomputable def ShapesIn (w : World) (led : Led) (a : Addr) : Prop := ∃ o kvs, (a, o) ∈ led ∧ o.IsDictOf (PySem.strKind PySem.Challenge.rw_nt0496_01.row.prog w) kvs ∧ KvIn led kvs shapesL ∧ (a == sysModules) = false
theorem ShapesIn.mono {w : World} {led led' : Led} {a : Addr} (hs : ∀ p ∈ led, p ∈ led') (h : ShapesIn w led a) : ShapesIn w led' a :=
  let ⟨o, kvs, hm, hd, hk, hn⟩ := h; ⟨o, kvs, hs _ hm, hd, hk.mono hs, hn⟩
theorem strs_in {led : Led} {a : Addr} {n : Nat} {vs : List Value} {ks : List Str} (hm : (a, tupOf vs n) ∈ led) (h : StrsAre vs ks) : DIn led (.ref a) (.tup (ks.map .str)) := by
  refine .tup hm ?_
  clear hm
  induction h with
  | nil => exact .nil
  | cons y t _ ih => exact .cons (.str y t) ih
end
section
open PySem PySem.W PyProof.Rows PySem.Calls
structure Dyn where
  mean : ExcName → Option Value
  mg : Str → Option Value
  mb : Str → Option Value
  dp : Nat
  un : Nat
  cn : Str
  cs : Scope
  a : Addr
  ccd : Value
  cl : List (Str × Addr)
  outer : List Env
  A₀ : Around
  base : Heap
  h₀ : Heap
  L : Addr
  g : Array GenState
  d : Drawn
  o : OsState
  E : Value → Shared → Prop
  env : Env
structure Sta where
  cs : Scope
  dk : Nat
  uk : Nat
  fn : Bool := true
  cl : List (Str × Addr) := []
  C : Addr := 0
  top : Bool := false
  ex : Dyn → Prop := fun _ => True
noncomputable abbrev Dyn.A (δ : Dyn) : Around := ktrTop δ.dp δ.un (some []) δ.cn δ.cs δ.L δ.a δ.ccd δ.cl δ.outer
noncomputable abbrev Loc := List (Str × Value)
structure DynOk (w : World) (σ : Sta) (δ : Dyn) : Prop where
  B : Below δ.A₀ δ.base δ.outer δ.h₀
  X : (hd.heap_1 w.params).In δ.h₀
  T : Top hd.view_39 LW δ.mean δ.mg δ.mb δ.h₀
  hd : δ.dp + σ.dk < recursionLimit
  hu : δ.un + σ.uk < cLine
  hk : δ.cs.kind = .function
  ek : σ.cs.kind = .function
  en : δ.env.scope = σ.cs
  eg : δ.env.globals = mainGlobals
  eb : δ.env.builtins = builtinsNs
  ec : δ.env.cells = σ.cl
  dbg : noDbg σ.cs.names = true
  fn : σ.fn = true → δ.env = envX δ.cn σ.cs δ.L δ.a δ.ccd δ.cl
  own : σ.fn = false → δ.env.locals = σ.C
  top : σ.top = true → δ.outer = [] ∧ δ.base = δ.h₀
  ex : σ.ex δ
structure V {α : Type} (w : World) (σ : Sta) (l : Loc) (led : Led) (t : Env → Sem α) (Q : α → Loc → Led → Prop) : Prop where
  go : ∀ (δ : Dyn) (h : Heap) (tk : Nat) (R : α → Shared → Prop), DynOk w σ δ → Fr δ.h₀ δ.L h (fun y => l.lookup y) → News δ.h₀ δ.L h led →
    (∀ a h' tk' l' led', Fr δ.h₀ δ.L h' (fun y => l'.lookup y) → News δ.h₀ δ.L h' led' → Q a l' led' → R a ⟨h', δ.g, δ.d, tk', δ.o⟩) →
    wpAny (model PySem.Challenge.rw_nt0496_01.row.prog w) δ.A (t δ.env) R δ.E ⟨h, δ.g, δ.d, tk, δ.o⟩
section
variable {w : World} {σ : Sta} {l : Loc} {led : Led}
theorem V.mono {α : Type} {t : Env → Sem α} {Q Q' : α → Loc → Led → Prop} (h : V w σ l led t Q) (hq : ∀ a l' led', Q a l' led' → Q' a l' led') : V w σ l led t Q' :=
  .mk fun δ hp tk R D F N k => h.go δ hp tk R D F N fun a h' tk' l' led' F' N' q => k a h' tk' l' led' F' N' (hq _ _ _ q)
theorem V.call {f : Addr} {vs : List Value} {dk uk : Nat} {Out : Led → Value → Prop} {Q : Value → Loc → Led → Prop} (C : Con w f vs led dk uk Out) (hd : Nat.ble dk σ.dk = true) (hu : Nat.ble uk σ.uk = true)
    (h : ∀ r led', Out led' r → Q r l led') : V w σ l led (fun _ => PySem.call (.ref f) vs) Q :=
  .mk fun _ _ _ _ D F N k => C.use D.B F D.X N D.T D.hk (Nat.lt_of_le_of_lt (Nat.add_le_add_left (Nat.le_of_ble_eq_true hd) _) D.hd) (Nat.lt_of_le_of_lt (Nat.add_le_add_left (Nat.le_of_ble_eq_true hu) _) D.hu)
    fun r led' h' tk' F' N' o => k r h' tk' l led' F' N' (h r led' o)
theorem V.callB {f : Addr} {vs : List Value} {dk uk : Nat} {b : Array UInt8} {Q : Value → Loc → Led → Prop} (C : Con w f vs led dk uk (RetB led b)) (hd : Nat.ble dk σ.dk = true) (hu : Nat.ble uk σ.uk = true) (h : ∀ t, Q (.bytes b t) l led) : V w σ l led (fun _ => PySem.call (.ref f) vs) Q :=
  V.call C hd hu fun _ _ ⟨e1, t, e2⟩ => by subst e1 e2; exact h t
theorem V.callI {f : Addr} {vs : List Value} {dk uk : Nat} {i : Int} {Q : Value → Loc → Led → Prop} (C : Con w f vs led dk uk (RetI led i)) (hd : Nat.ble dk σ.dk = true) (hu : Nat.ble uk σ.uk = true) (h : ∀ t, Q (.int i t) l led) : V w σ l led (fun _ => PySem.call (.ref f) vs) Q :=
  V.call C hd hu fun _ _ ⟨e1, t, e2⟩ => by subst e1 e2; exact h t
theorem V.callT {f : Addr} {vs : List Value} {dk uk : Nat} {x : Str} {Q : Value → Loc → Led → Prop} (C : Con w f vs led dk uk (RetS led x)) (hd : Nat.ble dk σ.dk = true) (hu : Nat.ble uk σ.uk = true) (h : ∀ t, Q (.str x t) l led) : V w σ l led (fun _ => PySem.call (.ref f) vs) Q :=
  V.call C hd hu fun _ _ ⟨e1, t, e2⟩ => by subst e1 e2; exact h t
end
noncomputable def glV (σ : Sta) (x : Str) : Option Value := match σ.cs.names.lookup x with
  | some .globalImplicit => gtC x
  | _ => none
noncomputable def vlk (σ : Sta) (l : Loc) (x : Str) : Option Value := match σ.cs.names.lookup x with
  | some .local => match σ.fn with
    | true => l.lookup x
    | false => none
  | some .globalImplicit => gtA x
  | _ => none
noncomputable def kCons (v : Value) (Q : List Value → Loc → Led → Prop) (vs : List Value) (l₂ : Loc) (led₂ : Led) : Prop := Q (v :: vs) l₂ led₂
noncomputable def kArgs (w : World) (σ : Sta) (pos : Pos) (rest : List Expr) (Q : List Value → Loc → Led → Prop) (v : Value) (l₁ : Loc) (led₁ : Led) : Prop := V w σ l₁ led₁ (fun env => spliced (backTo pos (starEach rest env))) (kCons v Q)
noncomputable def kCall (w : World) (σ : Sta) (f : Value) (Q : Value → Loc → Led → Prop) (vs : List Value) (l₂ : Loc) (led₂ : Led) : Prop := V w σ l₂ led₂ (fun _ => PySem.call f vs) Q
noncomputable def kBin2 (w : World) (σ : Sta) (op : Operator) (x : Value) (Q : Value → Loc → Led → Prop) (y : Value) (l₂ : Loc) (led₂ : Led) : Prop := V w σ l₂ led₂ (fun _ => binaryOp op x y) Q
noncomputable def kBin1 (w : World) (σ : Sta) (op : Operator) (b : Expr) (Q : Value → Loc → Led → Prop) (x : Value) (l₁ : Loc) (led₁ : Led) : Prop := V w σ l₁ led₁ (eval b) (kBin2 w σ op x Q)
noncomputable def kSub2 (w : World) (σ : Sta) (v sl : Expr) (a : Value) (Q : Value → Loc → Led → Prop) (i : Value) (l₂ : Loc) (led₂ : Led) : Prop := V w σ l₂ led₂ (fun _ => subscriptTail v sl a i) Q
noncomputable def kSub1 (w : World) (σ : Sta) (v sl : Expr) (Q : Value → Loc → Led → Prop) (a : Value) (l₁ : Loc) (led₁ : Led) : Prop := V w σ l₁ led₁ (eval sl) (kSub2 w σ v sl a Q)
noncomputable def kAttr (w : World) (σ : Sta) (attr : Str) (Q : Value → Loc → Led → Prop) (a : Value) (l₁ : Loc) (led₁ : Led) : Prop := V w σ l₁ led₁ (fun _ => getAttr a attr true) Q
noncomputable def kTup (w : World) (σ : Sta) (Q : Value → Loc → Led → Prop) (vs : List Value) (l₁ : Loc) (led₁ : Led) : Prop := V w σ l₁ led₁ (fun _ => newTuple vs) Q
noncomputable def kLst (w : World) (σ : Sta) (Q : Value → Loc → Led → Prop) (vs : List Value) (l₁ : Loc) (led₁ : Led) : Prop := V w σ l₁ led₁ (fun _ => newList vs) Q
noncomputable def kNeg (w : World) (σ : Sta) (Q : Value → Loc → Led → Prop) (v : Value) (l₁ : Loc) (led₁ : Led) : Prop := V w σ l₁ led₁ (fun _ => unaryOp .USub v) Q
noncomputable def kTruthy (w : World) (σ : Sta) (Q : Bool → Loc → Led → Prop) (v : Value) (l₁ : Loc) (led₁ : Led) : Prop := V w σ l₁ led₁ (fun _ => truthy v) Q
noncomputable def kCmp2 (w : World) (σ : Sta) (op : CmpOp) (x : Value) (Q : Bool → Loc → Led → Prop) (y : Value) (l₂ : Loc) (led₂ : Led) : Prop := V w σ l₂ led₂ (fun _ => compareOp op x y) (kTruthy w σ Q)
noncomputable def kCmp1 (w : World) (σ : Sta) (op : CmpOp) (r : Expr) (Q : Bool → Loc → Led → Prop) (x : Value) (l₁ : Loc) (led₁ : Led) : Prop := V w σ l₁ led₁ (eval r) (kCmp2 w σ op x Q)
noncomputable def kNot (Q : Bool → Loc → Led → Prop) (c : Bool) (l₁ : Loc) (led₁ : Led) : Prop := Q (!c) l₁ led₁
noncomputable def kAnd (w : World) (σ : Sta) (rest : List Expr) (p : Pos) (Q : Bool → Loc → Led → Prop) (c : Bool) (l₁ : Loc) (led₁ : Led) : Prop := if c then V w σ l₁ led₁ (fun env => isTrue (.BoolOp .And rest p) env (eval (.BoolOp .And rest p) env)) Q else Q false l₁ led₁
noncomputable def kOr (w : World) (σ : Sta) (rest : List Expr) (p : Pos) (Q : Bool → Loc → Led → Prop) (c : Bool) (l₁ : Loc) (led₁ : Led) : Prop := if c then Q true l₁ led₁ else V w σ l₁ led₁ (fun env => isTrue (.BoolOp .Or rest p) env (eval (.BoolOp .Or rest p) env)) Q
noncomputable def kIf (w : World) (σ : Sta) (b el : List Stmt) (Q : Flow → Loc → Led → Prop) (c : Bool) (l₁ : Loc) (led₁ : Led) : Prop := if c then V w σ l₁ led₁ (execs b) Q else V w σ l₁ led₁ (execs el) Q
noncomputable def kRet (Q : Flow → Loc → Led → Prop) (v : Value) (l₁ : Loc) (led₁ : Led) : Prop := Q (.ret v) l₁ led₁
noncomputable def kStore (w : World) (σ : Sta) (x : Str) (rest : List Stmt) (Q : Flow → Loc → Led → Prop) (v : Value) (l₁ : Loc) (led₁ : Led) : Prop := V w σ ((x, v) :: l₁) led₁ (execs rest) Q
noncomputable def kE1 (w : World) (σ : Sta) (e : Expr) (f : Value → Value → Loc → Led → Prop) (x : Value) (l₁ : Loc) (led₁ : Led) : Prop := V w σ l₁ led₁ (eval e) (f x)
noncomputable def kE2 (w : World) (σ : Sta) (e : Expr) (f : Value → Value → Value → Loc → Led → Prop) (x y : Value) (l₁ : Loc) (led₁ : Led) : Prop := V w σ l₁ led₁ (eval e) (f x y)
noncomputable def kCallM (w : World) (σ : Sta) (f ov : Value) (Q : Value → Loc → Led → Prop) (vs : List Value) (l₂ : Loc) (led₂ : Led) : Prop := V w σ l₂ led₂ (fun _ => PySem.call f (ov :: vs)) Q
noncomputable def kDone {α : Type} (Q : Flow → Loc → Led → Prop) (_ : α) (l₂ : Loc) (led₂ : Led) : Prop := Q .next l₂ led₂
noncomputable def kName (y : Str) (Q : Flow → Loc → Led → Prop) (v : Value) (l₂ : Loc) (led₂ : Led) : Prop := Q .next ((y, v) :: l₂) led₂
noncomputable def kStoreX (w : World) (σ : Sta) (x : Str) (Q : Flow → Loc → Led → Prop) (v : Value) (l₁ : Loc) (led₁ : Led) : Prop := V w σ l₁ led₁ (fun env => storeName env x v) (kDone Q)
noncomputable def kSetA (w : World) (σ : Sta) (attr : Str) (Q : Flow → Loc → Led → Prop) (v ov : Value) (l₁ : Loc) (led₁ : Led) : Prop := V w σ l₁ led₁ (fun _ => setAttr ov attr v) (kDone Q)
noncomputable def kCmpV (w : World) (σ : Sta) (op : CmpOp) (Q : Value → Loc → Led → Prop) (x y : Value) (l₁ : Loc) (led₁ : Led) : Prop := V w σ l₁ led₁ (fun _ => compareOp op x y) Q
noncomputable def kIfE (w : World) (σ : Sta) (b el : Expr) (Q : Value → Loc → Led → Prop) (c : Bool) (l₁ : Loc) (led₁ : Led) : Prop := if c then V w σ l₁ led₁ (eval b) Q else V w σ l₁ led₁ (eval el) Q
noncomputable def sel (b : Bool) (X Y : Prop) : Prop := match b with
  | false => X
  | true => Y
section
variable (w : World) (σ : Sta) (l : Loc)
noncomputable def avArgs (ev : Expr → (Value → Loc → Led → Prop) → (Value → Led → Prop) → Led → Prop) (pos : Pos) : List Expr → (List Value → Loc → Led → Prop) → (List Value → Led → Prop) → Led → Prop
  | [], _, k, led => k [] led
  | e :: rest, Q, k, led => match isStar e with
    | true => V w σ l led (fun env => spliced (backTo pos (starEach (e :: rest) env))) Q
    | false => ev e (kArgs w σ pos rest Q)
      (fun v led₁ => avArgs ev pos rest (kCons v Q) (fun vs led₂ => k (v :: vs) led₂) led₁) led
noncomputable def avConst (c : Const) (X : Prop) (k : Value → Prop) : Prop := match c with
  | .int i => ∀ t, k (.int i t)
  | .str x => ∀ t, k (.str x t)
  | .bytes x => ∀ t, k (.bytes x.toArray t)
  | .none => k .none
  | .bool b => k (.bool b)
  | _ => X
noncomputable def avBin (op : Operator) (a b : Option Int) (X : Prop) (k : Value → Prop) : Prop := match a with
  | none => X
  | some x => match b with
    | none => X
    | some y => match op with
      | .Add => ∀ t, k (.int (x + y) t)
      | .Sub => ∀ t, k (.int (x - y) t)
      | _ => X
noncomputable def avCmp (op : CmpOp) (a b : Option Int) (X : Prop) (k : Value → Prop) : Prop := match a with
  | none => X
  | some x => match b with
    | none => X
    | some y => match op with
      | .Eq => k (.bool (x == y))
      | .NotEq => k (.bool (x != y))
      | .Lt => k (.bool (decide (x < y)))
      | .LtE => k (.bool (decide (x ≤ y)))
      | .Gt => k (.bool (decide (x > y)))
      | .GtE => k (.bool (decide (x ≥ y)))
      | _ => X
noncomputable def avNeg (a : Option Int) (X : Prop) (k : Value → Prop) : Prop := match a with
  | none => X
  | some x => ∀ t, k (.int (-x) t)
noncomputable def avName (v : Option Value) (X : Prop) (k : Value → Prop) : Prop := match v with
  | none => X
  | some v => k v
noncomputable def avCall (pl : Bool) (fv : Option Value) (X : Prop) (args : (List Value → Loc → Led → Prop) → (List Value → Led → Prop) → Prop) (Q : Value → Loc → Led → Prop) : Prop := match pl with
  | false => X
  | true => match fv with
    | none => X
    | some v => match v with
      | .ref a => args (kCall w σ (.ref a) Q) (fun vs led₂ => V w σ l led₂ (fun _ => PySem.call (.ref a) vs) Q)
      | .builtin i => args (kCall w σ (.builtin i) Q) (fun vs led₂ => V w σ l led₂ (fun _ => PySem.call (.builtin i) vs) Q)
      | .type i => args (kCall w σ (.type i) Q) (fun vs led₂ => V w σ l led₂ (fun _ => PySem.call (.type i) vs) Q)
      | _ => X
noncomputable def avE : Nat → Expr → (Value → Loc → Led → Prop) → (Value → Led → Prop) → Led → Prop
  | 0, e, Q, _, led => V w σ l led (eval e) Q
  | n + 1, e, Q, k, led => match e with
    | .Name x p => avName (vlk σ l x) (V w σ l led (eval (.Name x p)) Q) (fun v => k v led)
    | .Constant c i p => avConst c (V w σ l led (eval (.Constant c i p)) Q) (fun v => k v led)
    | .BinOp a op b _ => avE n a (kBin1 w σ op b Q)
        (fun x led₁ => avE n b (kBin2 w σ op x Q) (fun y led₂ => avBin op (intV x) (intV y) (V w σ l led₂ (fun _ => binaryOp op x y) Q) (fun v => k v led₂)) led₁) led
    | .Subscript v sl pos => sel (noSl sl) (V w σ l led (eval (.Subscript v sl pos)) Q)
      (avE n v (kSub1 w σ v sl Q)
        (fun a led₁ => avE n sl (kSub2 w σ v sl a Q) (fun i led₂ => V w σ l led₂ (fun _ => subscriptTail v sl a i) Q) led₁) led)
    | .Attribute v attr pos => match v with
      | .Name x p => avE n (.Name x p) (kAttr w σ attr Q) (fun a led₁ => V w σ l led₁ (fun _ => getAttr a attr true) Q) led
      | v => V w σ l led (eval (.Attribute v attr pos)) Q
    | .Call f args kw pos => match f with
      | .Name x p => match kw with
        | [] => avCall w σ l (adPlain args) (glV σ x) (V w σ l led (eval (.Call (.Name x p) args [] pos)) Q) (fun Q' k' => avArgs w σ l (avE n) pos args Q' k' led) Q
        | kw => V w σ l led (eval (.Call (.Name x p) args kw pos)) Q
      | f => V w σ l led (eval (.Call f args kw pos)) Q
    | .Tuple es i pos => sel (Nat.ble es.length 1000) (V w σ l led (eval (.Tuple es i pos)) Q)
      (avArgs w σ l (avE n) pos es (kTup w σ Q) (fun vs led₁ => ∀ a : Addr, (∀ p ∈ led₁, p.1 < a) → k (.ref a) ((a, tupOf vs 0) :: led₁)) led)
    | .List es pos => sel (Nat.ble es.length 1000) (V w σ l led (eval (.List es pos)) Q)
      (avArgs w σ l (avE n) pos es (kLst w σ Q) (fun vs led₁ => ∀ a : Addr, (∀ p ∈ led₁, p.1 < a) → k (.ref a) ((a, W.listOf vs.toArray 0) :: led₁)) led)
    | .UnaryOp op x pos => match op with
      | .USub => avE n x (kNeg w σ Q) (fun v led₁ => avNeg (intV v) (V w σ l led₁ (fun _ => unaryOp .USub v) Q) (fun v => k v led₁)) led
      | op => V w σ l led (eval (.UnaryOp op x pos)) Q
    | e => V w σ l led (eval e) Q
noncomputable def avTruth (v : Value) (X : Prop) (k : Bool → Prop) : Prop := match v with
  | .bool b => k b
  | .none => k false
  | .int x _ => k (x != 0)
  | _ => X
noncomputable abbrev avV (n : Nat) (e : Expr) (Q : Bool → Loc → Led → Prop) (k : Bool → Led → Prop) (led : Led) : Prop :=
  avE w σ l n e (kTruthy w σ Q) (fun v led₁ => avTruth v (V w σ l led₁ (fun _ => truthy v) Q) (fun b => k b led₁)) led
noncomputable def avT : Nat → Expr → (Bool → Loc → Led → Prop) → (Bool → Led → Prop) → Led → Prop
  | 0, e, Q, _, led => V w σ l led (fun env => isTrue e env (eval e env)) Q
  | n + 1, e, Q, k, led => match e with
    | .Compare a ops rs p => match ops with
      | [op] => match rs with
        | [r] => sel (behindInMarks op r) (avE w σ l n a (kCmp1 w σ op r Q)
            (fun x led₁ => avE w σ l n r (kCmp2 w σ op x Q)
              (fun y led₂ => avCmp op (intV x) (intV y) (V w σ l led₂ (fun _ => compareOp op x y) (kTruthy w σ Q)) (fun c => avTruth c (V w σ l led₂ (fun _ => truthy c) Q) (fun b => k b led₂))) led₁) led)
            (V w σ l led (fun env => isTrue (.Compare a [op] [r] p) env (eval (.Compare a [op] [r] p) env)) Q)
        | rs => V w σ l led (fun env => isTrue (.Compare a [op] rs p) env (eval (.Compare a [op] rs p) env)) Q
      | ops => V w σ l led (fun env => isTrue (.Compare a ops rs p) env (eval (.Compare a ops rs p) env)) Q
    | .UnaryOp op x p => match op with
      | .Not => avT n x (kNot Q) (fun c led₁ => k (!c) led₁) led
      | op => V w σ l led (fun env => isTrue (.UnaryOp op x p) env (eval (.UnaryOp op x p) env)) Q
    | .BoolOp op xs p => match op with
      | .And => match xs with
        | [] => k true led
        | x :: rest => avT n x (kAnd w σ rest p Q)
          (fun c led₁ => if c then V w σ l led₁ (fun env => isTrue (.BoolOp .And rest p) env (eval (.BoolOp .And rest p) env)) Q else Q false l led₁) led
      | .Or => match xs with
        | [] => k false led
        | x :: rest => avT n x (kOr w σ rest p Q)
          (fun c led₁ => if c then Q true l led₁ else V w σ l led₁ (fun env => isTrue (.BoolOp .Or rest p) env (eval (.BoolOp .Or rest p) env)) Q) led
    | .Name x p => avV w σ l n (.Name x p) Q k led
    | .Call f as ks p => avV w σ l n (.Call f as ks p) Q k led
    | .Subscript v sl p => avV w σ l n (.Subscript v sl p) Q k led
    | e => V w σ l led (fun env => isTrue e env (eval e env)) Q
noncomputable def isLoc (σ : Sta) (x : Str) : Bool := match σ.cs.names.lookup x with
  | some .local => σ.fn
  | _ => false
noncomputable def seqQ (rest : List Stmt) (Q : Flow → Loc → Led → Prop) (f : Flow) (l₁ : Loc) (led₁ : Led) : Prop := match f with
  | .next => V w σ l₁ led₁ (execs rest) Q
  | f => Q f l₁ led₁
end
section
variable (w : World) (σ : Sta)
noncomputable def avS (n : Nat) : List Stmt → (Flow → Loc → Led → Prop) → Loc → Led → Prop
  | [], Q, l, led => Q .next l led
  | st :: rest, Q, l, led => match st with
    | .Return v p => match v with
      | some e => avE w σ l n e (kRet Q) (fun v led₁ => Q (.ret v) l led₁) led
      | none => V w σ l led (exec (.Return none p)) (seqQ w σ rest Q)
    | .If test b el _ => avT w σ l n test (kIf w σ b el (seqQ w σ rest Q))
        (fun c led₁ => if c then V w σ l led₁ (execs b) (seqQ w σ rest Q) else V w σ l led₁ (execs el) (seqQ w σ rest Q)) led
    | .Assign xs v pos => match xs with
      | [.Name x p] => sel (noComp v && isLoc σ x) (V w σ l led (exec (.Assign [.Name x p] v pos)) (seqQ w σ rest Q))
          (avE w σ l n v (kStore w σ x rest Q) (fun v led₁ => avS n rest Q ((x, v) :: l) led₁) led)
      | xs => V w σ l led (exec (.Assign xs v pos)) (seqQ w σ rest Q)
    | st => V w σ l led (exec st) (seqQ w σ rest Q)
end
section
variable {w : World} {σ : Sta} {l : Loc}
theorem DynOk.global {δ : Dyn} {s : Shared} {l : Loc} {x : Str} {v : Value} {p : Pos} {Q : Value → Shared → Prop} (D : DynOk w σ δ) (F : Fr δ.h₀ δ.L s.heap (fun y => l.lookup y)) (hx : σ.cs.names.lookup x = some .globalImplicit) (h : Q v s)
    (e : nsIn (hd.heap_1 w.params) mainGlobals x = some (some v)) : wpAny (model PySem.Challenge.rw_nt0496_01.row.prog w) δ.A (eval (.Name x p) δ.env) Q δ.E s :=
  Name_function_global (D.en ▸ D.ek) (D.en ▸ hx : δ.env.scope.names.lookup x = _) (loadGlobal_global (env := δ.env) (show s.heap.Ns δ.env.globals δ.mg from D.eg ▸ (D.T.keeps F.keep).g) (mg_of D.X D.T.g e) h) (noDbg_ok D.dbg hx)
theorem DynOk.callable {δ : Dyn} {s : Shared} {l : Loc} {x : Str} {v : Value} {p : Pos} {Q : Value → Shared → Prop} (D : DynOk w σ δ) (F : Fr δ.h₀ δ.L s.heap (fun y => l.lookup y)) (hx : σ.cs.names.lookup x = some .globalImplicit) (h : Q v s)
    (hv : gtC x = some v) : wpAny (model PySem.Challenge.rw_nt0496_01.row.prog w) δ.A (eval (.Name x p) δ.env) Q δ.E s := by
  unfold gtC at hv
  cases hb : gtB.lookup x with
  | some u =>
    rw [hb] at hv; cases hv
    obtain ⟨e1, e2, e3, _⟩ := OkB.get (okB w.params) hb
    exact Name_function_global (D.en ▸ D.ek) (D.en ▸ hx : δ.env.scope.names.lookup x = _) (loadGlobal_builtin (env := δ.env) (show s.heap.Ns δ.env.globals δ.mg from D.eg ▸ (D.T.keeps F.keep).g) (mg_none_of D.X D.T.g e1) (show s.heap.Ns δ.env.builtins δ.mb from D.eb ▸ (D.T.keeps F.keep).b) ((D.T.builtins x e3).trans e2) h) (noDbg_ok D.dbg hx)
  | none =>
    rw [hb] at hv
    exact D.global F hx h (OkF.get (okF w.params) hv).1
theorem DynOk.lks {δ : Dyn} {h : Heap} (D : DynOk w σ δ) (F : Fr δ.h₀ δ.L h (fun y => l.lookup y)) : Lks PySem.Challenge.rw_nt0496_01.row.prog w δ.A δ.E δ.env (hd.heap_1 w.params) (glV σ) (vlk σ l) h δ.g δ.d δ.o := by
  refine ⟨?_, ?_, ?_, D.X.keeps F.keep⟩
  · intro x v hv p Q t hq
    unfold vlk at hv
    split at hv
    · rename_i hx
      split at hv
      · rename_i hf
        rw [D.fn hf]
        exact nameX_L (s := ⟨h, δ.g, δ.d, t, δ.o⟩) F hv hq D.ek hx (noDbg_ok D.dbg hx)
      · cases hv
    · rename_i hx
      unfold gtA at hv
      cases hc : gtC x with
      | some u => rw [hc] at hv; cases hv; exact D.callable (s := ⟨h, δ.g, δ.d, t, δ.o⟩) F hx hq hc
      | none => rw [hc] at hv; exact D.global (s := ⟨h, δ.g, δ.d, t, δ.o⟩) F hx hq (OkO.get (okO w.params) hv)
    · cases hv
  · intro x v hv p Q t hq
    unfold glV at hv
    split at hv
    · exact D.callable (s := ⟨h, δ.g, δ.d, t, δ.o⟩) F (by assumption) hq hv
    · cases hv
  · intro x a hv
    unfold glV at hv
    split at hv
    · unfold gtC at hv
      cases hb : gtB.lookup x with
      | some u => rw [hb] at hv; cases hv; exact absurd rfl ((OkB.get (okB w.params) hb).2.2.2 _)
      | none => rw [hb] at hv; exact (OkF.get (okF w.params) hv).2
    · cases hv
noncomputable abbrev VOk (w : World) (σ : Sta) (l : Loc) (ev : Expr → (Value → Loc → Led → Prop) → (Value → Led → Prop) → Led → Prop) : Prop :=
  ∀ e (Q : Value → Loc → Led → Prop) k led, (∀ v led', k v led' → Q v l led') → ev e Q k led → V w σ l led (eval e) Q
theorem avArgs_ok {ev : Expr → (Value → Loc → Led → Prop) → (Value → Led → Prop) → Led → Prop} {pos : Pos} (he : VOk w σ l ev) :
    ∀ es (Q : List Value → Loc → Led → Prop) k led, (∀ vs led', vs.length = es.length → k vs led' → Q vs l led') → avArgs w σ l ev pos es Q k led → V w σ l led (fun env => spliced (backTo pos (starEach es env))) Q
  | [], _, _, _, hk, H => .mk fun _ _ _ _ _ F N kR => args_nil (kR _ _ _ _ _ F N (hk _ _ rfl H))
  | e :: rest, Q, k, led, hk, H => by
    unfold avArgs at H
    cases hs : isStar e with
    | true => rw [hs] at H; exact H
    | false =>
      rw [hs] at H
      have q := he _ _ _ _ (fun v led₁ H₁ => avArgs_ok he rest _ _ _ (fun vs led₂ hl q => hk (v :: vs) led₂ (congrArg (· + 1) hl) q) H₁) H
      exact .mk fun δ h tk R D F N kR => args_cons (q.go δ h tk _ D F N fun v h₁ t₁ l₁ led₁ F₁ N₁ q₁ => q₁.go δ h₁ t₁ _ D F₁ N₁ fun vs h₂ t₂ l₂ led₂ F₂ N₂ q₂ => kR _ _ _ _ _ F₂ N₂ q₂) (star_cons hs)
section
variable {Q : Value → Loc → Led → Prop} {k : Value → Led → Prop} {led : Led}
theorem avBin_ok {op : Operator} {a b : Value} (hk : ∀ v led', k v led' → Q v l led')
    (H : avBin op (intV a) (intV b) (V w σ l led (fun _ => binaryOp op a b) Q) (fun v => k v led)) : V w σ l led (fun _ => binaryOp op a b) Q := by
  cases ha : intV a with
  | none => rw [ha] at H; exact H
  | some x =>
    cases hb : intV b with
    | none => rw [ha, hb] at H; exact H
    | some y =>
      rw [ha, hb] at H
      obtain ⟨_, rfl⟩ := intV_ok ha
      obtain ⟨_, rfl⟩ := intV_ok hb
      cases op with
      | Add => exact .mk fun _ _ _ _ _ F N kR => P.add_int (kR _ _ _ _ _ F N (hk _ _ (H _)))
      | Sub => exact .mk fun _ _ _ _ _ F N kR => P.sub_int (kR _ _ _ _ _ F N (hk _ _ (H _)))
      | _ => exact H
theorem avCmp_ok {op : CmpOp} {a b : Value} (hk : ∀ v led', k v led' → Q v l led')
    (H : avCmp op (intV a) (intV b) (V w σ l led (fun _ => compareOp op a b) Q) (fun v => k v led)) : V w σ l led (fun _ => compareOp op a b) Q := by
  cases ha : intV a with
  | none => rw [ha] at H; exact H
  | some x =>
    cases hb : intV b with
    | none => rw [ha, hb] at H; exact H
    | some y =>
      rw [ha, hb] at H
      obtain ⟨_, rfl⟩ := intV_ok ha
      obtain ⟨_, rfl⟩ := intV_ok hb
      cases op with
      | Eq => exact .mk fun _ _ _ _ _ F N kR => P.eq_int (kR _ _ _ _ _ F N (hk _ _ H))
      | NotEq => exact .mk fun _ _ _ _ _ F N kR => P.ne_int (kR _ _ _ _ _ F N (hk _ _ H))
      | Lt => exact .mk fun _ _ _ _ _ F N kR => P.lt_int (kR _ _ _ _ _ F N (hk _ _ H))
      | LtE => exact .mk fun _ _ _ _ _ F N kR => P.le_int (kR _ _ _ _ _ F N (hk _ _ H))
      | Gt => exact .mk fun _ _ _ _ _ F N kR => P.gt_int (kR _ _ _ _ _ F N (hk _ _ H))
      | GtE => exact .mk fun _ _ _ _ _ F N kR => P.ge_int (kR _ _ _ _ _ F N (hk _ _ H))
      | _ => exact H
theorem avNeg_ok {a : Value} (hk : ∀ v led', k v led' → Q v l led') (H : avNeg (intV a) (V w σ l led (fun _ => unaryOp .USub a) Q) (fun v => k v led)) : V w σ l led (fun _ => unaryOp .USub a) Q := by
  cases ha : intV a with
  | none => rw [ha] at H; exact H
  | some x =>
    rw [ha] at H
    obtain ⟨_, rfl⟩ := intV_ok ha
    exact .mk fun _ _ _ _ _ F N kR => P.neg_int (kR _ _ _ _ _ F N (hk _ _ (H _)))
theorem avName_ok {x : Str} {p : Pos} (hk : ∀ v led', k v led' → Q v l led') (H : avName (vlk σ l x) (V w σ l led (eval (.Name x p)) Q) (fun v => k v led)) : V w σ l led (eval (.Name x p)) Q := by
  cases hv : vlk σ l x with
  | none => rw [hv] at H; exact H
  | some v => rw [hv] at H; exact .mk fun _ _ _ _ D F N kR => (D.lks F).lkOk _ _ hv _ _ _ (kR _ _ _ _ _ F N (hk _ _ H))
theorem avConst_ok {c : Const} {i : Nat} {p : Pos} (hk : ∀ v led', k v led' → Q v l led') (H : avConst c (V w σ l led (eval (.Constant c i p)) Q) (fun v => k v led)) : V w σ l led (eval (.Constant c i p)) Q := by
  cases c with
  | int i => exact .mk fun _ _ _ _ _ F N kR => wpAny_Constant_int (kR _ _ _ _ _ F N (hk _ _ (H _)))
  | str x => exact .mk fun _ _ _ _ _ F N kR => wpAny_Constant_str (kR _ _ _ _ _ F N (hk _ _ (H _)))
  | bytes b => exact .mk fun _ _ _ _ _ F N kR => Constant_bytes (kR _ _ _ _ _ F N (hk _ _ (H _)))
  | none => exact .mk fun _ _ _ _ _ F N kR => wpAny_Constant_none (kR _ _ _ _ _ F N (hk _ _ H))
  | bool b => exact .mk fun _ _ _ _ _ F N kR => wpAny_Constant_bool (kR _ _ _ _ _ F N (hk _ _ H))
  | _ => exact H
theorem avCall_ok {ev : Expr → (Value → Loc → Led → Prop) → (Value → Led → Prop) → Led → Prop} (he : VOk w σ l ev) {x : Str} {p pos : Pos} {args : List Expr}
    (H : avCall w σ l (adPlain args) (glV σ x) (V w σ l led (eval (.Call (.Name x p) args [] pos)) Q) (fun Q' k' => avArgs w σ l ev pos args Q' k' led) Q) : V w σ l led (eval (.Call (.Name x p) args [] pos)) Q := by
  cases hp : adPlain args with
  | false => rw [hp] at H; exact H
  | true =>
    cases hf : glV σ x with
    | none => rw [hp, hf] at H; exact H
    | some v =>
      rw [hp, hf] at H
      cases v with
      | ref a =>
        refine .mk fun δ h tk R D F N kR => ?_
        refine Call_ ((D.lks F).glOk _ _ hf _ _ _ ?_) callName_eq
        have kp := (D.lks F).keep _ _ hf
        cases args with
        | nil => exact callWith_K0 (K := hd.heap_1 w.params) (D.X.keeps F.keep) kp (H.go δ h tk R D F N kR)
        | cons e r =>
          refine callWith_K (K := hd.heap_1 w.params) (h₀ := h) (D.X.keeps F.keep) kp ?_ (star_cons (plain_cons hp).1) (plain_args (plain_cons hp).2)
          exact avArgs_ok (pos := pos) he _ _ _ _ (fun vs t₁ _ H₁ => H₁) H |>.go δ h tk _ D F N fun vs h₁ t₁ l₁ led₁ F₁ N₁ q₁ => ⟨D.X.keeps F₁.keep, q₁.go δ h₁ t₁ R D F₁ N₁ kR⟩
      | builtin i =>
        refine .mk fun δ h tk R D F N kR => ?_
        refine Call_ ((D.lks F).glOk _ _ hf _ _ _ ?_) callName_eq
        cases args with
        | nil => exact callWith_method0 (H.go δ h tk R D F N kR)
        | cons e r =>
          refine callWith_method1 ?_ (star_cons (plain_cons hp).1) (plain_args (plain_cons hp).2)
          exact avArgs_ok (pos := pos) he _ _ _ _ (fun vs t₁ _ H₁ => H₁) H |>.go δ h tk _ D F N fun vs h₁ t₁ l₁ led₁ F₁ N₁ q₁ => q₁.go δ h₁ t₁ R D F₁ N₁ kR
      | type i =>
        refine .mk fun δ h tk R D F N kR => ?_
        refine Call_ ((D.lks F).glOk _ _ hf _ _ _ ?_) callName_eq
        cases args with
        | nil => exact PySem.callWith_type rfl (evalArgs_nil3 (H.go δ h tk R D F N kR))
        | cons e r =>
          have q : wpAny _ _ (spliced (backTo pos (starEach (e :: r) δ.env))) _ _ _ := avArgs_ok (pos := pos) he _ _ _ _ (fun vs t₁ _ H₁ => H₁) H |>.go δ h tk _ D F N fun vs h₁ t₁ l₁ led₁ F₁ N₁ q₁ => q₁.go δ h₁ t₁ R D F₁ N₁ kR
          have hs : starEach (e :: r) δ.env = (false, eval e δ.env) :: starEach r δ.env := star_cons (plain_cons hp).1
          rw [hs] at q ⊢
          exact PySem.callWith_type (by show (false || (backTo pos (starEach r δ.env)).any (·.1)) = false; rw [plain_args (plain_cons hp).2]; rfl) (evalArgs_plain q)
      | _ => exact H
end
theorem len_ok {vs : List Value} {es : List Expr} (hl : vs.length = es.length) (hb : Nat.ble es.length 1000 = true) : vs.length ≤ sizeLine := by
  rw [hl, sizeLine_eq]; exact Nat.le_trans (Nat.le_of_ble_eq_true hb) (by decide)
theorem avE_ok : ∀ n, VOk w σ l (avE w σ l n)
  | 0 => fun _ _ _ _ _ H => H
  | n + 1 => by
    intro e Q k led hk H
    cases e with
    | Name x p => exact avName_ok hk H
    | Constant c i p => exact avConst_ok hk H
    | BinOp a op b p =>
      have q := avE_ok n _ _ _ _ (fun x led₁ H₁ => avE_ok n _ _ _ _ (fun y led₂ H₂ => avBin_ok hk H₂) H₁) H
      exact .mk fun δ h tk R D F N kR => wpAny_BinOp (q.go δ h tk _ D F N fun x h₁ t₁ l₁ led₁ F₁ N₁ q₁ => q₁.go δ h₁ t₁ _ D F₁ N₁ fun y h₂ t₂ l₂ led₂ F₂ N₂ q₂ => q₂.go δ h₂ t₂ R D F₂ N₂ kR)
    | Subscript v sl p =>
      change sel (noSl sl) _ _ at H
      cases hs : noSl sl with
      | false => rw [hs] at H; exact H
      | true =>
        rw [hs] at H
        have q := avE_ok n _ _ _ _ (fun x led₁ H₁ => avE_ok n _ _ _ _ (fun y led₂ H₂ => H₂) H₁) H
        exact .mk fun δ h tk R D F N kR => Subscript_ (q.go δ h tk _ D F N fun x h₁ t₁ l₁ led₁ F₁ N₁ q₁ => q₁.go δ h₁ t₁ _ D F₁ N₁ fun y h₂ t₂ l₂ led₂ F₂ N₂ q₂ => q₂.go δ h₂ t₂ R D F₂ N₂ kR)
    | Attribute v attr p =>
      cases v with
      | Name x p' =>
        have q := avE_ok n _ _ _ _ (fun x led₁ H₁ => H₁) H
        exact .mk fun δ h tk R D F N kR => Attribute_name (q.go δ h tk _ D F N fun x h₁ t₁ l₁ led₁ F₁ N₁ q₁ => q₁.go δ h₁ t₁ R D F₁ N₁ kR)
      | _ => exact H
    | Call f args kw p =>
      cases f with
      | Name x q =>
        cases kw with
        | nil => exact avCall_ok (avE_ok n) H
        | cons _ _ => exact H
      | _ => exact H
    | Tuple es i p =>
      cases hb : Nat.ble es.length 1000 with
      | false => change sel (Nat.ble es.length 1000) _ _ at H; rw [hb] at H; exact H
      | true =>
        change sel (Nat.ble es.length 1000) _ _ at H
        rw [hb] at H
        have q := avArgs_ok (pos := p) (avE_ok n) _ (fun vs l₁ led₁ => V w σ l₁ led₁ (fun _ => newTuple vs) Q) _ _ (fun vs led₁ hl H₁ => .mk fun δ h tk R D F N kR => kup_newTuple F N (fun D' h' F' N' hl' => kR _ _ _ _ _ F' N' (hk _ _ (H₁ _ hl'))) (len_ok hl hb)) H
        exact .mk fun δ h tk R D F N kR => Tuple_ (q.go δ h tk _ D F N fun x h₁ t₁ l₁ led₁ F₁ N₁ q₁ => q₁.go δ h₁ t₁ R D F₁ N₁ kR)
    | List es p =>
      cases hb : Nat.ble es.length 1000 with
      | false => change sel (Nat.ble es.length 1000) _ _ at H; rw [hb] at H; exact H
      | true =>
        change sel (Nat.ble es.length 1000) _ _ at H
        rw [hb] at H
        have q := avArgs_ok (pos := p) (avE_ok n) _ (fun vs l₁ led₁ => V w σ l₁ led₁ (fun _ => newList vs) Q) _ _ (fun vs led₁ hl H₁ => .mk fun δ h tk R D F N kR => newList_K F N (fun D' h' F' N' hl' => kR _ _ _ _ _ F' N' (hk _ _ (H₁ _ hl'))) (len_ok hl hb)) H
        exact .mk fun δ h tk R D F N kR => List_ (q.go δ h tk _ D F N fun x h₁ t₁ l₁ led₁ F₁ N₁ q₁ => q₁.go δ h₁ t₁ R D F₁ N₁ kR)
    | UnaryOp op x p =>
      cases op with
      | USub =>
        have q := avE_ok n _ _ _ _ (fun x led₁ H₁ => avNeg_ok hk H₁) H
        exact .mk fun δ h tk R D F N kR => UnaryOp_ (q.go δ h tk _ D F N fun x h₁ t₁ l₁ led₁ F₁ N₁ q₁ => q₁.go δ h₁ t₁ R D F₁ N₁ kR)
      | _ => exact H
    | _ => exact H
theorem avTruth_ok {v : Value} {Q : Bool → Loc → Led → Prop} {k : Bool → Led → Prop} {led : Led} (hk : ∀ v led', k v led' → Q v l led') (H : avTruth v (V w σ l led (fun _ => truthy v) Q) (fun b => k b led)) : V w σ l led (fun _ => truthy v) Q := by
  cases v with
  | bool b => exact .mk fun _ _ _ _ _ F N kR => wpAny_truthy_bool (kR _ _ _ _ _ F N (hk _ _ H))
  | none => exact .mk fun _ _ _ _ _ F N kR => truthy_none (kR _ _ _ _ _ F N (hk _ _ H))
  | int x u => exact .mk fun _ _ _ _ _ F N kR => P.truthy_int (kR _ _ _ _ _ F N (hk _ _ H))
  | _ => exact H
theorem avT_ok : ∀ n e (Q : Bool → Loc → Led → Prop) k led, (∀ v led', k v led' → Q v l led') → avT w σ l n e Q k led → V w σ l led (fun env => isTrue e env (eval e env)) Q
  | 0 => fun _ _ _ _ _ H => H
  | n + 1 => by
    intro e Q k led hk H
    have plain : ∀ e, (∀ env, isTrue e env (eval e env) = (do let v ← eval e env; standAt e.pos; holding [v] (truthy v))) → avV w σ l n e Q k led → V w σ l led (fun env => isTrue e env (eval e env)) Q := by
      intro e he H
      have q := avE_ok n _ _ _ _ (fun v led₁ H₁ => avTruth_ok hk H₁) H
      exact .mk fun δ h tk R D F N kR => isTrue_plain (q.go δ h tk _ D F N fun x h₁ t₁ l₁ led₁ F₁ N₁ q₁ => q₁.go δ h₁ t₁ R D F₁ N₁ kR) (he _)
    cases e with
    | Compare a ops rs p =>
      cases ops with
      | nil => exact H
      | cons op ops =>
        cases ops with
        | cons _ _ => exact H
        | nil =>
          cases rs with
          | nil => exact H
          | cons r rs =>
            cases rs with
            | cons _ _ => exact H
            | nil =>
              cases hm : behindInMarks op r with
              | true => change sel (behindInMarks op _) _ _ at H; rw [hm] at H; exact H
              | false =>
                change sel (behindInMarks op _) _ _ at H
                rw [hm] at H
                have q := avE_ok n _ _ _ _ (fun x led₁ H₁ => avE_ok n _ (fun y l₂ led₂ => V w σ l₂ led₂ (fun _ => compareOp op x y) (fun c l₃ led₃ => V w σ l₃ led₃ (fun _ => truthy c) Q)) _ _ (fun y led₂ H₂ => avCmp_ok (k := fun c led₂ => avTruth c (V w σ l led₂ (fun _ => truthy c) Q) (fun b => k b led₂)) (fun c led₃ H₃ => avTruth_ok hk H₃) H₂) H₁) H
                exact .mk fun δ h tk R D F N kR => wpAny_isTrue_Compare1 (q.go δ h tk _ D F N fun x h₁ t₁ l₁ led₁ F₁ N₁ q₁ => q₁.go δ h₁ t₁ _ D F₁ N₁ fun y h₂ t₂ l₂ led₂ F₂ N₂ q₂ => q₂.go δ h₂ t₂ _ D F₂ N₂ fun c h₃ t₃ l₃ led₃ F₃ N₃ q₃ => q₃.go δ h₃ t₃ R D F₃ N₃ kR) hm
    | UnaryOp op x p =>
      cases op with
      | Not =>
        have q := avT_ok n _ _ _ _ (fun c led₁ H₁ => hk _ _ H₁) H
        exact .mk fun δ h tk R D F N kR => isTrue_not (q.go δ h tk _ D F N fun c h₁ t₁ l₁ led₁ F₁ N₁ q₁ => kR _ _ _ _ _ F₁ N₁ q₁)
      | _ => exact H
    | BoolOp op xs p =>
      cases op with
      | And =>
        cases xs with
        | nil => exact .mk fun _ _ _ _ _ F N kR => isTrue_and_nil (kR _ _ _ _ _ F N (hk _ _ H))
        | cons x rest =>
          have q := avT_ok n _ _ _ _ (fun c led₁ H₁ => H₁) H
          refine .mk fun δ h tk R D F N kR => isTrue_and (q.go δ h tk _ D F N fun c h₁ t₁ l₁ led₁ F₁ N₁ q₁ => ?_)
          cases c with
          | true => exact q₁.go δ h₁ t₁ R D F₁ N₁ kR
          | false => exact kR _ _ _ _ _ F₁ N₁ q₁
      | Or =>
        cases xs with
        | nil => exact .mk fun _ _ _ _ _ F N kR => isTrue_or_nil (kR _ _ _ _ _ F N (hk _ _ H))
        | cons x rest =>
          have q := avT_ok n _ _ _ _ (fun c led₁ H₁ => H₁) H
          refine .mk fun δ h tk R D F N kR => isTrue_or (q.go δ h tk _ D F N fun c h₁ t₁ l₁ led₁ F₁ N₁ q₁ => ?_)
          cases c with
          | true => exact kR _ _ _ _ _ F₁ N₁ q₁
          | false => exact q₁.go δ h₁ t₁ R D F₁ N₁ kR
    | Name x p => exact plain _ (fun _ => rfl) H
    | Call f as ks p => exact plain _ (fun _ => rfl) H
    | Subscript v sl p => exact plain _ (fun _ => rfl) H
    | _ => exact H
theorem V.seq {st : Stmt} {rest : List Stmt} {Q : Flow → Loc → Led → Prop} {led : Led} (H : V w σ l led (exec st) (seqQ w σ rest Q)) : V w σ l led (execs (st :: rest)) Q := by
  refine .mk fun δ h tk R D F N kR => wpAny_execs_cons (H.go δ h tk _ D F N fun f h₁ t₁ l₁ led₁ F₁ N₁ q₁ => ?_)
  cases f with
  | next => exact q₁.go δ h₁ t₁ R D F₁ N₁ kR
  | _ => exact kR _ _ _ _ _ F₁ N₁ q₁
end
section
variable {w : World} {σ : Sta}
theorem isLoc_ok {x : Str} (h : isLoc σ x = true) : σ.cs.names.lookup x = some .local ∧ σ.fn = true := by
  unfold isLoc at h
  split at h
  · exact ⟨by assumption, h⟩
  · cases h
theorem look_cons {x : Str} {v : Value} {l : Loc} : (fun y => if y = x then some v else l.lookup y) = (fun y => ((x, v) :: l).lookup y) := by
  funext y
  by_cases e : y = x
  · subst e; rw [if_pos rfl, List.lookup_cons_self]
  · rw [if_neg e, List.lookup_cons, beq_false_of_ne e]
theorem DynOk.store {δ : Dyn} {l : Loc} {led : Led} {h : Heap} {tk : Nat} {x : Str} {v : Value} {Q : Unit → Shared → Prop} (D : DynOk w σ δ) (F : Fr δ.h₀ δ.L h (fun y => l.lookup y)) (N : News δ.h₀ δ.L h led) (hx : isLoc σ x = true)
    (k : ∀ h' tk', Fr δ.h₀ δ.L h' (fun y => ((x, v) :: l).lookup y) → News δ.h₀ δ.L h' led → Q () ⟨h', δ.g, δ.d, tk', δ.o⟩) : wpAny (model PySem.Challenge.rw_nt0496_01.row.prog w) δ.A (storeName δ.env x v) Q δ.E ⟨h, δ.g, δ.d, tk, δ.o⟩ := by
  rw [D.fn (isLoc_ok hx).2]
  exact storeX_L F N (fun h' F' N' => k _ _ (look_cons ▸ F') N') D.ek (isLoc_ok hx).1
theorem V.store {l : Loc} {led : Led} {x : Str} {v : Value} {Q : Unit → Loc → Led → Prop} (hx : isLoc σ x = true) (h : Q () ((x, v) :: l) led) : V w σ l led (fun env => storeName env x v) Q :=
  .mk fun _ _ _ _ D F N kR => D.store F N hx fun _ _ F' N' => kR _ _ _ _ _ F' N' h
theorem V.cell {l : Loc} {led : Led} {x : Str} {p : Pos} {c : Addr} {ob : Obj} {v : Value} {Q : Value → Loc → Led → Prop} (hc : σ.cl.lookup x = some c) (hm : (c, ob) ∈ led) (hd : ob.data = .cell (some v)) (h : Q v l led) (hx : σ.cs.names.lookup x = some .cell := by rfl) :
    V w σ l led (PySem.eval (.Name x p)) Q :=
  .mk fun δ _ _ _ D F N kR => wpAny_Name (wpAny_loadName_cell (D.en ▸ D.ek) (show δ.env.scope.names.lookup x = _ from D.en ▸ hx) (D.ec ▸ hc) ⟨ob, N.get hm, hd⟩ (kR _ _ _ _ _ F N h)) (noDbg_ok D.dbg hx)
theorem V.own {l : Loc} {led : Led} {x : Str} {p : Pos} {oC : Obj} {m₂ : Str → Option Value} {v : Value} {Q : Value → Loc → Led → Prop} (hm : (σ.C, oC) ∈ led) (hC : LCg.NsObj oC m₂) (hv : m₂ x = some v) (h : Q v l led) (hf : σ.fn = false := by rfl) (hx : σ.cs.names.lookup x = some .local := by rfl) :
    V w σ l led (PySem.eval (.Name x p)) Q :=
  .mk fun δ _ _ _ D F N kR => wpAny_Name (wpAny_loadName_local (D.en ▸ D.ek) (show δ.env.scope.names.lookup x = _ from D.en ▸ hx) (D.own hf ▸ hC.ns (N _ hm).1) hv (kR _ _ _ _ _ F N h)) (noDbg_ok D.dbg hx)
theorem avS_ok {n : Nat} : ∀ sts (Q : Flow → Loc → Led → Prop) l led, avS w σ n sts Q l led → V w σ l led (execs sts) Q
  | [], _, _, _, H => .mk fun _ _ _ _ _ F N kR => wpAny_execs_nil (kR _ _ _ _ _ F N H)
  | st :: rest, Q, l, led, H => by
    cases st with
    | Return v p =>
      cases v with
      | none => exact V.seq H
      | some e =>
        have q := avE_ok _ _ _ _ _ (fun v led₁ H₁ => H₁) H
        exact V.seq <| .mk fun δ h tk R D F N kR => wpAny_Return_some (q.go δ h tk _ D F N fun v h₁ t₁ l₁ led₁ F₁ N₁ q₁ => kR _ _ _ _ _ F₁ N₁ q₁)
    | If test b el p =>
      have q := avT_ok _ _ _ _ _ (fun v led₁ H₁ => H₁) H
      refine V.seq <| .mk fun δ h tk R D F N kR => wpAny_If (q.go δ h tk _ D F N fun c h₁ t₁ l₁ led₁ F₁ N₁ q₁ => ?_)
      cases c with
      | true => exact q₁.go δ h₁ t₁ R D F₁ N₁ kR
      | false => exact q₁.go δ h₁ t₁ R D F₁ N₁ kR
    | Assign xs v p =>
      cases xs with
      | nil => exact V.seq H
      | cons x xs =>
        cases xs with
        | cons y ys => cases x <;> exact V.seq H
        | nil =>
          cases x with
          | Name x q =>
            cases hn : (noComp v && isLoc σ x) with
            | false => change sel (noComp v && isLoc σ x) _ _ at H; rw [hn] at H; exact V.seq H
            | true =>
              change sel (noComp v && isLoc σ x) _ _ at H
              rw [hn] at H
              have hx : isLoc σ x = true := (Bool.and_eq_true_iff.mp hn).2
              have q := avE_ok _ _ (fun v l₁ led₁ => V w σ ((x, v) :: l₁) led₁ (execs rest) Q) _ _ (fun v led₁ H₁ => avS_ok rest Q _ _ H₁) H
              refine V.seq <| .mk fun δ h tk R D F N kR => wpAny_Assign_Name (q.go δ h tk _ D F N fun v h₁ t₁ l₁ led₁ F₁ N₁ q₁ => ?_) (noComp_ok (Bool.and_eq_true_iff.mp hn).1)
              exact D.store F₁ N₁ hx fun _ _ F' N' => kR _ _ _ _ _ F' N' q₁
          | _ => exact V.seq H
    | _ => exact V.seq H
theorem V.execs {sts : List Stmt} {Q : Flow → Loc → Led → Prop} {l : Loc} {led : Led} (H : avS w σ 9 sts Q l led) : V w σ l led (PySem.execs sts) Q := avS_ok _ _ _ _ H
theorem V.eval {e : Expr} {Q : Value → Loc → Led → Prop} {l : Loc} {led : Led} (_hs : supE (glV σ) (vlk σ l) e = true) (H : avE w σ l 9 e Q (fun v led₁ => Q v l led₁) led) : V w σ l led (PySem.eval e) Q := avE_ok _ _ _ _ _ (fun _ _ q => q) H
theorem V.test {e : Expr} {Q : Bool → Loc → Led → Prop} {l : Loc} {led : Led} (_hs : supT e = true) (H : avT w σ l 9 e Q (fun v led₁ => Q v l led₁) led) : V w σ l led (fun env => isTrue e env (PySem.eval e env)) Q := avT_ok _ _ _ _ _ (fun _ _ q => q) H
theorem V.args {es : List Expr} {pos : Pos} {Q : List Value → Loc → Led → Prop} {l : Loc} {led : Led} (H : avArgs w σ l (avE w σ l 9) pos es Q (fun v led₁ => Q v l led₁) led) : V w σ l led (fun env => spliced (backTo pos (starEach es env))) Q :=
  avArgs_ok (avE_ok _) _ _ _ _ (fun _ _ _ q => q) H
noncomputable def supB (op : Operator) (a b : Value) : Bool := match op with
  | .Add => (intV a).isSome && (intV b).isSome
  | .Sub => (intV a).isSome && (intV b).isSome
  | _ => false
noncomputable def supC (op : CmpOp) (a b : Value) : Bool := match op with
  | .Is => false
  | .IsNot => false
  | .In => false
  | .NotIn => false
  | _ => (intV a).isSome && (intV b).isSome
noncomputable def supV (v : Value) : Bool := match v with
  | .bool _ => true
  | .none => true
  | .int _ _ => true
  | _ => false
theorem V.bin {op : Operator} {a b : Value} {Q : Value → Loc → Led → Prop} {l : Loc} {led : Led} (_hs : supB op a b = true) (H : avBin op (intV a) (intV b) (V w σ l led (fun _ => binaryOp op a b) Q) (fun v => Q v l led)) : V w σ l led (fun _ => binaryOp op a b) Q := avBin_ok (k := fun v led₁ => Q v l led₁) (fun _ _ q => q) H
theorem V.cmp {op : CmpOp} {a b : Value} {Q : Value → Loc → Led → Prop} {l : Loc} {led : Led} (_hs : supC op a b = true) (H : avCmp op (intV a) (intV b) (V w σ l led (fun _ => compareOp op a b) Q) (fun v => Q v l led)) : V w σ l led (fun _ => compareOp op a b) Q := avCmp_ok (k := fun v led₁ => Q v l led₁) (fun _ _ q => q) H
theorem V.truthy {v : Value} {Q : Bool → Loc → Led → Prop} {l : Loc} {led : Led} (_hs : supV v = true) (H : avTruth v (V w σ l led (fun _ => PySem.truthy v) Q) (fun b => Q b l led)) : V w σ l led (fun _ => PySem.truthy v) Q := avTruth_ok (k := fun v led₁ => Q v l led₁) (fun _ _ q => q) H
theorem V.callF {f : Addr} {vs : List Value} {dk uk : Nat} {Out : Led → Value → Prop} {l : Loc} {led : Led} {Q : Value → Loc → Led → Prop} (C : Con w f vs led dk uk Out) (hd : Nat.ble dk σ.dk = true) (hu : Nat.ble uk σ.uk = true)
    (h : ∀ r led', (∀ p ∈ led', ∀ q ∈ led', p.1 = q.1 → p.2 = q.2) → Out led' r → Q r l led') : V w σ l led (fun _ => PySem.call (.ref f) vs) Q :=
  .mk fun _ _ _ _ D F N k => C.use D.B F D.X N D.T D.hk (Nat.lt_of_le_of_lt (Nat.add_le_add_left (Nat.le_of_ble_eq_true hd) _) D.hd) (Nat.lt_of_le_of_lt (Nat.add_le_add_left (Nat.le_of_ble_eq_true hu) _) D.hu)
    fun r led' h' tk' F' N' o => k r h' tk' l led' F' N' (h r led' (fun p hp q hq e => Option.some.inj ((N' p hp).1.symm.trans (e ▸ (N' q hq).1))) o)
theorem V.sub {α : Type} {l : Loc} {led led' : Led} {t : Env → Sem α} {Q : α → Loc → Led → Prop} (hs : ∀ p ∈ led', p ∈ led) (h : V w σ l led' t Q) : V w σ l led t Q :=
  .mk fun δ h' tk R D F N kR => h.go δ h' tk R D F (cb_drop N hs) kR
theorem ite_i {c : Prop} [Decidable c] {a b : Prop} (h1 : c → a) (h2 : ¬ c → b) : if c then a else b := by
  split
  · exact h1 (by assumption)
  · exact h2 (by assumption)
theorem ite_tt {b : Bool} {x y : Prop} (h : x) (hb : b = true := by rfl) : if b = true then x else y := by rw [if_pos hb]; exact h
theorem ite_ff {b : Bool} {x y : Prop} (h : y) (hb : b = false := by rfl) : if b = true then x else y := by subst hb; exact h
theorem ite_d {c : Prop} [Decidable c] {a b : Prop} (h1 : c → a) (h2 : ¬ c → b) : if decide c = true then a else b := ite_i (fun h => h1 (of_decide_eq_true h)) (fun h => h2 fun hc => h (decide_eq_true hc))
theorem ite_e {x y : Int} {a b : Prop} (h1 : x = y → a) (h2 : x ≠ y → b) : if (x == y) = true then a else b := ite_i (fun h => h1 (beq_iff_eq.mp h)) (fun h => h2 fun e => h (beq_iff_eq.mpr e))
noncomputable def retV : Flow → Value
  | .ret v => v
  | _ => .none
inductive finQ (Out : Led → Value → Prop) (fl : Flow) (l : Loc) (led' : Led) : Prop
  | mk (led'' : Led) (hs : ∀ p ∈ led'', p ∈ led') (o : Out led'' (retV fl)) : finQ Out fl l led'
theorem Con.of_V {f : Addr} {vs : List Value} {led : Led} {dk uk : Nat} {Out : Led → Value → Prop} {name qual : Str} {params : Arguments} {body : List Stmt} {scope : Scope} {dV kV doc pm cdv ct oc : Value} {an od : Option Addr} {osl : Array (Option Value)} {binds : List (Str × Value)} (l : Loc)
    (ho : (hd.heap_1 w.params).lookup f = some ⟨oc, od, .func (fnOf name qual params body scope dV kV doc pm an cdv ct), osl⟩) (hcd : codeIn (hd.heap_1 w.params) cdv qual = true)
    (hbind : bindArgs (fnOf name qual params body scope dV kV doc pm an cdv ct) ⟨vs, []⟩ = pure binds) (hloc : (binds.all fun x => decide (scope.names.lookup x.1 = some .local)) = true) (hdb : noDbg scope.names = true)
    (hco : scope.isCoroutine = false) (hgen : scope.isGenerator = false) (hk : scope.kind = .function) (hcell : ∀ x ∈ scope.names, x.2 ≠ .cell)
    (hl : binds.reverse = l) (h : V w { cs := scope, dk := dk, uk := uk } l led (PySem.execs body) (finQ Out)) : Con w f vs led (dk + 1) (uk + 3) Out := by
  intro mean mg mb dp un cn cs a ccd cl outer A₀ base h₀ L m s Q E B F X N Tp hkc hd hu hret
  refine wpAny_call ?_
  refine code_def B F X N Tp rfl rfl hkc ho hcd (Nat.lt_of_le_of_lt (Nat.le_add_right _ _) hd) (BindsTo.of_eq hbind) (locs hloc) ?_ hco hgen hk hcell
  intro g' L' h' FG' F' N' B' X' T'
  subst hl
  refine h.go ⟨mean, mg, mb, dp + 1, un + 3, qual, scope, f, cdv, [], envX cn cs L a ccd cl :: outer, _, base, g', L', s.gens, s.drawn, s.os, _, envX qual scope L' f cdv []⟩ _ _ _ ⟨B', X', T', Nat.lt_of_le_of_lt (Nat.le_of_eq (Nat.add_right_comm _ _ _)) hd, Nat.lt_of_le_of_lt (Nat.le_of_eq (Nat.add_right_comm _ _ _)) hu, hk, hk, rfl, rfl, rfl, rfl, hdb, fun _ => rfl, (fun h => nomatch h), (fun h => nomatch h), trivial⟩ F' N'
    fun fl h'' tk'' l'' led'' F'' N'' o => leaveK_ F'' N'' fun F1 N1 => ?_
  obtain ⟨led3, hs, o⟩ := o
  cases fl <;> exact hret _ _ _ _ F1 (cb_drop N1 hs) o
theorem Con.of_V1 {f : Addr} {vs : List Value} {led : Led} {dk uk : Nat} {Out : Led → Value → Prop} {name qual : Str} {params : Arguments} {body : List Stmt} {scope : Scope} {dV kV doc pm cdv ct oc : Value} {an od : Option Addr} {osl : Array (Option Value)} {binds : List (Str × Value)} (l : Loc) (y : Str) (cv : Option Value)
    (ho : (hd.heap_1 w.params).lookup f = some ⟨oc, od, .func (fnOf name qual params body scope dV kV doc pm an cdv ct), osl⟩) (hcd : codeIn (hd.heap_1 w.params) cdv qual = true)
    (hbind : bindArgs (fnOf name qual params body scope dV kV doc pm an cdv ct) ⟨vs, []⟩ = pure binds) (hkind : (binds.all fun y => scope.names.lookup y.1 == some .local || scope.names.lookup y.1 == some .cell) = true) (hdb : noDbg scope.names = true)
    (hco : scope.isCoroutine = false) (hgen : scope.isGenerator = false) (hk : scope.kind = .function) (hcl : ∀ n, cellsFrom n scope.names [] = [(y, n)]) (hL : bindL (fun n => scope.names.lookup n) binds (fun _ => none) = fun z => l.lookup z) (hC : bindC (fun n => scope.names.lookup n) binds (fun _ => none) y = cv)
    (h : ∀ (c : Addr) (ob : Obj), ob.data = .cell cv → (∀ p ∈ led, p.1 < c) → V w { cs := scope, dk := dk, uk := uk, cl := [(y, c)] } l ((c, ob) :: led) (PySem.execs body) (finQ Out)) : Con w f vs led (dk + 1) (uk + 3) Out := by
  intro mean mg mb dp un cn cs a ccd cl outer A₀ base h₀ L m s Q E B F X N Tp hkc hd hu hret
  refine wpAny_call ?_
  refine code_defC B F X N Tp rfl rfl hkc ho hcd (Nat.lt_of_le_of_lt (Nat.le_add_right _ _) hd) (BindsTo.of_eq hbind) hkind (by rw [hcl]; exact List.nodup_cons.mpr ⟨List.not_mem_nil, List.nodup_nil⟩) ?_ hco hgen hk
  intro g' L' h' tk cells FG' F' N' Y' B' X' T' l1
  rw [hcl] at Y'
  have eo : envOfC qual scope L' f cdv = envX qual scope L' f cdv [(y, L' + 1)] := by rw [← hcl]; rfl
  rw [eo]
  obtain ⟨ob, rfl, d1⟩ := Y'.one
  have F2 : Fr g' L' h' (fun z => l.lookup z) := hL ▸ F'
  refine (h (L' + 1) ob (hC ▸ d1) (fun p hp => Nat.lt_succ_of_lt (l1 p hp))).go ⟨mean, mg, mb, dp + 1, un + 3, qual, scope, f, cdv, [(y, L' + 1)], envX cn cs L a ccd cl :: outer, _, base, g', L', s.gens, s.drawn, s.os, _, envX qual scope L' f cdv [(y, L' + 1)]⟩ _ _ _ ⟨B', X', T', Nat.lt_of_le_of_lt (Nat.le_of_eq (Nat.add_right_comm _ _ _)) hd, Nat.lt_of_le_of_lt (Nat.le_of_eq (Nat.add_right_comm _ _ _)) hu, hk, hk, rfl, rfl, rfl, rfl, hdb, fun _ => rfl, (fun h => nomatch h), (fun h => nomatch h), trivial⟩ F2 N'
    fun fl h'' tk'' l'' led'' F'' N'' o => leaveK_ F'' N'' fun F1 N1 => ?_
  obtain ⟨led3, hs, o⟩ := o
  cases fl <;> exact hret _ _ _ _ F1 (cb_drop N1 hs) o
end
end
section
open PySem PySem.W PyProof.Rows
inductive SwapK (x y : Str) (Q : Flow → Loc → Led → Prop) (v : Value) (l₁ : Loc) (led₁ : Led) : Prop
  | mk (a : Addr) (v1 v2 : Value) (n : Nat) (e : v = .ref a) (hm : (a, tupOf [v1, v2] n) ∈ led₁) (q : Q .next ((x, v1) :: (y, v2) :: l₁) led₁) : SwapK x y Q v l₁ led₁
section
variable {w : World} {σ : Sta} {l : Loc} {led : Led}
theorem V.tuple {vs : List Value} {Q : Value → Loc → Led → Prop} (h : ∀ a : Addr, (∀ p ∈ led, p.1 < a) → Q (.ref a) l ((a, tupOf vs 0) :: led)) (hz : Nat.ble vs.length 1000 = true := by rfl) : V w σ l led (fun _ => newTuple vs) Q :=
  .mk fun _ _ _ _ _ F N kR => kup_newTuple F N (fun D' h' F' N' hl' => kR _ _ _ _ _ F' N' (h _ hl')) (by rw [sizeLine_eq]; exact Nat.le_trans (Nat.le_of_ble_eq_true hz) (by decide))
theorem V.list {vs : List Value} {Q : Value → Loc → Led → Prop} (h : ∀ a : Addr, (∀ p ∈ led, p.1 < a) → Q (.ref a) l ((a, W.listOf vs.toArray 0) :: led)) (hz : Nat.ble vs.length 1000 = true := by rfl) : V w σ l led (fun _ => newList vs) Q :=
  .mk fun _ _ _ _ _ F N kR => newList_K F N (fun D' h' F' N' hl' => kR _ _ _ _ _ F' N' (h _ hl')) (by rw [sizeLine_eq]; exact Nat.le_trans (Nat.le_of_ble_eq_true hz) (by decide))
theorem V.swap2 {elts : List Expr} {k : Nat} {tp pos : Pos} {value : Expr} {x y : Str} {Q : Flow → Loc → Led → Prop}
    (hs : ∀ cn L a ccd cl, swapsWithSole [.Tuple elts k tp] value pos.line (envX cn σ.cs L a ccd cl) = Pure.pure false) (hw : ∀ cn L a ccd cl, swappedStores [.Tuple elts k tp] value (envX cn σ.cs L a ccd cl) = Pure.pure (some [x, y])) (hx : isLoc σ x = true) (hy : isLoc σ y = true)
    (h : V w σ l led (PySem.eval value) (SwapK x y Q)) : V w σ l led (exec (.Assign [.Tuple elts k tp] value pos)) Q := by
  refine .mk fun δ h' tk R D F N kR => Assign_Tuple_swapped (h.go δ h' tk _ D F N fun v h₁ t₁ l₁ led₁ F₁ N₁ q => ?_) (D.fn (isLoc_ok hx).2 ▸ hs _ _ _ _ _) (D.fn (isLoc_ok hx).2 ▸ hw _ _ _ _ _)
  obtain ⟨a, v1, v2, n, rfl, hm, q⟩ := q
  refine unpackItemsN_ (s := ⟨_, _, _, _, _⟩) F₁ N₁ (News.isTup N₁ hm) rfl rfl fun h₂ F₂ N₂ => ?_
  refine assignInOrder_cons (bindName_ (D.store F₂ N₂ hy fun h₃ t₃ F₃ N₃ => ?_))
  refine assignInOrder_cons (bindName_ (D.store F₃ N₃ hx fun h₄ t₄ F₄ N₄ => assignInOrder_nil ?_))
  exact kR _ _ _ _ _ F₄ N₄ q
end
end
section
open PySem PySem.W PyProof.Rows PySem.Calls PySem.MeetsSeq PySem.SeqAt PyProof.V PySem.Spec
noncomputable abbrev zIt (l : Addr) (k : Nat) : Obj := { cls := .type "tuple_iterator", data := .fields #[.ref l, .int k 0] }
section
variable {prog : Program} {w : World} {A : Around} {E : Value → Shared → Prop} {s : Shared}
theorem z_drawn {i l : Addr} {k : Nat} {items : Array Value} {x : Value} {Q : Value → Shared → Prop} (hi : s.heap.get? i = some (zIt l k)) (hl : s.heap.IsTuple l items) (hx : items[k]? = some x)
    (q : ∀ h', h'.get? i = some (zIt l (k + 1)) → Heap.SameBut i s.heap h' → Q x { s with heap := h' }) : wpAny (model prog w) A (Builtin.SmallTypes.nextOf (.ref i)) Q E s := by
  have hT : s.TypeIs (.ref i) "tuple_iterator" := ⟨_, hi, rfl⟩
  obtain ⟨ol, hol, _, nl, hdl⟩ := hl
  unfold Builtin.SmallTypes.nextOf
  refine wpAny_bind (wpAny_callSpecial?_slot (name := Str.ofString "__next__") hT PySem.F.slot_tuple_iterator_next (wpAny_call_entry PySem.F.slot_tuple_iterator_next hT PySem.F.entry_tuple_iterator_next ?_ (PySem.F.args_tuple_iterator_next_1 _)))
  show wpAny _ _ (field (.ref i) 0 >>= _) _ _ s
  refine wpAny_bind (wpAny_field hi rfl (x := .ref l) rfl ?_)
  show wpAny _ _ (if (Value.ref l == Value.none) = true then _ else _) _ _ s
  rw [if_neg (show ¬ ((Value.ref l == Value.none) = true) from Bool.false_ne_true)]
  show wpAny _ _ (field (.ref i) 1 >>= _) _ _ s
  refine wpAny_bind (wpAny_field hi rfl (x := .int k 0) rfl ?_)
  show wpAny _ _ (seqItems? (.ref l) >>= _) _ _ s
  refine wpAny_bind (wpAny_seqItems hol hdl ?_)
  simp only [Int.toNat_natCast, hx]
  refine wpAny_bind (wpAny_setField_rec hi (by simp) fun h' hi' hs' => wpAny_pure ⟨x, rfl, wpAny_pure (q h' ?_ hs')⟩)
  exact hi'
theorem z_ended {i l : Addr} {k : Nat} {items : Array Value} {Q : Value → Shared → Prop} (hh : A.handled = none) (hi : s.heap.get? i = some (zIt l k)) (hl : s.heap.IsTuple l items) (hx : items[k]? = none)
    (q : ∀ h' e, Heap.ExtBut i s.heap h' → (∃ o, h'.get? e = some o ∧ o.cls = .type "StopIteration") → E (.ref e) { s with heap := h' }) : wpAny (model prog w) A (Builtin.SmallTypes.nextOf (.ref i)) Q E s := by
  have hT : s.TypeIs (.ref i) "tuple_iterator" := ⟨_, hi, rfl⟩
  obtain ⟨ol, hol, _, nl, hdl⟩ := hl
  unfold Builtin.SmallTypes.nextOf
  refine wpAny_bind (wpAny_callSpecial?_slot (name := Str.ofString "__next__") hT PySem.F.slot_tuple_iterator_next (wpAny_call_entry PySem.F.slot_tuple_iterator_next hT PySem.F.entry_tuple_iterator_next ?_ (PySem.F.args_tuple_iterator_next_1 _)))
  show wpAny _ _ (field (.ref i) 0 >>= _) _ _ s
  refine wpAny_bind (wpAny_field hi rfl (x := .ref l) rfl ?_)
  show wpAny _ _ (if (Value.ref l == Value.none) = true then _ else _) _ _ s
  rw [if_neg (show ¬ ((Value.ref l == Value.none) = true) from Bool.false_ne_true)]
  show wpAny _ _ (field (.ref i) 1 >>= _) _ _ s
  refine wpAny_bind (wpAny_field hi rfl (x := .int k 0) rfl ?_)
  show wpAny _ _ (seqItems? (.ref l) >>= _) _ _ s
  refine wpAny_bind (wpAny_seqItems hol hdl ?_)
  simp only [Int.toNat_natCast, hx]
  refine wpAny_bind (wpAny_rule (wpAny_bind (wpAny_setField_rec hi (by simp) fun h₁ hi₁ hs₁ => ?_)))
  show wpAny _ _ (newExc (.type "StopIteration") [] >>= _) _ _ _
  refine wpAny_bind ?_
  simp only [newExc, newTuple]
  refine wpAny_bind (wpAny_newObj_type ?_ (by size_fits))
  refine wpAny_bind (m := firstArgMember _ _) (wpAny_of_eq (a := Value.none) (by first | rfl | (simp only [firstArgMember]; rfl)) ?_)
  refine wpAny_newObj_type ?_ (by size_fits)
  simp only [raiseNew]
  refine wpAny_bind (wpAny_handled ?_)
  rw [show A.in1.handled = none from hh]
  refine wpAny_bind (wpAny_pure (wpAny_throw ?_))
  exact q _ _ ((hs₁.extBut.push _).push _) ⟨_, Heap.get?_push_size _ rfl, rfl⟩
end
end
section
open PySem PySem.W PyProof.Rows PySem.Calls PySem.MeetsSeq PySem.SeqAt PyProof.V PySem.Spec
noncomputable def objsAt (h : Heap) (fp : List Addr) : Led := fp.filterMap fun b => (h.get? b).map fun o => (b, o)
theorem objsAt_mem {h : Heap} {fp : List Addr} {p : Addr × Obj} : p ∈ objsAt h fp ↔ p.1 ∈ fp ∧ h.get? p.1 = some p.2 := by
  unfold objsAt
  rw [List.mem_filterMap]
  constructor
  · rintro ⟨b, hb, e⟩
    obtain ⟨o, ho, rfl⟩ := Option.map_eq_some_iff.mp e
    exact ⟨hb, ho⟩
  · rintro ⟨h1, h2⟩
    exact ⟨p.1, h1, by rw [h2]; rfl⟩
section
variable {prog : Program} {w : World} {A : Around} {E : Value → Shared → Prop} {s : Shared} {h₀ : Heap} {L : Addr} {m : Str → Option Value} {env : Env}
noncomputable def PairTurn (prog : Program) (w : World) (A : Around) (h₀ : Heap) (L : Addr) (m : Str → Option Value) (env : Env) (elt : Expr) (a b : Str) (scope : Scope) (cl : List (Str × Addr)) (s : Shared) (P : Nat → Value → Value → Prop) (J : Nat → List Value → Prop) (n : Nat) (news : Led) : Prop :=
  ∀ i x y ys C oC D m₂ h tk (led : Led) (E' : Value → Shared → Prop), i < n → P i x y → J i ys → LCg.NsObj oC m₂ → m₂ a = some x → m₂ b = some y → Fr h₀ L h m → News h₀ L h ((C, oC) :: (D, LCg.lst ys) :: led) → (∀ p ∈ news, p ∈ led) → (@Ne Nat C D) →
    wpAny (model prog w) A (eval elt (compEnvC scope cl C env)) (fun v s' => ∃ h' tk', s' = { s with heap := h', toks := tk' } ∧ Fr h₀ L h' m ∧ News h₀ L h' ((C, oC) :: (D, LCg.lst ys) :: led) ∧ J (i + 1) (ys ++ [v])) E' { s with heap := h, toks := tk }
inductive PcJ (h₀ : Heap) (L : Addr) (m : Str → Option Value) (s₂ : Shared) (n : Nat) (St : Nat → Heap → Prop) (C D : Addr) (news : Led) (J : Nat → List Value → Prop) : Nat → Shared → Prop
  | mk (h' : Heap) (tk i : Nat) (ys : List Value) (m' : Str → Option Value) (hi : i ≤ n) (hl : ys.length = i) (st : St i h') (F : Fr h₀ L h' m) (hn : h'.Ns C m') (N : News h₀ L h' ((D, LCg.lst ys) :: news)) (hJ : J i ys) : PcJ h₀ L m s₂ n St C D news J (n + 1 - i) { s₂ with heap := h', toks := tk }
theorem pc_block {elt iter : Expr} {a b : Str} {pa pb tp : Pos} {kk : Nat} {scope : Scope} {cl : List (Str × Addr)} {pos : Pos} {s₂ : Shared} {I : Addr} {fp wr : List Addr} {n : Nat} {Pt : Nat → Array Value → Prop} {St : Nat → Heap → Prop} {Mid : Nat → Addr → Heap → Prop} {P : Nat → Value → Value → Prop} {news : Led}
    {Fin : List Value → Led → Prop} {RR : Value → Addr → Result → Shared → Prop}
    (hh : A.handled = none) (W : WalksT prog w A I fp wr n Pt St Mid) (hPt : ∀ i vals, Pt i vals → ∃ x y, vals = #[x, y] ∧ P i x y) (hsz : n ≤ sizeLine) (hst : St 0 s₂.heap) (hfp : ∀ b ∈ fp, b < s₂.heap.objs.size ∧ b ≠ L ∧ h₀.get? b = none)
    (hoff : ∀ p ∈ news, p.1 ∉ wr) (hcell : ∀ y ∈ scope.names, y.2 ≠ .cell) (hkind : scope.kind = .function) (hxa : scope.names.lookup a = some .local) (hxb : scope.names.lookup b = some .local) (hab : ¬ a = b)
    (F : Fr h₀ L s₂.heap m) (N : News h₀ L s₂.heap news) (J : Nat → List Value → Prop) (h0 : J 0 []) (turn : PairTurn prog w A h₀ L m env elt a b scope cl s₂ P J n news) (fin : ∀ ys, J n ys → Fin ys news)
    (hRR : ∀ D C h tk m' ys, Fr h₀ L h m → News h₀ L h ((D, LCg.lst ys) :: news) → LCg.Off1 D news → h.Ns C m' → h₀.get? C = none → h₀.get? D = none → C ≠ L → D ≠ L → C ≠ D → (∀ p ∈ news, p.1 ≠ C) → Fin ys news → RR (.ref D) C (.ok .next) { s₂ with heap := h, toks := tk }) :
    wpAny (model prog w) A (newList []) (fun acc s₃ => wpAny (model prog w) A (newFunctionEnv scope env.globals cl [] env.qual none .none (some env)) (fun cenv s₄ =>
      codeAny (model prog w) A (.compStart (.ListComp elt [⟨.Tuple [.Name a pa, .Name b pb] kk tp, iter, [], 0⟩] scope pos) 0 (.ref I) acc { cenv with scope := relabel scope env }) (RR acc cenv.locals) s₄) E s₃) E s₂ := by
  refine wpAny_newObj_type (wpAny_newFunctionEnv hcell (by intro y hy; simp at hy) (fun h₁ hns₁ hsb₁ => ?_) hkind)
  dsimp only at hns₁ hsb₁ ⊢
  generalize hH2 : s₂.heap.push { cls := .type "list", dict := none, data := .seq ([] : List Value).toArray } = H2 at hns₁ hsb₁ ⊢
  have hC : H2.objs.size = s₂.heap.objs.size + 1 := by rw [← hH2, Heap.size_push]
  generalize hD : s₂.heap.objs.size = D at *
  generalize hCC : H2.objs.size = C at *
  have hDC : D ≠ C := by rw [hC]; exact Nat.ne_of_lt (Nat.lt_succ_self _)
  have below : ∀ b, b < D → b ≠ C ∧ b ≠ D := fun b hb => ⟨by rw [hC]; exact Nat.ne_of_lt (Nat.lt_succ_of_lt hb), Nat.ne_of_lt hb⟩
  have old : ∀ b o, s₂.heap.get? b = some o → h₁.get? b = some o := fun b o e => hsb₁.extBut b o (below b (hD ▸ Heap.lt_size e)).1 (Heap.get?_push_of_some _ (hH2 ▸ Heap.get?_push_of_some _ e))
  have hacc : h₁.get? D = some (LCg.lst []) := hsb₁.extBut _ _ hDC (Heap.get?_push_of_some _ (hH2 ▸ hD ▸ Heap.get?_push_size _ rfl))
  have fresh₀ : ∀ a, D ≤ a → h₀.get? a = none := fun a ha => by
    cases e : h₀.get? a with
    | none => rfl
    | some o' => exact absurd (Heap.lt_size (F.keep a o' e)) (Nat.not_lt.mpr (hD ▸ ha))
  have hD₀ : h₀.get? D = none := fresh₀ _ (Nat.le_refl _)
  have hC₀ : h₀.get? C = none := fresh₀ _ (by rw [hC]; exact Nat.le_succ _)
  have hLlt : L < D := hD ▸ F.ns.lt
  have hDL : D ≠ L := Ne.symm (below L hLlt).2
  have hCL : C ≠ L := Ne.symm (below L hLlt).1
  have hnews : ∀ p ∈ news, p.1 ≠ C ∧ p.1 ≠ D := fun p hp => below _ (hD ▸ Heap.lt_size (N p hp).1)
  have hw : ∀ b, b ∈ wr → b ≠ C ∧ b ≠ D ∧ b ≠ L ∧ h₀.get? b = none := fun b hb => have z := hfp b (W.sub b hb); ⟨(below b z.1).1, (below b z.1).2, z.2⟩
  have off1 : LCg.Off1 D news := by
    clear hRR N turn fin hoff
    induction news with
    | nil => trivial
    | cons p r ih => exact ⟨(hnews p (.head _)).2, ih fun q hq => hnews q (.tail _ hq)⟩
  have loop : ∀ s₃ : Shared, s₃ = { s₂ with heap := h₁, toks := s₂.toks + ([] : List (Str × Value)).length } →
      codeAny (model prog w) A (.compLoop (.ListComp elt [⟨.Tuple [.Name a pa, .Name b pb] kk tp, iter, [], 0⟩] scope pos) 0 (.ref I) (.ref D) (compEnvC scope cl C env)) (RR (.ref D) C) s₃ := by
    rintro s₃ rfl
    refine kcp_loop (PcJ h₀ L m s₂ n St C D news J) ?_ (n + 1)
      ⟨h₁, _, 0, [], _, Nat.zero_le _, rfl, W.frame 0 _ _ hst fun b _ o e => old b o e, F.keeps old, hns₁, fun p hp => ?_, h0⟩
    · rintro k s' ⟨h', tk, i, ys, m', hi, hyl, hit', F', hn', N', hJ⟩
      by_cases hlt : i < n
      · refine W.item i _ _ _ hlt hit' fun T vals h₂ tk₂ hPv _ hT hMd hk₂ => ?_
        have hTw := W.apart i T _ hMd
        refine W.go _ _ _ i T _ _ _ hMd fun h₃ hst₃ hk₃ => ?_
        obtain ⟨x, y, rfl, hP⟩ := hPt i vals hPv
        have up₃ : ∀ c o, c ∉ wr → h'.get? c = some o → h₃.get? c = some o := fun c o hc e => hk₃ c o hc (hk₂ c o hc e)
        have hT₃ : h₃.IsTuple T #[x, y] := let ⟨o, ho, r⟩ := hT; ⟨o, hk₃ T o hTw ho, r⟩
        have hCw : C ∉ wr := fun hm => (hw C hm).1 rfl
        have hDw : D ∉ wr := fun hm => (hw D hm).2.1 rfl
        have hLw : L ∉ wr := fun hm => (hw L hm).2.2.1 rfl
        refine kcp_assign (env := compEnvC scope cl C env) hh hT₃ (lookup_relabel_local hxa) (lookup_relabel_local hxb) (by simp [compEnvC, relabel, hkind]) (hn'.at' fun o e => up₃ _ o hCw e) fun h₄ tk₄ hn₄ hs₄ => ?_
        have up : ∀ c o, c ∉ wr → c ≠ C → h'.get? c = some o → h₄.get? c = some o := fun c o h1 h2 e => hs₄ c o h2 (up₃ c o h1 e)
        have hst₄ : St (i + 1) h₄ := W.frame _ _ _ hst₃ fun b hb o e => hs₄ b o (below b (hfp b hb).1).1 e
        obtain ⟨oC, heC, hoC⟩ := LCg.ns_obj hn₄
        have F₄ : Fr h₀ L h₄ m := ⟨F'.ns.at' fun o e => up _ o hLw (Ne.symm hCL) e, fun c o e => up c o (fun q => by rw [(hw c q).2.2.2] at e; cases e) (fun q => by rw [q, hC₀] at e; cases e) (F'.keep c o e), F'.above⟩
        have N₄ : News h₀ L h₄ ((C, oC) :: (D, LCg.lst ys) :: (objsAt h₄ fp ++ news)) := fun q hq => by
          rcases List.mem_cons.mp hq with rfl | hq
          · exact ⟨heC, hCL, hC₀⟩
          rcases List.mem_cons.mp hq with rfl | hq
          · have z := N' (D, LCg.lst ys) (.head _)
            exact ⟨up _ _ hDw hDC z.1, z.2⟩
          rcases List.mem_append.mp hq with hq | hq
          · have z := objsAt_mem.mp hq
            exact ⟨z.2, (hfp _ z.1).2⟩
          · have z := N' q (.tail _ hq)
            exact ⟨up _ _ (hoff q hq) (hnews q hq).1 z.1, z.2⟩
        refine wpAny_mono (turn i x y ys C oC D _ h₄ _ (objsAt h₄ fp ++ news) _ hlt hP hJ hoC (by simp [hab]) (by simp) F₄ N₄ (fun p hp => List.mem_append_right _ hp) (Ne.symm hDC)) (fun v s₅ h₅ => ?_) fun _ _ e => e
        obtain ⟨h₅, tk₅, rfl, F₅, N₅, hJ₅⟩ := h₅
        have zC := (N₅ (C, oC) (.head _)).1
        have zD := (N₅ (D, LCg.lst ys) (.tail _ (.head _))).1
        refine append_at (hsz := by show ys.toArray.size ≤ sizeLine; rw [List.size_toArray, hyl]; exact Nat.le_trans hi hsz) zD fun h₆ hs₆ hD₆ => ?_
        refine ⟨n + 1 - (i + 1), Nat.sub_lt_sub_left (Nat.lt_succ_of_lt hlt) (Nat.lt_succ_self i), h₆, tk₅, i + 1, ys ++ [v], _, hlt, by rw [List.length_append, List.length_singleton, hyl], W.frame _ _ _ hst₄ fun b hb o e => ?_, F₅.change hs₆ hDL hD₀, (hoC.ns zC).sameBut hs₆ (Ne.symm hDC), fun q hq => ?_, hJ₅⟩
        · exact hs₆.extBut _ _ (below b (hfp b hb).1).2 (N₅ (b, o) (.tail _ (.tail _ (List.mem_append_left _ (objsAt_mem.mpr ⟨hb, e⟩))))).1
        · rcases List.mem_cons.mp hq with rfl | hq
          · exact ⟨hD₆.trans (congrArg some (LCg.lst_snoc ys v)), hDL, hD₀⟩
          · have z := N₅ q (.tail _ (.tail _ (List.mem_append_right _ hq)))
            exact ⟨hs₆.extBut _ _ (hnews q hq).2 z.1, z.2⟩
      · have hin : i = n := Nat.le_antisymm hi (Nat.not_lt.mp hlt)
        subst hin
        refine W.done _ _ _ hit' fun h₂ tk₂ hk₂ => ?_
        refine hRR _ _ h₂ tk₂ m' ys ⟨F'.ns.at' fun o e => hk₂ _ o (fun hm => (hw L hm).2.2.1 rfl) e, fun c o e => hk₂ c o (fun q => by rw [(hw c q).2.2.2] at e; cases e) (F'.keep c o e), F'.above⟩ (fun q hq => ?_) off1
          (hn'.at' fun o e => hk₂ _ o (fun hm => (hw C hm).1 rfl) e) hC₀ hD₀ hCL hDL (Ne.symm hDC) (fun p hp => (hnews p hp).1) (fin ys hJ)
        rcases List.mem_cons.mp hq with rfl | hq
        · have z := N' _ (.head _)
          exact ⟨hk₂ _ _ (fun hm => (hw D hm).2.1 rfl) z.1, z.2⟩
        · have z := N' q (.tail _ hq)
          exact ⟨hk₂ _ _ (hoff q hq) z.1, z.2⟩
    · rcases List.mem_cons.mp hp with rfl | hp
      · exact ⟨hacc, hDL, hD₀⟩
      · exact ⟨old _ _ (N p hp).1, (N p hp).2⟩
  exact codeAny_compStart_list (loop _ rfl) (W.self 0 _ _ _ (W.frame 0 _ _ hst fun b _ o e => old b o e) (loop _ rfl))
end
end
section
open PySem PySem.W PyProof.Rows PySem.Calls PySem.MeetsSeq PySem.SeqAt PyProof.V PySem.Spec
structure ZT (h : Heap) (z TI TO i1 i2 : Addr) (f0 : Value) (l1 l2 : Addr) (k1 k2 : Nat) (xs ys : Array Value) : Prop where
  z : IsZip h z TI TO f0
  ti : IsPair h TI (.ref i1) (.ref i2)
  to' : ∃ a b, IsPair h TO a b
  i1 : h.get? i1 = some (zIt l1 k1)
  i2 : h.get? i2 = some (zIt l2 k2)
  l1 : h.IsTuple l1 xs
  l2 : h.IsTuple l2 ys
theorem ZT.at {h h' : Heap} {z TI TO i1 i2 : Addr} {f0 : Value} {l1 l2 : Addr} {k1 k2 : Nat} {xs ys : Array Value} (x : ZT h z TI TO i1 i2 f0 l1 l2 k1 k2 xs ys) (k : ∀ b o, b = z ∨ b = TI ∨ b = TO ∨ b = i1 ∨ b = i2 ∨ b = l1 ∨ b = l2 → h.get? b = some o → h'.get? b = some o) : ZT h' z TI TO i1 i2 f0 l1 l2 k1 k2 xs ys :=
  let ⟨a, b, c⟩ := x.to'
  let ⟨o1, e1, r1⟩ := x.l1
  let ⟨o2, e2, r2⟩ := x.l2
  ⟨k _ _ (by simp) x.z, k _ _ (by simp) x.ti, ⟨a, b, k _ _ (by simp) c⟩, k _ _ (by simp) x.i1, k _ _ (by simp) x.i2, ⟨o1, k _ _ (by simp) e1, r1⟩, ⟨o2, k _ _ (by simp) e2, r2⟩⟩
section
variable {prog : Program} {w : World} {A : Around} {E : Value → Shared → Prop} {s : Shared} {z TI TO i1 i2 l1 l2 : Addr} {xs ys : Array Value}
theorem ZT.setz {h h' : Heap} {f0 f1 : Value} {k1 k2 : Nat} (D : ZipApart z TI TO i1 i2 l1 l2) (x : ZT h z TI TO i1 i2 f0 l1 l2 k1 k2 xs ys) (hz : IsZip h' z TI TO f1) (hs : Heap.ExtBut z h h') : ZT h' z TI TO i1 i2 f1 l1 l2 k1 k2 xs ys :=
  let ⟨a, b, c⟩ := x.to'
  ⟨hz, hs _ _ D.TIz x.ti, ⟨a, b, hs _ _ D.TOz c⟩, hs _ _ D.i1z x.i1, hs _ _ D.i2z x.i2, x.l1.extBut hs D.l1z, x.l2.extBut hs D.l2z⟩
theorem ZT.set1 {h h' : Heap} {f0 : Value} {k1 k2 j : Nat} (D : ZipApart z TI TO i1 i2 l1 l2) (x : ZT h z TI TO i1 i2 f0 l1 l2 k1 k2 xs ys) (hz : h'.get? i1 = some (zIt l1 j)) (hs : Heap.ExtBut i1 h h') : ZT h' z TI TO i1 i2 f0 l1 l2 j k2 xs ys :=
  let ⟨a, b, c⟩ := x.to'
  ⟨hs _ _ D.i1z.symm x.z, hs _ _ D.TIi1 x.ti, ⟨a, b, hs _ _ D.TOi1 c⟩, hz, hs _ _ D.i12.symm x.i2, x.l1.extBut hs D.l1i1, x.l2.extBut hs D.l2i1⟩
theorem ZT.set2 {h h' : Heap} {f0 : Value} {k1 k2 j : Nat} (D : ZipApart z TI TO i1 i2 l1 l2) (x : ZT h z TI TO i1 i2 f0 l1 l2 k1 k2 xs ys) (hz : h'.get? i2 = some (zIt l2 j)) (hs : Heap.ExtBut i2 h h') : ZT h' z TI TO i1 i2 f0 l1 l2 k1 j xs ys :=
  let ⟨a, b, c⟩ := x.to'
  ⟨hs _ _ D.i2z.symm x.z, hs _ _ D.TIi2 x.ti, ⟨a, b, hs _ _ D.TOi2 c⟩, hs _ _ D.i12 x.i1, hz, x.l1.extBut hs D.l1i2, x.l2.extBut hs D.l2i2⟩
theorem ZT.setO {h h' : Heap} {f0 : Value} {k1 k2 : Nat} {a b : Value} (D : ZipApart z TI TO i1 i2 l1 l2) (x : ZT h z TI TO i1 i2 f0 l1 l2 k1 k2 xs ys) (hz : IsPair h' TO a b) (hs : Heap.ExtBut TO h h') : ZT h' z TI TO i1 i2 f0 l1 l2 k1 k2 xs ys :=
  ⟨hs _ _ D.TOz.symm x.z, hs _ _ D.TITO x.ti, ⟨a, b, hz⟩, hs _ _ D.TOi1.symm x.i1, hs _ _ D.TOi2.symm x.i2, x.l1.extBut hs D.l1TO, x.l2.extBut hs D.l2TO⟩
theorem zt_item {k1 k2 : Nat} {x y : Value} {Q : Value → Shared → Prop} (D : ZipApart z TI TO i1 i2 l1 l2) (Z : ZT s.heap z TI TO i1 i2 .none l1 l2 k1 k2 xs ys) (hx : xs[k1]? = some x) (hy : ys[k2]? = some y)
    (hQ : ∀ h', ZT h' z TI TO i1 i2 (rawInt s.heap.objs.size) l1 l2 (k1 + 1) (k2 + 1) xs ys → IsPair h' s.heap.objs.size x y → (∀ c o, c ≠ z → c ≠ TO → c ≠ i1 → c ≠ i2 → s.heap.get? c = some o → h'.get? c = some o) → Q (.ref s.heap.objs.size) { s with heap := h' }) :
    wpAny (model prog w) A (Builtin.«zip.__next__» ⟨[.ref z], []⟩) (fun fin s' => ∃ v, fin = .done (.ret v) ∧ Q v s') E s := by
  have hz := Z.z
  show wpAny _ _ (field (.ref z) 2 >>= _) _ _ _
  refine wpAny_bind (wpAny_field hz rfl (x := .bool false) rfl ?_)
  show wpAny _ _ (field (.ref z) 3 >>= _) _ _ _
  refine wpAny_bind (wpAny_field hz rfl (x := .ref TI) rfl ?_)
  refine wpAny_bind (wpAny_seqItems Z.ti rfl ?_)
  show wpAny _ _ (Builtin.SmallTypes.ownedTupleIsFree (.ref z) >>= _) _ _ _
  refine wpAny_bind ?_
  unfold Builtin.SmallTypes.ownedTupleIsFree
  refine wpAny_bind (wpAny_field hz rfl (x := .none) rfl (wpAny_pure ?_))
  simp only [if_true]
  refine wpAny_bind (wpAny_rule ?_)
  refine wpAny_bind (wpAny_field hz rfl (x := .ref TO) rfl ?_)
  refine wpAny_bind (wpAny_setField_rec hz (by simp) fun h₁ hz₁ hs₁ => ?_)
  have Z₁ : ZT h₁ z TI TO i1 i2 .ellipsis l1 l2 k1 k2 xs ys := Z.setz D hz₁ hs₁.extBut
  refine wpAny_bind ?_
  simp only [List.zipIdx_cons, List.zipIdx_nil, List.forIn_cons, List.forIn_nil]
  refine wpAny_bind (wpAny_bind (wpAny_onRaise ?_))
  show wpAny _ _ (Builtin.SmallTypes.nextOf (.ref i1) >>= _) _ _ _
  refine wpAny_bind (z_drawn Z₁.i1 Z₁.l1 hx fun h₂ h1₂ hs₂ => wpAny_pure ?_)
  have Z₂ := Z₁.set1 D h1₂ hs₂.extBut
  obtain ⟨a, b, hTO₂⟩ := Z₂.to'
  refine wpAny_bind (wpAny_seqItems hTO₂ rfl ?_)
  refine wpAny_bind (wpAny_updateSeq_pair hTO₂ fun h₃ hTO₃ hs₃ => ?_)
  replace hTO₃ : IsPair h₃ TO x b := hTO₃
  have Z₃ := Z₂.setO D hTO₃ hs₃.extBut
  refine wpAny_bind (wpAny_letGo (wpAny_pure ?_))
  refine wpAny_bind (wpAny_bind (wpAny_onRaise ?_))
  show wpAny _ _ (Builtin.SmallTypes.nextOf (.ref i2) >>= _) _ _ _
  refine wpAny_bind (z_drawn Z₃.i2 Z₃.l2 hy fun h₄ h2₄ hs₄ => wpAny_pure ?_)
  have Z₄ := Z₃.set2 D h2₄ hs₄.extBut
  have hTO₄ : IsPair h₄ TO x b := hs₄.extBut _ _ D.TOi2 hTO₃
  refine wpAny_bind (wpAny_seqItems hTO₄ rfl ?_)
  refine wpAny_bind (wpAny_updateSeq_pair hTO₄ fun h₅ hTO₅ hs₅ => ?_)
  replace hTO₅ : IsPair h₅ TO x y := hTO₅
  have Z₅ := Z₄.setO D hTO₅ hs₅.extBut
  refine wpAny_bind (wpAny_letGo (wpAny_pure (wpAny_pure ?_)))
  refine wpAny_bind (wpAny_seqItems hTO₅ rfl ?_)
  refine wpAny_bind (wpAny_newTuple ?_)
  have hsz : h₅.objs.size = s.heap.objs.size := by rw [hs₅.1, hs₄.1, hs₃.1, hs₂.1, hs₁.1]
  have hk₅ : ∀ c o, c ≠ z → c ≠ TO → c ≠ i1 → c ≠ i2 → s.heap.get? c = some o → h₅.get? c = some o := fun c o c1 c2 c3 c4 e =>
    hs₅.extBut _ _ c2 (hs₄.extBut _ _ c4 (hs₃.extBut _ _ c2 (hs₂.extBut _ _ c3 (hs₁.extBut _ _ c1 e))))
  have hzlt : z < h₅.objs.size := Heap.lt_size Z₅.z
  show wpAny _ _ (Builtin.SmallTypes.ownedTupleHandOut (.ref z) (.ref h₅.objs.size) >>= _) _ _ _
  refine wpAny_bind ?_
  unfold Builtin.SmallTypes.ownedTupleHandOut
  have Z₆ : ZT (h₅.push { cls := .type "tuple", data := .seq #[x, y] }) z TI TO i1 i2 .ellipsis l1 l2 (k1 + 1) (k2 + 1) xs ys := Z₅.at fun b o _ e => Heap.get?_push_of_some _ e
  refine wpAny_bind (wpAny_setField_rec Z₆.z (by simp) fun h₇ hz₇ hs₇ => ?_)
  replace hz₇ : IsZip h₇ z TI TO (rawInt h₅.objs.size) := hz₇
  have Z₇ := Z₆.setz D hz₇ hs₇.extBut
  refine wpAny_setField_rec hz₇ (by simp) fun h₈ hz₈ hs₈ => ?_
  replace hz₈ : IsZip h₈ z TI TO (rawInt h₅.objs.size) := hz₈
  have Z₈ := Z₇.setz D hz₈ hs₈.extBut
  have up : ∀ c o, c ≠ z → h₅.get? c = some o → h₈.get? c = some o := fun c o c1 e => hs₈.extBut _ _ c1 (hs₇.extBut _ _ c1 (Heap.get?_push_of_some _ e))
  have hT₈ : IsPair h₈ h₅.objs.size x y := hs₈.extBut _ _ (Nat.ne_of_gt hzlt) (hs₇.extBut _ _ (Nat.ne_of_gt hzlt) (Heap.get?_push_size _ rfl))
  rw [hsz] at Z₈ hT₈
  refine wpAny_pure ⟨_, rfl, ?_⟩
  show Q (.ref h₅.objs.size) _
  rw [hsz]
  exact hQ h₈ Z₈ hT₈ fun c o c1 c2 c3 c4 e => up c o c1 (hk₅ c o c1 c2 c3 c4 e)
theorem zt_end {k1 k2 : Nat} {Q : Fin → Shared → Prop} (hh : A.handled = none) (D : ZipApart z TI TO i1 i2 l1 l2) (Z : ZT s.heap z TI TO i1 i2 .none l1 l2 k1 k2 xs ys) (hend : xs[k1]? = none ∨ ys[k2]? = none)
    (hE : ∀ h' e, (∀ c o, c ≠ z → c ≠ TO → c ≠ i1 → c ≠ i2 → s.heap.get? c = some o → h'.get? c = some o) → (∃ o, h'.get? e = some o ∧ o.cls = .type "StopIteration") → E (.ref e) { s with heap := h' }) :
    wpAny (model prog w) A (Builtin.«zip.__next__» ⟨[.ref z], []⟩) Q E s := by
  have hz := Z.z
  show wpAny _ _ (field (.ref z) 2 >>= _) _ _ _
  refine wpAny_bind (wpAny_field hz rfl (x := .bool false) rfl ?_)
  show wpAny _ _ (field (.ref z) 3 >>= _) _ _ _
  refine wpAny_bind (wpAny_field hz rfl (x := .ref TI) rfl ?_)
  refine wpAny_bind (wpAny_seqItems Z.ti rfl ?_)
  show wpAny _ _ (Builtin.SmallTypes.ownedTupleIsFree (.ref z) >>= _) _ _ _
  refine wpAny_bind ?_
  unfold Builtin.SmallTypes.ownedTupleIsFree
  refine wpAny_bind (wpAny_field hz rfl (x := .none) rfl (wpAny_pure ?_))
  simp only [if_true]
  refine wpAny_bind (wpAny_rule ?_)
  refine wpAny_bind (wpAny_field hz rfl (x := .ref TO) rfl ?_)
  refine wpAny_bind (wpAny_setField_rec hz (by simp) fun h₁ hz₁ hs₁ => ?_)
  have Z₁ : ZT h₁ z TI TO i1 i2 .ellipsis l1 l2 k1 k2 xs ys := Z.setz D hz₁ hs₁.extBut
  refine wpAny_bind ?_
  simp only [List.zipIdx_cons, List.zipIdx_nil, List.forIn_cons, List.forIn_nil]
  refine wpAny_bind (wpAny_bind (wpAny_onRaise ?_))
  show wpAny _ _ (Builtin.SmallTypes.nextOf (.ref i1) >>= _) _ _ _
  cases hx : xs[k1]? with
  | none =>
    refine wpAny_bind (z_ended hh Z₁.i1 Z₁.l1 hx fun h₂ e hs₂ he => ?_)
    obtain ⟨oe, hoe, hce⟩ := he
    have hz₂ : IsZip h₂ z TI TO .ellipsis := hs₂ _ _ D.i1z.symm Z₁.z
    have hez : e ≠ z := fun x => by subst x; rw [hz₂] at hoe; cases hoe; simp at hce
    refine wpAny_setField_rec hz₂ (by simp) fun h₃ _ hs₃ => hE h₃ e (fun c o c1 _ c3 _ x => hs₃.extBut _ _ c1 (hs₂ _ _ c3 (hs₁.extBut _ _ c1 x))) ⟨oe, hs₃.extBut _ _ hez hoe, hce⟩
  | some x =>
    have hy : ys[k2]? = none := by rcases hend with h | h; rw [hx] at h; cases h; exact h
    refine wpAny_bind (z_drawn Z₁.i1 Z₁.l1 hx fun h₂ h1₂ hs₂ => wpAny_pure ?_)
    have Z₂ := Z₁.set1 D h1₂ hs₂.extBut
    obtain ⟨a, b, hTO₂⟩ := Z₂.to'
    refine wpAny_bind (wpAny_seqItems hTO₂ rfl ?_)
    refine wpAny_bind (wpAny_updateSeq_pair hTO₂ fun h₃ hTO₃ hs₃ => ?_)
    replace hTO₃ : IsPair h₃ TO x b := hTO₃
    have Z₃ := Z₂.setO D hTO₃ hs₃.extBut
    refine wpAny_bind (wpAny_letGo (wpAny_pure ?_))
    refine wpAny_bind (wpAny_bind (wpAny_onRaise ?_))
    show wpAny _ _ (Builtin.SmallTypes.nextOf (.ref i2) >>= _) _ _ _
    refine wpAny_bind (z_ended hh Z₃.i2 Z₃.l2 hy fun h₄ e hs₄ he => ?_)
    obtain ⟨oe, hoe, hce⟩ := he
    have hz₄ : IsZip h₄ z TI TO .ellipsis := hs₄ _ _ D.i2z.symm Z₃.z
    have hez : e ≠ z := fun x => by subst x; rw [hz₄] at hoe; cases hoe; simp at hce
    refine wpAny_setField_rec hz₄ (by simp) fun h₅ _ hs₅ => hE h₅ e (fun c o c1 c2 c3 c4 x => hs₅.extBut _ _ c1 (hs₄ _ _ c4 (hs₃.extBut _ _ c2 (hs₂.extBut _ _ c3 (hs₁.extBut _ _ c1 x))))) ⟨oe, hs₅.extBut _ _ hez hoe, hce⟩
theorem zt_walks (hh : A.handled = none) (D : ZipApart z TI TO i1 i2 l1 l2) :
    WalksT prog w A z [z, TI, TO, i1, i2, l1, l2] [z, TO, i1, i2] (min xs.size ys.size) (fun i vals => ∃ x y, vals = #[x, y] ∧ xs[i]? = some x ∧ ys[i]? = some y)
      (fun i h => ZT h z TI TO i1 i2 .none l1 l2 i i xs ys) (fun i T h => ZT h z TI TO i1 i2 (rawInt T) l1 l2 (i + 1) (i + 1) xs ys ∧ T ≠ z ∧ T ≠ TO ∧ T ≠ i1 ∧ T ≠ i2) where
  sub := fun c hc => by simp at hc ⊢; rcases hc with rfl | rfl | rfl | rfl <;> simp
  frame := fun i h h' Z hk => Z.at fun b o hb e => hk b (by simp; exact hb) o e
  item := fun i s Q E hi Z hQ => by
    have hT : s.TypeIs (.ref z) "zip" := ⟨_, Z.z, rfl⟩
    have hix : i < xs.size := Nat.lt_of_lt_of_le hi (Nat.min_le_left ..)
    have hiy : i < ys.size := Nat.lt_of_lt_of_le hi (Nat.min_le_right ..)
    unfold pyNext
    refine wpAny_bind (wpAny_attempt (wpAny_callSpecial?_slot (name := Str.ofString "__next__") hT F.slot_zip_next (wpAny_call_entry F.slot_zip_next hT F.entry_zip_next
      (zt_item D Z (Array.getElem?_eq_getElem hix) (Array.getElem?_eq_getElem hiy) fun h' Z' hT' hk => wpAny_pure ?_) (F.args_zip_next_1 _))))
    obtain ⟨a, b, hTO⟩ := Z.to'
    have lt : ∀ {c o}, s.heap.get? c = some o → s.heap.objs.size ≠ c := fun e => Nat.ne_of_gt (Heap.lt_size e)
    exact hQ s.heap.objs.size #[xs[i], ys[i]] h' s.toks ⟨_, _, rfl, Array.getElem?_eq_getElem hix, Array.getElem?_eq_getElem hiy⟩ (Nat.le_refl _) ⟨_, hT', rfl, _, rfl⟩ ⟨Z', lt Z.z, lt hTO, lt Z.i1, lt Z.i2⟩
      fun c o hc e => hk c o (fun x => hc (by simp [x])) (fun x => hc (by simp [x])) (fun x => hc (by simp [x])) (fun x => hc (by simp [x])) e
  go := fun elts k pos i T s Q E hm hQ => wpAny_letOwnedTupleGo_zip hm.1.z fun h' hz' hs' => hQ h' (hm.1.setz D hz' hs'.extBut) fun c o hc e => hs'.extBut _ _ (fun x => hc (by simp [x])) e
  apart := fun i T h hm hT => by
    obtain ⟨_, t1, t2, t3, t4⟩ := hm
    simp at hT
    rcases hT with rfl | rfl | rfl | rfl
    · exact t1 rfl
    · exact t2 rfl
    · exact t3 rfl
    · exact t4 rfl
  done := fun s Q E Z hQ => by
    have hT : s.TypeIs (.ref z) "zip" := ⟨_, Z.z, rfl⟩
    have hend : xs[min xs.size ys.size]? = none ∨ ys[min xs.size ys.size]? = none := by
      rcases Nat.le_total xs.size ys.size with h | h
      · exact .inl (by rw [Nat.min_eq_left h]; exact Array.getElem?_eq_none (Nat.le_refl _))
      · exact .inr (by rw [Nat.min_eq_right h]; exact Array.getElem?_eq_none (Nat.le_refl _))
    unfold pyNext
    refine wpAny_bind (wpAny_attempt (wpAny_callSpecial?_slot (name := Str.ofString "__next__") hT F.slot_zip_next (wpAny_call_entry F.slot_zip_next hT F.entry_zip_next (zt_end hh D Z hend fun h' e hk he => ?_) (F.args_zip_next_1 _))))
    obtain ⟨o, ho, hc⟩ := he
    refine wpAny_bind (wpAny_isInstance (T := "StopIteration") (b := true) ⟨o, ho, hc⟩ isSubtype_stop ?_)
    exact wpAny_pure (hQ h' s.toks fun c o hc e => hk c o (fun x => hc (by simp [x])) (fun x => hc (by simp [x])) (fun x => hc (by simp [x])) (fun x => hc (by simp [x])) e)
  self := fun i s Q E Z hQ => wpAny_pyIter_zip Z.z hQ
end
noncomputable def ztH (h : Heap) (l1 l2 : Addr) : Heap := ((((h.push (zIt l1 0)).push (zIt l2 0)).push { cls := .type "tuple", data := .seq #[.ref h.objs.size, .ref (h.objs.size + 1)] }).push { cls := .type "tuple", data := .seq #[.none, .none] }).push { cls := .type "zip", data := .fields #[.none, .bool false, .bool false, .ref (h.objs.size + 2), .ref (h.objs.size + 3)] }
theorem zt_new (l1 l2 : Addr) (xs ys : Array Value) :
    Meets (Builtin.«zip.__new__» ⟨[.type "zip", .ref l1, .ref l2], []⟩) (fun _ R s => s.heap.IsTuple l1 xs ∧ s.heap.IsTuple l2 ys ∧ R (.ok (.ret (.ref (s.heap.objs.size + 4)))) { s with heap := ztH s.heap l1 l2 }) :=
  .of_wp fun prog w A R s h => by
    obtain ⟨hp, g, d, tk, os⟩ := s; obtain ⟨hl1, hl2, h⟩ := h
    have hsub := sub_zip
    have hL1 : Heap.IsTuple (Shared.heap ⟨hp, g, d, tk, os⟩) l1 xs := hl1
    have hL2 : Heap.IsTuple (Shared.heap ⟨hp.push { cls := .type "tuple_iterator", data := .fields #[.ref l1, .int 0 0] }, g, d, tk, os⟩) l2 ys := Heap.IsTuple.push hl2 _
    wp_walk using wpAny_pyIter_tuple hL1, wpAny_pyIter_tuple hL2
    refine ⟨_, rfl, ?_⟩
    simp only [ztH, zIt, Heap.size_push] at h ⊢
    exact h
end
section
open PySem PySem.W PyProof.Rows PySem.Calls PySem.MeetsSeq PySem.SeqAt PyProof.V PySem.Spec
section
variable {prog : Program} {w : World} {A : Around} {E : Value → Shared → Prop} {s : Shared} {h₀ : Heap} {L : Addr} {m : Str → Option Value} {env : Env}
noncomputable def PairGo (prog : Program) (w : World) (A : Around) (h₀ : Heap) (L : Addr) (m : Str → Option Value) (env : Env) (elt : Expr) (a b : Str) (scope : Scope) (cl : List (Str × Addr)) (Fin : Shared → List Value → Led → Prop) (it : Value) (s₂ : Shared) : Prop :=
  ∃ (I : Addr) (fp wr : List Addr) (n : Nat) (Pt : Nat → Array Value → Prop) (St : Nat → Heap → Prop) (Mid : Nat → Addr → Heap → Prop) (P : Nat → Value → Value → Prop) (news : Led) (J : Nat → List Value → Prop), it = .ref I ∧ A.handled = none ∧ WalksT prog w A I fp wr n Pt St Mid ∧
    (∀ i vals, Pt i vals → ∃ x y, vals = #[x, y] ∧ P i x y) ∧ n ≤ sizeLine ∧ St 0 s₂.heap ∧ (∀ b ∈ fp, b < s₂.heap.objs.size ∧ b ≠ L ∧ h₀.get? b = none) ∧ (∀ p ∈ news, p.1 ∉ wr) ∧ Fr h₀ L s₂.heap m ∧ News h₀ L s₂.heap news ∧ J 0 [] ∧
    PairTurn prog w A h₀ L m env elt a b scope cl s₂ P J n news ∧ (∀ ys, J n ys → Fin s₂ ys news)
theorem comp_P {elt iter : Expr} {a b : Str} {pa pb tp : Pos} {kk : Nat} {scope : Scope} {cl : List (Str × Addr)} {pos : Pos} {Q : Value → Shared → Prop} (_F₀ : Fr h₀ L s.heap m)
    (hclos : closureFor scope env = pure cl) (hcell : ∀ y ∈ scope.names, y.2 ≠ .cell) (hkind : scope.kind = .function)
    (hnames : ∀ y ∈ scope.names, y.2 = .local → scope.names.lookup y.1 = some .local) (hxa : scope.names.lookup a = some .local) (hxb : scope.names.lookup b = some .local) (hab : ¬ a = b)
    (h : wpAny (model prog w) A (eval iter env) (fun xv s₁ => wpAny (model prog w) A (pyIter xv) (PairGo prog w A h₀ L m env elt a b scope cl (fun s₂ => LCg.FinE h₀ L m s₂ Q)) E s₁) E s)
    (hs : ∀ x, foldedSetIterable iter env x = pure x := by intro _; rfl) :
    wpAny (model prog w) A (eval (.ListComp elt [⟨.Tuple [.Name a pa, .Name b pb] kk tp, iter, [], 0⟩] scope pos) env) Q E s := by
  rw [eval_ListComp]
  refine wpAny_comprehension_free (use := none) rfl hs hclos hkind hnames (wpAny_mono h (fun xv s₁ h₁ => wpAny_mono h₁ (fun it s₂ h₂ => ?_) fun _ _ e => e) fun _ _ e => e)
  obtain ⟨I, fp, wr, n, Pt, St, Mid, P, news, J, rfl, hh, W, hPt, hsz, hst, hfp, hoff, F, N, h0, turn, fin⟩ := h₂
  refine pc_block hh W hPt hsz hst hfp hoff hcell hkind hxa hxb hab F N J h0 turn fin ?_
  intro D C h tk m' ys F' N' o1 hn hC₀ hD₀ hCL hDL hCD offC fin
  refine ⟨m', hn, fun h'' hs'' => fin D h'' tk (F'.change hs'' hCL hC₀) (fun p hp => ?_) o1⟩
  refine ⟨hs''.extBut _ _ ?_ (N' p hp).1, (N' p hp).2⟩
  rcases List.mem_cons.mp hp with rfl | hp
  · exact Ne.symm hCD
  · exact offC p hp
theorem ztH_keeps (h : Heap) (l1 l2 : Addr) : ∀ c o, h.get? c = some o → (ztH h l1 l2).get? c = some o := fun c o x =>
  Heap.get?_push_of_some _ (Heap.get?_push_of_some _ (Heap.get?_push_of_some _ (Heap.get?_push_of_some _ (Heap.get?_push_of_some _ x))))
theorem ztH_size (h : Heap) (l1 l2 : Addr) : (ztH h l1 l2).objs.size = h.objs.size + 5 := by simp only [ztH, Heap.size_push]
theorem ztH_ZT {h : Heap} {l1 l2 : Addr} {xs ys : Array Value} (hl1 : h.IsTuple l1 xs) (hl2 : h.IsTuple l2 ys) : ZT (ztH h l1 l2) (h.objs.size + 4) (h.objs.size + 2) (h.objs.size + 3) h.objs.size (h.objs.size + 1) .none l1 l2 0 0 xs ys := by
  have k := ztH_keeps h l1 l2
  obtain ⟨o1, e1, r1⟩ := hl1
  obtain ⟨o2, e2, r2⟩ := hl2
  refine ⟨?_, ?_, ⟨.none, .none, ?_⟩, ?_, ?_, ⟨o1, k _ _ e1, r1⟩, ⟨o2, k _ _ e2, r2⟩⟩
  · have := Heap.get?_push_size ((((h.push (zIt l1 0)).push (zIt l2 0)).push { cls := .type "tuple", data := .seq #[.ref h.objs.size, .ref (h.objs.size + 1)] }).push { cls := .type "tuple", data := .seq #[.none, .none] }) (o := { cls := .type "zip", data := .fields #[.none, .bool false, .bool false, .ref (h.objs.size + 2), .ref (h.objs.size + 3)] }) rfl
    (simp only [Heap.size_push] at this; exact this)
  · have := Heap.get?_push_of_some { cls := .type "zip", data := .fields #[.none, .bool false, .bool false, .ref (h.objs.size + 2), .ref (h.objs.size + 3)] } (Heap.get?_push_of_some { cls := .type "tuple", data := .seq #[.none, .none] } (Heap.get?_push_size ((h.push (zIt l1 0)).push (zIt l2 0)) (o := { cls := .type "tuple", data := .seq #[.ref h.objs.size, .ref (h.objs.size + 1)] }) rfl))
    (simp only [Heap.size_push] at this; exact this)
  · have := Heap.get?_push_of_some { cls := .type "zip", data := .fields #[.none, .bool false, .bool false, .ref (h.objs.size + 2), .ref (h.objs.size + 3)] } (Heap.get?_push_size (((h.push (zIt l1 0)).push (zIt l2 0)).push { cls := .type "tuple", data := .seq #[.ref h.objs.size, .ref (h.objs.size + 1)] }) (o := { cls := .type "tuple", data := .seq #[.none, .none] }) rfl)
    (simp only [Heap.size_push] at this; exact this)
  · exact Heap.get?_push_of_some _ (Heap.get?_push_of_some _ (Heap.get?_push_of_some _ (Heap.get?_push_of_some _ (Heap.get?_push_size _ rfl))))
  · have := Heap.get?_push_of_some { cls := .type "zip", data := .fields #[.none, .bool false, .bool false, .ref (h.objs.size + 2), .ref (h.objs.size + 3)] } (Heap.get?_push_of_some { cls := .type "tuple", data := .seq #[.none, .none] } (Heap.get?_push_of_some { cls := .type "tuple", data := .seq #[.ref h.objs.size, .ref (h.objs.size + 1)] } (Heap.get?_push_size (h.push (zIt l1 0)) (o := zIt l2 0) rfl)))
    (simp only [Heap.size_push] at this; exact this)
theorem zip_go {l1 l2 : Addr} {v1 v2 : List Value} {n1 n2 : Nat} {elt : Expr} {a b : Str} {scope : Scope} {cl : List (Str × Addr)} {Fin : Shared → List Value → Led → Prop} {news : Led} {E' : Value → Shared → Prop} (hh : A.handled = none) (F : Fr h₀ L s.heap m) (N : News h₀ L s.heap news)
    (m1 : (l1, tupOf v1 n1) ∈ news) (m2 : (l2, tupOf v2 n2) ∈ news) (hsz : v1.length ≤ sizeLine)
    (R : ∀ g, ∃ J : Nat → List Value → Prop, J 0 [] ∧ PairTurn prog w A h₀ L m env elt a b scope cl { s with heap := g } (fun i x y => v1[i]? = some x ∧ v2[i]? = some y) J (min v1.length v2.length) news ∧ (∀ ys, J (min v1.length v2.length) ys → Fin { s with heap := g } ys news)) :
    wpAny (model prog w) A (call (.type "zip") [.ref l1, .ref l2]) (fun xv s₁ => wpAny (model prog w) A (pyIter xv) (PairGo prog w A h₀ L m env elt a b scope cl Fin) E' s₁) E s := by
  have t1 : s.heap.IsTuple l1 v1.toArray := ⟨_, (N _ m1).1, rfl, n1, rfl⟩
  have t2 : s.heap.IsTuple l2 v2.toArray := ⟨_, (N _ m2).1, rfl, n2, rfl⟩
  have a1 : l1 < s.heap.objs.size := Heap.lt_size (N _ m1).1
  have a2 : l2 < s.heap.objs.size := Heap.lt_size (N _ m2).1
  refine callType_new PySem.F.called_zip (by decide) (PySem.F.typeCall_zip_2 _ _) (PySem.F.newCall_zip_2 _ _) (fun obj => PySem.F.args_object_init_3 obj _ _) PySem.F.entry_zip_new (zt_new l1 l2 v1.toArray v2.toArray) ⟨t1, t2, ?_⟩
  have Z := ztH_ZT t1 t2
  show _ ∧ _
  refine ⟨⟨_, Z.z, rfl⟩, wpAny_pyIter_zip Z.z ?_⟩
  obtain ⟨J, h0, turn, fin⟩ := R (ztH s.heap l1 l2)
  have fr : ∀ c, s.heap.objs.size ≤ c → h₀.get? c = none := fun a ha => by
    cases e : h₀.get? a with
    | none => rfl
    | some o' => exact absurd (Heap.lt_size (F.keep a o' e)) (Nat.not_lt.mpr ha)
  have hL := F.ns.lt
  have hD : ZipApart (s.heap.objs.size + 4) (s.heap.objs.size + 2) (s.heap.objs.size + 3) s.heap.objs.size (s.heap.objs.size + 1) l1 l2 := by
    constructor <;> simp only [Addr] at * <;> omega
  refine ⟨_, _, _, min v1.length v2.length, _, _, _, _, news, J, rfl, hh, by simpa using zt_walks (prog := prog) (w := w) (xs := v1.toArray) (ys := v2.toArray) hh hD, ?_, Nat.le_trans (Nat.min_le_left ..) hsz, Z, ?_, ?_, F.keeps (ztH_keeps _ _ _), fun p hp => ⟨ztH_keeps _ _ _ _ _ (N p hp).1, (N p hp).2⟩, h0, turn, fin⟩
  · rintro i vals ⟨x, y, rfl, hx, hy⟩
    exact ⟨x, y, rfl, by simpa using hx, by simpa using hy⟩
  · intro b hb
    rw [show ({ s with heap := ztH s.heap l1 l2 } : Shared).heap.objs.size = s.heap.objs.size + 5 from ztH_size _ _ _]
    simp only [List.mem_cons, List.not_mem_nil, or_false] at hb
    rcases hb with rfl | rfl | rfl | rfl | rfl | rfl | rfl
    · exact ⟨by simp only [Addr] at *; omega, by simp only [Addr] at *; omega, fr _ (by omega)⟩
    · exact ⟨by simp only [Addr] at *; omega, by simp only [Addr] at *; omega, fr _ (by omega)⟩
    · exact ⟨by simp only [Addr] at *; omega, by simp only [Addr] at *; omega, fr _ (by omega)⟩
    · exact ⟨by simp only [Addr] at *; omega, by simp only [Addr] at *; omega, fr _ (by omega)⟩
    · exact ⟨by simp only [Addr] at *; omega, by simp only [Addr] at *; omega, fr _ (by omega)⟩
    · exact ⟨by simp only [Addr] at *; omega, (N _ m1).2⟩
    · exact ⟨by simp only [Addr] at *; omega, (N _ m2).2⟩
  · intro p hp hw
    have := Heap.lt_size (N p hp).1
    simp only [List.mem_cons, List.not_mem_nil, or_false] at hw
    simp only [Addr] at *
    omega
end
end
section
open PySem PySem.W PyProof.Rows PySem.Calls
noncomputable def isPart (k v : D) : Bool :=
  if k.isS (Str.ofString "recipe") then isRecipe v
  else if k.isS (Str.ofString "recipes") then isRecipes v
  else if k.isS (Str.ofString "seen") then isSeen v
  else if k.isS (Str.ofString "octets") then v.kind == "bytes"
  else if k.isS (Str.ofString "truth") then v.kind == "bool"
  else v.isNum
noncomputable def isRow : D → Bool
  | .tup (.str x :: r) =>
    match shapesL.lookup x with
    | some ks => decide (r.length = ks.length) && (ks.zip r).all fun p => isPart (.str p.1) p.2
    | none => false
  | _ => false
end
section
open PySem PySem.W PyProof.Rows PySem.Calls PySem.MeetsSeq PySem.SeqAt PyProof.V PySem.Spec
theorem range_pick : ∀ ws : List Value, (List.range ws.length).filterMap (fun k => ws[k]?) = ws := by
  intro ws
  induction ws with
  | nil => rfl
  | cons a r ih =>
    rw [List.length_cons, List.range_succ_eq_map, List.filterMap_cons, List.filterMap_map]
    show a :: List.filterMap (fun k => r[k]?) (List.range r.length) = a :: r
    rw [ih]
theorem tup_from1 (l a : Addr) (v : Value) (vs : List Value) (n : Nat) (u : Tok) :
    Meets (Builtin.«tuple.__getitem__» ⟨[.ref l, .ref a], []⟩) (fun _ R s => s.heap.get? l = some (tupOf (v :: vs) n) ∧ s.heap.IsSliceOf a (.int 1 u) .none .none ∧ vs.length ≤ 1000000 ∧
      R (.ok (.ret (.ref s.heap.objs.size))) { s with heap := s.heap.push { cls := .type "tuple", data := .seq vs.toArray } }) :=
  .of_wp fun prog w A R s h => by
    obtain ⟨hp, g, d, tk, os⟩ := s; obtain ⟨hl, ⟨o, ho, hc, hd⟩, hsz, h⟩ := h
    have hT : Shared.TypeIs ⟨hp, g, d, tk, os⟩ (.ref a) "slice" := ⟨o, ho, hc⟩
    have f1 := AutoSeq1.idx_int
    unfold Builtin.«tuple.__getitem__»
    wp_walk using wpAny_loadPart' hl, wpAny_field ho hd rfl, wpAny_typeOf hT
    have e1 : Builtin.Slice.sliceAdjust (some 1) none ((none : Option Int).getD 1) ((v :: vs).toArray.size : Int) = (1, (vs.length : Int) + 1) := by
      simp [Builtin.Slice.sliceAdjust]; omega
    have e2 : Builtin.Slice.slicePlaces 1 ((vs.length : Int) + 1) ((none : Option Int).getD 1) = vs.length := by
      simp [Builtin.Slice.slicePlaces]; omega
    have e3 : (List.filterMap (fun (k : Nat) => (v :: vs).toArray[((1 : Int) + (k : Int) * (none : Option Int).getD 1).toNat]?) (List.range vs.length)) = vs := by
      apply List.ext_getElem?
      intro i
      have : ∀ k : Nat, (v :: vs).toArray[((1 : Int) + (k : Int) * (none : Option Int).getD 1).toNat]? = vs[k]? := by
        intro k
        have : ((1 : Int) + (k : Int) * (none : Option Int).getD 1).toNat = k + 1 := by simp; omega
        rw [this]; simp
      simp only [this]
      rw [range_pick]
    rw [e1]
    dsimp only
    rw [e2, e3]
    refine wpAny_ite_false (by simp) ?_
    unfold Builtin.Tuple.tupleExact
    refine wpAny_bind (wpAny_newObj_type (wpAny_pure ⟨_, rfl, h⟩) ?_)
    show vs.toArray.size ≤ sizeLine
    rw [List.size_toArray, sizeLine_eq]; omega
section
variable {w : World} {A : Around} {E : Value → Shared → Prop} {s : Shared} {h₀ : Heap} {L : Addr} {m : Str → Option Value} {led led' : Led} {prog : Program}
theorem slice_from1 {value slice : Expr} {l : Addr} {v : Value} {vs : List Value} {n : Nat} {u : Tok} {Q : Value → Shared → Prop} (F : Fr h₀ L s.heap m) (N : News h₀ L s.heap led) (hm : (l, tupOf (v :: vs) n) ∈ led) (hsz : vs.length ≤ 1000000)
    (q : ∀ b h', Fr h₀ L h' m → News h₀ L h' ((b, tupOf vs 0) :: led) → (∀ p ∈ led, p.1 < b) → Q (.ref b) { s with heap := h' })
    (hs : subscripted slice false (.ref l) (.ref s.heap.objs.size) = operate [.ref s.heap.objs.size, .ref l] (getItem (.ref l) (.ref s.heap.objs.size)) := by with_unfolding_all rfl)
    (ht : ∀ r, letTemporaryGo value (.ref l) r = pure () := by intro _; with_unfolding_all rfl) :
    wpAny (model prog w) A (subscriptTail value slice (.ref l) (.ref s.heap.objs.size)) Q E { s with heap := s.heap.push { cls := .type "slice", data := .fields #[.int 1 u, .none, .none] } } := by
  have hl : (s.heap.push { cls := .type "slice", data := .fields #[.int 1 u, .none, .none] }).get? l = some (tupOf (v :: vs) n) := Heap.get?_push_of_some _ (N _ hm).1
  have hT : Shared.TypeIs { s with heap := s.heap.push { cls := .type "slice", data := .fields #[.int 1 u, .none, .none] } } (.ref l) "tuple" := ⟨_, hl, rfl⟩
  refine subscriptTail_ops hT slot_tuple_getitem.lookup ?_ hs ht
  refine getItem_meets hT (by decide) slot_tuple_getitem entry_tuple_getitem (args_tuple_getitem _ _) (tup_from1 l _ v vs n u) ⟨hl, Heap.IsSliceOf.new .., hsz, ?_⟩
  have F1 := F.push { cls := .type "slice", data := .fields #[.int 1 u, .none, .none] }
  have N1 : News h₀ L (s.heap.push { cls := .type "slice", data := .fields #[.int 1 u, .none, .none] }) led := News.pushKeep N _
  have N2 := News.push F1 N1 (tupOf vs 0)
  exact q _ _ (F1.push _) N2 fun p hp => Nat.lt_of_lt_of_le (Heap.lt_size (N p hp).1) (by rw [Heap.size_push]; omega)
end
end
section
open PySem PySem.W PyProof.Rows PySem.Calls PySem.MeetsSeq PySem.SeqAt PyProof.V PySem.Spec
theorem valueAt_lookup (kvs : List (Str × Value)) (x : Str) : valueAt kvs x = kvs.lookup x := by
  unfold valueAt
  induction kvs with
  | nil => rfl
  | cons p r ih =>
    obtain ⟨y, v⟩ := p
    rw [List.find?_cons, List.lookup_cons]
    by_cases e : y = x
    · subst e; simp
    · have e2 : (x == y) = false := by rw [beq_eq_false_iff_ne]; exact fun h => e h.symm
      simp only [e2, e, decide_false]
      exact ih
theorem zip_at {as bs : List D} {i : Nat} (h : i < (as.zip bs).length) : (as.zip bs).getD i (.none, .none) = (as.getD i .none, bs.getD i .none) := by
  rw [List.length_zip] at h
  have h1 : i < as.length := by omega
  have h2 : i < bs.length := by omega
  rw [List.getD_eq_getElem?_getD, List.getElem?_eq_getElem (by rw [List.length_zip]; omega), List.getElem_zip]
  simp [h1, h2]
theorem zip_strs (ks : List Str) (dr : List D) : ((ks.map D.str).zip dr).all (fun p => isPart p.1 p.2) = (ks.zip dr).all fun p => isPart (.str p.1) p.2 := by
  rw [List.zip_map_left, List.all_map]; rfl
theorem shapes_len {x : Str} {ks : List Str} (h : shapesL.lookup x = some ks) : (ks.map D.str).length ≤ 3 := by
  have key : ∀ l : List (Str × List Str), (∀ p ∈ l, p.2.length ≤ 3) → l.lookup x = some ks → ks.length ≤ 3 := by
    intro l
    induction l with
    | nil => intro _ h; cases h
    | cons p r ih =>
      intro hl h
      rw [List.lookup_cons] at h
      cases e : x == p.1 with
      | true => rw [e] at h; cases h; exact hl p (.head _)
      | false => rw [e] at h; exact ih (fun q hq => hl q (.tail _ hq)) h
  rw [List.length_map]
  exact key _ (by decide +kernel) h
section
variable {w : World} {A : Around} {E : Value → Shared → Prop} {s : Shared} {h₀ : Heap} {L : Addr} {m : Str → Option Value} {led led' : Led} {a : Addr} {x : Str} {t : Tok}
theorem notIn_shapes {Q : Value → Shared → Prop} (N : News h₀ L s.heap led) (hS : ShapesIn w led a) (q : Q (.bool (!(shapesL.lookup x).isSome)) { s with toks := s.toks + 1 }) :
    wpAny (model PySem.Challenge.rw_nt0496_01.row.prog w) A (compareOp .NotIn (.str x t) (.ref a)) Q E s := by
  obtain ⟨o, kvs, hm, hd, hk, hn⟩ := hS
  refine wpAny_notIn_of (strKind_is _ _ x t) hn (kda_dict N hm hd).mapOf ?_
  rw [valueAt_lookup]
  rcases hk.look x with ⟨e1, e2⟩ | ⟨v, ks, e1, e2, _⟩
  · rw [e2] at q; rw [e1]; exact q
  · rw [e2] at q; rw [e1]; exact q
theorem item_shapes {value slice : Expr} {Q : Value → Shared → Prop} {ks : List Str} (N : News h₀ L s.heap led) (hS : ShapesIn w led a) (hl : shapesL.lookup x = some ks) (q : ∀ v, DIn led v (.tup (ks.map .str)) → Q v { s with toks := s.toks + 1 })
    (hs : subscripted slice false (.ref a) (.str x t) = operate [.ref a, .str x t] (getItem (.ref a) (.str x t)) := by with_unfolding_all rfl) (hg : ∀ r, letTemporaryGo value (.ref a) r = pure () := by intro _; with_unfolding_all rfl) :
    wpAny (model PySem.Challenge.rw_nt0496_01.row.prog w) A (subscriptTail value slice (.ref a) (.str x t)) Q E s := by
  obtain ⟨o, kvs, hm, hd, hk, hn⟩ := hS
  rcases hk.look x with ⟨e1, e2⟩ | ⟨v, ks', e1, e2, hD⟩
  · rw [e2] at hl; cases hl
  · rw [e2] at hl; cases hl
    exact kda_item N hm hd (strKind_is _ _ x t) (by rw [valueAt_lookup]; exact e1) (q v hD) hs hg
end
end
section
open PySem PySem.W PyProof.Rows PySem.Calls PySem.MeetsSeq PySem.SeqAt PyProof.V PySem.Spec
inductive BytesAre : List Value → List (Array UInt8) → Prop
  | nil : BytesAre [] []
  | cons (b : Array UInt8) (t : Tok) {vs : List Value} {bs : List (Array UInt8)} : BytesAre vs bs → BytesAre (.bytes b t :: vs) (b :: bs)
theorem BytesAre.length {vs : List Value} {bs : List (Array UInt8)} (h : BytesAre vs bs) : vs.length = bs.length := by
  induction h with
  | nil => rfl
  | cons b t _ ih => rw [List.length_cons, List.length_cons, ih]
theorem BytesAre.at {vs : List Value} {bs : List (Array UInt8)} (h : BytesAre vs bs) {k : Nat} (hk : k < vs.length) : ∃ b t, vs.toArray.getD k .none = .bytes b t ∧ bs.take (k + 1) = bs.take k ++ [b] := by
  induction h generalizing k with
  | nil => exact absurd hk (Nat.not_lt_zero _)
  | cons b t _ ih =>
    cases k with
    | zero => exact ⟨b, t, by simp, by simp⟩
    | succ k =>
      obtain ⟨b', t', e1, e2⟩ := ih (k := k) (by simpa using hk)
      exact ⟨b', t', by simpa using e1, by simp [e2]⟩
theorem BytesAre.snoc {vs : List Value} {bs : List (Array UInt8)} (h : BytesAre vs bs) (b : Array UInt8) (t : Tok) : BytesAre (vs ++ [.bytes b t]) (bs ++ [b]) := by
  induction h with
  | nil => exact .cons b t .nil
  | cons c u _ ih => exact .cons c u ih
theorem slot_bytes_join : Slot "bytes" "join" "bytes.join" :=
  .of (owner := "bytes") (n := "join") (by rw [typeLookup_type, builtinLookup_eq_fast]; kernel_rfl) (by decide +kernel) (by decide +kernel) (by decide +kernel)
    (by first | exact .inl (by decide +kernel) | exact .inr (by decide +kernel)) (by rw [isSubtype_type]; kernel_rfl)
theorem type_bytes_join : typeOf (.builtin "bytes.join") = pure (.type "method_descriptor") := by show builtinType _ = _; rw [builtinType_eq_fast]; kernel_rfl
theorem entry_bytes_join : entryFor table "bytes.join" = some Builtin.«bytes.join» := entryFor_of_tree (by kernel_rfl)
theorem args_bytes_join_2 (a b : Value) : argsOk "bytes.join" ⟨[a, b], []⟩ := by
  unfold argsOk; rw [signature?_of (id := "bytes.join") (n := ['n', 'i', 'o', 'j']) (o := ['s', 'e', 't', 'y', 'b']) (by kernel_rfl) FB.owner_bytes]; kernel_rfl
theorem slot_bytes_split : Slot "bytes" "split" "bytes.split" :=
  .of (owner := "bytes") (n := "split") (by rw [typeLookup_type, builtinLookup_eq_fast]; kernel_rfl) (by decide +kernel) (by decide +kernel) (by decide +kernel)
    (by first | exact .inl (by decide +kernel) | exact .inr (by decide +kernel)) (by rw [isSubtype_type]; kernel_rfl)
theorem type_bytes_split : typeOf (.builtin "bytes.split") = pure (.type "method_descriptor") := by show builtinType _ = _; rw [builtinType_eq_fast]; kernel_rfl
theorem entry_bytes_split : entryFor table "bytes.split" = some Builtin.«bytes.split» := entryFor_of_tree (by kernel_rfl)
theorem args_bytes_split_2 (a b : Value) : argsOk "bytes.split" ⟨[a, b], []⟩ := by
  unfold argsOk; rw [signature?_of (id := "bytes.split") (n := ['t', 'i', 'l', 'p', 's']) (o := ['s', 'e', 't', 'y', 'b']) (by kernel_rfl) FB.owner_bytes]; kernel_rfl
theorem slot_bytes_count : Slot "bytes" "count" "bytes.count" :=
  .of (owner := "bytes") (n := "count") (by rw [typeLookup_type, builtinLookup_eq_fast]; kernel_rfl) (by decide +kernel) (by decide +kernel) (by decide +kernel)
    (by first | exact .inl (by decide +kernel) | exact .inr (by decide +kernel)) (by rw [isSubtype_type]; kernel_rfl)
theorem type_bytes_count : typeOf (.builtin "bytes.count") = pure (.type "method_descriptor") := by show builtinType _ = _; rw [builtinType_eq_fast]; kernel_rfl
theorem entry_bytes_count : entryFor table "bytes.count" = some Builtin.«bytes.count» := entryFor_of_tree (by kernel_rfl)
theorem args_bytes_count_2 (a b : Value) : argsOk "bytes.count" ⟨[a, b], []⟩ := by
  unfold argsOk; rw [signature?_of (id := "bytes.count") (n := ['t', 'n', 'u', 'o', 'c']) (o := ['s', 'e', 't', 'y', 'b']) (by kernel_rfl) FB.owner_bytes]; kernel_rfl
noncomputable def glue (s : List UInt8) : List (List UInt8) → List UInt8
  | [] => []
  | a :: r => a ++ r.flatMap (s ++ ·)
theorem joined_go (sep : Array UInt8) : ∀ (bs : List (Array UInt8)) (k : Nat) (out : Array UInt8), 0 < k →
    ((bs.zipIdx k).foldl (fun out (p, i) => (if i > 0 then out ++ sep else out) ++ p) out).toList = out.toList ++ (bs.map (·.toList)).flatMap (sep.toList ++ ·) := by
  intro bs
  induction bs with
  | nil => intro k out _; simp
  | cons b r ih =>
    intro k out hk
    rw [List.zipIdx_cons, List.foldl_cons, ih _ _ (Nat.succ_pos _)]
    simp [hk, List.append_assoc]
theorem joined_list (sep : Array UInt8) (bs : List (Array UInt8)) : (Builtin.Bytes.joined sep bs).toList = glue sep.toList (bs.map (·.toList)) := by
  unfold Builtin.Bytes.joined
  cases bs with
  | nil => rfl
  | cons b r =>
    rw [List.zipIdx_cons, List.foldl_cons, joined_go sep r _ _ (Nat.succ_pos _)]
    simp [glue]
theorem joined_size (sep : Array UInt8) (bs : List (Array UInt8)) : (Builtin.Bytes.joined sep bs).size = bs.foldl (fun n b => n + b.size) (sep.size * (bs.length - 1)) := by
  have key : ∀ (bs : List (Array UInt8)) (n : Nat), bs.foldl (fun n b => n + b.size) n + sep.size * bs.length = n + ((bs.map (·.toList)).flatMap (sep.toList ++ ·)).length := by
    intro bs
    induction bs with
    | nil => intro n; simp
    | cons b r ih =>
      intro n
      have := ih (n + b.size)
      simp only [List.foldl_cons, List.map_cons, List.flatMap_cons, List.length_append, Array.length_toList, List.length_cons, Nat.mul_add] at *
      omega
  rw [← Array.length_toList, joined_list]
  cases bs with
  | nil => simp [glue]
  | cons b r =>
    have := key r (sep.size * r.length + b.size)
    simp only [List.map_cons, glue, List.length_append, Array.length_toList, List.foldl_cons, List.length_cons, Nat.add_sub_cancel]
    omega
theorem take_eq {id : String} {b : Array UInt8} {t : Tok} : Builtin.Bytes.takeBufferQuiet? id (.bytes b t) 0 = pure (some (b, none)) := by
  unfold Builtin.Bytes.takeBufferQuiet? Builtin.Bytes.takeBuffer?
  rw [KBy.special_eq KBy.look_buffer, KBy.own_buffer, show ((0 : Int) == Builtin.Bytes.fullReadOnly) = false by decide +kernel, KBy.buffer_eq]
  rfl
theorem letGo_bytes {M : Model} {A : Around} {E : Value → Shared → Prop} {Q : Unit → Shared → Prop} : ∀ {taken : List (Value × Option Value)} {keep : List Value} {s : Shared}, (∀ p ∈ taken, p.2 = none) → Q () s → wpAny M A (Builtin.Bytes.joinLetGo taken keep) Q E s := by
  intro taken
  induction taken with
  | nil => intro keep s _ h; exact wpAny_pure h
  | cons p r ih =>
    obtain ⟨x, w⟩ := p
    intro keep s hn h
    have : w = none := hn _ (.head _)
    subst this
    unfold Builtin.Bytes.joinLetGo
    refine wpAny_bind (wpAny_letGo ?_)
    exact ih (fun p hp => hn p (.tail _ hp)) h
inductive JoinJ (vs : List Value) (bs : List (Array UInt8)) (s : Shared) (rest : List Nat) (b : Array (Array UInt8) × List (Value × Option Value)) (s' : Shared) : Prop
  | mk (e : s' = s) (k : Nat) (hk : k ≤ vs.length) (hr : rest = List.range' k (vs.length - k)) (hp : b.1 = (bs.take k).toArray) (hn : ∀ p ∈ b.2, p.2 = none) (hh : (b.2.any fun x => x.1.onHeap) = false) : JoinJ vs bs s rest b s'
theorem join_run (l : Addr) (vs : List Value) (bs : List (Array UInt8)) (n : Nat) (sep : Array UInt8) (t : Tok) (hb : BytesAre vs bs) (hsz : (bs.foldl (fun n b => n + b.size) (sep.size * (bs.length - 1))) ≤ 16777216) :
    Meets (Builtin.«bytes.join» ⟨[.bytes sep t, .ref l], []⟩) (fun _ R s => s.heap.get? l = some (W.listOf vs.toArray n) ∧ ∀ t' k, R (.ok (.ret (.bytes (Builtin.Bytes.joined sep bs) t'))) { s with toks := k }) := by
  refine .of_wp fun prog w A R s hS => ?_
  obtain ⟨ho, h⟩ := hS
  have hT : s.TypeIs (.ref l) "list" := ⟨_, ho, rfl⟩
  unfold Builtin.«bytes.join» Builtin.Bytes.joinM
  obtain ⟨hp, g', d, tk, os⟩ := s
  wp_walk using wpAny_loadPart' ho, wpAny_typeOf hT
  have loop : ∀ (Q : PySem.Fin → Shared → Prop) (E : Value → Shared → Prop) (K : Array (Array UInt8) × List (Value × Option Value) → Sem PySem.Fin) (f : Nat → Array (Array UInt8) × List (Value × Option Value) → Sem (ForInStep (Array (Array UInt8) × List (Value × Option Value)))),
      (∀ k parts taken b u, k < vs.length → vs.toArray.getD k .none = .bytes b u → (taken.any fun x => x.1.onHeap) = false → ∀ (E : Value → Shared → Prop) (Q : _ → Shared → Prop), Q (.yield (parts.push b, taken ++ [(.bytes b u, none)])) ⟨hp, g', d, tk, os⟩ → wpAny (model prog w) A.in1 (f k (parts, taken)) Q E ⟨hp, g', d, tk, os⟩) →
      (∀ taken : List (Value × Option Value), (∀ p ∈ taken, p.2 = none) → wpAny (model prog w) A.in1 (K (bs.toArray, taken)) Q E ⟨hp, g', d, tk, os⟩) →
      wpAny (model prog w) A.in1 (forIn [:vs.toArray.size] (#[], []) f >>= K) Q E ⟨hp, g', d, tk, os⟩ := by
    intro Q E K f hf hK
    rw [Std.Legacy.Range.forIn_eq_forIn_range']
    refine wpAny_bind ?_
    refine wpAny_forIn_list _ (JoinJ vs bs ⟨hp, g', d, tk, os⟩) _ ?_ ?_ _ _ ⟨rfl, 0, Nat.zero_le _, by simp [Std.Legacy.Range.size], by simp, by simp, by simp⟩
    · rintro x rest ⟨parts, taken⟩ s' ⟨rfl, k, hk, hr, hp1, hn, hh⟩
      have hlt : k < vs.length := by
        rcases Nat.lt_or_eq_of_le hk with h | h
        · exact h
        · rw [h, Nat.sub_self] at hr; cases hr
      rw [show vs.length - k = (vs.length - (k + 1)) + 1 by omega, List.range'_succ] at hr
      obtain ⟨rfl, rfl⟩ := List.cons.inj hr
      obtain ⟨b, u, e1, e2⟩ := hb.at hlt
      refine hf _ _ _ b u hlt e1 hh _ _ ⟨rfl, x + 1, hlt, rfl, ?_, ?_, ?_⟩
      · dsimp only at hp1 ⊢; rw [hp1, e2]; simp
      · intro p hp'; rcases List.mem_append.mp hp' with h | h
        · exact hn p h
        · rw [List.mem_singleton.mp h]
      · dsimp only at hh ⊢; rw [List.any_append, hh]; rfl
    · rintro ⟨parts, taken⟩ s' ⟨rfl, k, hk, hr, hp1, hn, hh⟩
      have hkl : k = vs.length := by
        have := congrArg List.length hr
        simp at this; omega
      dsimp only at hp1
      rw [hp1, hkl, hb.length, List.take_length]
      exact hK taken hn
  rcases vs with _ | ⟨x, _ | ⟨y, r⟩⟩
  case cons.nil =>
    cases hb with
    | cons b u hr =>
      cases hr
      have e : Builtin.Bytes.joined sep [b] = b := by simp [Builtin.Bytes.joined]
      rw [e] at h
      wp_walk
      exact ⟨_, rfl, h _ _⟩
  all_goals
    refine loop _ _ _ _ ?_ ?_
    · intro k parts taken b u hk hx hh E Q hq
      refine wpAny_bind (wpAny_seqItems ho rfl ?_)
      dsimp only
      rw [hx]
      refine wpAny_ite_false (by rw [show (Builtin.Bytes.Kind.bytes == Builtin.Bytes.Kind.bytearray) = false from rfl, Bool.false_or, hh]; rfl) ?_
      refine wpAny_bind (wpAny_holding (wpAny_of_eq take_eq ?_))
      dsimp only
      refine wpAny_bind (wpAny_seqItems ho rfl ?_)
      dsimp only
      refine wpAny_ite_false (by simp) ?_
      exact wpAny_pure hq
    · intro taken hn
      dsimp only
      refine wpAny_bind (wpAny_of_eq (a := sep) rfl ?_)
      refine wpAny_ite_false (by rw [show (Array.foldl (fun x1 x2 => x1 + x2.size) (sep.size * (bs.toArray.size - 1)) bs.toArray) = bs.foldl (fun n b => n + b.size) (sep.size * (bs.length - 1)) by simp, KBy.tooLong_not hsz]; rfl) ?_
      refine wpAny_bind (wpAny_mkBytes ?_ ?_)
      · refine wpAny_bind (wpAny_holding (wpAny_point ?_))
        refine wpAny_bind (letGo_bytes hn ?_)
        exact wpAny_pure ⟨_, rfl, h _ _⟩
      · rw [← joined_size, sizeLine_eq] at *; exact hsz
end
section
open PySem PySem.W PyProof.Rows PySem.Calls
noncomputable def hexv (n : Int) : Option Int := if 48 ≤ n ∧ n ≤ 57 then some (n - 48) else if 65 ≤ n ∧ n ≤ 70 then some (n - 55) else if 97 ≤ n ∧ n ≤ 102 then some (n - 87) else none
mutual
noncomputable def valOct : D → List UInt8
  | .none => [110]
  | .bool b => [if b then 116 else 102]
  | .int i => (byteArr (decInts i)).toList
  | .str x => 39 :: x.cps.toList.map (·.toUInt8)
  | .bytes b => 60 :: (byteArr (hexInts b)).toList ++ [62]
  | .tup ds => 40 :: glue [32] (valOcts ds) ++ [41]
noncomputable def valOcts : List D → List (List UInt8)
  | [] => []
  | d :: r => valOct d :: valOcts r
end
theorem valOcts_map : ∀ ds : List D, valOcts ds = ds.map valOct
  | [] => rfl
  | d :: r => by rw [valOcts, valOcts_map r, List.map_cons]
mutual
noncomputable def D.asc : D → Bool
  | .str x => x.cps.toList.all (· < 256)
  | .tup ds => D.ascs ds
  | _ => true
noncomputable def D.ascs : List D → Bool
  | [] => true
  | d :: r => d.asc && D.ascs r
end
theorem D.ascs_mem : ∀ {ds : List D} {d : D}, D.ascs ds = true → d ∈ ds → d.asc = true
  | _ :: _, _, h, hm => by
    simp only [D.ascs, Bool.and_eq_true] at h
    rcases List.mem_cons.mp hm with rfl | hm
    · exact h.1
    · exact D.ascs_mem h.2 hm
mutual
noncomputable def D.dep : D → Nat
  | .tup ds => 1 + D.deps ds
  | _ => 0
noncomputable def D.deps : List D → Nat
  | [] => 0
  | d :: r => max d.dep (D.deps r)
end
theorem D.deps_mem : ∀ {ds : List D} {d : D}, d ∈ ds → d.dep ≤ D.deps ds
  | _ :: _, _, hm => by
    simp only [D.deps]
    rcases List.mem_cons.mp hm with rfl | hm
    · omega
    · have := D.deps_mem hm; omega
theorem hexInts_len (b : Array UInt8) : (hexInts b).length = 2 * b.size := by unfold hexInts; rw [hex_len, KBw.ints_length]
theorem byteArr_size0 (ks : List Int) : (byteArr ks).size = ks.length := by simp [byteArr]
theorem glue_len (s : List UInt8) (hs : s.length = 1) : ∀ bs : List (List UInt8), (glue s bs).length ≤ (bs.map fun b => b.length + 1).sum := by
  have key : ∀ bs : List (List UInt8), (bs.flatMap (s ++ ·)).length = (bs.map fun b => b.length + 1).sum := by
    intro bs
    induction bs with
    | nil => rfl
    | cons b r ih => rw [List.flatMap_cons, List.length_append, List.length_append, ih, hs, List.map_cons, List.sum_cons]; omega
  intro bs
  cases bs with
  | nil => exact Nat.zero_le _
  | cons b r => rw [glue, List.length_append, key, List.map_cons, List.sum_cons]; omega
mutual
theorem valOct_len : ∀ d : D, (valOct d).length + 1 ≤ 2 * d.wt
  | .none => by simp [valOct, D.wt]
  | .bool b => by simp [valOct, D.wt]
  | .int i => by have := D.wt_pos (.int i); simp only [valOct, D.wt, Array.length_toList, byteArr_size0] at *; omega
  | .str x => by simp only [valOct, D.wt, List.length_cons, List.length_map, Array.length_toList]; omega
  | .bytes b => by simp only [valOct, D.wt, List.length_cons, List.length_append, Array.length_toList, byteArr_size0, hexInts_len, List.length_nil]; omega
  | .tup ds => by
    have := valOcts_len ds
    have := glue_len [32] rfl (valOcts ds)
    simp only [valOct, D.wt, List.length_cons, List.length_append, List.length_nil]; omega
theorem valOcts_len : ∀ ds : List D, ((valOcts ds).map fun b => b.length + 1).sum ≤ 2 * D.wts ds
  | [] => by simp [valOcts]
  | d :: r => by
    have := valOct_len d
    have := valOcts_len r
    simp only [valOcts, D.wts, List.map_cons, List.sum_cons]; omega
end
theorem join_vals (ds : List D) : Builtin.Bytes.joined #[32] (ds.map fun d => (valOct d).toArray) = (glue [32] (valOcts ds)).toArray := by
  apply Array.ext'
  rw [joined_list, valOcts_map, List.map_map]
  simp [Function.comp_def]
end
section
open PySem PySem.W PyProof.Rows PySem.Calls PySem.MeetsSeq PySem.SeqAt PyProof.V PySem.Spec
section
variable {w : World} {A : Around} {E : Value → Shared → Prop} {s : Shared} {h₀ : Heap} {L : Addr} {m : Str → Option Value} {led : Led} {prog : Program} {M : Model}
theorem join_K {l : Addr} {vs : List Value} {bs : List (Array UInt8)} {n : Nat} {sep : Array UInt8} {t : Tok} {Q : Value → Shared → Prop} (N : News h₀ L s.heap led) (hm : (l, W.listOf vs.toArray n) ∈ led) (hb : BytesAre vs bs) (hsz : (Builtin.Bytes.joined sep bs).size ≤ 16777216)
    (q : ∀ t' k, Q (.bytes (Builtin.Bytes.joined sep bs) t') { s with toks := k }) : wpAny (model prog w) A (call (.builtin "bytes.join") [.bytes sep t, .ref l]) Q E s :=
  call_meets slot_bytes_join (typeIs_bytes _ _ _) entry_bytes_join (args_bytes_join_2 _ _) (join_run l vs bs n sep t hb (by rw [← joined_size]; exact hsz)) ⟨(N _ hm).1, q⟩
theorem m_join {b : Array UInt8} {t : Tok} {pl : Sem Bool} {Q : Value × List Value → Shared → Prop} (h : Q (.builtin "bytes.join", [.bytes b t]) s) : wpAny M A (getMethod (.bytes b t) "join" pl) Q E s := by
  with_reducible exact KBd.method_of (.bytes b t) (typeIs_bytes _ _ _) slot_bytes_join type_bytes_join KBd.noRef h
theorem m_split {b : Array UInt8} {t : Tok} {pl : Sem Bool} {Q : Value × List Value → Shared → Prop} (h : Q (.builtin "bytes.split", [.bytes b t]) s) : wpAny M A (getMethod (.bytes b t) "split" pl) Q E s := by
  with_reducible exact KBd.method_of (.bytes b t) (typeIs_bytes _ _ _) slot_bytes_split type_bytes_split KBd.noRef h
theorem m_count {b : Array UInt8} {t : Tok} {pl : Sem Bool} {Q : Value × List Value → Shared → Prop} (h : Q (.builtin "bytes.count", [.bytes b t]) s) : wpAny M A (getMethod (.bytes b t) "count" pl) Q E s := by
  with_reducible exact KBd.method_of (.bytes b t) (typeIs_bytes _ _ _) slot_bytes_count type_bytes_count KBd.noRef h
end
noncomputable def occ (b : Array UInt8) (c : UInt8) : List Nat := Builtin.Bytes.occurrences b #[c] 0 b.size
noncomputable def pieces (b : Array UInt8) (c : UInt8) : List (Array UInt8) := if (occ b c).isEmpty then [b] else Builtin.Bytes.between b 1 (occ b c)
theorem occ_len (b : Array UInt8) (c : UInt8) : (occ b c).length ≤ b.size := by
  unfold occ Builtin.Bytes.occurrences
  have key : ∀ (l : List Nat) (acc : List Nat × Nat), (l.foldl (fun (acc : List Nat × Nat) i => if i ≥ acc.2 && b.extract i (i + (#[c] : Array UInt8).size) == #[c] then (i :: acc.1, i + (#[c] : Array UInt8).size) else acc) acc).1.length ≤ l.length + acc.1.length := by
    intro l
    induction l with
    | nil => intro acc; simp
    | cons a r ih =>
      intro acc
      rw [List.foldl_cons]
      refine Nat.le_trans (ih _) ?_
      split <;> simp only [List.length_cons] <;> omega
  refine Nat.le_trans (by rw [List.length_reverse]; exact key _ _) ?_
  simp
theorem news_run {M : Model} {A : Around} {E : Value → Shared → Prop} : ∀ (bs : List (Array UInt8)) (hp : Heap) (g : Array GenState) (d : Drawn) (tk : Nat) (os : OsState) (Q : List Value → Shared → Prop), (∀ b ∈ bs, b.size ≤ 16777216) → (∀ vs k, BytesAre vs bs → Q vs ⟨hp, g, d, k, os⟩) →
    wpAny M A (bs.mapM fun b => Builtin.Bytes.Kind.bytes.new b) Q E ⟨hp, g, d, tk, os⟩ := by
  intro bs
  induction bs with
  | nil => intro hp g d tk os Q _ h; rw [List.mapM_nil]; exact wpAny_pure (h _ _ .nil)
  | cons b r ih =>
    intro hp g d tk os Q hz h
    rw [List.mapM_cons]
    refine wpAny_bind (wpAny_mkBytes ?_ (by rw [sizeLine_eq]; exact hz b (.head _)))
    refine wpAny_bind (ih _ _ _ _ _ _ (fun x hx => hz x (.tail _ hx)) fun vs k hv => ?_)
    exact wpAny_pure (h _ _ (.cons _ _ hv))
theorem split_run (b : Array UInt8) (t : Tok) (c : UInt8) (u : Tok) (hz : ∀ p ∈ pieces b c, p.size ≤ 16777216) (hn : (pieces b c).length ≤ 1000000) :
    Meets (Builtin.«bytes.split» ⟨[.bytes b t, .bytes #[c] u], []⟩) (fun _ R s => ∀ vs k, BytesAre vs (pieces b c) → R (.ok (.ret (.ref s.heap.objs.size))) { s with heap := s.heap.push { cls := .type "list", data := .seq vs.toArray }, toks := k }) := by
  refine .of_wp fun prog w A R s h => ?_
  unfold Builtin.«bytes.split» Builtin.Bytes.splitM
  obtain ⟨hp, g', d, tk, os⟩ := s
  wp_walk using wpAny_of_eq (KBd.like_eq (b := #[c]) (t := u))
  have et : (if false = true then Builtin.Bytes.occurrencesFromRight b #[c] (if (-1 : Int) < 0 then b.size + 1 else (-1 : Int).toNat) else List.take (if (-1 : Int) < 0 then b.size + 1 else (-1 : Int).toNat) (Builtin.Bytes.occurrences b #[c] 0 b.size)) = occ b c := by
    rw [if_neg Bool.false_ne_true, if_pos (by decide)]
    exact List.take_of_length_le (Nat.le_succ_of_le (occ_len b c))
  rw [et]
  have hs1 : (#[c] : Array UInt8).size = 1 := rfl
  rw [hs1]
  unfold pieces at h hz hn
  by_cases he : (occ b c).isEmpty = true
  · rw [if_pos he] at h hz hn
    rw [if_pos he]
    wp_walk
    exact ⟨_, rfl, h _ _ (.cons _ _ .nil)⟩
  · rw [if_neg he] at h hz hn
    rw [if_neg he]
    refine wpAny_bind (news_run _ _ _ _ _ _ _ hz fun vs k hv => ?_)
    refine wpAny_bind (wpAny_newObj_type (wpAny_pure ⟨_, rfl, h _ _ hv⟩) ?_)
    show vs.toArray.size ≤ sizeLine
    rw [List.size_toArray, hv.length, sizeLine_eq]; omega
section
variable {w : World} {A : Around} {E : Value → Shared → Prop} {s : Shared} {h₀ : Heap} {L : Addr} {m : Str → Option Value} {led : Led} {prog : Program} {M : Model}
theorem split_K {b : Array UInt8} {t u : Tok} {c : UInt8} {Q : Value → Shared → Prop} (F : Fr h₀ L s.heap m) (N : News h₀ L s.heap led) (hz : ∀ p ∈ pieces b c, p.size ≤ 16777216) (hn : (pieces b c).length ≤ 1000000)
    (q : ∀ l vs h' k, Fr h₀ L h' m → News h₀ L h' ((l, W.listOf vs.toArray 0) :: led) → (∀ p ∈ led, p.1 < l) → BytesAre vs (pieces b c) → Q (.ref l) { s with heap := h', toks := k }) : wpAny (model prog w) A (call (.builtin "bytes.split") [.bytes b t, .bytes #[c] u]) Q E s :=
  call_meets slot_bytes_split (typeIs_bytes _ _ _) entry_bytes_split (args_bytes_split_2 _ _) (split_run b t c u hz hn) fun vs k hv =>
    q _ vs _ k (F.push _) (News.push F N _) (fun p hp => Heap.lt_size (N p hp).1) hv
end
theorem count_run (b : Array UInt8) (t : Tok) (c : UInt8) (u : Tok) :
    Meets (Builtin.«bytes.count» ⟨[.bytes b t, .bytes #[c] u], []⟩) (fun _ R s => ∀ t' k, R (.ok (.ret (.int ((occ b c).length : Int) t'))) { s with toks := k }) := by
  refine .of_wp fun prog w A R s h => ?_
  unfold Builtin.«bytes.count» Builtin.Bytes.countM Builtin.Bytes.searchArgs
  obtain ⟨hp, g', d, tk, os⟩ := s
  have fb : ∀ id, Builtin.Bytes.buffer? id ([Value.bytes #[c] u].headD Value.none) = pure (some #[c]) := fun _ => KBy.buffer_eq
  wp_walk using wpAny_of_eq (fb _)
  have e1 : (Builtin.Bytes.window b.size none none).1 = 0 := by simp [Builtin.Bytes.window]
  have e2 : (Builtin.Bytes.window b.size none none).2 = (b.size : Int) := by simp only [Builtin.Bytes.window, Option.getD_none]; omega
  rw [e1, e2]
  have hs1 : ((#[c] : Array UInt8).size : Int) = 1 := rfl
  rw [hs1]
  by_cases h0 : b.size = 0
  · rw [if_pos (by omega)]
    have hl := occ_len b c
    have : (occ b c).length = 0 := by omega
    rw [this] at h
    wp_walk
    exact ⟨_, rfl, h _ _⟩
  · rw [if_neg (by omega)]
    dsimp only
    refine wpAny_ite_false rfl ?_
    rw [show ((b.size : Int) : Int).toNat = b.size from Int.toNat_natCast _, show (0 : Int).toNat = 0 from rfl]
    wp_walk
    exact ⟨_, rfl, h _ _⟩
theorem count_K {w : World} {A : Around} {E : Value → Shared → Prop} {s : Shared} {prog : Program} {b : Array UInt8} {t u : Tok} {c : UInt8} {Q : Value → Shared → Prop} (q : ∀ t' k, Q (.int ((occ b c).length : Int) t') { s with toks := k }) : wpAny (model prog w) A (call (.builtin "bytes.count") [.bytes b t, .bytes #[c] u]) Q E s :=
  call_meets slot_bytes_count (typeIs_bytes _ _ _) entry_bytes_count (args_bytes_count_2 _ _) (count_run b t c u) q
end
section
open PySem PySem.W PyProof.Rows PySem.Calls
noncomputable abbrev progObj (w : World) (t1 t2 : Tok) (rv : Value) (x : Str) (t : Tok) : Obj :=
  dictOf [⟨PyData.keyHash w.params (Str.ofString "rows"), .str (Str.ofString "rows") t1, rv⟩, ⟨PyData.keyHash w.params (Str.ofString "word"), .str (Str.ofString "word") t2, .str x t⟩] 2
noncomputable def progOct (x : Str) (ds : List D) : List UInt8 := glue [10] (([102, 108, 97, 116, 32] ++ x.cps.toList.map (·.toUInt8)) :: valOcts ds) ++ [10]
theorem join_rows (x : Str) (ds : List D) : Builtin.Bytes.joined #[10] ((#[102, 108, 97, 116, 32] ++ x.cps.map (·.toUInt8)) :: ds.map fun d => (valOct d).toArray) ++ #[10] = (progOct x ds).toArray := by
  apply Array.ext'
  rw [Array.toList_append, joined_list, progOct, valOcts_map, List.map_cons, List.map_map]
  simp [Function.comp_def]
theorem join_rows_size (x : Str) (ds : List D) : (Builtin.Bytes.joined #[10] ((#[102, 108, 97, 116, 32] ++ x.cps.map (·.toUInt8)) :: ds.map fun d => (valOct d).toArray)).size ≤ x.cps.size + 6 + 2 * D.wts ds := by
  have h := glue_len [10] rfl (([102, 108, 97, 116, 32] ++ x.cps.toList.map (·.toUInt8)) :: valOcts ds)
  have h2 := valOcts_len ds
  have e : (Builtin.Bytes.joined #[10] ((#[102, 108, 97, 116, 32] ++ x.cps.map (·.toUInt8)) :: ds.map fun d => (valOct d).toArray)).toList = glue [10] (([102, 108, 97, 116, 32] ++ x.cps.toList.map (·.toUInt8)) :: valOcts ds) := by
    rw [joined_list, valOcts_map, List.map_cons, List.map_map]; simp [Function.comp_def]
  rw [← Array.length_toList, e]
  simp only [List.map_cons, List.sum_cons, List.length_append, List.length_cons, List.length_nil, List.length_map, Array.length_toList] at h
  omega
section
variable {prog : Program} {w : World} {A : Around} {E : Value → Shared → Prop} {s : Shared} {h₀ : Heap} {L D b : Addr} {m : Str → Option Value} {led : Led} {its its2 : List Value} {n n2 : Nat}
theorem extend_K {Q : Value → Shared → Prop} (F : Fr h₀ L s.heap m) (N : News h₀ L s.heap ((b, W.listOf its2.toArray n2) :: (D, W.listOf its.toArray n) :: led)) (hbD : b ≠ D) (hD : ∀ p ∈ led, p.1 ≠ D) (hz : its.length + its2.length ≤ 2000000)
    (h : ∀ h' n', Fr h₀ L h' m → News h₀ L h' ((D, W.listOf (its ++ its2).toArray n') :: led) → Q .none { s with heap := h' }) : wpAny (model prog w) A (call (.builtin "list.extend") [.ref D, .ref b]) Q E s := by
  have ht : ¬(!its.toArray.isEmpty && Builtin.List.listTooLong (its.toArray.size + its2.toArray.size)) = true := by
    have : Builtin.List.listTooLong (its.toArray.size + its2.toArray.size) = false := by
      simp only [Builtin.List.listTooLong, List.size_toArray, sizeLine_eq]
      simp
      omega
    rw [this]; simp
  by_cases h2 : its2.length = 0
  · have e : its2 = [] := List.length_eq_zero_iff.mp h2
    subst e
    refine kxn_extend F N (.head _) rfl (Upd.tail hbD (Upd.head hD)) ht (by rw [sizeLine_eq, List.toList_toArray]; omega) (by rw [sizeLine_eq, List.size_toArray, List.size_toArray]; simp; omega) fun h' F' N' => h h' n F' ?_
    rw [List.append_nil]
    exact cb_drop N' (fun p hp => .tail _ hp)
  · refine kl_extend F N (.head _) rfl h2 (Upd.tail hbD (Upd.head hD)) ht (by rw [sizeLine_eq, List.toList_toArray]; omega) (by rw [sizeLine_eq, List.size_toArray, List.size_toArray]; omega) fun h' F' N' => h h' (n + 1) F' ?_
    exact cb_drop N' (fun p hp => .tail _ hp)
end
end
section
open PySem PySem.W PyProof.Rows PySem.Calls PySem.SeqAt
noncomputable abbrev lst (vs : List Value) (n : Nat) : Obj := W.listOf vs.toArray n
section
variable {w : World} {A : Around} {E : Value → Shared → Prop} {s : Shared} {h₀ : Heap} {L : Addr} {m : Str → Option Value} {led led' : Led} {prog : Program}
theorem isLst {a : Addr} {vs : List Value} {n : Nat} (N : News h₀ L s.heap led) (hm : (a, lst vs n) ∈ led) : s.heap.IsList a vs.toArray := ⟨_, (N _ hm).1, rfl, n, rfl⟩
theorem eqNil {a b : Addr} {vs : List Value} {n k : Nat} {Q : Value → Shared → Prop} (hu : A.units < cLine) (N : News h₀ L s.heap led) (hm : (a, lst vs n) ∈ led) (hb : (b, lst [] k) ∈ led) (q : Q (.bool vs.isEmpty) s) :
    wpAny (model prog w) A (compareOp .Eq (.ref a) (.ref b)) Q E s := by
  cases vs with
  | nil => exact RcAt.lists (e := fun _ => true) (isLst N hm) (isLst N hb) rfl hu (fun j h1 => absurd h1 (Nat.not_lt_zero _)) prog w E Q (by simpa using q)
  | cons v vs => exact RcAt.lists_lengths (isLst N hm) (isLst N hb) (by simp) hu prog w E Q q
theorem neNil {a b : Addr} {vs : List Value} {n k : Nat} {Q : Value → Shared → Prop} (hu : A.units < cLine) (N : News h₀ L s.heap led) (hm : (a, lst vs n) ∈ led) (hb : (b, lst [] k) ∈ led) (q : Q (.bool (!vs.isEmpty)) s) :
    wpAny (model prog w) A (compareOp .NotEq (.ref a) (.ref b)) Q E s := by
  cases vs with
  | nil => exact RcNeAt.lists (e := fun _ => true) (isLst N hm) (isLst N hb) rfl hu (fun j h1 => absurd h1 (Nat.not_lt_zero _)) prog w E Q (by simpa using q)
  | cons v vs => exact RcNeAt.lists_lengths (isLst N hm) (isLst N hb) (by simp) hu prog w E Q q
theorem lastItem {value slice : Expr} {a : Addr} {vs : List Value} {v : Value} {n : Nat} {u : Tok} {Q : Value → Shared → Prop} (N : News h₀ L s.heap led) (hm : (a, lst (vs ++ [v]) n) ∈ led) (q : Q v s)
    (hs : subscripted slice false (.ref a) (.int (-1) u) = operate [.ref a, .int (-1) u] (getItem (.ref a) (.int (-1) u)) := by with_unfolding_all rfl) :
    wpAny (model prog w) A (subscriptTail value slice (.ref a) (.int (-1) u)) Q E s := by
  have hl := isLst N hm
  refine tail_any hl.typeIs slot_list_getitem.lookup (wpAny_getItem_list_neg hl (by decide) (by simp; omega) (by decide) ?_ q) hs
  have : ((-1 : Int) + ((vs ++ [v]).toArray.size : Int)).toNat = vs.length := by simp; omega
  rw [this]; simp
theorem lastItemG {value slice : Expr} {a : Addr} {vs : List Value} {v : Value} {n : Nat} {u : Tok} {Q : Value → Shared → Prop} (N : News h₀ L s.heap led) (hm : (a, lst vs n) ∈ led) (hx : vs.getLast? = some v) (q : Q v s)
    (hs : subscripted slice false (.ref a) (.int (-1) u) = operate [.ref a, .int (-1) u] (getItem (.ref a) (.int (-1) u)) := by with_unfolding_all rfl) :
    wpAny (model prog w) A (subscriptTail value slice (.ref a) (.int (-1) u)) Q E s := by
  obtain ⟨ys, rfl⟩ := List.getLast?_eq_some_iff.mp hx
  exact lastItem N hm q hs
theorem popLast {a : Addr} {vs : List Value} {v : Value} {n : Nat} {Q : Value → Shared → Prop} (F : Fr h₀ L s.heap m) (N : News h₀ L s.heap led) (U : Upd a (lst (vs ++ [v]) n) (lst vs (n + 1)) led led') (hz : vs.length ≤ 1000000)
    (q : ∀ h', Fr h₀ L h' m → News h₀ L h' led' → Q v { s with heap := h' }) : wpAny (model prog w) A (call (.builtin "list.pop") [.ref a]) Q E s := by
  refine kl_pop F N ?_ U (by rw [sizeLine_eq]; simp; omega) q
  have key : ∀ (l : List Value), kl_last (l ++ [v]) = some (l, v) := by
    intro l
    cases h : kl_last (l ++ [v]) with
    | none => exact absurd (kl_last_none h) (by simp)
    | some p =>
      obtain ⟨p, y⟩ := p
      have := kl_last_spec h
      obtain ⟨e1, e2⟩ := List.append_inj' this rfl
      cases e2; rw [e1]
  simpa using key vs
theorem tupleOf {a : Addr} {vs : List Value} {n : Nat} {Q : Value → Shared → Prop} (F : Fr h₀ L s.heap m) (N : News h₀ L s.heap led) (hm : (a, lst vs n) ∈ led) (hz : vs.length ≤ 16000)
    (q : ∀ b h', Fr h₀ L h' m → News h₀ L h' ((b, tupOf vs 0) :: led) → (∀ p ∈ led, p.1 < b) → Q (.ref b) { s with heap := h' }) : wpAny (model prog w) A (call (.type "tuple") [.ref a]) Q E s :=
  kde_tupleOf F N (isLst N hm) (by rw [List.size_toArray]; omega) rfl (by rw [List.toList_toArray]; exact q)
theorem appendAt {a : Addr} {vs : List Value} {v : Value} {n : Nat} {Q : Value → Shared → Prop} (F : Fr h₀ L s.heap m) (N : News h₀ L s.heap led) (U : Upd a (lst vs n) (lst (vs ++ [v]) (n + 1)) led led') (hz : vs.length ≤ 4000000)
    (q : ∀ h', Fr h₀ L h' m → News h₀ L h' led' → Q .none { s with heap := h' }) : wpAny (model prog w) A (call (.builtin "list.append") [.ref a, v]) Q E s := by
  refine append_K F N (its := vs.toArray) (n := n) ?_ q (by rw [sizeLine_eq, List.size_toArray]; omega)
  have : vs.toArray.push v = (vs ++ [v]).toArray := by simp
  rw [this]; exact U
end
noncomputable abbrev rdObj (w : World) (t1 t2 t3 t4 : Tok) (b : Array UInt8) (tb : Tok) (i : Int) (ti : Tok) (o f : Addr) : Obj :=
  dictOf [⟨PyData.keyHash w.params (Str.ofString "octets"), .str (Str.ofString "octets") t1, .bytes b tb⟩, ⟨PyData.keyHash w.params (Str.ofString "at"), .str (Str.ofString "at") t2, .int i ti⟩,
    ⟨PyData.keyHash w.params (Str.ofString "open"), .str (Str.ofString "open") t3, .ref o⟩, ⟨PyData.keyHash w.params (Str.ofString "found"), .str (Str.ofString "found") t4, .ref f⟩] 4
noncomputable abbrev RL (w : World) (x d o f : Addr) (t1 t2 t3 t4 : Tok) (b : Array UInt8) (tb : Tok) (i : Int) (ti : Tok) (rs : List Value) (no : Nat) (fs : List Value) (nf : Nat) (T : Led) : Led :=
  (x, instObj 258 d) :: (d, rdObj w t1 t2 t3 t4 b tb i ti o f) :: (o, lst rs no) :: (f, lst fs nf) :: T
end
section
open PySem PySem.W PyProof.Rows PySem.Calls PySem.SeqAt
noncomputable abbrev bI (b : Array UInt8) : List Int := KBw.bInts b
noncomputable def inR (lo hi : Int) (k : Int) : Bool := decide (lo ≤ k ∧ k ≤ hi)
noncomputable def endP (ks : List Int) (lo hi : Int) (i : Nat) : Nat := i + ((ks.drop i).takeWhile (inR lo hi)).length
section
variable {w : World} {A : Around} {E : Value → Shared → Prop} {s : Shared} {h₀ : Heap} {L : Addr} {m : Str → Option Value} {led led' : Led} {prog : Program}
theorem bItem {value slice : Expr} {b : Array UInt8} {t ui : Tok} {i : Int} {Q : Value → Shared → Prop} (hb : b.size ≤ 1000000) (h0 : 0 ≤ i) (h1 : i < (b.size : Int))
    (q : ∀ t' k, 0 ≤ (bI b).getD i.toNat 0 → (bI b).getD i.toNat 0 < 256 → Q (.int ((bI b).getD i.toNat 0) t') { s with toks := k })
    (hs : subscripted slice false (.bytes b t) (.int i ui) = operate [.bytes b t, .int i ui] (getItem (.bytes b t) (.int i ui)) := by with_unfolding_all rfl)
    (ht : ∀ r, letTemporaryGo value (.bytes b t) r = pure () := by intro _; with_unfolding_all rfl) : wpAny (model prog w) A (subscriptTail value slice (.bytes b t) (.int i ui)) Q E s :=
  KBw.item_K rfl (by rw [KBw.ints_length]; omega) h0 (by rw [KBw.ints_length]; exact h1) q hs ht
theorem bLen {b : Array UInt8} {t : Tok} {Q : Value → Shared → Prop} (hb : b.size ≤ 1000000) (q : ∀ t' k, Q (.int (b.size : Int) t') { s with toks := k }) : wpAny (model prog w) A (call (.builtin "len") [.bytes b t]) Q E s :=
  KBw.len_K rfl (by rw [KBw.ints_length]; omega) (by rw [KBw.ints_length]; exact q _ _)
end
theorem bI_len (b : Array UInt8) : (bI b).length = b.size := KBw.ints_length b
theorem endP_ge (ks : List Int) (lo hi : Int) (i : Nat) : i ≤ endP ks lo hi i := Nat.le_add_right _ _
theorem endP_le (ks : List Int) (lo hi : Int) {i : Nat} (h : i ≤ ks.length) : endP ks lo hi i ≤ ks.length := by
  unfold endP
  have := (List.takeWhile_sublist (inR lo hi) (l := ks.drop i)).length_le
  rw [List.length_drop] at this; omega
theorem drop_getD {ks : List Int} {i : Nat} (h : i < ks.length) : ks.drop i = ks.getD i 0 :: ks.drop (i + 1) := by
  rw [List.drop_eq_getElem_cons h]; simp [h]
theorem endP_step {ks : List Int} {lo hi : Int} {i : Nat} (h : i < ks.length) (h1 : lo ≤ ks.getD i 0) (h2 : ks.getD i 0 ≤ hi) : endP ks lo hi i = endP ks lo hi (i + 1) := by
  unfold endP
  rw [drop_getD h, List.takeWhile_cons_of_pos (by simp only [inR, decide_eq_true_eq]; exact ⟨h1, h2⟩), List.length_cons]; omega
theorem endP_stop {ks : List Int} {lo hi : Int} {i : Nat} (h : i < ks.length) (h1 : ¬ (lo ≤ ks.getD i 0 ∧ ks.getD i 0 ≤ hi)) : endP ks lo hi i = i := by
  unfold endP
  rw [drop_getD h, List.takeWhile_cons_of_neg (by simp only [inR, decide_eq_true_eq]; exact h1)]; rfl
theorem endP_end {ks : List Int} {lo hi : Int} {i : Nat} (h : ks.length ≤ i) : endP ks lo hi i = i := by
  unfold endP
  rw [List.drop_eq_nil_of_le h]; rfl
theorem endP_in {ks : List Int} {lo hi : Int} {i : Nat} : ∀ k ∈ (ks.drop i).take (endP ks lo hi i - i), lo ≤ k ∧ k ≤ hi := by
  intro k hk
  unfold endP at hk
  rw [Nat.add_sub_cancel_left] at hk
  have e : ∀ l : List Int, l.take (l.takeWhile (inR lo hi)).length = l.takeWhile (inR lo hi) := by
    intro l
    have h := List.takeWhile_prefix (inR lo hi) (l := l)
    exact (List.prefix_iff_eq_take.mp h).symm
  rw [e] at hk
  have key : ∀ l : List Int, k ∈ l.takeWhile (inR lo hi) → inR lo hi k = true := by
    intro l
    induction l with
    | nil => intro h; simp at h
    | cons a r ih =>
      intro h
      rw [List.takeWhile_cons] at h
      split at h
      · rcases List.mem_cons.mp h with rfl | h
        · assumption
        · exact ih h
      · simp at h
  have := key _ hk
  simpa only [inR, decide_eq_true_eq] using this
theorem cut_both {l : List Int} (a c : Nat) : (l.drop (min a l.length)).take (min c l.length - min a l.length) = (l.drop a).take (c - a) := by
  by_cases h : a ≤ l.length
  · rw [Nat.min_eq_left h, List.take_eq_take_iff, List.length_drop, Nat.sub_min_sub_right, Nat.sub_min_sub_right, Nat.min_assoc, Nat.min_self]
  · have h := Nat.le_of_lt (Nat.not_le.mp h)
    rw [Nat.min_eq_right h, List.drop_of_length_le (Nat.le_refl _), List.drop_of_length_le h, List.take_nil, List.take_nil]
theorem here_in {b : Array UInt8} {i : Nat} (h : (i : Int) < (b.size : Int)) : (bI b).getD i 0 = (bI b).getD i (-1) := by
  have : i < (bI b).length := by rw [bI_len]; omega
  simp [this]
theorem here_out {b : Array UInt8} {i : Nat} (h : ¬ (i : Int) < (b.size : Int)) : (-1 : Int) = (bI b).getD i (-1) := by
  have : (bI b).length ≤ i := by rw [bI_len]; omega
  rw [List.getD_eq_getElem?_getD, List.getElem?_eq_none this]; rfl
section
variable {w : World} {A : Around} {E : Value → Shared → Prop} {s : Shared} {h₀ : Heap} {L : Addr} {m : Str → Option Value} {led led' : Led} {prog : Program}
theorem bSlice {value slice : Expr} {b : Array UInt8} {t ul uu : Tok} {lo hi : Int} {Q : Value → Shared → Prop} (F : Fr h₀ L s.heap m) (N : News h₀ L s.heap led) (hb : b.size ≤ 1000000) (h0 : 0 ≤ lo) (h1 : 0 ≤ hi)
    (q : ∀ h' c t' k, Fr h₀ L h' m → News h₀ L h' led → bI c = ((bI b).drop lo.toNat).take (hi.toNat - lo.toNat) → c.size ≤ b.size → Q (.bytes c t') { s with heap := h', toks := k })
    (hs : subscripted slice false (.bytes b t) (.ref s.heap.objs.size) = operate [.ref s.heap.objs.size, .bytes b t] (getItem (.bytes b t) (.ref s.heap.objs.size)) := by with_unfolding_all rfl)
    (ht : ∀ r, letTemporaryGo value (.bytes b t) r = pure () := by intro _; with_unfolding_all rfl) :
    wpAny (model prog w) A (subscriptTail value slice (.bytes b t) (.ref s.heap.objs.size)) Q E { s with heap := s.heap.push { cls := .type "slice", data := .fields #[.int lo ul, .int hi uu, .none] } } := by
  refine KBc.slice_K F N rfl (.int _ _) (.int _ _) (by rw [KBw.ints_length]; omega) (fun h' t' k F' N' e => q h' _ t' k F' N' ?_ (KBc.size_picked_le _ _ _)) hs ht
  obtain ⟨a, rfl⟩ := Int.eq_ofNat_of_zero_le h0
  obtain ⟨c, rfl⟩ := Int.eq_ofNat_of_zero_le h1
  rw [show bI _ = _ from e]
  simp only [Option.elim, clipAt_nat, Int.toNat_natCast]
  exact cut_both a c
theorem bSliceTo {value slice : Expr} {b : Array UInt8} {t ul : Tok} {lo : Int} {Q : Value → Shared → Prop} (F : Fr h₀ L s.heap m) (N : News h₀ L s.heap led) (hb : b.size ≤ 1000000) (h0 : 0 ≤ lo)
    (q : ∀ h' c t' k, Fr h₀ L h' m → News h₀ L h' led → bI c = (bI b).drop lo.toNat → c.size ≤ b.size → Q (.bytes c t') { s with heap := h', toks := k })
    (hs : subscripted slice false (.bytes b t) (.ref s.heap.objs.size) = operate [.ref s.heap.objs.size, .bytes b t] (getItem (.bytes b t) (.ref s.heap.objs.size)) := by with_unfolding_all rfl)
    (ht : ∀ r, letTemporaryGo value (.bytes b t) r = pure () := by intro _; with_unfolding_all rfl) :
    wpAny (model prog w) A (subscriptTail value slice (.bytes b t) (.ref s.heap.objs.size)) Q E { s with heap := s.heap.push { cls := .type "slice", data := .fields #[.int lo ul, .none, .none] } } := by
  refine KBc.slice_K F N rfl (.int _ _) .none (by rw [KBw.ints_length]; omega) (fun h' t' k F' N' e => q h' _ t' k F' N' ?_ (KBc.size_picked_le _ _ _)) hs ht
  obtain ⟨a, rfl⟩ := Int.eq_ofNat_of_zero_le h0
  rw [show bI _ = _ from e]
  simp only [Option.elim, clipAt_nat, Int.toNat_natCast]
  rw [List.take_of_length_le (by rw [List.length_drop]; exact Nat.le_refl _)]
  by_cases h : a ≤ (KBw.bInts b).length
  · rw [Nat.min_eq_left h]
  · rw [Nat.min_eq_right (by omega), List.drop_of_length_le (Nat.le_refl _), List.drop_of_length_le (by simp only [bI]; omega)]
theorem bSliceFrom {value slice : Expr} {b : Array UInt8} {t uu : Tok} {hi : Int} {Q : Value → Shared → Prop} (F : Fr h₀ L s.heap m) (N : News h₀ L s.heap led) (hb : b.size ≤ 1000000) (h1 : 0 ≤ hi)
    (q : ∀ h' c t' k, Fr h₀ L h' m → News h₀ L h' led → bI c = (bI b).take hi.toNat → c.size ≤ b.size → Q (.bytes c t') { s with heap := h', toks := k })
    (hs : subscripted slice false (.bytes b t) (.ref s.heap.objs.size) = operate [.ref s.heap.objs.size, .bytes b t] (getItem (.bytes b t) (.ref s.heap.objs.size)) := by with_unfolding_all rfl)
    (ht : ∀ r, letTemporaryGo value (.bytes b t) r = pure () := by intro _; with_unfolding_all rfl) :
    wpAny (model prog w) A (subscriptTail value slice (.bytes b t) (.ref s.heap.objs.size)) Q E { s with heap := s.heap.push { cls := .type "slice", data := .fields #[.none, .int hi uu, .none] } } := by
  refine KBc.slice_K F N rfl .none (.int _ _) (by rw [KBw.ints_length]; omega) (fun h' t' k F' N' e => q h' _ t' k F' N' ?_ (KBc.size_picked_le _ _ _)) hs ht
  obtain ⟨c, rfl⟩ := Int.eq_ofNat_of_zero_le h1
  rw [show bI _ = _ from e]
  simp only [Option.elim, clipAt_nat, Int.toNat_natCast, List.drop_zero, Nat.sub_zero]
  by_cases h : c ≤ (KBw.bInts b).length
  · rw [Nat.min_eq_left h]
  · rw [Nat.min_eq_right (by omega), List.take_of_length_le (Nat.le_refl _), List.take_of_length_le (by simp only [bI]; omega)]
end
end
section
open PySem PySem.W PyProof.Rows PySem.Calls PySem.SeqAt
structure RdS where
  at_ : Nat
  op : List (List D)
  fo : List D
noncomputable def RdS.put (s : RdS) (v : D) : RdS :=
  match s.op with
  | [] => { s with fo := s.fo ++ [v] }
  | t :: r => { s with op := (t ++ [v]) :: r }
noncomputable abbrev Stk := List (Addr × List Value × Nat)
noncomputable def stkL (k : Stk) : Led := k.map fun x => (x.1, lst x.2.1 x.2.2)
noncomputable def stkV (k : Stk) : List Value := (k.map fun x => Value.ref x.1).reverse
inductive StkAll (led : Led) : Stk → List (List D) → Prop
  | nil : StkAll led [] []
  | cons {a : Addr} {vs : List Value} {n : Nat} {ds : List D} {k : Stk} {op : List (List D)} : DAll led vs ds → StkAll led k op → StkAll led ((a, vs, n) :: k) (ds :: op)
theorem StkAll.mono {led led' : Led} (hs : ∀ p ∈ led, p ∈ led') {k : Stk} {op : List (List D)} (h : StkAll led k op) : StkAll led' k op := by
  induction h with
  | nil => exact .nil
  | cons h _ ih => exact .cons (h.mono hs) ih
theorem StkAll.nil_iff {led : Led} {k : Stk} {op : List (List D)} (h : StkAll led k op) : (stkV k).isEmpty = op.isEmpty := by
  cases h with
  | nil => rfl
  | cons _ _ => simp [stkV]
noncomputable def Tups (new : Led) : Prop := ∀ q ∈ new, ∃ vs n, q.2 = tupOf vs n
inductive RSt (w : World) (x d o f : Addr) (b : Array UInt8) (T : Led) (S : RdS) (led : Led) : Prop
  | mk (t1 t2 t3 t4 tb ti : Tok) (no nf : Nat) (k : Stk) (fs : List Value) (new : Led) (h : led = RL w x d o f t1 t2 t3 t4 b tb S.at_ ti (stkV k) no fs nf (stkL k ++ (new ++ T))) (hn : Tups new) (hf : DAll (new ++ T) fs S.fo) (hk : StkAll (new ++ T) k S.op) (hlt : ∀ q ∈ k, @LT.lt Nat _ f q.1) (hp : k.Pairwise fun p q => p.1 ≠ q.1) : RSt w x d o f b T S led
inductive ROpen (w : World) (x d o f : Addr) (b : Array UInt8) (T : Led) (S : RdS) (led : Led) : Prop
  | mk (t1 t2 t3 t4 tb ti : Tok) (no nf : Nat) (rs fs : List Value) (T1 : Led) (h : led = RL w x d o f t1 t2 t3 t4 b tb S.at_ ti rs no fs nf T1) (hT : ∀ p ∈ T1, p.1 ≠ d) (hr : rs.isEmpty = S.op.isEmpty) (back : ∀ (i' : Nat) (ti' : Tok), RSt w x d o f b T { S with at_ := i' } (RL w x d o f t1 t2 t3 t4 b tb i' ti' rs no fs nf T1)) : ROpen w x d o f b T S led
inductive RMem (w : World) (x d o f : Addr) (b : Array UInt8) (S : RdS) (led : Led) : Prop
  | mk (t1 t2 t3 t4 tb ti : Tok) (h1 : (x, instObj 258 d) ∈ led) (h2 : (d, rdObj w t1 t2 t3 t4 b tb S.at_ ti o f) ∈ led) : RMem w x d o f b S led
structure RAd (x d o f : Addr) (T : Led) : Prop where
  h1 : @LT.lt Nat _ d x
  h2 : @LT.lt Nat _ x o
  h3 : @LT.lt Nat _ o f
  hT : ∀ p ∈ T, @LT.lt Nat _ p.1 d
section
variable {h₀ h : Heap} {L : Addr} {led led' : Led}
theorem ne_of_obj {a b : Addr} {o o' : Obj} (N : News h₀ L h led) (ha : (a, o) ∈ led) (hb : (b, o') ∈ led) (hne : o ≠ o') : a ≠ b := by
  rintro rfl
  have := (N _ ha).1.symm.trans (N _ hb).1
  exact hne (Option.some.inj this)
theorem tup_ne_lst (vs ws : List Value) (n k : Nat) : tupOf vs n ≠ lst ws k := fun h => by
  have := congrArg Obj.cls h
  simp at this
theorem tup_ne_dict (vs : List Value) (n : Nat) (es : List DictEntry) (k : Nat) : tupOf vs n ≠ dictOf es k := fun h => by
  have := congrArg Obj.cls h
  simp at this
theorem tup_ne_inst (vs : List Value) (n : Nat) (c d : Addr) : tupOf vs n ≠ instObj c d := fun h => by
  have := congrArg Obj.cls h
  simp [instObj] at this
end
mutual
theorem DIn.strip {led led' : Led} (hs : ∀ a vs n, (a, tupOf vs n) ∈ led → (a, tupOf vs n) ∈ led') : ∀ {v : Value} {d : D}, DIn led v d → DIn led' v d
  | _, _, .none => .none
  | _, _, .bool b => .bool b
  | _, _, .int i t => .int i t
  | _, _, .str x t => .str x t
  | _, _, .bytes b t => .bytes b t
  | _, _, .tup h r => .tup (hs _ _ _ h) (DAll.strip hs r)
theorem DAll.strip {led led' : Led} (hs : ∀ a vs n, (a, tupOf vs n) ∈ led → (a, tupOf vs n) ∈ led') : ∀ {vs : List Value} {ds : List D}, DAll led vs ds → DAll led' vs ds
  | _, _, .nil => .nil
  | _, _, .cons h r => .cons (DIn.strip hs h) (DAll.strip hs r)
end
theorem strip_RL {w : World} {x d o f : Addr} {t1 t2 t3 t4 tb ti : Tok} {b : Array UInt8} {i : Int} {rs fs : List Value} {no nf : Nat} {k : Stk} {T : Led} {a : Addr} {vs : List Value} {n : Nat}
    (h : (a, tupOf vs n) ∈ RL w x d o f t1 t2 t3 t4 b tb i ti rs no fs nf (stkL k ++ T)) : (a, tupOf vs n) ∈ T := by
  rcases List.mem_cons.mp h with h | h
  · exact absurd (congrArg Prod.snd h) (tup_ne_inst _ _ _ _)
  rcases List.mem_cons.mp h with h | h
  · exact absurd (congrArg Prod.snd h) (tup_ne_dict _ _ _ _)
  rcases List.mem_cons.mp h with h | h
  · exact absurd (congrArg Prod.snd h) (tup_ne_lst _ _ _ _)
  rcases List.mem_cons.mp h with h | h
  · exact absurd (congrArg Prod.snd h) (tup_ne_lst _ _ _ _)
  rcases List.mem_append.mp h with h | h
  · obtain ⟨q, _, e⟩ := List.mem_map.mp h
    exact absurd (congrArg Prod.snd e).symm (tup_ne_lst _ _ _ _)
  · exact h
noncomputable def RdS.wt (s : RdS) : Nat := D.wts s.fo + (s.op.map fun t => 1 + D.wts t).sum
theorem D.wts_app : ∀ (a b : List D), D.wts (a ++ b) = D.wts a + D.wts b
  | [], b => by simp [D.wts]
  | d :: a, b => by rw [List.cons_append, D.wts, D.wts, D.wts_app a b]; omega
theorem RdS.wt_put (s : RdS) (v : D) : (s.put v).wt = s.wt + v.wt := by
  obtain ⟨i, op, fo⟩ := s
  cases op with
  | nil => simp only [RdS.put, RdS.wt, D.wts_app, D.wts, List.map_nil, List.sum_nil, Nat.add_zero]
  | cons t r => simp only [RdS.put, RdS.wt, D.wts_app, D.wts, List.map_cons, List.sum_cons]; omega
theorem RdS.at_put (s : RdS) (v : D) : (s.put v).at_ = s.at_ := by
  obtain ⟨i, op, fo⟩ := s
  cases op <;> rfl
theorem RSt.openT {w : World} {x d o f : Addr} {b : Array UInt8} {T : Led} {S : RdS} {led : Led} {h₀ h : Heap} {L : Addr} (hS : RSt w x d o f b T S led) (R : RAd x d o f T) (N : News h₀ L h led) :
    ROpen w x d o f b T S led := by
  obtain ⟨t1, t2, t3, t4, tb, ti, no, nf, k, fs, new, rfl, hn, hf, hk, hlt, hpw⟩ := hS
  refine ⟨t1, t2, t3, t4, tb, ti, no, nf, stkV k, fs, stkL k ++ (new ++ T), rfl, ?_, hk.nil_iff, fun i' ti' => ⟨t1, t2, t3, t4, tb, ti', no, nf, k, fs, new, rfl, hn, hf, hk, hlt, hpw⟩⟩
  obtain ⟨h1, h2, h3, hT⟩ := R
  intro p hp
  rcases List.mem_append.mp hp with hq | hq
  · obtain ⟨q, hq2, e⟩ := List.mem_map.mp hq
    subst e
    exact Nat.ne_of_gt (by have := hlt q hq2; dsimp only; omega)
  rcases List.mem_append.mp hq with hq | hq
  · obtain ⟨vs, n, e⟩ := hn p hq
    obtain ⟨pa, po⟩ := p
    dsimp only at e; subst e
    exact ne_of_obj N (.tail _ (.tail _ (.tail _ (.tail _ hp)))) (.tail _ (.head _)) (tup_ne_dict _ _ _ _)
  · exact Nat.ne_of_lt (hT p hq)
inductive StepOut (w : World) (x d o f : Addr) (b : Array UInt8) (T : Led) (res : Option RdS) (led' : Led) (r : Value) : Prop
  | mk (S' : RdS) (h : RSt w x d o f b T S' led') (hr : (res = none ∧ r = .bool false) ∨ (res = some S' ∧ r = .bool true)) : StepOut w x d o f b T res led' r
noncomputable def numStart (ks : List Int) (i : Nat) : Nat := if ks.getD i (-1) = 45 then i + 1 else i
noncomputable def numAbs (ks : List Int) : Int := ks.foldl (fun n k => 10 * n + k - 48) 0
noncomputable def numP (ks : List Int) (i : Nat) : Option (Int × Nat) :=
  let st := numStart ks i
  let e := endP ks 48 57 st
  if e = st then none else
    let n := numAbs ((ks.drop st).take (e - st))
    some (if st > i then -n else n, e)
theorem Con.useN {w : World} {f : Addr} {vs : List Value} {led : Led} {dk uk : Nat} {Out : Led → Value → Prop}
    {mean : ExcName → Option Value} {mg mb : Str → Option Value} {dp un : Nat} {cn : Str} {cs : Scope} {a : Addr} {ccd : Value} {cl : List (Str × Addr)} {outer : List Env} {A₀ : Around} {base h₀ : Heap} {L : Addr} {m : Str → Option Value} {s : Shared}
    {Q E : Value → Shared → Prop} (F : Fr h₀ L s.heap m) (N : News h₀ L s.heap led) (C : Con w f vs led dk uk Out) (X : (hd.heap_1 w.params).In h₀) (B : Below A₀ base outer h₀) (T : Top hd.view_39 LW mean mg mb h₀) (hk : cs.kind = .function) (hd : dp + dk < recursionLimit) (hu : un + uk < cLine)
    (ret : ∀ r led' h' tk', Fr h₀ L h' m → News h₀ L h' led' → Out led' r → Q r { s with heap := h', toks := tk' }) :
    wpAny (model PySem.Challenge.rw_nt0496_01.row.prog w) (ktrTop dp un (some []) cn cs L a ccd cl outer) (call (.ref f) vs) Q E s := C _ _ _ _ _ _ _ _ _ _ _ _ _ _ _ _ _ _ _ B F X N T hk hd hu ret
theorem numP_none {ks : List Int} {i st : Nat} (hs : numStart ks i = st) (he : endP ks 48 57 st = st) : numP ks i = none := by
  simp only [numP, hs, he, if_true]
theorem numP_some {ks : List Int} {i st : Nat} {n : Int} (hs : numStart ks i = st) (he : endP ks 48 57 st ≠ st) (hn : n = numAbs ((ks.drop st).take (endP ks 48 57 st - st))) :
    numP ks i = some (if st > i then -n else n, endP ks 48 57 st) := by
  simp only [numP, hs, if_neg he, hn]
theorem toNat1 (i : Nat) : ((i : Int) + 1).toNat = i + 1 := rfl
noncomputable def strOf (ks : List Int) : Str := ⟨(ks.map Int.toNat).toArray⟩
theorem strOf_bI (c : Array UInt8) : (⟨c.map (·.toNat)⟩ : Str) = strOf (bI c) := by
  unfold strOf
  congr 1
  apply Array.ext'
  simp [bI, KBw.bInts, Function.comp_def]
noncomputable def wordE (ks : List Int) (i : Nat) : Nat := endP ks 97 122 (i + 1)
noncomputable def wordV (ks : List Int) (i : Nat) : Str := strOf ((ks.drop (i + 1)).take (wordE ks i - (i + 1)))
theorem RSt.mem {w : World} {x d o f : Addr} {b : Array UInt8} {T : Led} {S : RdS} {led : Led} (hS : RSt w x d o f b T S led) :
    RMem w x d o f b S led := by
  obtain ⟨t1, t2, t3, t4, tb, ti, no, nf, k, fs, new, rfl, _⟩ := hS
  exact ⟨t1, t2, t3, t4, tb, ti, .head _, .tail _ (.head _)⟩
noncomputable def hexR : List Int → Option (List Int × Nat)
  | [] => none
  | [k] => if k = 62 then some ([], 1) else none
  | k :: l :: r => if k = 62 then some ([], 1) else
    match hexv k, hexv l with
    | some h, some g => (hexR r).map fun p => ((16 * h + g) :: p.1, p.2 + 2)
    | _, _ => none
theorem hexv_in {k h : Int} (e : hexv k = some h) : 0 ≤ h ∧ h < 16 := by
  unfold hexv at e
  split at e
  · cases e; omega
  split at e
  · cases e; omega
  split at e
  · cases e; omega
  · cases e
structure HexInv (ks : List Int) (j : Nat) (i : Int) (ns : List Int) : Prop where
  lo : (j : Int) ≤ i
  hi : i ≤ ks.length + 1
  len : (2 * ns.length : Int) = i - j
  inn : ∀ n ∈ ns, 0 ≤ n ∧ n < 256
  eq : hexR (ks.drop j) = (hexR (ks.drop i.toNat)).map fun p => (ns ++ p.1, i.toNat - j + p.2)
theorem HexInv.start (ks : List Int) (j : Nat) (h : j ≤ ks.length) : HexInv ks j j [] := by
  refine ⟨Int.le_refl _, by omega, by simp, (by intro n h; cases h), ?_⟩
  rw [Int.toNat_natCast]
  cases hexR (ks.drop j) with
  | none => rfl
  | some p => simp
theorem hexR_two {ks : List Int} {i : Nat} (h : i + 1 < ks.length) : ks.drop i = ks.getD i 0 :: ks.getD (i + 1) 0 :: ks.drop (i + 2) := by
  rw [drop_getD (by omega), drop_getD h]
theorem hex_len2 {n j m : Nat} (h : (2 * n : Int) = (m : Int) - j) : (2 * ((n + 1 : Nat) : Int)) = (m : Int) + 2 - j := by omega
theorem hex_byte {h g : Int} (r1 : 0 ≤ h ∧ h < 16) (r2 : 0 ≤ g ∧ g < 16) : 0 ≤ 16 * h + g ∧ 16 * h + g < 256 := by omega
theorem HexInv.turn {ks : List Int} {j : Nat} {i : Int} {ns : List Int} {h g : Int} (H : HexInv ks j i ns) (h1 : i + 1 < ks.length) (h2 : ks.getD i.toNat 0 ≠ 62) (e1 : hexv (ks.getD i.toNat 0) = some h) (e2 : hexv (ks.getD (i + 1).toNat 0) = some g) :
    HexInv ks j (i + 2) (ns ++ [16 * h + g]) := by
  obtain ⟨lo, hi, len, inn, eq⟩ := H
  obtain ⟨m, rfl⟩ := Int.eq_ofNat_of_zero_le (Int.le_trans (Int.natCast_nonneg j) lo)
  have r1 := hexv_in e1
  have r2 := hexv_in e2
  have h1' : m + 1 < ks.length := Int.ofNat_lt.mp h1
  have lo' : j ≤ m := Int.ofNat_le.mp lo
  change hexv (ks.getD (m + 1) 0) = some g at e2
  change hexv (ks.getD m 0) = some h at e1
  change ks.getD m 0 ≠ 62 at h2
  change hexR (ks.drop j) = (hexR (ks.drop m)).map fun p => (ns ++ p.1, m - j + p.2) at eq
  refine ⟨Int.le_trans lo (Int.le_add_of_nonneg_right (by decide)), Int.ofNat_le.mpr (Nat.succ_le_succ (Nat.le_of_lt h1')), by rw [List.length_append]; exact hex_len2 len, ?_, ?_⟩
  · intro n hn
    rcases List.mem_append.mp hn with hn | hn
    · exact inn n hn
    · rw [List.mem_singleton.mp hn]; exact hex_byte r1 r2
  · rw [eq, hexR_two h1', hexR, if_neg h2, e1, e2]
    change _ = (hexR (ks.drop (m + 2))).map fun p => (ns ++ [16 * h + g] ++ p.1, m + 2 - j + p.2)
    cases hexR (ks.drop (m + 2)) with
    | none => rfl
    | some p =>
      simp only [Option.map_some, List.append_assoc, List.cons_append, List.nil_append]
      congr 2
      rw [Nat.sub_add_comm lo', Nat.add_assoc, Nat.add_comm 2]
theorem HexInv.bad1 {ks : List Int} {j : Nat} {i : Int} {ns : List Int} (H : HexInv ks j i ns) (h1 : i + 1 < ks.length) (h2 : ks.getD i.toNat 0 ≠ 62) (e1 : hexv (ks.getD i.toNat 0) = none ∨ hexv (ks.getD (i + 1).toNat 0) = none) : hexR (ks.drop j) = none := by
  obtain ⟨lo, hi, len, inn, eq⟩ := H
  obtain ⟨m, rfl⟩ := Int.eq_ofNat_of_zero_le (Int.le_trans (Int.natCast_nonneg j) lo)
  change hexv (ks.getD m 0) = none ∨ hexv (ks.getD (m + 1) 0) = none at e1
  change hexR (ks.drop j) = (hexR (ks.drop m)).map fun p => (ns ++ p.1, m - j + p.2) at eq
  change ks.getD m 0 ≠ 62 at h2
  rw [eq, hexR_two (Int.ofNat_lt.mp h1), hexR, if_neg h2]
  rcases e1 with e | e
  · rw [e]; rfl
  · rw [e]; cases hexv (ks.getD m 0) <;> rfl
theorem HexInv.out {ks : List Int} {j : Nat} {i : Int} {ns : List Int} (H : HexInv ks j i ns) (h1 : i < ks.length) (h2 : ks.getD i.toNat 0 = 62) : hexR (ks.drop j) = some (ns, i.toNat - j + 1) := by
  obtain ⟨lo, hi, len, inn, eq⟩ := H
  rw [eq]
  have : hexR (ks.drop i.toNat) = some ([], 1) := by
    rw [drop_getD ((Int.toNat_lt (Int.le_trans (Int.natCast_nonneg j) lo)).mpr h1), h2]
    cases ks.drop (i.toNat + 1) with
    | nil => rfl
    | cons a r => rw [hexR, if_pos rfl]
  rw [this]; simp
theorem HexInv.bad2 {ks : List Int} {j : Nat} {i : Int} {ns : List Int} (H : HexInv ks j i ns) (h1 : ¬ i + 1 < ks.length) (h2 : ¬ i < ks.length ∨ ks.getD i.toNat 0 ≠ 62) : hexR (ks.drop j) = none := by
  obtain ⟨lo, hi, len, inn, eq⟩ := H
  rw [eq]
  obtain ⟨m, rfl⟩ := Int.eq_ofNat_of_zero_le (Int.le_trans (Int.natCast_nonneg j) lo)
  change ¬ (m : Int) < ks.length ∨ ks.getD m 0 ≠ 62 at h2
  have : hexR (ks.drop m) = none := by
    by_cases h : (m : Int) < ks.length
    · rcases h2 with h2 | h2
      · exact absurd h h2
      · rw [drop_getD (Int.ofNat_lt.mp h), List.drop_of_length_le (Int.ofNat_le.mp (Int.not_lt.mp h1)), hexR, if_neg h2]
    · rw [List.drop_of_length_le (Int.ofNat_le.mp (Int.not_lt.mp h))]; rfl
  rw [show hexR (ks.drop (m : Int).toNat) = none from this]; rfl
noncomputable def closeP (S : RdS) : Option RdS :=
  match S.op with
  | [] => none
  | t :: r => some { (RdS.put { S with op := r } (.tup t)) with at_ := S.at_ + 1 }
theorem StkAll.length {led : Led} {k : Stk} {op : List (List D)} (h : StkAll led k op) : k.length = op.length := by
  induction h with
  | nil => rfl
  | cons _ _ ih => rw [List.length_cons, List.length_cons, ih]
theorem stkV_len (k : Stk) : (stkV k).length = k.length := by simp [stkV]
theorem op_len (op : List (List D)) : op.length ≤ (op.map fun t => 1 + D.wts t).sum := by
  induction op with
  | nil => exact Nat.le_refl _
  | cons t r ih => simp only [List.length_cons, List.map_cons, List.sum_cons]; omega
theorem tail_ne {h₀ h : Heap} {L : Addr} {led new T : Led} {k : Stk} {d f c : Addr} {ob : Obj} (N : News h₀ L h led) (hsub : ∀ p ∈ new, p ∈ led) (hn : Tups new) (hlt : ∀ q ∈ k, @LT.lt Nat _ f q.1) (hT : ∀ p ∈ T, @LT.lt Nat _ p.1 d)
    (hc : (c, ob) ∈ led) (hob : ∀ vs n, tupOf vs n ≠ ob) (h1 : @LE.le Nat _ c f) (h2 : @LE.le Nat _ d c) : ∀ p ∈ stkL k ++ (new ++ T), p.1 ≠ c := by
  intro p hp
  rcases List.mem_append.mp hp with hq | hq
  · obtain ⟨q, hq2, e⟩ := List.mem_map.mp hq
    subst e
    exact Nat.ne_of_gt (by have := hlt q hq2; dsimp only; omega)
  rcases List.mem_append.mp hq with hq | hq
  · obtain ⟨vs, n, e⟩ := hn p hq
    obtain ⟨pa, po⟩ := p
    dsimp only at e; subst e
    exact ne_of_obj N (hsub _ hq) hc (hob _ _)
  · exact Nat.ne_of_lt (by have := hT p hq; omega)
end
section
open PySem PySem.W PyProof.Rows PySem.Calls PySem.MeetsSeq PySem.SeqAt PyProof.V PySem.Spec
theorem sgl_none {k : Int} {a b c : Tok} {x y z : Value} (h1 : k ≠ 110) (h2 : k ≠ 116) (h3 : k ≠ 102) : valueAt (intKeyPairs [(.int 110 a, x), (.int 116 b, y), (.int 102 c, z)]) k = none := by
  simp [intKeyPairs, valueAt, Ne.symm h1, Ne.symm h2, Ne.symm h3]
noncomputable def singleP (ks : List Int) (S : RdS) (k : Int) : Option RdS :=
  if k = 110 then some { S.put .none with at_ := S.at_ + 1 }
  else if k = 116 then some { S.put (.bool true) with at_ := S.at_ + 1 }
  else if k = 102 then some { S.put (.bool false) with at_ := S.at_ + 1 }
  else (numP ks S.at_).map fun p => { S.put (.int p.1) with at_ := p.2 }
noncomputable def stepP (ks : List Int) (S : RdS) : Option RdS :=
  let k := ks.getD S.at_ (-1)
  if k = 40 then some { S with at_ := S.at_ + 1, op := [] :: S.op }
  else if k = 41 then closeP S
  else if k = 32 then (if S.op.isEmpty then none else some { S with at_ := S.at_ + 1 })
  else if k = 39 then some { S.put (.str (wordV ks S.at_)) with at_ := wordE ks S.at_ }
  else if k = 60 then (hexR (ks.drop (S.at_ + 1))).map fun p => { S.put (.bytes (byteArr p.1)) with at_ := S.at_ + 1 + p.2 }
  else singleP ks S k
end
section
open PySem PySem.W PyProof.Rows PySem.Calls
theorem digs_len1 (c : Nat) : ∀ n, n < 10 ^ c → (digs n).length ≤ max 1 c := by
  induction c with
  | zero => intro n h; rw [digs_step, if_pos (by omega)]; simp
  | succ c ih =>
    intro n h
    rw [digs_step]
    by_cases h2 : n / 10 = 0
    · rw [if_pos h2]; simp
    · rw [if_neg h2]
      have := ih (n / 10) (by rw [Nat.pow_succ] at h; omega)
      have hc : c ≠ 0 := by rintro rfl; rw [Nat.pow_succ, Nat.pow_zero] at h; omega
      simp only [List.length_cons]; omega
theorem numAbs_bound : ∀ (ks : List Int) (a : Int) (c : Nat), (∀ k ∈ ks, 48 ≤ k ∧ k ≤ 57) → 0 ≤ a → a < 10 ^ c → 0 ≤ ks.foldl (fun n k => 10 * n + k - 48) a ∧ ks.foldl (fun n k => 10 * n + k - 48) a < 10 ^ (c + ks.length) := by
  intro ks
  induction ks with
  | nil => intro a c _ h0 h1; simpa using ⟨h0, h1⟩
  | cons k r ih =>
    intro a c hk h0 h1
    have hk0 := hk k (.head _)
    rw [List.foldl_cons, List.length_cons, show c + (r.length + 1) = (c + 1) + r.length by omega]
    refine ih _ (c + 1) (fun x hx => hk x (.tail _ hx)) (by omega) ?_
    rw [Int.pow_succ]; omega
theorem numAbs_in {ks : List Int} (hk : ∀ k ∈ ks, 48 ≤ k ∧ k ≤ 57) : 0 ≤ numAbs ks ∧ numAbs ks < 10 ^ ks.length := by
  have := numAbs_bound ks 0 0 hk (by omega) (by simp)
  simpa [numAbs] using this
theorem decInts_len {n : Nat} {c : Nat} (h : n < 10 ^ c) (hc : 1 ≤ c) : (decInts (n : Int)).length ≤ c ∧ (decInts (-(n : Int))).length ≤ c + 1 := by
  have h1 := digs_len1 c n h
  have e1 : ((n : Int)).natAbs = n := by simp
  have e2 : (-(n : Int)).natAbs = n := by simp
  unfold decInts
  rw [e1, e2, if_neg (by omega)]
  simp only [List.length_reverse, List.length_append, List.length_nil]
  constructor
  · omega
  · split <;> simp <;> omega
theorem hexR_len : ∀ (ks : List Int) (p : List Int × Nat), hexR ks = some p → p.2 = 2 * p.1.length + 1 ∧ p.2 ≤ ks.length ∧ ∀ n ∈ p.1, 0 ≤ n ∧ n < 256
  | [], p, h => by simp [hexR] at h
  | [k], p, h => by
    simp only [hexR] at h
    split at h
    · cases h; simp
    · cases h
  | k :: l :: r, p, h => by
    simp only [hexR] at h
    split at h
    · cases h; simp
    · cases e1 : hexv k with
      | none => rw [e1] at h; cases h
      | some a =>
        cases e2 : hexv l with
        | none => rw [e1, e2] at h; cases h
        | some b =>
          rw [e1, e2] at h
          cases e3 : hexR r with
          | none => rw [e3] at h; cases h
          | some q =>
            rw [e3] at h
            cases h
            have := hexR_len r q e3
            have r1 := hexv_in e1
            have r2 := hexv_in e2
            refine ⟨by simp; omega, by simp; omega, ?_⟩
            intro n hn
            rcases List.mem_cons.mp hn with rfl | hn
            · omega
            · exact this.2.2 n hn
theorem ascs_app : ∀ (a b : List D), D.ascs (a ++ b) = (D.ascs a && D.ascs b)
  | [], b => by simp [D.ascs]
  | d :: a, b => by rw [List.cons_append, D.ascs, D.ascs, ascs_app a b, Bool.and_assoc]
noncomputable def RdS.asc (s : RdS) : Prop := D.ascs s.fo = true ∧ ∀ t ∈ s.op, D.ascs t = true
theorem RdS.asc_put {s : RdS} {v : D} (h : s.asc) (hv : v.asc = true) : (s.put v).asc := by
  obtain ⟨i, op, fo⟩ := s
  obtain ⟨h1, h2⟩ := h
  cases op with
  | nil => exact ⟨by simp only [RdS.put, ascs_app, D.ascs, hv, Bool.and_true]; simpa using h1, fun t ht => nomatch ht⟩
  | cons t r =>
    refine ⟨h1, fun u hu => ?_⟩
    rcases List.mem_cons.mp hu with rfl | hu
    · rw [ascs_app, h2 t (.head _)]; simp [D.ascs, hv]
    · exact h2 u (.tail _ hu)
structure RdOk (ks : List Int) (S : RdS) : Prop where
  hat : S.at_ ≤ ks.length
  wt : S.wt ≤ S.at_
  asc : S.asc
theorem put_ok {ks : List Int} {S : RdS} {v : D} {j : Nat} (H : RdOk ks S) (hj : j ≤ ks.length) (hw : v.wt + S.at_ ≤ j) (ha : v.asc = true) : RdOk ks { S.put v with at_ := j } := by
  refine ⟨hj, ?_, RdS.asc_put H.asc ha⟩
  have := RdS.wt_put S v
  have h := H.wt
  show (RdS.mk j (S.put v).op (S.put v).fo).wt ≤ j
  have e : (RdS.mk j (S.put v).op (S.put v).fo).wt = (S.put v).wt := rfl
  rw [e]; omega
theorem numP_ok {ks : List Int} {i : Nat} {p : Int × Nat} (hi : i < ks.length) (h : numP ks i = some p) : i < p.2 ∧ p.2 ≤ ks.length ∧ (D.int p.1).wt + i ≤ p.2 := by
  have hst : numStart ks i ≤ ks.length ∧ i ≤ numStart ks i := by unfold numStart; split <;> omega
  have hle := endP_le ks 48 57 hst.1
  have hge := endP_ge ks 48 57 (numStart ks i)
  have hin := @endP_in ks 48 57 (numStart ks i)
  simp only [numP] at h
  split at h
  · cases h
  · rename_i hne
    have hb := numAbs_in hin
    rw [List.length_take, List.length_drop] at hb
    obtain ⟨n, hn⟩ : ∃ n : Nat, numAbs ((ks.drop (numStart ks i)).take (endP ks 48 57 (numStart ks i) - numStart ks i)) = n := ⟨_, (Int.toNat_of_nonneg hb.1).symm⟩
    rw [hn] at h hb
    have hmin : min (endP ks 48 57 (numStart ks i) - numStart ks i) (ks.length - numStart ks i) = endP ks 48 57 (numStart ks i) - numStart ks i := Nat.min_eq_left (Nat.sub_le_sub_right hle _)
    rw [hmin] at hb
    have hgt := Nat.lt_of_le_of_ne hge (Ne.symm hne)
    have hd := decInts_len (n := n) (c := endP ks 48 57 (numStart ks i) - numStart ks i) (by have := hb.2; exact_mod_cast this) (Nat.sub_pos_of_lt hgt)
    cases h
    refine ⟨Nat.lt_of_le_of_lt hst.2 hgt, hle, ?_⟩
    dsimp only [D.wt]
    split <;> omega
noncomputable def OkTo (ks : List Int) (S : RdS) (r : Option RdS) : Prop := ∀ S', r = some S' → RdOk ks S' ∧ S.at_ < S'.at_
section
variable {ks : List Int} {S : RdS}
theorem OkTo.some {S' : RdS} (h : RdOk ks S' ∧ S.at_ < S'.at_) : OkTo ks S (some S') := fun _ e => Option.some.inj e ▸ h
theorem OkTo.none : OkTo ks S none := fun _ e => nomatch e
theorem OkTo.ite {c : Prop} [Decidable c] {a b : Option RdS} (ha : OkTo ks S a) (hb : OkTo ks S b) : OkTo ks S (if c then a else b) := by
  by_cases h : c
  · rw [if_pos h]; exact ha
  · rw [if_neg h]; exact hb
theorem OkTo.map {α : Type} {o : Option α} {f : α → RdS} (h : ∀ p, o = Option.some p → RdOk ks (f p) ∧ S.at_ < (f p).at_) : OkTo ks S (o.map f) := by
  cases o with
  | none => exact .none
  | some p => exact .some (h p rfl)
theorem OkTo.close (H : RdOk ks S) (hi : S.at_ < ks.length) : OkTo ks S (closeP S) := by
  obtain ⟨i, op, fo⟩ := S
  cases op with
  | nil => exact .none
  | cons t r =>
    have hw := H.wt
    refine .some ⟨⟨hi, ?_, RdS.asc_put (s := ⟨i, r, fo⟩) ⟨H.asc.1, fun u hu => H.asc.2 u (.tail _ hu)⟩ (by simpa only [D.asc] using H.asc.2 t (.head _))⟩, Nat.lt_succ_self _⟩
    refine Nat.le_trans (Nat.le_of_eq (RdS.wt_put ⟨i, r, fo⟩ (.tup t))) ?_
    simp only [RdS.wt, List.map_cons, List.sum_cons, D.wt] at *; omega
theorem OkTo.word (H : RdOk ks S) (hi : S.at_ < ks.length) : RdOk ks { S.put (.str (wordV ks S.at_)) with at_ := wordE ks S.at_ } ∧ S.at_ < wordE ks S.at_ := by
  have hle := endP_le ks 97 122 (i := S.at_ + 1) hi
  have hge := endP_ge ks 97 122 (S.at_ + 1)
  refine ⟨put_ok H hle ?_ ?_, hge⟩
  · have : (wordV ks S.at_).cps.size = wordE ks S.at_ - (S.at_ + 1) := by
      simp only [wordV, strOf, List.size_toArray, List.length_map, List.length_take, List.length_drop]
      exact Nat.min_eq_left (Nat.sub_le_sub_right hle _)
    simp only [D.wt, this]
    rw [Nat.add_assoc, Nat.add_comm 1]
    exact Nat.le_of_eq (Nat.sub_add_cancel hge)
  · refine List.all_eq_true.mpr fun c hc => ?_
    obtain ⟨k, hk, rfl⟩ := List.mem_map.mp hc
    have := endP_in (ks := ks) (lo := 97) (hi := 122) (i := S.at_ + 1) k hk
    rw [decide_eq_true_eq]; omega
theorem OkTo.sign (H : RdOk ks S) (hi : S.at_ < ks.length) {v : D} (hw : v.wt = 1) (ha : v.asc = true) : OkTo ks S (Option.some { S.put v with at_ := S.at_ + 1 }) :=
  .some ⟨put_ok H hi (Nat.le_of_eq (by rw [hw, Nat.add_comm])) ha, Nat.lt_succ_self _⟩
theorem OkTo.step (H : RdOk ks S) (hi : S.at_ < ks.length) : OkTo ks S (stepP ks S) := by
  refine .ite (.some ⟨⟨hi, ?_, H.asc.1, fun t ht => (List.mem_cons.mp ht).elim (fun e => e ▸ rfl) (H.asc.2 t)⟩, Nat.lt_succ_self _⟩) (.ite (.close H hi) (.ite (.ite .none (.some ⟨⟨hi, Nat.le_succ_of_le H.wt, H.asc⟩, Nat.lt_succ_self _⟩)) (.ite (.some (OkTo.word H hi)) (.ite (.map fun p e => ?_) (.ite (.sign H hi rfl rfl) (.ite (.sign H hi rfl rfl) (.ite (.sign H hi rfl rfl) (.map fun p e => ?_))))))))
  · have hw := H.wt
    simp only [RdS.wt, List.map_cons, List.sum_cons, D.wts] at *; omega
  · have := hexR_len _ _ e
    rw [List.length_drop] at this
    refine ⟨put_ok H (Nat.add_le_of_le_sub' hi this.2.1) ?_ rfl, Nat.lt_of_lt_of_le (Nat.lt_succ_self _) (Nat.le_add_right _ _)⟩
    simp only [D.wt, byteArr_size0]; omega
  · have := numP_ok hi e
    exact ⟨put_ok H this.2.1 this.2.2 rfl, this.1⟩
end
theorem stepP_ok {ks : List Int} {S S' : RdS} (H : RdOk ks S) (hi : S.at_ < ks.length) (hs : stepP ks S = some S') : RdOk ks S' ∧ S.at_ < S'.at_ := OkTo.step H hi S' hs
noncomputable def runP (ks : List Int) : Nat → RdS → Option RdS
  | 0, S => some S
  | n + 1, S => if S.at_ < ks.length then (stepP ks S).bind (runP ks n) else some S
theorem runP_more (ks : List Int) : ∀ (n k : Nat) (S : RdS), RdOk ks S → ks.length - S.at_ ≤ n → runP ks (n + k) S = runP ks n S := by
  intro n
  induction n with
  | zero =>
    intro k S H h
    have := H.hat
    cases k with
    | zero => rfl
    | succ k => show (if S.at_ < ks.length then _ else _) = _; rw [if_neg (by omega)]; rfl
  | succ n ih =>
    intro k S H h
    rw [Nat.add_right_comm, runP, runP]
    split
    · rename_i hlt
      cases e : stepP ks S with
      | none => rfl
      | some S' =>
        have := stepP_ok H hlt e
        exact ih k S' this.1 (Nat.le_of_lt_succ (Nat.lt_of_lt_of_le (Nat.sub_lt_sub_left hlt this.2) h))
    · rfl
noncomputable def rd0 : RdS := ⟨0, [], []⟩
theorem rd0_ok (ks : List Int) : RdOk ks rd0 := ⟨Nat.zero_le _, by simp [rd0, RdS.wt, D.wts], rfl, fun t h => nomatch h⟩
noncomputable def valueP (ks : List Int) : Bool × D :=
  match runP ks ks.length rd0 with
  | none => (false, .none)
  | some S => if S.op.isEmpty && S.fo.length == 1 then (true, S.fo.getD 0 .none) else (false, .none)
end
section
open PySem PySem.W PyProof.Rows PySem.Calls
theorem run_step {ks : List Int} {S S' : RdS} (H : RdOk ks S) (hi : S.at_ < ks.length) (hs : stepP ks S = some S') : runP ks (ks.length - S.at_) S = runP ks (ks.length - S'.at_) S' := by
  have h := stepP_ok H hi hs
  have hat := h.1.hat
  obtain ⟨k, hk⟩ := Nat.exists_eq_succ_of_ne_zero (Nat.sub_ne_zero_of_lt hi)
  rw [hk, runP, if_pos hi, hs]
  show runP ks k S' = _
  obtain ⟨j, hj⟩ := Nat.exists_eq_add_of_le (Nat.le_of_lt_succ (hk ▸ Nat.sub_lt_sub_left hi h.2 : ks.length - S'.at_ < k.succ))
  rw [hj]
  exact runP_more ks _ j S' h.1 (Nat.le_refl _)
theorem run_none {ks : List Int} {S : RdS} (hi : S.at_ < ks.length) (hs : stepP ks S = none) : runP ks (ks.length - S.at_) S = none := by
  obtain ⟨k, hk⟩ := Nat.exists_eq_succ_of_ne_zero (Nat.sub_ne_zero_of_lt hi)
  rw [hk, runP, if_pos hi, hs]; rfl
theorem run_end {ks : List Int} {S : RdS} (hi : ¬ S.at_ < ks.length) : runP ks (ks.length - S.at_) S = some S := by
  rw [Nat.sub_eq_zero_of_le (Nat.not_lt.mp hi)]; rfl
section
variable {w : World} {A : Around} {E : Value → Shared → Prop} {s : Shared} {h₀ : Heap} {L : Addr} {m : Str → Option Value} {led led' : Led} {prog : Program}
theorem lstLen {a : Addr} {vs : List Value} {n : Nat} {Q : Value → Shared → Prop} (N : News h₀ L s.heap led) (hm : (a, lst vs n) ∈ led) (hz : vs.length ≤ 1000000) (q : ∀ t' k, Q (.int (vs.length : Int) t') { s with toks := k }) : wpAny (model prog w) A (call (.builtin "len") [.ref a]) Q E s := by
  have e : ((vs.toArray.size : Nat) : Int) = vs.length := by rw [List.size_toArray]
  exact call_len_list (isLst N hm) (by rw [e]; omega) (by rw [e]; exact q _ _)
theorem lstItem {value slice : Expr} {a : Addr} {vs : List Value} {n : Nat} {k : Int} {u : Tok} {v : Value} {Q : Value → Shared → Prop} (N : News h₀ L s.heap led) (hm : (a, lst vs n) ∈ led) (h0 : 0 ≤ k) (hf : k < 2 ^ 63) (hx : vs[k.toNat]? = some v) (q : Q v s)
    (hs : subscripted slice false (.ref a) (.int k u) = operate [.ref a, .int k u] (getItem (.ref a) (.int k u)) := by with_unfolding_all rfl) :
    wpAny (model prog w) A (subscriptTail value slice (.ref a) (.int k u)) Q E s := by
  have hl := isLst N hm
  exact tail_any hl.typeIs slot_list_getitem.lookup (wpAny_getItem_list hl h0 hf (by simpa using hx) q) hs
end
theorem pair_out {T new : Led} {q : Addr} {bb : Bool} {v : Value} {dv : D} (hn : Tups new) (hv : DIn (new ++ T) v dv) :
    ∃ new', Tups new' ∧ (q, tupOf [.bool bb, v] 0) :: (new ++ T) = new' ++ T ∧ DIn ((q, tupOf [.bool bb, v] 0) :: (new ++ T)) (.ref q) (.tup [.bool bb, dv]) := by
  refine ⟨(q, tupOf [.bool bb, v] 0) :: new, ?_, rfl, .tup (.head _) (.cons (.bool bb) (.one (hv.mono fun p hp => .tail _ hp)))⟩
  intro z hz
  rcases List.mem_cons.mp hz with rfl | hz
  · exact ⟨_, _, rfl⟩
  · exact hn z hz
theorem RSt.news {w : World} {x d o f : Addr} {b : Array UInt8} {T : Led} {S : RdS} {led : Led} (hS : RSt w x d o f b T S led) : ∃ new, Tups new ∧ ∀ p ∈ new ++ T, p ∈ led := by
  obtain ⟨t1, t2, t3, t4, tb, ti, no, nf, k, fs, new, rfl, hn, _⟩ := hS
  exact ⟨new, hn, fun p hp => .tail _ (.tail _ (.tail _ (.tail _ (List.mem_append.mpr (.inr hp)))))⟩
theorem valueP_none {ks : List Int} (h : runP ks ks.length rd0 = none) : valueP ks = (false, .none) := by unfold valueP; rw [h]
theorem valueP_yes {ks : List Int} {S : RdS} (h : runP ks ks.length rd0 = some S) (h1 : S.op.isEmpty = true) (h2 : S.fo.length = 1) : valueP ks = (true, S.fo.getD 0 .none) := by
  unfold valueP; rw [h]; simp only [h1, h2]; rfl
theorem valueP_no {ks : List Int} {S : RdS} (h : runP ks ks.length rd0 = some S) (h1 : S.op.isEmpty = false ∨ S.fo.length ≠ 1) : valueP ks = (false, .none) := by
  unfold valueP; rw [h]
  have : (S.op.isEmpty && S.fo.length == 1) = false := by
    rcases h1 with h1 | h1
    · rw [h1]; rfl
    · rw [beq_eq_false_iff_ne.mpr h1, Bool.and_false]
  simp only [this]; rfl
end
section
open PySem PySem.W PyProof.Rows PySem.Calls PySem.MeetsSeq PySem.SeqAt PyProof.V PySem.Spec
section
variable {prog : Program} {w : World} {A : Around} {E : Value → Shared → Prop} {s : Shared} {h₀ : Heap} {L : Addr} {m : Str → Option Value} {env : Env}
theorem go_range {r : Addr} {n : Nat} {t u v : Tok} {elt : Expr} {x : Str} {scope : Scope} {cl : List (Str × Addr)} {Fin : Shared → List Value → Led → Prop} {news : Led} (hh : A.handled = none) (F : Fr h₀ L s.heap m) (N : News h₀ L s.heap news) (hr : IsRange s.heap r 0 (n : Int) 1 t u v) (hsz : n ≤ 1000)
    (R : ∀ g, LCg.CompRest prog w A h₀ L m env elt x scope cl { s with heap := g } (fun _ => True) (fun i v => ∃ t, v = .int (0 + (i : Int)) t) (Fin { s with heap := g }) n 0 [] news) :
    wpAny (model prog w) A (pyIter (.ref r)) (CompGo prog w A h₀ L m env elt x scope cl Fin) E s := by
  have hn : Builtin.Range.rangeSize 0 (n : Int) 1 = (n : Int) := by rw [rangeSize_one]; split <;> omega
  have f : ∀ x : Int, 0 ≤ x → x ≤ 5000 → Builtin.Range.rangeFitsLong x = true := by
    intro x h1 h2
    unfold Builtin.Range.rangeFitsLong
    rw [Bool.and_eq_true, decide_eq_true_eq, decide_eq_true_eq]
    omega
  have hsm : Builtin.Range.small 0 (n : Int) 1 = true := by
    unfold Builtin.Range.small
    rw [hn, f 0 (by omega) (by omega), f n (by omega) (by omega), f 1 (by omega) (by omega), if_pos (by decide), f _ (by omega) (by omega)]
    simp
  refine wpAny_pyIter_range hr hsm ?_
  refine ⟨_, _, _, _, _, fun _ => True, news, rfl, LCg.range_walks hh 0 n, by rw [sizeLine_eq]; omega, fun i h st => ⟨_, st⟩, LCg.range_st, ?_, fun b hb => ?_, F.push _, N.grown fun _ _ e => Heap.get?_push_of_some _ e, Nat.ne_of_lt F.ns.lt, next_is_new F,
    fun p hp => Nat.ne_of_lt (Heap.lt_size (N p hp).1), trivial, R _⟩
  · show IsRangeIter _ _ _ _ _
    rw [hn]; simpa using Heap.get?_push_size _ rfl
  · rw [List.mem_singleton.mp hb]; show s.heap.objs.size < (s.heap.push _).objs.size; rw [Heap.size_push]; exact Nat.lt_succ_self _
end
noncomputable def DkIs (w : World) (o : Obj) (C : Addr) (i : Int) : Prop := ∃ t, o.IsDictOf (strKind PySem.Challenge.rw_nt0496_01.row.prog w) [(S "cells", .ref C), (S "at", .int i t)]
structure Cells (led : Led) (C : Addr) (ns : List Int) : Prop where
  ex : ∃ vs k, (C, lst vs k) ∈ led ∧ IntsAre vs ns
  inn : ∀ n ∈ ns, 0 ≤ n ∧ n < 1000000007
  len : ns.length ≤ 60
theorem Cells.mono {led led' : Led} {C : Addr} {ns : List Int} (h : Cells led C ns) (hs : ∀ p ∈ led, p ∈ led') : Cells led' C ns :=
  ⟨let ⟨vs, k, hm, hi⟩ := h.ex; ⟨vs, k, hs _ hm, hi⟩, h.inn, h.len⟩
section
variable {w : World} {A : Around} {E : Value → Shared → Prop} {s : Shared} {h₀ : Heap} {L : Addr} {m : Str → Option Value} {led led' : Led} {dk : Addr} {o : Obj} {C : Addr} {i : Int}
theorem deck_cells {value slice : Expr} {u : Tok} {Q : Value → Shared → Prop} (N : News h₀ L s.heap led) (hm : (dk, o) ∈ led) (hd : DkIs w o C i) (q : Q (.ref C) { s with toks := s.toks + 1 })
    (hs : subscripted slice false (.ref dk) (.str (S "cells") u) = operate [.ref dk, .str (S "cells") u] (getItem (.ref dk) (.str (S "cells") u)) := by with_unfolding_all rfl) (hg : ∀ r, letTemporaryGo value (.ref dk) r = pure () := by intro _; with_unfolding_all rfl) :
    wpAny (model PySem.Challenge.rw_nt0496_01.row.prog w) A (subscriptTail value slice (.ref dk) (.str (S "cells") u)) Q E s := by
  obtain ⟨t, hd⟩ := hd
  exact kda_item N hm hd (strKind_is _ _ _ _) (by rw [valueAt_lookup]; simp [List.lookup]) q hs hg
theorem deck_at {value slice : Expr} {u : Tok} {Q : Value → Shared → Prop} (N : News h₀ L s.heap led) (hm : (dk, o) ∈ led) (hd : DkIs w o C i) (q : ∀ t, Q (.int i t) { s with toks := s.toks + 1 })
    (hs : subscripted slice false (.ref dk) (.str (S "at") u) = operate [.ref dk, .str (S "at") u] (getItem (.ref dk) (.str (S "at") u)) := by with_unfolding_all rfl) (hg : ∀ r, letTemporaryGo value (.ref dk) r = pure () := by intro _; with_unfolding_all rfl) :
    wpAny (model PySem.Challenge.rw_nt0496_01.row.prog w) A (subscriptTail value slice (.ref dk) (.str (S "at") u)) Q E s := by
  obtain ⟨t, hd⟩ := hd
  refine kda_item N hm hd (strKind_is _ _ _ _) ?_ (q t) hs hg
  rw [valueAt_lookup]
  have e : (S "at" == S "cells") = false := by decide +kernel
  simp [List.lookup, e]
end
section
variable {w : World} {A : Around} {E : Value → Shared → Prop} {s : Shared} {h₀ : Heap} {L : Addr} {m : Str → Option Value} {T : Led} {dk : Addr} {o : Obj} {C : Addr} {i : Int}
theorem deck_set {j : Int} {u t : Tok} {Q : Unit → Shared → Prop} (F : Fr h₀ L s.heap m) (N : News h₀ L s.heap ((dk, o) :: T)) (hT : ∀ p ∈ T, p.1 ≠ dk) (hd : DkIs w o C i)
    (q : ∀ h' o', Fr h₀ L h' m → News h₀ L h' ((dk, o') :: T) → DkIs w o' C j → Q () { s with heap := h', toks := s.toks + 1 }) :
    wpAny (model PySem.Challenge.rw_nt0496_01.row.prog w) A (setItem (.ref dk) (.str (S "at") u) (.int j t)) Q E s := by
  obtain ⟨t0, hd⟩ := hd
  refine kda_set F N (UpdF.head hT) hd (strKind_is _ _ _ _) (by rw [sizeLine_eq]; simp) fun h' o' F' N' hd' => q h' o' F' N' ⟨t, ?_⟩
  have e : stored [(S "cells", Value.ref C), (S "at", Value.int i t0)] (S "at") (Value.int j t) = [(S "cells", Value.ref C), (S "at", Value.int j t)] := by
    have e1 : S "cells" ≠ S "at" := by decide +kernel
    simp [stored, e1]
  rw [← e]; exact hd'
theorem IntsAre.pick {vs : List Value} {ns : List Int} (h : IntsAre vs ns) : ∀ {k : Nat}, k < ns.length → ∃ t, vs[k]? = some (.int (ns.getD k 0) t) := by
  induction h with
  | nil => intro k hk; exact absurd hk (Nat.not_lt_zero _)
  | cons n t _ ih =>
    intro k hk
    cases k with
    | zero => exact ⟨t, rfl⟩
    | succ k => exact ih (Nat.lt_of_succ_lt_succ hk)
theorem cell_item {value slice : Expr} {a : Addr} {vs : List Value} {ns : List Int} {n : Nat} {k : Int} {u : Tok} {Q : Value → Shared → Prop} (N : News h₀ L s.heap T) (hm : (a, lst vs n) ∈ T) (hi : IntsAre vs ns) (hin : ∀ n ∈ ns, 0 ≤ n ∧ n < 1000000007) (h0 : 0 ≤ k) (h1 : k < ns.length)
    (hz : ns.length ≤ 60) (q : ∀ t, 0 ≤ ns.getD k.toNat 0 → ns.getD k.toNat 0 < 1000000007 → Q (.int (ns.getD k.toNat 0) t) s) (hs : subscripted slice false (.ref a) (.int k u) = operate [.ref a, .int k u] (getItem (.ref a) (.int k u)) := by with_unfolding_all rfl) :
    wpAny (model PySem.Challenge.rw_nt0496_01.row.prog w) A (subscriptTail value slice (.ref a) (.int k u)) Q E s := by
  obtain ⟨t, ht⟩ := IntsAre.pick hi (k := k.toNat) (by omega)
  have hx : ns.getD k.toNat 0 ∈ ns := by
    have : k.toNat < ns.length := by omega
    rw [List.getD_eq_getElem?_getD, List.getElem?_eq_getElem this]; exact List.getElem_mem this
  exact lstItem N hm h0 (by omega) ht (q t (hin _ hx).1 (hin _ hx).2) hs
end
theorem fmod_in {a b : Int} (hb : 0 < b) : 0 ≤ a.fmod b ∧ a.fmod b < b := by
  rw [Int.fmod_eq_emod_of_nonneg _ (Int.le_of_lt hb)]
  exact ⟨Int.emod_nonneg _ (by omega), Int.emod_lt_of_pos _ hb⟩
noncomputable def NewT (new T : Led) : Prop := Tups new ∧ ∀ q ∈ new, ∀ p ∈ T, p.1 ≠ q.1
theorem NewT.nil (T : Led) : NewT [] T := ⟨(fun _ h => nomatch h), (fun _ h => nomatch h)⟩
theorem NewT.cons {new T : Led} {q : Addr} {vs : List Value} {n : Nat} (h : NewT new T) (hq : ∀ p ∈ T, p.1 ≠ q) : NewT ((q, tupOf vs n) :: new) T := by
  refine ⟨fun z hz => ?_, fun z hz => ?_⟩
  · rcases List.mem_cons.mp hz with rfl | hz
    · exact ⟨_, _, rfl⟩
    · exact h.1 z hz
  · rcases List.mem_cons.mp hz with rfl | hz
    · exact hq
    · exact h.2 z hz
inductive KeptD (P : D → Prop) (led : Led) (r : Value) : Prop
  | mk (d : D) (hv : DIn led r d) (hp : P d) : KeptD P led r
inductive DOut (w : World) (dk C : Addr) (T : Led) (i K : Int) (P : Led → Value → Prop) (led' : Led) (r : Value) : Prop
  | mk (o' : Obj) (new : Led) (j : Int) (h : led' = (dk, o') :: (new ++ T)) (hn : NewT new T) (hd : DkIs w o' C j) (h1 : i ≤ j) (h2 : j ≤ i + K) (hp : P new r) : DOut w dk C T i K P led' r
theorem menu5 {n : Int} (_h0 : 0 ≤ n) (_h1 : n < 5) : 0 ≤ ([0, 9, 65, 255, 40] : List Int).getD n.toNat 0 ∧ ([0, 9, 65, 255, 40] : List Int).getD n.toNat 0 < 256 := by
  have key : ∀ k : Nat, k < 5 → 0 ≤ ([0, 9, 65, 255, 40] : List Int).getD k 0 ∧ ([0, 9, 65, 255, 40] : List Int).getD k 0 < 256 := by decide
  exact key _ (by omega)
inductive DOut0 (w : World) (dk C : Addr) (T : Led) (i K : Int) (P : Value → Prop) (led' : Led) (r : Value) : Prop
  | mk (o' : Obj) (j : Int) (h : led' = (dk, o') :: T) (hd : DkIs w o' C j) (h1 : i ≤ j) (h2 : j ≤ i + K) (hp : P r) : DOut0 w dk C T i K P led' r
theorem menuStr {w : World} {A : Around} {E : Value → Shared → Prop} {s : Shared} {h₀ : Heap} {L : Addr} {T : Led} {value slice : Expr} {a : Addr} {vs : List Value} {ys : List Str} {n : Nat} {k : Int} {u : Tok} {Q : Value → Shared → Prop} (N : News h₀ L s.heap T) (hm : (a, lst vs n) ∈ T) (hi : StrsAre vs ys)
    (h0 : 0 ≤ k) (h1 : k < ys.length) (hz : ys.length ≤ 60) (q : ∀ t x, x = ys.getD k.toNat ⟨#[]⟩ → Q (.str x t) s) (hs : subscripted slice false (.ref a) (.int k u) = operate [.ref a, .int k u] (getItem (.ref a) (.int k u)) := by with_unfolding_all rfl) :
    wpAny (model PySem.Challenge.rw_nt0496_01.row.prog w) A (subscriptTail value slice (.ref a) (.int k u)) Q E s := by
  have key : ∀ {vs : List Value} {ys : List Str}, StrsAre vs ys → ∀ {k : Nat}, k < ys.length → ∃ t, vs[k]? = some (.str (ys.getD k ⟨#[]⟩) t) := by
    intro vs ys h
    induction h with
    | nil => intro k hk; exact absurd hk (Nat.not_lt_zero _)
    | cons n t _ ih =>
      intro k hk
      cases k with
      | zero => exact ⟨t, rfl⟩
      | succ k => exact ih (Nat.lt_of_succ_lt_succ hk)
  obtain ⟨t, ht⟩ := key hi (k := k.toNat) (by omega)
  exact lstItem N hm h0 (by omega) ht (q t _ rfl) hs
end
section
open PySem PySem.W PyProof.Rows PySem.Calls
noncomputable def letters (x : Str) : Bool := x.cps.toList.all fun c => decide (97 ≤ c) && decide (c ≤ 122)
mutual
noncomputable def D.good : D → Bool
  | .int i => decide (i.natAbs < 1000000)
  | .str x => letters x
  | .bytes b => decide (b.size ≤ 1000)
  | .tup ds => D.goods ds
  | _ => true
noncomputable def D.goods : List D → Bool
  | [] => true
  | d :: r => d.good && D.goods r
end
structure GW (ds : List D) (W m : Nat) : Prop where
  good : D.goods ds = true
  wt : D.wts ds ≤ W
  dep : D.deps ds ≤ m
theorem dec_small {i : Int} (h : i.natAbs < 10000) : (decInts i).length ≤ 5 := by
  by_cases h0 : 0 ≤ i
  · obtain ⟨n, rfl⟩ := Int.eq_ofNat_of_zero_le h0
    have := decInts_len (n := n) (c := 4) (by have h10 : (10:Nat)^4 = 10000 := (by decide); omega) (by omega)
    omega
  · obtain ⟨n, hn⟩ := Int.eq_ofNat_of_zero_le (a := -i) (by omega)
    have e : i = -(n : Int) := by omega
    subst e
    have := decInts_len (n := n) (c := 4) (by have h10 : (10:Nat)^4 = 10000 := (by decide); omega) (by omega)
    omega
theorem GW.nil {m : Nat} : GW [] 0 m := ⟨rfl, Nat.le_refl _, Nat.zero_le _⟩
theorem GW.cons {d : D} {ds : List D} {a W m : Nat} (g : d.good = true) (w : d.wt ≤ a) (e : d.dep ≤ m) (r : GW ds W m) : GW (d :: ds) (a + W) m :=
  ⟨by rw [D.goods, g, r.good]; rfl, by rw [D.wts]; exact Nat.add_le_add w r.wt, by rw [D.deps]; exact Nat.max_le.mpr ⟨e, r.dep⟩⟩
theorem GW.int {n : Int} {ds : List D} {W m : Nat} (h : n.natAbs < 10000) (r : GW ds W m) : GW (.int n :: ds) (5 + W) m := r.cons (decide_eq_true (Nat.lt_of_lt_of_le h (by decide))) (dec_small h) (Nat.zero_le _)
theorem GW.nat {n b : Int} {ds : List D} {W m : Nat} (h : 0 ≤ n ∧ n < b) (r : GW ds W m) (hb : b ≤ 10000 := by decide) : GW (.int n :: ds) (5 + W) m := r.int (by omega)
theorem GW.str {x : Str} {k : Nat} {ds : List D} {W m : Nat} (h : letters x = true ∧ x.cps.size ≤ k) (r : GW ds W m) : GW (.str x :: ds) (k + 1 + W) m := r.cons h.1 (Nat.succ_le_succ h.2) (Nat.zero_le _)
theorem GW.bool {b : Bool} {ds : List D} {W m : Nat} (r : GW ds W m) : GW (.bool b :: ds) (1 + W) m := r.cons rfl (Nat.le_refl _) (Nat.zero_le _)
theorem GW.tup {ds : List D} {W m W' m' : Nat} (r : GW ds W m) (hW : Nat.ble (2 + W) W' = true := by rfl) (hm : Nat.ble (1 + m) m' = true := by rfl) : (D.tup ds).good = true ∧ (D.tup ds).wt ≤ W' ∧ (D.tup ds).dep ≤ m' :=
  ⟨r.good, Nat.le_trans (Nat.add_le_add_left r.wt 2) (Nat.le_of_ble_eq_true hW), Nat.le_trans (Nat.add_le_add_left r.dep 1) (Nat.le_of_ble_eq_true hm)⟩
theorem GW.app {a b : List D} {A B m : Nat} (h : GW a A m) (k : GW b B m) : GW (a ++ b) (A + B) m := match a, A, h with
  | [], _, h => ⟨k.good, Nat.le_trans k.wt (Nat.le_add_left _ _), k.dep⟩
  | d :: r, A, h => by
    have g := h.good
    rw [D.goods, Bool.and_eq_true] at g
    have w := h.wt
    rw [D.wts] at w
    have e := h.dep
    rw [D.deps] at e
    have z := GW.app (A := A - d.wt) (a := r) ⟨g.2, Nat.le_sub_of_add_le (by rw [Nat.add_comm]; exact w), (Nat.max_le.mp e).2⟩ k
    have q := GW.cons g.1 (Nat.le_refl d.wt) (Nat.max_le.mp e).1 z
    have hle : d.wt ≤ A := Nat.le_trans (Nat.le_add_right _ _) w
    rw [← Nat.add_assoc, Nat.add_sub_of_le hle] at q
    exact q
structure RecOk (d : D) : Prop where
  good : d.good = true
  isr : isRecipe d = true
  wt : d.wt ≤ 80
  dep : d.dep ≤ 1
theorem DOut.tup {w : World} {dk C q : Addr} {T : Led} {i K j : Int} {o' : Obj} {vs : List Value} {ds : List D} {P : D → Prop} (hdk : DkIs w o' C j) (h1 : i ≤ j) (h2 : j ≤ i + K) (hall : DAll [] vs ds) (hp : P (.tup ds)) (hq : ∀ p ∈ T, p.1 ≠ q) :
    DOut w dk C T i K (KeptD P) ((dk, o') :: ([(q, tupOf vs 0)] ++ T)) (.ref q) :=
  ⟨o', [(q, tupOf vs 0)], j, rfl, (NewT.nil T).cons hq, hdk, h1, h2, _, .tup (.head _) (hall.mono (by intro p h; cases h)), hp⟩
theorem rec_body {n1 n2 n3 n4 k : Int} {b : Bool} {x : Str} (h1 : 0 ≤ n1 ∧ n1 < 30) (h2 : 0 ≤ n2 ∧ n2 < 5) (h3 : 0 ≤ n3 ∧ n3 < 5) (h4 : 0 ≤ n4 ∧ n4 < 4) (hk : 0 ≤ k ∧ k < 7) (hx : x = bodyKinds.getD k.toNat ⟨#[]⟩) :
    RecOk (.tup [.str (S "body"), .int n1, .str x, .int n2, .int n3, .bool b, .int n4]) := by
  have key : ∀ k : Nat, k < 7 → letters (bodyKinds.getD k ⟨#[]⟩) = true ∧ (D.str (bodyKinds.getD k ⟨#[]⟩)).inS bodyKinds = true ∧ (bodyKinds.getD k ⟨#[]⟩).cps.size ≤ 6 := by decide +kernel
  have hk2 := key k.toNat (by omega)
  rw [← hx] at hk2
  have e1 : letters (S "body") = true ∧ (S "body").cps.size ≤ 4 := by decide +kernel
  have e2 : (S "body" == S "plain") = false := by decide +kernel
  have w := GW.tup (W' := 80) (m' := 1) (.str e1 (.nat h1 (.str (k := 6) ⟨hk2.1, hk2.2.2⟩ (.nat h2 (.nat h3 (.bool (b := b) (.nat h4 (.nil (m := 0)))))))))
  refine ⟨w.1, ?_, w.2.1, w.2.2⟩
  simp only [isRecipe, List.length_cons, List.length_nil, List.getD_cons_zero, List.getD_cons_succ, D.isS, e2]
  have e3 : (S "body" == Str.ofString "body") = true := by decide +kernel
  simp [e3, hk2.2.1, D.kind, D.isNum, h1.1, h2.1, h3.1, h4.1]
noncomputable abbrev plain7 : List Str := [S "integer", S "real", S "fontid", S "boolean", S "null", S "mark", S "name"]
theorem rec_plain {n : Int} {b : Bool} {x : Str} {v : D} (h4 : 0 ≤ n ∧ n < 4) (hx : letters x = true ∧ x.cps.size ≤ 8) (hv : v.good = true) (hvw : v.wt ≤ 20) (hvd : v.dep = 0) (hp : isPlain (.str x) v = true) : RecOk (.tup [.str (S "plain"), .str x, v, .bool b, .int n]) := by
  have e1 : letters (S "plain") = true ∧ (S "plain").cps.size ≤ 5 := by decide +kernel
  have w := GW.tup (W' := 80) (m' := 1) (.str e1 (.str hx (.cons hv hvw (Nat.le_of_eq hvd) (.bool (b := b) (.nat h4 (.nil (m := 0)))))))
  refine ⟨w.1, ?_, w.2.1, w.2.2⟩
  have e3 : (S "plain" == Str.ofString "plain") = true := by decide +kernel
  simp only [isRecipe, List.length_cons, List.length_nil, List.getD_cons_zero, List.getD_cons_succ, D.isS, e3]
  simp [hp, D.kind, D.isNum, h4.1]
theorem plain7_at : ∀ k : Nat, k < 7 → letters (plain7.getD k ⟨#[]⟩) = true ∧ (plain7.getD k ⟨#[]⟩).cps.size ≤ 8 := by decide +kernel
theorem plain_int {k : Int} {x : Str} (h : 0 ≤ k ∧ k < 3) (hx : x = plain7.getD k.toNat ⟨#[]⟩) (i : Int) : isPlain (.str x) (.int i) = true := by
  have key : ∀ k : Nat, k < 3 → isPlain (.str (plain7.getD k ⟨#[]⟩)) (.int 0) = true := by decide +kernel
  have h2 := key k.toNat (by omega)
  rw [← hx] at h2
  exact h2
theorem plain_bool {x : Str} (hx : x = plain7.getD 3 ⟨#[]⟩) (b : Bool) : isPlain (.str x) (.bool b) = true := by
  subst hx; cases b <;> decide +kernel
theorem plain_none {k : Int} {x : Str} (h : k = 4 ∨ k = 5) (hx : x = plain7.getD k.toNat ⟨#[]⟩) : isPlain (.str x) .none = true := by
  subst hx; rcases h with rfl | rfl <;> decide +kernel
theorem plain_bytes {k : Int} {x : Str} (h : 0 ≤ k ∧ k < 2) (hx : x = [S "name", S "operator"].getD k.toNat ⟨#[]⟩) (b : Array UInt8) : isPlain (.str x) (.bytes b) = true := by
  have key : ∀ k : Nat, k < 2 → isPlain (.str ([S "name", S "operator"].getD k ⟨#[]⟩)) (.bytes #[]) = true := by decide +kernel
  have h2 := key k.toNat (by omega)
  rw [← hx] at h2
  exact h2
theorem nameop_at : ∀ k : Nat, k < 2 → letters ([S "name", S "operator"].getD k ⟨#[]⟩) = true ∧ ([S "name", S "operator"].getD k ⟨#[]⟩).cps.size ≤ 8 := by decide +kernel
theorem dk_ne_tup {w : World} {o : Obj} {C : Addr} {i : Int} (h : DkIs w o C i) (vs : List Value) (n : Nat) : tupOf vs n ≠ o := by
  rintro rfl
  obtain ⟨t, h⟩ := h
  obtain ⟨_, h2⟩ := h
  simp at h2
structure SeenOk (d : D) : Prop where
  good : d.good = true
  iss : isSeen d = true
  wt : d.wt ≤ 80
  dep : d.dep ≤ 2
structure PairsOk (ds : List D) : Prop where
  good : D.goods ds = true
  iss : ds.all isPair = true
  wt : D.wts ds ≤ 12 * ds.length
  dep : D.deps ds ≤ 1
theorem PairsOk.nil : PairsOk [] := ⟨rfl, rfl, Nat.le_refl _, Nat.zero_le _⟩
theorem PairsOk.snoc {ds : List D} {a b : Int} (h : PairsOk ds) (ha : 0 ≤ a ∧ a < 9) (hb : 0 ≤ b ∧ b < 9) : PairsOk (ds ++ [.tup [.int a, .int b]]) := by
  have w := GW.app ⟨h.good, h.wt, h.dep⟩ (GW.cons (a := 12) (m := 1) (W := 0) (GW.tup (W' := 12) (m' := 1) (.nat ha (.nat hb (.nil (m := 0))))).1 (GW.tup (W' := 12) (m' := 1) (.nat ha (.nat hb (.nil (m := 0))))).2.1 (GW.tup (W' := 12) (m' := 1) (.nat ha (.nat hb (.nil (m := 0))))).2.2 .nil)
  refine ⟨w.good, ?_, by rw [List.length_append]; exact w.wt, w.dep⟩
  rw [List.all_append, h.iss]
  simp [isPair, D.isNum, ha.1, hb.1]
theorem PairsOk.seen {ds : List D} (h : PairsOk ds) (hl : ds.length ≤ 2) : SeenOk (.tup ds) := by
  refine ⟨h.good, h.iss, ?_, ?_⟩
  · have := h.wt
    simp only [D.wt]; omega
  · have := h.dep
    simp only [D.dep]; omega
structure RowOk (d : D) : Prop where
  good : d.good = true
  isr : isRow d = true
  wt : d.wt ≤ 400
  dep : d.dep ≤ 4
structure RecsOk (ds : List D) : Prop where
  good : D.goods ds = true
  isr : ds.all isRecipe = true
  wt : D.wts ds ≤ 80 * ds.length
  dep : D.deps ds ≤ 1
theorem RecsOk.nil : RecsOk [] := ⟨rfl, rfl, Nat.le_refl _, Nat.zero_le _⟩
theorem RecsOk.snoc {ds : List D} {d : D} (h : RecsOk ds) (hd : RecOk d) : RecsOk (ds ++ [d]) := by
  have w := GW.app ⟨h.good, h.wt, h.dep⟩ (GW.cons hd.good hd.wt hd.dep .nil)
  exact ⟨w.good, by rw [List.all_append, h.isr]; simp [hd.isr], by rw [List.length_append]; exact w.wt, w.dep⟩
inductive RowPs : List Str → List D → Nat → Prop
  | nil : RowPs [] [] 0
  | cons {k : Str} {d : D} {ks : List Str} {ds : List D} {a W : Nat} (p : isPart (.str k) d = true) (g : d.good = true) (w : d.wt ≤ a) (e : d.dep ≤ 3) (r : RowPs ks ds W) : RowPs (k :: ks) (d :: ds) (a + W)
theorem RowPs.all {ks : List Str} {ds : List D} {W : Nat} (h : RowPs ks ds W) : ds.length = ks.length ∧ ((ks.zip ds).all fun p => isPart (.str p.1) p.2) = true ∧ GW ds W 3 := by
  induction h with
  | nil => exact ⟨rfl, rfl, .nil⟩
  | cons p g w e r ih => exact ⟨congrArg (· + 1) ih.1, by rw [List.zip_cons_cons, List.all_cons, ih.2.1, p]; rfl, .cons g w e ih.2.2⟩
theorem row_of {x : Str} {ks : List Str} {ds : List D} {W : Nat} (hl : shapesL.lookup x = some ks) (hx : letters x = true ∧ x.cps.size ≤ 6) (r : RowPs ks ds W) (hW : Nat.ble (2 + (6 + 1 + W)) 400 = true := by rfl) : RowOk (.tup (.str x :: ds)) := by
  have h := r.all
  have w := GW.tup (W' := 400) (m' := 4) (.str hx h.2.2) hW rfl
  refine ⟨w.1, ?_, w.2.1, w.2.2⟩
  simp only [isRow, hl, h.2.1, Bool.and_true, decide_eq_true_eq]
  exact h.1
theorem part_rec {d : D} (h : RecOk d) : isPart (.str (S "recipe")) d = true := by
  have e : (D.str (S "recipe")).isS (Str.ofString "recipe") = true := by decide +kernel
  unfold isPart; rw [if_pos e]; exact h.isr
theorem part_recs {ds : List D} (h : RecsOk ds) : isPart (.str (S "recipes")) (.tup ds) = true := by
  have e1 : ¬ (D.str (S "recipes")).isS (Str.ofString "recipe") = true := by decide +kernel
  have e2 : (D.str (S "recipes")).isS (Str.ofString "recipes") = true := by decide +kernel
  unfold isPart; rw [if_neg e1, if_pos e2]; exact h.isr
theorem part_seen {d : D} (h : SeenOk d) : isPart (.str (S "seen")) d = true := by
  have e1 : ¬ (D.str (S "seen")).isS (Str.ofString "recipe") = true := by decide +kernel
  have e2 : ¬ (D.str (S "seen")).isS (Str.ofString "recipes") = true := by decide +kernel
  have e3 : (D.str (S "seen")).isS (Str.ofString "seen") = true := by decide +kernel
  unfold isPart; rw [if_neg e1, if_neg e2, if_pos e3]; exact h.iss
theorem part_octets {b : Array UInt8} : isPart (.str (S "octets")) (.bytes b) = true := by
  have e1 : ¬ (D.str (S "octets")).isS (Str.ofString "recipe") = true := by decide +kernel
  have e2 : ¬ (D.str (S "octets")).isS (Str.ofString "recipes") = true := by decide +kernel
  have e3 : ¬ (D.str (S "octets")).isS (Str.ofString "seen") = true := by decide +kernel
  have e4 : (D.str (S "octets")).isS (Str.ofString "octets") = true := by decide +kernel
  unfold isPart; rw [if_neg e1, if_neg e2, if_neg e3, if_pos e4]; rfl
theorem part_truth {b : Bool} : isPart (.str (S "truth")) (.bool b) = true := by cases b <;> decide +kernel
theorem part_num {i : Int} (h : 0 ≤ i) : isPart (.str (S "number")) (.int i) = true := by
  have e1 : ¬ (D.str (S "number")).isS (Str.ofString "recipe") = true := by decide +kernel
  have e2 : ¬ (D.str (S "number")).isS (Str.ofString "recipes") = true := by decide +kernel
  have e3 : ¬ (D.str (S "number")).isS (Str.ofString "seen") = true := by decide +kernel
  have e4 : ¬ (D.str (S "number")).isS (Str.ofString "octets") = true := by decide +kernel
  have e5 : ¬ (D.str (S "number")).isS (Str.ofString "truth") = true := by decide +kernel
  unfold isPart; rw [if_neg e1, if_neg e2, if_neg e3, if_neg e4, if_neg e5]; simp [D.isNum, h]
theorem NewT.app {n k T : Led} (hn : NewT n T) (hk : NewT k (n ++ T)) : NewT (k ++ n) T := by
  refine ⟨fun q hq => (List.mem_append.mp hq).elim (hk.1 q) (hn.1 q), fun q hq p hp => ?_⟩
  rcases List.mem_append.mp hq with hq | hq
  · exact hk.2 q hq p (List.mem_append.mpr (.inr hp))
  · exact hn.2 q hq p hp
end
section
open PySem PySem.W PyProof.Rows PySem.Calls
section
variable {w : World} {σ : Sta} {l : Loc} {led : Led}
theorem V.withNews {α : Type} {t : Env → Sem α} {Q : α → Loc → Led → Prop} (h : ∀ (h₀ hp : Heap) (L : Addr), News h₀ L hp led → V w σ l led t Q) : V w σ l led t Q :=
  .mk fun δ hp tk R D F N kR => (h δ.h₀ hp δ.L N).go δ hp tk R D F N kR
theorem V.attr {x d C : Addr} {es : List DictEntry} {n : Nat} {name : Str} {expr : Bool} {v : Value} {attr : Option Value} {Q : Value → Loc → Led → Prop} (h1 : (x, instObj C d) ∈ led) (h2 : (d, dictOf es n) ∈ led)
    (hg : plainGet (hd.heap_1 w.params) C name = true) (hh : hasDictIn (hd.heap_1 w.params) C = true) (ha : findIn (hd.heap_1 w.params) (.ref C) name = some attr) (hn : noGet (hd.heap_1 w.params) attr = true) (hl : getL name es = some (some v)) (hv : handedIn v = true)
    (h : Q v l led) : V w σ l led (fun _ => getAttr (.ref x) name expr) Q :=
  .mk fun _ _ _ _ D F N kR => get_own F D.X (InstAt.of_news N h1 h2) hg hh ha hn hl hv (kR _ _ _ _ _ F N h)
theorem V.meth0 {xn name : Str} {xp apos pos : Pos} {x d C fm : Addr} {es : List DictEntry} {n : Nat} {Q : Value → Loc → Led → Prop} (hx : vlk σ l xn = some (.ref x)) (h1 : (x, instObj C d) ∈ led) (h2 : (d, dictOf es n) ∈ led)
    (hg : plainGet (hd.heap_1 w.params) C name = true) (hf : findIn (hd.heap_1 w.params) (.ref C) name = some (some (.ref fm))) (ht : isFn (hd.heap_1 w.params) (.ref fm) = true) (hl : getL name es = some none) (hk : keepIn (hd.heap_1 w.params) (.ref fm) = true)
    (pl : Env → Sem Bool) (he : ∀ env, PySem.eval (.Call (.Attribute (.Name xn xp) name apos) [] [] pos) env = (do
      let ov ← PySem.eval (.Name xn xp) env
      standAt apos.atName
      let (f, first) ← holding [ov] (getMethod ov name (pl env))
      callWith pos f first (backTo pos (starEach [] env)) []))
    (h : V w σ l led (fun _ => PySem.call (.ref fm) [.ref x]) Q) : V w σ l led (PySem.eval (.Call (.Attribute (.Name xn xp) name apos) [] [] pos)) Q :=
  .mk fun δ hp tk R D F N kR => MethodCall_ ((D.lks F).lkOk _ _ hx _ _ _ (method_inst (s := ⟨hp, δ.g, δ.d, tk, δ.o⟩) F D.X (InstAt.of_news N h1 h2) hg hf ht hl
    (callWith_K0 (K := hd.heap_1 w.params) (D.X.keeps F.keep) hk (h.go δ hp tk R D F N kR)))) (he _)
theorem V.meth {xn name : Str} {xp apos pos : Pos} {x d C fm : Addr} {es : List DictEntry} {n : Nat} {e : Expr} {r : List Expr} {Q : Value → Loc → Led → Prop} (hx : vlk σ l xn = some (.ref x)) (h1 : (x, instObj C d) ∈ led) (h2 : (d, dictOf es n) ∈ led)
    (hg : plainGet (hd.heap_1 w.params) C name = true) (hf : findIn (hd.heap_1 w.params) (.ref C) name = some (some (.ref fm))) (ht : isFn (hd.heap_1 w.params) (.ref fm) = true) (hl : getL name es = some none) (hk : keepIn (hd.heap_1 w.params) (.ref fm) = true) (hp : adPlain (e :: r) = true)
    (pl : Env → Sem Bool) (he : ∀ env, PySem.eval (.Call (.Attribute (.Name xn xp) name apos) (e :: r) [] pos) env = (do
      let ov ← PySem.eval (.Name xn xp) env
      standAt apos.atName
      let (f, first) ← holding [ov] (getMethod ov name (pl env))
      callWith pos f first (backTo pos (starEach (e :: r) env)) []))
    (h : V w σ l led (fun env => spliced (backTo pos (starEach (e :: r) env))) (kCallM w σ (.ref fm) (.ref x) Q)) : V w σ l led (PySem.eval (.Call (.Attribute (.Name xn xp) name apos) (e :: r) [] pos)) Q :=
  .mk fun δ hh tk R D F N kR => MethodCall_ ((D.lks F).lkOk _ _ hx _ _ _ (method_inst (s := ⟨hh, δ.g, δ.d, tk, δ.o⟩) F D.X (InstAt.of_news N h1 h2) hg hf ht hl
    (callWith_K (K := hd.heap_1 w.params) (h₀ := hh) (D.X.keeps F.keep) hk (h.go δ hh tk _ D F N fun vs h₁ t₁ l₁ led₁ F₁ N₁ q => ⟨D.X.keeps F₁.keep, q.go δ h₁ t₁ R D F₁ N₁ kR⟩) (star_cons (plain_cons hp).1) (plain_args (plain_cons hp).2)))) (he _)
theorem V.assignAttr {ob value : Expr} {attr : Str} {p pos : Pos} {Q : Flow → Loc → Led → Prop} (hn : noComp value = true) (h : V w σ l led (PySem.eval value) (kE1 w σ ob (kSetA w σ attr Q))) :
    V w σ l led (exec (.Assign [.Attribute ob attr p] value pos)) Q :=
  .mk fun δ hp tk R D F N kR => plainObj_wpAny_Assign_Attribute (h.go δ hp tk _ D F N fun _ h₁ t₁ _ _ F₁ N₁ q => q.go δ h₁ t₁ _ D F₁ N₁ fun _ h₂ t₂ _ _ F₂ N₂ q₂ => q₂.go δ h₂ t₂ _ D F₂ N₂ fun _ _ _ _ _ F₃ N₃ q₃ => kR _ _ _ _ _ F₃ N₃ q₃) (noComp_ok hn)
theorem V.eqNil {a b : Addr} {vs : List Value} {n k : Nat} {Q : Value → Loc → Led → Prop} (hm : (a, lst vs n) ∈ led) (hb : (b, lst [] k) ∈ led) (h : Q (.bool vs.isEmpty) l led) : V w σ l led (fun _ => compareOp .Eq (.ref a) (.ref b)) Q :=
  .mk fun _ _ _ _ D F N kR => Mine.eqNil (Nat.lt_of_le_of_lt (Nat.le_add_right _ _) D.hu) N hm hb (kR _ _ _ _ _ F N h)
theorem V.neNil {a b : Addr} {vs : List Value} {n k : Nat} {Q : Value → Loc → Led → Prop} (hm : (a, lst vs n) ∈ led) (hb : (b, lst [] k) ∈ led) (h : Q (.bool (!vs.isEmpty)) l led) : V w σ l led (fun _ => compareOp .NotEq (.ref a) (.ref b)) Q :=
  .mk fun _ _ _ _ D F N kR => Mine.neNil (Nat.lt_of_le_of_lt (Nat.le_add_right _ _) D.hu) N hm hb (kR _ _ _ _ _ F N h)
theorem V.lLast {value slice : Expr} {a : Addr} {vs : List Value} {n : Nat} {u : Tok} {v : Value} {Q : Value → Loc → Led → Prop} (hm : (a, lst vs n) ∈ led) (hx : vs.getLast? = some v) (h : Q v l led)
    (hs : subscripted slice false (.ref a) (.int (-1) u) = operate [.ref a, .int (-1) u] (getItem (.ref a) (.int (-1) u)) := by with_unfolding_all rfl) : V w σ l led (fun _ => subscriptTail value slice (.ref a) (.int (-1) u)) Q :=
  .mk fun _ _ _ _ _ F N kR => lastItemG N hm hx (kR _ _ _ _ _ F N h) hs
inductive AppT (a : Addr) (Q : Flow → Loc → Led → Prop) (v : Value) (l₂ : Loc) (led₂ : Led) : Prop
  | mk (vs : List Value) (n : Nat) (led₃ : Led) (U : Upd a (lst vs n) (lst (vs ++ [v]) (n + 1)) led₂ led₃) (hz : vs.length ≤ 4000000) (q : Q .next l₂ led₃) : AppT a Q v l₂ led₂
inductive AppK (w : World) (σ : Sta) (e : Expr) (Q : Flow → Loc → Led → Prop) (ov : Value) (l₁ : Loc) (led₁ : Led) : Prop
  | mk (a : Addr) (eo : ov = .ref a) (hm : ∃ vs n, (a, lst vs n) ∈ led₁) (q : V w σ l₁ led₁ (PySem.eval e) (AppT a Q)) : AppK w σ e Q ov l₁ led₁
theorem V.append {ob e : Expr} {ap p pos : Pos} {Q : Flow → Loc → Led → Prop} (pl : Env → Sem Bool) (he : ∀ env, PySem.eval (.Call (.Attribute ob (Str.ofString "append") ap) [e] [] pos) env = (do
      let ov ← PySem.eval ob env
      standAt ap.atName
      let (f, first) ← holding [ov] (getMethod ov (Str.ofString "append") (pl env))
      callWith pos f first (backTo pos (starEach [e] env)) []))
    (hp : isStar e = false)
    (h : V w σ l led (PySem.eval ob) (AppK w σ e Q)) :
    V w σ l led (exec (.Expr (.Call (.Attribute ob (Str.ofString "append") ap) [e] [] pos) p)) Q := by
  refine .mk fun δ hp' tk R D F N kR => wpAny_Expr (MethodCall_ (h.go δ hp' tk _ D F N fun ov h₁ t₁ l₁ led₁ F₁ N₁ q => ?_) (he _)) (by unfold interactive; rw [D.en, D.ek]; rfl) (noComp_ok rfl)
  obtain ⟨a, rfl, ⟨vs, n, hm⟩, q⟩ := q
  refine listMethod_K N₁ hm PySem.F.slot_list_append PySem.F.type_list_append ?_
  refine callWith_method1 ?_ (star_cons hp) rfl
  refine args_cons (q.go δ h₁ t₁ _ D F₁ N₁ fun v h₂ t₂ l₂ led₂ F₂ N₂ q₂ => args_nil ?_) (star_cons hp)
  obtain ⟨vs, n, led₃, U, hz, q₃⟩ := q₂
  exact appendAt F₂ N₂ U hz fun h₃ F₃ N₃ => kR _ _ _ _ _ F₃ N₃ q₃
section
variable {x d o f : Addr} {t1 t2 t3 t4 tb ti : Tok} {b : Array UInt8} {i : Int} {expr : Bool} {Q : Value → Loc → Led → Prop}
theorem V.setAt {j : Int} {tj : Tok} {R : Led} {Q : Unit → Loc → Led → Prop} (hx : x ≠ d) (hR : ∀ p ∈ R, p.1 ≠ d) (h : Q () l ((x, instObj 258 d) :: (d, rdObj w t1 t2 t3 t4 b tb j tj o f) :: R)) :
    V w σ l ((x, instObj 258 d) :: (d, rdObj w t1 t2 t3 t4 b tb i ti o f) :: R) (fun _ => setAttr (.ref x) (Str.ofString "at") (.int j tj)) Q := by
  refine .mk fun δ hp tk R' D F N kR => ?_
  refine set_dict (s := ⟨hp, δ.g, δ.d, tk, δ.o⟩) F D.X N (InstAt.of_news N (.head _) (.tail _ (.head _))) rfl ?a ?b ?c ?d ?e ?f (Upd.tail hx (Upd.head hR)) ?g fun h' F' N' => kR _ _ _ _ _ F' N' h
  case a => k_is
  case b => k_is
  case c => k_is
  case d => k_is
  case e => k_get
  case f => k_put
  case g => exact Nat.le_of_ble_eq_true rfl
theorem V.fOct (h1 : (x, instObj 258 d) ∈ led) (h2 : (d, rdObj w t1 t2 t3 t4 b tb i ti o f) ∈ led) (h : Q (.bytes b tb) l led) : V w σ l led (fun _ => getAttr (.ref x) (Str.ofString "octets") expr) Q :=
  V.attr h1 h2 (by k_is) (by k_is) (by k_is) (by k_is) (by k_get) rfl h
theorem V.fAt (h1 : (x, instObj 258 d) ∈ led) (h2 : (d, rdObj w t1 t2 t3 t4 b tb i ti o f) ∈ led) (h : Q (.int i ti) l led) : V w σ l led (fun _ => getAttr (.ref x) (Str.ofString "at") expr) Q :=
  V.attr h1 h2 (by k_is) (by k_is) (by k_is) (by k_is) (by k_get) rfl h
theorem V.fOpen (h1 : (x, instObj 258 d) ∈ led) (h2 : (d, rdObj w t1 t2 t3 t4 b tb i ti o f) ∈ led) (h : Q (.ref o) l led) : V w σ l led (fun _ => getAttr (.ref x) (Str.ofString "open") expr) Q :=
  V.attr h1 h2 (by k_is) (by k_is) (by k_is) (by k_is) (by k_get) rfl h
theorem V.fFound (h1 : (x, instObj 258 d) ∈ led) (h2 : (d, rdObj w t1 t2 t3 t4 b tb i ti o f) ∈ led) (h : Q (.ref f) l led) : V w σ l led (fun _ => getAttr (.ref x) (Str.ofString "found") expr) Q :=
  V.attr h1 h2 (by k_is) (by k_is) (by k_is) (by k_is) (by k_get) rfl h
end
end
end
section
open PySem PySem.W PyProof.Rows PySem.Calls
theorem slot_bytes_repr : Slot "bytes" "__repr__" "bytes.__repr__" :=
  .of (owner := "bytes") (n := "__repr__") (by rw [typeLookup_type, builtinLookup_eq_fast]; kernel_rfl) (by decide +kernel) (by decide +kernel) (by decide +kernel)
    (by first | exact .inl (by decide +kernel) | exact .inr (by decide +kernel)) (by rw [isSubtype_type]; kernel_rfl)
theorem entry_bytes_repr : entryFor table "bytes.__repr__" = some Builtin.«bytes.__repr__» := entryFor_of_tree (by kernel_rfl)
theorem args_bytes_repr (a : Value) : argsOk "bytes.__repr__" ⟨[a], []⟩ := by unfold argsOk; kernel_rfl
theorem lit_len (b : Array UInt8) : (Builtin.Bytes.literal b).length ≤ 4 * b.size + 3 := by
  have key : ∀ (f : UInt8 → Array Nat), (∀ c, (f c).size ≤ 4) → ∀ (l : List UInt8) (acc : Array Nat), (l.foldl (fun acc c => acc ++ f c) acc).size ≤ acc.size + 4 * l.length := by
    intro f hf l
    induction l with
    | nil => intro acc; exact Nat.le_refl _
    | cons c r ih =>
      intro acc
      rw [List.foldl_cons]
      refine Nat.le_trans (ih _) ?_
      have := hf c
      rw [Array.size_append, List.length_cons]; omega
  unfold Builtin.Bytes.literal
  dsimp only
  show (Array.push _ _).size ≤ _
  rw [Array.size_push, ← Array.foldl_toList]
  have z := key (fun c => if (c.toNat == (if false = true then 39 else if (b.contains 39 && !b.contains 34) = true then 34 else 39) || c.toNat == 92) = true then #[92, c.toNat]
    else if (c.toNat == 9) = true then #[92, 116]
    else if (c.toNat == 10) = true then #[92, 110]
    else if (c.toNat == 13) = true then #[92, 114]
    else if (decide (c.toNat < 32) || decide (c.toNat ≥ 127)) = true then #[92, 120, if c.toNat / 16 < 10 then 48 + c.toNat / 16 else 87 + c.toNat / 16, if c.toNat % 16 < 10 then 48 + c.toNat % 16 else 87 + c.toNat % 16]
    else #[c.toNat]) (by
      intro c
      repeat' split
      all_goals simp) b.toList #[98, if (b.contains 39 && !b.contains 34) = true then 34 else 39]
  rw [Array.length_toList] at z
  have z2 : _ ≤ 2 + 4 * b.size := z
  have z3 := Nat.succ_le_succ z2
  exact Nat.le_trans z3 (by omega)
theorem gives_bytes_repr (b : Array UInt8) (t : Tok) (h : b.size ≤ 1000000) : Gives (Builtin.«bytes.__repr__» ⟨[.bytes b t], []⟩) (.str (Builtin.Bytes.literal b)) := by
  have e : Builtin.Bytes.tooLong (4 * b.size + 3 + 0) = false := by
    unfold Builtin.Bytes.tooLong
    rw [decide_eq_false_iff_not, sizeLine_eq]; omega
  have e2 : Builtin.Bytes.literalAsked b = pure (Builtin.Bytes.literal b) := by
    unfold Builtin.Bytes.literalAsked
    rw [e, Bool.false_and]; rfl
  refine .of_eq ?_
  show (do let r ← Builtin.Bytes.literalAsked b; retStr r) = _
  rw [e2]; rfl
section
variable {prog : Program} {w : World}
theorem ReprIs_bytes (b : Array UInt8) (t : Tok) (h : b.size ≤ 1000000) : ReprIs prog w (.bytes b t) (Builtin.Bytes.literal b) := fun n hn _ _ s _ hq => by
  have hn' : n ≤ sizeLine := by omega
  rw [pyReprUnder_leaf (v := .bytes b t) hn' (fun _ e => nomatch e)]
  unfold pyRepr
  exact wpAny_bind (wpAny_pyReprObj_gives (typeIs_bytes s b t) slot_bytes_repr entry_bytes_repr (args_bytes_repr _) (gives_bytes_repr b t h) (wpAny_pure (hq _)) rfl (by omega))
end
mutual
noncomputable def D.shown : D → Str
  | .none => "None"
  | .bool b => if b then "True" else "False"
  | .int i => toString i
  | .str x => reprText x
  | .bytes b => Builtin.Bytes.literal b
  | .tup ds => tupleText (D.showns ds)
noncomputable def D.showns : List D → List Str
  | [] => []
  | d :: r => d.shown :: D.showns r
end
mutual
theorem DIn.det {h₀ h : Heap} {L : Addr} {led : Led} (N : News h₀ L h led) : ∀ {v : Value} {d e : D}, DIn led v d → DIn led v e → d = e
  | _, _, _, .none, h => by cases h; rfl
  | _, _, _, .bool _, h => by cases h; rfl
  | _, _, _, .int _ _, h => by cases h; rfl
  | _, _, _, .str _ _, h => by cases h; rfl
  | _, _, _, .bytes _ _, h => by cases h; rfl
  | _, _, _, .tup hm r, h => by
    cases h with
    | tup hm' r' =>
      have e := congrArg Obj.data (Option.some.inj ((N _ hm).1.symm.trans (N _ hm').1))
      simp only [Data.seq.injEq] at e
      have e1 := congrArg Array.toList e.1
      simp only at e1
      subst e1
      rw [DAll.det N r r']
theorem DAll.det {h₀ h : Heap} {L : Addr} {led : Led} (N : News h₀ L h led) : ∀ {vs : List Value} {ds es : List D}, DAll led vs ds → DAll led vs es → ds = es
  | _, _, _, .nil, h => by cases h; rfl
  | _, _, _, .cons a r, h => by
    cases h with
    | cons a' r' => rw [DIn.det N a a', DAll.det N r r']
end
noncomputable def TupsAt (led : Led) (n : Nat) (bs : List Addr) : Prop := ∀ b ∈ bs, ∃ e, DIn led (.ref b) e ∧ e.dep ≤ n
section
variable {prog : Program} {w : World} {h₀ h : Heap} {L : Addr} {led : Led}
theorem int_log {i : Int} (h : i.natAbs < 1000000) : i.natAbs.log2 < 1920 := by
  by_cases h0 : i.natAbs = 0
  · rw [h0]; decide
  · exact (Nat.log2_lt h0).mpr (Nat.lt_of_lt_of_le h (Nat.le_trans (by decide : 1000000 ≤ 2 ^ 20) (Nat.pow_le_pow_right (by decide) (by decide))))
mutual
theorem ReprK_din (N : News h₀ L h led) : ∀ {v : Value} {d : D}, DIn led v d → d.good = true → d.shown.length ≤ sizeLine → ∃ bs, TupsAt led d.dep bs ∧ ReprK prog w bs h d.dep v d.shown
  | _, _, .none, _, _ => ⟨[], (fun _ h => nomatch h), by simp only [D.shown]; exact .of_is ReprIs.none _ _ _⟩
  | _, _, .bool b, _, _ => ⟨[], (fun _ h => nomatch h), by simp only [D.shown]; exact .of_is (ReprIs.bool b) _ _ _⟩
  | _, _, .int i t, hg, _ => ⟨[], (fun _ h => nomatch h), by simp only [D.shown]; exact .of_is (ReprIs.int t (int_log (by simpa [D.good] using hg))) _ _ _⟩
  | _, _, .str x t, _, hz => ⟨[], (fun _ h => nomatch h), by simp only [D.shown]; exact .of_is (ReprIs.str x t (by simpa only [D.shown] using hz)) _ _ _⟩
  | _, _, .bytes b t, hg, _ => ⟨[], (fun _ h => nomatch h), by simp only [D.shown]; exact .of_is (ReprIs_bytes b t (by have : b.size ≤ 1000 := (by simpa [D.good] using hg); omega)) _ _ _⟩
  | _, _, .tup (a := a) (vs := vs) (n := n) (ds := ds) hm r, hg, hz => by
    have hz' : (tupleText (D.showns ds)).length ≤ sizeLine := by simpa only [D.shown] using hz
    obtain ⟨bs, hb, hk⟩ := ReprAllK_din N r (by simpa only [D.good] using hg) (fun t ht => Nat.le_trans (tupleText_mem_le ht) hz')
    have hna : a ∉ bs := fun hx => by
      obtain ⟨e, he, hl⟩ := hb a hx
      rw [← DIn.det N (.tup hm r) he] at hl
      simp only [D.dep] at hl; omega
    refine ⟨a :: bs, ?_, ?_⟩
    · intro b hx
      rcases List.mem_cons.mp hx with rfl | hx
      · exact ⟨_, .tup hm r, Nat.le_refl _⟩
      · obtain ⟨e, he, hl⟩ := hb b hx
        exact ⟨e, he, by simp only [D.dep]; omega⟩
    · simp only [D.shown, D.dep]
      rw [Nat.add_comm]
      exact ReprK.tuple (N _ hm).1 rfl rfl hna (by simpa using hk)
theorem ReprAllK_din (N : News h₀ L h led) : ∀ {vs : List Value} {ds : List D}, DAll led vs ds → D.goods ds = true → (∀ t ∈ D.showns ds, t.length ≤ sizeLine) → ∃ bs, TupsAt led (D.deps ds) bs ∧ ReprAllK prog w bs h (D.deps ds) vs (D.showns ds)
  | _, _, .nil, _, _ => ⟨[], (fun _ h => nomatch h), by simp only [D.showns]; exact .nil⟩
  | _, _, .cons (d := d) (ds := ds) a r, hg, hz => by
    have hg' : d.good = true ∧ D.goods ds = true := by simpa only [D.goods, Bool.and_eq_true] using hg
    obtain ⟨b1, hb1, k1⟩ := ReprK_din N a hg'.1 (hz _ (by simp only [D.showns]; exact .head _))
    obtain ⟨b2, hb2, k2⟩ := ReprAllK_din N r hg'.2 (fun t ht => hz t (by simp only [D.showns]; exact .tail _ ht))
    refine ⟨b1 ++ b2, ?_, ?_⟩
    · intro b hx
      simp only [D.deps]
      rcases List.mem_append.mp hx with hx | hx
      · obtain ⟨e, he, hl⟩ := hb1 b hx
        exact ⟨e, he, by omega⟩
      · obtain ⟨e, he, hl⟩ := hb2 b hx
        exact ⟨e, he, by omega⟩
    · simp only [D.deps, D.showns]
      exact .cons ((k1.more fun b hb => List.mem_append_left _ hb).level_le (Nat.le_max_left _ _)) (k2.more_le (fun b hb => List.mem_append_right _ hb) (Nat.le_max_right _ _))
end
end
end
section
open PySem PySem.W PyProof.Rows PySem.Calls
theorem int_shown {i : Int} (h : i.natAbs < 1000000) : (Str.ofString (toString i)).length ≤ 8 := by
  have e := int_text_length_le10 (a := i) (k := 6) (by decide) h
  rw [PySem.ofString_length]; omega
theorem signs8 {x : Str} (h : letters x = true) : ∀ c ∈ x.cps.toList, c < 16 ^ 8 := fun c hc => by
  have := List.all_eq_true.mp h c hc
  simp only [Bool.and_eq_true, decide_eq_true_eq] at this
  omega
mutual
theorem D.shown_len : ∀ d : D, d.good = true → d.shown.length + 2 ≤ 30 * d.wt
  | .none, _ => by
    simp only [D.shown, D.wt]
    have : (("None" : String) : Str).length = 4 := rfl
    omega
  | .bool b, _ => by
    simp only [D.shown, D.wt]
    have : (((if b then "True" else "False" : String)) : Str).length ≤ 5 := by cases b <;> decide
    cases b
    · show (("False" : String) : Str).length + 2 ≤ _; decide
    · show (("True" : String) : Str).length + 2 ≤ _; decide
  | .int i, h => by
    have h1 := D.wt_pos (.int i)
    have h2 := int_shown (i := i) (by simpa [D.good] using h)
    simp only [D.shown]
    omega
  | .str x, h => by
    have h1 := PySem.StrLaws.reprText_len x (signs8 h)
    have h2 : x.length = x.cps.size := rfl
    simp only [D.shown, D.wt]
    omega
  | .bytes b, _ => by
    have h1 := lit_len b
    simp only [D.shown, D.wt]
    omega
  | .tup ds, h => by
    have h1 := D.showns_piled ds (by simpa only [D.good] using h)
    simp only [D.shown, D.wt]
    have e1 : (("(" : String) : Str).length = 1 := rfl
    have e3 : (((if (D.showns ds).length == 1 then ",)" else ")" : String) : Str)).length ≤ 2 := by split <;> decide
    have e4 : (Str.join ", " (D.showns ds)).length ≤ piled (D.showns ds) := by
      by_cases h : D.showns ds = []
      · rw [h]; decide
      · have := join_length_add (D.showns ds) h
        omega
    unfold tupleText
    rw [strLen_append, strLen_append]
    omega
theorem D.showns_piled : ∀ ds : List D, D.goods ds = true → piled (D.showns ds) ≤ 30 * D.wts ds
  | [], _ => by simp [D.showns, piled]
  | d :: r, h => by
    have h' : d.good = true ∧ D.goods r = true := by simpa only [D.goods, Bool.and_eq_true] using h
    have h1 := D.shown_len d h'.1
    have h2 := D.showns_piled r h'.2
    simp only [D.showns, piled_cons, D.wts]
    omega
end
section
variable {prog : Program} {w : World} {A : Around} {E : Value → Shared → Prop} {s : Shared} {h₀ : Heap} {L a : Addr} {m : Str → Option Value} {led : Led} {vs : List Value} {ds : List D} {n : Nat} {Q : Value → Shared → Prop}
theorem repr_tup (F : Fr h₀ L s.heap m) (N : News h₀ L s.heap led) (hm : (a, tupOf vs n) ∈ led) (hd : DAll led vs ds) (hg : D.goods ds = true) (hz : D.wts ds ≤ 100000) (hdep : D.deps ds ≤ 10) (hgu : A.guards = some []) (hu : A.units + 20 < cLine)
    (h : ∀ h' u tk, Fr h₀ L h' m → News h₀ L h' led → Q (.str (D.tup ds).shown u) { s with heap := h', toks := tk }) : wpAny (model prog w) A (call (.builtin "repr") [.ref a]) Q E s := by
  have hl := D.shown_len (.tup ds) hg
  have hzz : (D.tup ds).shown.length ≤ sizeLine := by rw [sizeLine_eq]; simp only [D.wt] at hl; omega
  have hz' : (tupleText (D.showns ds)).length ≤ sizeLine := by simpa only [D.shown] using hzz
  obtain ⟨bs, hb, hk⟩ := ReprAllK_din (prog := prog) (w := w) N hd hg (fun t ht => Nat.le_trans (tupleText_mem_le ht) hz')
  have hna : a ∉ bs := fun hx => by
    obtain ⟨e, he, hl⟩ := hb a hx
    rw [← DIn.det N (.tup hm hd) he] at hl
    simp only [D.dep] at hl; omega
  refine call_repr_slot (by omega) ⟨_, (N _ hm).1, rfl⟩ PySem.F.slot_tuple_repr (call_tuple_reprK (A := A.in1) (N _ hm).1 rfl rfl hna (by simpa using hk) hgu (fun b _ => Clear.nil b) (by show A.units + 1 + _ < cLine; omega) (fun _ _ e => e) (fun h' u tk hk => ⟨_, _, rfl, ?_⟩) hz')
  have := h h' u tk (F.keeps hk) (N.grown hk)
  simp only [D.shown] at this
  exact this
theorem repr_lst (F : Fr h₀ L s.heap m) (N : News h₀ L s.heap led) (hm : (a, lst vs n) ∈ led) (hd : DAll led vs ds) (hg : D.goods ds = true) (hz : D.wts ds ≤ 100000) (hdep : D.deps ds ≤ 10) (hgu : A.guards = some []) (hu : A.units + 20 < cLine)
    (h : ∀ h' u tk, Fr h₀ L h' m → News h₀ L h' led → Q (.str (listText (D.showns ds)) u) { s with heap := h', toks := tk }) : wpAny (model prog w) A (call (.builtin "repr") [.ref a]) Q E s := by
  have hp := D.showns_piled ds hg
  have hz' : (listText (D.showns ds)).length ≤ sizeLine := by
    rw [listText_eq_join, strLen_append, strLen_append, sizeLine_eq]
    have e1 : (("[" : String) : Str).length = 1 := rfl
    have e2 : (("]" : String) : Str).length = 1 := rfl
    have e4 : (Str.join ", " (D.showns ds)).length ≤ piled (D.showns ds) := by
      by_cases h : D.showns ds = []
      · rw [h]; decide
      · have := join_length_add (D.showns ds) h
        omega
    omega
  obtain ⟨bs, hb, hk⟩ := ReprAllK_din (prog := prog) (w := w) N hd hg (fun t ht => Nat.le_trans (listText_mem_le ht) hz')
  have hna : a ∉ bs := fun hx => by
    obtain ⟨e, he, _⟩ := hb a hx
    cases he with
    | tup hm' _ => exact absurd rfl (ne_of_obj N hm' hm (tup_ne_lst _ _ _ _))
  refine call_repr_slot (by omega) ⟨_, (N _ hm).1, rfl⟩ PySem.F.slot_list_repr.toG ?_
  cases hd with
  | nil =>
    refine call_list_repr_empty ⟨_, (N _ hm).1, rfl⟩ (N _ hm).1 rfl ⟨_, _, rfl, ?_⟩
    have := h s.heap s.toks (s.toks + 1) F N
    simp only [D.showns, listText_nil] at this
    exact this
  | cons x l =>
    exact call_list_reprK (A := A.in1) (N _ hm).1 rfl rfl hna (by simpa using hk.length_eq) (fun i y e => hk.item i y (by simpa using e)) hgu (fun b _ => Clear.nil b) (by show A.units + 1 + _ < cLine; omega) (fun _ _ e => e) (fun h' u tk hk => ⟨_, _, rfl, h h' u tk (F.keeps hk) (N.grown hk)⟩) hz'
end
end
section
open PySem PySem.W PyProof.Rows PySem.Calls
section
variable {prog : Program} {w : World} {A : Around} {E : Value → Shared → Prop} {s : Shared} {h₀ : Heap} {L : Addr} {m : Str → Option Value} {env : Env}
theorem go_list {ax : Addr} {vs : List Value} {k : Nat} {elt : Expr} {x : Str} {scope : Scope} {cl : List (Str × Addr)} {Fin : Shared → List Value → Led → Prop} {news : Led} (hh : A.handled = none) (F : Fr h₀ L s.heap m) (N : News h₀ L s.heap news) (hm : (ax, lst vs k) ∈ news) (hsz : vs.length ≤ sizeLine)
    (R : ∀ g, LCg.CompRest prog w A h₀ L m env elt x scope cl { s with heap := g } (fun nw => (ax, lst vs k) ∈ nw) (fun i v => vs[i]? = some v) (Fin { s with heap := g }) vs.length 0 [] news) :
    wpAny (model prog w) A (pyIter (.ref ax)) (CompGo prog w A h₀ L m env elt x scope cl Fin) E s := by
  have ht : s.heap.IsList ax vs.toArray := ⟨_, (N _ hm).1, rfl, k, rfl⟩
  have hlt : ax < s.heap.objs.size := Heap.lt_size (N _ hm).1
  have W := Walks.list (prog := prog) (w := w) hh s.heap.objs.size ax (Nat.ne_of_lt hlt) vs.toArray
  have hW : Walks prog w A s.heap.objs.size [s.heap.objs.size, ax] [s.heap.objs.size] vs.length (fun i v => vs[i]? = some v) (fun i h => h.IsListIter s.heap.objs.size ax i ∧ h.IsList ax vs.toArray) := by
    simpa using W
  refine wpAny_pyIter_list ht ⟨_, _, _, _, _, fun nw => (ax, lst vs k) ∈ nw, news, rfl, hW, hsz, fun i h st => let ⟨o, ho, _⟩ := st.1; ⟨o, ho⟩, fun i h h' o nw st e e' _ N' hS => ?_, ⟨⟨_, Heap.get?_push_size _ rfl, rfl, rfl⟩, ?_⟩, fun b hb => ?_, F.push _, N.grown fun _ _ e => Heap.get?_push_of_some _ e,
    Nat.ne_of_lt F.ns.lt, next_is_new F, fun p hp => Nat.ne_of_lt (Heap.lt_size (N p hp).1), hm, R _⟩
  · refine ⟨?_, ⟨_, (N' _ hS).1, rfl, k, rfl⟩⟩
    obtain ⟨o', h1, h2⟩ := st.1; rw [e] at h1; cases h1; exact ⟨o, e', h2⟩
  · exact ⟨_, Heap.get?_push_of_some _ (N _ hm).1, rfl, k, rfl⟩
  · show b < (s.heap.push _).objs.size
    rw [Heap.size_push]
    rcases List.mem_cons.mp hb with rfl | hb
    · exact Nat.lt_succ_self _
    · rw [List.mem_singleton.mp hb]; exact Nat.lt_succ_of_lt hlt
theorem ints_get {vs : List Value} {ns : List Int} (h : IntsAre vs ns) {i : Nat} {v : Value} (hv : vs[i]? = some v) : ∃ n t, ns[i]? = some n ∧ v = .int n t := by
  induction h generalizing i with
  | nil => cases hv
  | cons k u _ ih =>
    cases i with
    | zero => cases hv; exact ⟨_, _, rfl, rfl⟩
    | succ i => exact ih hv
end
end
section
open PySem PySem.W PyProof.Rows PySem.Calls
structure Src (w : World) (xv : Value) (led : Led) (S : Led → Prop) (P : Nat → Value → Prop) (n : Nat) : Prop where
  st : S led
  go : ∀ {A : Around} {E : Value → Shared → Prop} {s : Shared} {h₀ : Heap} {L : Addr} {m : Str → Option Value} {env : Env} {elt : Expr} {x : Str} {scope : Scope} {cl : List (Str × Addr)} {Fin : Shared → List Value → Led → Prop},
    A.handled = none → Fr h₀ L s.heap m → News h₀ L s.heap led → (∀ g, LCg.CompRest PySem.Challenge.rw_nt0496_01.row.prog w A h₀ L m env elt x scope cl { s with heap := g } S P (Fin { s with heap := g }) n 0 [] led) →
    wpAny (model PySem.Challenge.rw_nt0496_01.row.prog w) A (pyIter xv) (CompGo PySem.Challenge.rw_nt0496_01.row.prog w A h₀ L m env elt x scope cl Fin) E s
section
variable {w : World} {led : Led}
theorem Src.bytes {b : Array UInt8} {t : Tok} (hz : b.size ≤ sizeLine) : Src w (.bytes b t) led (fun _ => True) (fun i v => ∃ c u, b[i]? = some c ∧ v = .int (c.toNat : Int) u) b.size := ⟨trivial, fun hh F N R => go_bytes hh F N hz R⟩
theorem Src.str {y : Str} {t : Tok} (hz : y.cps.size ≤ sizeLine) : Src w (.str y t) led (fun _ => True) (SignAt y) y.cps.size := ⟨trivial, fun hh F N R => go_str hh F N hz R⟩
theorem Src.tuple {a : Addr} {vs : List Value} {k : Nat} (hm : (a, tupOf vs k) ∈ led) (hz : vs.length ≤ sizeLine) : Src w (.ref a) led (fun nw => (a, tupOf vs k) ∈ nw) (fun i v => vs[i]? = some v) vs.length := ⟨hm, fun hh F N R => go_tuple hh F N hm hz R⟩
theorem Src.list {a : Addr} {vs : List Value} {k : Nat} (hm : (a, lst vs k) ∈ led) (hz : vs.length ≤ sizeLine) : Src w (.ref a) led (fun nw => (a, lst vs k) ∈ nw) (fun i v => vs[i]? = some v) vs.length := ⟨hm, fun hh F N R => go_list hh F N hm hz R⟩
noncomputable abbrev rngObj (x y z : Int) (t u v : Tok) : Obj := { cls := .type "range", data := .fields #[.int x t, .int y u, .int z v] }
theorem Src.range {a : Addr} {n : Nat} {t u v : Tok} (hm : (a, rngObj 0 (n : Int) 1 t u v) ∈ led) (hz : n ≤ 1000) : Src w (.ref a) led (fun _ => True) (fun i v => ∃ t, v = .int (0 + (i : Int)) t) n :=
  ⟨trivial, fun hh F N R => go_range hh F N (N _ hm).1 hz R⟩
theorem V.range1 {σ : Sta} {l : Loc} {n : Int} {t : Tok} {Q : Value → Loc → Led → Prop} (h : ∀ (a : Addr) t u v, (∀ p ∈ led, p.1 < a) → Q (.ref a) l ((a, rngObj 0 n 1 t u v) :: led)) : V w σ l led (fun _ => PySem.call (Value.type "range") [Value.int n t]) Q :=
  .mk fun _ _ _ _ _ F N kR => call_range_1 (kR _ _ _ _ _ (F.push _) (N.push F _) (h _ _ _ _ fun p hp => Heap.lt_size (N p hp).1))
end
section
variable {w : World} {σ : Sta} {l : Loc} {led : Led}
noncomputable abbrev csOf (scope : Scope) (σ : Sta) : Scope := relabel scope (envX (Str.ofString "") σ.cs 0 0 .none [])
inductive CompT (l : Loc) (S : Led → Prop) (J : Nat → List Value → Led → Prop) (i : Nat) (ys : List Value) (I C D : Addr) (oI oC : Obj) (y : Value) (l' : Loc) (led' : Led) : Prop
  | mk (e : l' = l) (nx' : Led) (hs : ∀ p ∈ (I, oI) :: (C, oC) :: (D, LCg.lst ys) :: nx', p ∈ led') (off : LCg.Off3 I C D nx') (hS : S nx') (hJ : J (i + 1) (ys ++ [y]) nx') : CompT l S J i ys I C D oI oC y l' led'
inductive CompK (w : World) (σ : Sta) (l : Loc) (elt : Expr) (x : Str) (scope : Scope) (cl' : List (Str × Addr)) (Q : Value → Loc → Led → Prop) (xv : Value) (l₁ : Loc) (led₁ : Led) : Prop
  | mk (e : l₁ = l) (S : Led → Prop) (P : Nat → Value → Prop) (n : Nat) (J : Nat → List Value → Led → Prop) (src : Src w xv led₁ S P n) (hn : n ≤ 10000000) (h0 : J 0 [] led₁)
      (turn : ∀ i v ys nx I oI C oC D m₂, i < n → P i v → J i ys nx → LCg.NsObj oC m₂ → m₂ x = some v → LCg.Off3 I C D nx → ((@Ne Nat I C) ∧ (@Ne Nat I D) ∧ (@Ne Nat C D)) →
        V w { cs := csOf scope σ, dk := σ.dk, uk := σ.uk, fn := false, cl := cl', C := C } l ((I, oI) :: (C, oC) :: (D, LCg.lst ys) :: nx) (PySem.eval elt) (CompT l S J i ys I C D oI oC))
      (fin : ∀ ys nx D, J n ys nx → LCg.Off1 D nx → ∃ led₂, (∀ p ∈ led₂, p ∈ (D, LCg.lst ys) :: nx) ∧ Q (.ref D) l led₂) : CompK w σ l elt x scope cl' Q xv l₁ led₁
theorem V.comp {elt iter : Expr} {x : Str} {px : Pos} {scope : Scope} {cl' : List (Str × Addr)} {pos : Pos} {Q : Value → Loc → Led → Prop}
    (hclos : ∀ cn L a ccd, closureFor scope (envX cn σ.cs L a ccd σ.cl) = Pure.pure cl') (hcell : ∀ y ∈ scope.names, y.2 ≠ .cell) (hkind : scope.kind = .function)
    (hk' : (csOf scope σ).kind = .function) (hdb : noDbg (csOf scope σ).names = true) (hnames : ∀ y ∈ scope.names, y.2 = .local → scope.names.lookup y.1 = some .local) (hx : scope.names.lookup x = some .local) (hf : σ.fn = true) (hfs : ∀ env xv, foldedSetIterable iter env xv = Pure.pure xv)
    (h : V w σ l led (PySem.eval iter) (CompK w σ l elt x scope cl' Q)) :
    V w σ l led (PySem.eval (.ListComp elt [⟨.Name x px, iter, [], 0⟩] scope pos)) Q := by
  refine .mk fun δ hp tk R D F N kR => ?_
  have e := D.fn hf
  have ec := D.ec
  rw [e] at ec
  have ec' : δ.cl = σ.cl := ec
  have eE : δ.env = envX δ.cn σ.cs δ.L δ.a δ.ccd σ.cl := by rw [e, ec']
  refine comp_W (env := δ.env) F (eE ▸ hclos _ _ _ _) hcell hkind hnames hx ?_ (hfs _)
  refine h.go δ hp tk _ D F N fun xv h₁ t₁ l₁ led₁ F₁ N₁ q => ?_
  obtain ⟨rfl, S, P, n, J, src, hn, h0, turn, fin⟩ := q
  refine src.go (s := ⟨h₁, _, _, t₁, _⟩) rfl F₁ N₁ fun g => rest_gen J h0 ?_ ?_
  · intro i v ys nx I oI C oC D' m₂ h tk' E' hi hP hJ hC hv F₂ N₂ off ne
    have D2 : DynOk w { cs := csOf scope σ, dk := σ.dk, uk := σ.uk, fn := false, cl := cl', C := C } { δ with E := E', env := compEnvC scope cl' C δ.env } :=
      ⟨D.B, D.X, D.T, D.hd, D.hu, D.hk, hk', by show relabel scope δ.env = _; rw [eE]; rfl, D.eg, D.eb, rfl, hdb, (fun h => nomatch h), (fun _ => rfl), (fun h => nomatch h), trivial⟩
    refine (turn i v ys nx I oI C oC D' m₂ hi hP hJ hC hv off ne).go _ h tk' _ D2 F₂ N₂ fun y h₃ t₃ l₃ led₃ F₃ N₃ q₃ => ?_
    obtain ⟨rfl, nx', hs, off', hS, hJ'⟩ := q₃
    exact LCg.CompEnd.intro F₃ N₃ nx' hs off' hS hJ'
  · intro ys nx hJ D' h tk' F₂ N₂ off
    obtain ⟨led₂, hs₂, q₂⟩ := fin ys nx D' hJ off
    exact kR _ _ _ _ _ F₂ (cb_drop N₂ hs₂) q₂
theorem V.compA {elt iter : Expr} {x y : Str} {px py : Pos} {scope : Scope} {cl' : List (Str × Addr)} {pos spos : Pos} {Q : Flow → Loc → Led → Prop}
    (hsw : ∀ cn L a ccd, swapsWith (.ListComp elt [⟨.Name x px, iter, [], 0⟩] scope pos) (some (.Name y py)) spos.line (envX cn σ.cs L a ccd σ.cl) = Pure.pure true) (hy : isLoc σ y = true)
    (hclos : ∀ cn L a ccd, closureFor scope (envX cn σ.cs L a ccd σ.cl) = Pure.pure cl') (hcell : ∀ y ∈ scope.names, y.2 ≠ .cell) (hkind : scope.kind = .function)
    (hk' : (csOf scope σ).kind = .function) (hdb : noDbg (csOf scope σ).names = true) (hnames : ∀ y ∈ scope.names, y.2 = .local → scope.names.lookup y.1 = some .local) (hx : scope.names.lookup x = some .local) (hf : σ.fn = true) (hfs : ∀ env xv, foldedSetIterable iter env xv = Pure.pure xv)
    (h : V w σ l led (PySem.eval iter) (CompK w σ l elt x scope cl' (kName y Q))) :
    V w σ l led (exec (.Assign [.Name y py] (.ListComp elt [⟨.Name x px, iter, [], 0⟩] scope pos) spos)) Q := by
  refine .mk fun δ hp tk R D F N kR => ?_
  have e := D.fn hf
  have ec := D.ec
  rw [e] at ec
  have ec' : δ.cl = σ.cl := ec
  have eE : δ.env = envX δ.cn σ.cs δ.L δ.a δ.ccd σ.cl := by rw [e, ec']
  refine comp_assign_W (env := δ.env) F (by rw [e]) (eE ▸ hsw _ _ _ _) (eE ▸ hclos _ _ _ _) hcell hkind hnames hx (show δ.env.scope.names.lookup y = _ by rw [D.en]; exact (isLoc_ok hy).1) (by rw [D.en, D.ek]; rfl) ?_ (hfs _)
  refine h.go δ hp tk _ D F N fun xv h₁ t₁ l₁ led₁ F₁ N₁ q => ?_
  obtain ⟨rfl, S, P, n, J, src, hn, h0, turn, fin⟩ := q
  refine src.go (s := ⟨h₁, _, _, t₁, _⟩) rfl F₁ N₁ fun g => rest_gen J h0 ?_ ?_
  · intro i v ys nx I oI C oC D' m₂ h tk' E' hi hP hJ hC hv F₂ N₂ off ne
    have D2 : DynOk w { cs := csOf scope σ, dk := σ.dk, uk := σ.uk, fn := false, cl := cl', C := C } { δ with E := E', env := compEnvC scope cl' C δ.env } :=
      ⟨D.B, D.X, D.T, D.hd, D.hu, D.hk, hk', by show relabel scope δ.env = _; rw [eE]; rfl, D.eg, D.eb, rfl, hdb, (fun h => nomatch h), (fun _ => rfl), (fun h => nomatch h), trivial⟩
    refine (turn i v ys nx I oI C oC D' m₂ hi hP hJ hC hv off ne).go _ h tk' _ D2 F₂ N₂ fun y h₃ t₃ l₃ led₃ F₃ N₃ q₃ => ?_
    obtain ⟨rfl, nx', hs, off', hS, hJ'⟩ := q₃
    exact LCg.CompEnd.intro F₃ N₃ nx' hs off' hS hJ'
  · intro ys nx hJ D' h tk' F₂ N₂ off
    obtain ⟨led₂, hs₂, q₂⟩ := fin ys nx D' hJ off
    exact kR _ _ _ _ _ (look_cons ▸ F₂) (cb_drop N₂ hs₂) q₂
theorem V.tupleOf {a : Addr} {vs : List Value} {n : Nat} {Q : Value → Loc → Led → Prop} (hm : (a, lst vs n) ∈ led) (hz : vs.length ≤ 16000) (h : ∀ b : Addr, (∀ p ∈ led, p.1 < b) → Q (.ref b) l ((b, tupOf vs 0) :: led)) : V w σ l led (fun _ => PySem.call (Value.type "tuple") [Value.ref a]) Q :=
  .mk fun _ _ _ _ _ F N kR => Mine.tupleOf F N hm hz fun b h' F' N' hb => kR _ _ _ _ _ F' N' (h b hb)
end
end
section
open PySem PySem.W PyProof.Rows PySem.Calls
noncomputable def kAnd2 (w : World) (σ : Sta) (e₂ : Expr) (rest : List Expr) (pos : Pos) (Q : Value → Loc → Led → Prop) (v : Value) (c : Bool) (l₂ : Loc) (led₂ : Led) : Prop := if c then V w σ l₂ led₂ (PySem.eval (.BoolOp .And (e₂ :: rest) pos)) Q else Q v l₂ led₂
noncomputable def kAndV (w : World) (σ : Sta) (e₂ : Expr) (rest : List Expr) (pos : Pos) (Q : Value → Loc → Led → Prop) (v : Value) (l₁ : Loc) (led₁ : Led) : Prop := V w σ l₁ led₁ (fun _ => PySem.truthy v) (kAnd2 w σ e₂ rest pos Q v)
noncomputable def kOr2 (w : World) (σ : Sta) (e₂ : Expr) (rest : List Expr) (pos : Pos) (Q : Value → Loc → Led → Prop) (v : Value) (c : Bool) (l₂ : Loc) (led₂ : Led) : Prop := if c then Q v l₂ led₂ else V w σ l₂ led₂ (PySem.eval (.BoolOp .Or (e₂ :: rest) pos)) Q
noncomputable def kOrV (w : World) (σ : Sta) (e₂ : Expr) (rest : List Expr) (pos : Pos) (Q : Value → Loc → Led → Prop) (v : Value) (l₁ : Loc) (led₁ : Led) : Prop := V w σ l₁ led₁ (fun _ => PySem.truthy v) (kOr2 w σ e₂ rest pos Q v)
section
variable {w : World} {σ : Sta} {l : Loc} {led : Led} {v : Value} {d : D} {Q : Value → Loc → Led → Prop}
theorem DynOk.units {δ : Dyn} (D : DynOk w σ δ) : δ.A.units < cLine := Nat.lt_of_le_of_lt (Nat.le_add_right _ _) D.hu
theorem DynOk.units1 {δ : Dyn} (D : DynOk w σ δ) (h : Nat.ble 1 σ.uk = true) : δ.A.in1.units < cLine := Nat.lt_of_le_of_lt (Nat.add_le_add_left (Nat.le_of_ble_eq_true h) δ.un) D.hu
theorem V.isiTuple (hD : DIn led v d) (h : Q (.bool (d.kind == "tuple")) l led) : V w σ l led (fun _ => PySem.call (Value.builtin "isinstance") [v, Value.type "tuple"]) Q :=
  .mk fun _ _ _ _ D F N kR => isi_tuple D.X F N hD fun _ => kR _ _ _ _ _ F N h
theorem V.isiTup1 {a : Addr} {vs : List Value} {n : Nat} (hm : (a, tupOf vs n) ∈ led) (h : Q (.bool true) l led) : V w σ l led (fun _ => PySem.call (Value.builtin "isinstance") [.ref a, Value.type "tuple"]) Q :=
  .mk fun _ _ _ _ D F N kR => isi_tup1 D.X F N hm fun _ => kR _ _ _ _ _ F N h
theorem V.isiInt (hD : DIn led v d) (h : Q (.bool (d.kind == "int" || d.kind == "bool")) l led) : V w σ l led (fun _ => PySem.call (Value.builtin "isinstance") [v, Value.type "int"]) Q :=
  .mk fun _ _ _ _ D F N kR => isi_int D.X F N hD fun _ => kR _ _ _ _ _ F N h
theorem V.isiBool (hD : DIn led v d) (h : Q (.bool (d.kind == "bool")) l led) : V w σ l led (fun _ => PySem.call (Value.builtin "isinstance") [v, Value.type "bool"]) Q :=
  .mk fun _ _ _ _ D F N kR => isi_bool D.X F N hD fun _ => kR _ _ _ _ _ F N h
theorem V.isiBytes (hD : DIn led v d) (h : Q (.bool (d.kind == "bytes")) l led) : V w σ l led (fun _ => PySem.call (Value.builtin "isinstance") [v, Value.type "bytes"]) Q :=
  .mk fun _ _ _ _ D F N kR => isi_bytes D.X F N hD fun _ => kR _ _ _ _ _ F N h
theorem V.isiStr (hD : DIn led v d) (h : Q (.bool (d.kind == "str")) l led) : V w σ l led (fun _ => PySem.call (Value.builtin "isinstance") [v, Value.type "str"]) Q :=
  .mk fun _ _ _ _ D F N kR => isi_str D.X F N hD fun _ => kR _ _ _ _ _ F N h
theorem V.eqS {y : Str} {u : Tok} (hD : DIn led v d) (h : Q (.bool (d.isS y)) l led) : V w σ l led (fun _ => compareOp .Eq v (.str y u)) Q :=
  .mk fun _ _ _ _ D F N kR => Mine.eqS D.units N hD (kR _ _ _ _ _ F N h)
theorem V.neS {y : Str} {u : Tok} (hD : DIn led v d) (h : Q (.bool (!d.isS y)) l led) : V w σ l led (fun _ => compareOp .NotEq v (.str y u)) Q :=
  .mk fun _ _ _ _ D F N kR => Mine.neS D.units N hD (kR _ _ _ _ _ F N h)
theorem V.isN (hD : DIn led v d) (h : Q (.bool d.isNone) l led) : V w σ l led (fun _ => compareOp .Is v .none) Q :=
  .mk fun _ _ _ _ _ F N kR => Mine.isN hD (kR _ _ _ _ _ F N h)
theorem V.inS {a : Addr} {n : Nat} {items : List Value} {ys : List Str} (hD : DIn led v d) (e : (hd.heap_1 w.params).lookup a = some (tupOf items n)) (hi : StrsAre items ys) (h : Q (.bool (d.inS ys)) l led) (hu : Nat.ble 1 σ.uk = true := by rfl) :
    V w σ l led (fun _ => compareOp .In v (.ref a)) Q := .mk fun _ _ _ _ D F N kR => inS_K (D.units1 hu) D.X F N hD e hi (kR _ _ _ _ _ F N h)
theorem V.notInS {a : Addr} {n : Nat} {items : List Value} {ys : List Str} (hD : DIn led v d) (e : (hd.heap_1 w.params).lookup a = some (tupOf items n)) (hi : StrsAre items ys) (h : Q (.bool (!d.inS ys)) l led) (hu : Nat.ble 1 σ.uk = true := by rfl) :
    V w σ l led (fun _ => compareOp .NotIn v (.ref a)) Q := .mk fun _ _ _ _ D F N kR => notInS_K (D.units1 hu) D.X F N hD e hi (kR _ _ _ _ _ F N h)
theorem V.lenD {a : Addr} {vs : List Value} {ds : List Mine.D} {n : Nat} {led' : Led} (hm : (a, tupOf vs n) ∈ led) (hd : DAll led' vs ds) (hf : (ds.length : Int) < 2 ^ 63) (h : ∀ t, Q (.int (ds.length : Int) t) l led) :
    V w σ l led (fun _ => PySem.call (Value.builtin "len") [.ref a]) Q := .mk fun _ _ _ _ _ F N kR => Mine.lenD N hm hd hf fun t _ => kR _ _ _ _ _ F N (h t)
theorem V.itemD {value slice : Expr} {a : Addr} {vs : List Value} {ds : List Mine.D} {n : Nat} {led' : Led} {k : Int} {u : Tok} (hm : (a, tupOf vs n) ∈ led) (hd : DAll led' vs ds) (h0 : 0 ≤ k) (h1 : k.toNat < ds.length) (hf : k < 2 ^ 63) (h : ∀ v, DIn led' v (ds.getD k.toNat .none) → Q v l led)
    (hs : subscripted slice false (.ref a) (.int k u) = operate [.ref a, .int k u] (getItem (.ref a) (.int k u)) := by with_unfolding_all rfl) : V w σ l led (fun _ => subscriptTail value slice (.ref a) (.int k u)) Q :=
  .mk fun _ _ _ _ _ F N kR => Mine.itemD N hm hd h0 h1 hf (fun v hv => kR _ _ _ _ _ F N (h v hv)) hs
theorem V.itm {value slice : Expr} {a : Addr} {vs : List Value} {ds : List Mine.D} {n : Nat} {u : Tok} (k : Nat) (hm : (a, tupOf vs n) ∈ led) (hd : DAll led vs ds) (h1 : k < ds.length) (h : ∀ v, DIn led v (ds.getD k .none) → Q v l led) (h9 : Nat.ble k 9 = true := by rfl)
    (hs : subscripted slice false (.ref a) (.int (k : Int) u) = operate [.ref a, .int (k : Int) u] (getItem (.ref a) (.int (k : Int) u)) := by with_unfolding_all rfl) : V w σ l led (fun _ => subscriptTail value slice (.ref a) (.int (k : Int) u)) Q :=
  V.itemD hm hd (Int.natCast_nonneg k) h1 (by have := Nat.le_of_ble_eq_true h9; omega) h hs
theorem V.and {e₁ e₂ : Expr} {rest : List Expr} {pos : Pos} (h : V w σ l led (PySem.eval e₁) (kAndV w σ e₂ rest pos Q)) :
    V w σ l led (PySem.eval (.BoolOp .And (e₁ :: e₂ :: rest) pos)) Q := by
  refine .mk fun δ h' tk R D F N kR => BoolOp_and (h.go δ h' tk _ D F N fun v h₁ t₁ l₁ led₁ F₁ N₁ q => q.go δ h₁ t₁ _ D F₁ N₁ fun c h₂ t₂ l₂ led₂ F₂ N₂ q₂ => ?_)
  cases c with
  | true => exact q₂.go δ h₂ t₂ R D F₂ N₂ kR
  | false => exact kR _ _ _ _ _ F₂ N₂ q₂
theorem V.or {e₁ e₂ : Expr} {rest : List Expr} {pos : Pos} (h : V w σ l led (PySem.eval e₁) (kOrV w σ e₂ rest pos Q)) :
    V w σ l led (PySem.eval (.BoolOp .Or (e₁ :: e₂ :: rest) pos)) Q := by
  refine .mk fun δ h' tk R D F N kR => BoolOp_or (h.go δ h' tk _ D F N fun v h₁ t₁ l₁ led₁ F₁ N₁ q => q.go δ h₁ t₁ _ D F₁ N₁ fun c h₂ t₂ l₂ led₂ F₂ N₂ q₂ => ?_)
  cases c with
  | true => exact kR _ _ _ _ _ F₂ N₂ q₂
  | false => exact q₂.go δ h₂ t₂ R D F₂ N₂ kR
theorem V.last {op : BoolOp} {e : Expr} {pos : Pos} (h : V w σ l led (PySem.eval e) Q) : V w σ l led (PySem.eval (.BoolOp op [e] pos)) Q := .mk fun δ h' tk R D F N kR => h.go δ h' tk R D F N kR
theorem V.ifexp {test body orelse : Expr} {pos : Pos} (h : V w σ l led (fun env => isTrue test env (PySem.eval test env)) (kIfE w σ body orelse Q)) : V w σ l led (PySem.eval (.IfExp test body orelse pos)) Q := by
  refine .mk fun δ h' tk R D F N kR => wpAny_IfExp (h.go δ h' tk _ D F N fun c h₁ t₁ l₁ led₁ F₁ N₁ q => ?_)
  cases c with
  | true => exact q.go δ h₁ t₁ R D F₁ N₁ kR
  | false => exact q.go δ h₁ t₁ R D F₁ N₁ kR
theorem V.cmpE {a r : Expr} {op : CmpOp} {pos : Pos} (hm : behindInMarks op r = false) (h : V w σ l led (PySem.eval a) (kE1 w σ r (kCmpV w σ op Q))) : V w σ l led (PySem.eval (.Compare a [op] [r] pos)) Q :=
  .mk fun δ h' tk R D F N kR => wpAny_Compare1 (h.go δ h' tk _ D F N fun _ h₁ t₁ _ _ F₁ N₁ q => q.go δ h₁ t₁ _ D F₁ N₁ fun _ h₂ t₂ _ _ F₂ N₂ q₂ => q₂.go δ h₂ t₂ R D F₂ N₂ kR) hm
theorem V.all {a : Addr} {vs : List Value} {bs : List Bool} {n : Nat} (hm : (a, lst vs n) ∈ led) (hb : LSm.BoolsAre vs bs) (h : Q (.bool (bs.all id)) l led) : V w σ l led (fun _ => PySem.call (Value.builtin "all") [.ref a]) Q :=
  .mk fun _ _ _ _ _ F N kR => LSm.all_bools (s := ⟨_, _, _, _, _⟩) F N rfl ⟨_, (N _ hm).1, rfl, _, rfl⟩ hb fun _ _ F' N' => kR _ _ _ _ _ F' N' h
theorem V.callP {f : Addr} {vs : List Value} {dk uk : Nat} {x : Value} (C : Con w f vs led dk uk (RetX led x)) (h : Q x l led) (hd : Nat.ble dk σ.dk = true := by rfl) (hu : Nat.ble uk σ.uk = true := by rfl) : V w σ l led (fun _ => PySem.call (.ref f) vs) Q :=
  V.call C hd hu fun r led' o => by obtain ⟨rfl, rfl⟩ := o; exact h
theorem ite_n {x y : Int} {a b : Prop} (h1 : x ≠ y → a) (h2 : x = y → b) : if (x != y) = true then a else b := ite_i (fun h => h1 (by simpa using h)) (fun h => h2 (by simpa using h))
theorem endB {led' : Led} {b b' : Bool} {l' : Loc} (hs : ∀ p ∈ led, p ∈ led') (h : b = b') : finQ (RetX led (.bool b')) (.ret (.bool b)) l' led' := ⟨led, hs, rfl, by rw [h]; rfl⟩
end
end
section
open PySem PySem.W PyProof.Rows PySem.Calls
inductive WhilN (J : Nat → Loc → Led → Prop) (n : Nat) (l : Loc) (led : Led) : Prop
  | mk (n' : Nat) (h : n' < n) (j : J n' l led) : WhilN J n l led
noncomputable def whilQ (J : Nat → Loc → Led → Prop) (n : Nat) (Q : Flow → Loc → Led → Prop) (f : Flow) (l : Loc) (led : Led) : Prop := match f with
  | .next | .cont => WhilN J n l led
  | .brk => Q .next l led
  | .ret v => Q (.ret v) l led
inductive RevK (Q : Value → Loc → Led → Prop) (x c : Value) (l₂ : Loc) (led₂ : Led) : Prop
  | mk (a : Addr) (vs : List Value) (n : Nat) (t : Tok) (ex : x = .ref a) (ec : c = .int (-1) t) (hm : (a, lst vs n) ∈ led₂) (hz : vs.length ≤ 4000000) (k : ∀ b : Addr, (∀ p ∈ led₂, p.1 < b) → Q (.ref b) l₂ ((b, lst vs.reverse 0) :: led₂)) : RevK Q x c l₂ led₂
noncomputable def kSetI (w : World) (σ : Sta) (Q : Flow → Loc → Led → Prop) (v ov iv : Value) (l₁ : Loc) (led₁ : Led) : Prop := V w σ l₁ led₁ (fun _ => setItem ov iv v) (kDone Q)
noncomputable def kTurn (w : World) (σ : Sta) (body : List Stmt) (Q Q' : Flow → Loc → Led → Prop) (b : Bool) (l₂ : Loc) (led₂ : Led) : Prop := if b = true then V w σ l₂ led₂ (PySem.execs body) Q else Q' .next l₂ led₂
inductive Cut2K (Q : Value → Loc → Led → Prop) (x a c : Value) (l₃ : Loc) (led₃ : Led) : Prop
  | mk (b : Array UInt8) (t : Tok) (i : Int) (t1 : Tok) (j : Int) (t2 : Tok) (ex : x = .bytes b t) (ea : a = .int i t1) (ec : c = .int j t2) (hb : b.size ≤ 1000000) (h0 : 0 ≤ i) (h1 : 0 ≤ j) (k : ∀ d t', bI d = ((bI b).drop i.toNat).take (j.toNat - i.toNat) → d.size ≤ b.size → Q (.bytes d t') l₃ led₃) : Cut2K Q x a c l₃ led₃
inductive CutToK (Q : Value → Loc → Led → Prop) (x a : Value) (l₂ : Loc) (led₂ : Led) : Prop
  | mk (b : Array UInt8) (t : Tok) (i : Int) (t1 : Tok) (ex : x = .bytes b t) (ea : a = .int i t1) (hb : b.size ≤ 1000000) (h0 : 0 ≤ i) (k : ∀ d t', bI d = (bI b).drop i.toNat → d.size ≤ b.size → Q (.bytes d t') l₂ led₂) : CutToK Q x a l₂ led₂
inductive CutFrK (Q : Value → Loc → Led → Prop) (x a : Value) (l₂ : Loc) (led₂ : Led) : Prop
  | mk (b : Array UInt8) (t : Tok) (i : Int) (t1 : Tok) (ex : x = .bytes b t) (ea : a = .int i t1) (hb : b.size ≤ 1000000) (h0 : 0 ≤ i) (k : ∀ d t', bI d = (bI b).take i.toNat → d.size ≤ b.size → Q (.bytes d t') l₂ led₂) : CutFrK Q x a l₂ led₂
inductive PopK (Q : Value → Loc → Led → Prop) (ov : Value) (l₁ : Loc) (led₁ : Led) : Prop
  | mk (a : Addr) (vs : List Value) (v : Value) (n : Nat) (led₂ : Led) (e : ov = .ref a) (hm : (a, lst (vs ++ [v]) n) ∈ led₁) (U : Upd a (lst (vs ++ [v]) n) (lst vs (n + 1)) led₁ led₂) (hz : vs.length ≤ 1000000) (q : Q v l₁ led₂) : PopK Q ov l₁ led₁
noncomputable def kTwo2 (w : World) (σ : Sta) (o₂ : CmpOp) (y : Value) (Q : Bool → Loc → Led → Prop) (z : Value) (l₅ : Loc) (led₅ : Led) : Prop := V w σ l₅ led₅ (fun _ => compareOp o₂ y z) (kTruthy w σ Q)
noncomputable def kTwoT (w : World) (σ : Sta) (o₂ : CmpOp) (r₂ : Expr) (y : Value) (Q : Bool → Loc → Led → Prop) (t : Bool) (l₄ : Loc) (led₄ : Led) : Prop := if t = true then V w σ l₄ led₄ (PySem.eval r₂) (kTwo2 w σ o₂ y Q) else Q false l₄ led₄
noncomputable def kTwo1 (w : World) (σ : Sta) (o₁ o₂ : CmpOp) (r₂ : Expr) (Q : Bool → Loc → Led → Prop) (x y : Value) (l₂ : Loc) (led₂ : Led) : Prop := V w σ l₂ led₂ (fun _ => compareOp o₁ x y) (kTruthy w σ (kTwoT w σ o₂ r₂ y Q))
noncomputable def kExpr (Q : Flow → Loc → Led → Prop) (v : Value) (l₁ : Loc) (led₁ : Led) : Prop := match v with | .ref _ => False | _ => Q .next l₁ led₁
noncomputable def kNotV2 (Q : Value → Loc → Led → Prop) (c : Bool) (l₂ : Loc) (led₂ : Led) : Prop := Q (.bool (!c)) l₂ led₂
noncomputable def kNotV (w : World) (σ : Sta) (Q : Value → Loc → Led → Prop) (v : Value) (l₁ : Loc) (led₁ : Led) : Prop := V w σ l₁ led₁ (fun _ => PySem.truthy v) (kNotV2 Q)
section
variable {w : World} {σ : Sta} {l : Loc} {led : Led}
theorem V.whil {test : Expr} {body : List Stmt} {pos : Pos} {Q : Flow → Loc → Led → Prop} (J : Nat → Loc → Led → Prop) {n₀ : Nat} (i : J n₀ l led)
    (turn : ∀ n l₁ led₁, J n l₁ led₁ → V w σ l₁ led₁ (fun env => isTrue test env (PySem.eval test env)) (kTurn w σ body (whilQ J n Q) Q)) (hx : ∀ δ, σ.ex δ := by exact fun _ => trivial) :
    V w σ l led (exec (.While test body [] pos)) Q :=
  .mk fun δ h tk R D F N kR => wpAny_noRaise (While_inv2 (fun n m led' => ∃ l', m = (fun y => l'.lookup y) ∧ J n l' led') F N ⟨l, rfl, i⟩ (by
    rintro n _ led₁ h₁ tk₁ F₁ N₁ ⟨l₁, rfl, j⟩
    have D' : DynOk w σ { δ with E := fun _ _ => False } := ⟨D.B, D.X, D.T, D.hd, D.hu, D.hk, D.ek, D.en, D.eg, D.eb, D.ec, D.dbg, D.fn, D.own, D.top, hx _⟩
    refine (turn n l₁ led₁ j).go { δ with E := fun _ _ => False } h₁ tk₁ _ D' F₁ N₁ fun b h₂ tk₂ l₂ led₂ F₂ N₂ q => ?_
    cases b with
    | false => exact kR _ _ _ _ _ F₂ N₂ q
    | true =>
      refine (show V w σ l₂ led₂ (PySem.execs body) (whilQ J n Q) from q).go { δ with E := fun _ _ => False } h₂ tk₂ _ D' F₂ N₂ fun f h₃ tk₃ l₃ led₃ F₃ N₃ q₃ => ?_
      cases f with
      | next => obtain ⟨n', hn, j'⟩ := q₃; exact ⟨h₃, tk₃, _, led₃, n', rfl, F₃, N₃, hn, l₃, rfl, j'⟩
      | cont => obtain ⟨n', hn, j'⟩ := q₃; exact ⟨h₃, tk₃, _, led₃, n', rfl, F₃, N₃, hn, l₃, rfl, j'⟩
      | brk => exact kR _ _ _ _ _ F₃ N₃ q₃
      | ret v => exact kR _ _ _ _ _ F₃ N₃ q₃) PassesOwn.never)
variable {b : Array UInt8} {t : Tok} {Q : Value → Loc → Led → Prop}
theorem V.bLen (hb : b.size ≤ 1000000) (h : ∀ t', Q (.int (b.size : Int) t') l led) : V w σ l led (fun _ => PySem.call (Value.builtin "len") [.bytes b t]) Q :=
  .mk fun _ _ _ _ _ F N kR => Mine.bLen hb fun _ _ => kR _ _ _ _ _ F N (h _)
theorem V.bItem {value slice : Expr} {i : Int} {ui : Tok} (hb : b.size ≤ 1000000) (h0 : 0 ≤ i) (h1 : i < (b.size : Int)) (h : ∀ t', 0 ≤ (bI b).getD i.toNat 0 → (bI b).getD i.toNat 0 < 256 → Q (.int ((bI b).getD i.toNat 0) t') l led)
    (hs : ∀ x y, subscripted slice false x y = operate [x, y] (getItem x y) := by intro _ _; rfl)
    (ht : ∀ r, letTemporaryGo value (.bytes b t) r = Pure.pure () := by intro _; with_unfolding_all rfl) : V w σ l led (fun _ => subscriptTail value slice (.bytes b t) (.int i ui)) Q :=
  .mk fun _ _ _ _ _ F N kR => Mine.bItem hb h0 h1 (fun _ _ lo hi => kR _ _ _ _ _ F N (h _ lo hi)) (hs _ _) ht
theorem V.cut2 {v lo hi : Expr} {p pos : Pos} {l : Loc} {led : Led}
    (H : V w σ l led (PySem.eval v) (kE1 w σ lo (kE2 w σ hi (Cut2K Q))))
    (ht : ∀ b t r, letTemporaryGo v (.bytes b t) r = Pure.pure () := by intro _ _ _; with_unfolding_all rfl) :
    V w σ l led (PySem.eval (.Subscript v (.Slice (some lo) (some hi) none p) pos)) Q :=
  .mk fun δ h tk R D F N kR => Subscript_ (H.go δ h tk _ D F N fun x h₁ t₁ l₁ led₁ F₁ N₁ q₁ => wpAny_Slice (wpAny_evalPart_some (q₁.go δ h₁ t₁ _ D F₁ N₁ fun a h₂ t₂ l₂ led₂ F₂ N₂ q₂ => wpAny_evalPart_some (q₂.go δ h₂ t₂ _ D F₂ N₂ fun c h₃ t₃ l₃ led₃ F₃ N₃ q₃ => wpAny_evalPart_none (by
    obtain ⟨b, t, i, t1, j, t2, rfl, rfl, rfl, hb, h0, h1, k⟩ := q₃
    exact bSlice (s := ⟨h₃, _, _, _, _⟩) F₃ N₃ hb h0 h1 (fun h' d t' k' F' N' e z => kR _ _ _ _ _ F' N' (k d t' e z)) (ht := ht _ _))))))
theorem V.cutTo {v lo : Expr} {p pos : Pos} {l : Loc} {led : Led}
    (H : V w σ l led (PySem.eval v) (kE1 w σ lo (CutToK Q)))
    (ht : ∀ b t r, letTemporaryGo v (.bytes b t) r = Pure.pure () := by intro _ _ _; with_unfolding_all rfl) :
    V w σ l led (PySem.eval (.Subscript v (.Slice (some lo) none none p) pos)) Q :=
  .mk fun δ h tk R D F N kR => Subscript_ (H.go δ h tk _ D F N fun x h₁ t₁ l₁ led₁ F₁ N₁ q₁ => wpAny_Slice (wpAny_evalPart_some (q₁.go δ h₁ t₁ _ D F₁ N₁ fun a h₂ t₂ l₂ led₂ F₂ N₂ q₂ => wpAny_evalPart_none (wpAny_evalPart_none (by
    obtain ⟨b, t, i, t1, rfl, rfl, hb, h0, k⟩ := q₂
    exact bSliceTo (s := ⟨h₂, _, _, _, _⟩) F₂ N₂ hb h0 (fun h' d t' k' F' N' e z => kR _ _ _ _ _ F' N' (k d t' e z)) (ht := ht _ _))))))
theorem V.cutFrom {v hi : Expr} {p pos : Pos} {l : Loc} {led : Led}
    (H : V w σ l led (PySem.eval v) (kE1 w σ hi (CutFrK Q)))
    (ht : ∀ b t r, letTemporaryGo v (.bytes b t) r = Pure.pure () := by intro _ _ _; with_unfolding_all rfl) :
    V w σ l led (PySem.eval (.Subscript v (.Slice none (some hi) none p) pos)) Q :=
  .mk fun δ h tk R D F N kR => Subscript_ (H.go δ h tk _ D F N fun x h₁ t₁ l₁ led₁ F₁ N₁ q₁ => wpAny_Slice (wpAny_evalPart_none (wpAny_evalPart_some (q₁.go δ h₁ t₁ _ D F₁ N₁ fun a h₂ t₂ l₂ led₂ F₂ N₂ q₂ => wpAny_evalPart_none (by
    obtain ⟨b, t, i, t1, rfl, rfl, hb, h0, k⟩ := q₂
    exact bSliceFrom (s := ⟨h₂, _, _, _, _⟩) F₂ N₂ hb h0 (fun h' d t' k' F' N' e z => kR _ _ _ _ _ F' N' (k d t' e z)) (ht := ht _ _))))))
noncomputable def lks : Loc → Loc → Prop
  | [], _ => True
  | p :: r, u => u.lookup p.1 = some p.2 ∧ lks r u
theorem lks_eq : ∀ (ps : Loc) {u : Loc}, lks ps u → ∀ y, (ps ++ u).lookup y = u.lookup y
  | [], _, _, _ => rfl
  | (x, v) :: r, u, h, y => by
    rw [List.cons_append, List.lookup_cons]
    cases e : y == x with
    | true => rw [show y = x from eq_of_beq e]; exact h.1.symm
    | false => exact lks_eq r h.2 y
theorem V.names {α : Type} {t : Env → Sem α} {Q : α → Loc → Led → Prop} {ps u : Loc} {led : Led} (hp : lks ps u) (h : V w σ (ps ++ u) led t Q) : V w σ u led t Q :=
  .mk fun δ h' tk R D F N kR => h.go δ h' tk R D ((funext (lks_eq ps hp) : (fun y => (ps ++ u).lookup y) = fun y => u.lookup y) ▸ F) N kR
inductive PassN {τ : Type} (ps : τ → Loc) (Lf : τ → Led) (P : τ → Prop) (μ : τ → Nat) (c : τ) (l : Loc) (led : Led) : Prop
  | mk (c' : τ) (hm : μ c' < μ c) (hp : P c') (hs : ∀ p ∈ Lf c', p ∈ led) (hk : lks (ps c') l) : PassN ps Lf P μ c l led
noncomputable def passQ {τ : Type} (ps : τ → Loc) (Lf : τ → Led) (P : τ → Prop) (μ : τ → Nat) (c : τ) (Q : Flow → Loc → Led → Prop) (f : Flow) (l : Loc) (led : Led) : Prop := match f with
  | .next | .cont => PassN ps Lf P μ c l led
  | .brk => Q .next l led
  | .ret v => Q (.ret v) l led
theorem V.pass {τ : Type} (ps : τ → Loc) (Lf : τ → Led) (P : τ → Prop) (μ : τ → Nat) (c₀ : τ) {test : Expr} {body : List Stmt} {pos : Pos} {Q : Flow → Loc → Led → Prop} {l : Loc} {led : Led} (hk : lks (ps c₀) l) (hp : P c₀) (hs : ∀ p ∈ Lf c₀, p ∈ led)
    (turn : ∀ c u, P c → V w σ (ps c ++ u) (Lf c) (fun env => isTrue test env (PySem.eval test env)) (kTurn w σ body (passQ ps Lf P μ c Q) Q)) (hx : ∀ δ, σ.ex δ := by exact fun _ => trivial) :
    V w σ l led (exec (.While test body [] pos)) Q := by
  refine V.whil (fun n l₁ led₁ => ∃ c, n = μ c ∧ P c ∧ (∀ p ∈ Lf c, p ∈ led₁) ∧ lks (ps c) l₁) (n₀ := μ c₀) ⟨c₀, rfl, hp, hs, hk⟩ ?_ hx
  rintro n l₁ led₁ ⟨c, rfl, hp₁, hs₁, hk₁⟩
  refine V.names hk₁ (V.sub hs₁ (V.mono (turn c l₁ hp₁) fun b l₂ led₂ q => ?_))
  cases b with
  | false => exact q
  | true =>
    refine V.mono (show V w σ l₂ led₂ (PySem.execs body) (passQ ps Lf P μ c Q) from q) fun f l₃ led₃ q₃ => ?_
    cases f with
    | next => obtain ⟨c', a, b', d, e⟩ := q₃; exact ⟨_, a, c', rfl, b', d, e⟩
    | cont => obtain ⟨c', a, b', d, e⟩ := q₃; exact ⟨_, a, c', rfl, b', d, e⟩
    | brk => exact q₃
    | ret v => exact q₃
theorem V.mul {x y : Int} {tx ty : Tok} {l : Loc} {led : Led} (hm : IntMulOk x y) (h : ∀ t', Q (.int (x * y) t') l led) : V w σ l led (fun _ => binaryOp .Mult (.int x tx) (.int y ty)) Q :=
  .mk fun _ _ _ _ _ F N kR => P.mul_int (kR _ _ _ _ _ F N (h _)) hm
theorem V.expr {e : Expr} {p : Pos} {Q : Flow → Loc → Led → Prop} {l : Loc} {led : Led} (hn : noComp e = true) (h : V w σ l led (PySem.eval e) (kExpr Q)) :
    V w σ l led (exec (.Expr e p)) Q :=
  .mk fun δ h' tk R D F N kR => wpAny_Expr (h.go δ h' tk _ D F N fun v h₁ t₁ l₁ led₁ F₁ N₁ q => by
    cases v with
    | ref => exact q
    | _ => exact kR _ _ _ _ _ F₁ N₁ q) (by unfold interactive; rw [D.en, D.ek]; rfl) (noComp_ok hn)
theorem V.bytesOf {a : Addr} {vs : List Value} {n : Nat} {ns : List Int} {l : Loc} {led : Led} (hm : (a, lst vs n) ∈ led) (hi : IntsAre vs ns) (hr : KBa.In ns) (hn : ns.length ≤ 16777216) (h : ∀ t', Q (.bytes (byteArr ns) t') l led) :
    V w σ l led (fun _ => PySem.call (Value.type "bytes") [.ref a]) Q :=
  .mk fun _ _ _ _ _ F N kR => KBa.make_K F N rfl (isLst N hm) hi hr hn fun _ _ _ F' N' _ => kR _ _ _ _ _ F' N' (h _)
theorem V.drop {α : Type} {t : Env → Sem α} {Q : α → Loc → Led → Prop} {l : Loc} {led : Led} {p : Addr × Obj} (h : V w σ l led t Q) : V w σ l (p :: led) t Q := V.sub (fun _ h => .tail _ h) h
theorem V.fSetAt {x d o f : Addr} {b : Array UInt8} {T : Led} {S : RdS} {j : Nat} {tj : Tok} {Q : Unit → Loc → Led → Prop} {l : Loc} {led : Led} (hS : RSt w x d o f b T S led) (R : RAd x d o f T)
    (h : ∀ led', RSt w x d o f b T { S with at_ := j } led' → Q () l led') : V w σ l led (fun _ => setAttr (.ref x) (Str.ofString "at") (.int (j : Int) tj)) Q := by
  refine V.withNews fun h₀ hp L N => ?_
  obtain ⟨t1, t2, t3, t4, tb, ti, no, nf, rs, fs, T1, rfl, hT1, hrs, hback⟩ := hS.openT R N
  have hd1 := R.h1
  have hd2 := R.h2
  have hd3 := R.h3
  exact V.setAt (Nat.ne_of_gt hd1) (List.forall_mem_cons.mpr ⟨Nat.ne_of_gt (by omega), List.forall_mem_cons.mpr ⟨Nat.ne_of_gt (by omega), hT1⟩⟩) (h _ (hback j tj))
theorem V.two {a r₁ r₂ : Expr} {o₁ o₂ : CmpOp} {p : Pos} {Q : Bool → Loc → Led → Prop} {l : Loc} {led : Led} {whole : Env → Sem Value}
    (h : V w σ l led (PySem.eval a) (kE1 w σ r₁ (kTwo1 w σ o₁ o₂ r₂ Q)))
    (hm : lastMarks [o₁, o₂] [r₁, r₂] = false := by with_unfolding_all rfl) :
    V w σ l led (fun env => isTrue (.Compare a [o₁, o₂] [r₁, r₂] p) env (whole env)) Q :=
  .mk fun δ h' tk R D F N kR => isTrue_chain (h.go δ h' tk _ D F N fun x h₁ t₁ l₁ led₁ F₁ N₁ q₁ => test_link (q₁.go δ h₁ t₁ _ D F₁ N₁ fun y h₂ t₂ l₂ led₂ F₂ N₂ q₂ => q₂.go δ h₂ t₂ _ D F₂ N₂ fun c h₃ t₃ l₃ led₃ F₃ N₃ q₃ => q₃.go δ h₃ t₃ _ D F₃ N₃ fun t h₄ t₄ l₄ led₄ F₄ N₄ q₄ => by
    cases t with
    | false => exact kR _ _ _ _ _ F₄ N₄ q₄
    | true =>
      exact test_last ((show V w σ l₄ led₄ (PySem.eval r₂) (kTwo2 w σ o₂ y Q) from q₄).go δ h₄ t₄ _ D F₄ N₄ fun z h₅ t₅ l₅ led₅ F₅ N₅ q₅ => q₅.go δ h₅ t₅ _ D F₅ N₅ fun c h₆ t₆ l₆ led₆ F₆ N₆ q₆ => q₆.go δ h₆ t₆ _ D F₆ N₆ kR))) hm
theorem V.mod {a b : Int} {t u : Tok} {Q : Value → Loc → Led → Prop} (hb : b ≠ 0) (h : ∀ t', Q (.int (a.fmod b) t') l led) : V w σ l led (fun _ => binaryOp .Mod (.int a t) (.int b u)) Q :=
  .mk fun _ _ _ _ _ F N kR => mod_int' hb (kR _ _ _ _ _ F N (h _))
theorem V.lLen {l : Loc} {led : Led} {a : Addr} {vs : List Value} {n : Nat} {Q : Value → Loc → Led → Prop} (hm : (a, lst vs n) ∈ led) (hz : vs.length ≤ 1000000) (h : ∀ t, Q (.int (vs.length : Int) t) l led) : V w σ l led (fun _ => PySem.call (Value.builtin "len") [.ref a]) Q :=
  .mk fun _ _ _ _ _ F N kR => lstLen N hm (by omega) fun t _ => kR _ _ _ _ _ F N (h t)
theorem V.lHead {l : Loc} {led : Led} {value slice : Expr} {a : Addr} {vs : List Value} {n : Nat} {k : Int} {u : Tok} {v : Value} {Q : Value → Loc → Led → Prop} (hm : (a, lst vs n) ∈ led) (h0 : 0 ≤ k) (hf : k < 2 ^ 63) (hx : vs[k.toNat]? = some v) (h : Q v l led)
    (hs : subscripted slice false (.ref a) (.int k u) = operate [.ref a, .int k u] (getItem (.ref a) (.int k u)) := by with_unfolding_all rfl) : V w σ l led (fun _ => subscriptTail value slice (.ref a) (.int k u)) Q :=
  .mk fun _ _ _ _ _ F N kR => lstItem N hm h0 hf hx (kR _ _ _ _ _ F N h) hs
theorem V.fdiv {a b : Int} {t u : Tok} {l : Loc} {led : Led} (hb : b ≠ 0) (hp : b.natAbs < 1073741824) (h : ∀ t', Q (.int (a.fdiv b) t') l led) : V w σ l led (fun _ => binaryOp .FloorDiv (.int a t) (.int b u)) Q :=
  .mk fun _ _ _ _ _ F N kR => floordiv_int hb (kR _ _ _ _ _ F N (h _)) (.inl (PyProof.noPylong_small hp))
theorem V.rev {v st : Expr} {p pos : Pos} {l : Loc} {led : Led} (H : V w σ l led (PySem.eval v) (kE1 w σ st (RevK Q)))
    (ht : ∀ q r, letTemporaryGo v (.ref q) r = Pure.pure () := by intro _ _; with_unfolding_all rfl) :
    V w σ l led (PySem.eval (.Subscript v (.Slice none none (some st) p) pos)) Q :=
  .mk fun δ h tk R D F N kR => Subscript_ (H.go δ h tk _ D F N fun x h₁ t₁ l₁ led₁ F₁ N₁ q₁ => wpAny_Slice (wpAny_evalPart_none (wpAny_evalPart_none (wpAny_evalPart_some (q₁.go δ h₁ t₁ _ D F₁ N₁ fun a h₂ t₂ l₂ led₂ F₂ N₂ q₂ => by
    obtain ⟨a, vs, n, t, rfl, rfl, hm, hz, k⟩ := q₂
    exact krv_lit (s := ⟨h₂, _, _, _, _⟩) F₂ N₂ (isLst N₂ hm) (IsPart.int _ _) rfl (fun D' h' F' N' hl => kR _ _ _ _ _ F' N' (k D' hl)) (by with_unfolding_all rfl) (ht _) (by rw [List.size_toArray, sizeLine_eq]; omega))))))
theorem V.setSub {o i value : Expr} {p pos : Pos} {Q : Flow → Loc → Led → Prop} {l : Loc} {led : Led} (hs : ∀ env, swapsWith value (some (.Subscript o i p)) pos.line env = Pure.pure false) (h : V w σ l led (PySem.eval value) (kE1 w σ o (kE2 w σ i (kSetI w σ Q)))) :
    V w σ l led (exec (.Assign [.Subscript o i p] value pos)) Q :=
  .mk fun δ h' tk _ D F N kR => wpAny_Assign_Subscript (h.go δ h' tk _ D F N fun _ h₁ t₁ _ _ F₁ N₁ q => q.go δ h₁ t₁ _ D F₁ N₁ fun _ h₂ t₂ _ _ F₂ N₂ q₂ => q₂.go δ h₂ t₂ _ D F₂ N₂ fun _ h₃ t₃ _ _ F₃ N₃ q₃ => q₃.go δ h₃ t₃ _ D F₃ N₃ fun _ _ _ _ _ F₄ N₄ q₄ => kR _ _ _ _ _ F₄ N₄ q₄) (hs _)
theorem V.assignX {l : Loc} {led : Led} {x : Str} {p pos : Pos} {v : Expr} {Q : Flow → Loc → Led → Prop} (hn : noComp v = true) (h : V w σ l led (PySem.eval v) (kStoreX w σ x Q)) : V w σ l led (exec (.Assign [.Name x p] v pos)) Q :=
  .mk fun δ hp tk R D F N kR => wpAny_Assign_Name (h.go δ hp tk _ D F N fun v h₁ t₁ l₁ led₁ F₁ N₁ q => q.go δ h₁ t₁ _ D F₁ N₁ fun _ _ _ _ _ F₂ N₂ q₂ => kR _ _ _ _ _ F₂ N₂ q₂) (noComp_ok hn)
theorem V.pop {ob : Expr} {ap pos : Pos} {l : Loc} {led : Led} (pl : Env → Sem Bool) (he : ∀ env, PySem.eval (.Call (.Attribute ob (Str.ofString "pop") ap) [] [] pos) env = (do
      let ov ← PySem.eval ob env
      standAt ap.atName
      let (f, first) ← holding [ov] (getMethod ov (Str.ofString "pop") (pl env))
      callWith pos f first (backTo pos (starEach [] env)) []))
    (h : V w σ l led (PySem.eval ob) (PopK Q)) :
    V w σ l led (PySem.eval (.Call (.Attribute ob (Str.ofString "pop") ap) [] [] pos)) Q := by
  refine .mk fun δ hp' tk R D F N kR => MethodCall_ (h.go δ hp' tk _ D F N fun ov h₁ t₁ l₁ led₁ F₁ N₁ q => ?_) (he _)
  obtain ⟨a, vs, v, n, led₂, rfl, hm, U, hz, q⟩ := q
  refine listMethod_K N₁ hm PySem.F.slot_list_pop PySem.F.type_list_pop ?_
  exact callWith_method0 (popLast F₁ N₁ U hz fun h₃ F₃ N₃ => kR _ _ _ _ _ F₃ N₃ q)
theorem V.not {x : Expr} {pos : Pos} {l : Loc} {led : Led} (h : V w σ l led (PySem.eval x) (kNotV w σ Q)) : V w σ l led (PySem.eval (.UnaryOp .Not x pos)) Q :=
  .mk fun δ h' tk _ D F N kR => UnaryOp_ (h.go δ h' tk _ D F N fun _ h₁ t₁ _ _ F₁ N₁ q => not_of (q.go δ h₁ t₁ _ D F₁ N₁ fun _ _ _ _ _ F₂ N₂ q₂ => kR _ _ _ _ _ F₂ N₂ q₂))
theorem avCmp_r {op : CmpOp} {a : Option Int} {X : Prop} {k : Value → Prop} (h : X) : avCmp op a none X k := by
  cases a <;> exact h
end
end
section
open PySem PySem.W PyProof.Rows PySem.Calls
theorem bb_lookup : typeLookup (.type "bytes") "__bytes__" = pure (some (.builtin "bytes.__bytes__")) := by rw [typeLookup_type, builtinLookup_eq_fast]; kernel_rfl
section
variable {prog : Program} {w : World} {A : Around} {E : Value → Shared → Prop} {s : Shared} {b : Array UInt8} {t : Tok} {Q : Value → Shared → Prop}
theorem bytes_self (hQ : Q (.bytes b t) s) : wpAny (model prog w) A (call (.type "bytes") [.bytes b t]) Q E s := by
  refine callType_codes (Q₁ := fun obj s₁ => s₁.TypeIs obj "bytes" ∧ Q obj s₁) PySem.F.bm_called (PySem.F.bm_typeCall _) PySem.F.entry_object_init ?_ fun obj s₁ h₁ => ?_
  · refine codeAny_of_tree ?_
    show wpAny _ A.in1.in1 (do checkBuiltinCall "bytes.__new__" ⟨[.type "bytes", .bytes b t], []⟩; again (.builtin "bytes.__new__" ⟨[.type "bytes", .bytes b t], []⟩)) _ _ s
    refine wpAny_bind (wpAny_of_eq (PySem.F.bm_newCall _) (wpAny_pure ⟨plainId_quiet PySem.F.bm_plain _, codeAny_builtin PySem.F.bm_entry ?_⟩))
    rw [Around.under_plainId PySem.F.bm_plain _]
    unfold Builtin.«bytes.__new__»
    refine wpAny_bind (wpAny_of_eq (a := true) rfl ?_)
    refine bm_if_false rfl ?_
    refine wpAny_bind (wpAny_of_eq PySem.F.bm_sub ?_)
    refine bm_if_false rfl ?_
    refine wpAny_bind (wpAny_of_eq (PySem.F.bm_bind _) ?_)
    refine wpAny_bind (wpAny_of_eq (a := ()) rfl ?_)
    refine wpAny_bind (wpAny_of_eq (a := ()) rfl ?_)
    refine bm_if_false rfl ?_
    refine wpAny_bind (wpAny_specialOf (typeIs_bytes s b t) bb_lookup ?_)
    refine wpAny_bind (wpAny_rule ?_)
    refine wpAny_bind (wpAny_of_eq (a := Value.type "bytes") rfl ?_)
    refine bm_if_true (by decide) ?_
    show wpAny _ _ (if (Value.type "bytes" == Value.type "bytes") = true then _ else _) _ _ _
    refine bm_if_true (by decide) ?_
    first
      | exact wpAny_pure ⟨typeIs_bytes _ _ _, hQ⟩
      | exact wpAny_bind (wpAny_pure (wpAny_pure ⟨typeIs_bytes _ _ _, hQ⟩))
  · exact ⟨h₁.1, PySem.F.args_object_init_2 obj _, object_init_meets PySem.F.bm_called.init.lookup PySem.F.bm_called.made (by decide) prog w A.in1 _ s₁ ⟨h₁.1, rfl, h₁.2⟩⟩
end
end
section
open PySem PySem.W PyProof.Rows PySem.Calls PySem.NumText PySem.W.KIN
theorem i2_type (a b : Value) : checkTypeCall "int" ⟨[a, b], []⟩ = pure () := by kernel_rfl
theorem i2_new (a b : Value) : checkBuiltinCall "int.__new__" ⟨[.type "int", a, b], []⟩ = pure () := by kernel_rfl
theorem i2_init (obj a b : Value) : argsOk "object.__init__" ⟨[obj, a, b], []⟩ := by unfold argsOk; kernel_rfl
theorem wp_text16 {M : Model} {A : Around} {E : Value → Shared → Prop} {s : Shared} {Q : Value → Shared → Prop} {v : Value} {text : List Nat} {n : Int}
    (hs : (text.takeWhile (· != 0)).length ≤ 640) (hr : (int_private% "readNumeral") 0 16 (text.takeWhile (· != 0)) = (int_private% "Numeral.value") n)
    (ha : ((text.takeWhile (· != 0)).length == text.length) = true) (h : Q (.int n s.toks) { s with toks := s.toks + 1 }) :
    wpAny M A ((int_private% "intFromText") v text 16) Q E s := by
  obtain ⟨hp, g, d, tk, os⟩ := s
  repeat (any_goals (first
    | assumption
    | (with_reducible refine wpAny_ite_true (decide_eq_true hs) ?_)
    | (with_reducible refine wpAny_ite_true (decide_eq_true ha) ?_)
    | wp_step))
  all_goals (try rw [hr])
  all_goals (try dsimp only)
  repeat (any_goals (first
    | assumption
    | (with_reducible refine wpAny_ite_true (decide_eq_true hs) ?_)
    | (with_reducible refine wpAny_ite_true (decide_eq_true ha) ?_)
    | wp_step))
theorem gives_text16 {x : PySem.Str} {u v : Tok} {n : Int} (hs : (numSeenOf x).length ≤ 640) (hr : (int_private% "readNumeral") 0 16 (numSeenOf x) = (int_private% "Numeral.value") n ∧ ((numSeenOf x).length == (numTextOf x).length) = true) : Gives (Builtin.«int.__new__» ⟨[.type "int", .str x u, .int 16 v], []⟩) (.int n) :=
  .of_wp fun M A E s Q h => by
    obtain ⟨hp, g, d, tk, os⟩ := s
    have f1 := PySem.F.conv_sub_int
    have f2 := PySem.F.madeHere_int
    have f6 : typeOf (.str x u) = pure (.type "str") := rfl
    have hk := Hid.mk (And.intro hs hr)
    clear hs hr
    repeat (any_goals (first
      | assumption
      | ((with_reducible show wpAny _ _ ((int_private% "intFromText") _ _ _) _ _ _); refine wp_text16 hk.out.1 hk.out.2.1 hk.out.2.2 ?_)
      | wp_step))
    all_goals first | exact ⟨_, rfl, h⟩ | skip
noncomputable def h16 (k : Nat) : Nat := if k < 10 then 48 + k else 87 + k
theorem h16_a : ∀ p < 16, ∀ q < 16, sign ([h16 p, h16 q].dropWhile blank) = (false, [h16 p, h16 q]) := by decide +kernel
theorem h16_b : ∀ p < 16, ∀ q < 16, based 16 [h16 p, h16 q] = (16, false, [h16 p, h16 q]) := by decide +kernel
theorem h16_c : ∀ p < 16, ∀ q < 16, (digits? 16 (([h16 p, h16 q].reverse.dropWhile blank).reverse)).map (·.toList) = some [p, q] := by decide +kernel
theorem h16_d : ∀ p < 16, ∀ q < 16, ([h16 p, h16 q].takeWhile (· != 0)) = [h16 p, h16 q] := by decide +kernel
theorem h16_e : ∀ p < 16, ∀ q < 16, ([h16 p, h16 q].all (· < 128)) = true := by decide +kernel
theorem read16 {p q : Nat} (hp : p < 16) (hq : q < 16) : (int_private% "readNumeral") 0 16 [h16 p, h16 q] = (int_private% "Numeral.value") ((16 * p + q : Nat) : Int) := by
  have h1 := h16_a p hp q hq
  have h2 := h16_b p hp q hq
  have h3 := h16_c p hp q hq
  replace h3 : digits? 16 (([h16 p, h16 q].reverse.dropWhile blank).reverse) = some #[p, q] := by
    cases hd : digits? 16 (([h16 p, h16 q].reverse.dropWhile blank).reverse) with
    | none => rw [hd] at h3; cases h3
    | some ds => rw [hd] at h3; exact congrArg some (Array.ext' (by simpa using h3))
  rw [readNumeral_eq, h1]
  dsimp only
  rw [h2]
  dsimp only
  rw [h3, show 16 * p + q = (0 * 16 + p) * 16 + q by omega]
  rfl
theorem call_hex2 {prog : Program} {w : World} {A : Around} {E : Value → Shared → Prop} {s : Shared} {Q : Value → Shared → Prop} {x : PySem.Str} {t v : Tok} {p q : Nat} (hp : p < 16) (hq : q < 16) (hx : x.cps.toList = [h16 p, h16 q])
    (h : Q (.int ((16 * p + q : Nat) : Int) s.toks) { s with toks := s.toks + 1 }) : wpAny (model prog w) A (call (.type "int") [.str x t, .int 16 v]) Q E s := by
  have h4 := h16_d p hp q hq
  have h5 := h16_e p hp q hq
  have e1 : numTextOf x = [h16 p, h16 q] := by
    show (if x.cps.all (· < 128) then x.cps.toList else Unicode.numberText x.cps.toList) = _
    rw [← Array.all_toList, hx, h5, if_pos rfl]
  have e2 : numSeenOf x = [h16 p, h16 q] := by
    show (numTextOf x).takeWhile _ = _
    rw [e1, h4]
  have g := gives_text16 (x := x) (u := t) (v := v) (n := ((16 * p + q : Nat) : Int)) (by rw [e2]; exact Nat.le_of_ble_eq_true rfl) ⟨by rw [e2]; exact read16 hp hq, by rw [e1, e2]; rfl⟩
  exact callType_new PySem.F.called_int PySem.F.newNe_int (i2_type _ _) (i2_new _ _) (fun obj => i2_init obj _ _) PySem.F.entry_int_new g.meets (show (Made.int _).post _ s from ⟨rfl, h⟩)
end
theorem words0 : True := by
  k_with "alne" => exact all_ne (by assumption)
  k_with "vm" => first | assumption | exact List.Mem.head _ | (refine List.Mem.tail _ ?_; k_extra "vm") | (refine List.mem_append_right _ ?_; k_extra "vm")
  k_with "vst" => repeat (first
    | ((fail_if_success (with_reducible show V _ _ _ _ _ _)); first | intro _ | refine (?_ : V _ _ _ _ _ _) | refine ite_tt ?_ | refine ite_ff ?_)
    | ((with_reducible show V _ _ _ _ (execs _) _); refine V.execs ?_)
    | ((with_reducible show V _ _ _ _ (eval _) _); first
      | refine V.eval (by rfl) ?_
      | ((with_reducible show V _ _ _ _ (eval (Expr.BoolOp _ _ _)) _); first | refine V.last ?_ | refine V.and ?_ | refine V.or ?_)
      | ((with_reducible show V _ _ _ _ (eval (Expr.IfExp _ _ _ _)) _); refine V.ifexp ?_)
      | ((with_reducible show V _ _ _ _ (eval (Expr.Compare _ [_] [_] _)) _); refine V.cmpE (by rfl) ?_)
      | ((with_reducible show V _ _ _ _ (eval (Expr.Name _ _)) _); refine' V.cell (by rfl) ?hm ?hd ?_; (case hm => k_extra "vm"); (case hd => assumption))
      | ((with_reducible show V _ _ _ _ (eval (Expr.Name _ _)) _); refine' V.own ?hm ?hC ?hv ?_; (case hm => k_extra "vm"); (case hC => assumption); (case hv => assumption)))
    | ((fail_if_success (fail_if_success (with_reducible show V _ _ _ _ (fun env => spliced (backTo _ (starEach _ env))) _))); refine V.args ?_)
    | ((with_reducible show V _ _ _ _ (fun env => isTrue _ env (eval _ env)) _); refine V.test (by rfl) ?_)
    | ((with_reducible show V _ _ _ _ (fun _ => binaryOp _ _ _) _); refine V.bin (by rfl) ?_)
    | ((with_reducible show V _ _ _ _ (fun _ => compareOp _ _ _) _); refine V.cmp (by rfl) ?_)
    | ((with_reducible show V _ _ _ _ (fun _ => truthy _) _); refine V.truthy (by rfl) ?_))
  trivial
section
open PySem PySem.W PyProof.Rows
set_option maxRecDepth 100000 in
theorem c_dec (w : World) (led : Led) (i : Int) (t : Tok) (hi : (decInts i).length ≤ 1000000) : Con w 90 [.int i t] led 1 8 (RetB led ((byteArr (decInts i)))) := by
  k_dflt (refine' Con.of_V [(S1 "number", .int i t)] ?a ?b ?c ?d ?e ?f ?g ?h ?i ?j ?_; ((case a => k_is); (case b => k_is); (case c => rfl); (case d => rfl); (case e => rfl); (case f => rfl); (case g => rfl); (case h => rfl); (case i => decide); (case j => rfl)))
  refine V.seq (V.assignX rfl (V.mono (Q := fun v l2 led2 => l2 = [(S1 "number", Value.int i t)] ∧ led = led2 ∧ ∃ t', v = .int i.natAbs t') ?_ ?_))
  · k_extra "vst"
    refine ite_d (fun c => ?_) (fun c => ?_)
    · k_extra "vst"
      exact ⟨rfl, rfl, t, congrArg (Value.int · t) (Int.natAbs_of_nonneg c).symm⟩
    · k_extra "vst"
      exact ⟨rfl, rfl, _, congrArg (Value.int · _) (Int.ofNat_natAbs_of_nonpos (Int.le_of_lt (Int.not_le.mp c))).symm⟩
  rintro _ _ _ ⟨rfl, rfl, t', rfl⟩
  refine V.store rfl ?_
  k_extra "vst"
  refine V.mod (by decide) fun _ => ?_
  k_extra "vst"
  refine V.list fun l hl => ?_
  k_extra "vst"
  refine V.fdiv (by decide) (by decide) fun tz => ?_
  k_extra "vst"
  refine V.pass (τ := Int × Tok × List Value × Nat × List Int) (fun c => [(S1 "rest", .int c.1 c.2.1), (S1 "found", .ref l), (S1 "number", .int i t)]) (fun c => (l, lst c.2.2.1 c.2.2.2.1) :: led)
    (fun c => IntsAre c.2.2.1 c.2.2.2.2 ∧ DigInv i c.1 c.2.2.2.2) (fun c => c.1.toNat) (_, tz, [_], 0, [_]) ⟨rfl, rfl, rfl, trivial⟩ ⟨.cons _ _ .nil, DigInv.start rfl⟩ (fun _ h => h) ?_
  rintro ⟨r, tr, vs, nn, ns⟩ u ⟨hf, hp⟩
  dsimp only at hf hp ⊢
  have hl2 := hp.len hi
  have lf := hf.length
  have hne : ∀ p ∈ led, p.1 ≠ l := fun p hp => Nat.ne_of_lt (hl p hp)
  k_extra "vst"
  refine ite_d (fun g => ?_) (fun g => ?_)
  · k_extra "vst"
    refine V.append _ (fun _ => rfl) rfl ?_
    k_extra "vst"
    refine ⟨l, rfl, ⟨_, _, .head _⟩, ?_⟩
    k_extra "vst"
    refine V.mod (by decide) fun _ => ?_
    k_extra "vst"
    refine ⟨vs, nn, _, Upd.head hne, by omega, ?_⟩
    k_extra "vst"
    refine V.fdiv (by decide) (by decide) fun tz => ?_
    k_extra "vst"
    exact ⟨(_, _, _, _, _), DigInv.less g, ⟨hf.append (.cons _ _ .nil), hp.turn g⟩, fun _ h => h, rfl, rfl, rfl, trivial⟩
  · k_extra "vst"
    refine ite_d (fun c => ?_) (fun c => ?_)
    · k_extra "vst"
      refine V.append _ (fun _ => rfl) rfl ?_
      k_extra "vst"
      refine ⟨l, rfl, ⟨_, _, .head _⟩, ?_⟩
      k_extra "vst"
      refine ⟨vs, nn, _, Upd.head hne, by omega, ?_⟩
      k_extra "vst"
      refine V.rev ?_
      k_extra "vst"
      refine ⟨l, _, _, _, rfl, rfl, .head _, by rw [List.length_append]; show vs.length + 1 ≤ _; omega, fun b hb => ?_⟩
      k_extra "vst"
      refine V.bytesOf (.head _) (hf.append (.cons _ _ .nil)).reverse hp.in2 (by rw [List.length_reverse, List.length_append]; show ns.length + 1 ≤ _; omega) fun _ => ?_
      exact ⟨led, fun _ h => .tail _ (.tail _ h), rfl, _, by rw [hp.out2 g c]; rfl⟩
    · k_extra "vst"
      refine V.rev ?_
      k_extra "vst"
      refine ⟨l, _, _, _, rfl, rfl, .head _, by omega, fun b hb => ?_⟩
      k_extra "vst"
      refine V.bytesOf (.head _) hf.reverse hp.in1 (by rw [List.length_reverse]; omega) fun _ => ?_
      exact ⟨led, fun _ h => .tail _ (.tail _ h), rfl, _, by rw [hp.out1 g c]; rfl⟩
end
section
open PySem PySem.W PyProof.Rows
inductive DrawOut (w : World) (dk C : Addr) (i b : Int) (T : Led) (led' : Led) (r : Value) : Prop
  | mk (o' : Obj) (h : led' = (dk, o') :: T) (hd : DkIs w o' C (i + 1)) (n : Int) (t : Tok) (hr : r = .int n t) (h0 : 0 ≤ n) (h1 : n < b) : DrawOut w dk C i b T led' r
section
variable {w : World} {σ : Sta} {l : Loc} {led : Led} {dk C : Addr} {o : Obj} {i : Int}
theorem V.dCells {value slice : Expr} {u : Tok} {Q : Value → Loc → Led → Prop} (hm : (dk, o) ∈ led) (hd : DkIs w o C i) (h : Q (.ref C) l led)
    (hs : subscripted slice false (.ref dk) (.str (S "cells") u) = operate [.ref dk, .str (S "cells") u] (getItem (.ref dk) (.str (S "cells") u)) := by with_unfolding_all rfl) (hg : ∀ r, letTemporaryGo value (.ref dk) r = Pure.pure () := by intro _; with_unfolding_all rfl) :
    V w σ l led (fun _ => subscriptTail value slice (.ref dk) (.str (S "cells") u)) Q :=
  .mk fun _ _ _ _ _ F N kR => deck_cells N hm hd (kR _ _ _ _ _ F N h) hs hg
theorem V.dAt {value slice : Expr} {u : Tok} {Q : Value → Loc → Led → Prop} (hm : (dk, o) ∈ led) (hd : DkIs w o C i) (h : ∀ t, Q (.int i t) l led)
    (hs : subscripted slice false (.ref dk) (.str (S "at") u) = operate [.ref dk, .str (S "at") u] (getItem (.ref dk) (.str (S "at") u)) := by with_unfolding_all rfl) (hg : ∀ r, letTemporaryGo value (.ref dk) r = Pure.pure () := by intro _; with_unfolding_all rfl) :
    V w σ l led (fun _ => subscriptTail value slice (.ref dk) (.str (S "at") u)) Q :=
  .mk fun _ _ _ _ _ F N kR => deck_at N hm hd (fun t => kR _ _ _ _ _ F N (h t)) hs hg
theorem V.cellInt {value slice : Expr} {a : Addr} {vs : List Value} {ks : List Int} {n : Nat} {k : Int} {u : Tok} {Q : Value → Loc → Led → Prop} (hm : (a, lst vs n) ∈ led) (hi : IntsAre vs ks) (hin : ∀ n ∈ ks, 0 ≤ n ∧ n < 1000000007) (h0 : 0 ≤ k) (h1 : k < ks.length) (hz : ks.length ≤ 60) (h : ∀ t, Q (.int (ks.getD k.toNat 0) t) l led)
    (hs : subscripted slice false (.ref a) (.int k u) = operate [.ref a, .int k u] (getItem (.ref a) (.int k u)) := by with_unfolding_all rfl) : V w σ l led (fun _ => subscriptTail value slice (.ref a) (.int k u)) Q :=
  .mk fun _ _ _ _ _ F N kR => cell_item N hm hi hin h0 h1 hz (fun t _ _ => kR _ _ _ _ _ F N (h t)) hs
theorem V.dSet {j : Int} {u t : Tok} {T : Led} {Q : Unit → Loc → Led → Prop} (hT : ∀ p ∈ T, p.1 ≠ dk) (hd : DkIs w o C i) (h : ∀ o', DkIs w o' C j → Q () l ((dk, o') :: T)) : V w σ l ((dk, o) :: T) (fun _ => setItem (.ref dk) (.str (S "at") u) (.int j t)) Q :=
  .mk fun _ _ _ _ _ F N kR => deck_set F N hT hd fun _ o' F' N' hd' => kR _ _ _ _ _ F' N' (h o' hd')
end
section
variable {w : World} {σ : Sta} {l : Loc} {dk C : Addr} {o : Obj} {i b : Int} {T : Led} {a : Int} {t tb : Tok}
theorem draw_end {Q : Flow → Loc → Led → Prop} (hb : 0 < b) (hd : DkIs w o C (i + 1)) {led : Led} (hs : ∀ p ∈ (dk, o) :: T, p ∈ led) (h : ∀ r, finQ (DrawOut w dk C i b T) (.ret r) l led → Q (.ret r) l led) : V w σ l led (fun _ => binaryOp .Mod (.int a t) (.int b tb)) (kRet Q) :=
  V.mod (Int.ne_of_gt hb) fun _ => h _ ⟨_, hs, o, rfl, hd, _, _, rfl, (fmod_in hb).1, (fmod_in hb).2⟩
end
set_option maxRecDepth 100000 in
theorem c_draw (w : World) (dk C : Addr) (o : Obj) (i : Int) (ns : List Int) (T : Led) (b : Int) (tb : Tok) (hT : ∀ p ∈ T, p.1 ≠ dk) (hdk : DkIs w o C i) (hC : Cells T C ns) (hi : 0 ≤ i) (hi2 : i ≤ 100000) (hb : 0 < b) (hb2 : b ≤ 100000) :
    Con w 281 [.ref dk, .int b tb] ((dk, o) :: T) 2 16 (DrawOut w dk C i b T) := by
  obtain ⟨⟨vs, k, hm, his⟩, hin, hlen⟩ := hC
  have hvl := his.length
  k_dflt (refine' Con.of_V [(S1 "below", .int b tb), (S1 "deck", .ref dk)] ?a ?b ?c ?d ?e ?f ?g ?h ?i ?j ?_; ((case a => k_is); (case b => k_is); (case c => rfl); (case d => rfl); (case e => rfl); (case f => rfl); (case g => rfl); (case h => rfl); (case i => decide); (case j => rfl)))
  k_extra "vst"
  refine V.swap2 (fun _ _ _ _ _ => rfl) (fun _ _ _ _ _ => rfl) rfl rfl ?_
  k_extra "vst"
  refine V.dAt (.head _) hdk fun t1 => ?_
  k_extra "vst"
  refine V.dCells (.head _) hdk ?_
  k_extra "vst"
  refine V.tuple fun q hq => ⟨_, _, _, _, rfl, .head _, ?_⟩
  refine (?_ : V _ _ _ _ _ _)
  refine V.sub (fun _ h => .tail _ h) ?_
  k_extra "vst"
  refine V.setSub (fun _ => rfl) ?_
  k_extra "vst"
  refine V.dSet hT hdk fun o' hd' => ?_
  k_extra "vst"
  refine V.lLen (.tail _ hm) (by omega) fun _ => ?_
  k_extra "vst"
  refine ite_d (fun g => ?_) (fun g => ?_)
  · k_extra "vst"
    refine V.cellInt (.tail _ hm) his hin hi (by omega) hlen fun _ => ?_
    k_extra "vst"
    exact draw_end hb hd' (fun _ h => h) fun _ h => h
  · k_extra "vst"
    refine V.eqNil (.tail _ (.tail _ hm)) (.head _) ?_
    cases vs with
    | nil =>
      k_extra "vst"
      refine V.mul (by mul_fits) fun _ => ?_
      k_extra "vst"
      refine V.fdiv (by decide) (by decide) fun _ => ?_
      k_extra "vst"
      exact draw_end hb hd' (fun _ h => .tail _ h) fun _ h => h
    | cons v r =>
      have hl0 : (0 : Int) < (((v :: r).length : Nat) : Int) := Int.natCast_pos.mpr (Nat.succ_pos _)
      have hf := fmod_in (a := i) hl0
      k_extra "vst"
      refine V.lLen (.tail _ (.tail _ hm)) (by omega) fun _ => ?_
      k_extra "vst"
      refine V.mod (Int.ne_of_gt hl0) fun _ => ?_
      k_extra "vst"
      refine V.cellInt (.tail _ (.tail _ hm)) his hin hf.1 (by rw [← hvl]; exact hf.2) hlen fun _ => ?_
      k_extra "vst"
      refine V.fdiv (by omega) (by omega) fun _ => ?_
      k_extra "vst"
      refine V.mul (by mul_fits) fun _ => ?_
      k_extra "vst"
      exact draw_end hb hd' (fun _ h => .tail _ h) fun _ h => h
end
section
open PySem PySem.W PyProof.Rows
set_option maxRecDepth 100000 in
theorem c_end (w : World) (led : Led) (x d o f : Addr) (t1 t2 t3 t4 tb ti u1 u2 u3 : Tok) (b : Array UInt8) (i : Int) (lo hi : Int) (j : Nat) (hm1 : (x, instObj 258 d) ∈ led) (hm2 : (d, rdObj w t1 t2 t3 t4 b tb i ti o f) ∈ led) (hb : b.size ≤ 1000000) (hj : j ≤ b.size) :
    Con w 206 [.ref x, .int lo u1, .int hi u2, .int j u3] led 2 16 (RetI led ((endP (bI b) lo hi j))) := by
  k_dflt (refine' Con.of_V [(S1 "start", .int j u3), (S1 "last", .int hi u2), (S1 "first", .int lo u1), (S1 "self", .ref x)] ?a ?b ?c ?d ?e ?f ?g ?h ?i ?j ?_; ((case a => k_is); (case b => k_is); (case c => rfl); (case d => rfl); (case e => rfl); (case f => rfl); (case g => rfl); (case h => rfl); (case i => decide); (case j => rfl)))
  k_extra "vst"
  refine V.pass (τ := Nat × Tok) (fun c => [(S1 "end", .int (c.1 : Int) c.2), (S1 "self", .ref x), (S1 "first", .int lo u1), (S1 "last", .int hi u2)]) (fun _ => led) (fun c => j ≤ c.1 ∧ c.1 ≤ b.size ∧ endP (bI b) lo hi c.1 = endP (bI b) lo hi j) (fun c => b.size - c.1) (j, u3) ?_ ⟨Nat.le_refl _, hj, rfl⟩ (fun _ h => h) ?_
  · exact ⟨rfl, rfl, rfl, rfl, trivial⟩
  rintro ⟨c, tc⟩ u ⟨p1, p2, p3⟩
  dsimp only at p1 p2 p3 ⊢
  k_extra "vst"
  refine V.fOct hm1 hm2 ?_
  k_extra "vst"
  refine V.bLen (by omega) fun _ => ?_
  k_extra "vst"
  refine ite_d (fun g1 => ?_) (fun g1 => ?_)
  · k_extra "vst"
    refine V.two ?_
    k_extra "vst"
    refine V.fOct hm1 hm2 ?_
    k_extra "vst"
    refine V.bItem (by omega) (by omega) (by omega) fun _ _ _ => ?_
    k_extra "vst"
    simp only [Int.toNat_natCast]
    refine ite_d (fun g2 => ?_) (fun g2 => ?_)
    · k_extra "vst"
      refine ite_d (fun g3 => ?_) (fun g3 => ?_)
      · k_extra "vst"
        rename_i tz
        exact ⟨(c + 1, tz), by simp only []; omega, ⟨by omega, by omega, (endP_step (by rw [bI_len]; omega) g2 g3).symm.trans p3⟩, fun _ h => h, rfl, rfl, rfl, rfl, trivial⟩
      · k_extra "vst"
        exact ⟨_, fun _ h => h, rfl, _, by rw [← p3, endP_stop (by rw [bI_len]; omega) (by omega)]; rfl⟩
    · k_extra "vst"
      exact ⟨_, fun _ h => h, rfl, _, by rw [← p3, endP_stop (by rw [bI_len]; omega) (by omega)]; rfl⟩
  · k_extra "vst"
    exact ⟨_, fun _ h => h, rfl, _, by rw [← p3, endP_end (by rw [bI_len]; omega)]; rfl⟩
theorem c_endI (w : World) (led : Led) (x d o f : Addr) (t1 t2 t3 t4 tb ti u1 u2 u3 : Tok) (b : Array UInt8) (i : Int) (lo hi : Int) (j : Int) (hm1 : (x, instObj 258 d) ∈ led) (hm2 : (d, rdObj w t1 t2 t3 t4 b tb i ti o f) ∈ led) (hb : b.size ≤ 1000000) (h0 : 0 ≤ j) (hj : j ≤ b.size) :
    Con w 206 [.ref x, .int lo u1, .int hi u2, .int j u3] led 2 16 (RetI led ((endP (bI b) lo hi j.toNat))) := by
  obtain ⟨n, rfl⟩ : ∃ n : Nat, j = n := ⟨j.toNat, by omega⟩
  exact c_end w led x d o f t1 t2 t3 t4 tb ti u1 u2 u3 b i lo hi n hm1 hm2 hb (by omega)
end
section
open PySem PySem.W PyProof.Rows
set_option maxRecDepth 100000 in
theorem c_here (w : World) (led : Led) (x d o f : Addr) (t1 t2 t3 t4 tb ti : Tok) (b : Array UInt8) (i : Nat) (hm1 : (x, instObj 258 d) ∈ led) (hm2 : (d, rdObj w t1 t2 t3 t4 b tb i ti o f) ∈ led) (hb : b.size ≤ 1000000) :
    Con w 192 [.ref x] led 2 16 (RetI led (((bI b).getD i (-1)))) := by
  k_dflt (refine' Con.of_V [(S1 "self", .ref x)] ?a ?b ?c ?d ?e ?f ?g ?h ?i ?j ?_; ((case a => k_is); (case b => k_is); (case c => rfl); (case d => rfl); (case e => rfl); (case f => rfl); (case g => rfl); (case h => rfl); (case i => decide); (case j => rfl)))
  k_extra "vst"
  refine V.fAt hm1 hm2 ?_
  k_extra "vst"
  refine V.fOct hm1 hm2 ?_
  k_extra "vst"
  refine V.bLen (by omega) fun _ => ?_
  k_extra "vst"
  refine ite_d (fun g => ?_) (fun g => ?_)
  · k_extra "vst"
    refine V.fOct hm1 hm2 ?_
    k_extra "vst"
    refine V.fAt hm1 hm2 ?_
    k_extra "vst"
    refine V.bItem (by omega) (by omega) (by omega) fun _ _ _ => ?_
    exact ⟨_, fun _ h => h, rfl, _, by rw [← here_in g]; rfl⟩
  · k_extra "vst"
    exact ⟨_, fun _ h => h, rfl, _, by rw [← here_out g]; rfl⟩
end
section
open PySem PySem.W PyProof.Rows
set_option maxRecDepth 100000 in
theorem c_hex (w : World) (led : Led) (n : Int) (t : Tok) : Con w 76 [.int n t] led 1 8 (fun led' r => led' = led ∧ ((hexv n = none ∧ r = .none) ∨ ∃ k t', hexv n = some k ∧ r = .int k t')) := by
  k_dflt (refine' Con.of_V [(S1 "octet", .int n t)] ?a ?b ?c ?d ?e ?f ?g ?h ?i ?j ?_; ((case a => k_is); (case b => k_is); (case c => rfl); (case d => rfl); (case e => rfl); (case f => rfl); (case g => rfl); (case h => rfl); (case i => decide); (case j => rfl)))
  k_extra "vst"
  refine V.mono (Q := fun c l₂ led₂ => l₂ = [(S1 "octet", Value.int n t)] ∧ led = led₂ ∧ (c = true ↔ 48 ≤ n ∧ n ≤ 57)) ?_ ?_
  · refine V.two ?_
    k_extra "vst"
    refine ite_d (fun g => ?_) (fun g => ?_)
    · k_extra "vst"
      exact ⟨rfl, rfl, ⟨fun h => ⟨g, of_decide_eq_true h⟩, fun h => decide_eq_true h.2⟩⟩
    · exact ⟨rfl, rfl, ⟨fun h => (nomatch h), fun h => absurd h.1 g⟩⟩
  rintro c _ _ ⟨rfl, rfl, hc0⟩
  cases c
  case true =>
    k_extra "vst"
    exact ⟨_, fun _ h => h, rfl, .inr ⟨_, _, by unfold hexv; rw [if_pos (hc0.mp rfl)], rfl⟩⟩
  k_extra "vst"
  refine V.mono (Q := fun c l₂ led₂ => l₂ = [(S1 "octet", Value.int n t)] ∧ led = led₂ ∧ (c = true ↔ 65 ≤ n ∧ n ≤ 70)) ?_ ?_
  · refine V.two ?_
    k_extra "vst"
    refine ite_d (fun g => ?_) (fun g => ?_)
    · k_extra "vst"
      exact ⟨rfl, rfl, ⟨fun h => ⟨g, of_decide_eq_true h⟩, fun h => decide_eq_true h.2⟩⟩
    · exact ⟨rfl, rfl, ⟨fun h => (nomatch h), fun h => absurd h.1 g⟩⟩
  rintro c _ _ ⟨rfl, rfl, hc1⟩
  cases c
  case true =>
    k_extra "vst"
    exact ⟨_, fun _ h => h, rfl, .inr ⟨_, _, by unfold hexv; rw [if_neg (fun h => nomatch hc0.mpr h), if_pos (hc1.mp rfl)], rfl⟩⟩
  k_extra "vst"
  refine V.mono (Q := fun c l₂ led₂ => l₂ = [(S1 "octet", Value.int n t)] ∧ led = led₂ ∧ (c = true ↔ 97 ≤ n ∧ n ≤ 102)) ?_ ?_
  · refine V.two ?_
    k_extra "vst"
    refine ite_d (fun g => ?_) (fun g => ?_)
    · k_extra "vst"
      exact ⟨rfl, rfl, ⟨fun h => ⟨g, of_decide_eq_true h⟩, fun h => decide_eq_true h.2⟩⟩
    · exact ⟨rfl, rfl, ⟨fun h => (nomatch h), fun h => absurd h.1 g⟩⟩
  rintro c _ _ ⟨rfl, rfl, hc2⟩
  cases c
  case true =>
    k_extra "vst"
    exact ⟨_, fun _ h => h, rfl, .inr ⟨_, _, by unfold hexv; rw [if_neg (fun h => nomatch hc0.mpr h), if_neg (fun h => nomatch hc1.mpr h), if_pos (hc2.mp rfl)], rfl⟩⟩
  k_extra "vst"
  exact ⟨_, fun _ h => h, rfl, .inl ⟨by unfold hexv; rw [if_neg (fun h => nomatch hc0.mpr h), if_neg (fun h => nomatch hc1.mpr h), if_neg (fun h => nomatch hc2.mpr h)], rfl⟩⟩
end
section
open PySem PySem.W PyProof.Rows
set_option maxRecDepth 100000 in
theorem c_num (w : World) (led : Led) (v : Value) (d : D) (hv : DIn led v d) : Con w 99 [v] led 1 8 (RetX led (.bool d.isNum)) := by
  k_dflt (refine' Con.of_V [(S1 "value", v)] ?a ?b ?c ?d ?e ?f ?g ?h ?i ?j ?_; ((case a => k_is); (case b => k_is); (case c => rfl); (case d => rfl); (case e => rfl); (case f => rfl); (case g => rfl); (case h => rfl); (case i => decide); (case j => rfl)))
  k_extra "vst"
  refine V.isiInt hv ?_
  k_extra "vst"
  cases hv
  case int i t =>
    k_extra "vst"
    refine V.not ?_
    k_extra "vst"
    refine V.isiBool (.int i t) ?_
    k_extra "vst"
    exact endB (fun _ h => h) rfl
  case bool b =>
    k_extra "vst"
    refine V.not ?_
    k_extra "vst"
    refine V.isiBool (.bool b) ?_
    k_extra "vst"
    exact endB (fun _ h => h) rfl
  all_goals exact endB (fun _ h => h) rfl
end
section
open PySem PySem.W PyProof.Rows
set_option maxRecDepth 100000 in
theorem c_plain (w : World) (led : Led) (kv vv : Value) (k d : D) (hk0 : DIn led kv k) (hv : DIn led vv d) : Con w 106 [kv, vv] led 1 8 (RetX led (.bool (isPlain k d))) := by
  k_dflt (refine' Con.of_V [(S1 "value", vv), (S1 "kind", kv)] ?a ?b ?c ?d ?e ?f ?g ?h ?i ?j ?_; ((case a => k_is); (case b => k_is); (case c => rfl); (case d => rfl); (case e => rfl); (case f => rfl); (case g => rfl); (case h => rfl); (case i => decide); (case j => rfl)))
  k_extra "vst"
  refine avCmp_r (V.eqS hk0 ?_)
  k_extra "vst"
  refine ite_i (fun c1 => ?_) (fun c1 => ?_)
  · k_extra "vst"
    refine V.isiBytes hv ?_
    exact endB (fun _ h => h) (by unfold isPlain; rw [c1]; rfl)
  k_extra "vst"
  refine avCmp_r (V.eqS hk0 ?_)
  k_extra "vst"
  refine ite_i (fun c2 => ?_) (fun c2 => ?_)
  · k_extra "vst"
    refine V.isiBytes hv ?_
    exact endB (fun _ h => h) (by unfold isPlain; rw [c2, Bool.or_true]; rfl)
  k_extra "vst"
  refine avCmp_r (V.eqS hk0 ?_)
  k_extra "vst"
  refine ite_i (fun c3 => ?_) (fun c3 => ?_)
  · k_extra "vst"
    refine V.isN hv ?_
    exact endB (fun _ h => h) (by unfold isPlain; rw [Bool.eq_false_iff.mpr c1, Bool.eq_false_iff.mpr c2, c3]; rfl)
  k_extra "vst"
  refine avCmp_r (V.eqS hk0 ?_)
  k_extra "vst"
  refine ite_i (fun c4 => ?_) (fun c4 => ?_)
  · k_extra "vst"
    refine V.isN hv ?_
    exact endB (fun _ h => h) (by unfold isPlain; rw [Bool.eq_false_iff.mpr c1, Bool.eq_false_iff.mpr c2, Bool.eq_false_iff.mpr c3, c4]; rfl)
  k_extra "vst"
  refine avCmp_r (V.eqS hk0 ?_)
  k_extra "vst"
  refine ite_i (fun c5 => ?_) (fun c5 => ?_)
  · k_extra "vst"
    refine V.isiBool hv ?_
    exact endB (fun _ h => h) (by unfold isPlain; rw [Bool.eq_false_iff.mpr c1, Bool.eq_false_iff.mpr c2, Bool.eq_false_iff.mpr c3, Bool.eq_false_iff.mpr c4, c5]; rfl)
  have e : isPlain k d = (k.inS plainKinds && d.kind == "int") := by unfold isPlain; rw [Bool.eq_false_iff.mpr c1, Bool.eq_false_iff.mpr c2, Bool.eq_false_iff.mpr c3, Bool.eq_false_iff.mpr c4, Bool.eq_false_iff.mpr c5]; rfl
  rw [e]
  k_extra "vst"
  refine V.inS hk0 (by k_is) (by repeat' constructor) ?_
  k_extra "vst"
  refine ite_i (fun c6 => ?_) (fun c6 => ?_)
  · rw [show k.inS plainKinds = true from c6]
    k_extra "vst"
    refine V.isiInt hv ?_
    k_extra "vst"
    refine ite_i (fun c7 => ?_) (fun c7 => ?_)
    · k_extra "vst"
      refine V.not ?_
      k_extra "vst"
      refine V.isiBool hv ?_
      k_extra "vst"
      exact endB (fun _ h => h) (by cases d <;> first | rfl | exact Bool.noConfusion (show false = true from c7))
    · exact endB (fun _ h => h) (by cases d <;> first | rfl | exact absurd rfl c7)
  · exact endB (fun _ h => h) (by rw [show k.inS plainKinds = false from Bool.eq_false_iff.mpr c6]; rfl)
end
section
open PySem PySem.W PyProof.Rows
theorem getLast?_snoc {α : Type} (l : List α) (a : α) : (l ++ [a]).getLast? = some a := by rw [List.getLast?_append]; rfl
theorem snoc_ne {α : Type} (l : List α) (a : α) : (l ++ [a]).isEmpty = false := by cases l <;> rfl
set_option maxRecDepth 100000 in
theorem c_put (w : World) (x d o f : Addr) (b : Array UInt8) (T : Led) (S : RdS) (led : Led) (v : Value) (dv : D) (R : RAd x d o f T) (hS : RSt w x d o f b T S led) (hv : DIn led v dv) (hz : S.wt ≤ 16000) :
    Con w 199 [.ref x, v] led 2 16 (fun led' r => r = .none ∧ RSt w x d o f b T (S.put dv) led') := by
  k_dflt (refine' Con.of_V [(S1 "value", v), (S1 "self", .ref x)] ?a ?b ?c ?d ?e ?f ?g ?h ?i ?j ?_; ((case a => k_is); (case b => k_is); (case c => rfl); (case d => rfl); (case e => rfl); (case f => rfl); (case g => rfl); (case h => rfl); (case i => decide); (case j => rfl)))
  refine V.withNews fun h₀ hp L N => ?_
  obtain ⟨t1, t2, t3, t4, tb, ti, no, nf, k, fs, new, rfl, hn, hf, hk, hlt, hpw⟩ := hS
  have hv' : DIn (new ++ T) v dv := hv.strip fun a vs n h => strip_RL h
  obtain ⟨h1, h2, h3, hT⟩ := R
  obtain ⟨i, op, fo⟩ := S
  dsimp only at hf hk N
  have hwf := D.wts_len fo
  have hfl := hf.length
  have hxf := Nat.lt_trans h2 h3
  have hdo := Nat.lt_trans h1 h2
  have tne : ∀ p ∈ new, ∀ c ws j, (c, lst ws j) ∈ RL w x d o f t1 t2 t3 t4 b tb (i : Int) ti (stkV k) no fs nf (stkL k ++ (new ++ T)) → p.1 ≠ c := by
    intro p hp c ws j hc
    obtain ⟨vs, n, e⟩ := hn p hp
    obtain ⟨pa, po⟩ := p
    dsimp only at e; subst e
    exact ne_of_obj N (.tail _ (.tail _ (.tail _ (.tail _ (List.mem_append.mpr (.inr (List.mem_append.mpr (.inl hp)))))))) hc (tup_ne_lst _ _ _ _)
  k_extra "vst"
  refine V.fOpen (.head _) (.tail _ (.head _)) ?_
  k_extra "vst"
  refine V.eqNil (.tail _ (.tail _ (.tail _ (.head _)))) (.head _) ?_
  refine V.drop ?_
  cases hk with
  | nil =>
    k_extra "vst"
    refine V.append _ (fun _ => rfl) rfl ?_
    k_extra "vst"
    refine V.fFound (.head _) (.tail _ (.head _)) ⟨f, rfl, ⟨_, _, .tail _ (.tail _ (.tail _ (.head _)))⟩, ?_⟩
    k_extra "vst"
    refine ⟨fs, nf, _, Upd.tail (Nat.ne_of_lt hxf) (Upd.tail (Nat.ne_of_lt (Nat.lt_trans h1 hxf)) (Upd.tail (Nat.ne_of_lt h3) (Upd.head ?_))), ?_, ?_⟩
    · intro p hp
      rcases List.mem_append.mp (show p ∈ new ++ T from hp) with hp | hp
      · exact tne p hp f fs nf (.tail _ (.tail _ (.tail _ (.head _))))
      · exact Nat.ne_of_lt (Nat.lt_trans (hT p hp) (Nat.lt_trans h1 hxf))
    · rw [hfl]; exact Nat.le_trans (Nat.le_trans hwf (Nat.le_trans (Nat.le_add_right _ _) hz)) (by decide)
    · k_extra "vst"
      exact ⟨_, fun _ h => h, rfl, t1, t2, t3, t4, tb, ti, no, nf + 1, [], fs ++ [v], new, rfl, hn, hf.append (.one hv'), .nil, hlt, hpw⟩
  | @cons aa vs n ds k op hd1 hk =>
    have ha := hlt _ (.head _)
    dsimp only at ha
    have hvl := hd1.length
    have hdl := D.wts_len ds
    simp only [RdS.wt, List.map_cons, List.sum_cons] at hz
    have es : ∀ vs n, stkV ((aa, vs, n) :: k) = stkV k ++ [.ref aa] := fun vs n => by simp [stkV]
    rw [es]
    k_extra "vst"
    refine ite_ff ?_ (snoc_ne _ _)
    k_extra "vst"
    refine V.append _ (fun _ => rfl) rfl ?_
    k_extra "vst"
    refine V.fOpen (.head _) (.tail _ (.head _)) ?_
    k_extra "vst"
    refine V.lLast (.tail _ (.tail _ (.head _))) (getLast?_snoc _ _) ⟨aa, rfl, ⟨_, _, .tail _ (.tail _ (.tail _ (.tail _ (.head _))))⟩, ?_⟩
    k_extra "vst"

    refine ⟨vs, n, _, Upd.tail (Nat.ne_of_lt (Nat.lt_trans hxf ha)) (Upd.tail (Nat.ne_of_lt (Nat.lt_trans h1 (Nat.lt_trans hxf ha))) (Upd.tail (Nat.ne_of_lt (Nat.lt_trans h3 ha)) (Upd.tail (Nat.ne_of_lt ha) (Upd.head ?_)))), ?_, ?_⟩
    · intro p hp
      rcases List.mem_append.mp hp with hp | hp
      · obtain ⟨q, hq, e⟩ := List.mem_map.mp hp
        subst e
        exact ((List.pairwise_cons.mp hpw).1 q hq).symm
      rcases List.mem_append.mp hp with hp | hp
      · exact tne p hp aa vs n (.tail _ (.tail _ (.tail _ (.tail _ (.head _)))))
      · exact Nat.ne_of_lt (Nat.lt_trans (hT p hp) (Nat.lt_trans h1 (Nat.lt_trans hxf ha)))
    · omega
    · k_extra "vst"
      refine ⟨_, fun _ h => h, rfl, t1, t2, t3, t4, tb, ti, no, nf, (aa, vs ++ [v], n + 1) :: k, fs, new, ?_, hn, hf, .cons (hd1.append (.one hv')) hk, ?_, ?_⟩
      · rw [es]; rfl
      · intro q hq
        rcases List.mem_cons.mp hq with rfl | hq
        · exact ha
        · exact hlt q (.tail _ hq)
      · exact List.pairwise_cons.mpr ⟨(List.pairwise_cons.mp hpw).1, (List.pairwise_cons.mp hpw).2⟩
end
section
open PySem PySem.W PyProof.Rows
set_option maxRecDepth 100000 in
theorem c_close (w : World) (x d o f : Addr) (b : Array UInt8) (T : Led) (S : RdS) (led : Led) (R : RAd x d o f T) (hS : RSt w x d o f b T S led) (hb : b.size ≤ 10000) (hat : S.at_ < b.size) (hz : S.wt ≤ S.at_) :
    Con w 234 [.ref x] led 5 60 (StepOut w x d o f b T (closeP S)) := by
  k_dflt (refine' Con.of_V [(S1 "self", .ref x)] ?a ?b ?c ?d ?e ?f ?g ?h ?i ?j ?_; ((case a => k_is); (case b => k_is); (case c => rfl); (case d => rfl); (case e => rfl); (case f => rfl); (case g => rfl); (case h => rfl); (case i => decide); (case j => rfl)))
  refine V.withNews fun h₀ hp L N => ?_
  have hS0 := hS
  obtain ⟨t1, t2, t3, t4, tb, ti, no, nf, k, fs, new, rfl, hn, hf, hk, hlt, hpw⟩ := hS
  have hd1 := R.h1
  have hd2 := R.h2
  have hd3 := R.h3
  obtain ⟨i, op, fo⟩ := S
  dsimp only at hat hz N
  k_extra "vst"
  refine V.fOpen (.head _) (.tail _ (.head _)) ?_
  k_extra "vst"
  rename_i e he
  refine V.eqNil (.tail _ (.tail _ (.tail _ (.head _)))) (.head _) ?_
  refine V.drop ?_
  cases hk with
  | nil =>
    k_extra "vst"
    exact ⟨_, fun _ h => h, _, hS0, .inl ⟨rfl, rfl⟩⟩
  | @cons aa vs n ds k op hds hk =>
    have ha := hlt _ (.head _)
    dsimp only at ha
    have hvl := hds.length
    have hdl := D.wts_len ds
    simp only [RdS.wt, List.map_cons, List.sum_cons] at hz
    have es : stkV ((aa, vs, n) :: k) = stkV k ++ [.ref aa] := by simp [stkV]
    have el : stkL ((aa, vs, n) :: k) ++ (new ++ T) = (aa, lst vs n) :: (stkL k ++ (new ++ T)) := rfl
    rw [el, es] at N ⊢
    obtain ⟨T1, hT1⟩ : ∃ T1, T1 = stkL k ++ (new ++ T) := ⟨_, rfl⟩
    rw [← hT1] at N ⊢
    have hkl := hk.length
    have hol := op_len op
    have hvk := stkV_len k
    have hTo : ∀ p ∈ T1, p.1 ≠ o := by
      rw [hT1]
      exact tail_ne N (fun p hp => .tail _ (.tail _ (.tail _ (.tail _ (.tail _ (by rw [hT1]; exact List.mem_append.mpr (.inr (List.mem_append.mpr (.inl hp)))))))) ) hn (fun q hq => hlt q (.tail _ hq)) R.hT (.tail _ (.tail _ (.head _))) (fun _ _ => tup_ne_lst _ _ _ _) (by omega) (by omega)
    have hTa : ∀ p ∈ ((aa, lst vs n) :: T1 : Led), p.1 ≠ o := by
      intro p hp
      rcases List.mem_cons.mp hp with rfl | hp
      · exact Nat.ne_of_gt (by dsimp only; omega)
      · exact hTo p hp
    have hTf : ∀ p ∈ ((f, lst fs nf) :: (aa, lst vs n) :: T1 : Led), p.1 ≠ o := by
      intro p hp
      rcases List.mem_cons.mp hp with rfl | hp
      · exact Nat.ne_of_gt (by dsimp only; omega)
      · exact hTa p hp
    have hne : (stkV k ++ [Value.ref aa]).isEmpty = false := by simp
    k_extra "vst"
    refine ite_ff ?_ hne
    k_extra "vst"
    refine V.pop _ (fun _ => rfl) ?_
    k_extra "vst"
    refine V.fOpen (.head _) (.tail _ (.head _)) ?_
    refine ⟨o, _, _, _, _, rfl, .tail _ (.tail _ (.head _)), Upd.tail (Nat.ne_of_lt (by omega)) (Upd.tail (Nat.ne_of_lt (by omega)) (Upd.head hTf)), by omega, ?_⟩
    k_extra "vst"
    refine V.tupleOf (.tail _ (.tail _ (.tail _ (.tail _ (.head _))))) (by omega) fun q hq => ?_
    k_extra "vst"
    have hS2 : RSt w x d o f b T ⟨i, op, fo⟩ (RL w x d o f t1 t2 t3 t4 b tb i ti (stkV k) (no + 1) fs nf (stkL k ++ ((q, tupOf vs 0) :: new ++ T))) := by
      refine ⟨t1, t2, t3, t4, tb, ti, no + 1, nf, k, fs, (q, tupOf vs 0) :: new, rfl, ?_, ?_, ?_, fun z hz => hlt z (.tail _ hz), (List.pairwise_cons.mp hpw).2⟩
      · intro z hz
        rcases List.mem_cons.mp hz with rfl | hz
        · exact ⟨vs, 0, rfl⟩
        · exact hn z hz
      · exact hf.mono fun z hz => .tail _ hz
      · exact hk.mono fun z hz => .tail _ hz
    have hD2 : DIn (RL w x d o f t1 t2 t3 t4 b tb i ti (stkV k) (no + 1) fs nf (stkL k ++ ((q, tupOf vs 0) :: new ++ T))) (.ref q) (.tup ds) := by
      refine .tup (n := 0) (vs := vs) ?_ (hds.mono ?_)
      · exact .tail _ (.tail _ (.tail _ (.tail _ (List.mem_append.mpr (.inr (.head _))))))
      · intro z hz
        exact .tail _ (.tail _ (.tail _ (.tail _ (List.mem_append.mpr (.inr (.tail _ hz))))))
    refine V.expr rfl ?_
    refine V.meth (by rfl) (.tail _ (.head _)) (.tail _ (.tail _ (.head _))) (by k_is) (by k_is) (by k_is) (by k_get) (by k_is) rfl _ (fun _ => rfl) ?_
    k_extra "vst"
    refine V.sub ?_ (V.call (c_put w x d o f b T ⟨i, op, fo⟩ _ (.ref q) (.tup ds) R hS2 hD2 (by simp only [RdS.wt]; omega)) rfl rfl ?_)
    · intro z hz
      rw [hT1]
      rcases List.mem_cons.mp hz with rfl | hz
      · exact .tail _ (.head _)
      rcases List.mem_cons.mp hz with rfl | hz
      · exact .tail _ (.tail _ (.head _))
      rcases List.mem_cons.mp hz with rfl | hz
      · exact .tail _ (.tail _ (.tail _ (.head _)))
      rcases List.mem_cons.mp hz with rfl | hz
      · exact .tail _ (.tail _ (.tail _ (.tail _ (.head _))))
      rcases List.mem_append.mp hz with hz | hz
      · exact .tail _ (.tail _ (.tail _ (.tail _ (.tail _ (.tail _ (List.mem_append.mpr (.inl hz)))))))
      rcases List.mem_cons.mp hz with rfl | hz
      · exact .head _
      · exact .tail _ (.tail _ (.tail _ (.tail _ (.tail _ (.tail _ (List.mem_append.mpr (.inr hz)))))))
    rintro r led' ⟨rfl, hS'⟩
    k_extra "vst"
    refine V.assignAttr rfl ?_
    k_extra "vst"
    refine V.withNews fun h₀ hp L N => ?_
    have hS9 := hS'
    obtain ⟨t1', t2', t3', t4', tb', ti', no', nf', rs', fs', TT', rfl, hT', hrs', hback'⟩ := hS9.openT R N
    simp only [RdS.at_put] at hS' ⊢
    refine V.fAt (.head _) (.tail _ (.head _)) ?_
    k_extra "vst"
    refine V.fSetAt (j := i + 1) hS' R fun led' hS2 => ?_
    k_extra "vst"
    exact ⟨_, fun _ h => h, _, hS2, .inr ⟨rfl, rfl⟩⟩
end
section
open PySem PySem.W PyProof.Rows
theorem hexm_end {w : World} {l' : Loc} {x d o f : Addr} {b : Array UInt8} {T led' : Led} {S : RdS} {led : Led} (hS : RSt w x d o f b T S led) (hs : ∀ p ∈ led, p ∈ led') {res : Option RdS} (e : res = none) :
    finQ (StepOut w x d o f b T res) (.ret (.bool false)) l' led' := ⟨led, hs, S, hS, .inl ⟨e, rfl⟩⟩
theorem hex_less {i : Int} {n : Nat} (h : i + 1 < (n : Int)) : ((n : Int) + 2 - (i + 2)).toNat < ((n : Int) + 2 - i).toNat := by omega
set_option maxRecDepth 100000 in
theorem c_hexm (w : World) (x d o f : Addr) (b : Array UInt8) (T : Led) (S : RdS) (led : Led) (R : RAd x d o f T) (hS : RSt w x d o f b T S led) (hb : b.size ≤ 10000) (hat : S.at_ < b.size) (hz : S.wt ≤ S.at_) :
    Con w 227 [.ref x] led 5 60 (StepOut w x d o f b T ((hexR ((bI b).drop (S.at_ + 1))).map fun p => { S.put (.bytes (byteArr p.1)) with at_ := S.at_ + 1 + p.2 })) := by
  k_dflt (refine' Con.of_V [(S1 "self", .ref x)] ?a ?b ?c ?d ?e ?f ?g ?h ?i ?j ?_; ((case a => k_is); (case b => k_is); (case c => rfl); (case d => rfl); (case e => rfl); (case f => rfl); (case g => rfl); (case h => rfl); (case i => decide); (case j => rfl)))
  obtain ⟨t1, t2, t3, t4, tb, ti, hm1, hm2⟩ := hS.mem
  have hd1 := R.h1
  have hd2 := R.h2
  have hd3 := R.h3
  have hlen := bI_len b
  have hb6 : b.size ≤ 1000000 := Nat.le_trans hb (by decide)
  k_extra "vst"
  rename_i l hl
  refine V.fAt (.tail _ hm1) (.tail _ hm2) ?_
  k_extra "vst"

  rename_i tz
  refine V.pass (τ := Int × Tok × List Value × Nat × List Int) (fun c => [(S1 "at", .int c.1 c.2.1), (S1 "found", .ref l), (S1 "self", .ref x)]) (fun c => (l, lst c.2.2.1 c.2.2.2.1) :: led)
    (fun c => IntsAre c.2.2.1 c.2.2.2.2 ∧ HexInv (bI b) (S.at_ + 1) c.1 c.2.2.2.2) (fun c => (b.size + 2 - c.1).toNat) ((S.at_ : Int) + 1, tz, [], 0, []) ?_ ⟨.nil, HexInv.start (bI b) (S.at_ + 1) (by omega)⟩ (fun _ h => h) ?_
  · exact ⟨rfl, rfl, rfl, trivial⟩
  rintro ⟨i, tc, vs, nn, ns⟩ u ⟨hf, hp⟩
  have lo := hp.lo
  have i0 : 0 ≤ i := Int.le_trans (Int.natCast_nonneg _) lo
  have hi := hp.hi
  have ln := hp.len
  have lf := hf.length
  have hin : KBa.In ns := hp.inn
  have hln : ns.length ≤ 3000000 := by omega
  dsimp only
  refine V.mono (Q := fun bl l₂ led₂ => l₂ = [(S1 "at", Value.int i tc), (S1 "found", .ref l), (S1 "self", .ref x)] ++ u ∧ led₂ = (l, lst vs nn) :: led ∧ (bl = true ↔ i + 1 < b.size ∧ (bI b).getD i.toNat 0 ≠ 62)) ?_ ?_
  · k_extra "vst"
    refine V.fOct (.tail _ hm1) (.tail _ hm2) ?_
    k_extra "vst"
    refine V.bLen hb6 fun _ => ?_
    k_extra "vst"
    refine ite_d (fun g1 => ?_) (fun g1 => ?_)
    · k_extra "vst"
      refine V.fOct (.tail _ hm1) (.tail _ hm2) ?_
      k_extra "vst"
      refine V.bItem hb6 i0 (Int.lt_trans (Int.lt_succ i) g1) fun _ _ _ => ?_
      k_extra "vst"
      refine ite_n (fun g2 => ?_) (fun g2 => ?_)
      · k_extra "vst"
        exact ⟨rfl, rfl, fun _ => ⟨g1, g2⟩, fun _ => rfl⟩
      · exact ⟨rfl, rfl, ⟨fun h => (nomatch h), fun h => absurd g2 h.2⟩⟩
    · exact ⟨rfl, rfl, ⟨fun h => (nomatch h), fun h => absurd h.1 g1⟩⟩
  rintro bl _ _ ⟨rfl, rfl, hbl⟩
  cases bl with
  | true =>
    obtain ⟨g1, g2⟩ := hbl.mp rfl
    clear hbl
    k_extra "vst"
    refine V.swap2 (fun _ _ _ _ _ => rfl) (fun _ _ _ _ _ => rfl) rfl rfl ?_
    k_extra "vst"
    refine V.fOct (.tail _ hm1) (.tail _ hm2) ?_
    k_extra "vst"
    refine V.bItem hb6 i0 (Int.lt_trans (Int.lt_succ i) g1) fun _ _ _ => ?_
    k_extra "vst"
    refine V.call (c_hex w _ _ _) rfl rfl ?_
    rintro r1 led' ⟨rfl, h1⟩
    k_extra "vst"
    refine V.fOct (.tail _ hm1) (.tail _ hm2) ?_
    k_extra "vst"
    refine V.bItem hb6 (Int.le_trans i0 (Int.le_of_lt (Int.lt_succ i))) g1 fun _ _ _ => ?_
    k_extra "vst"
    refine V.call (c_hex w _ _ _) rfl rfl ?_
    rintro r2 led' ⟨rfl, h2⟩
    k_extra "vst"
    refine V.tuple fun a ha => ⟨a, _, _, _, rfl, .head _, ?_⟩
    refine V.drop ?_
    k_extra "vst"
    rcases h1 with ⟨e1, rfl⟩ | ⟨k1, u1, e1, rfl⟩
    · refine V.isN .none ?_
      k_extra "vst"
      exact hexm_end hS (fun _ h => .tail _ h) (by rw [hp.bad1 (hlen.symm ▸ g1) g2 (.inl e1)]; rfl)
    refine V.isN (.int _ _) ?_
    k_extra "vst"
    rcases h2 with ⟨e2, rfl⟩ | ⟨k2, u2, e2, rfl⟩
    · refine V.isN .none ?_
      k_extra "vst"
      exact hexm_end hS (fun _ h => .tail _ h) (by rw [hp.bad1 (hlen.symm ▸ g1) g2 (.inr e2)]; rfl)
    refine V.isN (.int _ _) ?_
    k_extra "vst"
    refine V.append _ (fun _ => rfl) rfl ?_
    k_extra "vst"
    refine ⟨l, rfl, ⟨_, _, .head _⟩, ?_⟩
    k_extra "vst"
    have r1 := hexv_in e1
    refine V.mul (by mul_fits) fun _ => ?_
    k_extra "vst"
    refine ⟨_, _, _, Upd.head fun p hp => Nat.ne_of_lt (hl p hp), by omega, ?_⟩
    k_extra "vst"
    rename_i tz
    exact ⟨(i + 2, tz, _, nn + 1, ns ++ [16 * k1 + k2]), hex_less g1, ⟨IntsAre.append hf (.cons _ _ .nil), hp.turn (hlen.symm ▸ g1) g2 e1 e2⟩, fun _ h => h, rfl, rfl, rfl, trivial⟩
  | false =>
    have hbf : ¬ (i + 1 < b.size ∧ (bI b).getD i.toNat 0 ≠ 62) := fun h => nomatch hbl.mpr h
    clear hbl
    k_extra "vst"
    refine V.fOct (.tail _ hm1) (.tail _ hm2) ?_
    k_extra "vst"
    refine V.bLen hb6 fun _ => ?_
    k_extra "vst"
    refine ite_d (fun g1 => ?_) (fun g1 => ?_)
    · k_extra "vst"
      exact hexm_end hS (fun _ h => .tail _ h) (by rw [hp.bad2 (by omega) (.inl (by omega))]; rfl)
    k_extra "vst"
    refine V.fOct (.tail _ hm1) (.tail _ hm2) ?_
    k_extra "vst"
    refine V.bItem hb6 i0 (Int.not_le.mp g1) fun _ _ _ => ?_
    k_extra "vst"
    refine ite_n (fun g2 => ?_) (fun g2 => ?_)
    · k_extra "vst"
      exact hexm_end hS (fun _ h => .tail _ h) (by rw [hp.bad2 (fun h => hbf ⟨by omega, g2⟩) (.inr g2)]; rfl)
    k_extra "vst"
    refine V.expr rfl ?_
    refine V.meth (by rfl) (.tail _ hm1) (.tail _ hm2) (by k_is) (by k_is) (by k_is) (by k_get) (by k_is) rfl _ (fun _ => rfl) ?_
    k_extra "vst"
    refine V.bytesOf (.head _) hf hin (by omega) fun _ => ?_
    k_extra "vst"
    refine V.drop ?_
    refine V.call (c_put w x d o f b T S led _ _ R hS (.bytes _ _) (by omega)) rfl rfl ?_
    rintro r led' ⟨rfl, hS'⟩
    k_extra "vst"
    refine V.assignAttr rfl ?_
    k_extra "vst"
    obtain ⟨n, rfl⟩ := Int.eq_ofNat_of_zero_le i0
    refine V.fSetAt (j := n + 1) hS' R fun led' hS2 => ?_
    k_extra "vst"
    refine ⟨_, fun _ h => h, _, hS2, .inr ⟨?_, rfl⟩⟩
    rw [hp.out (by omega) g2]
    simp only [Option.map_some, Int.toNat_natCast]
    congr 2
    omega
end
section
open PySem PySem.W PyProof.Rows
theorem rec_no {ds : List D} (h0 : ds.length ≠ 0) (h1 : ¬ (ds.getD 0 .none).isS (Str.ofString "plain") = true)
    (h : (!(ds.getD 0 .none).isS (Str.ofString "body")) = true ∨ ds.length ≠ 7 ∨ (!(ds.getD 2 .none).inS bodyKinds) = true ∨ (!((ds.getD 5 .none).kind == "bool")) = true) : false = isRecipe (.tup ds) := by
  unfold isRecipe
  dsimp only
  rw [if_neg h0, if_neg h1, if_pos]
  rcases h with h | h | h | h
  · rw [h]; rfl
  · rw [decide_eq_true h, Bool.or_true]; rfl
  · rw [h, Bool.or_true]; rfl
  · rw [h, Bool.or_true]
theorem rec_all {ds : List D} (h1 : ¬ (ds.getD 0 .none).isS (Str.ofString "plain") = true) (h2 : ¬ (!(ds.getD 0 .none).isS (Str.ofString "body")) = true) (h7 : ds.length = 7) (h3 : ¬ (!(ds.getD 2 .none).inS bodyKinds) = true)
    (h4 : ¬ (!((ds.getD 5 .none).kind == "bool")) = true) : isRecipe (.tup ds) = [1, 3, 4, 6].all fun k => (ds.getD k .none).isNum := by
  unfold isRecipe
  dsimp only
  rw [if_neg (by omega), if_neg h1, if_neg]
  rw [Bool.not_eq_true] at h2 h3 h4
  rw [h2, h3, h4, h7]
  decide
set_option maxRecDepth 100000 in
theorem c_recipe (w : World) (led : Led) (v : Value) (d : D) (hv : DIn led v d) (hw : d.wt ≤ 1000000) : Con w 111 [v] led 2 16 (RetX led (.bool (isRecipe d))) := by
  k_dflt (refine' Con.of_V1 [] (S1 "value") (some v) ?a ?b ?c ?d ?e ?f ?g ?h ?i ?j ?k ?_; ((case a => k_is); (case b => k_is); (case c => rfl); (case d => rfl); (case e => rfl); (case f => rfl); (case g => rfl); (case h => rfl); (case i => exact fun _ => rfl); (case j => rfl); (case k => rfl)))
  intro c ob d1 hc
  cases hv
  case tup a vs n ds hm hall =>
    have hlen := D.wts_len ds
    simp only [D.wt] at hw
    have hm' : (a, tupOf vs n) ∈ (c, ob) :: led := .tail _ hm
    have hall' : DAll ((c, ob) :: led) vs ds := hall.mono fun _ h => .tail _ h
    k_extra "vst"
    refine V.isiTup1 hm' ?_
    k_extra "vst"
    refine V.lenD hm' hall' (by omega) fun t => ?_
    k_extra "vst"
    have hs : ∀ p ∈ led, p ∈ (c, ob) :: led := fun _ h => .tail _ h
    refine ite_e (fun c0 => ?_) (fun c0 => ?_)
    · k_extra "vst"
      exact endB hs (by simp [isRecipe, show ds.length = 0 from by omega])
    have c0' : ds.length ≠ 0 := by omega
    k_extra "vst"
    refine V.itm 0 hm' hall' (by omega) fun v0 h0 => ?_
    k_extra "vst"
    refine V.eqS h0 ?_
    k_extra "vst"
    refine ite_i (fun c1 => ?_) (fun c1 => ?_)
    · k_extra "vst"
      refine V.lenD hm' hall' (by omega) fun t => ?_
      k_extra "vst"
      refine ite_e (fun c5 => ?_) (fun c5 => ?_)
      · have c5' : ds.length = 5 := by omega
        k_extra "vst"
        refine V.itm 1 hm' hall' (by omega) fun v1 h1 => ?_
        k_extra "vst"
        refine V.itm 2 hm' hall' (by omega) fun v2 h2 => ?_
        k_extra "vst"
        refine V.callP (c_plain w _ _ _ _ _ h1 h2) ?_
        k_extra "vst"
        refine ite_i (fun c6 => ?_) (fun c6 => ?_)
        · k_extra "vst"
          refine V.itm 3 hm' hall' (by omega) fun v3 h3 => ?_
          k_extra "vst"
          refine V.isiBool h3 ?_
          k_extra "vst"
          refine ite_i (fun c7 => ?_) (fun c7 => ?_)
          · k_extra "vst"
            refine V.itm 4 hm' hall' (by omega) fun v4 h4 => ?_
            k_extra "vst"
            refine V.callP (c_num w _ _ _ h4) ?_
            refine endB hs ?_
            simp only [isRecipe, c5', c1, c6, c7]; simp
          · refine endB hs ?_
            simp only [isRecipe, c5', c1, c6, c7]; simp
        · refine endB hs ?_
          simp only [isRecipe, c5', c1, c6]; simp
      · have c5' : ds.length ≠ 5 := by omega
        k_extra "vst"
        refine ite_e (fun h => absurd h c5) (fun _ => ?_)
        refine endB hs ?_
        simp only [isRecipe, c5', c1, c0', beq_false_of_ne c5]; simp
    · k_extra "vst"
      refine V.itm 0 hm' hall' (by omega) fun v0 h0 => ?_
      k_extra "vst"
      refine V.neS h0 ?_
      k_extra "vst"
      refine ite_i (fun c2 => ?_) (fun c2 => ?_)
      · k_extra "vst"
        refine endB hs ?_
        exact rec_no c0' c1 (.inl c2)
      k_extra "vst"
      refine V.lenD hm' hall' (by omega) fun t => ?_
      k_extra "vst"
      refine ite_n (fun c7 => ?_) (fun c7 => ?_)
      · have c7' : ds.length ≠ 7 := by omega
        k_extra "vst"
        refine endB hs ?_
        exact rec_no c0' c1 (.inr (.inl c7'))
      have c7' : ds.length = 7 := by omega
      k_extra "vst"
      refine V.itm 2 hm' hall' (by omega) fun v2 h2 => ?_
      k_extra "vst"
      refine V.notInS h2 (by k_is) (by repeat' constructor) ?_
      k_extra "vst"
      refine ite_i (fun c3 => ?_) (fun c3 => ?_)
      · k_extra "vst"
        refine endB hs ?_
        exact rec_no c0' c1 (.inr (.inr (.inl c3)))
      k_extra "vst"
      refine V.itm 5 hm' hall' (by omega) fun v5 h5 => ?_
      k_extra "vst"
      refine V.isiBool h5 ?_
      k_extra "vst"
      refine ite_i (fun c4 => ?_) (fun c4 => ?_)
      · k_extra "vst"
        refine endB hs ?_
        exact rec_no c0' c1 (.inr (.inr (.inr c4)))
      k_extra "vst"
      refine V.comp (cl' := [(S1 "value", c)]) (fun _ _ _ _ => rfl) (by decide) rfl rfl rfl (by decide) rfl rfl (fun _ _ => rfl) ?_
      k_extra "vst"
      rename_i t1 t3 t4 t6 at0 hat0
      refine ⟨rfl, _, _, _, fun i ys nx => (∀ p ∈ (c, ob) :: led, p ∈ nx) ∧ LSm.BoolsAre ys (([1, 3, 4, 6].take i).map fun k => (ds.getD k .none).isNum) ∧ (at0, tupOf [.int 1 t1, .int 3 t3, .int 4 t4, .int 6 t6] 0) ∈ nx, Src.tuple (.head _) (Nat.le_of_ble_eq_true rfl), Nat.le_of_ble_eq_true rfl, ⟨fun _ h => .tail _ h, .nil, .head _⟩, ?_, ?_⟩
      · rintro i v ys nx I oI C oC D m₂ hi hv ⟨hn, hy, hS⟩ hC hx off ne
        have hcx : (c, ob) ∈ nx := hn _ (.head _)
        have ha : ∀ p ∈ (c, ob) :: led, p ∈ (I, oI) :: (C, oC) :: (D, LCg.lst ys) :: nx := fun p h => .tail _ (.tail _ (.tail _ (hn p h)))
        have hi4 : i = 0 ∨ i = 1 ∨ i = 2 ∨ i = 3 := by simp at hi; omega
        rcases hi4 with rfl | rfl | rfl | rfl <;> (cases hv; k_extra "vst")
        · refine V.itm 1 (ha _ hm') (hall'.mono ha) (by omega) fun v hv => ?_
          k_extra "vst"
          exact V.callP (c_num w _ _ _ hv) ⟨rfl, nx, fun _ h => h, off, hS, hn, bools_snoc hy _, hS⟩
        · refine V.itm 3 (ha _ hm') (hall'.mono ha) (by omega) fun v hv => ?_
          k_extra "vst"
          exact V.callP (c_num w _ _ _ hv) ⟨rfl, nx, fun _ h => h, off, hS, hn, bools_snoc hy _, hS⟩
        · refine V.itm 4 (ha _ hm') (hall'.mono ha) (by omega) fun v hv => ?_
          k_extra "vst"
          exact V.callP (c_num w _ _ _ hv) ⟨rfl, nx, fun _ h => h, off, hS, hn, bools_snoc hy _, hS⟩
        · refine V.itm 6 (ha _ hm') (hall'.mono ha) (by omega) fun v hv => ?_
          k_extra "vst"
          exact V.callP (c_num w _ _ _ hv) ⟨rfl, nx, fun _ h => h, off, hS, hn, bools_snoc hy _, hS⟩
      · rintro ys nx D ⟨hn, hy, hS⟩ off
        refine ⟨_, fun _ h => h, ?_⟩
        k_extra "vst"
        refine V.all (.head _) hy ?_
        refine endB (fun p h => .tail _ (hn p (hs p h))) ?_
        rw [rec_all c1 c2 c7' c3 c4]
        rfl
  all_goals (
    k_extra "vst"
    first | refine V.isiTuple .none ?_ | refine V.isiTuple (.bool _) ?_ | refine V.isiTuple (.int _ _) ?_ | refine V.isiTuple (.str _ _) ?_ | refine V.isiTuple (.bytes _ _) ?_
    k_extra "vst"
    exact endB (fun _ h => .tail _ h) rfl)
end
section
open PySem PySem.W PyProof.Rows
set_option maxRecDepth 100000 in
theorem c_truth (w : World) (dk C : Addr) (o : Obj) (i : Int) (ns : List Int) (T : Led) (hT : ∀ p ∈ T, p.1 ≠ dk) (hdk : DkIs w o C i) (hC : Cells T C ns) (hi : 0 ≤ i) (hi2 : i ≤ 100000) :
    Con w 293 [.ref dk] ((dk, o) :: T) 4 30 (DOut0 w dk C T i 1 (fun r => ∃ b, r = .bool b)) := by
  k_dflt (refine' Con.of_V [(S1 "deck", .ref dk)] ?a ?b ?c ?d ?e ?f ?g ?h ?i ?j ?_; ((case a => k_is); (case b => k_is); (case c => rfl); (case d => rfl); (case e => rfl); (case f => rfl); (case g => rfl); (case h => rfl); (case i => decide); (case j => rfl)))
  k_extra "vst"
  refine V.call (c_draw w dk C o i ns T 2 _ hT hdk hC hi hi2 (by decide) (by decide)) rfl rfl ?_
  rintro r led' ⟨o', rfl, hd, n, t, rfl, a, c⟩
  k_extra "vst"
  exact ⟨_, fun _ h => h, o', i + 1, rfl, hd, Int.le_of_lt (Int.lt_succ i), Int.le_refl _, _, rfl⟩
end
section
open PySem PySem.W PyProof.Rows PySem.Calls PySem.MeetsSeq PySem.SeqAt PyProof.V PySem.Spec
noncomputable def kPair3 (Q : List (Value × Value) → Loc → Led → Prop) (kv vv : Value) (r : List (Value × Value)) (l₃ : Loc) (led₃ : Led) : Prop := Q ((kv, vv) :: r) l₃ led₃
noncomputable def kPairs (w : World) (σ : Sta) (ks : List (Option Expr)) (vs : List Expr) (pos : Pos) (Q : List (Value × Value) → Loc → Led → Prop) (kv vv : Value) (l₂ : Loc) (led₂ : Led) : Prop := V w σ l₂ led₂ (fun env => evalPairs (pairTrees ks vs env pos)) (kPair3 Q kv vv)
inductive DictSK (w : World) (d : Addr) (o : Obj) (Q : Value → Loc → Led → Prop) (vs : List (Value × Value)) (l₁ : Loc) (led₁ : Led) : Prop
  | mk (g : Obj → Led) (U : UpdF d o led₁ g) (ha : allStrKeys vs = true) (hn : ((strPairs vs).map (·.1)).Nodup) (q : ∀ o' : Obj, o'.IsDictOf (PySem.strKind PySem.Challenge.rw_nt0496_01.row.prog w) (strPairs vs) → Q (.ref d) l₁ (g o')) : DictSK w d o Q vs l₁ led₁
inductive DictIK (w : World) (d : Addr) (o : Obj) (Q : Value → Loc → Led → Prop) (vs : List (Value × Value)) (l₁ : Loc) (led₁ : Led) : Prop
  | mk (g : Obj → Led) (U : UpdF d o led₁ g) (ha : allIntKeys vs = true) (hn : ((intKeyPairs vs).map (·.1)).Nodup) (q : ∀ o' : Obj, o'.IsDictOf (PySem.intKind PySem.Challenge.rw_nt0496_01.row.prog w) (intKeyPairs vs) → Q (.ref d) l₁ (g o')) : DictIK w d o Q vs l₁ led₁
section
variable {w : World} {σ : Sta} {l : Loc} {led : Led}
theorem V.pcons {k v : Expr} {ks : List (Option Expr)} {vs : List Expr} {pos : Pos} {Q : List (Value × Value) → Loc → Led → Prop}
    (h : V w σ l led (PySem.eval k) (kE1 w σ v (kPairs w σ ks vs pos Q))) :
    V w σ l led (fun env => evalPairs (pairTrees (some k :: ks) (v :: vs) env pos)) Q :=
  .mk fun δ h' tk R D F N kR => pairTrees_cons_walk (h.go δ h' tk _ D F N fun _ h₁ t₁ _ _ F₁ N₁ q => q.go δ h₁ t₁ _ D F₁ N₁ fun _ h₂ t₂ _ _ F₂ N₂ q => q.go δ h₂ t₂ _ D F₂ N₂ fun _ _ _ _ _ F₃ N₃ q => kR _ _ _ _ _ F₃ N₃ q)
theorem V.pnil {pos : Pos} {Q : List (Value × Value) → Loc → Led → Prop} (h : Q [] l led) : V w σ l led (fun env => evalPairs (pairTrees [] [] env pos)) Q :=
  .mk fun _ _ _ _ _ F N kR => pairTrees_nil_walk (kR _ _ _ _ _ F N h)
theorem V.dictS {keys : List (Option Expr)} {values : List Expr} {pos : Pos} {Q : Value → Loc → Led → Prop} (hall : keys.all (·.isSome) = true) (hl : keys.length = values.length) (h0 : keys ≠ []) (hlen : Nat.ble keys.length 15 = true)
    (h : ∀ (d : Addr) (o : Obj), (∀ p ∈ led, p.1 < d) → (d == sysModules) = false → V w σ l ((d, o) :: led) (fun env => evalPairs (pairTrees keys values env pos)) (DictSK w d o Q)) :
    V w σ l led (PySem.eval (.Dict keys values pos)) Q :=
  .mk fun δ hp tk R D F N kR => kdn_eval (knd := PySem.strKind PySem.Challenge.rw_nt0496_01.row.prog w) F N D.T.nolimit hall hl h0 (Nat.le_of_ble_eq_true hlen) fun d h' o F' N' hlt hs hd =>
    (h d o hlt hs).go δ h' tk _ D F' N' fun vs h₁ t₁ l₁ led₁ F₁ N₁ ⟨_, U, ha, hn, q⟩ => kdn_made_str (s := ⟨h₁, _, _, t₁, _⟩) F₁ N₁ U hd ha hn fun _ o' F₂ N₂ hd₂ => kR _ _ _ _ _ F₂ N₂ (q o' hd₂)
theorem V.dictI {keys : List (Option Expr)} {values : List Expr} {pos : Pos} {Q : Value → Loc → Led → Prop} (hall : keys.all (·.isSome) = true) (hl : keys.length = values.length) (h0 : keys ≠ []) (hlen : Nat.ble keys.length 15 = true)
    (h : ∀ (d : Addr) (o : Obj), (∀ p ∈ led, p.1 < d) → (d == sysModules) = false → V w σ l ((d, o) :: led) (fun env => evalPairs (pairTrees keys values env pos)) (DictIK w d o Q)) :
    V w σ l led (PySem.eval (.Dict keys values pos)) Q :=
  .mk fun δ hp tk R D F N kR => kdn_eval (knd := PySem.intKind PySem.Challenge.rw_nt0496_01.row.prog w) F N D.T.nolimit hall hl h0 (Nat.le_of_ble_eq_true hlen) fun d h' o F' N' hlt hs hd =>
    (h d o hlt hs).go δ h' tk _ D F' N' fun vs h₁ t₁ l₁ led₁ F₁ N₁ ⟨_, U, ha, hn, q⟩ => kdn_made_int (s := ⟨h₁, _, _, t₁, _⟩) F₁ N₁ U hd ha hn fun _ o' F₂ N₂ hd₂ => kR _ _ _ _ _ F₂ N₂ (q o' hd₂)
variable {dd : Addr} {o : Obj} {kvs : List (Int × Value)} {k : Int} {t : Tok} {Q : Value → Loc → Led → Prop}
theorem V.notInI (hm : (dd, o) ∈ led) (hd : o.IsDictOf (PySem.intKind PySem.Challenge.rw_nt0496_01.row.prog w) kvs) (lo : (dd == sysModules) = false) (h : Q (.bool (!(valueAt kvs k).isSome)) l led) : V w σ l led (fun _ => compareOp .NotIn (.int k t) (.ref dd)) Q :=
  .mk fun _ _ _ _ _ F N kR => wpAny_notIn_of (intKind_is _ _ k t) lo (kda_dict N hm hd).mapOf (by
    cases hl : valueAt kvs k with
    | none => rw [hl] at h; exact kR _ _ _ _ _ F N h
    | some v => rw [hl] at h; exact kR _ _ _ _ _ F N h)
theorem V.itemI {value slice : Expr} {v : Value} (hm : (dd, o) ∈ led) (hd : o.IsDictOf (PySem.intKind PySem.Challenge.rw_nt0496_01.row.prog w) kvs) (hl : valueAt kvs k = some v) (h : Q v l led)
    (hs : subscripted slice false (.ref dd) (.int k t) = operate [.ref dd, .int k t] (getItem (.ref dd) (.int k t)) := by with_unfolding_all rfl) (hg : ∀ r, letTemporaryGo value (.ref dd) r = Pure.pure () := by intro _; with_unfolding_all rfl) :
    V w σ l led (fun _ => subscriptTail value slice (.ref dd) (.int k t)) Q :=
  .mk fun _ _ _ _ _ F N kR => kda_item N hm hd (intKind_is _ _ k t) hl (kR _ _ _ _ _ F N h) hs hg
end
end
section
open PySem PySem.W PyProof.Rows
structure Shp (d : Addr) (led new : Led) : Prop where
  off : ∀ p ∈ new, p.1 ≠ d
  ab : ∀ q ∈ led, ∀ p ∈ new, @LT.lt Nat _ q.1 p.1
theorem Shp.nil {d : Addr} {led : Led} : Shp d led [] := ⟨(fun _ h => nomatch h), fun _ _ _ h => nomatch h⟩
theorem Shp.cons {d a : Addr} {o x : Obj} {led new : Led} (S : Shp d led new) (ha : ∀ p ∈ new ++ (d, o) :: led, p.1 < a) : Shp d led ((a, x) :: new) :=
  ⟨List.forall_mem_cons.mpr ⟨Nat.ne_of_gt (ha (d, o) (List.mem_append_right _ (.head _))), S.off⟩, fun q hq => List.forall_mem_cons.mpr ⟨ha q (List.mem_append_right _ (.tail _ hq)), S.ab q hq⟩⟩
theorem upd_behind {d : Addr} {o : Obj} {led : Led} (h : ∀ p ∈ led, p.1 ≠ d) : ∀ {new : Led}, (∀ p ∈ new, p.1 ≠ d) → UpdF d o (new ++ (d, o) :: led) (fun o' => new ++ (d, o') :: led)
  | [], _ => .head h
  | _ :: _, H => .tail (H _ (.head _)) (upd_behind h fun q hq => H q (.tail _ hq))
set_option maxRecDepth 100000 in
theorem c_shapes (w : World) (led : Led) : Con w 128 [] led 1 8 (fun led' r => ∃ a tl, r = .ref a ∧ led' = tl ++ led ∧ (∀ q ∈ led, ∀ p ∈ tl, q.1 < p.1) ∧ ShapesIn w tl a) := by
  k_dflt (refine' Con.of_V [] ?a ?b ?c ?d ?e ?f ?g ?h ?i ?j ?_; ((case a => k_is); (case b => k_is); (case c => rfl); (case d => rfl); (case e => rfl); (case f => rfl); (case g => rfl); (case h => rfl); (case i => decide); (case j => rfl)))
  k_extra "vst"
  refine V.dictS rfl rfl (List.cons_ne_nil _ _) rfl fun dd ob hlt hsm => ?_
  have S0 : Shp dd led [] := .nil
  refine V.pcons ?_
  k_extra "vst"
  rename_i a1 h
  have S1 := fun x => S0.cons (x := x) h
  clear S0 h
  refine V.pcons ?_
  k_extra "vst"
  rename_i a2 h
  have S2 := fun x => (S1 _).cons (x := x) h
  clear S1 h
  refine V.pcons ?_
  k_extra "vst"
  rename_i a3 h
  have S3 := fun x => (S2 _).cons (x := x) h
  clear S2 h
  refine V.pcons ?_
  k_extra "vst"
  rename_i a4 h
  have S4 := fun x => (S3 _).cons (x := x) h
  clear S3 h
  refine V.pcons ?_
  k_extra "vst"
  rename_i a5 h
  have S5 := fun x => (S4 _).cons (x := x) h
  clear S4 h
  refine V.pcons ?_
  k_extra "vst"
  rename_i a6 h
  have S6 := fun x => (S5 _).cons (x := x) h
  clear S5 h
  refine V.pcons ?_
  k_extra "vst"
  rename_i a7 h
  have S7 := fun x => (S6 _).cons (x := x) h
  clear S6 h
  refine V.pcons ?_
  k_extra "vst"
  rename_i a8 h
  have S8 := fun x => (S7 _).cons (x := x) h
  clear S7 h
  refine V.pcons ?_
  k_extra "vst"
  rename_i a9 h
  have S9 := fun x => (S8 _).cons (x := x) h
  clear S8 h
  refine V.pnil ⟨_, upd_behind (fun p hp => Nat.ne_of_lt (hlt p hp)) (S9 _).off, rfl, (show ((["push", "drop", "call", "whole", "text", "row", "fetch", "entry", "vm"] : List String).map Str.ofString).Nodup by decide +kernel), fun o' hd => ?_⟩
  k_extra "vst"
  refine ⟨_, fun _ h => h, dd, [_, _, _, _, _, _, _, _, _, _], rfl, rfl, fun q hq => ?_, o', _, ?_, hd, ?_, hsm⟩
  · have hab := (S9 (tupOf [] 0)).ab q hq
    simp only [List.forall_mem_cons] at hab ⊢
    exact ⟨hab.1, hab.2.1, hab.2.2.1, hab.2.2.2.1, hab.2.2.2.2.1, hab.2.2.2.2.2.1, hab.2.2.2.2.2.2.1, hab.2.2.2.2.2.2.2.1, hab.2.2.2.2.2.2.2.2.1, hlt q hq, fun _ h => nomatch h⟩
  · k_extra "vm"
  · repeat' (first | exact KvIn.nil | (refine KvIn.cons (strs_in (by k_extra "vm") (by repeat' constructor)) ?_))
end
section
open PySem PySem.W PyProof.Rows
structure DkR (w : World) (dk C : Addr) (ns : List Int) (i : Int) (R : Led) (o : Obj) (K : Nat) : Prop where
  off : ∀ p ∈ R, p.1 ≠ dk
  dk : ∃ j, DkIs w o C j ∧ i ≤ j ∧ j ≤ i + K
  cells : Cells R C ns
  lo : 0 ≤ i
  up : i ≤ 90000
theorem dk_no_tup {w : World} {o : Obj} {C : Addr} {j : Int} {vs : List Value} {n : Nat} (h : DkIs w o C j) (e : tupOf vs n = o) : False := by
  subst e

  exact dk_ne_tup h _ _ rfl
section
variable {w : World} {σ : Sta} {l : Loc} {dk C : Addr} {ns : List Int} {i : Int} {R T : Led} {o : Obj} {K : Nat}
theorem DkR.of (hT : ∀ p ∈ T, p.1 ≠ dk) (hdk : DkIs w o C i) (hC : Cells T C ns) (hi : 0 ≤ i) (hi2 : i ≤ 90000) : DkR w dk C ns i T o 0 := ⟨hT, ⟨i, hdk, Int.le_refl _, by omega⟩, hC, hi, hi2⟩
theorem DkR.cons {a : Addr} {x : Obj} (S : DkR w dk C ns i R o K) (ha : ∀ p ∈ (dk, o) :: R, p.1 < a) : DkR w dk C ns i ((a, x) :: R) o K :=
  ⟨fun p hp => (List.mem_cons.mp hp).elim (fun e => e ▸ Nat.ne_of_gt (ha _ (.head _))) (S.off p), S.dk, S.cells.mono fun _ h => .tail _ h, S.lo, S.up⟩
theorem DkR.tail {w : World} {dk C a : Addr} {x o : Obj} {ns : List Int} {i : Int} {R : Led} {K : Nat} (S : DkR w dk C ns i ((a, x) :: R) o K) (hC : Cells R C ns) : DkR w dk C ns i R o K := ⟨fun p hp => S.off p (.tail _ hp), S.dk, hC, S.lo, S.up⟩
theorem DkR.more {K' : Nat} (S : DkR w dk C ns i R o K) (h : K ≤ K') : DkR w dk C ns i R o K' := ⟨S.off, let ⟨j, a, b, c⟩ := S.dk; ⟨j, a, b, by omega⟩, S.cells, S.lo, S.up⟩
theorem V.hold {α : Type} {a : Addr} {x : Obj} {t : Env → Sem α} {Q : α → Loc → Led → Prop} (S : DkR w dk C ns i R o K) (ha : ∀ p ∈ (dk, o) :: R, p.1 < a)
    (h : DkR w dk C ns i ((a, x) :: R) o K → V w σ l ((dk, o) :: (a, x) :: R) t Q) : V w σ l ((a, x) :: (dk, o) :: R) t Q :=
  V.sub (fun p hp => (List.mem_cons.mp hp).elim (fun e => e ▸ .tail _ (.head _)) fun hp => (List.mem_cons.mp hp).elim (fun e => e ▸ .head _) fun hp => .tail _ (.tail _ hp)) (h (S.cons ha))
theorem V.draw {b : Int} {tb : Tok} {Q : Value → Loc → Led → Prop} (S : DkR w dk C ns i R o K) (h : ∀ o' n t, DkR w dk C ns i R o' (K + 1) → 0 ≤ n → n < b → Q (.int n t) l ((dk, o') :: R))
    (hd : Nat.ble 2 σ.dk = true := by rfl) (hu : Nat.ble 16 σ.uk = true := by rfl) (hK : Nat.ble K 10000 = true := by rfl) (hb : 0 < b := by decide) (hb2 : b ≤ 100000 := by decide) : V w σ l ((dk, o) :: R) (fun _ => PySem.call (.ref 281) [.ref dk, .int b tb]) Q := by
  obtain ⟨j, hj, h0, h1⟩ := S.dk
  have hK' := Nat.le_of_ble_eq_true hK
  have := S.lo
  have := S.up
  refine V.call (c_draw w dk C o j ns R b tb S.off hj S.cells (by omega) (by omega) hb hb2) hd hu ?_
  rintro r led' ⟨o', rfl, hdk, n, t, rfl, a, c⟩
  exact h o' n t ⟨S.off, ⟨_, hdk, by omega, by omega⟩, S.cells, S.lo, S.up⟩ a c
theorem V.menu {m : Int} {value slice : Expr} {a : Addr} {vs : List Value} {ys : List Str} {n : Nat} {k : Int} {u : Tok} {led : Led} {Q : Value → Loc → Led → Prop} (hm : (a, lst vs n) ∈ led) (hi : StrsAre vs ys)
    (h0 : 0 ≤ k) (h1 : k < m) (q : ∀ t x, x = ys.getD k.toNat ⟨#[]⟩ → Q (.str x t) l led) (hl : (ys.length : Int) = m := by rfl) (hz : Nat.ble ys.length 60 = true := by rfl)
    (hs : subscripted slice false (.ref a) (.int k u) = operate [.ref a, .int k u] (getItem (.ref a) (.int k u)) := by with_unfolding_all rfl) : V w σ l led (fun _ => subscriptTail value slice (.ref a) (.int k u)) Q :=
  .mk fun _ _ _ _ _ F N kR => menuStr N hm hi h0 (by omega) (Nat.le_of_ble_eq_true hz) (fun t x e => kR _ _ _ _ _ F N (q t x e)) hs
theorem DkR.fin {l' : Loc} {K' : Nat} {q : Addr} {vs : List Value} {ds : List D} {P : D → Prop} (S : DkR w dk C ns i R o K) (hT : ∀ p ∈ T, p ∈ R) (hq : ∀ p ∈ (dk, o) :: R, p.1 < q) (hK : Nat.ble K K' = true) (hall : DAll [] vs ds) (hp : P (.tup ds)) :
    finQ (DOut w dk C T i K' (KeptD P)) (.ret (.ref q)) l' ((q, tupOf vs 0) :: (dk, o) :: R) := by
  obtain ⟨j, hj, h0, h1⟩ := S.dk
  have hK' := Nat.le_of_ble_eq_true hK
  refine ⟨_, fun p hp => ?_, DOut.tup hj h0 (by omega) hall hp fun p h => Nat.ne_of_lt (hq p (.tail _ (hT p h)))⟩
  rcases List.mem_cons.mp hp with rfl | hp
  · exact .tail _ (.head _)
  rcases List.mem_cons.mp hp with rfl | hp
  · exact .head _
  · exact .tail _ (.tail _ (hT _ hp))
theorem V.kept {f : Addr} {dd uu k : Nat} {P : D → Prop} {Q : Value → Loc → Led → Prop} (S : DkR w dk C ns i R o K)
    (con : ∀ j, DkIs w o C j → i ≤ j → j ≤ i + K → Con w f [.ref dk] ((dk, o) :: R) dd uu (DOut w dk C R j k (KeptD P)))
    (h : ∀ o' new r d, DkR w dk C ns i (new ++ R) o' (K + k) → NewT new R → DIn new r d → P d → Q r l ((dk, o') :: (new ++ R)))
    (hd : Nat.ble dd σ.dk = true := by rfl) (hu : Nat.ble uu σ.uk = true := by rfl) : V w σ l ((dk, o) :: R) (fun _ => PySem.call (.ref f) [.ref dk]) Q := by
  obtain ⟨j, hj, h0, h1⟩ := S.dk
  refine V.callF (con j hj h0 h1) hd hu ?_
  rintro r led' hF ⟨o', new, j', rfl, hn, hdk, a, c, d, hv, hp⟩
  refine h o' new r d ⟨fun p hp => ?_, ⟨_, hdk, by omega, by omega⟩, S.cells.mono fun _ h => List.mem_append_right _ h, S.lo, S.up⟩ hn hv hp
  rcases List.mem_append.mp hp with hp | hp
  · intro e
    obtain ⟨vs, n, hpe⟩ := hn.1 p hp
    have := hF p (.tail _ (List.mem_append_left _ hp)) (dk, o') (.head _) e
    exact dk_no_tup hdk (hpe.symm.trans this)
  · exact S.off p hp
theorem NewT.less {new R T : Led} (h : NewT new R) (hs : ∀ p ∈ T, p ∈ R) : NewT new T := ⟨h.1, fun q hq p hp => h.2 q hq p (hs p hp)⟩
theorem NewT.two {n2 n1 R T : Led} (h2 : NewT n2 R) (h1 : NewT n1 T) (hs : ∀ p ∈ T, p ∈ R) : NewT (n2 ++ n1) T :=
  ⟨fun q hq => (List.mem_append.mp hq).elim (h2.1 q) (h1.1 q), fun q hq p hp => (List.mem_append.mp hq).elim (fun h => h2.2 q h p (hs p hp)) fun h => h1.2 q h p hp⟩
theorem DkR.fin2 {l' : Loc} {K' : Nat} {q : Addr} {vs : List Value} {ds : List D} {P : D → Prop} {new : Led} (S : DkR w dk C ns i R o K) (hs : ∀ p ∈ new ++ T, p ∈ R) (hn : NewT new T) (hq : ∀ p ∈ (dk, o) :: R, p.1 < q) (hK : Nat.ble K K' = true) (hall : DAll new vs ds) (hp : P (.tup ds)) :
    finQ (DOut w dk C T i K' (KeptD P)) (.ret (.ref q)) l' ((q, tupOf vs 0) :: (dk, o) :: R) := by
  obtain ⟨j, hj, h0, h1⟩ := S.dk
  have hK' := Nat.le_of_ble_eq_true hK
  refine ⟨(dk, o) :: (((q, tupOf vs 0) :: new) ++ T), fun p hp => ?_, o, (q, tupOf vs 0) :: new, j, rfl, hn.cons (fun p h => Nat.ne_of_lt (hq p (.tail _ (hs p (List.mem_append_right _ h))))), hj, h0, by omega, .tup ds, .tup (.head _) (hall.mono fun _ h => .tail _ h), hp⟩
  rcases List.mem_cons.mp hp with rfl | hp
  · exact .tail _ (.head _)
  rcases List.mem_cons.mp hp with rfl | hp
  · exact .head _
  · exact .tail _ (.tail _ (hs _ hp))
end
end
section
open PySem PySem.W PyProof.Rows PySem.Calls
structure FSrc (w : World) (xv : Value) (news : Led) (S : Led → Prop) (P : Nat → Value → Prop) (n : Nat) : Prop where
  st : S news
  go : ∀ {A : Around} {E : Value → Shared → Prop} {s : Shared} {h₀ : Heap} {m : Str → Option Value} {env : Env} {x : Str} {body : List Stmt} {Q : Flow → Shared → Prop} (J : Nat → (Str → Option Value) → Led → Prop),
    A.handled = none → Fr h₀ env.locals s.heap m → News h₀ env.locals s.heap news → J 0 m news →
    (∀ i v m₁ news₁ h tk own, i < n → P i v → news₁.map (·.1) = news.map (·.1) → OwnOff own (news.map (·.1)) → S news₁ → J i m₁ news₁ → Fr h₀ env.locals h (fun y => if y = x then some v else m₁ y) → News h₀ env.locals h (news₁ ++ own) →
      wpAny (model PySem.Challenge.rw_nt0496_01.row.prog w) A (execs body env) (InvPostN h₀ env.locals (fun m' nx => S nx ∧ J (i + 1) m' nx) own (news.map (·.1)) { s with heap := h, toks := tk } Q) E { s with heap := h, toks := tk }) →
    (∀ m₁ news₁ h tk, S news₁ → J n m₁ news₁ → Fr h₀ env.locals h m₁ → News h₀ env.locals h news₁ → Q .next { s with heap := h, toks := tk }) →
    wpAny (model PySem.Challenge.rw_nt0496_01.row.prog w) A (pyIter xv) (fun it s₂ => LoopAtV PySem.Challenge.rw_nt0496_01.row.prog w A h₀ env x body Q E it s₂) E s
section
variable {w : World} {σ : Sta}
theorem FSrc.bytes {news : Led} {b : Array UInt8} {t : Tok} : FSrc w (.bytes b t) news (fun _ => True) (fun i v => ∃ n t, (bI b)[i]? = some n ∧ 0 ≤ n ∧ n < 256 ∧ v = .int n t) b.size where
  st := trivial
  go := by
    intro A E s h₀ m env x body Q J hh F N h0 turn done
    refine KBw.pyIter_bytes ?_
    have W := KBw.walks (prog := PySem.Challenge.rw_nt0496_01.row.prog) (w := w) hh s.heap.objs.size b t
    refine loop_invN (fun i m nx => True ∧ J i m nx) W ?_ ?_ ?_ ?_ ⟨_, Heap.get?_push_size _ rfl, rfl, rfl⟩ (F.push _) (fun p hp => ⟨Heap.get?_push_of_some _ (N p hp).1, (N p hp).2⟩) ⟨trivial, h0⟩ ?_ ?_
    · intro hm
      exact absurd F.ns.lt ((List.mem_singleton.mp hm) ▸ Nat.lt_irrefl _)
    · intro b' hb
      rw [List.mem_singleton.mp hb]
      exact next_is_new F
    · intro p hp hI
      exact absurd (Heap.lt_size (N p hp).1) ((List.mem_singleton.mp hI) ▸ Nat.lt_irrefl _)
    · intro p hp hI
      exact absurd (Heap.lt_size (N p hp).1) ((List.mem_singleton.mp hI) ▸ Nat.lt_irrefl _)
    · rintro i v m₁ nx h tk own hi ⟨n, u, hn, rfl⟩ e hoff hJ F₁ N₁
      have hn' := KBw.ints_get hn
      have hb := KBw.ints_in (List.mem_of_getElem? hn')
      exact turn i _ m₁ nx h tk own hi ⟨_, _, hn', hb.1, hb.2, rfl⟩ e hoff trivial hJ.2 F₁ N₁
    · exact fun m₁ nx h tk hJ F₁ N₁ => done m₁ nx h tk trivial hJ.2 F₁ N₁
theorem FSrc.ints {news : Led} {a : Addr} {vs : List Value} {ns : List Int} {k : Nat} (hl : (a, lst vs k) ∈ news) (hi : IntsAre vs ns) : FSrc w (.ref a) news (fun nx => (a, lst vs k) ∈ nx) (fun i v => ∃ n t, ns[i]? = some n ∧ v = .int n t) ns.length where
  st := hl
  go := by
    intro A E s h₀ m env x body Q J hh F N h0 turn done
    exact iter_invNL J hh hl hi F N h0 (fun i n t m₁ nx h tk own hn e hoff hm hJ F₁ N₁ => turn i _ m₁ nx h tk own (List.getElem?_eq_some_iff.mp hn).1 ⟨n, t, hn, rfl⟩ e hoff hm hJ F₁ N₁) done
inductive OverN {τ : Type} (ps : τ → Loc) (Lf : τ → Led) (P : τ → Prop) (own : Led) (l : Loc) (led : Led) : Prop
  | mk (c' : τ) (hp : P c') (hs : ∀ p ∈ Lf c', p ∈ led) (ho : ∀ p ∈ own, p ∈ led) (hk : lks (ps c') l) : OverN ps Lf P own l led
noncomputable def overQ {τ : Type} (ps : τ → Loc) (Lf : τ → Led) (P : τ → Prop) (own : Led) (Q : Flow → Loc → Led → Prop) (f : Flow) (l : Loc) (led : Led) : Prop := match f with
  | .next | .cont => OverN ps Lf P own l led
  | .brk => Q .next l led
  | .ret v => Q (.ret v) l led
inductive OverK {τ : Type} (w : World) (σ : Sta) (ps : τ → Loc) (Lf : τ → Led) (P : Nat → τ → Prop) (c₀ : τ) (x : Str) (body : List Stmt) (Q : Flow → Loc → Led → Prop) (xv : Value) (l₁ : Loc) (led₁ : Led) : Prop
  | mk (S : Led → Prop) (Pv : Nat → Value → Prop) (n : Nat) (src : FSrc w xv (Lf c₀) S Pv n) (hS : ∀ c, S (Lf c)) (hs : ∀ p ∈ Lf c₀, p ∈ led₁) (hk : lks (ps c₀) l₁)
      (turn : ∀ i v c u own, i < n → Pv i v → P i c → OwnOff own ((Lf c₀).map (·.1)) → V w σ ((x, v) :: (ps c ++ u)) (Lf c ++ own) (PySem.execs body) (overQ ps Lf (P (i + 1)) own Q))
      (fin : ∀ c l₂, P n c → lks (ps c) l₂ → Q .next l₂ (Lf c)) : OverK w σ ps Lf P c₀ x body Q xv l₁ led₁
theorem V.over {τ : Type} (ps : τ → Loc) (Lf : τ → Led) (P : Nat → τ → Prop) (c₀ : τ) {x : Str} {px pos : Pos} {iter : Expr} {body : List Stmt} {Q : Flow → Loc → Led → Prop} {l : Loc} {led : Led} (hx : isLoc σ x = true) (hfs : ∀ env xv, foldedSetIterable iter env xv = Pure.pure xv)
    (had : ∀ c, (Lf c).map (·.1) = (Lf c₀).map (·.1)) (hp : P 0 c₀)
    (h : V w σ l led (PySem.eval iter) (OverK w σ ps Lf P c₀ x body Q)) (hex : ∀ δ, σ.ex δ := by exact fun _ => trivial) :
    V w σ l led (exec (.For (.Name x px) iter body [] pos)) Q := by
  refine .mk fun δ hp' tk R D F N kR => wpAny_noRaise ?_
  have D' : DynOk w σ { δ with E := fun _ _ => False } := ⟨D.B, D.X, D.T, D.hd, D.hu, D.hk, D.ek, D.en, D.eg, D.eb, D.ec, D.dbg, D.fn, D.own, D.top, hex _⟩
  have hl := isLoc_ok hx
  have eE := D.fn hl.2
  have hL : δ.env.locals = δ.L := by rw [eE]
  refine For_invVF (m := fun y => l.lookup y) (h₀ := δ.h₀) (by rw [hL]; exact F) ?_ ?_ (h.go { δ with E := fun _ _ => False } hp' tk _ D' F N fun xv h₁ t₁ l₁ led₁ F₁ N₁ q => ?_) (hfs _) PassesOwn.never
  · show δ.env.scope.names.lookup x = _
    rw [D.en]; exact hl.1
  · rw [D.en, D.ek]; rfl
  obtain ⟨S, Pv, n, src, hS, hs, hk, turn, fin⟩ := q
  refine src.go (s := ⟨h₁, _, _, t₁, _⟩) (fun i m nx => ∃ c l', m = (fun y => List.lookup y l') ∧ nx = Lf c ∧ P i c ∧ lks (ps c) l') rfl (by rw [hL]; exact F₁) (by rw [hL]; exact cb_drop N₁ hs) ⟨c₀, l₁, rfl, rfl, hp, hk⟩ ?_ ?_
  · rintro i v _ _ h₂ t₂ own hi hv _ hoff _ ⟨c, l', rfl, rfl, hP, hk'⟩ F₂ N₂
    rw [hL] at F₂ N₂ ⊢
    rw [look_cons] at F₂
    have F₃ : Fr δ.h₀ δ.L h₂ (fun y => List.lookup y ((x, v) :: (ps c ++ l'))) := by
      have e : (fun y => List.lookup y ((x, v) :: (ps c ++ l'))) = fun y => List.lookup y ((x, v) :: l') := by
        rw [← look_cons, ← look_cons]
        funext y
        rw [lks_eq (ps c) hk' y]
      rw [e]; exact F₂
    refine (turn i v c l' own hi hv hP hoff).go { δ with E := fun _ _ => False } h₂ t₂ _ D' F₃ N₂ fun f h₃ t₃ l₃ led₃ F₄ N₄ q => ?_
    cases f with
    | next => obtain ⟨c', p1, p2, p3, p4⟩ := q; exact ⟨h₃, t₃, _, led₃, Lf c', rfl, F₄, N₄, p2, p3, had c', hS c', c', l₃, rfl, rfl, p1, p4⟩
    | cont => obtain ⟨c', p1, p2, p3, p4⟩ := q; exact ⟨h₃, t₃, _, led₃, Lf c', rfl, F₄, N₄, p2, p3, had c', hS c', c', l₃, rfl, rfl, p1, p4⟩
    | brk => exact kR _ _ _ _ _ F₄ N₄ q
    | ret v => exact kR _ _ _ _ _ F₄ N₄ q
  · rintro _ _ h₂ t₂ _ ⟨c, l', rfl, rfl, hP, hk'⟩ F₂ N₂
    exact kR _ _ _ _ _ (by rw [hL] at F₂; exact F₂) (by rw [hL] at N₂; exact N₂) (fin c l' hP hk')
end
end
section
open PySem PySem.W PyProof.Rows
theorem V.shr {w : World} {σ : Sta} {l : Loc} {led : Led} {a n : Int} {t u : Tok} {Q : Value → Loc → Led → Prop} (hn : 0 ≤ n) (h : ∀ t', Q (.int (a.fdiv (2 ^ n.toNat)) t') l led) : V w σ l led (fun _ => binaryOp .RShift (.int a t) (.int n u)) Q :=
  .mk fun _ _ _ _ _ F N kR => rshift_int hn (kR _ _ _ _ _ F N (h _))
theorem V.band {w : World} {σ : Sta} {l : Loc} {led : Led} {a n : Int} {t u : Tok} {Q : Value → Loc → Led → Prop} (h : ∀ t', Q (.int (Builtin.bitAnd a n) t') l led) : V w σ l led (fun _ => binaryOp .BitAnd (.int a t) (.int n u)) Q :=
  .mk fun _ _ _ _ _ F N kR => and_int (kR _ _ _ _ _ F N (h _))
theorem hexSign : ∀ k : Nat, k < 16 → (bI hexSigns.toArray).getD ((k : Nat) : Int).toNat 0 = hexDig k := by decide +kernel
theorem hex_snoc {ks : List Int} {k : Int} {i : Nat} (hk : ks[i]? = some k) : (ks.take i).flatMap hex2 ++ [hexDig (k.toNat / 16)] ++ [hexDig (k.toNat % 16)] = (ks.take (i + 1)).flatMap hex2 := by
  rw [List.take_add_one, hk, Option.toList_some, List.flatMap_append, List.append_assoc]
  rfl
set_option maxRecDepth 100000 in
theorem c_hexo (w : World) (led : Led) (b : Array UInt8) (t : Tok) (hb : b.size ≤ 1000000) : Con w 83 [.bytes b t] led 1 8 (RetB led ((byteArr (hexInts b)))) := by
  k_dflt (refine' Con.of_V [(S1 "octets", .bytes b t)] ?a ?b ?c ?d ?e ?f ?g ?h ?i ?j ?_; ((case a => k_is); (case b => k_is); (case c => rfl); (case d => rfl); (case e => rfl); (case f => rfl); (case g => rfl); (case h => rfl); (case i => decide); (case j => rfl)))
  have hlen := bI_len b
  k_extra "vst"
  rename_i ts l hl
  refine V.over (τ := List Value × Nat × List Int) (fun c => [(S1 "found", .ref l), (S1 "signs", .bytes hexSigns.toArray ts)]) (fun c => (l, lst c.1 c.2.1) :: led) (fun i c => IntsAre c.1 c.2.2 ∧ c.2.2 = ((bI b).take i).flatMap hex2) ([], 0, []) rfl (fun _ _ => rfl) (fun _ => rfl) ⟨.nil, rfl⟩ ?_
  k_extra "vst"
  refine ⟨_, _, _, FSrc.bytes, fun _ => trivial, fun _ h => h, ⟨rfl, rfl, trivial⟩, ?_, ?_⟩
  · rintro i v ⟨vs, n, ns⟩ u own hi ⟨k, tk, hk, k0, k1, rfl⟩ ⟨hf, hp⟩ off
    dsimp only at hf hp ⊢
    have hvl := hf.length
    have hpl := congrArg List.length hp
    rw [hex_len, List.length_take] at hpl
    have hne : ∀ p ∈ led ++ own, p.1 ≠ l := fun p hp => (List.mem_append.mp hp).elim (fun h => Nat.ne_of_lt (hl p h)) fun h => off p h _ (.head _)
    k_extra "vst"
    refine V.append _ (fun _ => rfl) rfl ?_
    k_extra "vst"
    refine ⟨l, rfl, ⟨_, _, .head _⟩, ?_⟩
    k_extra "vst"
    refine V.shr (by decide) fun _ => ?_
    rw [hex_hi k0 k1]
    refine V.bItem (by decide) (by omega) (by show _ < ((16 : Nat) : Int); omega) fun _ _ _ => ?_
    rw [hexSign _ (by omega)]
    refine ⟨vs, n, _, Upd.head hne, by omega, ?_⟩
    k_extra "vst"
    refine V.append _ (fun _ => rfl) rfl ?_
    k_extra "vst"
    refine ⟨l, rfl, ⟨_, _, .head _⟩, ?_⟩
    k_extra "vst"
    refine V.band fun _ => ?_
    rw [hex_lo k0 k1]
    refine V.bItem (by decide) (by omega) (by show _ < ((16 : Nat) : Int); omega) fun _ _ _ => ?_
    rw [hexSign _ (by omega)]
    refine ⟨vs ++ [_], n + 1, _, Upd.head hne, by rw [List.length_append]; show vs.length + 1 ≤ _; omega, ?_⟩
    k_extra "vst"
    exact ⟨(_, _, _), ⟨(hf.append (.cons _ _ .nil)).append (.cons _ _ .nil), by rw [hp]; exact hex_snoc hk⟩, fun p hp => (List.mem_cons.mp hp).elim (fun e => e ▸ .head _) fun hp => .tail _ (List.mem_append_left _ hp), fun p hp => .tail _ (List.mem_append_right _ hp), rfl, rfl, trivial⟩
  · rintro ⟨vs, n, ns⟩ u ⟨hf, hp⟩ hk
    dsimp only at hf hp hk ⊢
    rw [← hlen, List.take_length] at hp
    have hin : KBa.In ns := by rw [hp]; exact hex_in fun k hk => KBw.ints_in hk
    have hl2 : ns.length ≤ 3000000 := by rw [hp, hex_len]; omega
    refine V.names hk ?_
    k_extra "vst"
    refine V.bytesOf (.head _) hf hin (by omega) fun _ => ?_
    exact ⟨led, fun _ h => .tail _ h, rfl, _, by rw [hp]; rfl⟩
end
section
open PySem PySem.W PyProof.Rows
theorem num_bits {n k : Int} {i : Nat} (h : Builtin.Int.intBits n ≤ 64 + 66 * i) (h0 : 0 ≤ k) (h1 : k < 256) : Builtin.Int.intBits (10 * n + k - 48) ≤ 64 + 66 * (i + 1) :=
  Nat.le_trans (bits_sub (bits_add (bits_mul (intBits_le_64 (k := 10) (by decide) (by decide)) h) (intBits_le_64 (by omega) (by omega))) (intBits_le_64 (k := 48) (by decide) (by decide))) (by omega)
theorem num_step {ks : List Int} {n k : Int} {i : Nat} (h : n = numAbs (ks.take i)) (hk : ks[i]? = some k) : 10 * n + k - 48 = numAbs (ks.take (i + 1)) := by
  rw [List.take_add_one, hk, h]
  simp [numAbs, List.foldl_append]
set_option maxRecDepth 100000 in
theorem c_numb (w : World) (x d o f : Addr) (b : Array UInt8) (T : Led) (S : RdS) (led : Led) (R : RAd x d o f T) (hS : RSt w x d o f b T S led) (hb : b.size ≤ 10000) (hat : S.at_ < b.size) (hz : S.wt ≤ S.at_) :
    Con w 213 [.ref x] led 5 60 (StepOut w x d o f b T ((numP (bI b) S.at_).map fun p => { S.put (.int p.1) with at_ := p.2 })) := by
  k_dflt (refine' Con.of_V [(S1 "self", .ref x)] ?a ?b ?c ?d ?e ?f ?g ?h ?i ?j ?_; ((case a => k_is); (case b => k_is); (case c => rfl); (case d => rfl); (case e => rfl); (case f => rfl); (case g => rfl); (case h => rfl); (case i => decide); (case j => rfl)))
  obtain ⟨t1, t2, t3, t4, tb, ti, hm1, hm2⟩ := hS.mem
  have hlen := bI_len b
  refine V.execs ?_
  refine (?_ : V _ _ _ _ _ _)
  refine V.mono (Q := fun v l₂ led₂ => l₂ = [(S1 "self", Value.ref x)] ∧ led = led₂ ∧ ∃ t, v = .int (numStart (bI b) S.at_ : Nat) t) ?_ ?_
  · k_extra "vst"
    refine V.meth0 (by rfl) hm1 hm2 (by k_is) (by k_is) (by k_is) (by k_get) (by k_is) _ (fun _ => rfl) ?_
    refine V.callI (c_here w led x d o f t1 t2 t3 t4 tb ti b S.at_ hm1 hm2 (by omega)) rfl rfl fun t => ?_
    k_extra "vst"
    refine ite_e (fun c1 => ?_) (fun c1 => ?_)
    · k_extra "vst"
      refine V.fAt hm1 hm2 ?_
      k_extra "vst"
      exact ⟨rfl, rfl, _, by unfold numStart; rw [if_pos c1]; rfl⟩
    · k_extra "vst"
      refine V.fAt hm1 hm2 ?_
      exact ⟨rfl, rfl, _, by unfold numStart; rw [if_neg c1]⟩
  rintro _ _ _ ⟨rfl, rfl, ts, rfl⟩
  have hst : numStart (bI b) S.at_ ≤ S.at_ + 1 := by unfold numStart; split <;> omega
  have hst0 : S.at_ ≤ numStart (bI b) S.at_ := by unfold numStart; split <;> omega
  have hns := numP_some (ks := bI b) (i := S.at_) (n := numAbs (((bI b).drop (numStart (bI b) S.at_)).take (endP (bI b) 48 57 (numStart (bI b) S.at_) - numStart (bI b) S.at_))) rfl
  have hnn := numP_none (ks := bI b) (i := S.at_) rfl
  generalize numStart (bI b) S.at_ = st at *
  k_extra "vst"
  refine V.meth (by rfl) hm1 hm2 (by k_is) (by k_is) (by k_is) (by k_get) (by k_is) rfl _ (fun _ => rfl) ?_
  k_extra "vst"
  refine V.callI (c_end w _ x d o f t1 t2 t3 t4 tb ti _ _ _ b _ 48 57 st hm1 hm2 (by omega) (by omega)) rfl rfl fun te => ?_
  generalize endP (bI b) 48 57 st = en at *
  k_extra "vst"
  refine ite_e (fun c1 => ?_) (fun c1 => ?_)
  · k_extra "vst"
    rw [hnn (by omega)]
    exact ⟨_, fun _ h => h, S, hS, .inl ⟨rfl, rfl⟩⟩
  have hns := hns (by omega) rfl
  k_extra "vst"
  rename_i tz
  refine V.over (τ := Int × Tok) (fun c => [(S1 "number", .int c.1 c.2), (S1 "self", .ref x), (S1 "start", .int (st : Int) ts), (S1 "end", .int (en : Int) te)]) (fun _ => led) (fun i c => c.1 = numAbs ((((bI b).drop st).take (en - st)).take i) ∧ Builtin.Int.intBits c.1 ≤ 64 + 66 * i) (0, tz) rfl (fun _ _ => rfl) (fun _ => rfl) ⟨rfl, Nat.zero_le _⟩ ?_
  k_extra "vst"
  refine V.cut2 ?_
  k_extra "vst"
  refine V.fOct hm1 hm2 ?_
  k_extra "vst"
  refine ⟨b, tb, _, _, _, _, rfl, rfl, rfl, by omega, by omega, by omega, fun c tc hc hz => ?_⟩
  have hcl := bI_len c
  rw [Int.toNat_natCast, Int.toNat_natCast] at hc
  refine ⟨_, _, _, FSrc.bytes, fun _ => trivial, fun _ h => h, ⟨rfl, rfl, rfl, rfl, trivial⟩, ?_, ?_⟩
  · rintro i v ⟨n, tn⟩ u own hi ⟨k, tk, hk, k0, k1, rfl⟩ ⟨hp, hq⟩ _
    dsimp only at hp hq ⊢
    k_extra "vst"
    refine V.mul (mulOk_of_bits (intBits_le_64 (k := 10) (by decide) (by decide)) hq (by omega)) fun _ => ?_
    k_extra "vst"
    rename_i tz
    rw [hc] at hk
    exact ⟨(10 * n + k - 48, tz), ⟨num_step hp hk, num_bits hq k0 k1⟩, fun _ h => List.mem_append_left _ h, fun _ h => List.mem_append_right _ h, rfl, rfl, rfl, rfl, trivial⟩
  · rintro ⟨n, tn⟩ u ⟨hp, hq⟩ hk
    dsimp only at hp hq hk ⊢
    rw [← hc, ← hcl, List.take_length, hc] at hp
    rw [← hp] at hns
    rw [hns]
    refine V.names hk ?_
    k_extra "vst"
    refine V.expr rfl ?_
    refine V.meth (by rfl) hm1 hm2 (by k_is) (by k_is) (by k_is) (by k_get) (by k_is) rfl _ (fun _ => rfl) ?_
    refine V.mono (Q := fun vs l₂ led₂ => l₂ = [(S1 "number", Value.int n tn), (S1 "self", .ref x), (S1 "start", .int (st : Int) ts), (S1 "end", .int (en : Int) te)] ++ u ∧ led₂ = led ∧ ∃ t, vs = [Value.int (if st > S.at_ then -n else n) t]) ?_ ?_
    · k_extra "vst"
      refine V.fAt hm1 hm2 ?_
      k_extra "vst"
      refine ite_d (fun c2 => ?_) (fun c2 => ?_)
      · k_extra "vst"
        exact ⟨rfl, rfl, _, by rw [if_pos (by omega)]⟩
      · k_extra "vst"
        exact ⟨rfl, rfl, _, by rw [if_neg (by omega)]⟩
    rintro _ _ _ ⟨rfl, rfl, tv, rfl⟩
    refine V.call (c_put w x d o f b T S _ _ _ R hS (.int _ _) (by omega)) rfl rfl ?_
    rintro r led' ⟨rfl, hS'⟩
    k_extra "vst"
    refine V.assignAttr rfl ?_
    k_extra "vst"
    refine V.fSetAt hS' R fun led' hS2 => ?_
    k_extra "vst"
    exact ⟨_, fun _ h => h, _, hS2, .inr ⟨rfl, rfl⟩⟩
end
section
open PySem PySem.W PyProof.Rows
noncomputable def sgl (k : Int) : Option D := if k = 110 then some .none else if k = 116 then some (.bool true) else if k = 102 then some (.bool false) else none
theorem singleP_eq {ks : List Int} {S : RdS} {k : Int} : singleP ks S k = match sgl k with
    | some d => some { S.put d with at_ := S.at_ + 1 }
    | none => (numP ks S.at_).map fun p => { S.put (.int p.1) with at_ := p.2 } := by
  unfold singleP sgl
  repeat' split
  all_goals first | rfl | simp_all
theorem sgl_at {k : Int} {a b c : Tok} : (sgl k = none ∧ valueAt (intKeyPairs [(.int 110 a, .none), (.int 116 b, .bool true), (.int 102 c, .bool false)]) k = none) ∨ ∃ d v, sgl k = some d ∧ valueAt (intKeyPairs [(.int 110 a, .none), (.int 116 b, .bool true), (.int 102 c, .bool false)]) k = some v ∧ (∀ led, DIn led v d) ∧ d.wt ≤ 1 := by
  by_cases h1 : k = 110
  · subst h1; exact .inr ⟨_, _, rfl, rfl, fun _ => .none, by decide⟩
  by_cases h2 : k = 116
  · subst h2; exact .inr ⟨_, _, rfl, rfl, fun _ => .bool _, by decide⟩
  by_cases h3 : k = 102
  · subst h3; exact .inr ⟨_, _, rfl, rfl, fun _ => .bool _, by decide⟩
  · exact .inl ⟨by unfold sgl; rw [if_neg h1, if_neg h2, if_neg h3], sgl_none h1 h2 h3⟩
set_option maxRecDepth 100000 in
theorem c_single (w : World) (x d o f : Addr) (b : Array UInt8) (T : Led) (S : RdS) (led : Led) (k : Int) (tk0 : Tok) (R : RAd x d o f T) (hS : RSt w x d o f b T S led) (hb : b.size ≤ 10000) (hat : S.at_ < b.size) (hz : S.wt ≤ S.at_) :
    Con w 241 [.ref x, .int k tk0] led 7 80 (StepOut w x d o f b T (singleP (bI b) S k)) := by
  k_dflt (refine' Con.of_V [(S1 "octet", .int k tk0), (S1 "self", .ref x)] ?a ?b ?c ?d ?e ?f ?g ?h ?i ?j ?_; ((case a => k_is); (case b => k_is); (case c => rfl); (case d => rfl); (case e => rfl); (case f => rfl); (case g => rfl); (case h => rfl); (case i => decide); (case j => rfl)))
  rw [singleP_eq]
  obtain ⟨t1, t2, t3, t4, tb, ti, hm1, hm2⟩ := hS.mem
  k_extra "vst"
  refine V.dictI rfl rfl (List.cons_ne_nil _ _) rfl fun dd ob hlt hsm => ?_
  refine V.pcons ?_
  k_extra "vst"
  refine V.pcons ?_
  k_extra "vst"
  refine V.pcons ?_
  k_extra "vst"
  refine V.pnil ⟨_, .head fun p hp => Nat.ne_of_lt (hlt p hp), rfl, (show ([110, 116, 102] : List Int).Nodup by decide), fun o' hd => ?_⟩
  k_extra "vst"
  refine V.notInI (.head _) hd hsm ?_
  rcases sgl_at (k := k) with ⟨e1, e2⟩ | ⟨dv, v, e1, e2, hv, hw⟩
  · rw [e1, e2]
    k_extra "vst"
    refine V.drop ?_
    refine V.meth0 (by rfl) hm1 hm2 (by k_is) (by k_is) (by k_is) (by k_get) (by k_is) _ (fun _ => rfl) ?_
    refine V.call (c_numb w x d o f b T S led R hS hb hat hz) rfl rfl fun r led' ho => ?_
    exact ⟨_, fun _ h => h, ho⟩
  · rw [e1, e2]
    k_extra "vst"
    refine V.expr rfl ?_
    refine V.meth (by rfl) (.tail _ hm1) (.tail _ hm2) (by k_is) (by k_is) (by k_is) (by k_get) (by k_is) rfl _ (fun _ => rfl) ?_
    k_extra "vst"
    refine V.itemI (.head _) hd e2 ?_
    k_extra "vst"
    refine V.drop ?_
    refine V.call (c_put w x d o f b T S _ _ _ R hS (hv _) (by omega)) rfl rfl ?_
    rintro r led' ⟨rfl, hS'⟩
    k_extra "vst"
    refine V.assignAttr rfl ?_
    k_extra "vst"
    obtain ⟨u1, u2, u3, u4, ub, ui, hn1, hn2⟩ := hS'.mem
    rw [RdS.at_put] at hn2
    refine V.fAt hn1 hn2 ?_
    k_extra "vst"
    refine V.fSetAt (j := S.at_ + 1) hS' R fun led' hS2 => ?_
    k_extra "vst"
    exact ⟨_, fun _ h => h, _, hS2, .inr ⟨rfl, rfl⟩⟩
end
section
open PySem PySem.W PyProof.Rows PySem.Calls
theorem off3_of {I C D : Addr} : ∀ {l : Led}, (∀ p ∈ l, p.1 ≠ I ∧ p.1 ≠ C ∧ p.1 ≠ D) → LCg.Off3 I C D l
  | [], _ => trivial
  | p :: r, h => ⟨h p (.head _), off3_of fun q hq => h q (.tail _ hq)⟩
theorem off1_mem {D : Addr} : ∀ {l : Led}, LCg.Off1 D l → ∀ p ∈ l, p.1 ≠ D
  | [], _, _, h => nomatch h
  | q :: r, x, p, h => (List.mem_cons.mp h).elim (fun e => e ▸ x.1) (off1_mem x.2 p)
inductive TurnsT (w : World) (l : Loc) (dk C : Addr) (ns : List Int) (i : Int) (P : D → Prop) (R' : Led) (N : Nat) (y : Value) (l' : Loc) (led' : Led) : Prop
  | mk (e : l' = l) (o2 : Obj) (new : Led) (d : D) (hs : ∀ p ∈ (dk, o2) :: (new ++ R'), p ∈ led') (S : DkR w dk C ns i (new ++ R') o2 N) (hN : NewT new R') (hd : DIn new y d) (hp : P d) : TurnsT w l dk C ns i P R' N y l' led'
inductive TurnsK (w : World) (σ : Sta) (l : Loc) (dk C : Addr) (ns : List Int) (i : Int) (elt : Expr) (scope : Scope) (cl' : List (Str × Addr)) (k : Nat) (P : D → Prop) (Q : Value → Loc → Led → Prop) (xv : Value) (l₁ : Loc) (led₁ : Led) : Prop
  | mk (e : l₁ = l) (a : Addr) (m : Nat) (t u v : Tok) (o : Obj) (K : Nat) (R : Led) (ex : xv = .ref a) (ha : (a, rngObj 0 (m : Int) 1 t u v) ∈ led₁) (hm : m ≤ 1000) (hs : ∀ p ∈ (dk, o) :: R, p ∈ led₁) (S : DkR w dk C ns i R o K)
      (body : ∀ n o' R' Cc, n < m → DkR w dk C ns i R' o' (K + k * n) → (∀ p ∈ R, p ∈ R') → V w { cs := csOf scope σ, dk := σ.dk, uk := σ.uk, fn := false, cl := cl', C := Cc } l ((dk, o') :: R') (PySem.eval elt) (TurnsT w l dk C ns i P R' (K + k * n + k)))
      (fin : ∀ o' new ys ds D, DkR w dk C ns i (new ++ R) o' (K + k * m) → NewT new R → DAll new ys ds → (∀ d ∈ ds, P d) → ds.length = m → (∀ p ∈ (dk, o') :: (new ++ R), p.1 ≠ D) → Q (.ref D) l ((D, LCg.lst ys) :: (dk, o') :: (new ++ R))) : TurnsK w σ l dk C ns i elt scope cl' k P Q xv l₁ led₁
section
variable {w : World} {σ : Sta} {l : Loc} {led : Led} {dk C : Addr} {ns : List Int} {i : Int}
theorem V.turns {elt iter : Expr} {x : Str} {px : Pos} {scope : Scope} {cl' : List (Str × Addr)} {pos : Pos} {Q : Value → Loc → Led → Prop}
    (hclos : ∀ cn L a ccd, closureFor scope (envX cn σ.cs L a ccd σ.cl) = Pure.pure cl') (hcell : ∀ y ∈ scope.names, y.2 ≠ .cell) (hkind : scope.kind = .function)
    (hk' : (csOf scope σ).kind = .function) (hdb : noDbg (csOf scope σ).names = true) (hnames : ∀ y ∈ scope.names, y.2 = .local → scope.names.lookup y.1 = some .local) (hx : scope.names.lookup x = some .local) (hf : σ.fn = true) (hfs : ∀ env xv, foldedSetIterable iter env xv = Pure.pure xv)
    (k : Nat) (P : D → Prop)
    (h : V w σ l led (PySem.eval iter) (TurnsK w σ l dk C ns i elt scope cl' k P Q)) :
    V w σ l led (PySem.eval (.ListComp elt [⟨.Name x px, iter, [], 0⟩] scope pos)) Q := by
  refine V.comp hclos hcell hkind hk' hdb hnames hx hf hfs (h.mono fun xv l₁ led₁ q => ?_)
  obtain ⟨rfl, a, m, t, u, v, o, K, R, rfl, ha, hm, hs, S, body, fin⟩ := q
  refine ⟨rfl, _, _, m, fun n ys nx => ∃ o' new ds, (∀ p ∈ (dk, o') :: (new ++ R), p ∈ nx) ∧ DkR w dk C ns i (new ++ R) o' (K + k * n) ∧ NewT new R ∧ DAll new ys ds ∧ (∀ d ∈ ds, P d) ∧ ds.length = n,
    Src.range ha hm, Nat.le_trans hm (by decide), ⟨o, [], [], hs, S, NewT.nil R, .nil, (fun _ h => nomatch h), rfl⟩, ?_, ?_⟩
  · rintro n v ys nx I oI Cc oC D' m₂ hn hv ⟨o', new, ds, hsn, S', hN, hA, hP, hl⟩ hC' hx' off ne
    have o3 := off.mem
    have hoff : ∀ p ∈ (dk, o') :: (new ++ R), p.1 ≠ I ∧ p.1 ≠ Cc ∧ p.1 ≠ D' := fun p hp => o3 p (hsn p hp)
    have hdk := hoff (dk, o') (.head _)
    have S2 : DkR w dk C ns i ((I, oI) :: (Cc, oC) :: (D', LCg.lst ys) :: (new ++ R)) o' (K + k * n) :=
      ⟨List.forall_mem_cons.mpr ⟨Ne.symm hdk.1, List.forall_mem_cons.mpr ⟨Ne.symm hdk.2.1, List.forall_mem_cons.mpr ⟨Ne.symm hdk.2.2, S'.off⟩⟩⟩, S'.dk, S'.cells.mono fun _ h => .tail _ (.tail _ (.tail _ h)), S'.lo, S'.up⟩
    refine V.sub (led' := (dk, o') :: (I, oI) :: (Cc, oC) :: (D', LCg.lst ys) :: (new ++ R)) ?_ ((body n o' _ Cc hn S2 fun _ h => .tail _ (.tail _ (.tail _ (List.mem_append_right _ h)))).mono fun y l' led' q => ?_)
    · intro p hp
      rcases List.mem_cons.mp hp with rfl | hp
      · exact .tail _ (.tail _ (.tail _ (hsn _ (.head _))))
      rcases List.mem_cons.mp hp with rfl | hp
      · exact .head _
      rcases List.mem_cons.mp hp with rfl | hp
      · exact .tail _ (.head _)
      rcases List.mem_cons.mp hp with rfl | hp
      · exact .tail _ (.tail _ (.head _))
      · exact .tail _ (.tail _ (.tail _ (hsn _ (.tail _ hp))))
    · obtain ⟨rfl, o2, new2, d, hs2, S3, hN2, hd, hp⟩ := q
      have big : ∀ p ∈ (dk, o2) :: ((new2 ++ new) ++ R), p ∈ led' := by
        intro p hp
        refine hs2 p ?_
        rcases List.mem_cons.mp hp with rfl | hp
        · exact .head _
        rw [List.append_assoc] at hp
        rcases List.mem_append.mp hp with hp | hp
        · exact .tail _ (List.mem_append_left _ hp)
        · exact .tail _ (List.mem_append_right _ (.tail _ (.tail _ (.tail _ hp))))
      refine ⟨rfl, (dk, o2) :: ((new2 ++ new) ++ R), ?_, ?_, trivial, o2, new2 ++ new, ds ++ [d], fun _ h => h, ?_, ?_, ?_, ?_, ?_⟩
      · intro p hp
        rcases List.mem_cons.mp hp with rfl | hp
        · exact hs2 _ (.tail _ (List.mem_append_right _ (.head _)))
        rcases List.mem_cons.mp hp with rfl | hp
        · exact hs2 _ (.tail _ (List.mem_append_right _ (.tail _ (.head _))))
        rcases List.mem_cons.mp hp with rfl | hp
        · exact hs2 _ (.tail _ (List.mem_append_right _ (.tail _ (.tail _ (.head _)))))
        · exact big p hp
      · refine off3_of fun p hp => ?_
        rcases List.mem_cons.mp hp with rfl | hp
        · exact hdk
        rw [List.append_assoc] at hp
        rcases List.mem_append.mp hp with hp | hp
        · exact ⟨Ne.symm (hN2.2 p hp _ (.head _)), Ne.symm (hN2.2 p hp _ (.tail _ (.head _))), Ne.symm (hN2.2 p hp _ (.tail _ (.tail _ (.head _))))⟩
        · exact hoff p (.tail _ hp)
      · refine ⟨fun p hp => S3.off p ?_, ?_, ?_, S3.lo, S3.up⟩
        · rw [List.append_assoc] at hp
          rcases List.mem_append.mp hp with hp | hp
          · exact List.mem_append_left _ hp
          · exact List.mem_append_right _ (.tail _ (.tail _ (.tail _ hp)))
        · have e : K + k * (n + 1) = K + k * n + k := by rw [Nat.mul_succ, Nat.add_assoc]
          rw [e]; exact S3.dk
        · exact S'.cells.mono fun p hp => by rw [List.append_assoc]; exact List.mem_append_right _ hp
      · exact hN2.two hN fun p hp => .tail _ (.tail _ (.tail _ (List.mem_append_right _ hp)))
      · exact (hA.mono fun _ h => List.mem_append_right _ h).append (.one (hd.mono fun _ h => List.mem_append_left _ h))
      · intro d' hd'
        rcases List.mem_append.mp hd' with hd' | hd'
        · exact hP d' hd'
        · rw [List.mem_singleton.mp hd']; exact hp
      · rw [List.length_append, hl]; rfl
  · rintro ys nx D' ⟨o', new, ds, hsn, S', hN, hA, hP, hl⟩ off
    have o1 : ∀ p ∈ nx, p.1 ≠ D' := off1_mem off
    refine ⟨(D', LCg.lst ys) :: (dk, o') :: (new ++ R), fun p hp => ?_, fin o' new ys ds D' S' hN hA hP hl fun p hp => o1 p (hsn p hp)⟩
    rcases List.mem_cons.mp hp with rfl | hp
    · exact .head _
    · exact .tail _ (hsn p hp)
end
end
section
open PySem PySem.W PyProof.Rows
inductive OctOk : D → Prop
  | mk (n : Int) (h : 0 ≤ n ∧ n < 256) : OctOk (.int n)
theorem octs_ints {new : Led} : ∀ {ys : List Value} {ds : List D}, DAll new ys ds → (∀ d ∈ ds, OctOk d) → ∃ bs, IntsAre ys bs ∧ KBa.In bs ∧ bs.length = ds.length
  | _, _, .nil, _ => ⟨[], .nil, (fun _ h => nomatch h), rfl⟩
  | _, _, .cons hd ht, h => by
    obtain ⟨bs, a, b, c⟩ := octs_ints ht fun e he => h e (.tail _ he)
    cases h _ (.head _) with
    | mk n hn =>
      cases hd
      exact ⟨n :: bs, .cons _ _ a, List.forall_mem_cons.mpr ⟨hn, b⟩, congrArg (· + 1) c⟩
set_option maxRecDepth 100000 in
theorem c_doct (w : World) (dk C : Addr) (o : Obj) (i : Int) (ns : List Int) (T : Led) (hT : ∀ p ∈ T, p.1 ≠ dk) (hdk : DkIs w o C i) (hC : Cells T C ns) (hi : 0 ≤ i) (hi2 : i ≤ 90000) :
    Con w 286 [.ref dk] ((dk, o) :: T) 4 40 (DOut0 w dk C T i 4 (fun r => ∃ b t, b.size ≤ 2 ∧ r = .bytes b t)) := by
  k_dflt (refine' Con.of_V1 [] (S1 "deck") (some (.ref dk)) ?a ?b ?c ?d ?e ?f ?g ?h ?i ?j ?k ?_; ((case a => k_is); (case b => k_is); (case c => rfl); (case d => rfl); (case e => rfl); (case f => rfl); (case g => rfl); (case h => rfl); (case i => exact fun _ => rfl); (case j => rfl); (case k => rfl)))
  intro c oc d1 hc
  have S := DkR.of hT hdk hC hi hi2
  refine V.hold S hc fun S => ?_
  k_extra "vst"
  refine V.turns (dk := dk) (C := C) (ns := ns) (i := i) (cl' := [(Str.ofString "deck", c)]) (fun _ _ _ _ => rfl) (by decide) rfl rfl rfl (by decide) rfl rfl (fun _ _ => rfl) 1 OctOk ?_
  k_extra "vst"
  refine V.draw S fun o3 m3 t3 S3 a3 b3 => ?_
  obtain ⟨m, rfl⟩ := Int.eq_ofNat_of_zero_le a3
  k_extra "vst"
  refine V.range1 fun a t u v ha => ⟨rfl, a, m, t, u, v, o3, _, _, rfl, .head _, by omega, fun _ h => .tail _ h, S3, ?_, ?_⟩
  · intro n1 o1 R' Cc hn SR hR
    have hcm : (c, oc) ∈ R' := hR _ (.head _)
    k_extra "vst"
    rename_i l hl _
    have SC := SR.cells
    refine V.hold SR hl fun SR => ?_
    have hcm2 : ∀ {x y}, (c, oc) ∈ x :: y :: R' := .tail _ (.tail _ hcm)
    k_extra "vst"
    refine V.draw SR (hK := Nat.ble_eq_true_of_le (by omega)) fun o4 n4 t4 S4 a4 b4 => ?_
    k_extra "vst"
    refine V.cellInt (ks := [0, 9, 65, 255, 40]) (.tail _ (.head _)) (.cons _ _ (.cons _ _ (.cons _ _ (.cons _ _ (.cons _ _ .nil))))) (by decide) a4 b4 (by decide) fun t5 => ?_
    k_extra "vst"
    exact ⟨rfl, o4, [], _, fun p hp => (List.mem_cons.mp hp).elim (fun e => e ▸ .head _) fun hp => .tail _ (.tail _ hp), S4.tail SC, NewT.nil _, .int _ _, .mk _ (menu5 a4 b4)⟩
  · intro o4 new ys ds D S4 w4 vs4 p4 hl4 hD
    k_extra "vst"
    obtain ⟨bs, hi, hin, hl⟩ := octs_ints vs4 p4
    obtain ⟨j, hj, j0, j1⟩ := S4.dk
    refine V.bytesOf (.head _) hi hin (by omega) fun t' => ?_
    exact ⟨(dk, o4) :: T, fun p hp => (List.mem_cons.mp hp).elim (fun e => e ▸ .tail _ (.head _)) fun hp => .tail _ (.tail _ (List.mem_append_right _ (.tail _ hp))), o4, j, rfl, hj, j0, by omega, _, _, by rw [byteArr_size0]; omega, rfl⟩
end
section
open PySem PySem.W PyProof.Rows
noncomputable def PairOk (d : D) : Prop := ∃ a b : Int, d = .tup [.int a, .int b] ∧ (0 ≤ a ∧ a < 9) ∧ 0 ≤ b ∧ b < 9
theorem PairOk.mk {a b : Int} (ha : 0 ≤ a ∧ a < 9) (hb : 0 ≤ b ∧ b < 9) : PairOk (.tup [.int a, .int b]) := ⟨a, b, rfl, ha, hb⟩
theorem pairs_ok : ∀ {n : Nat} {ds : List D}, (∀ d ∈ ds, PairOk d) → ds.length = n → PairsOk ds
  | 0, ds, _, hl => by rw [List.length_eq_zero_iff.mp hl]; exact PairsOk.nil
  | n + 1, ds, h, hl => by
    rcases List.eq_nil_or_concat ds with rfl | ⟨es, d, rfl⟩
    · cases hl
    · rw [List.concat_eq_append] at h hl ⊢
      rw [List.length_append] at hl
      obtain ⟨a, b, rfl, ha, hb⟩ := h d (List.mem_append_right _ (.head _))
      exact (pairs_ok (n := n) (fun e he => h e (List.mem_append_left _ he)) (Nat.succ.inj hl)).snoc ha hb
set_option maxRecDepth 100000 in
theorem c_lseen (w : World) (dk C : Addr) (o : Obj) (i : Int) (ns : List Int) (T : Led) (hT : ∀ p ∈ T, p.1 ≠ dk) (hdk : DkIs w o C i) (hC : Cells T C ns) (hi : 0 ≤ i) (hi2 : i ≤ 80000) :
    Con w 305 [.ref dk] ((dk, o) :: T) 6 60 (DOut w dk C T i 20 (KeptD SeenOk)) := by
  k_dflt (refine' Con.of_V1 [] (S1 "deck") (some (.ref dk)) ?a ?b ?c ?d ?e ?f ?g ?h ?i ?j ?k ?_; ((case a => k_is); (case b => k_is); (case c => rfl); (case d => rfl); (case e => rfl); (case f => rfl); (case g => rfl); (case h => rfl); (case i => exact fun _ => rfl); (case j => rfl); (case k => rfl)))
  intro c oc d1 hc
  have S := DkR.of hT hdk hC hi (by omega)
  refine V.hold S hc fun S => ?_
  k_extra "vst"
  refine V.turns (dk := dk) (C := C) (ns := ns) (i := i) (cl' := [(Str.ofString "deck", c)]) (fun _ _ _ _ => rfl) (by decide) rfl rfl rfl (by decide) rfl rfl (fun _ _ => rfl) 2 PairOk ?_
  k_extra "vst"
  refine V.draw S fun o3 m3 t3 S3 a3 b3 => ?_
  obtain ⟨m, rfl⟩ := Int.eq_ofNat_of_zero_le a3
  k_extra "vst"
  refine V.range1 fun a t u v ha => ⟨rfl, a, m, t, u, v, o3, _, _, rfl, .head _, by omega, fun _ h => .tail _ h, S3, ?_, ?_⟩
  · intro n1 o1 R' Cc hn SR hR
    have hcm : (c, oc) ∈ R' := hR _ (.head _)
    have hcm2 : ∀ {x}, (c, oc) ∈ (dk, x) :: R' := .tail _ hcm
    k_extra "vst"
    refine V.draw SR (hK := Nat.ble_eq_true_of_le (by omega)) fun o4 n4 t4 S4 a4 b4 => ?_
    k_extra "vst"
    refine V.draw S4 (hK := Nat.ble_eq_true_of_le (by omega)) fun o5 n5 t5 S5 a5 b5 => ?_
    k_extra "vst"
    refine V.tuple fun q hq => ⟨rfl, o5, [(q, tupOf [Value.int n4 t4, Value.int n5 t5] 0)], D.tup [.int n4, .int n5], fun p hp => ?_, S5.cons hq, (NewT.nil R').cons fun p hp => Nat.ne_of_lt (hq p (.tail _ hp)), DIn.tup (List.Mem.head _) (DAll.cons (.int _ _) (DAll.one (.int _ _))), PairOk.mk ⟨a4, b4⟩ ⟨a5, b5⟩⟩
    rcases List.mem_cons.mp hp with rfl | hp
    · exact .tail _ (.head _)
    rcases List.mem_cons.mp hp with rfl | hp
    · exact .head _
    · exact .tail _ (.tail _ hp)
  · intro o4 new ys ds D S4 w4 vs4 p4 hl4 hD
    k_extra "vst"
    refine V.tupleOf (.head _) (by rw [vs4.length]; omega) fun b hb => ?_
    obtain ⟨j, hj, j0, j1⟩ := S4.dk
    refine ⟨(dk, o4) :: (((b, tupOf ys 0) :: new) ++ T), fun p hp => ?_, o4, (b, tupOf ys 0) :: new, j, rfl, (w4.less fun _ h => .tail _ h).cons (fun p hp => Nat.ne_of_lt (hb p (.tail _ (.tail _ (List.mem_append_right _ (.tail _ hp)))))), hj, j0, by omega, .tup ds, .tup (.head _) (vs4.mono fun _ h => .tail _ h), (pairs_ok p4 rfl).seen (by omega)⟩
    rcases List.mem_cons.mp hp with rfl | hp
    · exact .tail _ (.tail _ (.head _))
    rcases List.mem_cons.mp hp with rfl | hp
    · exact .head _
    rcases List.mem_append.mp hp with hp | hp
    · exact .tail _ (.tail _ (.tail _ (List.mem_append_left _ hp)))
    · exact .tail _ (.tail _ (.tail _ (List.mem_append_right _ (.tail _ hp))))
end
section
open PySem PySem.W PyProof.Rows
section
variable {w : World} {σ : Sta} {l : Loc} {dk C : Addr} {ns : List Int} {i : Int} {R T : Led} {o : Obj} {K : Nat}
theorem V.truth {Q : Value → Loc → Led → Prop} (S : DkR w dk C ns i R o K) (h : ∀ o' b, DkR w dk C ns i R o' (K + 1) → Q (.bool b) l ((dk, o') :: R))
    (hd : Nat.ble 4 σ.dk = true := by rfl) (hu : Nat.ble 30 σ.uk = true := by rfl) (hK : Nat.ble K 10000 = true := by rfl) : V w σ l ((dk, o) :: R) (fun _ => PySem.call (.ref 293) [.ref dk]) Q := by
  obtain ⟨j, hj, h0, h1⟩ := S.dk
  have hK' := Nat.le_of_ble_eq_true hK
  have := S.lo
  have := S.up
  refine V.call (c_truth w dk C o j ns R S.off hj S.cells (by omega) (by omega)) hd hu ?_
  rintro r led' ⟨o', j', rfl, hdk, a, c, b, rfl⟩
  exact h o' b ⟨S.off, ⟨_, hdk, by omega, by omega⟩, S.cells, S.lo, S.up⟩
theorem V.doct {Q : Value → Loc → Led → Prop} (S : DkR w dk C ns i R o K) (h : ∀ o' b t, DkR w dk C ns i R o' (K + 4) → b.size ≤ 2 → Q (.bytes b t) l ((dk, o') :: R))
    (h8 : i ≤ 80000) (hd : Nat.ble 4 σ.dk = true := by rfl) (hu : Nat.ble 40 σ.uk = true := by rfl) (hK : Nat.ble K 10000 = true := by rfl) : V w σ l ((dk, o) :: R) (fun _ => PySem.call (.ref 286) [.ref dk]) Q := by
  obtain ⟨j, hj, h0, h1⟩ := S.dk
  have hK' := Nat.le_of_ble_eq_true hK
  have := S.lo
  have := S.up
  refine V.call (c_doct w dk C o j ns R S.off hj S.cells (by omega) (by omega)) hd hu ?_
  rintro r led' ⟨o', j', rfl, hdk, a, c, b, t, hb, rfl⟩
  exact h o' b t ⟨S.off, ⟨_, hdk, by omega, by omega⟩, S.cells, S.lo, S.up⟩ hb
end
end
section
open PySem PySem.W PyProof.Rows
set_option maxRecDepth 100000 in
theorem c_lrec (w : World) (dk C : Addr) (o : Obj) (i : Int) (ns : List Int) (T : Led) (hT : ∀ p ∈ T, p.1 ≠ dk) (hdk : DkIs w o C i) (hC : Cells T C ns) (hi : 0 ≤ i) (hi2 : i ≤ 80000) :
    Con w 300 [.ref dk] ((dk, o) :: T) 9 80 (DOut w dk C T i 20 (KeptD RecOk)) := by
  k_dflt (refine' Con.of_V [(S1 "deck", .ref dk)] ?a ?b ?c ?d ?e ?f ?g ?h ?i ?j ?_; ((case a => k_is); (case b => k_is); (case c => rfl); (case d => rfl); (case e => rfl); (case f => rfl); (case g => rfl); (case h => rfl); (case i => decide); (case j => rfl)))
  have S := DkR.of hT hdk hC hi (Int.le_trans hi2 (by decide))
  k_extra "vst"
  refine V.draw S fun o1 n1 t1 S1 a1 b1 => ?_
  k_extra "vst"
  refine ite_d (fun c1 => ?_) (fun c1 => ?_)
  · k_extra "vst"
    refine V.hold S1 (by assumption) fun S1 => ?_
    refine V.draw S1 fun o2 n2 t2 S2 a2 b2 => ?_
    k_extra "vst"
    refine V.menu (.tail _ (.head _)) (by repeat' constructor) a2 b2 fun _ x hx => ?_
    k_extra "vst"
    refine V.draw S2 fun o3 n3 t3 S3 a3 b3 => ?_
    k_extra "vst"
    refine V.draw S3 fun o4 n4 t4 S4 a4 b4 => ?_
    k_extra "vst"
    refine V.draw S4 fun o5 n5 t5 S5 a5 b5 => ?_
    k_extra "vst"
    refine V.truth S5 fun o6 b6 S6 => ?_
    k_extra "vst"
    refine V.draw S6 fun o7 n7 t7 S7 a7 b7 => ?_
    k_extra "vst"
    refine V.tuple fun q hq => S7.fin (fun _ h => .tail _ h) hq rfl (.cons (.str _ _) (.cons (.int _ _) (.cons (.str _ _) (.cons (.int _ _) (.cons (.int _ _) (.cons (.bool _) (.cons (.int _ _) .nil))))))) (rec_body ⟨a3, b3⟩ ⟨a4, b4⟩ ⟨a5, b5⟩ ⟨a7, b7⟩ ⟨a2, b2⟩ hx)
  · k_extra "vst"
    refine V.swap2 (fun _ _ _ _ _ => rfl) (fun _ _ _ _ _ => rfl) rfl rfl ?_
    k_extra "vst"
    refine V.menu (.head _) (by repeat' constructor) a1 (m := 7) (by omega) fun _ x hx => ?_
    refine V.sub (led' := (dk, o1) :: T) (fun _ h => .tail _ h) ?_
    k_extra "vst"
    refine V.tuple fun q hq => ⟨_, _, _, _, rfl, .head _, ?_⟩
    refine (?_ : V _ _ _ _ _ _)
    refine V.sub (led' := (dk, o1) :: T) (fun _ h => .tail _ h) ?_
    k_extra "vst"
    refine ite_d (fun c2 => ?_) (fun c2 => ?_)
    · k_extra "vst"
      refine V.draw S1 fun o2 n2 t2 S2 a2 b2 => ?_
      k_extra "vst"
      refine V.truth S2 fun o6 b6 S6 => ?_
      k_extra "vst"
      refine V.draw S6 fun o7 n7 t7 S7 a7 b7 => ?_
      k_extra "vst"
      refine V.tuple fun q hq => S7.fin (fun _ h => h) hq rfl (.cons (.str _ _) (.cons (.str _ _) (.cons (.int _ _) (.cons (.bool _) (.cons (.int _ _) .nil))))) (rec_plain ⟨a7, b7⟩ (hx ▸ plain7_at _ (by omega)) ?_ ?_ rfl (plain_int ⟨a1, c2⟩ hx _))
      · simp only [D.good, decide_eq_true_eq]; omega
      · simp only [D.wt]; exact Nat.le_trans (dec_small (by omega)) (by decide)
    · k_extra "vst"
      refine ite_e (fun c3 => ?_) (fun c3 => ?_)
      · k_extra "vst"
        refine V.truth S1 fun o2 b2 S2 => ?_
        k_extra "vst"
        refine V.truth S2 fun o6 b6 S6 => ?_
        k_extra "vst"
        refine V.draw S6 fun o7 n7 t7 S7 a7 b7 => ?_
        k_extra "vst"
        subst c3
        refine V.tuple fun q hq => S7.fin (fun _ h => h) hq rfl (.cons (.str _ _) (.cons (.str _ _) (.cons (.bool _) (.cons (.bool _) (.cons (.int _ _) .nil))))) (rec_plain ⟨a7, b7⟩ (hx ▸ plain7_at 3 (by decide)) rfl (by simp [D.wt]) rfl (plain_bool hx _))
      · k_extra "vst"
        refine ite_e (fun c4 => ?_) (fun c4 => ?_)
        · k_extra "vst"
          refine V.swap2 (fun _ _ _ _ _ => rfl) (fun _ _ _ _ _ => rfl) rfl rfl ?_
          k_extra "vst"
          refine V.hold S1 (by assumption) fun S1 => ?_
          refine V.draw S1 fun o2 n2 t2 S2 a2 b2 => ?_
          k_extra "vst"
          refine V.menu (.tail _ (.head _)) (by repeat' constructor) a2 b2 fun _ x hx => ?_
          k_extra "vst"
          refine V.doct S2 (h8 := Int.le_trans hi2 (by decide)) fun o3 b3 t3 S3 z3 => ?_
          k_extra "vst"
          refine V.tuple fun q hq => ⟨_, _, _, _, rfl, .head _, ?_⟩
          refine (?_ : V _ _ _ _ _ _)
          refine V.sub (fun _ h => .tail _ h) ?_
          k_extra "vst"
          refine V.truth S3 fun o6 b6 S6 => ?_
          k_extra "vst"
          refine V.draw S6 fun o7 n7 t7 S7 a7 b7 => ?_
          k_extra "vst"
          refine V.tuple fun q hq => S7.fin (fun _ h => .tail _ h) hq rfl (.cons (.str _ _) (.cons (.str _ _) (.cons (.bytes _ _) (.cons (.bool _) (.cons (.int _ _) .nil))))) (rec_plain ⟨a7, b7⟩ (hx ▸ nameop_at _ (by omega)) ?_ ?_ rfl (plain_bytes ⟨a2, b2⟩ hx _))
          · simp only [D.good, decide_eq_true_eq]; omega
          · simp only [D.wt]; omega
        · k_extra "vst"
          refine V.truth S1 fun o6 b6 S6 => ?_
          k_extra "vst"
          refine V.draw S6 fun o7 n7 t7 S7 a7 b7 => ?_
          k_extra "vst"
          refine V.tuple fun q hq => S7.fin (fun _ h => h) hq rfl (.cons (.str _ _) (.cons (.str _ _) (.cons .none (.cons (.bool _) (.cons (.int _ _) .nil))))) (rec_plain ⟨a7, b7⟩ (hx ▸ plain7_at _ (by omega)) rfl (by simp [D.wt]) rfl (plain_none (by omega) hx))
end
section
open PySem PySem.W PyProof.Rows PySem.Calls
section
variable {ks : List Str} {ds : List D} {W : Nat}
theorem RowPs.num {n b : Int} (h : 0 ≤ n ∧ n < b) (r : RowPs ks ds W) (hb : b ≤ 10000 := by decide) : RowPs (S "number" :: ks) (.int n :: ds) (5 + W) :=
  .cons (part_num h.1) (decide_eq_true (by omega)) (dec_small (by omega)) (Nat.zero_le _) r
theorem RowPs.recp {d : D} (h : RecOk d) (r : RowPs ks ds W) : RowPs (S "recipe" :: ks) (d :: ds) (80 + W) := .cons (part_rec h) h.good h.wt (Nat.le_trans h.dep (by decide)) r
theorem RowPs.seen {d : D} (h : SeenOk d) (r : RowPs ks ds W) : RowPs (S "seen" :: ks) (d :: ds) (80 + W) := .cons (part_seen h) h.good h.wt (Nat.le_trans h.dep (by decide)) r
theorem RowPs.octs {b : Array UInt8} (h : b.size ≤ 2) (r : RowPs ks ds W) : RowPs (S "octets" :: ks) (.bytes b :: ds) (6 + W) :=
  .cons part_octets (decide_eq_true (Nat.le_trans h (by decide))) (Nat.succ_le_succ (Nat.succ_le_succ (Nat.mul_le_mul_left 2 h))) (Nat.zero_le _) r
theorem RowPs.truth {b : Bool} (r : RowPs ks ds W) : RowPs (S "truth" :: ks) (.bool b :: ds) (1 + W) := .cons part_truth rfl (Nat.le_refl _) (Nat.zero_le _) r
theorem RowPs.recs {es : List D} (h : RecsOk es) (hl : es.length ≤ 2) (r : RowPs ks ds W) : RowPs (S "recipes" :: ks) (.tup es :: ds) (162 + W) :=
  have w := GW.tup (W' := 162) (m' := 3) (W := 160) ⟨h.good, Nat.le_trans h.wt (Nat.mul_le_mul_left 80 hl), h.dep⟩
  .cons (part_recs h) w.1 w.2.1 w.2.2 r
end
theorem row_push {d : D} (h : RecOk d) : RowOk (.tup [.str (S "push"), d]) := row_of (by decide +kernel) (by decide +kernel) (.recp h .nil)
theorem row_drop {n : Int} (h : 0 ≤ n) (h1 : n < 40) : RowOk (.tup [.str (S "drop"), .int n]) := row_of (by decide +kernel) (by decide +kernel) (.num ⟨h, h1⟩ .nil)
theorem row_call {b : Array UInt8} {d : D} (hb : b.size ≤ 2) (h : SeenOk d) : RowOk (.tup [.str (S "call"), .bytes b, d]) := row_of (by decide +kernel) (by decide +kernel) (.octs hb (.seen h .nil))
theorem row_whole {b : Array UInt8} {n : Int} {d : D} (hb : b.size ≤ 2) (h0 : 0 ≤ n) (h1 : n < 40) (h : SeenOk d) : RowOk (.tup [.str (S "whole"), .bytes b, .int n, d]) := row_of (by decide +kernel) (by decide +kernel) (.octs hb (.num ⟨h0, h1⟩ (.seen h .nil)))
theorem row_text {b : Array UInt8} {n : Int} {c : Bool} (hb : b.size ≤ 2) (h0 : 0 ≤ n) (h1 : n < 40) : RowOk (.tup [.str (S "text"), .int n, .bytes b, .bool c]) := row_of (by decide +kernel) (by decide +kernel) (.num ⟨h0, h1⟩ (.octs hb (.truth .nil)))
theorem row_row {ds : List D} {n : Int} {c : Bool} (h0 : 0 ≤ n) (h1 : n < 40) (h : RecsOk ds) (hl : ds.length ≤ 2) : RowOk (.tup [.str (S "row"), .int n, .tup ds, .bool c]) := row_of (by decide +kernel) (by decide +kernel) (.num ⟨h0, h1⟩ (.recs h hl (.truth .nil)))
theorem row_fetch {d : D} {n k : Int} (h0 : 0 ≤ n) (h1 : n < 40) (h : RecOk d) (k0 : 0 ≤ k) (k1 : k < 9) : RowOk (.tup [.str (S "fetch"), .int n, d, .int k]) := row_of (by decide +kernel) (by decide +kernel) (.num ⟨h0, h1⟩ (.recp h (.num ⟨k0, k1⟩ .nil)))
theorem row_entry {d e : D} {n : Int} (h0 : 0 ≤ n) (h1 : n < 40) (h : RecOk d) (g : RecOk e) : RowOk (.tup [.str (S "entry"), .int n, d, e]) := row_of (by decide +kernel) (by decide +kernel) (.num ⟨h0, h1⟩ (.recp h (.recp g .nil)))
theorem row_vm {c : Bool} : RowOk (.tup [.str (S "vm"), .bool c]) := row_of (by decide +kernel) (by decide +kernel) (.truth .nil)
end
section
open PySem PySem.W PyProof.Rows PySem.Calls Builtin Builtin.ObjectAttr
structure OwnExc (M : Model) (h : Heap) (C : Addr) : Prop where
  obj : ∃ oc od cd sl, h.get? C = some ⟨oc, od, .cls cd, sl⟩ ∧ cd.hasDel = false
  made : Looks M h (Bind.madeBy (.ref C)) (some "Exception.__new__")
  base : Looks M h (Bind.staticBase (.ref C)) (.ref C)
  self : Looks M h (isSubtype (.ref C) (.ref C)) true
  exc : Looks M h (isSubtype (.ref C) (.type "Exception")) true
  att : Looks M h (isSubtype (.ref C) (.type "AttributeError")) false
  nam : Looks M h (isSubtype (.ref C) (.type "NameError")) false
  isT : Looks M h (isType (.ref C)) true
section
variable {prog : Program} {w : World} {A : Around} {C : Addr} {R : Result → Shared → Prop} {h : Heap} {g : Array GenState} {d : Drawn} {t : Nat} {os : OsState}
theorem new_bad {rest : List Value} (Y : OwnExc (model prog w) h C) (hrest : rest.length ≤ 100)
    (hq : R (.ok (.ret (.ref (h.objs.size + 1)))) ⟨(h.push { cls := .type "tuple", data := .seq rest.toArray }).push { cls := .ref C, data := .fields #[.ref h.objs.size, .none, .none, .none, .bool false, .none] }, g, d, t, os⟩) :
    codeAny (model prog w) A (.call (.builtin "Exception.__new__") ⟨.ref C :: rest, []⟩) R ⟨h, g, d, t, os⟩ := by
  obtain ⟨⟨oc, od, cd, sl, hC, hdel⟩, made, base, self, exc, att, nam, isT⟩ := Y
  have F := PySem.F.excBase_Exception
  have here : Looks (model prog w) h (Bind.madeHere "Exception.__new__" (.ref C)) () := base.andThen (made.andThen (Looks.of_pure (by simp only [Option.map_some, bne_self_eq_false, Bool.false_eq_true, if_false])))
  have here2 : Looks (model prog w) h (Bind.madeHere "BaseException.__new__" (.ref C)) () := base.andThen (made.andThen (Looks.of_pure (by simp only [Option.map_some, F.canon, bne_self_eq_false, Bool.false_eq_true, if_false])))
  refine codeAny_call_builtin_code (Code.quiet_builtin _ F.quiet) ?_
  simp only [checkBuiltinCall, F.newKind, F.newSplit, F.newRow]
  repeat (first | simp only [bne_self_eq_false, Bool.false_eq_true, if_false] | lk)
  refine codeAny_builtinAt F.entry ?_
  unfold Builtin.«BaseException.__new__»
  refine PySem.wpAt_bind ?_
  show PySem.wpAt _ _ _ (stack >>= _) _ _ _
  refine PySem.wpAt_bind (PySem.wpAt_stack fun p below => PySem.wpAt_of_wpAny ?_)
  have hends := F.ends
  wp_walk
  refine PySem.wpAt_of_wpAny ?_
  rw [F.owner]
  repeat (first | simp only [bne_self_eq_false, Bool.false_eq_true, if_false] | lk)
  refine wpAny_ite_false (by rw [List.size_toArray, sizeLine_eq, decide_eq_false_iff_not]; omega) ?_
  unfold newObjAsIs
  refine wpAny_bind (wpAny_alloc ?_)
  repeat lk
  refine wpAny_load (Heap.get?_push_of_some _ (Heap.get?_push_of_some _ hC)) (wpAny_pure ?_)
  rw [hdel, if_neg (by decide)]
  refine wpAny_pure (wpAny_pure ?_)
  show R _ _
  rw [Heap.size_push]
  exact hq
noncomputable abbrev excObj (C t : Addr) : Obj := { cls := .ref C, data := .fields #[.ref t, .none, .none, .none, .bool false, .none] }
noncomputable abbrev argsObj (rest : List Value) : Obj := { cls := .type "tuple", data := .seq rest.toArray }
structure OwnExc2 (M : Model) (h : Heap) (C fI : Addr) : Prop extends OwnExc M h C where
  call : Looks M h (specialOf (.ref C) "__call__") (some (.builtin "type.__call__"))
  typ : Looks M h (isInstance (.ref C) (.type "type")) true
  mro : ∃ m, Looks M h (mroOf (.ref C)) m ∧ m.isEmpty = false
  ini : Looks M h (typeLookup (.ref C) "__init__") (some (.ref fI))
  bnd : ∀ self, Looks M h (bindSpecial (.ref fI) self) (.ref fI, [self])
theorem make_bad {rest : List Value} {fI : Addr} (Y : OwnExc2 (model prog w) h C fI) (hrest : rest.length ≤ 100)
    (hq : codeAny (model prog w) (A.under (.builtin "type.__call__" ⟨.ref C :: rest, []⟩)) (.call (.ref fI) ⟨.ref (h.objs.size + 1) :: rest, []⟩) (InitBack (h.objs.size + 1) R) ⟨(h.push (argsObj rest)).push (excObj C h.objs.size), g, d, t, os⟩) :
    codeAny (model prog w) A (.call (.ref C) ⟨rest, []⟩) R ⟨h, g, d, t, os⟩ := by
  have Y' := Y.toOwnExc
  obtain ⟨⟨⟨oc, od, cd, sl, hC, hdel⟩, made, base, self, exc, att, nam, isT⟩, call, typ, ⟨mr, hm, hme⟩, hi, hb⟩ := Y
  refine codeAny_of_tree ?_
  show wpAny _ _ (callAny (.ref C) _) _ _ _
  refine nd_load hC ?_
  show wpAny _ _ (callAny.viaDunder (.ref C) _) _ _ _
  unfold callAny.viaDunder
  refine wpAny_bind (call.at ?_)
  dsimp only
  rw [tc_bind]
  refine wpAny_bind (wpAny_pure (wpAny_bind (wpAny_pure ?_)))
  refine wpAny_pure (a := Fin.again (.call (.builtin "type.__call__") ⟨.ref C :: rest, []⟩)) (And.intro rfl ?_)
  refine codeAny_call_builtin_at (Code.quiet_builtin _ (by decide +kernel)) entry_typeCall (check_slot tc_kind tc_split typ (tc_args _ _ _) ?_)
  unfold Builtin.«type.__call__»
  repeat (first | simp only [hme, Bool.false_eq_true, if_false] | with_reducible refine wpAny_call ?_ | lk)
  refine new_bad Y' hrest ?_
  have k : ∀ b o, h.get? b = some o → ((h.push (argsObj rest)).push (excObj C h.objs.size)).get? b = some o := fun b o e => Heap.get?_push_of_some _ (Heap.get?_push_of_some _ e)
  have hx : ((h.push (argsObj rest)).push (excObj C h.objs.size)).get? (h.objs.size + 1) = some (excObj C h.objs.size) := by heap_get
  have t1 : Looks (model prog w) ((h.push (argsObj rest)).push (excObj C h.objs.size)) (typeOf (.ref (h.objs.size + 1))) (.ref C) := (Looks.ld hx).andThen .now
  have s1 := self.keeps k
  have i1 := hi.keeps k
  have b1 := (hb (.ref (h.objs.size + 1))).keeps k
  unfold isInstance callSpecial? specialOf
  repeat (first | with_reducible refine wpAny_call ?_ | lk)
  refine codeAny_mono hq fun r s' z => ?_
  rcases r with e | (v | _ | _ | _) <;> first | exact z | exact z.elim | skip
  obtain ⟨rfl, z⟩ := z
  exact wpAny_pure (wpAny_pure z)
end
end
section
open PySem PySem.W PyProof.Rows PySem.Calls Builtin Builtin.ObjectAttr Builtin.Getset_descriptor
noncomputable abbrev excMro : List Value := [.ref 45, .ref 32, .type "Exception", .type "BaseException", .type "object"]
theorem refuse_bad (self : Value) : refuseLoop self "__setattr__" excMro = pure () := by
  rw [refuseLoop_ref, refuseLoop_ref]
  kernel_rfl
section
variable {prog : Program} {w : World} {A : Around} {K : Frag} {R : Result → Shared → Prop} {s : Shared} {x t : Addr}
theorem osa_bad {cd : ClassData} {name : Str} {tk : Tok} {v : Value} (X : K.In s.heap) (hx : s.heap.get? x = some (excObj 45 t)) (hc : clsIn K 45 = some cd) (hm : cd.mro = excMro) (ht : takerIn K 45 name = some none)
    (h : ∀ b, wpAny (model prog w) A.in1 (storeInOwnDict (.ref x) (.ref 45) (.str name tk) name v b)
      (fun fin s' => match fin with | .done f => R (.ok f) s' | .again c' => c'.quiet = true ∧ codeAny (model prog w) A c' R s') (fun e s' => R (.error e) s') s) :
    codeAny (model prog w) A (.call (.builtin "object.__setattr__") ⟨[.ref x, .str name tk, v], []⟩) R s := by
  have SF := PySem.F.store_object
  have I : InstAt s.heap x (excObj 45 t) 45 none := ⟨hx, rfl, rfl, trivial⟩
  have sub : Looks (model prog w) s.heap (isInstance (.ref x) (.type "object")) true := I.type.andThen (looks_mroIn X (by unfold mroIn; rw [hc, Option.bind_some, hm]; rfl))
  refine codeAny_call_builtin SF.slot.plain SF.entry (@check_slot (model prog w) _ _ s "object.__setattr__" "object" "__setattr__" (.ref x) [.str name tk, v] [] _ SF.kind SF.split sub (SF.args (.ref x) (.str name tk) v) ?_)
  obtain ⟨attr, ha, hr⟩ := Option.bind_eq_some_iff.mp ht
  have hmm : Looks (model prog w) s.heap (mroOf (.ref 45)) cd.mro := (looks_clsIn X hc).andThen .now
  have L3 : Looks (model prog w) s.heap (storeTaker? attr) none := by
    cases attr with
    | none => exact .now
    | some a =>
      obtain ⟨b, hb, hq⟩ := Option.map_eq_some_iff.mp hr
      refine (looks_takesIn X hb).andThen ?_
      cases b with
      | true => simp at hq
      | false => exact .now
  rw [osa_eq, refuse_eq]
  refine wpAny_bind (wpAny_bind (I.type.here (wpAny_bind (hmm.here ?_))))
  rw [hm, refuse_bad]
  refine wpAny_pure (wpAny_bind (I.type.here (wpAny_bind ((looks_findIn X ha).here (wpAny_bind (L3.here ?_))))))
  exact h _
end
noncomputable abbrev excObjD (C t d : Addr) : Obj := { cls := .ref C, dict := some d, data := .fields #[.ref t, .none, .none, .none, .bool false, .none] }
section
variable {prog : Program} {w : World} {A : Around} {K : Frag} {R : Result → Shared → Prop} {s : Shared} {x t : Addr} {h₀ : Heap} {L : Addr} {m : Str → Option Value} {rest : Led}
theorem store_bad {cd : ClassData} {name : Str} {tk : Tok} {v : Value} {b : Bool} {Q : PySem.Fin → Shared → Prop} {E : Value → Shared → Prop} (F : Fr h₀ L s.heap m) (N : News h₀ L s.heap ((x, excObj 45 t) :: rest)) (hr : ∀ p ∈ rest, p.1 ≠ x) (X : K.In s.heap) (hc : clsIn K 45 = some cd) (hd : cd.hasDict = true)
    (q : ∀ d h' tk', x < d → (∀ p ∈ rest, p.1 < d) → Fr h₀ L h' m → News h₀ L h' ((x, excObjD 45 t d) :: (d, dictOf [⟨PyData.keyHash w.params name, .str name s.toks, v⟩] 1) :: rest) → Q (.done (.ret .none)) { s with heap := h', toks := tk' }) :
    wpAny (model prog w) A (storeInOwnDict (.ref x) (.ref 45) (.str name tk) name v b) Q E s := by
  have hx := (N _ (.head _)).1
  unfold storeInOwnDict
  refine wpAny_bind (wpAny_pure (wpAny_bind ?_))
  unfold ownDictForStores instanceDict
  refine wpAny_bind (wpAny_loadPart hx (wpAny_bind ((looks_clsIn X hc).here ?_)))
  rw [hd]
  show wpAny _ _ (alloc { cls := Value.type "dict", data := Data.dict #[] } >>= fun d => update x (fun o => { cls := o.cls, dict := some d, data := o.data, slots := o.slots }) >>= fun _ => pure (some d)) _ _ _
  have hx1 := Heap.get?_push_of_some { cls := Value.type "dict", data := Data.dict #[] } hx
  refine wpAny_bind (wpAny_alloc (wpAny_bind (wpAny_update hx1 (wpAny_pure ?_))))
  dsimp only
  unfold storeInDict
  refine wpAny_bind (wpAny_pure (wpAny_bind ?_))
  have hxd : s.heap.objs.size ≠ x := Nat.ne_of_gt (Heap.lt_size hx)
  have D : ((s.heap.push { cls := Value.type "dict", data := Data.dict #[] }).update x fun o => { cls := o.cls, dict := some s.heap.objs.size, data := o.data, slots := o.slots }).get? s.heap.objs.size = some { cls := Value.type "dict", data := Data.dict #[] } :=
    (Heap.get?_update_other _ _ (Ne.symm hxd)).trans (Heap.get?_push_size _ rfl)
  unfold nsSet
  refine wpAny_bind (wpAny_bind (wpAny_askSetting (wpAny_pure (wpAny_bind (wpAny_mkText (wpAny_bind (wpAny_loadPart D ?_)))))))
  have e : Obj.putName name (PyData.keyHash w.params name) (.str name s.toks) v { cls := Value.type "dict", data := Data.dict #[] } = dictOf [⟨PyData.keyHash w.params name, .str name s.toks, v⟩] 1 := by
    refine (putName_dict name _ _ v [] 0).trans ?_
    simp [putL, putN]
  dsimp only
  rw [if_neg (by rw [aRefKeyMayBeTheName_at]; simp)]
  have D' := Heap.get?_update_self (Obj.putName name (PyData.keyHash w.params name) (.str name s.toks) v) D rfl
  rw [e] at D'
  refine wpAny_updatePart D ?_
  refine wpAny_bind (wpAny_lookBehind D' (pastItsLine_dict (by rw [List.size_toArray, sizeLine_eq]; simp)) ?_)
  have F1 := F.push { cls := Value.type "dict", data := Data.dict #[] }
  have F2 := F1.change (Heap.SameBut.update _ x (fun o => { cls := o.cls, dict := some s.heap.objs.size, data := o.data, slots := o.slots })) (N _ (.head _)).2.1 (N _ (.head _)).2.2
  have F3 := F2.change (Heap.SameBut.update _ s.heap.objs.size (Obj.putName name (PyData.keyHash w.params name) (.str name s.toks) v)) (Nat.ne_of_gt F.ns.lt) (next_is_new F)
  refine wpAny_pure ?_
  refine q s.heap.objs.size _ (s.toks + 1) (Heap.lt_size hx) (fun p hp => Heap.lt_size (N p (.tail _ hp)).1) F3 ?_
  intro p hp
  rcases List.mem_cons.mp hp with rfl | hp
  · exact ⟨(Heap.get?_update_other _ _ hxd).trans (Heap.get?_update_self _ hx1 rfl), (N _ (.head _)).2⟩
  rcases List.mem_cons.mp hp with rfl | hp
  · exact ⟨D', Nat.ne_of_gt F.ns.lt, next_is_new F⟩
  · have z := N p (.tail _ hp)
    refine ⟨(Heap.get?_update_other _ _ (Nat.ne_of_gt (Heap.lt_size z.1))).trans ((Heap.get?_update_other _ _ (Ne.symm (hr p hp))).trans (Heap.get?_push_of_some _ z.1)), z.2⟩
end
end
section
open PySem PySem.W PyProof.Rows PySem.Calls
noncomputable def Mild {α : Type} : Sem α → Prop
  | .pure _ => True
  | .raise _ => True
  | .unsupported _ => True
  | .finish _ => True
  | .rule _ k => Mild (k ())
  | .at _ k => Mild (k ())
  | .load _ _ k => ∀ o, Mild (k o)
  | .update _ _ f k => (∀ o, (f o).dict = o.dict ∧ (f o).isFreed = o.isFreed) ∧ Mild (k ())
  | .alloc _ k => ∀ a, Mild (k a)
  | .loadIfAlive _ k => ∀ o, Mild (k o)
  | .point _ k => Mild (k ())
  | .register _ _ => True
  | .fresh k => ∀ t, Mild (k t)
  | .ask k => ∀ t, Mild (k t)
  | .choose _ _ k => ∀ t, Mild (k t)
  | .os _ _ _ => False
  | .call _ _ _ _ _ => False
  | .handled _ k => ∀ t, Mild (k t)
  | .newGen _ _ => False
  | .genState _ _ => False
  | .resume _ _ _ _ => False
  | .yield _ _ _ _ => True
  | .stack k => ∀ t, Mild (k t)
  | .fork _ _ => True
  | .thread k => ∀ t, Mild (k t)
  | .await _ _ _ _ _ => True
noncomputable def Kept (h h' : Heap) : Prop := ∀ b o, h.get? b = some o → ∃ o', h'.get? b = some o' ∧ o'.dict = o.dict
theorem Kept.refl (h : Heap) : Kept h h := fun _ o e => ⟨o, e, rfl⟩
theorem Kept.trans {h₁ h₂ h₃ : Heap} (x : Kept h₁ h₂) (y : Kept h₂ h₃) : Kept h₁ h₃ := fun b o e => by
  obtain ⟨o', e', d'⟩ := x b o e
  obtain ⟨o'', e'', d''⟩ := y b o' e'
  exact ⟨o'', e'', d''.trans d'⟩
theorem Kept.push (h : Heap) (o : Obj) : Kept h (h.push o) := fun _ o' e => ⟨o', Heap.get?_push_of_some o e, rfl⟩
theorem Kept.update (h : Heap) (a : Addr) {f : Obj → Obj} (hf : ∀ o, (f o).dict = o.dict ∧ (f o).isFreed = o.isFreed) : Kept h (h.update a f) := fun b o e => by
  by_cases q : a = b
  · subst q
    refine ⟨f o, Heap.get?_update_self f e ?_, (hf o).1⟩
    rw [(hf o).2]
    have z := ((Heap.get?_eq_some _ _ _).1 e).2
    obtain ⟨c, d, dt, sl⟩ := o
    cases dt <;> first | rfl | exact Bool.noConfusion z
  · exact ⟨o, (Heap.get?_update_other _ _ q).trans e, rfl⟩
theorem Mild.bind {α β : Type} {m : Sem α} {f : α → Sem β} (x : Mild m) (y : ∀ a, Mild (f a)) : Mild (m >>= f) := by
  show Mild (m.bind f)
  induction m with
  | pure a => exact y a
  | raise | unsupported | finish | register | yield | fork | await => trivial
  | rule _ k ih | «at» _ k ih | point _ k ih => exact ih _ x
  | load _ _ k ih | alloc _ k ih | loadIfAlive _ k ih | fresh k ih | ask k ih | choose _ _ k ih | handled _ k ih | stack k ih | thread k ih => exact fun o => ih o (x o)
  | update _ _ f k ih => exact ⟨x.1, ih _ x.2⟩
  | os | call | newGen | genState | resume => exact x.elim
theorem Mild.keeps {α : Type} {M : Model} {Γ : Ctx} {t : Sem α} (x : Mild t) : ∀ {Q : α → Pos → Shared → Prop} {E : Value → Pos → Shared → Prop} {p : Pos} {s : Shared}, Sem.wp M Γ t Q E p s →
    Sem.wp M Γ t (fun a p' s' => Q a p' s' ∧ Kept s.heap s'.heap) (fun e p' s' => E e p' s' ∧ Kept s.heap s'.heap) p s := by
  induction t with
  | pure a => intro Q E p s h; exact ⟨h, Kept.refl _⟩
  | raise e => intro Q E p s h; exact ⟨h, Kept.refl _⟩
  | unsupported | finish | register | yield | fork | await => intro Q E p s h; exact h.elim
  | rule _ k ih | «at» _ k ih | point _ k ih => intro Q E p s h; exact ih _ x h
  | loadIfAlive _ k ih | fresh k ih | ask k ih | handled _ k ih | stack k ih | thread k ih => intro Q E p s h; exact ih _ (x _) h
  | choose _ _ k ih => intro Q E p s h; exact ⟨h.1, ih _ (x _) h.2⟩
  | load _ _ k ih => intro Q E p s h; obtain ⟨o, ho, h⟩ := h; exact ⟨o, ho, ih _ (x _) h⟩
  | alloc o k ih =>
    intro Q E p s h
    exact Sem.wp_mono M Γ _ (fun _ _ _ z => ⟨z.1, (Kept.push _ _).trans z.2⟩) (fun _ _ _ z => ⟨z.1, (Kept.push _ _).trans z.2⟩) p _ (ih _ (x _) h)
  | update a _ f k ih =>
    intro Q E p s h
    exact ⟨h.1, Sem.wp_mono M Γ _ (fun _ _ _ z => ⟨z.1, (Kept.update _ _ x.1).trans z.2⟩) (fun _ _ _ z => ⟨z.1, (Kept.update _ _ x.1).trans z.2⟩) p _ (ih _ x.2 h.2)⟩
  | os | call | newGen | genState | resume => exact x.elim
theorem Mild.any {α : Type} {M : Model} {A : Around} {t : Sem α} {Q : α → Shared → Prop} {E : Value → Shared → Prop} {s : Shared} (x : Mild t) (h : wpAny M A t Q E s) :
    wpAny M A t (fun a s' => Q a s' ∧ Kept s.heap s'.heap) (fun e s' => E e s' ∧ Kept s.heap s'.heap) s := fun Γ p hΓ => x.keeps (h Γ p hΓ)
theorem Mild.told {α : Type} {M : Model} {A : Around} {t : Sem α} {Q : α → Shared → Prop} {E : Value → Shared → Prop} {s : Shared} (x : Mild t)
    (h : wpAny M A t (fun a s' => Kept s.heap s'.heap → Q a s') E s) : wpAny M A t Q E s :=
  wpAny_mono (x.any h) (fun _ _ z => z.1 z.2) fun _ _ z => z.1
theorem mild_pure {α : Type} (a : α) : Mild (pure a : Sem α) := trivial
theorem mild_fieldsOf (v : Value) : Mild (fieldsOf v) := by
  unfold fieldsOf
  split
  · refine Mild.bind (fun o => trivial) fun o => ?_
    split <;> trivial
  · trivial
theorem mild_field (v : Value) (i : Nat) : Mild (field v i) := by
  unfold field
  refine (mild_fieldsOf v).bind fun vs => ?_
  split <;> trivial
theorem mild_mapFields (f : Array Value → Array Value) (o : Obj) : (o.mapFields f).dict = o.dict ∧ (o.mapFields f).isFreed = o.isFreed := by
  obtain ⟨c, d, dt, sl⟩ := o
  cases dt <;> exact ⟨rfl, rfl⟩
theorem mild_setField (v : Value) (i : Nat) (x : Value) : Mild (setField v i x) := by
  unfold setField
  split
  · unfold updateField
    refine Mild.bind (fun o => trivial) fun o => ?_
    split
    · split
      · exact ⟨mild_mapFields _, trivial⟩
      · trivial
    · trivial
  · trivial
theorem mild_setFlight (e : Value) (f : Option Addr) : Mild (setFlight e f) := by
  unfold setFlight
  refine (mild_field e 1).bind fun tb => ?_
  split
  · exact mild_setField _ _ _
  · trivial
theorem mild_stack : Mild stack := fun _ => trivial
theorem mild_entryPlaceOf (f : Addr) (b : Bool) : Mild (entryPlaceOf f b) := by
  unfold entryPlaceOf
  refine mild_stack.bind fun acts => ?_
  split <;> trivial
theorem mild_frameEnvs : Mild frameEnvs := mild_stack.bind fun _ => trivial
theorem mild_behindIsImport (env : Env) (outer : List Env) : Mild (behindIsImport env outer) := by
  unfold behindIsImport
  split
  · trivial
  · split
    · trivial
    · exact (mild_field _ _).bind fun _ => trivial
theorem mild_keptBack (env : Env) (b : Bool) (outer : List Env) : Mild (keptBack env b outer) := by
  cases outer with
  | nil =>
    show Mild (if (env.scope.isGenerator || env.scope.isCoroutine) = true then (pure Value.none : Sem Value) else _)
    split
    · trivial
    · exact Mild.bind (Mild.bind mild_stack fun _ => mild_pure _) fun _ => mild_pure _
  | cons c r => unfold keptBack; trivial
theorem mild_readyFrames : ∀ l : List Env, Mild (readyFrames l)
  | [] => trivial
  | env :: outer => by
    unfold readyFrames
    split
    · refine Mild.bind (fun o => trivial) fun o => ?_
      split
      · trivial
      · refine (mild_behindIsImport _ _).bind fun b => (mild_keptBack _ _ _).bind fun v => Mild.bind ⟨fun o => by obtain ⟨c, d, dt, sl⟩ := o; cases dt <;> exact ⟨rfl, rfl⟩, trivial⟩ fun _ => mild_readyFrames outer
    · trivial
theorem mild_frameOf (env : Env) : Mild (PySem.frameOf env) := by
  unfold PySem.frameOf
  refine mild_frameEnvs.bind fun l => Mild.bind ?_ fun r => ?_
  · cases h : l.dropWhile (·.frame != env.frame) with
    | nil => trivial
    | cons a b => exact (mild_readyFrames _).bind fun _ => trivial
  · split <;> trivial
theorem mild_newEntry (a b c d e : Value) (l : List Value) : Mild (EntryCells.newEntry a b c d e l) := by
  unfold EntryCells.newEntry newFields newObj
  generalize (_ : List Value).toArray = vs
  dsimp only
  split
  · trivial
  · exact fun _ => mild_pure _
theorem mild_noteFrame (e : Value) (env : Env) : Mild (noteFrame e env) := by
  unfold noteFrame
  split
  · rename_i f _
    have tail : ∀ head : Value, Mild (do setField e 1 (← EntryCells.newEntry head (← PySem.frameOf env) .none (rawInt f) .none (← entryPlaceOf f (head != .none)))) := fun head =>
      (mild_frameOf env).bind fun _ => (mild_entryPlaceOf _ _).bind fun _ => (mild_newEntry _ _ _ _ _ _).bind fun _ => mild_setField _ _ _
    refine (mild_field e 1).bind fun head => ?_
    split
    · refine (mild_field head 3).bind fun x => ?_
      split
      · trivial
      · exact (mild_setField _ _ _).bind fun _ => tail head
    · exact tail head
  · trivial
theorem mild_leaving (e : Value) (env : Env) : Mild (leaving env e) := by
  unfold leaving
  exact (mild_noteFrame e env).bind fun _ => mild_setFlight _ _
end
section
open PySem PySem.W PyProof.Rows PySem.Calls
theorem none_of {g h : Heap} (k : ∀ b o, g.get? b = some o → h.get? b = some o) {b : Addr} (e : h.get? b = none) : g.get? b = none := by
  cases q : g.get? b with
  | none => rfl
  | some o => have := k b o q; rw [e] at this; cases this
noncomputable def RaisedB (l : List Env) (g : Heap) (e : Addr) (C t d : Addr) (news : Led) (h : Heap) : Prop :=
  ∃ B, (hideAll g (l.filterMap (·.frame))).StaysIn B ∧ (∀ q ∈ news, B.get? q.1 = some q.2 ∧ g.get? q.1 = none) ∧ Heap.FlyingW B l e (.ref C) (.ref t) h ∧ (∃ o, h.get? e = some o ∧ o.dict = some d)
section
variable {M : Model} {A : Around} {E : Value → Shared → Prop} {s' : Shared} {base g : Heap} {outer : List Env} {L a e t d C : Addr} {m : Str → Option Value} {name : Str} {scope : Scope} {cd : Value} {Q : Unit → Shared → Prop} {news : Led}
theorem leave_own (K : Below A base outer g) (F : Fr g L s'.heap m) (N : News g L s'.heap ((e, excObjD C t d) :: news)) (hne : ∀ p ∈ news, p.1 ≠ e)
    (hQ : ∀ h', RaisedB outer g e C t d news h' → g.UpToSlots h' → Q () { s' with heap := h' }) (hk : scope.kind = .function := by rfl) :
    wpAny M (A.deeper (envOf name scope L a cd)) (leaving (envOf name scope L a cd) (.ref e)) Q E s' := by
  have K' := K.push (name := name) (a := a) (cd := cd) F hk
  have E0 := N _ (.head _)
  have fb : ∀ b, g.get? b = none → base.get? b = none := fun b hb => none_of K.stays hb
  have hin : ∀ env ∈ (envOf name scope L a cd :: outer), ∀ b, env.frame = some b → b ∈ e :: (envOf name scope L a cd :: outer).filterMap (·.frame) := fun env he b hb => .tail _ (List.mem_filterMap.mpr ⟨env, he, hb⟩)
  have fr_in : ∀ b ∈ outer.filterMap (·.frame), ∃ o, g.get? b = some o := fun b hb => by
    obtain ⟨_, o, ho, _⟩ := K.frames.mem hb
    exact ⟨o, ho⟩
  have st : (hideAll g (outer.filterMap (·.frame))).StaysIn (hideAll s'.heap (e :: (envOf name scope L a cd :: outer).filterMap (·.frame))) := fun b o q => by
    have q1 := of_hideAll _ q
    refine hideAll_get _ (F.keep b o q1) fun hm => ?_
    rcases List.mem_cons.mp hm with rfl | hm
    · rw [E0.2.2] at q1; cases q1
    · rw [show (envOf name scope L a cd :: outer).filterMap (·.frame) = L :: outer.filterMap (·.frame) from rfl] at hm
      rcases List.mem_cons.mp hm with rfl | hm
      · exact absurd (Heap.lt_size q1) (Nat.not_lt.mpr F.above)
      · rw [hideAll_none _ hm] at q; cases q
  have hl : ∀ q ∈ news, (hideAll s'.heap (e :: (envOf name scope L a cd :: outer).filterMap (·.frame))).get? q.1 = some q.2 ∧ g.get? q.1 = none := fun q hq => by
    have Nq := N q (.tail _ hq)
    refine ⟨hideAll_get _ Nq.1 fun hm => ?_, Nq.2.2⟩
    rcases List.mem_cons.mp hm with h | hm
    · exact hne q hq h
    · rw [show (envOf name scope L a cd :: outer).filterMap (·.frame) = L :: outer.filterMap (·.frame) from rfl] at hm
      rcases List.mem_cons.mp hm with h | hm
      · exact Nq.2.1 h
      · obtain ⟨o, ho⟩ := fr_in _ hm
        rw [Nq.2.2] at ho; cases ho
  refine (mild_leaving _ _).told ?_
  refine wpAny_leaving_firstW (a0 := .ref t) K'.stack (funFrames_hide K'.frames hin) rfl E0.1 (fun b o q => of_hideAll _ q) (hideAll_none _ (.head _)) rfl rfl rfl fun h' hL hk' => ?_
  obtain ⟨k1, ⟨_, _, k2⟩, k3, k4⟩ := hL
  obtain ⟨o', ho', hd'⟩ := hk' _ _ E0.1
  exact hQ h' ⟨_, st, hl, ⟨k1, hideAll_none _ (.head _), k2, k3⟩, o', ho', hd'⟩ ((Heap.UpToSlots.of_keeps F.keep).trans k4)
end
inductive ExcAt (g : Option Obj) (C : Addr) (bm : List Value) (newId : String) : Prop
  | mk (nm qn : _) (N : Addr) (bs : List Value) (hd : _) (sn : _) (sub : _) (ab : _) (col : _) (dd : _) (k0 k1 k2 k3 k5 : Option Value) (h : g = some (excClassObj nm qn C N bs bm hd sn sub ab col dd k0 k1 k2 k3 k5 newId)) : ExcAt g C bm newId
noncomputable abbrev excIn2 (K : Frag) (C : Addr) (bm : List Value) (newId : String) : Prop := ExcAt (K.lookup C) C bm newId
theorem excCls_of {K : Frag} {h : Heap} {C : Addr} {bm : List Value} {newId : String} (X : K.In h) : excIn2 K C bm newId → ExcAt (h.get? C) C bm newId
  | .mk _ _ _ _ _ _ _ _ _ _ _ _ _ _ _ q => .mk _ _ _ _ _ _ _ _ _ _ _ _ _ _ _ (X _ _ q)
section
variable {prog : Program} {w : World} {A₀ : Around} {E : Value → Shared → Prop} {s' : Shared} {base gs g : Heap} {outer : List Env} {L a e t d : Addr} {m : Str → Option Value} {name : Str} {scope : Scope} {cd : Value}
  {n : Str} {b₀ : Stmt} {suite : List Stmt} {pos np : Pos} {rest : List ExceptHandler} {Q : Flow → Shared → Prop} {news : Led} {KF : Frag} {C : Addr} {bm : List Value} {newId : String}
  {p : Program} {loose : List Str} {mean : ExcName → Option Value} {mg mb : Str → Option Value} {x : Str} {L' : Addr} {o' : Obj}
theorem caught_bad (K : Below A₀ base outer gs) (hout : L' ∈ outer.filterMap (·.frame)) (ho' : gs.get? L' = some o') (hd' : ∀ vs, o'.data ≠ .fields vs) (F : Fr gs L g m) (R : RaisedB (envOf name scope L a cd :: outer) g e C t d news s'.heap) (U : g.UpToSlots s'.heap)
    (XB : KF.In base) (T : TopRead p loose mg mb base) (ex : nsIn KF mainGlobals x = some (some (.ref C))) (q : excIn2 KF C bm newId) (hbase : bm.contains (.type "BaseException") = true)
    (k : ∀ h' oe sl tk, Fr (hideAll gs (outer.filterMap (·.frame))) L h' (fun y => if y = n then some (.ref e) else m y) → News (hideAll gs (outer.filterMap (·.frame))) L h' ((e, oe) :: (L', { o' with slots := sl }) :: news) → oe.cls = .ref C → oe.dict = some d → (∃ vs, oe.data = .fields vs) →
      wpAny (model prog w) ((A₀.deeper (envOf name scope L a cd)).mark (some (.ref e))) (execs (b₀ :: suite) (envOf name scope L a cd))
        (fun f s₄ => wpAny (model prog w) (A₀.deeper (envOf name scope L a cd)) (do bindName (envOf name scope L a cd) n .none; unbindBehindTheSuite (envOf name scope L a cd) n pos) (fun _ s₅ => Q f s₅) E s₄)
        (AsSuiteRaised (model prog w) ((A₀.deeper (envOf name scope L a cd)).mark (some (.ref e))) (envOf name scope L a cd) n pos (notedBy (model prog w) ((A₀.deeper (envOf name scope L a cd)).mark (some (.ref e))) (envOf name scope L a cd) (cameBackBy (model prog w) (A₀.deeper (envOf name scope L a cd)) (envOf name scope L a cd) E)))
        { s' with heap := h', toks := tk })
    (hk : scope.kind = .function := by rfl) (hlo : (envOf name scope L a cd).kindOf n = some .local := by rfl) (hx : (envOf name scope L a cd).kindOf x = some .globalImplicit := by rfl) (hd : (x == ("__debug__" : Str)) = false := by decide) :
    wpAny (model prog w) (A₀.deeper (envOf name scope L a cd)) (noteFrame (.ref e) (envOf name scope L a cd))
      (fun _ s₂ => wpAny (model prog w) (A₀.deeper (envOf name scope L a cd)) (setFlight (.ref e) none) (fun _ s₃ =>
        wpAny (model prog w) (A₀.deeper (envOf name scope L a cd)) (handleBy (.ref e) (envOf name scope L a cd) (.ExceptHandler (some (.Name x np)) (some n) (b₀ :: suite) pos :: rest)) Q E s₃) E s₂) E s' := by
  obtain ⟨B, hB, hl, hfl, od, hod, hodd⟩ := R
  have sub : ∀ b o, (hideAll gs (outer.filterMap (·.frame))).get? b = some o → B.get? b = some o := fun b o z => by
    have z1 := of_hideAll _ z
    refine hB b o (hideAll_get _ (F.keep b o z1) fun hm => ?_)
    rw [show (envOf name scope L a cd :: outer).filterMap (·.frame) = L :: outer.filterMap (·.frame) from rfl] at hm
    rcases List.mem_cons.mp hm with rfl | hm
    · exact absurd (Heap.lt_size z1) (Nat.not_lt.mpr F.above)
    · rw [hideAll_none _ hm] at z; cases z
  have bsub : ∀ b o, base.get? b = some o → (hideAll gs (outer.filterMap (·.frame))).get? b = some o := fun b o z => hideAll_get _ (K.stays b o z) fun hm => by
    rw [(K.frames.mem hm).1] at z; cases z
  have up : ∀ {h₁ : Heap}, B.StaysIn h₁ → s'.heap.UpToSlots h₁ → Fr (hideAll gs (outer.filterMap (·.frame))) L h₁ m := fun {h₁} z1 z2 =>
    ⟨(U.trans z2).ns F.ns, fun b o z => z1 b o (sub b o z), by rw [hideAll_size]; exact F.above⟩
  refine (mild_noteFrame _ _).told ?_
  refine wpAny_looks_onW (Around.frames_deeper K.stack) rfl hfl fun h₄ hheld₄ hsm₄ kp₄ => ?_
  refine (mild_setFlight _ _).told ?_
  refine wpAny_landsW hheld₄ fun h₅ hheld hsm₅' kp₅ => ?_
  have hsm₅ := hsm₄.trans hsm₅'
  have F₅ := up hheld.1 hsm₅
  have X₅ : KF.In (hideAll gs (outer.filterMap (·.frame))) := fun b o z => bsub b o (XB b o z)
  obtain ⟨ob, hob, hobc⟩ := hheld.there
  refine wpAny_handleBy_cons (codeAny_handlers_test (name_K F₅ X₅ (T.keeps bsub) ex ?_ hk hx hd)) (by intro q; cases q)
  obtain ⟨nm, qn, N, bs, hdct, sn, sub', ab, col, dd, k0, k1, k2, k3, k5, hC⟩ := excCls_of (X₅.keeps F₅.keep) q
  refine wpAny_excMatches_sub_self hC hob hobc hbase (codeAny_handlers_suite_as ?_)
  refine (mild_setFlight _ _).told ?_
  refine lands_againW hheld fun h₆ hfl₆ hsm₆ kp₆ => ?_
  have F₆ := up hfl₆.1 (hsm₅.trans hsm₆)
  obtain ⟨oe, ws, hoe, hoec, hoed, hoe0⟩ := hfl₆.first
  obtain ⟨oe', hoe', hdd'⟩ := (kp₄.trans (kp₅.trans kp₆)) _ _ hod
  have hoe'' : h₆.get? e = some oe' := hoe'
  rw [hoe] at hoe''
  obtain rfl := Option.some.inj hoe''
  have Nl : News (hideAll gs (outer.filterMap (·.frame))) L h₆ news := fun q hq => ⟨hfl₆.1 _ _ (hl q hq).1, (fun z => by
      obtain ⟨o, es, ep, ho, _⟩ := F.ns
      have := (hl q hq).2; rw [z, ho] at this; cases this), none_of (fun b o z => F.keep b o (of_hideAll _ z)) (hl q hq).2⟩
  have N₆ := News.more F₆ Nl hoe (fun es n q => by rw [hoed] at q; cases q) (none_of sub hfl₆.2.1)
  obtain ⟨sl, hsl⟩ := (U.trans (hsm₅.trans hsm₆)) L' o' (F.keep _ _ ho') hd'
  have N₆' : News (hideAll gs (outer.filterMap (·.frame))) L h₆ ((e, oe) :: (L', { o' with slots := sl }) :: news) := fun q hq => by
    rcases List.mem_cons.mp hq with rfl | hq
    · exact N₆ _ (.head _)
    rcases List.mem_cons.mp hq with rfl | hq
    · exact ⟨hsl, Nat.ne_of_lt (Nat.lt_of_lt_of_le (Heap.lt_size ho') F.above), hideAll_none _ hout⟩
    · exact N₆ _ (.tail _ hq)
  exact stN F₆ N₆' (fun h₇ F₇ N₇ => k h₇ oe sl _ F₇ N₇ hoec (hdd'.trans hodd) ⟨ws, hoed⟩) hk hlo
end
end
section
open PySem PySem.W PyProof.Rows PySem.Calls Builtin Builtin.ObjectAttr Builtin.Getset_descriptor
noncomputable def badIn (K : Frag) (C : Addr) : Bool := match K.lookup C with
  | some ⟨_, _, .cls cd, sl⟩ => !cd.hasDel && cd.hasDict && (sl.toList[4]?).join == some (.builtin "Exception.__new__") && cd.mro == [.ref C, .ref 32, .type "Exception", .type "BaseException", .type "object"] &&
      specialIn K (.ref C) "__call__" == some (some (.builtin "type.__call__")) && instIn K (.ref C) (.type "type") == some true
  | _ => false
theorem bad_cls {K : Frag} {C : Addr} (e : badIn K C = true) : ∃ cd, clsIn K C = some cd ∧ cd.mro = [.ref C, .ref 32, .type "Exception", .type "BaseException", .type "object"] ∧ cd.hasDict = true := by
  unfold badIn at e
  split at e
  · rename_i oc od cd sl ho
    simp only [Bool.and_eq_true, Bool.not_eq_true', beq_iff_eq] at e
    exact ⟨cd, by unfold clsIn; rw [ho], e.1.1.2, e.1.1.1.1.2⟩
  · cases e
theorem bad_of {K : Frag} {M : Model} {h : Heap} (X : K.In h) {C fI : Addr} (e : badIn K C = true) (hi : findIn K (.ref C) "__init__" = some (some (.ref fI))) (hf : isFn K (.ref fI) = true) : OwnExc2 M h C fI := by
  have e0 := e
  unfold badIn at e
  split at e
  · rename_i oc od cd sl ho
    simp only [Bool.and_eq_true, Bool.not_eq_true', beq_iff_eq] at e
    obtain ⟨⟨⟨⟨⟨e1, e2⟩, e3⟩, e4⟩, e5⟩, e6⟩ := e
    have hc : clsIn K C = some cd := by unfold clsIn; rw [ho]
    have hm : Looks M h (mroOf (.ref C)) cd.mro := (looks_clsIn X hc).andThen .now
    have made : Looks M h (Bind.madeBy (.ref C)) (some "Exception.__new__") := by
      intro A Q E s k q
      unfold Bind.madeBy
      refine wpAny_bind (hm A _ E s k ?_)
      rw [e4, List.forIn_cons]
      refine wpAny_bind (wpAny_bind (wpAny_bind (wpAny_bind (wpAny_loadPart (k _ _ (X _ _ ho)) (wpAny_pure ?_)))))
      dsimp only
      rw [← Array.getElem?_toList, e3]
      exact wpAny_pure (wpAny_pure (wpAny_pure q))
    have sub : ∀ b r, ([Value.ref C, .ref 32, .type "Exception", .type "BaseException", .type "object"].contains b) = r → Looks M h (isSubtype (.ref C) b) r := fun b r z => by
      refine looks_mroIn X ?_
      unfold mroIn
      rw [hc, Option.bind_some, e4, if_neg (by simp), z]
    refine { obj := ⟨oc, od, cd, sl, X _ _ ho, e1⟩, made := made, base := ?_, self := sub _ _ (by simp), exc := sub _ _ (by simp), att := sub _ _ (by simp), nam := sub _ _ (by simp), isT := ?_, call := looks_specialIn X e5, typ := looks_instIn X e6, mro := ⟨_, hm, by rw [e4]; rfl⟩, ini := looks_findIn X hi, bnd := fun self => bind_fn X self (beq_iff_eq.mp hf) }
    · intro A Q E s k q
      unfold Bind.staticBase
      refine wpAny_bind (hm A _ E s k ?_)
      rw [e4, List.forIn_cons]
      exact wpAny_bind (wpAny_bind (wpAny_bind (made A _ E s k (wpAny_pure (wpAny_pure (wpAny_pure q))))))
    · exact (Looks.ld (X _ _ ho)).andThen .now
  · cases e
section
variable {prog : Program} {w : World} {A A₀ : Around} {E : Value → Shared → Prop} {s : Shared} {K : Frag} {C L x t : Addr} {h₀ base : Heap} {m mg mb : Str → Option Value} {news rest : Led} {p : Program} {loose : List Str} {mean : ExcName → Option Value}
theorem call_bad {Q : Value → Shared → Prop} {pos : List Value} {fI : Addr} (F : Fr h₀ L s.heap m) (X₀ : K.In h₀) (N : News h₀ L s.heap news) (hm : badIn K C = true) (hi : findIn K (.ref C) "__init__" = some (some (.ref fI))) (hf : isFn K (.ref fI) = true) (hr : pos.length ≤ 100)
    (h : ∀ x t h', Fr h₀ L h' m → News h₀ L h' ((x, excObj C t) :: (t, argsObj pos) :: news) → (∀ p ∈ news, p.1 < t) → t < x →
      codeAny (model prog w) (A.under (.builtin "type.__call__" ⟨.ref C :: pos, []⟩)) (.call (.ref fI) ⟨.ref x :: pos, []⟩) (InitBack x fun r s' => match r with | .ok (.ret v) => Q v s' | .ok _ => False | .error e => E e s') { s with heap := h' }) :
    wpAny (model prog w) A (call (.ref C) pos) Q E s := by
  obtain ⟨hh, g, d, tk, os⟩ := s
  refine wpAny_call (make_bad (bad_of (X₀.keeps F.keep) hm hi hf) hr (h _ hh.objs.size _ ((F.push _).push _) ?_ (fun p hp => Heap.lt_size (N p hp).1) (Nat.lt_succ_self _)))
  have := (N.push F (argsObj pos)).push (F.push _) (excObj C hh.objs.size)
  rwa [Heap.size_push] at this
theorem set_told {Q : Unit → Shared → Prop} {name : Str} {v : Value} (F : Fr h₀ L s.heap m) (X₀ : K.In h₀) (N : News h₀ L s.heap ((x, excObj 45 t) :: rest)) (hm : badIn K 45 = true) (ht : takerIn K 45 name = some none)
    (hs : findIn K (.ref 45) "__setattr__" = some (some (.builtin "object.__setattr__"))) (hr : ∀ p ∈ rest, p.1 ≠ x)
    (q : ∀ d h' tk' tk, x < d → (∀ p ∈ rest, p.1 < d) → Fr h₀ L h' m → News h₀ L h' ((x, excObjD 45 t d) :: (d, dictOf [⟨PyData.keyHash w.params name, .str name tk, v⟩] 1) :: rest) → Q () { s with heap := h', toks := tk' }) :
    wpAny (model prog w) A (setAttr (.ref x) name v) Q E s := by
  have X := X₀.keeps F.keep
  have hx := (N _ (.head _)).1
  obtain ⟨cd, hc, hmr, hd⟩ := bad_cls hm
  have I : InstAt s.heap x (excObj 45 t) 45 none := ⟨hx, rfl, rfl, trivial⟩
  refine set_plain X I hs ?_
  refine osa_bad (s := { s with toks := s.toks + 1 }) X hx hc hmr ht fun b => ?_
  exact store_bad (s := { s with toks := s.toks + 1 }) F N hr X hc hd fun d h' tk' h1 h2 F' N' => q d h' tk' _ h1 h2 F' N'
structure RaiseOk (K : Frag) (C : Addr) (E : Value → Shared → Prop) (v : Value) (s₁ : Shared) : Prop where
  is : ∃ e t d, v = .ref e ∧ K.In s₁.heap ∧ s₁.heap.get? e = some (excObjD C t d) ∧ E (.ref e) s₁
theorem raise_at {env : Env} {c : Expr} {pos : Pos} {bm : List Value} {newId : String} {Q : Flow → Shared → Prop} (hh : A.handled = none) (hbase : bm.contains (.type "BaseException") = true) (q : excIn2 K C bm newId)
    (h : wpAny (model prog w) A (eval c env) (RaiseOk K C E) E s) :
    wpAny (model prog w) A (exec (.Raise (some c) none pos) env) Q E s := by
  rw [arm_exec_Raise]
  refine wpAny_bind (wpAny_standAt ?_)
  unfold raiseStmt
  refine wpAny_bind ?_
  show wpAny _ _ (eval c env >>= _) _ _ _
  refine wpAny_bind (wpAny_mono h (fun v s₁ h₁ => wpAny_bind (wpAny_standAt (wpAny_pure ?_))) fun _ _ x => x)
  obtain ⟨e, t, d, rfl, X, he, hE⟩ := h₁.is
  obtain ⟨nm, qn, N, bs, hdct, sn, sub', ab, col, dd, k0, k1, k2, k3, k5, hC⟩ := excCls_of X q
  have hcB : (Value.ref C :: bm).contains (.type "BaseException") = true := by rw [List.contains_cons, hbase, Bool.or_true]
  obtain ⟨hp, g, dr, tk, os⟩ := s₁
  repeat (first | with_reducible refine wpAny_loadPart_at he ?_ | with_reducible refine wpAny_loadPart_at hC ?_ | (with_reducible refine wpAny_isSubtype_exc hC ?_; rw [hcB]) | wp_step)
  exact wpAny_raiseNew_none hh hE
theorem code_defS {env : Env} {outer : List Env} {R : Result → Shared → Prop} {name qual : Str} {params : Arguments} {body : List Stmt} {scope : Scope} {dV kV doc pm cdv ct oc : Value} {an od : Option Addr} {osl : Array (Option Value)} {f : Addr} {args : Args} {binds : List (Str × Value)}
    (B : Below A₀ base outer h₀) (F : Fr h₀ L s.heap m) (X₀ : K.In h₀) (N : News h₀ L s.heap news) (T : Top p loose mean mg mb h₀) (hA : A.frames = some (env :: outer)) (hf : env.frame = some L) (hke : env.scope.kind = .function)
    (ho : K.lookup f = some ⟨oc, od, .func (fnOf name qual params body scope dV kV doc pm an cdv ct), osl⟩) (hcd : codeIn K cdv qual = true) (hroom : A.depth < recursionLimit)
    (hbind : BindsTo s (fnOf name qual params body scope dV kV doc pm an cdv ct) args binds) (hloc : ∀ y ∈ binds, scope.names.lookup y.1 = some .local)
    (h : ∀ g L' h₁, Fr h₀ L g m → Fr g L' h₁ (fun y => binds.reverse.lookup y) → News g L' h₁ news → Below A base (env :: outer) g → K.In g → Top p loose mean mg mb g → (∀ v s', LeaveK h₀ L m g R v s' → R (.ok (.ret v)) s') →
      wpAny (model prog w) (A.deeper (envOf qual scope L' f cdv)) (execs body (envOf qual scope L' f cdv))
        (fun fl s' => R (.ok (.ret (match fl with | .ret v => v | _ => .none))) s')
        (fun e s' => wpAny (model prog w) (A.deeper (envOf qual scope L' f cdv)) (leaving (envOf qual scope L' f cdv) e) (fun _ s'' => R (.error e) s'') (fun e' s'' => R (.error e') s'') s')
        { s with heap := h₁, toks := s.toks + binds.length })
    (hco : scope.isCoroutine = false) (hgen : scope.isGenerator = false) (hk : scope.kind = .function)
    (hcell : ∀ x ∈ scope.names, x.2 ≠ .cell) : codeAny (model prog w) A (.call (.ref f) args) R s := by
  obtain ⟨FG, BG, st, lv⟩ := groundX (R := R) B F N hA hf hke
  refine codeAny_call_def hroom ((X₀.keeps F.keep) _ _ ho) rfl (T.nolimit.keeps F.keep) (codeRec_of (X₀.keeps F.keep) hcd) rfl hbind hcell hloc (fun h₁ hns hk₁ => ?_) hco hgen hk
  exact h _ s.heap.objs.size h₁ FG ⟨hns, fun b o e => hk₁ b o (of_hideAll _ e), Nat.le_of_eq (hideAll_size _ _)⟩
    (fun p hp => ⟨hk₁ _ _ (N p hp).1, Nat.ne_of_lt (Heap.lt_size (N p hp).1), hideAll_none _ (List.mem_map_of_mem hp)⟩) BG (X₀.keeps st) (T.keeps st) lv
end
end
section
open PySem PySem.W PyProof.Rows PySem.Calls Builtin Builtin.ObjectAttr
theorem slot_bexc_ga : Slot "BaseException" "__getattribute__" "BaseException.__getattribute__" :=
  .of (owner := "BaseException") (n := "__getattribute__") (by rw [typeLookup_type, builtinLookup_eq_fast]; kernel_rfl) (by decide +kernel) (by decide +kernel) (by decide +kernel)
    (by first | exact .inl (by decide +kernel) | exact .inr (by decide +kernel)) (by rw [isSubtype_type]; kernel_rfl)
section
variable {prog : Program} {w : World} {A : Around} {E : Value → Shared → Prop} {s : Shared} {K : Frag} {x C : Addr} {ox : Obj} {od : Option Obj} {name : Str} {expr : Bool} {Q : Value → Shared → Prop}
theorem get_exc {v : Value} (X : K.In s.heap) (I : InstAt s.heap x ox C od) (hga : findIn K (.ref C) "__getattribute__" = some (some (.builtin "BaseException.__getattribute__"))) (hgk : findIn K (.ref C) "__getattr__" = some none)
    (hb : mroIn K C (.type "BaseException") = some true) (hf : findObj K C od name = some (.value v)) (hh : handedIn v = true) (h : Q v { s with toks := s.toks + 1 }) : wpAny (model prog w) A (getAttr (.ref x) name expr) Q E s := by
  obtain ⟨hh', g, d, t, os⟩ := s
  have L0 := I.type (M := model prog w)
  have L1 := looks_findIn (M := model prog w) X hga
  have L2 := looks_findIn (M := model prog w) X hgk
  have L3 := looks_find (M := model prog w) X I hf
  have sub : Looks (model prog w) hh' (isInstance (.ref x) (.type "BaseException")) true := L0.andThen (looks_mroIn X hb)
  unfold getAttr getAttrBy
  refine wpAny_bind (wpAny_mkText (wpAny_holding (wpAny_bind (L0.at (wpAny_bind (L1.at ?_))))))
  dsimp only
  rw [show (onTheHeap (.ref C) && Value.builtin "BaseException.__getattribute__" == Value.builtin "object.__getattribute__") = false from by rw [show (Value.builtin "BaseException.__getattribute__" == Value.builtin "object.__getattribute__") = false from by decide +kernel, Bool.and_false], if_neg (by decide)]
  unfold getAttrByItsOwn hookBefore
  refine wpAny_bind ?_
  show wpAny _ _ (typeLookup (.ref C) "__getattr__") _ _ _
  refine L2.at (wpAny_bind (wpAny_attempt (wpAny_holding ?_)))
  unfold callGetattribute
  rw [show (expr && onTheHeap (Value.builtin "BaseException.__getattribute__")) = false from Bool.and_false _, if_neg (by decide)]
  unfold boundAndCalled
  rw [slot_bexc_ga.bind]
  refine wpAny_bind (wpAny_pure ?_)
  show wpAny _ _ (call (.builtin "BaseException.__getattribute__") [.ref x, .str name t]) _ _ _
  refine wpAny_call ?_
  refine codeAny_call_builtin slot_bexc_ga.plain PySem.F.entry_bexc_ga ?_
  refine @check_slot (model prog w) _ _ _ "BaseException.__getattribute__" "BaseException" "__getattribute__" (.ref x) [.str name t] [] _ (by decide +kernel) (by decide +kernel) sub (PySem.F.args_bexc_ga (.ref x) (.str name t)) ?_
  refine wpAny_bind (wpAny_pure (wpAny_bind (wpAny_pure (wpAny_bind (L0.at (wpAny_bind (L3.at ?_)))))))
  refine wpAny_pure ?_
  show wpAny _ _ (handedOut v) _ _ _
  rw [handedOut_of hh]; exact wpAny_pure h
end
end
section
open PySem PySem.W PyProof.Rows
theorem recs_ok : ∀ {n : Nat} {ds : List D}, (∀ d ∈ ds, RecOk d) → ds.length = n → RecsOk ds
  | 0, ds, _, hl => by rw [List.length_eq_zero_iff.mp hl]; exact RecsOk.nil
  | n + 1, ds, h, hl => by
    rcases List.eq_nil_or_concat ds with rfl | ⟨es, d, rfl⟩
    · cases hl
    · rw [List.concat_eq_append] at h hl ⊢
      rw [List.length_append] at hl
      exact (recs_ok (n := n) (fun e he => h e (List.mem_append_left _ he)) (Nat.succ.inj hl)).snoc (h d (List.mem_append_right _ (.head _)))
theorem sub_mid {x : Addr × Obj} {a T : Led} : ∀ p ∈ a ++ T, p ∈ a ++ x :: T := fun _ h => (List.mem_append.mp h).elim (List.mem_append_left _) fun h => List.mem_append_right _ (.tail _ h)
theorem sub_mid2 {x : Addr × Obj} {b a T : Led} : ∀ p ∈ (b ++ a) ++ T, p ∈ b ++ (a ++ x :: T) := fun p h => by rw [List.append_assoc] at h; exact (List.mem_append.mp h).elim (List.mem_append_left _) fun h => List.mem_append_right _ (sub_mid p h)
set_option maxRecDepth 100000 in
theorem c_lrow (w : World) (dk C : Addr) (o : Obj) (i : Int) (ns : List Int) (T : Led) (hT : ∀ p ∈ T, p.1 ≠ dk) (hdk : DkIs w o C i) (hC : Cells T C ns) (hi : 0 ≤ i) (hi2 : i ≤ 60000) :
    Con w 310 [.ref dk] ((dk, o) :: T) 14 120 (DOut w dk C T i 100 (KeptD RowOk)) := by
  k_dflt (refine' Con.of_V1 [] (S1 "deck") (some (.ref dk)) ?a ?b ?c ?d ?e ?f ?g ?h ?i ?j ?k ?_; ((case a => k_is); (case b => k_is); (case c => rfl); (case d => rfl); (case e => rfl); (case f => rfl); (case g => rfl); (case h => rfl); (case i => exact fun _ => rfl); (case j => rfl); (case k => rfl)))
  intro c oc d1 hc
  have S := DkR.of hT hdk hC hi (by omega)
  refine V.hold S hc fun S => ?_
  have lrec : ∀ {R o j}, Cells R C ns → (∀ p ∈ R, p.1 ≠ dk) → DkIs w o C j → i ≤ j → j ≤ 80000 → Con w 300 [.ref dk] ((dk, o) :: R) 9 80 (DOut w dk C R j 20 (KeptD RecOk)) := fun {R o j} a b c d e => c_lrec w dk C o j ns R b c a (by omega) e
  have lseen : ∀ {R o j}, Cells R C ns → (∀ p ∈ R, p.1 ≠ dk) → DkIs w o C j → i ≤ j → j ≤ 80000 → Con w 305 [.ref dk] ((dk, o) :: R) 6 60 (DOut w dk C R j 20 (KeptD SeenOk)) := fun {R o j} a b c d e => c_lseen w dk C o j ns R b c a (by omega) e
  k_extra "vst"
  refine V.swap2 (fun _ _ _ _ _ => rfl) (fun _ _ _ _ _ => rfl) rfl rfl ?_
  k_extra "vst"
  refine V.draw S fun o1 way t1 S1 a1 b1 => ?_
  k_extra "vst"
  refine V.draw S1 fun o2 n t2 S2 a2 b2 => ?_
  k_extra "vst"
  refine V.tuple fun q hq => ⟨_, _, _, _, rfl, .head _, ?_⟩
  refine (?_ : V _ _ _ _ _ _)
  refine V.sub (fun _ h => .tail _ h) ?_
  k_extra "vst"
  refine ite_e (fun c0 => ?_) (fun c0 => ?_)
  · k_extra "vst"
    refine V.kept S2 (fun j a b c => lrec S2.cells S2.off a b (by omega)) fun o3 n3 r3 e3 S3 w3 v3 p3 => ?_
    k_extra "vst"
    exact V.tuple fun q hq => S3.fin2 sub_mid (w3.less fun _ h => .tail _ h) hq rfl (.cons (.str _ _) (.one v3)) (row_push p3)
  k_extra "vst"
  refine ite_e (fun c0 => ?_) (fun c0 => ?_)
  · k_extra "vst"
    exact S2.fin (fun _ h => .tail _ h) (by assumption) rfl (.cons (.str _ _) (.one (.int _ _))) (row_drop a2 b2)
  k_extra "vst"
  refine ite_e (fun c0 => ?_) (fun c0 => ?_)
  · k_extra "vst"
    refine V.doct S2 (h8 := Int.le_trans hi2 (by decide)) fun o3 b3 t3 S3 z3 => ?_
    k_extra "vst"
    refine V.kept S3 (fun j a b c => lseen S3.cells S3.off a b (by omega)) fun o4 n4 r4 e4 S4 w4 v4 p4 => ?_
    k_extra "vst"
    exact V.tuple fun q hq => S4.fin2 sub_mid (w4.less fun _ h => .tail _ h) hq rfl (.cons (.str _ _) (.cons (.bytes _ _) (.one v4))) (row_call z3 p4)
  k_extra "vst"
  refine ite_e (fun c0 => ?_) (fun c0 => ?_)
  · k_extra "vst"
    refine V.doct S2 (h8 := Int.le_trans hi2 (by decide)) fun o3 b3 t3 S3 z3 => ?_
    k_extra "vst"
    refine V.kept S3 (fun j a b c => lseen S3.cells S3.off a b (by omega)) fun o4 n4 r4 e4 S4 w4 v4 p4 => ?_
    k_extra "vst"
    exact V.tuple fun q hq => S4.fin2 sub_mid (w4.less fun _ h => .tail _ h) hq rfl (.cons (.str _ _) (.cons (.bytes _ _) (.cons (.int _ _) (.one v4)))) (row_whole z3 a2 b2 p4)
  k_extra "vst"
  refine ite_e (fun c0 => ?_) (fun c0 => ?_)
  · k_extra "vst"
    refine V.doct S2 (h8 := Int.le_trans hi2 (by decide)) fun o3 b3 t3 S3 z3 => ?_
    k_extra "vst"
    refine V.truth S3 fun o4 b4 S4 => ?_
    k_extra "vst"
    exact V.tuple fun q hq => S4.fin (fun _ h => .tail _ h) hq rfl (.cons (.str _ _) (.cons (.int _ _) (.cons (.bytes _ _) (.one (.bool _))))) (row_text z3 a2 b2)
  k_extra "vst"
  refine ite_e (fun c0 => ?_) (fun c0 => ?_)
  · k_extra "vst"
    refine V.turns (dk := dk) (C := C) (ns := ns) (i := i) (cl' := [(Str.ofString "deck", c)]) (fun _ _ _ _ => rfl) (by decide) rfl rfl rfl (by decide) rfl rfl (fun _ _ => rfl) 20 RecOk ?_
    k_extra "vst"
    refine V.draw S2 fun o3 m3 t3 S3 a3 b3 => ?_
    obtain ⟨m, rfl⟩ := Int.eq_ofNat_of_zero_le a3
    k_extra "vst"
    refine V.range1 fun a t u v ha => ⟨rfl, a, m, t, u, v, o3, _, _, rfl, .head _, by omega, fun _ h => .tail _ h, S3, ?_, ?_⟩
    · intro n1 o1 R' Cc hn SR hR
      have hcm : (c, oc) ∈ R' := hR _ (.head _)
      have hcm' : (c, oc) ∈ (dk, o1) :: R' := .tail _ hcm
      k_extra "vst"
      refine V.kept SR (fun j a b c => lrec SR.cells SR.off a b (by simp only [Nat.zero_add] at *; omega)) fun o4 n4 r4 e4 S4 w4 v4 p4 => ?_
      exact ⟨rfl, o4, n4, e4, fun _ h => h, S4, w4, v4, p4⟩
    · intro o4 new ys ds D S4 w4 vs4 p4 hl4 hD
      k_extra "vst"
      refine V.tupleOf (.head _) (by rw [vs4.length]; omega) fun b hb => ?_
      refine V.sub (led' := (dk, o4) :: (((b, tupOf ys 0) :: new) ++ (c, oc) :: T)) ?_ ?_
      · intro p hp
        rcases List.mem_cons.mp hp with rfl | hp
        · exact .tail _ (.tail _ (.head _))
        rcases List.mem_cons.mp hp with rfl | hp
        · exact .head _
        · exact .tail _ (.tail _ (.tail _ hp))
      have S5 : DkR w dk C ns i (((b, tupOf ys 0) :: new) ++ (c, oc) :: T) o4 50 := (S4.cons fun p hp => hb p (.tail _ hp)).more (by omega)
      have w5 : NewT ((b, tupOf ys 0) :: new) ((c, oc) :: T) := w4.cons fun p hp => Nat.ne_of_lt (hb p (.tail _ (.tail _ (List.mem_append_right _ hp))))
      k_extra "vst"
      refine V.truth S5 fun o6 b6 S6 => ?_
      k_extra "vst"
      exact V.tuple fun q hq => S6.fin2 sub_mid (w5.less fun _ h => .tail _ h) hq rfl (.cons (.str _ _) (.cons (.int _ _) (.cons (.tup (.head _) (vs4.mono fun _ h => .tail _ h)) (.one (.bool _))))) (row_row a2 b2 (recs_ok p4 rfl) (by omega))
  k_extra "vst"
  refine ite_e (fun c0 => ?_) (fun c0 => ?_)
  · k_extra "vst"
    refine V.kept S2 (fun j a b c => lrec S2.cells S2.off a b (by omega)) fun o3 n3 r3 e3 S3 w3 v3 p3 => ?_
    k_extra "vst"
    refine V.draw S3 fun o4 m4 t4 S4 a4 b4 => ?_
    k_extra "vst"
    exact V.tuple fun q hq => S4.fin2 sub_mid (w3.less fun _ h => .tail _ h) hq rfl (.cons (.str _ _) (.cons (.int _ _) (.cons v3 (.one (.int _ _))))) (row_fetch a2 b2 p3 a4 b4)
  k_extra "vst"
  refine ite_e (fun c0 => ?_) (fun c0 => ?_)
  · k_extra "vst"
    refine V.kept S2 (fun j a b c => lrec S2.cells S2.off a b (by omega)) fun o3 n3 r3 e3 S3 w3 v3 p3 => ?_
    k_extra "vst"
    refine V.kept S3 (fun j a b c => lrec S3.cells S3.off a b (by omega)) fun o4 n4 r4 e4 S4 w4 v4 p4 => ?_
    k_extra "vst"
    exact V.tuple fun q hq => S4.fin2 sub_mid2 (w4.two (w3.less fun _ h => .tail _ h) fun _ h => List.mem_append_right _ (.tail _ h)) hq rfl (.cons (.str _ _) (.cons (.int _ _) (.cons (v3.mono fun _ h => List.mem_append_right _ h) (.one (v4.mono fun _ h => List.mem_append_left _ h))))) (row_entry a2 b2 p3 p4)
  k_extra "vst"
  refine V.truth S2 fun o4 b4 S4 => ?_
  k_extra "vst"
  exact V.tuple fun q hq => S4.fin (fun _ h => .tail _ h) hq rfl (.cons (.str _ _) (.one (.bool _))) row_vm
end
section
open PySem PySem.W PyProof.Rows PySem.Calls
inductive EachT (l : Loc) (nx : Led) (J : Nat → List Value → Prop) (i : Nat) (ys : List Value) (y : Value) (l' : Loc) (led' : Led) : Prop
  | mk (e : l' = l) (hs : ∀ p ∈ nx, p ∈ led') (hJ : J (i + 1) (ys ++ [y])) : EachT l nx J i ys y l' led'
inductive EachK (w : World) (σ : Sta) (l : Loc) (elt : Expr) (x : Str) (scope : Scope) (cl' : List (Str × Addr)) (J : Nat → List Value → Prop) (Q : Value → Loc → Led → Prop) (xv : Value) (l₁ : Loc) (led₁ : Led) : Prop
  | mk (e : l₁ = l) (S : Led → Prop) (P : Nat → Value → Prop) (n : Nat) (src : Src w xv led₁ S P n) (hn : n ≤ 10000000) (hS : ∀ nx, (∀ p ∈ led₁, p ∈ nx) → S nx)
      (turn : ∀ i v ys nx oC C m₂, i < n → P i v → J i ys → (∀ p ∈ led₁, p ∈ nx) → LCg.NsObj oC m₂ → (C, oC) ∈ nx → m₂ x = some v →
        V w { cs := csOf scope σ, dk := σ.dk, uk := σ.uk, fn := false, cl := cl', C := C } l nx (PySem.eval elt) (EachT l nx J i ys))
      (fin : ∀ ys D, J n ys → (∀ p ∈ led₁, p.1 ≠ D) → Q (.ref D) l ((D, LCg.lst ys) :: led₁)) : EachK w σ l elt x scope cl' J Q xv l₁ led₁
inductive PairsK (w : World) (σ : Sta) (l : Loc) (elt : Expr) (a b : Str) (scope : Scope) (cl' : List (Str × Addr)) (J : Nat → List Value → Prop) (Q : Value → Loc → Led → Prop) (vs : List Value) (l₁ : Loc) (led₁ : Led) : Prop
  | mk (e : l₁ = l) (l1 l2 : Addr) (v1 v2 : List Value) (n1 n2 : Nat) (ev : vs = [.ref l1, .ref l2]) (m1 : (l1, tupOf v1 n1) ∈ led₁) (m2 : (l2, tupOf v2 n2) ∈ led₁) (hz : v1.length ≤ 16000)
      (turn : ∀ i x y ys nx oC C m₂, i < min v1.length v2.length → v1[i]? = some x → v2[i]? = some y → J i ys → (∀ p ∈ led₁, p ∈ nx) → LCg.NsObj oC m₂ → (C, oC) ∈ nx → m₂ a = some x → m₂ b = some y →
        V w { cs := csOf scope σ, dk := σ.dk, uk := σ.uk, fn := false, cl := cl', C := C } l nx (PySem.eval elt) (EachT l nx J i ys))
      (fin : ∀ ys D, J (min v1.length v2.length) ys → (∀ p ∈ led₁, p.1 ≠ D) → Q (.ref D) l ((D, LCg.lst ys) :: led₁)) : PairsK w σ l elt a b scope cl' J Q vs l₁ led₁
inductive From1K (Q : Value → Loc → Led → Prop) (x a : Value) (l₂ : Loc) (led₂ : Led) : Prop
  | mk (q : Addr) (y : Value) (vs : List Value) (n : Nat) (t : Tok) (ex : x = .ref q) (ea : a = .int 1 t) (hm : (q, tupOf (y :: vs) n) ∈ led₂) (hz : vs.length ≤ 1000000) (k : ∀ b : Addr, (∀ p ∈ led₂, p.1 < b) → Q (.ref b) l₂ ((b, tupOf vs 0) :: led₂)) : From1K Q x a l₂ led₂
section
variable {w : World} {σ : Sta} {l : Loc} {led : Led}
theorem V.each {elt iter : Expr} {x : Str} {px : Pos} {scope : Scope} {cl' : List (Str × Addr)} {pos : Pos} {Q : Value → Loc → Led → Prop}
    (hclos : ∀ cn L a ccd, closureFor scope (envX cn σ.cs L a ccd σ.cl) = Pure.pure cl') (hcell : ∀ y ∈ scope.names, y.2 ≠ .cell) (hkind : scope.kind = .function)
    (hk' : (csOf scope σ).kind = .function) (hdb : noDbg (csOf scope σ).names = true) (hnames : ∀ y ∈ scope.names, y.2 = .local → scope.names.lookup y.1 = some .local) (hx : scope.names.lookup x = some .local) (hf : σ.fn = true) (hfs : ∀ env xv, foldedSetIterable iter env xv = Pure.pure xv)
    (J : Nat → List Value → Prop) (h0 : J 0 [])
    (h : V w σ l led (PySem.eval iter) (EachK w σ l elt x scope cl' J Q)) :
    V w σ l led (PySem.eval (.ListComp elt [⟨.Name x px, iter, [], 0⟩] scope pos)) Q := by
  refine V.comp hclos hcell hkind hk' hdb hnames hx hf hfs (h.mono fun xv l₁ led₁ q => ?_)
  obtain ⟨rfl, S, P, n, src, hn, hS, turn, fin⟩ := q
  refine ⟨rfl, S, P, n, fun i ys nx => (∀ p ∈ led₁, p ∈ nx) ∧ J i ys, src, hn, ⟨fun _ h => h, h0⟩, ?_, ?_⟩
  · intro i v ys nx I oI C oC D m₂ hi hv hJ hC hx off _
    exact (turn i v ys _ oC C m₂ hi hv hJ.2 (fun p hp => .tail _ (.tail _ (.tail _ (hJ.1 p hp)))) hC (.tail _ (.head _)) hx).mono fun y l' led' ⟨e, hs, hJ'⟩ => ⟨e, nx, hs, off, hS nx hJ.1, hJ.1, hJ'⟩
  · intro ys nx D hJ off
    exact ⟨(D, LCg.lst ys) :: led₁, fun p hp => (List.mem_cons.mp hp).elim (fun e => e ▸ .head _) (fun hp => .tail _ (hJ.1 p hp)), fin ys D hJ.2 fun p hp => off1_mem off p (hJ.1 p hp)⟩
theorem type_call {M : Model} {A : Around} {E : Value → Shared → Prop} {s : Shared} {env : Env} {pos : Pos} {i : String} {e₁ : Expr} {er : List Expr} {Q : Value → Shared → Prop} (hp : adPlain (e₁ :: er) = true)
    (q : wpAny M A (spliced (backTo pos (starEach (e₁ :: er) env))) (fun vs s₁ => wpAny M A (PySem.call (.type i) vs) Q E s₁) E s) : wpAny M A (callWith pos (.type i) [] (backTo pos (starEach (e₁ :: er) env)) []) Q E s := by
  have hs : starEach (e₁ :: er) env = (false, PySem.eval e₁ env) :: starEach er env := star_cons (plain_cons hp).1
  rw [hs] at q ⊢
  exact PySem.callWith_type (by show (false || (backTo pos (starEach er env)).any (·.1)) = false; rw [plain_args (plain_cons hp).2]; rfl) (evalArgs_plain q)
theorem V.pairs {elt e₁ : Expr} {er : List Expr} {a b z : Str} {pa pb tp zp zpos : Pos} {kk : Nat} {scope : Scope} {cl' : List (Str × Addr)} {pos : Pos} {Q : Value → Loc → Led → Prop}
    (hclos : ∀ cn L a ccd, closureFor scope (envX cn σ.cs L a ccd σ.cl) = Pure.pure cl') (hcell : ∀ y ∈ scope.names, y.2 ≠ .cell) (hkind : scope.kind = .function)
    (hk' : (csOf scope σ).kind = .function) (hdb : noDbg (csOf scope σ).names = true) (hnames : ∀ y ∈ scope.names, y.2 = .local → scope.names.lookup y.1 = some .local) (hxa : scope.names.lookup a = some .local) (hxb : scope.names.lookup b = some .local) (hab : ¬ a = b) (hf : σ.fn = true)
    (hz : glV σ z = some (.type "zip")) (hp : adPlain (e₁ :: er) = true) (hfs : ∀ env xv, foldedSetIterable (.Call (.Name z zp) (e₁ :: er) [] zpos) env xv = Pure.pure xv)
    (J : Nat → List Value → Prop) (h0 : J 0 [])
    (h : V w σ l led (fun env => spliced (backTo zpos (starEach (e₁ :: er) env))) (PairsK w σ l elt a b scope cl' J Q)) :
    V w σ l led (PySem.eval (.ListComp elt [⟨.Tuple [.Name a pa, .Name b pb] kk tp, .Call (.Name z zp) (e₁ :: er) [] zpos, [], 0⟩] scope pos)) Q := by
  refine .mk fun δ hp' tk R D F N kR => ?_
  have e := D.fn hf
  have ec := D.ec
  rw [e] at ec
  have ec' : δ.cl = σ.cl := ec
  have eE : δ.env = envX δ.cn σ.cs δ.L δ.a δ.ccd σ.cl := by rw [e, ec']
  refine comp_P (env := δ.env) F (eE ▸ hclos _ _ _ _) hcell hkind hnames hxa hxb hab ?_ (hfs _)
  refine Call_ ((D.lks F).glOk _ _ hz _ _ _ (type_call hp (h.go δ hp' tk _ D F N fun vs h₁ t₁ l₁ led₁ F₁ N₁ q => ?_))) callName_eq
  obtain ⟨rfl, l1, l2, v1, v2, n1, n2, rfl, m1, m2, hsz, turn, fin⟩ := q
  refine zip_go rfl F₁ N₁ m1 m2 (by rw [sizeLine_eq]; omega) fun g => ⟨fun i ys => J i ys, h0, ?_, ?_⟩
  · intro i x y ys C oC D' m₂ h₂ tk₂ led₂ E' hi hxy hJ hC hxa hxb F₂ N₂ sub _
    have D2 : DynOk w { cs := csOf scope σ, dk := σ.dk, uk := σ.uk, fn := false, cl := cl', C := C } { δ with E := E', env := compEnvC scope cl' C δ.env } :=
      ⟨D.B, D.X, D.T, D.hd, D.hu, D.hk, hk', by show relabel scope δ.env = _; rw [eE]; rfl, D.eg, D.eb, rfl, hdb, (fun h => nomatch h), (fun _ => rfl), (fun h => nomatch h), trivial⟩
    refine (turn i x y ys _ oC C m₂ hi hxy.1 hxy.2 hJ (fun p hp => .tail _ (.tail _ (sub p hp))) hC (.head _) hxa hxb).go _ h₂ tk₂ _ D2 F₂ N₂ fun y h₃ t₃ l₃ led₃ F₃ N₃ q₃ => ?_
    obtain ⟨rfl, hs, hJ'⟩ := q₃
    exact ⟨h₃, t₃, rfl, F₃, cb_drop N₃ hs, hJ'⟩
  · intro ys hJ D' h tk' F₂ N₂ off
    exact kR _ _ _ _ _ F₂ N₂ (fin ys D' hJ fun p hp => off1_mem off p hp)
theorem V.tupFrom1 {v lo : Expr} {p pos : Pos}  {Q : Value → Loc → Led → Prop}
    (H : V w σ l led (PySem.eval v) (kE1 w σ lo (From1K Q)))
    (ht : ∀ q r, letTemporaryGo v (.ref q) r = Pure.pure () := by intro _ _; with_unfolding_all rfl) :
    V w σ l led (PySem.eval (.Subscript v (.Slice (some lo) none none p) pos)) Q :=
  .mk fun δ h tk R D F N kR => Subscript_ (H.go δ h tk _ D F N fun x h₁ t₁ l₁ led₁ F₁ N₁ q₁ => wpAny_Slice (wpAny_evalPart_some (q₁.go δ h₁ t₁ _ D F₁ N₁ fun a h₂ t₂ l₂ led₂ F₂ N₂ q₂ => wpAny_evalPart_none (wpAny_evalPart_none (by
    obtain ⟨q, y, vs, n, t, rfl, rfl, hm, hz, k⟩ := q₂
    exact slice_from1 (s := ⟨h₂, _, _, _, _⟩) F₂ N₂ hm hz (fun b h' F' N' hb => kR _ _ _ _ _ F' N' (k b hb)) (ht := ht _))))))
theorem V.notInShapes {a : Addr} {x : Str} {t : Tok} {Q : Value → Loc → Led → Prop} (hS : ShapesIn w led a) (h : Q (.bool (!(shapesL.lookup x).isSome)) l led) : V w σ l led (fun _ => compareOp .NotIn (.str x t) (.ref a)) Q :=
  .mk fun _ _ _ _ _ F N kR => notIn_shapes N hS (kR _ _ _ _ _ F N h)
theorem V.itemShapes {value slice : Expr} {a : Addr} {x : Str} {t : Tok} {ks : List Str} {Q : Value → Loc → Led → Prop} (hS : ShapesIn w led a) (hl : shapesL.lookup x = some ks) (h : ∀ v, DIn led v (.tup (ks.map .str)) → Q v l led)
    (hs : subscripted slice false (.ref a) (.str x t) = operate [.ref a, .str x t] (getItem (.ref a) (.str x t)) := by with_unfolding_all rfl) (hg : ∀ r, letTemporaryGo value (.ref a) r = Pure.pure () := by intro _; with_unfolding_all rfl) :
    V w σ l led (fun _ => subscriptTail value slice (.ref a) (.str x t)) Q :=
  .mk fun _ _ _ _ _ F N kR => item_shapes N hS hl (fun v hv => kR _ _ _ _ _ F N (h v hv)) hs hg
end
end
section
open PySem PySem.W PyProof.Rows
set_option maxRecDepth 100000 in
theorem c_recipes (w : World) (led : Led) (v : Value) (d : D) (hv : DIn led v d) (hw : d.wt ≤ 1000000) : Con w 121 [v] led 3 24 (RetX led (.bool (isRecipes d))) := by
  k_dflt (refine' Con.of_V [(S1 "value", v)] ?a ?b ?c ?d ?e ?f ?g ?h ?i ?j ?_; ((case a => k_is); (case b => k_is); (case c => rfl); (case d => rfl); (case e => rfl); (case f => rfl); (case g => rfl); (case h => rfl); (case i => decide); (case j => rfl)))
  cases hv
  case tup a vs n ds hm hall =>
    have hlen := D.wts_len ds
    have hvl := hall.length
    simp only [D.wt] at hw
    k_extra "vst"
    refine V.isiTup1 hm ?_
    k_extra "vst"
    refine V.each (cl' := []) (fun _ _ _ _ => rfl) (by decide) rfl rfl rfl (by decide) rfl rfl (fun _ _ => rfl) (fun i ys => LSm.BoolsAre ys ((ds.take i).map isRecipe)) .nil ?_
    k_extra "vst"
    refine ⟨rfl, _, _, _, Src.tuple hm (by rw [sizeLine_eq]; omega), by omega, fun nx h => h _ hm, ?_, ?_⟩
    · intro i v ys nx oC C m₂ hi hv hJ hs hC hCm hx
      obtain ⟨hD, hi2⟩ := hall.at hi hv
      have hwi := D.wts_at ds i hi2
      k_extra "vst"
      exact V.callP (c_recipe w _ _ _ (hD.mono hs) (by omega)) ⟨rfl, fun _ h => h, by rw [take_snoc isRecipe .none hi2]; exact bools_snoc hJ _⟩
    · intro ys D hJ _
      rw [hvl, List.take_length] at hJ
      k_extra "vst"
      refine V.all (.head _) hJ ?_
      exact endB (fun _ h => .tail _ h) (by simp [isRecipes, List.all_map])
  all_goals (
    k_extra "vst"
    first | refine V.isiTuple .none ?_ | refine V.isiTuple (.bool _) ?_ | refine V.isiTuple (.int _ _) ?_ | refine V.isiTuple (.str _ _) ?_ | refine V.isiTuple (.bytes _ _) ?_
    k_extra "vst"
    exact endB (fun _ h => h) rfl)
end
section
open PySem PySem.W PyProof.Rows
set_option maxRecDepth 100000 in
theorem c_seen (w : World) (led : Led) (v : Value) (d : D) (hv : DIn led v d) (hw : d.wt ≤ 1000000) : Con w 116 [v] led 2 16 (RetX led (.bool (isSeen d))) := by
  k_dflt (refine' Con.of_V [(S1 "value", v)] ?a ?b ?c ?d ?e ?f ?g ?h ?i ?j ?_; ((case a => k_is); (case b => k_is); (case c => rfl); (case d => rfl); (case e => rfl); (case f => rfl); (case g => rfl); (case h => rfl); (case i => decide); (case j => rfl)))
  cases hv
  case tup a vs n ds hm hall =>
    have hlen := D.wts_len ds
    have hvl := hall.length
    simp only [D.wt] at hw
    k_extra "vst"
    refine V.isiTup1 hm ?_
    k_extra "vst"
    refine V.each (cl' := []) (fun _ _ _ _ => rfl) (by decide) rfl rfl rfl (by decide) rfl rfl (fun _ _ => rfl) (fun i ys => LSm.BoolsAre ys ((ds.take i).map isPair)) .nil ?_
    k_extra "vst"
    refine ⟨rfl, _, _, _, Src.tuple hm (by rw [sizeLine_eq]; omega), by omega, fun nx h => h _ hm, ?_, ?_⟩
    · intro i v ys nx oC C m₂ hi hv hJ hs hC hCm hx
      obtain ⟨hD, hi2⟩ := hall.at hi hv
      have hwi := D.wts_at ds i hi2
      have hD2 := hD.mono hs
      have fin : ∀ {b : Bool}, b = isPair (ds.getD i .none) → LSm.BoolsAre (ys ++ [Value.bool b]) ((ds.take (i + 1)).map isPair) := fun e => by rw [take_snoc isPair .none hi2]; exact e ▸ bools_snoc hJ _
      generalize ds.getD i .none = d at *
      cases hD2
      case tup a2 vs2 n2 es hm2 hall2 =>
        have hlen2 := D.wts_len es
        simp only [D.wt] at hwi
        k_extra "vst"
        refine V.isiTup1 hm2 ?_
        k_extra "vst"
        refine V.lenD hm2 hall2 (by omega) fun t => ?_
        k_extra "vst"
        refine ite_e (fun c2 => ?_) (fun c2 => ?_)
        · have c2' : es.length = 2 := by omega
          k_extra "vst"
          refine V.itm 0 hm2 hall2 (by omega) fun v0 h0 => ?_
          k_extra "vst"
          refine V.callP (c_num w _ _ _ h0) ?_
          k_extra "vst"
          refine ite_i (fun c3 => ?_) (fun c3 => ?_)
          · k_extra "vst"
            refine V.itm 1 hm2 hall2 (by omega) fun v1 h1 => ?_
            k_extra "vst"
            refine V.callP (c_num w _ _ _ h1) ⟨rfl, fun _ h => h, fin ?_⟩
            simp only [isPair, c2', c3]; rfl
          · refine ⟨rfl, fun _ h => h, fin ?_⟩
            simp only [isPair, c2', Bool.eq_false_iff.mpr c3]; rfl
        · have c2' : es.length ≠ 2 := by omega
          refine ⟨rfl, fun _ h => h, fin ?_⟩
          simp only [isPair, decide_eq_false c2', beq_false_of_ne c2]; rfl
      all_goals (
        k_extra "vst"
        first | refine V.isiTuple .none ?_ | refine V.isiTuple (.bool _) ?_ | refine V.isiTuple (.int _ _) ?_ | refine V.isiTuple (.str _ _) ?_ | refine V.isiTuple (.bytes _ _) ?_
        k_extra "vst"
        exact ⟨rfl, fun _ h => h, fin rfl⟩)
    · intro ys D hJ _
      rw [hvl, List.take_length] at hJ
      k_extra "vst"
      refine V.all (.head _) hJ ?_
      exact endB (fun _ h => .tail _ h) (by simp [isSeen, List.all_map])
  all_goals (
    k_extra "vst"
    first | refine V.isiTuple .none ?_ | refine V.isiTuple (.bool _) ?_ | refine V.isiTuple (.int _ _) ?_ | refine V.isiTuple (.str _ _) ?_ | refine V.isiTuple (.bytes _ _) ?_
    k_extra "vst"
    exact endB (fun _ h => h) rfl)
end
section
open PySem PySem.W PyProof.Rows
set_option maxRecDepth 100000 in
theorem c_part (w : World) (led : Led) (kv vv : Value) (k d : D) (hk0 : DIn led kv k) (hv : DIn led vv d) (hw : d.wt ≤ 1000000) : Con w 135 [kv, vv] led 4 32 (RetX led (.bool (isPart k d))) := by
  k_dflt (refine' Con.of_V [(S1 "value", vv), (S1 "kind", kv)] ?a ?b ?c ?d ?e ?f ?g ?h ?i ?j ?_; ((case a => k_is); (case b => k_is); (case c => rfl); (case d => rfl); (case e => rfl); (case f => rfl); (case g => rfl); (case h => rfl); (case i => decide); (case j => rfl)))
  unfold isPart
  k_extra "vst"
  refine avCmp_r (V.eqS hk0 ?_)
  k_extra "vst"
  refine ite_i (fun c1 => ?_) (fun c1 => ?_)
  · rw [if_pos c1]
    k_extra "vst"
    refine V.callP (c_recipe w _ _ _ hv hw) ?_
    exact endB (fun _ h => h) rfl
  rw [if_neg c1]
  k_extra "vst"
  refine avCmp_r (V.eqS hk0 ?_)
  k_extra "vst"
  refine ite_i (fun c2 => ?_) (fun c2 => ?_)
  · rw [if_pos c2]
    k_extra "vst"
    refine V.callP (c_recipes w _ _ _ hv hw) ?_
    exact endB (fun _ h => h) rfl
  rw [if_neg c2]
  k_extra "vst"
  refine avCmp_r (V.eqS hk0 ?_)
  k_extra "vst"
  refine ite_i (fun c3 => ?_) (fun c3 => ?_)
  · rw [if_pos c3]
    k_extra "vst"
    refine V.callP (c_seen w _ _ _ hv hw) ?_
    exact endB (fun _ h => h) rfl
  rw [if_neg c3]
  k_extra "vst"
  refine avCmp_r (V.eqS hk0 ?_)
  k_extra "vst"
  refine ite_i (fun c4 => ?_) (fun c4 => ?_)
  · rw [if_pos c4]
    k_extra "vst"
    refine V.isiBytes hv ?_
    exact endB (fun _ h => h) rfl
  rw [if_neg c4]
  k_extra "vst"
  refine avCmp_r (V.eqS hk0 ?_)
  k_extra "vst"
  refine ite_i (fun c5 => ?_) (fun c5 => ?_)
  · rw [if_pos c5]
    k_extra "vst"
    refine V.isiBool hv ?_
    exact endB (fun _ h => h) rfl
  rw [if_neg c5]
  k_extra "vst"
  refine V.callP (c_num w _ _ _ hv) ?_
  exact endB (fun _ h => h) rfl
end
section
open PySem PySem.W PyProof.Rows
theorem row_some {x : Str} {dr : List D} {ks : List Str} (h : shapesL.lookup x = some ks) : isRow (.tup (.str x :: dr)) = (decide (dr.length = ks.length) && (ks.zip dr).all fun p => isPart (.str p.1) p.2) := by simp only [isRow, h]
theorem row_none {x : Str} {dr : List D} (h : shapesL.lookup x = none) : isRow (.tup (.str x :: dr)) = false := by simp only [isRow, h]
set_option maxRecDepth 100000 in
theorem c_row (w : World) (led : Led) (v : Value) (d : D) (a : Addr) (hv : DIn led v d) (hS : ShapesIn w led a) (hw : d.wt ≤ 1000000) : Con w 140 [v, .ref a] led 5 40 (RetX led (.bool (isRow d))) := by
  k_dflt (refine' Con.of_V [(S1 "shapes", .ref a), (S1 "row", v)] ?a ?b ?c ?d ?e ?f ?g ?h ?i ?j ?_; ((case a => k_is); (case b => k_is); (case c => rfl); (case d => rfl); (case e => rfl); (case f => rfl); (case g => rfl); (case h => rfl); (case i => decide); (case j => rfl)))
  cases hv
  case tup ar vs n ds hm hall =>
    have hlen := D.wts_len ds
    have hvl := hall.length
    simp only [D.wt] at hw
    k_extra "vst"
    refine V.isiTup1 hm ?_
    k_extra "vst"
    refine V.lenD hm hall (by omega) fun t => ?_
    k_extra "vst"
    refine ite_e (fun c0 => ?_) (fun c0 => ?_)
    · k_extra "vst"
      exact endB (fun _ h => h) (by rw [List.length_eq_zero_iff.mp (show ds.length = 0 by omega)]; rfl)
    k_extra "vst"
    refine V.itm 0 hm hall (by omega) fun v0 h0 => ?_
    k_extra "vst"
    refine V.isiStr h0 ?_
    k_extra "vst"
    cases hall
    case nil => exact absurd rfl c0
    case cons v0' vr d0 dr hD0 hall =>
      have e0 : (d0 :: dr).getD 0 .none = d0 := rfl
      rw [e0] at h0 ⊢
      refine ite_i (fun c1 => ?_) (fun c1 => ?_)
      · k_extra "vst"
        exact endB (fun _ h => h) (by cases d0 <;> first | rfl | exact Bool.noConfusion (show false = true from c1))
      have hx : ∃ x, d0 = .str x := by cases d0 <;> first | exact ⟨_, rfl⟩ | exact absurd rfl c1
      obtain ⟨x, rfl⟩ := hx
      have hall2 := DAll.cons hD0 hall
      k_extra "vst"
      refine V.itm 0 hm hall2 (by omega) fun v0 h0 => ?_
      have h0' : DIn led v0 (.str x) := h0
      cases h0'
      k_extra "vst"
      refine V.notInShapes hS ?_
      k_extra "vst"
      rcases hlk : shapesL.lookup x with _ | ks
      · k_extra "vst"
        exact endB (fun _ h => h) (row_none hlk).symm
      k_extra "vst"
      refine V.itm 0 hm hall2 (by omega) fun v0 h0 => ?_
      have h0' : DIn led v0 (.str x) := h0
      cases h0'
      k_extra "vst"
      refine V.itemShapes hS hlk fun kv hK => ?_
      cases hK
      rename_i ak kvs nk hmk hK
      have hkl := shapes_len hlk
      k_extra "vst"
      refine V.lenD hm hall2 (by omega) fun t => ?_
      k_extra "vst"
      refine V.lenD hmk hK (by omega) fun t => ?_
      k_extra "vst"
      rw [row_some hlk]
      refine ite_e (fun c2 => ?_) (fun c2 => ?_)
      · have hdl : dr.length = ks.length := by simp only [List.length_cons, List.length_map] at c2; omega
        have hKl := hK.length
        have hvl2 := hall.length
        have hzl : ((ks.map D.str).zip dr).length = dr.length := by rw [List.length_zip, List.length_map]; omega
        have hvr : vr.length ≤ 1000000 := by simp only [List.length_cons, D.wts] at hlen hw; omega
        have hwr : D.wts dr ≤ 1000000 := by simp only [D.wts, D.wt] at hw; omega
        rw [← zip_strs, decide_eq_true hdl, Bool.true_and]
        k_extra "vst"
        refine V.pairs (cl' := []) (fun _ _ _ _ => rfl) (by decide) rfl rfl rfl (by decide) rfl rfl (by decide) rfl rfl rfl (fun _ _ => rfl) (fun i ys => LSm.BoolsAre ys ((((ks.map D.str).zip dr).take i).map fun p => isPart p.1 p.2)) .nil ?_
        k_extra "vst"
        refine V.tupFrom1 ?_
        k_extra "vst"
        refine ⟨_, _, _, _, _, rfl, rfl, hm, hvr, fun b hb => ?_⟩
        k_extra "vst"
        refine ⟨rfl, _, _, _, _, _, _, rfl, .tail _ hmk, .head _, by omega, ?_, ?_⟩
        · intro i kv y ys nx oC C m₂ hi hx1 hy1 hJ hs hC hCm ha hb
          obtain ⟨hDk, _⟩ := hK.at (i := i) (by simp only [List.length_map] at *; omega) hx1
          obtain ⟨hDy, hiy⟩ := hall.at (i := i) (by omega) hy1
          have hwi := D.wts_at dr i hiy
          k_extra "vst"
          refine V.callP (c_part w _ _ _ _ _ (hDk.mono fun p hp => hs p (.tail _ hp)) (hDy.mono fun p hp => hs p (.tail _ hp)) (Nat.le_trans hwi hwr)) ⟨rfl, fun _ h => h, ?_⟩
          rw [take_snoc (fun p : D × D => isPart p.1 p.2) (.none, .none) (by rw [hzl]; exact hiy), zip_at (by rw [hzl]; exact hiy)]
          exact bools_snoc hJ _
        · intro ys D' hJ _
          rw [show min kvs.length vr.length = ((ks.map D.str).zip dr).length by rw [hzl, hKl, List.length_map]; omega, List.take_length] at hJ
          k_extra "vst"
          refine V.all (.head _) hJ ?_
          exact endB (fun _ h => .tail _ (.tail _ h)) (by rw [List.all_map]; rfl)
      · refine endB (fun _ h => h) ?_
        rw [decide_eq_false (by intro h; apply c2; simp [h]), Bool.false_and]; exact beq_false_of_ne c2
  all_goals (
    k_extra "vst"
    first | refine V.isiTuple .none ?_ | refine V.isiTuple (.bool _) ?_ | refine V.isiTuple (.int _ _) ?_ | refine V.isiTuple (.str _ _) ?_ | refine V.isiTuple (.bytes _ _) ?_
    k_extra "vst"
    exact endB (fun _ h => h) rfl)
end
section
open PySem PySem.W PyProof.Rows PySem.Calls PySem.MeetsSeq PySem.SeqAt PyProof.V PySem.Spec
noncomputable def BM (i : String) (ov : Value) (name : Str) : Prop := ∀ (M : Model) (A : Around) (E : Value → Shared → Prop) (s : Shared) (pl : Sem Bool) (R : Value × List Value → Shared → Prop), R (.builtin i, [ov]) s → wpAny M A (getMethod ov name pl) R E s
theorem BM.joinS {x : Str} {t : Tok} : BM "str.join" (.str x t) (Str.ofString "join") := fun _ _ _ _ _ _ h => by with_reducible exact GM.join h
theorem BM.join {b : Array UInt8} {t : Tok} : BM "bytes.join" (.bytes b t) (Str.ofString "join") := fun _ _ _ _ _ _ h => m_join h
theorem BM.split {b : Array UInt8} {t : Tok} : BM "bytes.split" (.bytes b t) (Str.ofString "split") := fun _ _ _ _ _ _ h => m_split h
inductive BmK (w : World) (σ : Sta) (e : Expr) (r : List Expr) (name : Str) (pos : Pos) (i : String) (Q : Value → Loc → Led → Prop) (ov : Value) (l₁ : Loc) (led₁ : Led) : Prop
  | mk (h : BM i ov name) (q : V w σ l₁ led₁ (fun env => spliced (backTo pos (starEach (e :: r) env))) (kCallM w σ (.builtin i) ov Q)) : BmK w σ e r name pos i Q ov l₁ led₁
inductive UnpK (x y : Str) (Q : Flow → Loc → Led → Prop) (v : Value) (l₁ : Loc) (led₁ : Led) : Prop
  | mk (a : Addr) (v1 v2 : Value) (n : Nat) (e : v = .ref a) (hm : (a, tupOf [v1, v2] n) ∈ led₁) (q : Q .next ((y, v2) :: (x, v1) :: l₁) led₁) : UnpK x y Q v l₁ led₁
inductive StrFrK (Q : Value → Loc → Led → Prop) (x a : Value) (l₂ : Loc) (led₂ : Led) : Prop
  | mk (y : Str) (t : Tok) (i : Int) (t1 : Tok) (ex : x = .str y t) (ea : a = .int i t1) (hz : y.length ≤ 100000) (k : ∀ t', Q (.str (Txt.slice y (some i) none) t') l₂ led₂) : StrFrK Q x a l₂ led₂
inductive Str2K (Q : Value → Loc → Led → Prop) (x a c : Value) (l₃ : Loc) (led₃ : Led) : Prop
  | mk (y : Str) (t : Tok) (i : Int) (t1 : Tok) (j : Int) (t2 : Tok) (ex : x = .str y t) (ea : a = .int i t1) (ec : c = .int j t2) (hz : y.length ≤ 100000) (k : ∀ t', Q (.str (Txt.slice y (some i) (some j)) t') l₃ led₃) : Str2K Q x a c l₃ led₃
section
variable {w : World} {σ : Sta} {l : Loc} {led : Led}
theorem V.bmeth {ob e : Expr} {r : List Expr} {name : Str} {ap pos : Pos} {Q : Value → Loc → Led → Prop} (i : String) (pl : Env → Sem Bool) (he : ∀ env, PySem.eval (.Call (.Attribute ob name ap) (e :: r) [] pos) env = (do
      let ov ← PySem.eval ob env
      standAt ap.atName
      let (f, first) ← holding [ov] (getMethod ov name (pl env))
      callWith pos f first (backTo pos (starEach (e :: r) env)) []))
    (hp : adPlain (e :: r) = true)
    (h : V w σ l led (PySem.eval ob) (BmK w σ e r name pos i Q)) :
    V w σ l led (PySem.eval (.Call (.Attribute ob name ap) (e :: r) [] pos)) Q :=
  .mk fun δ hp' tk R D F N kR => MethodCall_ (h.go δ hp' tk _ D F N fun ov h₁ t₁ l₁ led₁ F₁ N₁ ⟨q1, q2⟩ => q1 _ _ _ _ _ _ (callWith_method1 (q2.go δ h₁ t₁ _ D F₁ N₁ fun vs h₂ t₂ l₂ led₂ F₂ N₂ q₂ => q₂.go δ h₂ t₂ R D F₂ N₂ kR) (star_cons (plain_cons hp).1) (plain_args (plain_cons hp).2))) (he _)
theorem V.setCell {x : Str} {c : Addr} {ob : Obj} {g : Obj → Led} {v : Value} {v₀ : Option Value} {Q : Unit → Loc → Led → Prop} (hc : σ.cl.lookup x = some c) (U : UpdF c ob led g) (hd : ob.data = .cell v₀) (h : ∀ o' : Obj, o'.data = .cell (some v) → Q () l (g o'))
    (hf : σ.fn = true := by rfl) (hx : σ.cs.names.lookup x = some .cell := by rfl) : V w σ l led (fun env => storeName env x v) Q := by
  refine .mk fun δ _ tk R D F N kR => ?_
  have e := D.fn hf
  have ec := D.ec
  rw [e] at ec ⊢
  have ec' : δ.cl = σ.cl := ec
  exact storeX_C F N (ec' ▸ hc) U hd (fun h' o' F' N' hd' => kR _ _ _ _ _ F' N' (h o' hd')) D.ek hx
theorem V.joinS {a : Addr} {vs : List Value} {ys : List Str} {n : Nat} {x : Str} {t : Tok} {Q : Value → Loc → Led → Prop} (hm : (a, lst vs n) ∈ led) (hi : StrsAre vs ys) (hok : (ys.map (·.length)).sum + ys.length * x.length ≤ 16777216) (h : ∀ t', Q (.str (Txt.join x ys) t') l led) :
    V w σ l led (fun _ => PySem.call (.builtin "str.join") [.str x t, .ref a]) Q :=
  .mk fun _ _ _ _ _ F N kR => join_list (isLst N hm) hi hok fun t' _ => kR _ _ _ _ _ F N (h t')
theorem V.joinB {a : Addr} {vs : List Value} {bs : List (Array UInt8)} {n : Nat} {sep : Array UInt8} {t : Tok} {Q : Value → Loc → Led → Prop} (hm : (a, lst vs n) ∈ led) (hb : BytesAre vs bs) (hsz : (Builtin.Bytes.joined sep bs).size ≤ 16777216) (h : ∀ t', Q (.bytes (Builtin.Bytes.joined sep bs) t') l led) :
    V w σ l led (fun _ => PySem.call (.builtin "bytes.join") [.bytes sep t, .ref a]) Q :=
  .mk fun _ _ _ _ _ F N kR => join_K N hm hb hsz fun t' _ => kR _ _ _ _ _ F N (h t')
theorem V.splitB {b : Array UInt8} {t u : Tok} {c : UInt8} {Q : Value → Loc → Led → Prop} (hz : ∀ p ∈ pieces b c, p.size ≤ 16777216) (hn : (pieces b c).length ≤ 1000000) (h : ∀ (a : Addr) vs, (∀ p ∈ led, p.1 < a) → BytesAre vs (pieces b c) → Q (.ref a) l ((a, lst vs 0) :: led)) :
    V w σ l led (fun _ => PySem.call (.builtin "bytes.split") [.bytes b t, .bytes #[c] u]) Q :=
  .mk fun _ _ _ _ _ F N kR => split_K F N hz hn fun a vs _ _ F' N' hl hb => kR _ _ _ _ _ F' N' (h a vs hl hb)
theorem V.neBytes {b c : Array UInt8} {t u : Tok} {Q : Value → Loc → Led → Prop} (h : Q (.bool (b.toList != c.toList)) l led) : V w σ l led (fun _ => compareOp .NotEq (.bytes b t) (.bytes c u)) Q :=
  .mk fun _ _ _ _ _ F N kR => ne_bytes (kR _ _ _ _ _ F N h)
theorem V.inStrs {a : Addr} {vs : List Value} {ys : List Str} {n : Nat} {x : Str} {u : Tok} {Q : Value → Loc → Led → Prop} (hm : (a, tupOf vs n) ∈ led) (hi : StrsAre vs ys) (h : Q (.bool (ys.any (· == x))) l led) : V w σ l led (fun _ => compareOp .In (.str x u) (.ref a)) Q :=
  .mk fun _ _ _ _ _ F N kR => in_tuple_strs (DIn.isTup N hm) hi (kR _ _ _ _ _ F N h)
theorem V.itemT {dd : Addr} {o : Obj} {kvs : List (Str × Value)} {x : Str} {t : Tok} {Q : Value → Loc → Led → Prop} {value slice : Expr} {v : Value} (hm : (dd, o) ∈ led) (hd : o.IsDictOf (PySem.strKind PySem.Challenge.rw_nt0496_01.row.prog w) kvs) (hl : valueAt kvs x = some v) (h : Q v l led)
    (hs : subscripted slice false (.ref dd) (.str x t) = operate [.ref dd, .str x t] (getItem (.ref dd) (.str x t)) := by with_unfolding_all rfl) :
    V w σ l led (fun _ => subscriptTail value slice (.ref dd) (.str x t)) Q :=
  .mk fun _ _ _ _ _ F N kR => have hD := kda_dict N hm hd; tail_any hD.typeIs slot_dict_getitem.lookup (wpAny_getItem_of (strKind_is _ _ x t) hD.mapOf hl (kR _ _ _ _ _ F N h)) hs
theorem V.intT {x : Str} {t : Tok} {n : Int} {Q : Value → Loc → Led → Prop} (h1 : PySem.intText? x = some n) (h2 : x.length ≤ 640) (h : ∀ t', Q (.int n t') l led) : V w σ l led (fun _ => PySem.call (.type "int") [.str x t]) Q :=
  .mk fun _ _ _ _ _ F N kR => KIN.call_text h1 h2 (kR _ _ _ _ _ F N (h _))
theorem V.lenS {x : Str} {t : Tok} {Q : Value → Loc → Led → Prop} (hz : x.length ≤ 16777216) (h : ∀ t', Q (.int (x.length : Int) t') l led) : V w σ l led (fun _ => PySem.call (.builtin "len") [.str x t]) Q :=
  .mk fun _ _ _ _ _ F N kR => PySem.P.len_str (by omega) (kR _ _ _ _ _ F N (h _))
theorem V.chr {i : Int} {t : Tok} {Q : Value → Loc → Led → Prop} (h0 : 0 ≤ i) (h1 : i < 256) (h : ∀ t', Q (.str ⟨#[i.toNat]⟩ t') l led) : V w σ l led (fun _ => PySem.call (.builtin "chr") [.int i t]) Q :=
  .mk fun _ _ _ _ _ F N kR => P.chr_of_int (by rw [Bool.or_eq_false_iff, decide_eq_false_iff_not, decide_eq_false_iff_not]; omega) (kR _ _ _ _ _ F N (h _))
theorem V.ord {c : Nat} {t : Tok} {Q : Value → Loc → Led → Prop} (h : ∀ t', Q (.int (c : Int) t') l led) : V w σ l led (fun _ => PySem.call (.builtin "ord") [.str ⟨#[c]⟩ t]) Q :=
  .mk fun _ _ _ _ _ F N kR => P.ord_of_char (kR _ _ _ _ _ F N (h _))
theorem bindL_2 {k : Str → Option NameKind} {x y : Str} {v u : Value} (h1 : k x = some .local) (h2 : k y = some .local) : bindL k [(x, v), (y, u)] (fun _ => none) = fun z => [(y, u), (x, v)].lookup z := by
  rw [bindL, if_pos h1, bindL, if_pos h2, bindL]
  have e : ∀ z, (if z = x then some v else none) = [(x, v)].lookup z := fun z => congrFun (look_cons (l := [])) z
  rw [← look_cons]
  funext z
  rw [e z]
theorem V.addB {a b : Array UInt8} {t u : Tok} {Q : Value → Loc → Led → Prop} (hz : a.size + b.size ≤ 16777216) (h : ∀ t', Q (.bytes (a ++ b) t') l led) : V w σ l led (fun _ => binaryOp .Add (.bytes a t) (.bytes b u)) Q :=
  .mk fun _ _ _ _ _ F N kR => KBy.add_bytes hz fun t' _ => kR _ _ _ _ _ F N (h t')
theorem endBy {l' : Loc} {led' : Led} {a b : Array UInt8} {t : Tok} (hs : ∀ p ∈ led, p ∈ led') (e : a.toList = b.toList) : finQ (RetB led b) (.ret (.bytes a t)) l' led' := ⟨led, hs, rfl, t, by rw [Array.ext' e]; rfl⟩
theorem V.unpack2 {x y : Str} {px py : Pos} {k : Nat} {tp pos : Pos} {value : Expr} {Q : Flow → Loc → Led → Prop}
    (hs : ∀ cn L a ccd cl, swapsWithSole [.Tuple [.Name x px, .Name y py] k tp] value pos.line (envX cn σ.cs L a ccd cl) = Pure.pure false) (hw : ∀ cn L a ccd cl, swappedStores [.Tuple [.Name x px, .Name y py] k tp] value (envX cn σ.cs L a ccd cl) = Pure.pure none) (hx : isLoc σ x = true) (hy : isLoc σ y = true)
    (h : V w σ l led (PySem.eval value) (UnpK x y Q)) : V w σ l led (exec (.Assign [.Tuple [.Name x px, .Name y py] k tp] value pos)) Q := by
  refine .mk fun δ h' tk R D F N kR => Assign_Tuple (h.go δ h' tk _ D F N fun v h₁ t₁ l₁ led₁ F₁ N₁ q => ?_) (D.fn (isLoc_ok hx).2 ▸ hs _ _ _ _ _) (D.fn (isLoc_ok hx).2 ▸ hw _ _ _ _ _)
  obtain ⟨a, v1, v2, n, rfl, hm, q⟩ := q
  refine unpackN_ (s := ⟨_, _, _, _, _⟩) F₁ N₁ (News.isTup N₁ hm) rfl rfl rfl fun h₂ F₂ N₂ => ?_
  refine assignInOrder_cons (wpAny_assign_Name (D.store F₂ N₂ hx fun h₃ t₃ F₃ N₃ => ?_))
  refine assignInOrder_cons (wpAny_assign_Name (D.store F₃ N₃ hy fun h₄ t₄ F₄ N₄ => assignInOrder_nil ?_))
  exact kR _ _ _ _ _ F₄ N₄ q
theorem V.strFrom {v lo : Expr} {p pos : Pos} {Q : Value → Loc → Led → Prop}
    (H : V w σ l led (PySem.eval v) (kE1 w σ lo (StrFrK Q)))
    (ht : ∀ y t r, letTemporaryGo v (.str y t) r = Pure.pure () := by intro _ _ _; with_unfolding_all rfl) :
    V w σ l led (PySem.eval (.Subscript v (.Slice (some lo) none none p) pos)) Q :=
  .mk fun δ h tk R D F N kR => Subscript_ (H.go δ h tk _ D F N fun x h₁ t₁ l₁ led₁ F₁ N₁ q₁ => wpAny_Slice (wpAny_evalPart_some (q₁.go δ h₁ t₁ _ D F₁ N₁ fun a h₂ t₂ l₂ led₂ F₂ N₂ q₂ => wpAny_evalPart_none (wpAny_evalPart_none (by
    obtain ⟨y, t, i, t1, rfl, rfl, hz, k⟩ := q₂
    exact slice_strN_sn (s := ⟨h₂, _, _, _, _⟩) F₂ N₂ (fun h' t' _ F' N' => kR _ _ _ _ _ F' N' (k t')) (ht := ht _ _) (hsz := by rw [sizeLine_eq]; omega))))))
theorem V.strTwo {v lo hi : Expr} {p pos : Pos} {Q : Value → Loc → Led → Prop}
    (H : V w σ l led (PySem.eval v) (kE1 w σ lo (kE2 w σ hi (Str2K Q))))
    (ht : ∀ y t r, letTemporaryGo v (.str y t) r = Pure.pure () := by intro _ _ _; with_unfolding_all rfl) :
    V w σ l led (PySem.eval (.Subscript v (.Slice (some lo) (some hi) none p) pos)) Q :=
  .mk fun δ h tk R D F N kR => Subscript_ (H.go δ h tk _ D F N fun x h₁ t₁ l₁ led₁ F₁ N₁ q₁ => wpAny_Slice (wpAny_evalPart_some (q₁.go δ h₁ t₁ _ D F₁ N₁ fun a h₂ t₂ l₂ led₂ F₂ N₂ q₂ => wpAny_evalPart_some (q₂.go δ h₂ t₂ _ D F₂ N₂ fun c h₃ t₃ l₃ led₃ F₃ N₃ q₃ => wpAny_evalPart_none (by
    obtain ⟨y, t, i, t1, j, t2, rfl, rfl, rfl, hz, k⟩ := q₃
    exact slice_strN_ss (s := ⟨h₃, _, _, _, _⟩) F₃ N₃ (fun h' t' _ F' N' => kR _ _ _ _ _ F' N' (k t')) (ht := ht _ _) (hsz := by rw [sizeLine_eq]; omega))))))
theorem V.range3 {a b c : Int} {t u v : Tok} {Q : Value → Loc → Led → Prop} (hc : c ≠ 0) (hp : Builtin.divisionGoesByPylong (b - a) c = false) (h : ∀ (r : Addr) t u v, (∀ p ∈ led, p.1 < r) → Q (.ref r) l ((r, rngObj a b c t u v) :: led)) : V w σ l led (fun _ => PySem.call (.type "range") [.int a t, .int b u, .int c v]) Q :=
  .mk fun _ _ _ _ _ F N kR => call_range_3 hc (kR _ _ _ _ _ (F.push _) (N.push F _) (h _ _ _ _ fun p hp => Heap.lt_size (N p hp).1)) (.inl hp)
end
end
section
open PySem PySem.W PyProof.Rows
set_option maxRecDepth 100000 in
theorem c_oct (w : World) (led : Led) (x : Str) (t : Tok) (hb : x.cps.size ≤ 1000000) (hx : ∀ c ∈ x.cps.toList, c < 256) : Con w 69 [.str x t] led 1 8 (RetB led ((x.cps.map (·.toUInt8)))) := by
  have hin : KBa.In (x.cps.toList.map fun (c : Nat) => (c : Int)) := fun k hk => by
    obtain ⟨c, hc, rfl⟩ := List.mem_map.mp hk
    exact ⟨Int.natCast_nonneg c, Int.ofNat_lt.mpr (hx c hc)⟩
  k_dflt (refine' Con.of_V [(S1 "text", .str x t)] ?a ?b ?c ?d ?e ?f ?g ?h ?i ?j ?_; ((case a => k_is); (case b => k_is); (case c => rfl); (case d => rfl); (case e => rfl); (case f => rfl); (case g => rfl); (case h => rfl); (case i => decide); (case j => rfl)))
  k_extra "vst"
  refine V.compA (cl' := []) (fun _ _ _ _ => rfl) rfl (fun _ _ _ _ => rfl) (by decide) rfl rfl rfl (by decide) rfl rfl (fun _ _ => rfl) ?_
  k_extra "vst"
  refine ⟨rfl, _, _, _, fun i ys nx => (∀ p ∈ led, p ∈ nx) ∧ IntsAre ys ((x.cps.toList.take i).map fun (c : Nat) => (c : Int)), Src.str (by rw [sizeLine_eq]; omega), by omega, ⟨fun _ h => h, .nil⟩, ?_, ?_⟩
  · rintro i v ys nx I oI Cc oC D m₂ hi ⟨c, u, hc, rfl⟩ ⟨hsub, hJ⟩ hC hx off ne
    k_extra "vst"
    refine V.ord fun t' => ⟨rfl, nx, fun _ h => h, off, trivial, hsub, ?_⟩
    have e : x.cps.toList[i]? = some c := by simpa using hc
    rw [List.take_add_one, e, List.map_append]
    exact hJ.append (.cons _ _ .nil)
  · rintro ys nx D ⟨hsub, hJ⟩ off
    rw [show x.cps.toList.take x.cps.size = x.cps.toList from List.take_of_length_le (Nat.le_of_eq Array.length_toList)] at hJ
    refine ⟨(D, LCg.lst ys) :: led, fun p hp => (List.mem_cons.mp hp).elim (fun e => e ▸ .head _) (fun hp => .tail _ (hsub p hp)), ?_⟩
    k_extra "vst"
    refine V.over (τ := Unit) (fun _ => [(S1 "numbers", .ref D), (S1 "text", .str x t)]) (fun _ => (D, LCg.lst ys) :: led) (fun _ _ => True) () rfl (fun _ _ => rfl) (fun _ => rfl) trivial ?_
    k_extra "vst"
    refine ⟨_, _, _, FSrc.ints (.head _) hJ, fun _ => .head _, fun _ h => h, ⟨rfl, rfl, trivial⟩, ?_, ?_⟩
    · rintro i v ⟨⟩ u own hi ⟨k, tk, hk, rfl⟩ _ off
      have hk := (hin k (List.mem_of_getElem? hk)).2
      k_extra "vst"
      refine ite_d (fun g => absurd g (Int.not_lt.mpr (Int.le_of_lt_add_one hk))) (fun _ => ?_)
      k_extra "vst"
      exact ⟨(), trivial, fun p hp => List.mem_append_left _ hp, fun p hp => List.mem_append_right _ hp, rfl, rfl, trivial⟩
    · rintro ⟨⟩ l₂ _ hk
      refine V.names hk ?_
      k_extra "vst"
      refine V.bytesOf (.head _) hJ hin ?_ fun t' => ?_
      · rw [List.length_map, Array.length_toList]; omega
      · exact ⟨led, fun _ h => .tail _ h, rfl, _, congrArg (Value.bytes · _) (byteArr_cps _)⟩
end
section
open PySem PySem.W PyProof.Rows
theorem text_size (l : List UInt8) : ((l.map fun c => (⟨#[c.toNat]⟩ : Str)).map (·.length)).sum = l.length := by
  induction l with
  | nil => rfl
  | cons a r ih => rw [List.map_cons, List.map_cons, List.sum_cons, ih, List.length_cons, Nat.add_comm]; rfl
theorem text_join (b : Array UInt8) : Txt.join (Str.ofString "") (b.toList.map fun c => (⟨#[c.toNat]⟩ : Str)) = ⟨b.map (·.toNat)⟩ := by
  have z := join_empty (b.toList.map (·.toNat))
  rw [List.map_map] at z
  exact z.trans (congrArg Str.mk (Array.ext' (by simp)))
set_option maxRecDepth 100000 in
theorem c_text (w : World) (led : Led) (b : Array UInt8) (t : Tok) (hb : b.size ≤ 1000000) : Con w 64 [.bytes b t] led 1 8 (RetS led (⟨b.map (·.toNat)⟩)) := by
  k_dflt (refine' Con.of_V [(S1 "octets", .bytes b t)] ?a ?b ?c ?d ?e ?f ?g ?h ?i ?j ?_; ((case a => k_is); (case b => k_is); (case c => rfl); (case d => rfl); (case e => rfl); (case f => rfl); (case g => rfl); (case h => rfl); (case i => decide); (case j => rfl)))
  k_extra "vst"
  refine V.bmeth "str.join" _ (fun _ => rfl) rfl ?_
  k_extra "vst"
  refine ⟨BM.joinS, ?_⟩
  k_extra "vst"
  refine V.each (cl' := []) (fun _ _ _ _ => rfl) (by decide) rfl rfl rfl (by decide) rfl rfl (fun _ _ => rfl) (fun i ys => StrsAre ys ((b.toList.take i).map fun c => ⟨#[c.toNat]⟩)) .nil ?_
  k_extra "vst"
  refine ⟨rfl, _, _, _, Src.bytes (by rw [sizeLine_eq]; omega), by omega, fun _ _ => trivial, ?_, ?_⟩
  · rintro i v ys nx oC C m₂ hi ⟨c, u, hc, rfl⟩ hJ hs hC hCm hx
    k_extra "vst"
    refine V.chr (Int.natCast_nonneg _) (Int.ofNat_lt.mpr c.toNat_lt) fun t' => ⟨rfl, fun _ h => h, ?_⟩
    have e : b.toList[i]? = some c := by simpa using hc
    rw [List.take_add_one, e, List.map_append]
    exact hJ.append' (.cons _ _ .nil)
  · intro ys D hJ off
    rw [show b.toList.take b.size = b.toList from List.take_of_length_le (Nat.le_of_eq Array.length_toList)] at hJ
    k_extra "vst"
    refine V.joinS (.head _) hJ ?_ fun _ => ?_
    · rw [text_size, show (Str.ofString "").length = 0 by decide +kernel, Nat.mul_zero, Array.length_toList]; omega
    · exact ⟨led, fun _ h => .tail _ h, rfl, _, congrArg (Value.str · _) (text_join b)⟩
end
section
open PySem PySem.W PyProof.Rows
set_option maxRecDepth 100000 in
theorem c_val (w : World) : ∀ (n : Nat) (d : D) (led : Led) (v : Value), d.dep ≤ n → DIn led v d → d.wt ≤ 1000000 → d.asc = true →
    Con w 166 [v] led (n + 3) (8 * n + 24) (RetB led ((valOct d).toArray)) := by
  intro n
  induction n using Nat.strongRecOn with
  | ind n ih =>
  intro d led v hn hv hw ha
  k_dflt (refine' Con.of_V [(S1 "value", v)] ?a ?b ?c ?d ?e ?f ?g ?h ?i ?j ?_; ((case a => k_is); (case b => k_is); (case c => rfl); (case d => rfl); (case e => rfl); (case f => rfl); (case g => rfl); (case h => rfl); (case i => decide); (case j => rfl)))
  have E : ∀ {X : List UInt8} {t : Tok} {l' : Loc}, X = valOct d → finQ (RetB led (valOct d).toArray) (.ret (.bytes X.toArray t)) l' led := fun e => endBy (fun _ h => h) (by rw [e])
  cases hv with
  | none =>
    k_extra "vst"
    refine V.isN .none ?_
    k_extra "vst"
    exact E rfl
  | bool b =>
    k_extra "vst"
    refine V.isN (.bool _) ?_
    k_extra "vst"
    refine V.isiBool (.bool _) ?_
    cases b
    · k_extra "vst"
      exact E rfl
    · k_extra "vst"
      exact E rfl
  | int i t =>
    k_extra "vst"
    refine V.isN (.int _ _) ?_
    k_extra "vst"
    refine V.isiBool (.int _ _) ?_
    k_extra "vst"
    refine V.isiInt (.int _ _) ?_
    k_extra "vst"
    refine V.callB (c_dec w led i t (by simpa [D.wt] using hw)) (Nat.ble_eq_true_of_le (by omega)) (Nat.ble_eq_true_of_le (by omega)) fun t => ?_
    exact endBy (fun _ h => h) (by simp [valOct])
  | bytes b t =>
    simp only [D.wt] at hw
    k_extra "vst"
    refine V.isN (.bytes _ _) ?_
    k_extra "vst"
    refine V.isiBool (.bytes _ _) ?_
    k_extra "vst"
    refine V.isiInt (.bytes _ _) ?_
    k_extra "vst"
    refine V.isiBytes (.bytes _ _) ?_
    k_extra "vst"
    refine V.callB (c_hexo w led b t (by omega)) (Nat.ble_eq_true_of_le (by omega)) (Nat.ble_eq_true_of_le (by omega)) fun t => ?_
    have hz : (byteArr (hexInts b)).size = 2 * b.size := by rw [byteArr_size0, hexInts_len]
    k_extra "vst"
    refine V.addB (by simp only [hz, List.size_toArray, List.length_cons, List.length_nil]; omega) fun _ => ?_
    k_extra "vst"
    refine V.addB (by simp only [Array.size_append, hz, List.size_toArray, List.length_cons, List.length_nil]; omega) fun _ => ?_
    k_extra "vst"
    exact endBy (fun _ h => h) (by simp [valOct])
  | str x t =>
    have hasc : ∀ c ∈ x.cps.toList, c < 256 := by
      intro c hc
      have := List.all_eq_true.mp (by simpa only [D.asc] using ha) c hc
      exact of_decide_eq_true this
    simp only [D.wt] at hw
    k_extra "vst"
    refine V.isN (.str _ _) ?_
    k_extra "vst"
    refine V.isiBool (.str _ _) ?_
    k_extra "vst"
    refine V.isiInt (.str _ _) ?_
    k_extra "vst"
    refine V.isiBytes (.str _ _) ?_
    k_extra "vst"
    refine V.isiStr (.str _ _) ?_
    k_extra "vst"
    refine V.callB (c_oct w led x t (by omega) hasc) (Nat.ble_eq_true_of_le (by omega)) (Nat.ble_eq_true_of_le (by omega)) fun t => ?_
    k_extra "vst"
    refine V.addB (by simp only [Array.size_map, List.size_toArray, List.length_cons, List.length_nil]; omega) fun _ => ?_
    k_extra "vst"
    exact endBy (fun _ h => h) (by simp [valOct])
  | tup hm hall =>
    rename_i a vs nn ds
    simp only [D.dep] at hn
    obtain ⟨k, rfl⟩ : ∃ k, n = k + 1 := ⟨n - 1, by omega⟩
    have hlen := D.wts_len ds
    have hvl := hall.length
    simp only [D.wt] at hw
    simp only [D.asc] at ha
    have hj := join_vals ds
    have hl2 := valOcts_len ds
    have hl3 := glue_len [32] rfl (valOcts ds)
    clear E
    k_extra "vst"
    refine V.isN (.tup hm hall) ?_
    k_extra "vst"
    refine V.isiBool (.tup hm hall) ?_
    k_extra "vst"
    refine V.isiInt (.tup hm hall) ?_
    k_extra "vst"
    refine V.isiBytes (.tup hm hall) ?_
    k_extra "vst"
    refine V.isiStr (.tup hm hall) ?_
    k_extra "vst"
    refine V.bmeth "bytes.join" _ (fun _ => rfl) rfl ?_
    k_extra "vst"
    refine ⟨BM.join, ?_⟩
    k_extra "vst"
    refine V.each (cl' := []) (fun _ _ _ _ => rfl) (by decide) rfl rfl rfl (by decide) rfl rfl (fun _ _ => rfl) (fun i ys => BytesAre ys ((ds.take i).map fun d => (valOct d).toArray)) .nil ?_
    k_extra "vst"
    refine ⟨rfl, _, _, _, Src.tuple hm (by rw [sizeLine_eq]; omega), by omega, fun nx h => h _ hm, ?_, ?_⟩
    · intro i v ys nx oC C m₂ hi hv hJ hs hC hCm hx
      obtain ⟨hD, hi2⟩ := hall.at hi hv
      have hwi := D.wts_at ds i hi2
      have hgm : ds.getD i .none ∈ ds := by rw [getD_of hi2]; exact List.getElem_mem hi2
      have hdi := D.deps_mem hgm
      have hai := D.ascs_mem ha hgm
      k_extra "vst"
      refine V.callB (ih k (Nat.lt_succ_self k) _ _ v (by omega) (hD.mono hs) (by omega) hai) (Nat.ble_eq_true_of_le (by omega)) (Nat.ble_eq_true_of_le (by omega)) fun t => ?_
      exact ⟨rfl, fun _ h => h, by rw [take_snoc (fun d => (valOct d).toArray) .none hi2]; exact hJ.snoc _ _⟩
    · intro ys D' hJ _
      rw [hvl, List.take_length] at hJ
      k_extra "vst"
      refine V.joinB (.head _) hJ (by rw [hj, List.size_toArray]; omega) fun _ => ?_
      rw [hj]
      k_extra "vst"
      refine V.addB (by simp only [List.size_toArray, List.length_cons, List.length_nil]; omega) fun _ => ?_
      k_extra "vst"
      refine V.addB (by simp only [Array.size_append, List.size_toArray, List.length_cons, List.length_nil]; omega) fun _ => ?_
      k_extra "vst"
      exact endBy (fun _ h => .tail _ h) (by simp [valOct])
end
section
open PySem PySem.W PyProof.Rows
inductive LmK (w : World) (σ : Sta) (e : Expr) (r : List Expr) (pos : Pos) (i : String) (Q : Value → Loc → Led → Prop) (ov : Value) (l₁ : Loc) (led₁ : Led) : Prop
  | mk (a : Addr) (vs : List Value) (n : Nat) (eo : ov = .ref a) (hm : (a, lst vs n) ∈ led₁) (q : V w σ l₁ led₁ (fun env => spliced (backTo pos (starEach (e :: r) env))) (kCallM w σ (.builtin i) (.ref a) Q)) : LmK w σ e r pos i Q ov l₁ led₁
section
variable {w : World} {σ : Sta} {l : Loc} {led : Led}
theorem V.lmeth {ob e : Expr} {r : List Expr} {name : Str} {ap pos : Pos} {Q : Value → Loc → Led → Prop} {i : String} (slot : Slot "list" name i) (hty : typeOf (.builtin i) = Pure.pure (.type "method_descriptor")) (pl : Env → Sem Bool) (he : ∀ env, PySem.eval (.Call (.Attribute ob name ap) (e :: r) [] pos) env = (do
      let ov ← PySem.eval ob env
      standAt ap.atName
      let (f, first) ← holding [ov] (getMethod ov name (pl env))
      callWith pos f first (backTo pos (starEach (e :: r) env)) []))
    (hp : adPlain (e :: r) = true) (h : V w σ l led (PySem.eval ob) (LmK w σ e r pos i Q)) : V w σ l led (PySem.eval (.Call (.Attribute ob name ap) (e :: r) [] pos)) Q :=
  .mk fun δ hp' tk R D F N kR => MethodCall_ (h.go δ hp' tk _ D F N fun _ h₁ t₁ _ _ F₁ N₁ ⟨_, _, _, eo, hm, q⟩ => by
    subst eo
    exact listMethod_K N₁ hm slot hty (callWith_method1 (q.go δ h₁ t₁ _ D F₁ N₁ fun vs h₂ t₂ l₂ led₂ F₂ N₂ q₂ => q₂.go δ h₂ t₂ R D F₂ N₂ kR) (star_cons (plain_cons hp).1) (plain_args (plain_cons hp).2))) (he _)
theorem V.extendL {D b : Addr} {vs us : List Value} {n k : Nat} {Q : Value → Loc → Led → Prop} (hbD : b ≠ D) (hD : ∀ p ∈ led, p.1 ≠ D) (hz : vs.length + us.length ≤ 2000000) (h : ∀ n', Q .none l ((D, lst (vs ++ us) n') :: led)) :
    V w σ l ((b, lst us k) :: (D, lst vs n) :: led) (fun _ => PySem.call (.builtin "list.extend") [.ref D, .ref b]) Q :=
  .mk fun _ _ _ _ _ F N kR => extend_K F N hbD hD hz fun _ n' F' N' => kR _ _ _ _ _ F' N' (h n')
end
set_option maxRecDepth 100000 in
theorem c_octs (w : World) (led : Led) (p d : Addr) (t1 t2 t : Tok) (rv : Value) (x : Str) (ds : List D) (hm1 : (p, instObj 157 d) ∈ led) (hm2 : (d, progObj w t1 t2 rv x t) ∈ led) (hrv : DIn led rv (.tup ds))
    (hw : 2 + D.wts ds ≤ 1000000) (ha : D.ascs ds = true) (hdep : D.deps ds ≤ 10) (hxs : x.cps.size ≤ 1000000) (hxa : ∀ c ∈ x.cps.toList, c < 256) : Con w 171 [.ref p] led 20 200 (RetB led ((progOct x ds).toArray)) := by
  cases hrv
  rename_i ar vs nn hm hall
  have hlen := D.wts_len ds
  have hvl := hall.length
  have hl2 := join_rows_size x ds
  k_dflt (refine' Con.of_V [(S1 "program", .ref p)] ?a ?b ?c ?d ?e ?f ?g ?h ?i ?j ?_; ((case a => k_is); (case b => k_is); (case c => rfl); (case d => rfl); (case e => rfl); (case f => rfl); (case g => rfl); (case h => rfl); (case i => decide); (case j => rfl)))
  k_extra "vst"
  refine V.attr hm1 hm2 (by k_is) (by k_is) (by k_is) (by k_is) (by k_get) rfl ?_
  k_extra "vst"
  refine V.callB (c_oct w _ x _ hxs hxa) rfl rfl fun t' => ?_
  k_extra "vst"
  refine V.addB (by rw [Array.size_map]; show 5 + _ ≤ _; omega) fun _ => ?_
  k_extra "vst"
  refine V.list fun l hl => ?_
  k_extra "vst"
  refine V.expr rfl ?_
  refine V.lmeth PySem.F.slot_list_extend PySem.F.type_list_extend _ (fun _ => rfl) rfl ?_
  k_extra "vst"
  refine ⟨l, _, _, rfl, .head _, ?_⟩
  k_extra "vst"
  refine V.each (cl' := []) (fun _ _ _ _ => rfl) (by decide) rfl rfl rfl (by decide) rfl rfl (fun _ _ => rfl) (fun i ys => BytesAre ys ((ds.take i).map fun d => (valOct d).toArray)) .nil ?_
  k_extra "vst"
  refine V.attr (.tail _ hm1) (.tail _ hm2) (by k_is) (by k_is) (by k_is) (by k_is) (by k_get) rfl ?_
  refine ⟨rfl, _, _, _, Src.tuple (.tail _ hm) (by rw [sizeLine_eq]; omega), by omega, fun nx h => h _ (.tail _ hm), ?_, ?_⟩
  · intro i v ys nx oC C m₂ hi hv hJ hs hC hCm hx
    obtain ⟨hD, hi2⟩ := hall.at hi hv
    have hwi := D.wts_at ds i hi2
    have hgm : ds.getD i .none ∈ ds := by rw [getD_of hi2]; exact List.getElem_mem hi2
    k_extra "vst"
    refine V.callB (c_val w 10 _ _ v (Nat.le_trans (D.deps_mem hgm) hdep) (hD.mono fun p hp => hs p (.tail _ hp)) (by omega) (D.ascs_mem ha hgm)) rfl rfl fun t => ?_
    exact ⟨rfl, fun _ h => h, by rw [take_snoc (fun d => (valOct d).toArray) .none hi2]; exact hJ.snoc _ _⟩
  · intro ys D' hJ off
    rw [hvl, List.take_length] at hJ
    have hyl := hJ.length
    rw [List.length_map] at hyl
    k_extra "vst"
    refine V.extendL (Ne.symm (off _ (.head _))) (fun p hp => Nat.ne_of_lt (hl p hp)) (by show 1 + _ ≤ _; omega) fun n' => ?_
    k_extra "vst"
    refine V.bmeth "bytes.join" _ (fun _ => rfl) rfl ?_
    k_extra "vst"
    refine ⟨BM.join, ?_⟩
    k_extra "vst"
    refine V.joinB (.head _) (.cons _ _ hJ) (by omega) fun _ => ?_
    k_extra "vst"
    refine V.addB (Nat.le_trans (Nat.add_le_add_right hl2 1) (by omega)) fun _ => ?_
    exact ⟨led, fun _ h => .tail _ h, rfl, _, congrArg (Value.bytes · _) (Array.ext' (by rw [join_rows]))⟩
end
section
open PySem PySem.W PyProof.Rows
set_option maxRecDepth 100000 in
theorem c_word (w : World) (x d o f : Addr) (b : Array UInt8) (T : Led) (S : RdS) (led : Led) (R : RAd x d o f T) (hS : RSt w x d o f b T S led) (hb : b.size ≤ 10000) (hat : S.at_ < b.size) (hz : S.wt ≤ S.at_) :
    Con w 220 [.ref x] led 5 60 (StepOut w x d o f b T (some { S.put (.str (wordV (bI b) S.at_)) with at_ := wordE (bI b) S.at_ })) := by
  k_dflt (refine' Con.of_V [(S1 "self", .ref x)] ?a ?b ?c ?d ?e ?f ?g ?h ?i ?j ?_; ((case a => k_is); (case b => k_is); (case c => rfl); (case d => rfl); (case e => rfl); (case f => rfl); (case g => rfl); (case h => rfl); (case i => decide); (case j => rfl)))
  obtain ⟨t1, t2, t3, t4, tb, ti, hm1, hm2⟩ := hS.mem
  have hlen := bI_len b
  k_extra "vst"
  refine V.meth (by rfl) hm1 hm2 (by k_is) (by k_is) (by k_is) (by k_get) (by k_is) rfl _ (fun _ => rfl) ?_
  k_extra "vst"
  refine V.fAt hm1 hm2 ?_
  k_extra "vst"
  refine V.callI (c_endI w led x d o f t1 t2 t3 t4 tb ti _ _ _ b _ 97 122 ((S.at_ : Int) + 1) hm1 hm2 (by omega) (by omega) (by omega)) rfl rfl fun te => ?_
  k_extra "vst"
  refine V.expr rfl ?_
  refine V.meth (by rfl) hm1 hm2 (by k_is) (by k_is) (by k_is) (by k_get) (by k_is) rfl _ (fun _ => rfl) ?_
  k_extra "vst"
  refine V.cut2 ?_
  k_extra "vst"
  refine V.fOct hm1 hm2 ?_
  k_extra "vst"
  refine V.fAt hm1 hm2 ?_
  k_extra "vst"
  refine ⟨b, tb, _, _, _, _, rfl, rfl, rfl, by omega, by omega, by omega, fun c tc hc hz => ?_⟩
  k_extra "vst"
  refine V.callT (c_text w _ c tc (by omega)) rfl rfl fun ts => ?_
  k_extra "vst"
  refine V.call (c_put w x d o f b T S _ _ _ R hS (.str _ _) (by omega)) rfl rfl ?_
  rintro r led' ⟨rfl, hS'⟩
  k_extra "vst"
  refine V.assignAttr rfl ?_
  k_extra "vst"
  refine V.fSetAt hS' R fun led' hS2 => ?_
  k_extra "vst"
  refine ⟨_, fun _ h => h, _, hS2, .inr ⟨?_, rfl⟩⟩
  simp only [toNat1, Int.toNat_natCast] at hc ⊢
  rw [strOf_bI, hc]; rfl
end
section
open PySem PySem.W PyProof.Rows
theorem step_end {w : World} {l' : Loc} {x d o f : Addr} {b : Array UInt8} {T led' : Led} {res : Option RdS} {r : Value} (h : StepOut w x d o f b T res led' r) : finQ (StepOut w x d o f b T res) (.ret r) l' led' := ⟨led', fun _ h => h, h⟩
theorem step_of {w : World} {l' : Loc} {x d o f : Addr} {b : Array UInt8} {T led' : Led} {r r' : Option RdS} {fl : Flow} (e : r = r') (h : finQ (StepOut w x d o f b T r') fl l' led') : finQ (StepOut w x d o f b T r) fl l' led' := e ▸ h
theorem step_in {a b c : Addr × Obj} {T : Led} : ∀ p ∈ b :: c :: a :: T, p ∈ a :: b :: c :: T := fun p hp => (List.mem_cons.mp hp).elim (fun e => e ▸ .tail _ (.head _)) fun hp => (List.mem_cons.mp hp).elim (fun e => e ▸ .tail _ (.tail _ (.head _))) fun hp =>
  (List.mem_cons.mp hp).elim (fun e => e ▸ .head _) fun hp => .tail _ (.tail _ (.tail _ hp))
theorem step_out {a b c d e : Addr × Obj} {T : Led} : ∀ p ∈ a :: b :: d :: e :: c :: T, p ∈ a :: b :: c :: d :: e :: T := fun p hp => (List.mem_cons.mp hp).elim (fun e => e ▸ .head _) fun hp => (List.mem_cons.mp hp).elim (fun e => e ▸ .tail _ (.head _)) fun hp =>
  .tail _ (.tail _ (step_in p hp))
set_option maxRecDepth 100000 in
theorem c_step (w : World) (x d o f : Addr) (b : Array UInt8) (T : Led) (S : RdS) (led : Led) (R : RAd x d o f T) (hS : RSt w x d o f b T S led) (hb : b.size ≤ 10000) (hat : S.at_ < b.size) (hz : S.wt ≤ S.at_) :
    Con w 248 [.ref x] led 9 100 (StepOut w x d o f b T (stepP (bI b) S)) := by
  k_dflt (refine' Con.of_V [(S1 "self", .ref x)] ?a ?b ?c ?d ?e ?f ?g ?h ?i ?j ?_; ((case a => k_is); (case b => k_is); (case c => rfl); (case d => rfl); (case e => rfl); (case f => rfl); (case g => rfl); (case h => rfl); (case i => decide); (case j => rfl)))
  k_with "m0" => (refine V.meth0 (by rfl) (by k_extra "vm") (by k_extra "vm") (by k_is) (by k_is) (by k_is) (by k_get) (by k_is) _ (fun _ => rfl) ?_)
  have hd1 := R.h1
  have hd2 := R.h2
  have hd3 := R.h3
  have hlen := bI_len b
  obtain ⟨t1, t2, t3, t4, tb, ti, hm1, hm2⟩ := hS.mem
  obtain ⟨kk, hkk⟩ : ∃ kk, kk = (bI b).getD S.at_ (-1) := ⟨_, rfl⟩
  have hsp : stepP (bI b) S = if kk = 40 then some { S with at_ := S.at_ + 1, op := [] :: S.op }
    else if kk = 41 then closeP S
    else if kk = 32 then (if S.op.isEmpty then none else some { S with at_ := S.at_ + 1 })
    else if kk = 39 then some { S.put (.str (wordV (bI b) S.at_)) with at_ := wordE (bI b) S.at_ }
    else if kk = 60 then (hexR ((bI b).drop (S.at_ + 1))).map fun p => { S.put (.bytes (byteArr p.1)) with at_ := S.at_ + 1 + p.2 }
    else singleP (bI b) S kk := by rw [hkk]; rfl
  have CH : Con w 192 [.ref x] led 2 16 (RetI led (kk)) := by
    rw [hkk]; exact c_here w led x d o f t1 t2 t3 t4 tb ti b S.at_ hm1 hm2 (by omega)
  clear hkk
  k_extra "vst"
  k_extra "m0"
  refine V.callI CH rfl rfl fun t => ?_
  k_extra "vst"
  refine ite_e (fun c1 => ?_) (fun c1 => ?_)
  · have hres := hsp.trans (if_pos c1)
    k_extra "vst"
    refine V.withNews fun h₀ hp L N => ?_
    obtain ⟨t1, t2, t3, t4, tb, ti, no, nf, k, fs, new, rfl, hn, hf, hkk, hlt, hpw⟩ := hS
    obtain ⟨T1, hT1⟩ : ∃ T1, T1 = stkL k ++ (new ++ T) := ⟨_, rfl⟩
    have hTo := tail_ne N (fun p hp => .tail _ (.tail _ (.tail _ (.tail _ (List.mem_append.mpr (.inr (List.mem_append.mpr (.inl hp)))))))) hn hlt R.hT (.tail _ (.tail _ (.head _))) (fun _ _ => tup_ne_lst _ _ _ _) (by omega) (by omega)
    have hTd := tail_ne N (fun p hp => .tail _ (.tail _ (.tail _ (.tail _ (List.mem_append.mpr (.inr (List.mem_append.mpr (.inl hp)))))))) hn hlt R.hT (.tail _ (.head _)) (fun _ _ => tup_ne_dict _ _ _ _) (by omega) (by omega)
    rw [← hT1] at N hTo hTd hm1 hm2 ⊢
    have hkl := hkk.length
    have hvk := stkV_len k
    have hol := op_len S.op
    simp only [RdS.wt] at hz
    clear hm1 hm2
    refine V.append _ (fun _ => rfl) rfl ?_
    k_extra "vst"
    refine V.fOpen (.head _) (.tail _ (.head _)) ⟨o, rfl, ⟨_, _, .tail _ (.tail _ (.head _))⟩, ?_⟩
    k_extra "vst"
    rename_i l hl
    refine ⟨_, _, _, Upd.tail (Nat.ne_of_gt (hl _ (.tail _ (.tail _ (.head _))))) (Upd.tail (Nat.ne_of_lt hd2) (Upd.tail (Nat.ne_of_lt (by omega)) (Upd.head (List.forall_mem_cons.mpr ⟨Nat.ne_of_gt hd3, hTo⟩)))), by omega, ?_⟩
    k_extra "vst"
    refine V.assignAttr rfl ?_
    k_extra "vst"
    refine V.fAt (.tail _ (.head _)) (.tail _ (.tail _ (.head _))) ?_
    k_extra "vst"
    rename_i tz
    refine V.sub (led' := (x, instObj 258 d) :: (d, rdObj w t1 t2 t3 t4 b tb (S.at_ : Int) ti o f) :: (l, lst [] 0) :: (o, lst (stkV k ++ [.ref l]) (no + 1)) :: (f, lst fs nf) :: T1) step_in ?_
    have hlT1 : ∀ p ∈ T1, p.1 < l := fun p hp => hl p (.tail _ (.tail _ (.tail _ (.tail _ hp))))
    have hlf := hl (f, lst fs nf) (.tail _ (.tail _ (.tail _ (.head _))))
    have hld := hl (d, _) (.tail _ (.head _))
    refine V.setAt (Nat.ne_of_gt hd1) (List.forall_mem_cons.mpr ⟨Nat.ne_of_gt hld, List.forall_mem_cons.mpr ⟨Nat.ne_of_gt (by omega), List.forall_mem_cons.mpr ⟨Nat.ne_of_gt (by omega), hTd⟩⟩⟩) ?_
    k_extra "vst"
    have es : stkV ((l, [], 0) :: k) = stkV k ++ [.ref l] := by simp [stkV]
    have el : stkL ((l, [], 0) :: k) ++ (new ++ T) = (l, lst [] 0) :: T1 := by rw [hT1]; rfl
    refine step_of hres ⟨_, ?_, { S with at_ := S.at_ + 1, op := [] :: S.op }, ⟨t1, t2, t3, t4, tb, tz, no + 1, nf, (l, [], 0) :: k, fs, new, rfl, hn, hf, .cons .nil hkk, ?_, ?_⟩, .inr ⟨rfl, rfl⟩⟩
    · rw [es, el]
      exact step_out
    · intro q hq
      rcases List.mem_cons.mp hq with rfl | hq
      · exact hlf
      · exact hlt q hq
    · refine List.pairwise_cons.mpr ⟨fun q hq => Nat.ne_of_gt ?_, hpw⟩
      exact hlT1 (q.1, lst q.2.1 q.2.2) (by rw [hT1]; exact List.mem_append.mpr (.inl (List.mem_map.mpr ⟨q, hq, rfl⟩)))
  have hsp := hsp.trans (if_neg c1)
  k_extra "vst"
  refine ite_e (fun c2 => ?_) (fun c2 => ?_)
  · have hres := hsp.trans (if_pos c2)
    k_extra "vst"
    k_extra "m0"
    refine V.call (c_close w x d o f b T S _ R hS hb hat hz) rfl rfl fun r led' o => ?_
    exact step_of hres (step_end o)
  have hsp := hsp.trans (if_neg c2)
  k_extra "vst"
  refine ite_e (fun c3 => ?_) (fun c3 => ?_)
  · have hres := hsp.trans (if_pos c3)
    k_extra "vst"
    refine V.withNews fun h₀ hp L N => ?_
    obtain ⟨t1, t2, t3, t4, tb, ti, no, nf, rs, fs, T1, rfl, hT1, hrs, hback⟩ := hS.openT R N
    clear N hm1 hm2 CH
    refine V.assignAttr rfl ?_
    k_extra "vst"
    refine V.fAt (.head _) (.tail _ (.head _)) ?_
    k_extra "vst"
    refine V.setAt (Nat.ne_of_gt hd1) (List.forall_mem_cons.mpr ⟨Nat.ne_of_gt (by omega), List.forall_mem_cons.mpr ⟨Nat.ne_of_gt (by omega), hT1⟩⟩) ?_
    k_extra "vst"
    refine V.fOpen (.head _) (.tail _ (.head _)) ?_
    k_extra "vst"
    refine V.neNil (.tail _ (.tail _ (.tail _ (.head _)))) (.head _) ?_
    refine step_of hres ⟨_, fun _ h => .tail _ h, _, hback (S.at_ + 1) _, ?_⟩
    rw [hrs]
    cases S.op.isEmpty
    · exact .inr ⟨rfl, rfl⟩
    · exact .inl ⟨rfl, rfl⟩
  have hsp := hsp.trans (if_neg c3)
  k_extra "vst"
  refine ite_e (fun c4 => ?_) (fun c4 => ?_)
  · have hres := hsp.trans (if_pos c4)
    k_extra "vst"
    k_extra "m0"
    refine V.call (c_word w x d o f b T S _ R hS hb hat hz) rfl rfl fun r led' o => ?_
    exact step_of hres (step_end o)
  have hsp := hsp.trans (if_neg c4)
  k_extra "vst"
  refine ite_e (fun c5 => ?_) (fun c5 => ?_)
  · have hres := hsp.trans (if_pos c5)
    k_extra "vst"
    k_extra "m0"
    refine V.call (c_hexm w x d o f b T S _ R hS hb hat hz) rfl rfl fun r led' o => ?_
    exact step_of hres (step_end o)
  have hres := hsp.trans (if_neg c5)
  k_extra "vst"
  refine V.meth (by rfl) (by k_extra "vm") (by k_extra "vm") (by k_is) (by k_is) (by k_is) (by k_get) (by k_is) rfl _ (fun _ => rfl) ?_
  k_extra "vst"
  refine V.call (c_single w x d o f b T S _ kk t R hS hb hat hz) rfl rfl fun r led' o => ?_
  exact step_of hres (step_end o)
end
section
open PySem PySem.W PyProof.Rows
inductive ValOut (T : Led) (bb : Bool) (d : D) (led' : Led) (r : Value) : Prop
  | mk (new : Led) (hn : Tups new) (h : led' = new ++ T) (hv : DIn led' r (.tup [.bool bb, d])) : ValOut T bb d led' r
theorem val_end {l' : Loc} {T rest new : Led} {q : Addr} {bb : Bool} {d : D} {pr : Bool × D} {v : Value} (hn : Tups new) (hD : DIn (new ++ T) v d) (hs : ∀ p ∈ new ++ T, p ∈ rest) (e : pr = (bb, d)) : finQ (ValOut T pr.1 pr.2) (.ret (.ref q)) l' ((q, tupOf [.bool bb, v] 0) :: rest) := by
  subst e
  obtain ⟨nw, p1, p2, p3⟩ := pair_out (T := T) (bb := bb) hn hD
  exact ⟨_, List.forall_mem_cons.mpr ⟨.head _, fun z hz => .tail _ (hs z hz)⟩, nw, p1, p2, p3⟩
set_option maxRecDepth 100000 in
theorem c_value (w : World) (x d o f : Addr) (b : Array UInt8) (T : Led) (led : Led) (R : RAd x d o f T) (hS : RSt w x d o f b T rd0 led) (hb : b.size ≤ 10000) :
    Con w 255 [.ref x] led 12 140 (ValOut T (valueP (bI b)).1 (valueP (bI b)).2) := by
  k_dflt (refine' Con.of_V [(S1 "self", .ref x)] ?a ?b ?c ?d ?e ?f ?g ?h ?i ?j ?_; ((case a => k_is); (case b => k_is); (case c => rfl); (case d => rfl); (case e => rfl); (case f => rfl); (case g => rfl); (case h => rfl); (case i => decide); (case j => rfl)))
  have hlen := bI_len b
  k_extra "vst"
  refine V.pass (τ := RdS × Led) (fun _ => [(S1 "self", .ref x)]) (fun c => c.2) (fun c => RSt w x d o f b T c.1 c.2 ∧ RdOk (bI b) c.1 ∧ runP (bI b) ((bI b).length - c.1.at_) c.1 = runP (bI b) (bI b).length rd0) (fun c => b.size - c.1.at_) (rd0, led) ?_ ⟨hS, rd0_ok _, rfl⟩ (fun _ h => h) ?_
  · exact ⟨rfl, trivial⟩
  clear hS
  rintro ⟨S, led2⟩ u ⟨hS, ok, hrun⟩
  dsimp only at hS ok hrun ⊢
  obtain ⟨t1, t2, t3, t4, tb, ti, hm1, hm2⟩ := hS.mem
  have hat := ok.hat
  have hz := ok.wt
  k_extra "vst"
  refine V.fAt hm1 hm2 ?_
  k_extra "vst"
  refine V.fOct hm1 hm2 ?_
  k_extra "vst"
  refine V.bLen (by omega) fun _ => ?_
  k_extra "vst"
  refine ite_d (fun g => ?_) (fun g => ?_)
  · k_extra "vst"
    refine V.meth0 (by rfl) hm1 hm2 (by k_is) (by k_is) (by k_is) (by k_get) (by k_is) _ (fun _ => rfl) ?_
    refine V.call (c_step w x d o f b T S led2 R hS hb (by omega) hz) rfl rfl ?_
    rintro r led' ⟨S', hS', ⟨hst, rfl⟩ | ⟨hst, rfl⟩⟩
    · k_extra "vst"
      obtain ⟨new9, hn9, hsub9⟩ := hS'.news
      exact val_end hn9 .none hsub9 (valueP_none (hrun.symm.trans (run_none (by omega) hst)))
    · have hx := stepP_ok ok (by omega) hst
      have hx1 := hx.1.hat
      have hx2 := hx.2
      k_extra "vst"
      exact ⟨(S', led'), Nat.sub_lt_sub_left (Int.ofNat_lt.mp g) hx2, ⟨hS', hx.1, (run_step ok (by omega) hst).symm.trans hrun⟩, fun _ h => h, rfl, trivial⟩
  have hrE : runP (bI b) (bI b).length rd0 = some S := by rw [← hrun]; exact run_end (by omega)
  clear hm1 hm2
  obtain ⟨t1, t2, t3, t4, tb, ti, no, nf, k, fs, new, rfl, hn, hfs, hkk, hlt, hpw⟩ := hS
  have hrs := hkk.nil_iff
  have hfl := hfs.length
  have hwf := D.wts_len S.fo
  have hz2 : fs.length ≤ 100000 := by simp only [RdS.wt] at hz; omega
  have hsub : ∀ {a : Addr × Obj} p, p ∈ new ++ T → p ∈ a :: RL w x d o f t1 t2 t3 t4 b tb S.at_ ti (stkV k) no fs nf (stkL k ++ (new ++ T)) := fun p hp => .tail _ (.tail _ (.tail _ (.tail _ (.tail _ (List.mem_append_right _ hp)))))
  generalize stkV k = rs at *
  k_extra "vst"
  refine V.fOpen (.head _) (.tail _ (.head _)) ?_
  k_extra "vst"
  refine V.eqNil (.tail _ (.tail _ (.tail _ (.head _)))) (.head _) ?_
  cases hre : rs.isEmpty with
  | false =>
    k_extra "vst"
    refine V.tuple fun q hq => val_end hn .none hsub (valueP_no hrE (.inl (hrs.symm.trans hre)))
  | true =>
    k_extra "vst"
    refine V.fFound (.tail _ (.head _)) (.tail _ (.tail _ (.head _))) ?_
    k_extra "vst"
    refine V.lLen (.tail _ (.tail _ (.tail _ (.tail _ (.head _))))) (by omega) fun _ => ?_
    k_extra "vst"
    by_cases hl1 : fs.length = 1
    · obtain ⟨v0, rfl⟩ := List.length_eq_one_iff.mp hl1
      obtain ⟨d0, hd0⟩ := List.length_eq_one_iff.mp (hfl.symm.trans hl1)
      rw [hd0] at hfs
      cases hfs
      rename_i hdv _
      k_extra "vst"
      refine V.fFound (.tail _ (.head _)) (.tail _ (.tail _ (.head _))) ?_
      k_extra "vst"
      refine V.lHead (.tail _ (.tail _ (.tail _ (.tail _ (.head _))))) (by decide) (by decide) rfl ?_
      k_extra "vst"
      refine V.tuple fun q hq => val_end hn hdv hsub ?_
      rw [valueP_yes hrE (hrs.symm.trans hre) (by rw [hd0]; rfl), hd0]; rfl
    · have e : ((fs.length : Int) == 1) = false := beq_false_of_ne (by omega)
      rw [e]
      k_extra "vst"
      refine V.tuple fun q hq => val_end hn .none hsub (valueP_no hrE (.inr (by omega)))
end
section
open PySem PySem.W PyProof.Rows PySem.Calls PyProof.V PySem.Spec
section
variable {w : World} {A : Around} {E : Value → Shared → Prop} {s : Shared} {h₀ : Heap} {L : Addr} {m : Str → Option Value} {led led' : Led} {prog : Program}
theorem midSlice {value slice : Expr} {a : Addr} {v0 vz : Value} {mid : List Value} {n : Nat} {ul uu : Tok} {Q : Value → Shared → Prop} (F : Fr h₀ L s.heap m) (N : News h₀ L s.heap led) (hm : (a, lst (v0 :: (mid ++ [vz])) n) ∈ led) (hz : mid.length ≤ 1000000)
    (q : ∀ D h', Fr h₀ L h' m → News h₀ L h' ((D, lst mid 0) :: led) → (∀ p ∈ led, p.1 < D) → Q (.ref D) { s with heap := h' })
    (hs : subscripted slice false (.ref a) (.ref s.heap.objs.size) = operate [.ref s.heap.objs.size, .ref a] (getItem (.ref a) (.ref s.heap.objs.size)) := by with_unfolding_all rfl)
    (ht : ∀ r, letTemporaryGo value (.ref a) r = pure () := by intro _; with_unfolding_all rfl) :
    wpAny (model prog w) A (subscriptTail value slice (.ref a) (.ref s.heap.objs.size)) Q E { s with heap := s.heap.push { cls := .type "slice", data := .fields #[.int 1 ul, .int (-1) uu, .none] } } := by
  refine kmk_slice_lit F N (isLst N hm) (.int _ _) (.int _ _) ?_ q hs ht (by rw [List.size_toArray, sizeLine_eq]; simp; omega)
  have e : sliceBounds (some 1) (some (-1)) none (v0 :: (mid ++ [vz])).toArray.size = (((1 : Nat) : Int), ((mid.length + 1 : Nat) : Int), 1) := by
    rw [List.size_toArray]
    simp only [sliceBounds, Option.getD_none, List.length_cons, List.length_append, List.length_nil]
    simp
    refine ⟨by omega, ?_⟩
    omega
  rw [kmk_pick_nat _ e]
  simp
end
end
section
open PySem PySem.W PyProof.Rows PySem.Calls
noncomputable def rowOf (x : Array UInt8) : D := (valueP (bI x)).2
noncomputable def okLine (x : Array UInt8) : Bool := (valueP (bI x)).1 && isRow (rowOf x) && (valOct (rowOf x)).toArray == x
noncomputable def midOf (ps : List (Array UInt8)) : List (Array UInt8) := (ps.drop 1).dropLast
noncomputable def headOk (ps : List (Array UInt8)) : Bool := (ps.headD #[]).toList.take 5 == [102, 108, 97, 116, 32] && ps.getLastD #[0] == #[]
noncomputable def wordOf (ps : List (Array UInt8)) : Str := ⟨(((ps.headD #[]).toList.drop 5).map (·.toNat)).toArray⟩
noncomputable def readP (b : Array UInt8) : Except Nat (Str × List D) :=
  let ps := pieces b 10
  if headOk ps then
    match (midOf ps).findIdx? (fun x => !okLine x) with
    | some k => .error (k + 2)
    | none => .ok (wordOf ps, (midOf ps).map rowOf)
  else .error 1
theorem kind0 {d : D} {k : String} (h : (d.kind == k) = true) (hk : k ≠ "tuple") : d.dep = 0 := by
  cases d <;> first | rfl | exact absurd (beq_iff_eq.mp h).symm hk
theorem num0 {d : D} (h : d.isNum = true) : d.dep = 0 := by cases d <;> first | rfl | exact Bool.noConfusion h
theorem isS0 {d : D} {x : Str} (h : d.isS x = true) : d.dep = 0 := by cases d <;> first | rfl | exact Bool.noConfusion h
theorem inS0 {d : D} : ∀ {l : List Str}, d.inS l = true → d.dep = 0
  | x :: r, h => by
    simp only [D.inS, Bool.or_eq_true] at h
    exact h.elim isS0 inS0
theorem plain0 {k v : D} (h : isPlain k v = true) : k.dep = 0 ∧ v.dep = 0 := by
  unfold isPlain at h
  split at h
  · rename_i q
    rw [Bool.or_eq_true] at q
    exact ⟨q.elim isS0 isS0, kind0 h (by decide)⟩
  split at h
  · rename_i q
    rw [Bool.or_eq_true] at q
    refine ⟨q.elim isS0 isS0, ?_⟩
    cases v <;> first | rfl | exact Bool.noConfusion h
  split at h
  · rename_i q
    exact ⟨isS0 q, kind0 h (by decide)⟩
  · rw [Bool.and_eq_true] at h
    exact ⟨inS0 h.1, kind0 h.2 (by decide)⟩
theorem deps_le {n : Nat} : ∀ {ds : List D}, (∀ d ∈ ds, d.dep ≤ n) → D.deps ds ≤ n
  | [], _ => Nat.zero_le _
  | d :: r, h => by
    rw [D.deps]
    exact Nat.max_le.mpr ⟨h d (.head _), deps_le fun e he => h e (.tail _ he)⟩
theorem tup_le {n : Nat} {ds : List D} (h : D.deps ds ≤ n) : (D.tup ds).dep ≤ n + 1 := by rw [D.dep, Nat.add_comm]; exact Nat.succ_le_succ h
theorem tup_dep1 {ds : List D} (n : Nat) (hl : ds.length = n) (h : ∀ i, i < n → (ds.getD i .none).dep = 0) : (D.tup ds).dep ≤ 1 := tup_le (deps_le fun d hd => by
  obtain ⟨i, hi, rfl⟩ := List.mem_iff_getElem.mp hd
  have z := h i (hl ▸ hi)
  rw [List.getD_eq_getElem?_getD, List.getElem?_eq_getElem hi] at z
  exact Nat.le_of_eq z)
theorem below0 {P : Nat → Prop} : ∀ i, i < 0 → P i := fun _ h => absurd h (Nat.not_lt_zero _)
theorem belowS {P : Nat → Prop} {n : Nat} (h : ∀ i, i < n → P i) (z : P n) : ∀ i, i < n + 1 → P i := fun i hi => (Nat.lt_succ_iff_lt_or_eq.mp hi).elim (h i) fun e => e ▸ z
theorem recipe1 {d : D} (h : isRecipe d = true) : d.dep ≤ 1 := by
  unfold isRecipe at h
  split at h
  · split at h
    · exact Bool.noConfusion h
    split at h
    · rename_i q
      simp only [Bool.and_eq_true, decide_eq_true_eq] at h
      have hp := plain0 h.1.1.2
      exact tup_dep1 5 h.1.1.1 (belowS (belowS (belowS (belowS (belowS below0 (isS0 q)) hp.1) hp.2) (kind0 h.1.2 (by decide))) (num0 h.2))
    · split at h
      · exact Bool.noConfusion h
      · rename_i q
        simp only [Bool.or_eq_true, Bool.not_eq_true', decide_eq_true_eq, not_or, Bool.not_eq_false, ne_eq, Decidable.not_not] at q
        simp only [List.all_cons, List.all_nil, Bool.and_eq_true, Bool.and_true] at h
        exact tup_dep1 7 q.1.1.2 (belowS (belowS (belowS (belowS (belowS (belowS (belowS below0 (isS0 q.1.1.1)) (num0 h.1)) (inS0 q.1.2)) (num0 h.2.1)) (num0 h.2.2.1)) (kind0 q.2 (by decide))) (num0 h.2.2.2))
  · exact Bool.noConfusion h
theorem pair1 {d : D} (h : isPair d = true) : d.dep ≤ 1 := by
  unfold isPair at h
  split at h
  · simp only [Bool.and_eq_true, decide_eq_true_eq] at h
    exact tup_dep1 2 h.1.1 (belowS (belowS below0 (num0 h.1.2)) (num0 h.2))
  · exact Bool.noConfusion h
theorem all_dep {p : D → Bool} {n : Nat} (hp : ∀ d, p d = true → d.dep ≤ n) {ds : List D} (h : ds.all p = true) : D.deps ds ≤ n := deps_le fun d hd => hp d (List.all_eq_true.mp h d hd)
theorem part2 {k v : D} (h : isPart k v = true) : v.dep ≤ 2 := by
  unfold isPart at h
  split at h
  · exact Nat.le_succ_of_le (recipe1 h)
  split at h
  · unfold isRecipes at h
    split at h
    · exact tup_le (all_dep (fun d => recipe1) h)
    · exact Bool.noConfusion h
  split at h
  · unfold isSeen at h
    split at h
    · exact tup_le (all_dep (fun d => pair1) h)
    · exact Bool.noConfusion h
  split at h
  · rw [kind0 h (by decide)]; exact Nat.zero_le _
  split at h
  · rw [kind0 h (by decide)]; exact Nat.zero_le _
  · rw [num0 h]; exact Nat.zero_le _
theorem row_dep {d : D} (h : isRow d = true) : d.dep ≤ 3 := by
  unfold isRow at h
  split at h
  · rename_i x r
    split at h
    · rename_i ks _
      simp only [Bool.and_eq_true, decide_eq_true_eq] at h
      obtain ⟨hl, ha⟩ := h
      have z : D.deps (.str x :: r) ≤ 2 := deps_le fun e he => by
        rcases List.mem_cons.mp he with rfl | he
        · exact Nat.zero_le _
        · obtain ⟨i, hi, rfl⟩ := List.mem_iff_getElem.mp he
          have hz : (ks.zip r)[i]'(by rw [List.length_zip]; omega) = (ks[i]'(by omega), r[i]) := List.getElem_zip ..
          have hm : (ks[i]'(by omega), r[i]) ∈ ks.zip r := hz ▸ List.getElem_mem _
          exact part2 (List.all_eq_true.mp ha _ hm)
      exact tup_le z
    · exact Bool.noConfusion h
  · exact Bool.noConfusion h
theorem runP_ok {ks : List Int} : ∀ (n : Nat) {S S' : RdS}, RdOk ks S → runP ks n S = some S' → RdOk ks S'
  | 0, S, S', H, h => by rw [runP] at h; exact Option.some.inj h ▸ H
  | n + 1, S, S', H, h => by
    rw [runP] at h
    split at h
    · rename_i hi
      obtain ⟨S1, h1, h2⟩ := Option.bind_eq_some_iff.mp h
      exact runP_ok n (stepP_ok H hi h1).1 h2
    · exact Option.some.inj h ▸ H
theorem valueP_fine (ks : List Int) : (valueP ks).2.wt ≤ ks.length + 1 ∧ (valueP ks).2.asc = true := by
  unfold valueP
  split
  · exact ⟨by simp only [D.wt]; omega, rfl⟩
  · rename_i S hS
    have H := runP_ok _ (rd0_ok ks) hS
    split
    · have h1 := H.wt
      have h2 := H.hat
      have h3 := H.asc.1
      cases hf : S.fo with
      | nil => exact ⟨by simp [D.wt], by rfl⟩
      | cons d r =>
        rw [hf] at h3
        simp only [D.ascs, Bool.and_eq_true] at h3
        simp only [RdS.wt, hf, D.wts] at h1
        exact ⟨by simp only [List.getD_cons_zero]; omega, by simpa using h3.1⟩
    · exact ⟨by simp only [D.wt]; omega, rfl⟩
theorem between_size (b : Array UInt8) (n : Nat) (l : List Nat) : ∀ p ∈ Builtin.Bytes.between b n l, p.size ≤ b.size := by
  have key : ∀ (l : List Nat) (acc : Array (Array UInt8) × Nat), (∀ p ∈ acc.1, p.size ≤ b.size) → ∀ p ∈ (l.foldl (fun (acc : Array (Array UInt8) × Nat) p => (acc.1.push (b.extract acc.2 p), p + n)) acc).1, p.size ≤ b.size := by
    intro l
    induction l with
    | nil => intro acc h; exact h
    | cons a r ih =>
      intro acc h
      rw [List.foldl_cons]
      refine ih _ fun p hp => ?_
      rcases Array.mem_push.mp hp with hp | rfl
      · exact h p hp
      · rw [Array.size_extract]; omega
  intro p hp
  unfold Builtin.Bytes.between at hp
  have hp' : p ∈ ((l.foldl (fun (acc : Array (Array UInt8) × Nat) p => (acc.1.push (b.extract acc.2 p), p + n)) (#[], 0)).1.push (b.extract (l.foldl (fun (acc : Array (Array UInt8) × Nat) p => (acc.1.push (b.extract acc.2 p), p + n)) (#[], 0)).2 b.size)).toList := hp
  rw [Array.mem_toList_iff] at hp'
  rcases Array.mem_push.mp hp' with hp | rfl
  · exact key l (#[], 0) (fun p hp => nomatch hp) p hp
  · rw [Array.size_extract]; omega
theorem between_len (b : Array UInt8) (n : Nat) (l : List Nat) : (Builtin.Bytes.between b n l).length = l.length + 1 := by
  have key : ∀ (l : List Nat) (acc : Array (Array UInt8) × Nat), (l.foldl (fun (acc : Array (Array UInt8) × Nat) p => (acc.1.push (b.extract acc.2 p), p + n)) acc).1.size = acc.1.size + l.length := by
    intro l
    induction l with
    | nil => intro acc; rfl
    | cons a r ih =>
      intro acc
      rw [List.foldl_cons, ih, Array.size_push, List.length_cons]; omega
  show ((l.foldl (fun (acc : Array (Array UInt8) × Nat) p => (acc.1.push (b.extract acc.2 p), p + n)) (#[], 0)).1.push _).toList.length = _
  rw [Array.length_toList, Array.size_push, key]
  simp
theorem pieces_size (b : Array UInt8) (c : UInt8) : ∀ p ∈ pieces b c, p.size ≤ b.size := by
  unfold pieces
  split
  · intro p hp; rw [List.mem_singleton.mp hp]; exact Nat.le_refl _
  · exact between_size _ _ _
theorem pieces_len (b : Array UInt8) (c : UInt8) : (pieces b c).length = (occ b c).length + 1 := by
  unfold pieces
  split
  · rename_i h
    rw [List.isEmpty_iff.mp h]; rfl
  · exact between_len _ _ _
theorem BytesAre.app_inv : ∀ {bs cs : List (Array UInt8)} {vs : List Value}, BytesAre vs (bs ++ cs) → ∃ us ws, vs = us ++ ws ∧ BytesAre us bs ∧ BytesAre ws cs
  | [], _, vs, h => ⟨[], vs, rfl, .nil, h⟩
  | b :: bs, cs, _, .cons _ t r => by
    obtain ⟨us, ws, rfl, h1, h2⟩ := app_inv (bs := bs) r
    exact ⟨_ :: us, ws, rfl, .cons _ _ h1, h2⟩
theorem mid_eq {ps : List (Array UInt8)} (h : 2 ≤ ps.length) : ∃ p z, ps = p :: (midOf ps ++ [z]) := by
  match ps, h with
  | p :: q :: r, _ =>
    refine ⟨p, (q :: r).getLast (by simp), ?_⟩
    show p :: (q :: r) = _
    rw [midOf, List.drop_one, List.tail_cons, List.dropLast_concat_getLast]
theorem BytesAre.mid {vs : List Value} {ps : List (Array UInt8)} (h : BytesAre vs ps) (h2 : 2 ≤ ps.length) : ∃ v0 vz mvs, vs = v0 :: (mvs ++ [vz]) ∧ BytesAre mvs (midOf ps) := by
  obtain ⟨p, z, e⟩ := mid_eq h2
  rw [e] at h
  cases h with
  | cons _ t r =>
    obtain ⟨us, ws, rfl, h1, h2⟩ := r.app_inv
    cases h2 with
    | cons _ t' r' =>
      cases r'
      exact ⟨_, _, us, rfl, h1⟩
theorem BytesAre.get {vs : List Value} {bs : List (Array UInt8)} (h : BytesAre vs bs) : ∀ {k : Nat} (hk : k < bs.length), ∃ t, vs[k]? = some (.bytes bs[k] t) := by
  induction h with
  | nil => intro k hk; exact absurd hk (Nat.not_lt_zero _)
  | cons b t r ih =>
    intro k hk
    cases k with
    | zero => exact ⟨t, rfl⟩
    | succ k => exact ih (Nat.lt_of_succ_lt_succ hk)
theorem bI_inj {a b : List UInt8} (h : a.map (fun c => ((c.toNat : Nat) : Int)) = b.map (fun c => ((c.toNat : Nat) : Int))) : a = b := by
  induction a generalizing b with
  | nil => cases b with | nil => rfl | cons _ _ => cases h
  | cons x r ih =>
    cases b with
    | nil => cases h
    | cons y q =>
      simp only [List.map_cons, List.cons.injEq] at h
      rw [ih h.2, show x = y from UInt8.toNat_inj.mp (Int.ofNat_inj.mp h.1)]
theorem cut_of {b c : Array UInt8} {n : Nat} (h : bI c = (bI b).take n) : c.toList = b.toList.take n := by
  refine bI_inj ?_
  rw [List.map_take]
  exact h
theorem rest_of {b c : Array UInt8} {n : Nat} (h : bI c = (bI b).drop n) : c.toList = b.toList.drop n := by
  refine bI_inj ?_
  rw [List.map_drop]
  exact h
section
variable {b : Array UInt8} {k : Nat}
theorem read_err1 (h : headOk (pieces b 10) = false) : readP b = .error 1 := by
  unfold readP
  simp only [h]; rfl
theorem read_err (h : headOk (pieces b 10) = true) (hk : k < (midOf (pieces b 10)).length) (hok : ((midOf (pieces b 10)).take k).all okLine = true) (hx : okLine (midOf (pieces b 10))[k] = false) : readP b = .error (k + 2) := by
  have z : (midOf (pieces b 10)).findIdx? (fun x => !okLine x) = some k := by
    rw [List.findIdx?_eq_some_iff_getElem]
    refine ⟨hk, by simp [hx], fun j hj => ?_⟩
    have hm : (midOf (pieces b 10))[j]'(by omega) ∈ (midOf (pieces b 10)).take k := by
      rw [List.mem_take_iff_getElem]
      exact ⟨j, by omega, rfl⟩
    simp [List.all_eq_true.mp hok _ hm]
  unfold readP
  simp only [h, z, if_true]
theorem read_ok (h : headOk (pieces b 10) = true) (hok : (midOf (pieces b 10)).all okLine = true) : readP b = .ok (wordOf (pieces b 10), (midOf (pieces b 10)).map rowOf) := by
  have z : (midOf (pieces b 10)).findIdx? (fun x => !okLine x) = none := by
    rw [List.findIdx?_eq_none_iff]
    intro x hx
    simp [List.all_eq_true.mp hok x hx]
  unfold readP
  simp only [h, z, if_true]
end
theorem midOf_mem {ps : List (Array UInt8)} {p : Array UInt8} (h : p ∈ midOf ps) : p ∈ ps := List.mem_of_mem_drop ((List.dropLast_sublist _).subset h)
theorem midOf_len (ps : List (Array UInt8)) : (midOf ps).length = ps.length - 2 := by unfold midOf; simp; omega
theorem two_of_head {ps : List (Array UInt8)} (h : headOk ps = true) : 2 ≤ ps.length := by
  match ps, h with
  | [], h => exact Bool.noConfusion h
  | [p], h =>
    unfold headOk at h
    simp only [List.headD_cons, List.getLastD_cons, Bool.and_eq_true, beq_iff_eq] at h
    obtain ⟨h1, h2⟩ := h
    simp only [List.getLastD_nil] at h2
    subst h2
    simp at h1
  | _ :: _ :: _, _ => simp
end
section
open PySem PySem.W PyProof.Rows PySem.Calls
noncomputable def vI (d : D) : List Int := (valOct d).map fun c => ((c.toNat : Nat) : Int)
theorem vI_bI (d : D) : bI (valOct d).toArray = vI d := by unfold vI; show List.map _ _ = _; simp
noncomputable def runR (ks : List Int) (S : RdS) : Option RdS := runP ks (ks.length - S.at_) S
theorem runR_step {ks : List Int} {S S' : RdS} (H : RdOk ks S) (hi : S.at_ < ks.length) (hs : stepP ks S = some S') : runR ks S = runR ks S' := run_step H hi hs
theorem vI_none : vI .none = [110] := rfl
theorem vI_true : vI (.bool true) = [116] := rfl
theorem vI_false : vI (.bool false) = [102] := rfl
theorem vI_str (x : Str) : vI (.str x) = 39 :: x.cps.toList.map fun c => (((c.toUInt8).toNat : Nat) : Int) := by
  simp [vI, valOct]
theorem vI_tup (ds : List D) : vI (.tup ds) = 40 :: ((glue [32] (valOcts ds)).map fun c => ((c.toNat : Nat) : Int)) ++ [41] := by
  simp [vI, valOct]
noncomputable def Delim : List Int → Prop
  | [] => True
  | k :: _ => k = 32 ∨ k = 41
noncomputable def stepK (ks : List Int) (S : RdS) (k : Int) : Option RdS :=
  if k = 40 then some { S with at_ := S.at_ + 1, op := [] :: S.op }
  else if k = 41 then closeP S
  else if k = 32 then (if S.op.isEmpty then none else some { S with at_ := S.at_ + 1 })
  else if k = 39 then some { S.put (.str (wordV ks S.at_)) with at_ := wordE ks S.at_ }
  else if k = 60 then (hexR (ks.drop (S.at_ + 1))).map fun p => { S.put (.bytes (byteArr p.1)) with at_ := S.at_ + 1 + p.2 }
  else singleP ks S k
theorem step_k {ks : List Int} {S : RdS} {k : Int} (h : ks.getD S.at_ (-1) = k) : stepP ks S = stepK ks S k := congrArg (stepK ks S) h
theorem step_not {ks : List Int} {S : RdS} {k : Int} (h : ¬ k = 40 ∧ ¬ k = 41 ∧ ¬ k = 32 ∧ ¬ k = 39 ∧ ¬ k = 60) : stepK ks S k = singleP ks S k :=
  (if_neg h.1).trans ((if_neg h.2.1).trans ((if_neg h.2.2.1).trans ((if_neg h.2.2.2.1).trans (if_neg h.2.2.2.2))))
theorem drop_at {ks : List Int} {i : Nat} {k : Int} {r : List Int} (h : ks.drop i = k :: r) : ks.getD i (-1) = k ∧ i < ks.length ∧ ks.drop (i + 1) = r := by
  have hi : i < ks.length := Nat.lt_of_not_le fun hle => by rw [List.drop_eq_nil_of_le hle] at h; cases h
  rw [List.drop_eq_getElem_cons hi] at h
  obtain ⟨h1, h2⟩ := List.cons.inj h
  exact ⟨by rw [List.getD_eq_getElem?_getD, List.getElem?_eq_getElem hi]; exact h1, hi, h2⟩
theorem drop_run {ks a b : List Int} {i : Nat} (h : ks.drop i = a ++ b) : ks.drop (i + a.length) = b := by
  rw [← List.drop_drop, h, List.drop_left]
noncomputable def Reads (d : D) : Prop := ∀ (ks post : List Int) (S : RdS), ks.drop S.at_ = vI d ++ post → Delim post → RdOk ks S →
  runR ks S = runR ks { S.put d with at_ := S.at_ + (vI d).length } ∧ RdOk ks { S.put d with at_ := S.at_ + (vI d).length }
theorem reads_one {ks : List Int} {S S' : RdS} (H : RdOk ks S) (hi : S.at_ < ks.length) (hs : stepP ks S = some S') : runR ks S = runR ks S' ∧ RdOk ks S' := ⟨runR_step H hi hs, (stepP_ok H hi hs).1⟩
theorem reads_sign {d : D} {k : Int} (hv : vI d = [k]) (hs : ∀ ks S, singleP ks S k = some { S.put d with at_ := S.at_ + 1 }) (h : ¬ k = 40 ∧ ¬ k = 41 ∧ ¬ k = 32 ∧ ¬ k = 39 ∧ ¬ k = 60) : Reads d := fun ks post S hd _ H => by
  rw [hv] at hd ⊢
  obtain ⟨hk, hl, _⟩ := drop_at hd
  exact reads_one H hl ((step_k hk).trans ((step_not h).trans (hs ks S)))
theorem reads_none : Reads .none := reads_sign vI_none (fun _ _ => rfl) (by decide)
theorem reads_bool : ∀ b : Bool, Reads (.bool b)
  | false => reads_sign vI_false (fun _ _ => rfl) (by decide)
  | true => reads_sign vI_true (fun _ _ => rfl) (by decide)
theorem endP_run {ks mid post : List Int} {lo hi : Int} {i : Nat} (h : ks.drop i = mid ++ post) (hm : ∀ k ∈ mid, inR lo hi k = true) (hp : ∀ k, post.head? = some k → inR lo hi k = false) :
    endP ks lo hi i = i + mid.length ∧ (ks.drop i).take (endP ks lo hi i - i) = mid := by
  have key : ∀ l : List Int, (∀ k ∈ l, inR lo hi k = true) → ((l ++ post).takeWhile (inR lo hi)).length = l.length := by
    intro l
    induction l with
    | nil =>
      intro _
      cases post with
      | nil => rfl
      | cons a r => simp [List.takeWhile_cons, hp a rfl]
    | cons a r ih =>
      intro h
      rw [List.cons_append, List.takeWhile_cons, if_pos (h a (.head _)), List.length_cons, ih fun k hk => h k (.tail _ hk), List.length_cons]
  have e : endP ks lo hi i = i + mid.length := by unfold endP; rw [h, key mid hm]
  exact ⟨e, by rw [e, h, Nat.add_sub_cancel_left, List.take_left]⟩
theorem delim_not {post : List Int} {lo hi : Int} (h : Delim post) (h1 : 41 < lo) : ∀ k, post.head? = some k → inR lo hi k = false := fun k hk => by
  cases post with
  | nil => cases hk
  | cons a r =>
    have : a = k := by simpa using hk
    subst this
    unfold inR
    rcases h with rfl | rfl <;> simp <;> omega
theorem strOf_cs {x : Str} (hn : ∀ c ∈ x.cps.toList, (c.toUInt8).toNat = c) : strOf (x.cps.toList.map fun c => (((c.toUInt8).toNat : Nat) : Int)) = x := by
  obtain ⟨cps⟩ := x
  refine congrArg Str.mk (Array.ext' ?_)
  show List.map _ (List.map _ _) = _
  rw [List.map_map]
  exact (List.map_congr_left fun c hc => hn c hc).trans (List.map_id _)
theorem reads_str {x : Str} (hx : letters x = true) : Reads (.str x) := fun ks post S hd hpost H => by
  have hl : ∀ c ∈ x.cps.toList, 97 ≤ c ∧ c ≤ 122 := fun c hc => by
    have := List.all_eq_true.mp hx c hc
    simpa using this
  have hn : ∀ c ∈ x.cps.toList, (c.toUInt8).toNat = c := fun c hc => by
    have := hl c hc
    simp; omega
  have hs := strOf_cs hn
  rw [vI_str] at hd ⊢
  obtain ⟨cs, hcs⟩ : ∃ cs, cs = x.cps.toList.map fun c => (((c.toUInt8).toNat : Nat) : Int) := ⟨_, rfl⟩
  rw [← hcs] at hs hd ⊢
  have hm : ∀ k ∈ cs, inR 97 122 k = true := fun k hk => by
    rw [hcs] at hk
    obtain ⟨c, hc, rfl⟩ := List.mem_map.mp hk
    have := hl c hc
    rw [hn c hc]
    exact decide_eq_true ⟨Int.ofNat_le.mpr this.1, Int.ofNat_le.mpr this.2⟩
  obtain ⟨hk, hl, hd1⟩ := drop_at hd
  obtain ⟨he, ht⟩ := endP_run hd1 hm (delim_not hpost (by decide))
  refine reads_one H hl ((step_k hk).trans ?_)
  show some { S.put (.str (wordV ks S.at_)) with at_ := wordE ks S.at_ } = _
  rw [show wordV ks S.at_ = x from (congrArg strOf ht).trans hs, show wordE ks S.at_ = S.at_ + (39 :: cs).length from he.trans (Nat.add_right_comm _ _ _)]
noncomputable def tailI (ds : List D) : List Int := ds.flatMap fun d => 32 :: vI d
theorem vI_tup0 : vI (.tup []) = [40, 41] := rfl
theorem vI_tup1 (d : D) (ds : List D) : vI (.tup (d :: ds)) = 40 :: (vI d ++ (tailI ds ++ [41])) := by
  rw [vI_tup, valOcts, glue, valOcts_map]
  simp only [List.map_append, List.cons_append, List.append_assoc]
  congr 2
  unfold tailI vI
  induction ds with
  | nil => rfl
  | cons e r ih =>
    simp only [List.map_cons, List.flatMap_cons, List.map_append, List.append_assoc, List.cons_append, List.nil_append] at ih ⊢
    rw [ih]
    rfl
theorem delim_tail (ds : List D) (post : List Int) : Delim (tailI ds ++ 41 :: post) := by
  cases ds with
  | nil => exact .inr rfl
  | cons d r => exact .inl rfl
theorem step_close {ks : List Int} {i j : Nat} {t : List D} {op : List (List D)} {fo : List D} (h : ks.getD i (-1) = 41) : stepP ks ⟨i, t :: op, fo⟩ = some { (RdS.put ⟨j, op, fo⟩ (.tup t)) with at_ := i + 1 } :=
  (step_k (S := ⟨i, t :: op, fo⟩) h).trans (by cases op <;> rfl)
theorem tailI_cons (d : D) (ds : List D) (r : List Int) : tailI (d :: ds) ++ r = 32 :: (vI d ++ (tailI ds ++ r)) := congrArg (List.cons 32) (List.append_assoc (vI d) (tailI ds) r)
theorem tailI_end (d : D) (ds : List D) (i : Nat) : i + 1 + (vI d).length + (tailI ds).length = i + (tailI (d :: ds)).length := by
  rw [show tailI (d :: ds) = 32 :: (vI d ++ tailI ds) from rfl, List.length_cons, List.length_append, Nat.add_assoc, Nat.add_assoc, Nat.add_comm 1]
theorem reads_tail : ∀ (ds : List D), (∀ d ∈ ds, Reads d) → ∀ (ks post : List Int) (i : Nat) (t : List D) (r : List (List D)) (fo : List D), ks.drop i = tailI ds ++ 41 :: post → RdOk ks ⟨i, t :: r, fo⟩ →
    runR ks ⟨i, t :: r, fo⟩ = runR ks ⟨i + (tailI ds).length, (t ++ ds) :: r, fo⟩ ∧ RdOk ks ⟨i + (tailI ds).length, (t ++ ds) :: r, fo⟩ := by
  intro ds
  induction ds with
  | nil =>
    intro _ ks post i t r fo hd H
    rw [List.append_nil]
    exact ⟨rfl, H⟩
  | cons d ds ih =>
    intro hR ks post i t r fo hd H
    rw [tailI_cons] at hd
    obtain ⟨hk, hl, hd1⟩ := drop_at hd
    obtain ⟨r1, H1⟩ := reads_one (S' := ⟨i + 1, t :: r, fo⟩) H hl ((step_k hk).trans rfl)
    obtain ⟨r2, H2⟩ := hR d (.head _) ks _ ⟨i + 1, t :: r, fo⟩ hd1 (delim_tail _ _) H1
    obtain ⟨r3, H3⟩ := ih (fun e he => hR e (.tail _ he)) ks post (i + 1 + (vI d).length) (t ++ [d]) r fo (drop_run hd1) H2
    rw [tailI_end, List.append_assoc t [d] ds] at r3 H3
    exact ⟨r1.trans (r2.trans r3), H3⟩
theorem tup1_len (d : D) (ds : List D) (i : Nat) : i + 1 + (vI d).length + (tailI ds).length + 1 = i + (40 :: (vI d ++ (tailI ds ++ [41]))).length := by
  rw [List.length_cons, List.length_append, List.length_append, List.length_singleton]; omega
theorem reads_tup {ds : List D} (hR : ∀ d ∈ ds, Reads d) : Reads (.tup ds) := fun ks post S hd _ H => by
  obtain ⟨i, op, fo⟩ := S
  cases ds with
  | nil =>
    obtain ⟨hk, hl, hd1⟩ := drop_at (k := 40) (r := 41 :: post) hd
    obtain ⟨r1, H1⟩ := reads_one (S' := ⟨i + 1, [] :: op, fo⟩) H hl ((step_k hk).trans rfl)
    obtain ⟨hk2, hl2, _⟩ := drop_at hd1
    obtain ⟨r2, H2⟩ := reads_one (S' := { (RdS.put ⟨i, op, fo⟩ (.tup [])) with at_ := i + 1 + 1 }) H1 hl2 (step_close hk2)
    exact ⟨r1.trans r2, H2⟩
  | cons d ds =>
    rw [vI_tup1] at hd ⊢
    rw [List.cons_append, List.append_assoc, List.append_assoc] at hd
    obtain ⟨hk, hl, hd1⟩ := drop_at hd
    obtain ⟨r1, H1⟩ := reads_one (S' := ⟨i + 1, [] :: op, fo⟩) H hl ((step_k hk).trans rfl)
    obtain ⟨r2, H2⟩ := hR d (.head _) ks _ ⟨i + 1, [] :: op, fo⟩ hd1 (delim_tail ds post) H1
    obtain ⟨r3, H3⟩ := reads_tail ds (fun e he => hR e (.tail _ he)) ks post (i + 1 + (vI d).length) [d] op fo (drop_run hd1) H2
    obtain ⟨hk4, hl4, _⟩ := drop_at (drop_run (drop_run hd1))
    obtain ⟨r4, H4⟩ := reads_one (S' := { (RdS.put ⟨i, op, fo⟩ (.tup (d :: ds))) with at_ := i + 1 + (vI d).length + (tailI ds).length + 1 }) H3 hl4 (step_close hk4)
    rw [tup1_len] at r4 H4
    exact ⟨r1.trans (r2.trans (r3.trans r4)), H4⟩
theorem vI_byteArr {ks : List Int} (h : ∀ k ∈ ks, 0 ≤ k ∧ k < 256) : ((byteArr ks).toList.map fun c => ((c.toNat : Nat) : Int)) = ks := by
  unfold byteArr
  simp only [List.map_map]
  refine (List.map_congr_left fun k hk => ?_).trans (List.map_id _)
  obtain ⟨h0, h1⟩ := h k hk
  obtain ⟨n, rfl⟩ := Int.eq_ofNat_of_zero_le h0
  simp
  omega
theorem digs_ne (n : Nat) : digs n ≠ [] := by rw [digs_step]; simp
theorem numAbs_digs (n : Nat) : numAbs (digs n).reverse = n := by
  induction n using Nat.strongRecOn with
  | ind n ih =>
    rw [digs_step, List.reverse_cons]
    unfold numAbs
    rw [List.foldl_append]
    by_cases h : n / 10 = 0
    · rw [if_pos h]
      simp; omega
    · rw [if_neg h]
      have z := ih (n / 10) (by omega)
      unfold numAbs at z
      rw [z]
      simp; omega
theorem vI_int (i : Int) : vI (.int i) = (if i < 0 then [45] else []) ++ (digs i.natAbs).reverse := by
  have hin : ∀ k ∈ decInts i, 0 ≤ k ∧ k < 256 := fun k hk => by
    unfold decInts at hk
    rw [List.mem_reverse, List.mem_append] at hk
    rcases hk with hk | hk
    · have := digs_in _ k hk; omega
    · split at hk
      · have : k = 45 := by simpa using hk
        omega
      · cases hk
  show (valOct (.int i)).map _ = _
  rw [valOct, vI_byteArr hin]
  unfold decInts
  rw [List.reverse_append]
  split <;> rfl
theorem digit_in {n : Nat} : ∀ k ∈ (digs n).reverse, inR 48 57 k = true := fun k hk => by
  have := digs_in n k (List.mem_reverse.mp hk)
  unfold inR
  simp; omega
theorem step_num {ks : List Int} {S : RdS} {k n : Int} {j : Nat} (hk : ks.getD S.at_ (-1) = k) (h : k = 45 ∨ (48 ≤ k ∧ k < 58)) (hn : numP ks S.at_ = some (n, j)) : stepP ks S = some { S.put (.int n) with at_ := j } := by
  have ne : ∀ c : Int, c ≠ 45 ∧ (c < 48 ∨ 58 ≤ c) → ¬ k = c := fun c hc e => by
    subst e
    exact h.elim hc.1 fun h => hc.2.elim (Int.not_lt.mpr h.1) (Int.not_le.mpr h.2)
  refine (step_k hk).trans ((step_not ⟨ne _ (by decide), ne _ (by decide), ne _ (by decide), ne _ (by decide), ne _ (by decide)⟩).trans ?_)
  exact (if_neg (ne _ (by decide))).trans ((if_neg (ne _ (by decide))).trans ((if_neg (ne _ (by decide))).trans (congrArg (Option.map _) hn)))
theorem numP_of {ks : List Int} {i st : Nat} {n : Int} {e : Nat} (hs : numStart ks i = st) (he : endP ks 48 57 st = e) (hne : e ≠ st) (hv : numAbs ((ks.drop st).take (endP ks 48 57 st - st)) = n) : numP ks i = some (if st > i then -n else n, e) := by
  subst hs he hv
  exact if_neg hne
theorem reads_int (i : Int) : Reads (.int i) := fun ks post S hd hpost H => by
  rw [vI_int] at hd ⊢
  obtain ⟨ds, hds⟩ : ∃ ds, ds = (digs i.natAbs).reverse := ⟨_, rfl⟩
  have hin : ∀ k ∈ ds, inR 48 57 k = true := hds ▸ digit_in
  have habs : numAbs ds = i.natAbs := hds ▸ numAbs_digs _
  have hpos : 0 < ds.length := by rw [hds, List.length_reverse]; exact List.length_pos_iff.mpr (digs_ne _)
  rw [← hds] at hd ⊢
  have hne : ∀ st : Nat, st + ds.length ≠ st := fun st => Nat.ne_of_gt (Nat.lt_add_of_pos_right hpos)
  by_cases hi : i < 0
  · rw [if_pos hi] at hd ⊢
    obtain ⟨hk, hl, hd1⟩ := drop_at (k := 45) (r := ds ++ post) hd
    obtain ⟨he, ht⟩ := endP_run hd1 hin (delim_not hpost (by decide))
    have hn := numP_of (if_pos hk) he (hne _) ((congrArg numAbs ht).trans habs)
    rw [if_pos (Nat.lt_succ_self _), Int.ofNat_natAbs_of_nonpos (Int.le_of_lt hi), Int.neg_neg, Nat.add_right_comm] at hn
    exact reads_one H hl (step_num hk (.inl rfl) hn)
  · rw [if_neg hi, List.nil_append] at hd ⊢
    obtain ⟨he, ht⟩ := endP_run hd hin (delim_not hpost (by decide))
    obtain ⟨c, r, hcr⟩ : ∃ c r, ds = c :: r := by cases hd : ds with | nil => rw [hd] at hpos; exact absurd hpos (Nat.lt_irrefl _) | cons c r => exact ⟨c, r, rfl⟩
    have hc : 48 ≤ c ∧ c ≤ 57 := of_decide_eq_true (hin c (by rw [hcr]; exact .head _))
    obtain ⟨hk, hl, _⟩ := drop_at (k := c) (r := r ++ post) (by rw [hd, hcr]; rfl)
    have hn := numP_of (if_neg (by rw [hk]; rintro rfl; exact absurd hc.1 (by decide))) he (hne _) ((congrArg numAbs ht).trans habs)
    rw [if_neg (Nat.lt_irrefl _), Int.natAbs_of_nonneg (Int.not_lt.mp hi)] at hn
    exact reads_one H hl (step_num hk (.inr ⟨hc.1, Int.lt_add_one_of_le hc.2⟩) hn)
theorem hexv_dig : ∀ k : Nat, k < 16 → hexv (hexDig k) = some (k : Int) ∧ hexDig k ≠ 62 := by decide +kernel
theorem hexR_close (post : List Int) : hexR (62 :: post) = some ([], 1) := by
  cases post with
  | nil => rfl
  | cons a r => simp [hexR]
theorem hexR_hex : ∀ (ks : List Int), (∀ k ∈ ks, 0 ≤ k ∧ k < 256) → ∀ post, hexR (ks.flatMap hex2 ++ 62 :: post) = some (ks, 2 * ks.length + 1) := by
  intro ks
  induction ks with
  | nil => intro _ post; exact hexR_close post
  | cons k r ih =>
    intro h post
    obtain ⟨h0, h1⟩ := h k (.head _)
    obtain ⟨n, rfl⟩ := Int.eq_ofNat_of_zero_le h0
    have z := ih (fun k hk => h k (.tail _ hk)) post
    have a := hexv_dig (n / 16) (by omega)
    have b := hexv_dig (n % 16) (by omega)
    rw [List.flatMap_cons]
    show hexR (hexDig (n / 16) :: hexDig (n % 16) :: (r.flatMap hex2 ++ 62 :: post)) = _
    rw [hexR, if_neg a.2, a.1, b.1]
    show (hexR (r.flatMap hex2 ++ 62 :: post)).map _ = _
    rw [z]
    simp
    omega
theorem vI_bytes (b : Array UInt8) : vI (.bytes b) = 60 :: (hexInts b ++ [62]) := by
  have hin : ∀ k ∈ hexInts b, 0 ≤ k ∧ k < 256 := fun k hk => by
    unfold hexInts at hk
    obtain ⟨c, hc, hk⟩ := List.mem_flatMap.mp hk
    have := KBw.ints_in hc
    unfold hex2 at hk
    simp only [List.mem_cons, List.not_mem_nil, or_false] at hk
    rcases hk with rfl | rfl
    · have := hexDig_in (k := c.toNat / 16) (by omega); omega
    · have := hexDig_in (k := c.toNat % 16) (by omega); omega
  show (valOct (.bytes b)).map _ = _
  rw [valOct, List.map_append, List.map_cons, vI_byteArr hin]
  rfl
theorem byteArr_bI (b : Array UInt8) : byteArr (bI b) = b := by
  apply Array.ext'
  unfold byteArr bI KBw.bInts
  simp only [List.map_map]
  refine (List.map_congr_left fun k hk => ?_).trans (List.map_id _)
  simp
theorem reads_bytes (b : Array UInt8) : Reads (.bytes b) := fun ks post S hd _ H => by
  rw [vI_bytes] at hd ⊢
  rw [List.cons_append, List.append_assoc] at hd
  obtain ⟨hk, hl, hd1⟩ := drop_at hd
  refine reads_one H hl ((step_k hk).trans ?_)
  show (hexR (ks.drop (S.at_ + 1))).map _ = _
  rw [hd1, show hexInts b = (bI b).flatMap hex2 from rfl, List.singleton_append, hexR_hex (bI b) (fun k hk => KBw.ints_in hk) post, Option.map_some, byteArr_bI, List.length_cons, List.length_append, List.length_singleton, hex_len, Nat.add_right_comm, Nat.add_assoc]
mutual
theorem reads_good : ∀ (d : D), d.good = true → Reads d
  | .none, _ => reads_none
  | .bool b, _ => reads_bool b
  | .int i, _ => reads_int i
  | .str x, h => reads_str h
  | .bytes b, _ => reads_bytes b
  | .tup ds, h => reads_tup (reads_goods ds h)
theorem reads_goods : ∀ (ds : List D), D.goods ds = true → ∀ d ∈ ds, Reads d
  | [], _ => fun _ h => nomatch h
  | d :: r, h => fun e he =>
    have h1 := Bool.and_eq_true_iff.mp (show (d.good && D.goods r) = true from by simpa only [D.goods] using h)
    (List.mem_cons.mp he).elim (fun q => q ▸ reads_good d h1.1) (fun q => reads_goods r h1.2 e q)
end
theorem valueP_val {d : D} (h : d.good = true) : valueP (vI d) = (true, d) := by
  have z := (reads_good d h (vI d) [] rd0 (List.append_nil _).symm trivial (rd0_ok _)).1
  have e : runP (vI d) (vI d).length rd0 = some { (rd0.put d) with at_ := (vI d).length } := by
    refine z.trans ?_
    show runR _ { (rd0.put d) with at_ := 0 + (vI d).length } = _
    rw [Nat.zero_add]
    unfold runR
    rw [Nat.sub_self]
    rfl
  rw [valueP_yes e rfl rfl]
  rfl
theorem okLine_val {d : D} (h : d.good = true) (hr : isRow d = true) : okLine (valOct d).toArray = true ∧ rowOf (valOct d).toArray = d := by
  have hv := valueP_val h
  rw [← vI_bI] at hv
  have e : rowOf (valOct d).toArray = d := by unfold rowOf; rw [hv]
  refine ⟨?_, e⟩
  unfold okLine
  rw [e, hv, hr]
  simp
end
section
open PySem PySem.W PyProof.Rows PySem.Calls
noncomputable def splitL (c : UInt8) : List UInt8 → List (List UInt8)
  | [] => [[]]
  | x :: r => if x = c then [] :: splitL c r else ((x :: (splitL c r).headD []) :: (splitL c r).tail)
theorem splitL_ne (c : UInt8) (l : List UInt8) : splitL c l ≠ [] := by
  cases l with
  | nil => simp [splitL]
  | cons x r => unfold splitL; split <;> simp
noncomputable def cut (l : List UInt8) (i j : Nat) : List UInt8 := (l.drop i).take (j - i)
noncomputable def btw (l : List UInt8) : Nat → List Nat → List (List UInt8)
  | last, [] => [l.drop last]
  | last, p :: ps => cut l last p :: btw l (p + 1) ps
noncomputable def posn (c : UInt8) : Nat → List UInt8 → List Nat
  | _, [] => []
  | k, x :: r => if x = c then k :: posn c (k + 1) r else posn c (k + 1) r
theorem btw_posn (c : UInt8) (l : List UInt8) : ∀ (r : List UInt8) (k last : Nat), last ≤ k → l.drop k = r → k ≤ l.length → btw l last (posn c k r) = (cut l last k ++ (splitL c r).headD []) :: (splitL c r).tail
  | [], k, last, hlk, hr, hk => by
    have hkl : k = l.length := by
      have := congrArg List.length hr
      simp at this; omega
    simp only [posn, btw, splitL, List.headD_cons, List.tail_cons, List.append_nil]
    subst hkl
    unfold cut
    rw [List.take_of_length_le (by simp)]
  | x :: r, k, last, hlk, hr, hk => by
    have hk2 : k < l.length := by
      have := congrArg List.length hr
      simp at this; omega
    have hr2 : l.drop (k + 1) = r := by
      rw [← List.drop_drop, hr]; rfl
    have hx : cut l last (k + 1) = cut l last k ++ [x] := by
      unfold cut
      have e : (l.drop last).drop (k - last) = x :: r := by rw [List.drop_drop, show last + (k - last) = k by omega]; exact hr
      rw [show k + 1 - last = (k - last) + 1 by omega, List.take_add_one]
      congr 1
      have : (l.drop last)[k - last]? = some x := by
        rw [← List.head?_drop, e]; rfl
      rw [this]; rfl
    unfold posn splitL
    by_cases h : x = c
    · rw [if_pos h, if_pos h]
      unfold btw
      rw [btw_posn c l r (k + 1) (k + 1) (Nat.le_refl _) hr2 (by omega)]
      obtain ⟨p, q, e⟩ : ∃ p q, splitL c r = p :: q := by cases hs : splitL c r with | nil => exact absurd hs (splitL_ne c r) | cons p q => exact ⟨p, q, rfl⟩
      simp [e, cut]
    · rw [if_neg h, if_neg h]
      rw [btw_posn c l r (k + 1) last (by omega) hr2 (by omega), hx]
      simp
theorem ext_one {b : Array UInt8} {c x : UInt8} {k : Nat} {r : List UInt8} (h : b.toList.drop k = x :: r) : (b.extract k (k + 1) == #[c]) = decide (x = c) := by
  have e : (b.extract k (k + 1)).toList = [x] := by
    rw [Array.toList_extract]
    show ((b.toList.drop k).take (k + 1 - k)) = _
    rw [h, show k + 1 - k = 1 by omega]; rfl
  have e2 : b.extract k (k + 1) = #[x] := Array.ext' e
  rw [e2]
  by_cases h : x = c
  · subst h; simp
  · simp [h]
theorem occ_go (b : Array UInt8) (c : UInt8) : ∀ (r : List UInt8) (k m : Nat) (acc : List Nat), m ≤ k → b.toList.drop k = r →
    ((List.range' k r.length).foldl (fun (acc : List Nat × Nat) i => if i ≥ acc.2 && b.extract i (i + (#[c] : Array UInt8).size) == #[c] then (i :: acc.1, i + (#[c] : Array UInt8).size) else acc) (acc, m)).1 = (posn c k r).reverse ++ acc := by
  intro r
  induction r with
  | nil => intro k m acc _ _; rfl
  | cons x r ih =>
    intro k m acc hm hr
    have hr2 : b.toList.drop (k + 1) = r := by rw [← List.drop_drop, hr]; rfl
    rw [List.length_cons, List.range'_succ, List.foldl_cons]
    have e := ext_one (c := c) hr
    have e1 : (#[c] : Array UInt8).size = 1 := rfl
    rw [e1] at ih ⊢
    unfold posn
    by_cases h : x = c
    · have : (decide (k ≥ (acc, m).2) && b.extract k (k + 1) == #[c]) = true := by rw [e]; simp [h, hm]
      rw [if_pos this, if_pos h, ih (k + 1) (k + 1) (k :: acc) (Nat.le_refl _) hr2]
      simp
    · have : ¬ (decide (k ≥ (acc, m).2) && b.extract k (k + 1) == #[c]) = true := by rw [e]; simp [h]
      rw [if_neg this, if_neg h, ih (k + 1) m acc (by omega) hr2]
theorem occ_posn (b : Array UInt8) (c : UInt8) : occ b c = posn c 0 b.toList := by
  have z := occ_go b c b.toList 0 0 [] (Nat.le_refl _) rfl
  unfold occ Builtin.Bytes.occurrences
  have e : (List.range (b.size + 1 - (0 + (#[c] : Array UInt8).size))).map (· + 0) = List.range' 0 b.toList.length := by
    rw [show (#[c] : Array UInt8).size = 1 from rfl, show b.size + 1 - (0 + 1) = b.size by omega, List.range_eq_range', Array.length_toList]
    simp
  rw [e]
  show (_ : List Nat × Nat).1.reverse = _
  rw [z]
  simp
theorem between_go (b : Array UInt8) : ∀ (ps : List Nat) (parts : Array (Array UInt8)) (last : Nat),
    (((ps.foldl (fun (acc : Array (Array UInt8) × Nat) p => (acc.1.push (b.extract acc.2 p), p + 1)) (parts, last)).1.push (b.extract (ps.foldl (fun (acc : Array (Array UInt8) × Nat) p => (acc.1.push (b.extract acc.2 p), p + 1)) (parts, last)).2 b.size)).toList).map (·.toList) = parts.toList.map (·.toList) ++ btw b.toList last ps := by
  intro ps
  induction ps with
  | nil =>
    intro parts last
    rw [List.foldl_nil, Array.toList_push, List.map_append]
    congr 1
    show [(b.extract last b.size).toList] = [b.toList.drop last]
    rw [Array.toList_extract]
    show [(b.toList.drop last).take (b.size - last)] = _
    rw [List.take_of_length_le (by simp)]
  | cons p ps ih =>
    intro parts last
    rw [List.foldl_cons, ih]
    rw [Array.toList_push, List.map_append, List.append_assoc]
    congr 1
    rw [show btw b.toList last (p :: ps) = cut b.toList last p :: btw b.toList (p + 1) ps from rfl]
    show [(b.extract last p).toList] ++ _ = _
    rw [Array.toList_extract]
    rfl
theorem between_btw (b : Array UInt8) (ps : List Nat) : (Builtin.Bytes.between b 1 ps).map (·.toList) = btw b.toList 0 ps := between_go b ps #[] 0
theorem pieces_split (b : Array UInt8) (c : UInt8) : (pieces b c).map (·.toList) = splitL c b.toList := by
  have z := btw_posn c b.toList b.toList 0 0 (Nat.le_refl _) rfl (Nat.zero_le _)
  have e : (cut b.toList 0 0 ++ (splitL c b.toList).headD []) :: (splitL c b.toList).tail = splitL c b.toList := by
    obtain ⟨p, q, e⟩ : ∃ p q, splitL c b.toList = p :: q := by cases hs : splitL c b.toList with | nil => exact absurd hs (splitL_ne c _) | cons p q => exact ⟨p, q, rfl⟩
    rw [e]; simp [cut]
  rw [e, ← occ_posn] at z
  unfold pieces
  split
  · rename_i h
    rw [List.isEmpty_iff.mp h] at z
    simpa [btw] using z
  · rw [between_btw]; exact z
end
section
open PySem PySem.W PyProof.Rows PySem.Calls
theorem splitL_app {c : UInt8} {r : List UInt8} : ∀ {a : List UInt8}, c ∉ a → splitL c (a ++ c :: r) = a :: splitL c r
  | [], _ => by rw [List.nil_append, splitL, if_pos rfl]
  | x :: q, h => by
    have h1 : x ≠ c := fun e => h (e ▸ .head _)
    rw [List.cons_append, splitL, if_neg h1, splitL_app fun e => h (.tail _ e)]
    rfl
theorem glue_splitL (c : UInt8) : ∀ l : List UInt8, glue [c] (splitL c l) = l
  | [] => rfl
  | x :: r => by
    have z := glue_splitL c r
    obtain ⟨p, q, e⟩ : ∃ p q, splitL c r = p :: q := by cases hs : splitL c r with | nil => exact absurd hs (splitL_ne c r) | cons p q => exact ⟨p, q, rfl⟩
    rw [splitL]
    rw [e] at z ⊢
    by_cases h : x = c
    · rw [if_pos h, h, ← z]
      simp [glue]
    · rw [if_neg h, ← z]
      simp [glue]
theorem glue_snoc (s : List UInt8) (a : List UInt8) (l : List (List UInt8)) : glue s (a :: (l ++ [[]])) = glue s (a :: l) ++ s := by
  simp [glue]
theorem glue_pieces (b : Array UInt8) : glue [10] ((pieces b 10).map (·.toList)) = b.toList := by rw [pieces_split]; exact glue_splitL _ _
theorem strict_read {b : Array UInt8} {x : Str} {ds : List D} (h : readP b = .ok (x, ds)) : (progOct x ds).toArray = b := by
  unfold readP at h
  dsimp only at h
  have hh : headOk (pieces b 10) = true := by
    cases hq : headOk (pieces b 10) with
    | true => rfl
    | false => rw [hq] at h; exact absurd h (by simp)
  rw [if_pos hh] at h
  cases hf : (midOf (pieces b 10)).findIdx? (fun x => !okLine x) with
  | some k => rw [hf] at h; exact absurd h (by simp)
  | none =>
    rw [hf] at h
    have h' := Except.ok.inj h
    have hx : x = wordOf (pieces b 10) := (congrArg Prod.fst h').symm
    have hds : ds = (midOf (pieces b 10)).map rowOf := (congrArg Prod.snd h').symm
    have hall : ∀ y ∈ midOf (pieces b 10), okLine y = true := fun y hy => by
      have := List.findIdx?_eq_none_iff.mp hf y hy
      simpa using this
    obtain ⟨p, z, e⟩ := mid_eq (two_of_head hh)
    have hh2 := hh
    unfold headOk at hh2
    rw [Bool.and_eq_true, beq_iff_eq, beq_iff_eq] at hh2
    obtain ⟨h5, hz⟩ := hh2
    have hp : (pieces b 10).headD #[] = p := by rw [e]; rfl
    have hz2 : (pieces b 10).getLastD #[0] = z := by
      rw [e]
      show ((p :: midOf (pieces b 10)) ++ [z]).getLastD #[0] = z
      rw [List.getLastD_eq_getLast?, List.getLast?_concat]
      rfl
    rw [hp] at h5
    rw [hz2] at hz
    have hg := glue_pieces b
    rw [e, hz] at hg
    rw [List.map_cons, List.map_append] at hg
    rw [show List.map (fun x : Array UInt8 => x.toList) [#[]] = [[]] from rfl, glue_snoc] at hg
    apply Array.ext'
    rw [← hg]
    show progOct x ds = _
    unfold progOct
    congr 1
    have e1 : ([102, 108, 97, 116, 32] : List UInt8) ++ x.cps.toList.map (·.toUInt8) = p.toList := by
      rw [hx]
      unfold wordOf
      rw [hp]
      simp only [List.map_map]
      have : (p.toList.drop 5).map ((fun c : Nat => c.toUInt8) ∘ fun c : UInt8 => c.toNat) = p.toList.drop 5 := by
        refine (List.map_congr_left fun c _ => ?_).trans (List.map_id _)
        simp
      rw [this, ← h5, List.take_append_drop]
    have e2 : valOcts ds = (midOf (pieces b 10)).map (·.toList) := by
      rw [valOcts_map, hds, List.map_map]
      refine List.map_congr_left fun y hy => ?_
      have := hall y hy
      unfold okLine at this
      rw [Bool.and_eq_true, beq_iff_eq] at this
      show valOct (rowOf y) = y.toList
      exact congrArg Array.toList this.2
    rw [e1, e2]
end
section
open PySem PySem.W PyProof.Rows PySem.Calls
theorem splitL_glue {c : UInt8} : ∀ (l : List (List UInt8)) (a : List UInt8), c ∉ a → (∀ x ∈ l, c ∉ x) → splitL c (glue [c] (a :: l) ++ [c]) = a :: (l ++ [[]])
  | [], a, ha, _ => by
    rw [show glue [c] [a] ++ [c] = a ++ c :: [] by simp [glue], splitL_app ha]; rfl
  | b :: l, a, ha, hl => by
    rw [show glue [c] (a :: b :: l) ++ [c] = a ++ c :: (glue [c] (b :: l) ++ [c]) by simp [glue], splitL_app ha, splitL_glue l b (hl b (.head _)) fun x hx => hl x (.tail _ hx)]
    rfl
theorem no10_ints {ks : List Int} (h : ∀ k ∈ ks, 11 ≤ k ∧ k < 256) : (10 : UInt8) ∉ (byteArr ks).toList := fun hm => by
  unfold byteArr at hm
  obtain ⟨k, hk, e⟩ := List.mem_map.mp hm
  obtain ⟨h0, h1⟩ := h k hk
  obtain ⟨n, rfl⟩ := Int.eq_ofNat_of_zero_le (show 0 ≤ k by omega)
  have := congrArg UInt8.toNat e
  simp at this
  omega
theorem no10_glue {c : UInt8} (h : c ≠ 32) : ∀ (l : List (List UInt8)), (∀ x ∈ l, c ∉ x) → c ∉ glue [32] l
  | [], _ => by simp [glue]
  | a :: r, hl => by
    rw [glue, List.mem_append, not_or]
    refine ⟨hl a (.head _), fun hm => ?_⟩
    obtain ⟨x, hx, hm⟩ := List.mem_flatMap.mp hm
    rcases List.mem_append.mp hm with hm | hm
    · exact h (by simpa using hm)
    · exact hl x (.tail _ hx) hm
mutual
theorem no10 : ∀ (d : D), d.good = true → (10 : UInt8) ∉ valOct d
  | .none, _ => by decide
  | .bool b, _ => by cases b <;> decide
  | .int i, _ => by
    refine no10_ints fun k hk => ?_
    unfold decInts at hk
    rw [List.mem_reverse, List.mem_append] at hk
    rcases hk with hk | hk
    · have := digs_in _ k hk; omega
    · split at hk
      · have : k = 45 := by simpa using hk
        omega
      · cases hk
  | .str x, h => by
    rw [valOct, List.mem_cons, not_or]
    refine ⟨by decide, fun hm => ?_⟩
    obtain ⟨c, hc, e⟩ := List.mem_map.mp hm
    have hl := List.all_eq_true.mp (show letters x = true from h) c hc
    have hl : 97 ≤ c ∧ c ≤ 122 := by simpa using hl
    have := congrArg UInt8.toNat e
    simp at this
    omega
  | .bytes b, _ => by
    rw [valOct, List.mem_append, List.mem_cons]
    rintro ((h | h) | h)
    · exact absurd h (by decide)
    · refine no10_ints (fun k hk => ?_) h
      unfold hexInts at hk
      obtain ⟨c, hc, hk⟩ := List.mem_flatMap.mp hk
      have := KBw.ints_in hc
      unfold hex2 at hk
      simp only [List.mem_cons, List.not_mem_nil, or_false] at hk
      rcases hk with rfl | rfl
      · have := hexDig_in (k := c.toNat / 16) (by omega); omega
      · have := hexDig_in (k := c.toNat % 16) (by omega); omega
    · exact absurd h (by decide)
  | .tup ds, h => by
    rw [valOct, List.mem_append, List.mem_cons]
    rintro ((h1 | h1) | h1)
    · exact absurd h1 (by decide)
    · rw [valOcts_map] at h1
      refine no10_glue (by decide) _ (fun x hx => ?_) h1
      obtain ⟨d, hd, rfl⟩ := List.mem_map.mp hx
      exact no10s ds h d hd
    · exact absurd h1 (by decide)
theorem no10s : ∀ (ds : List D), D.goods ds = true → ∀ d ∈ ds, (10 : UInt8) ∉ valOct d
  | [], _ => fun _ h => nomatch h
  | d :: r, h => fun e he =>
    have h1 := Bool.and_eq_true_iff.mp (show (d.good && D.goods r) = true from by simpa only [D.goods] using h)
    (List.mem_cons.mp he).elim (fun q => q ▸ no10 d h1.1) (fun q => no10s r h1.2 e q)
end
theorem map_inj {l : List (Array UInt8)} {m : List (List UInt8)} (h : l.map (·.toList) = m) : l = m.map (·.toArray) := by
  subst h
  rw [List.map_map]
  exact ((List.map_congr_left fun x _ => by simp).trans (List.map_id _)).symm
theorem read_back {x : Str} {ds : List D} (hx : letters x = true) (hg : D.goods ds = true) (hr : ∀ d ∈ ds, isRow d = true) : readP (progOct x ds).toArray = .ok (x, ds) := by
  have hc : ∀ c ∈ x.cps.toList, 97 ≤ c ∧ c ≤ 122 := fun c hc => by
    have := List.all_eq_true.mp hx c hc
    simpa using this
  have hhead : (10 : UInt8) ∉ ([102, 108, 97, 116, 32] : List UInt8) ++ x.cps.toList.map (·.toUInt8) := fun hm => by
    rcases List.mem_append.mp hm with hm | hm
    · exact absurd hm (by decide)
    · obtain ⟨c, hcm, e⟩ := List.mem_map.mp hm
      have := hc c hcm
      have := congrArg UInt8.toNat e
      simp at this
      omega
  have hp : (pieces (progOct x ds).toArray 10) = ((([102, 108, 97, 116, 32] : List UInt8) ++ x.cps.toList.map (·.toUInt8)) :: (valOcts ds ++ [[]])).map (·.toArray) := by
    refine map_inj ?_
    rw [pieces_split]
    show splitL 10 (progOct x ds) = _
    unfold progOct
    refine splitL_glue _ _ hhead fun y hy => ?_
    rw [valOcts_map] at hy
    obtain ⟨d, hd, rfl⟩ := List.mem_map.mp hy
    exact no10s ds hg d hd
  have hm : midOf (pieces (progOct x ds).toArray 10) = ds.map fun d => (valOct d).toArray := by
    rw [hp, midOf, List.map_cons, List.drop_one, List.tail_cons, List.map_append]
    show (_ ++ [_]).dropLast = _
    rw [List.dropLast_concat, valOcts_map, List.map_map]
    rfl
  have hh : headOk (pieces (progOct x ds).toArray 10) = true := by
    unfold headOk
    rw [hp]
    rw [Bool.and_eq_true, beq_iff_eq, beq_iff_eq]
    refine ⟨rfl, ?_⟩
    rw [List.map_cons, List.map_append, ← List.cons_append, List.getLastD_eq_getLast?]
    rw [show List.map (fun x : List UInt8 => x.toArray) [[]] = [#[]] from rfl, List.getLast?_concat]
    rfl
  have hl : ∀ d ∈ ds, okLine (valOct d).toArray = true ∧ rowOf (valOct d).toArray = d := fun d hd => okLine_val (by
    clear hp hm hh hr
    induction ds with
    | nil => cases hd
    | cons e r ih =>
      have h1 := Bool.and_eq_true_iff.mp (show (e.good && D.goods r) = true from by simpa only [D.goods] using hg)
      rcases List.mem_cons.mp hd with rfl | hd
      · exact h1.1
      · exact ih h1.2 hd) (hr d hd)
  rw [read_ok hh (by
    rw [hm, List.all_map, List.all_eq_true]
    exact fun d hd => (hl d hd).1)]
  have e1 : wordOf (pieces (progOct x ds).toArray 10) = x := by
    unfold wordOf
    rw [hp]
    obtain ⟨cps⟩ := x
    congr 1
    apply Array.ext'
    show List.map _ (List.map _ _) = _
    rw [List.map_map]
    refine (List.map_congr_left fun c hcm => ?_).trans (List.map_id _)
    have := hc c hcm
    simp
    omega
  have e2 : (midOf (pieces (progOct x ds).toArray 10)).map rowOf = ds := by
    rw [hm, List.map_map]
    exact (List.map_congr_left fun d hd => (hl d hd).2).trans (List.map_id _)
  rw [e1, e2]
theorem told_in {b : Array UInt8} {k : Nat} (h : readP b = .error k) : 1 ≤ k ∧ k ≤ (occ b 10).length + 2 := by
  unfold readP at h
  dsimp only at h
  split at h
  · split at h
    · rename_i j hj
      have hk : j + 2 = k := Except.error.inj h
      obtain ⟨hlt, _⟩ := List.findIdx?_eq_some_iff_getElem.mp hj
      rw [midOf_len, pieces_len] at hlt
      omega
    · exact absurd h (by simp)
  · have hk : 1 = k := Except.error.inj h
    omega
end
section
open PySem PySem.W PyProof.Rows PySem.Calls
noncomputable abbrev toldD (w : World) (tk t : Tok) (n : Int) : Obj := dictOf [⟨PyData.keyHash w.params (Str.ofString "told"), .str (Str.ofString "told") tk, .int n t⟩] 1
noncomputable def ConX (w : World) (f : Addr) (vs : List Value) (led : Led) (dk uk : Nat) (Out : Led → Value → Prop) (OutX : Int → Prop) : Prop :=
  ∀ (mean : ExcName → Option Value) (mg mb : Str → Option Value) (dp un : Nat) (cn : Str) (cs : Scope) (a : Addr) (ccd : Value) (cl : List (Str × Addr)) (outer : List Env) (A₀ : Around) (base h₀ : Heap) (L : Addr) (m : Str → Option Value) (s : Shared)
    (Q E : Value → Shared → Prop),
    Below A₀ base outer h₀ → Fr h₀ L s.heap m → (hd.heap_1 w.params).In h₀ → News h₀ L s.heap led → Top hd.view_39 LW mean mg mb h₀ → cs.kind = .function → dp + dk < recursionLimit → un + uk < cLine →
    (∀ r led' h' tk', Fr h₀ L h' m → News h₀ L h' led' → Out led' r → Q r { s with heap := h', toks := tk' }) →
    (∀ g e t d tk ti n news h' tk', Fr h₀ L g m → (∀ p ∈ led, p ∈ news) → (d, toldD w tk ti n) ∈ news → OutX n → RaisedB (envX cn cs L a ccd cl :: outer) g e 45 t d news h' → g.UpToSlots h' → E (.ref e) { s with heap := h', toks := tk' }) →
    wpAny (model PySem.Challenge.rw_nt0496_01.row.prog w) (ktrTop dp un (some []) cn cs L a ccd cl outer) (call (.ref f) vs) Q E s
theorem bad45 (w : World) : badIn (hd.heap_1 w.params) 45 = true := by kernel_rfl
noncomputable abbrev bm45 : List Value := [.ref 32, .type "Exception", .type "BaseException", .type "object"]
theorem exc_mk {K : Frag} {C : Addr} {bm : List Value} {newId : String} {nm qn N bs hd sn sub ab col dd k0 k1 k2 k3 k5} (h : K.lookup C = some (excClassObj nm qn C N bs bm hd sn sub ab col dd k0 k1 k2 k3 k5 newId)) : excIn2 K C bm newId := .mk _ _ _ _ _ _ _ _ _ _ _ _ _ _ _ h
theorem exc45 (w : World) : excIn2 (hd.heap_1 w.params) 45 bm45 "Exception.__new__" := by
  k_dflt (refine' exc_mk ?a; (case a => k_is))
section
variable {prog : Program} {w : World} {A : Around} {E : Value → Shared → Prop} {s : Shared} {L x t : Addr} {h₀ : Heap} {m : Str → Option Value} {news rest : Led}
theorem raise45 {env : Env} {c : Expr} {pos : Pos} {Q : Flow → Shared → Prop} (hh : A.handled = none) (h : wpAny (model prog w) A (eval c env) (RaiseOk (hd.heap_1 w.params) 45 E) E s) :
    wpAny (model prog w) A (exec (.Raise (some c) none pos) env) Q E s := raise_at hh (by decide) (exc45 w) h
theorem call45 {Q : Value → Shared → Prop} {pos : List Value} {fI : Addr} (F : Fr h₀ L s.heap m) (X₀ : (hd.heap_1 w.params).In h₀) (N : News h₀ L s.heap news) (hi : findIn (hd.heap_1 w.params) (.ref 45) "__init__" = some (some (.ref fI))) (hf : isFn (hd.heap_1 w.params) (.ref fI) = true) (hr : pos.length ≤ 100)
    (h : ∀ x t h', Fr h₀ L h' m → News h₀ L h' ((x, excObj 45 t) :: (t, argsObj pos) :: news) → (∀ p ∈ news, p.1 < t) → t < x →
      codeAny (model prog w) (A.under (.builtin "type.__call__" ⟨.ref 45 :: pos, []⟩)) (.call (.ref fI) ⟨.ref x :: pos, []⟩) (InitBack x fun r s' => match r with | .ok (.ret v) => Q v s' | .ok _ => False | .error e => E e s') { s with heap := h' }) :
    wpAny (model prog w) A (call (.ref 45) pos) Q E s := call_bad F X₀ N (bad45 w) hi hf hr h
theorem told45 {Q : Unit → Shared → Prop} {name : Str} {v : Value} (F : Fr h₀ L s.heap m) (X₀ : (hd.heap_1 w.params).In h₀) (N : News h₀ L s.heap ((x, excObj 45 t) :: rest)) (ht : takerIn (hd.heap_1 w.params) 45 name = some none)
    (hs : findIn (hd.heap_1 w.params) (.ref 45) "__setattr__" = some (some (.builtin "object.__setattr__"))) (hr : ∀ p ∈ rest, p.1 ≠ x)
    (q : ∀ d h' tk' tk, x < d → (∀ p ∈ rest, p.1 < d) → Fr h₀ L h' m → News h₀ L h' ((x, excObjD 45 t d) :: (d, dictOf [⟨PyData.keyHash w.params name, .str name tk, v⟩] 1) :: rest) → Q () { s with heap := h', toks := tk' }) :
    wpAny (model prog w) A (setAttr (.ref x) name v) Q E s := set_told F X₀ N (bad45 w) ht hs hr q
theorem RSt.start {w : World} {x d o f : Addr} {b : Array UInt8} {T : Led} {t1 t2 t3 t4 tb ti : Tok} : RSt w x d o f b T rd0 (RL w x d o f t1 t2 t3 t4 b tb 0 ti [] 0 [] 0 T) :=
  ⟨t1, t2, t3, t4, tb, ti, 0, 0, [], [], [], rfl, (fun _ h => nomatch h), .nil, .nil, (fun _ h => nomatch h), .nil⟩
theorem DIn.pair_open {led : Led} {v : Value} {b : Bool} {d : D} (h : DIn led v (.tup [.bool b, d])) : ∃ q n v', v = .ref q ∧ (q, tupOf [.bool b, v'] n) ∈ led ∧ DIn led v' d := by
  cases h with
  | tup hm ha =>
    cases ha with
    | cons h1 h2 =>
      cases h1
      cases h2 with
      | cons h3 h4 =>
        cases h4
        exact ⟨_, _, _, rfl, hm, h3⟩
theorem bne_tr {α : Type} [BEq α] {a b : α} (h : (a != b) = true) : (a == b) = false := by unfold bne at h; simpa using h
theorem bne_fa {α : Type} [BEq α] {a b : α} (h : (a != b) = false) : (a == b) = true := by unfold bne at h; simpa using h
theorem word_of {ps : List (Array UInt8)} {p0 c : Array UInt8} (hg : ps.headD #[] = p0) (h : bI c = (bI p0).drop 5) : (⟨c.map (·.toNat)⟩ : Str) = wordOf ps := by
  unfold wordOf
  rw [hg, ← rest_of h]
  congr 1
  apply Array.ext'
  simp
theorem in_keeps {K : Frag} {h₀ h : Heap} {L : Addr} {m : Str → Option Value} (X : K.In h₀) (F : Fr h₀ L h m) : K.In h := X.keeps F.keep
theorem ne_t9 {t9 x9 : Addr} {o : Obj} {l : Led} (l6 : t9 < x9) (l5 : ∀ p ∈ l, p.1 < t9) : ∀ p ∈ (t9, o) :: l, p.1 ≠ x9 := fun p hp => (List.mem_cons.mp hp).elim (fun e => by rw [e]; exact Nat.ne_of_lt l6) fun hp => Nat.ne_of_lt (Nat.lt_trans (l5 p hp) l6)
end
end
section
open PySem PySem.W PyProof.Rows PySem.Calls
section
variable {w : World} {σ : Sta} {l : Loc} {led : Led}
theorem V.setNew {C x d : Addr} {es : List DictEntry} {es' : Tok → List DictEntry} {n n' : Nat} {name : Str} {v : Value} {R : Led} {Q : Unit → Loc → Led → Prop} (hx : x ≠ d) (hR : ∀ p ∈ R, p.1 ≠ d)
    (hs : findIn (hd.heap_1 w.params) (.ref C) "__setattr__" = some (some (.builtin "object.__setattr__"))) (hp : plainOver (hd.heap_1 w.params) C = true) (ht : takerIn (hd.heap_1 w.params) C name = some none) (hh : hasDictIn (hd.heap_1 w.params) C = true) (hl : (getL name es).isSome = true)
    (e : ∀ t, (putL name (PyData.keyHash w.params name) (.str name t) v es, putN name es n) = (es' t, n')) (hz : ∀ t, Nat.ble (es' t).length 1000 = true) (h : ∀ t, Q () l ((x, instObj C d) :: (d, dictOf (es' t) n') :: R)) :
    V w σ l ((x, instObj C d) :: (d, dictOf es n) :: R) (fun _ => setAttr (.ref x) name v) Q :=
  .mk fun δ hp' tk _ D F N kR => set_dict (s := ⟨hp', δ.g, δ.d, tk, δ.o⟩) F D.X N (InstAt.of_news N (.head _) (.tail _ (.head _))) rfl hs hp ht hh hl (e _) (Upd.tail hx (Upd.head hR)) (Nat.le_of_ble_eq_true (hz _)) fun _ F' N' => kR _ _ _ _ _ F' N' (h _)
end
theorem under_type {dp un : Nat} {cn : Str} {cs : Scope} {L a : Addr} {ccd : Value} {cl : List (Str × Addr)} {outer : List Env} {C : Addr} {vs : List Value} : (ktrTop dp un (some []) cn cs L a ccd cl outer).under (.builtin "type.__call__" ⟨.ref C :: vs, []⟩) = ktrTop (dp + 1) (un + 1) (some []) cn cs L a ccd cl outer := rfl
inductive clsQ (Out : Led → Value → Prop) (x : Addr) (fl : Flow) (l : Loc) (led' : Led) : Prop
  | mk (e : retV fl = .none) (led'' : Led) (hs : ∀ p ∈ led'', p ∈ led') (o : Out led'' (.ref x)) : clsQ Out x fl l led'
theorem Con.of_cls {C fI : Addr} {vs : List Value} {led : Led} {dk uk : Nat} {Out : Led → Value → Prop} {name qual : Str} {params : Arguments} {body : List Stmt} {scope : Scope} {dV kV doc pm cdv ct oc : Value} {an od : Option Addr} {osl : Array (Option Value)} {binds : Addr → List (Str × Value)} (l : Addr → Loc)
    (hm : makesIn (hd.heap_1 w.params) C = true) (hi : findIn (hd.heap_1 w.params) (.ref C) "__init__" = some (some (.ref fI))) (hf : isFn (hd.heap_1 w.params) (.ref fI) = true)
    (ho : (hd.heap_1 w.params).lookup fI = some ⟨oc, od, .func (fnOf name qual params body scope dV kV doc pm an cdv ct), osl⟩) (hcd : codeIn (hd.heap_1 w.params) cdv qual = true)
    (hbind : ∀ x, bindArgs (fnOf name qual params body scope dV kV doc pm an cdv ct) ⟨.ref x :: vs, []⟩ = pure (binds x)) (hloc : ∀ x, ((binds x).all fun y => decide (scope.names.lookup y.1 = some .local)) = true) (hdb : noDbg scope.names = true)
    (hco : scope.isCoroutine = false) (hgen : scope.isGenerator = false) (hk : scope.kind = .function) (hcell : ∀ x ∈ scope.names, x.2 ≠ .cell)
    (hl : ∀ x, (binds x).reverse = l x) (h : ∀ x d : Addr, (∀ p ∈ led, p.1 < d) → d < x → V w { cs := scope, dk := dk, uk := uk } (l x) ((x, instObj C d) :: (d, dictOf [] 0) :: led) (PySem.execs body) (clsQ Out x)) : Con w C vs led (dk + 3) (uk + 12) Out := by
  intro mean mg mb dp un cn cs a ccd cl outer A₀ base h₀ L m s Q E B F X N Tp hkc hd hu hret
  refine call_cls (C := C) F X N hm hi hf ?_
  intro x d h₁ F₁ N₁ l1 l2
  rw [under_type]
  refine code_def B F₁ X N₁ Tp rfl rfl hkc ho hcd (Nat.lt_of_le_of_lt (by show dp + 1 ≤ dp + (dk + 3); omega) hd) (BindsTo.of_eq (hbind x)) (locs (hloc x)) ?_ hco hgen hk hcell
  intro g' L' h' FG' F' N' B' X' T'
  rw [hl x] at F'
  refine (h x d l1 l2).go ⟨mean, mg, mb, dp + 2, un + 4, qual, scope, fI, cdv, [], envX cn cs L a ccd cl :: outer, _, base, g', L', s.gens, s.drawn, s.os, _, envX qual scope L' fI cdv []⟩ _ _ _ ⟨B', X', T', Nat.lt_of_le_of_lt (by show dp + 2 + dk ≤ dp + (dk + 3); omega) hd, Nat.lt_of_le_of_lt (by show un + 4 + uk ≤ un + (uk + 12); omega) hu, hk, hk, rfl, rfl, rfl, rfl, hdb, fun _ => rfl, (fun h => nomatch h), (fun h => nomatch h), trivial⟩ F' N'
    fun fl h'' tk'' l'' led'' F'' N'' o => leaveK_ F'' N'' fun F1 N1 => ?_
  obtain ⟨e, led3, hs, o⟩ := o
  cases fl <;> exact ⟨e, hret _ _ _ _ F1 (cb_drop N1 hs) o⟩
end
section
open PySem PySem.W PyProof.Rows PySem.Calls
inductive BadMade (w : World) (led : Led) (n : Int) (ti : Tok) (led' : Led) (r : Value) : Prop
  | mk (x t d : Addr) (tk : Tok) (hr : r = .ref x) (h : led' = (x, excObjD 45 t d) :: (d, toldD w tk ti n) :: (t, argsObj [.int n ti]) :: led) (hx : ∀ p ∈ (d, toldD w tk ti n) :: (t, argsObj [.int n ti]) :: led, p.1 ≠ x) : BadMade w led n ti led' r
theorem V.setTold {w : World} {σ : Sta} {l : Loc} {x t : Addr} {n : Int} {ti : Tok} {rest : Led} {Q : Unit → Loc → Led → Prop} (ht : takerIn (hd.heap_1 w.params) 45 (Str.ofString "told") = some none)
    (hs : findIn (hd.heap_1 w.params) (.ref 45) "__setattr__" = some (some (.builtin "object.__setattr__"))) (hr : ∀ p ∈ rest, p.1 ≠ x)
    (q : ∀ d tk, @LT.lt Nat _ x d → Q () l ((x, excObjD 45 t d) :: (d, toldD w tk ti n) :: rest)) : V w σ l ((x, excObj 45 t) :: rest) (fun _ => setAttr (.ref x) (Str.ofString "told") (.int n ti)) Q :=
  .mk fun δ hp' tk _ D F N kR => told45 (s := ⟨hp', δ.g, δ.d, tk, δ.o⟩) F D.X N ht hs hr fun _ _ _ _ l1 _ F' N' => kR _ _ _ _ _ F' N' (q _ _ l1)
theorem Con.of_bad {w : World} {fI : Addr} {vs : List Value} {led : Led} {dk uk : Nat} {Out : Led → Value → Prop} {name qual : Str} {params : Arguments} {body : List Stmt} {scope : Scope} {dV kV doc pm cdv ct oc : Value} {an od : Option Addr} {osl : Array (Option Value)} {binds : Addr → List (Str × Value)} (l : Addr → Loc)
    (hi : findIn (hd.heap_1 w.params) (.ref 45) "__init__" = some (some (.ref fI))) (hf : isFn (hd.heap_1 w.params) (.ref fI) = true)
    (ho : (hd.heap_1 w.params).lookup fI = some ⟨oc, od, .func (fnOf name qual params body scope dV kV doc pm an cdv ct), osl⟩) (hcd : codeIn (hd.heap_1 w.params) cdv qual = true)
    (hbind : ∀ (x : Addr) (s : Shared), (hd.heap_1 w.params).In s.heap → BindsTo s (fnOf name qual params body scope dV kV doc pm an cdv ct) ⟨.ref x :: vs, []⟩ (binds x)) (hloc : ∀ x, ((binds x).all fun y => decide (scope.names.lookup y.1 = some .local)) = true) (hdb : noDbg scope.names = true)
    (hco : scope.isCoroutine = false) (hgen : scope.isGenerator = false) (hk : scope.kind = .function) (hcell : ∀ x ∈ scope.names, x.2 ≠ .cell) (hr : vs.length ≤ 100)
    (hl : ∀ x, (binds x).reverse = l x) (h : ∀ x t : Addr, (∀ p ∈ led, p.1 < t) → t < x → V w { cs := scope, dk := dk, uk := uk } (l x) ((x, excObj 45 t) :: (t, argsObj vs) :: led) (PySem.execs body) (clsQ Out x)) : Con w 45 vs led (dk + 3) (uk + 12) Out := by
  intro mean mg mb dp un cn cs a ccd cl outer A₀ base h₀ L m s Q E B F X N Tp hkc hd hu hret
  refine call45 F X N hi hf hr ?_
  intro x d h₁ F₁ N₁ l1 l2
  refine code_def B F₁ X N₁ Tp rfl rfl hkc ho hcd (Nat.lt_of_le_of_lt (by show dp + 1 ≤ dp + (dk + 3); omega) hd) (hbind x _ (X.keeps F₁.keep)) (locs (hloc x)) ?_ hco hgen hk hcell
  intro g' L' h' FG' F' N' B' X' T'
  rw [hl x] at F'
  refine (h x d l1 l2).go ⟨mean, mg, mb, dp + 2, un + 4, qual, scope, fI, cdv, [], envX cn cs L a ccd cl :: outer, _, base, g', L', s.gens, s.drawn, s.os, _, envX qual scope L' fI cdv []⟩ _ _ _ ⟨B', X', T', Nat.lt_of_le_of_lt (by show dp + 2 + dk ≤ dp + (dk + 3); omega) hd, Nat.lt_of_le_of_lt (by show un + 4 + uk ≤ un + (uk + 12); omega) hu, hk, hk, rfl, rfl, rfl, rfl, hdb, fun _ => rfl, (fun h => nomatch h), (fun h => nomatch h), trivial⟩ F' N'
    fun fl h'' tk'' l'' led'' F'' N'' o => leaveK_ F'' N'' fun F1 N1 => ?_
  obtain ⟨e, led3, hs, o⟩ := o
  cases fl <;> exact ⟨e, hret _ _ _ _ F1 (cb_drop N1 hs) o⟩
set_option maxRecDepth 100000 in
theorem c_bad (w : World) (led : Led) (n : Int) (ti : Tok) : Con w 45 [.int n ti] led 3 30 (BadMade w led n ti) := by
  k_dflt (refine' Con.of_bad (fun y => [(S1 "told", .int n ti), (S1 "self", .ref y)]) ?a ?b ?c ?d ?f ?g ?h ?i ?j ?k ?l ?e ?m ?_; ((case a => k_is); (case b => k_is); (case c => k_is); (case d => k_is); (case e => exact Nat.le_of_ble_eq_true rfl); (case f => exact fun _ _ K => binds_K K rfl (by k_is) rfl rfl rfl); (case g => exact fun _ => rfl); (case h => rfl); (case i => rfl); (case j => rfl); (case k => rfl); (case l => decide); (case m => exact fun _ => rfl)))
  intro x t l5 l6
  k_extra "vst"
  refine V.assignAttr rfl ?_
  k_extra "vst"
  refine V.setTold (by k_is) (by k_is) (ne_t9 l6 l5) fun d tk hx => ?_
  k_extra "vst"
  exact ⟨rfl, _, fun _ h => h, x, t, d, tk, rfl, rfl, List.forall_mem_cons.mpr ⟨Nat.ne_of_gt hx, ne_t9 l6 l5⟩⟩
end
section
open PySem PySem.W PyProof.Rows
inductive ProgMade (w : World) (led : Led) (rv : Value) (x : Str) (t : Tok) (led' : Led) (r : Value) : Prop
  | mk (p d : Addr) (t1 t2 : Tok) (hr : r = .ref p) (h : led' = (p, instObj 157 d) :: (d, progObj w t1 t2 rv x t) :: led) (hl : ∀ q ∈ led, q.1 < d) (hd : @LT.lt Nat _ d p) : ProgMade w led rv x t led' r
set_option maxRecDepth 100000 in
theorem c_prog (w : World) (led : Led) (rv : Value) (x : Str) (t : Tok) : Con w 157 [rv, .str x t] led 4 30 (ProgMade w led rv x t) := by
  k_dflt (refine' Con.of_cls (fun y => [(S1 "word", .str x t), (S1 "rows", rv), (S1 "self", .ref y)]) ?a ?b ?c ?d ?e ?f ?g ?h ?i ?j ?k ?l ?m ?_; ((case a => k_is); (case b => k_is); (case c => k_is); (case d => k_is); (case e => k_is); (case f => exact fun _ => rfl); (case g => exact fun _ => rfl); (case h => rfl); (case i => rfl); (case j => rfl); (case k => rfl); (case l => decide); (case m => exact fun _ => rfl)))
  intro y d hlt hdy
  have hR : ∀ p ∈ led, p.1 ≠ d := fun p hp => Nat.ne_of_lt (hlt p hp)
  k_extra "vst"
  refine V.assignAttr rfl ?_
  k_extra "vst"
  refine V.setNew (Nat.ne_of_gt hdy) hR (by k_is) (by k_is) (by k_is) (by k_is) (by k_get) (fun t => by k_put) (fun _ => rfl) fun t1 => ?_
  k_extra "vst"
  refine V.assignAttr rfl ?_
  k_extra "vst"
  refine V.setNew (Nat.ne_of_gt hdy) hR (by k_is) (by k_is) (by k_is) (by k_is) (by k_get) (fun t => by k_put) (fun _ => rfl) fun t2 => ?_
  k_extra "vst"
  exact ⟨rfl, _, fun _ h => h, y, d, t1, t2, rfl, rfl, hlt, hdy⟩
end
section
open PySem PySem.W PyProof.Rows
inductive RdrMade (w : World) (led : Led) (b : Array UInt8) (tb : Tok) (led' : Led) (r : Value) : Prop
  | mk (x d o f : Addr) (t1 t2 t3 t4 ti : Tok) (hr : r = .ref x) (h : led' = RL w x d o f t1 t2 t3 t4 b tb 0 ti [] 0 [] 0 led) (hA : RAd x d o f led) : RdrMade w led b tb led' r
theorem rdr_put {a b c : Addr × Obj} {T : Led} : ∀ p ∈ b :: c :: a :: T, p ∈ a :: b :: c :: T := fun p hp => (List.mem_cons.mp hp).elim (fun e => e ▸ .tail _ (.head _)) fun hp => (List.mem_cons.mp hp).elim (fun e => e ▸ .tail _ (.tail _ (.head _))) fun hp =>
  (List.mem_cons.mp hp).elim (fun e => e ▸ .head _) fun hp => .tail _ (.tail _ (.tail _ hp))
theorem rdr_swap {a b c d : Addr × Obj} {T : Led} : ∀ p ∈ a :: b :: d :: c :: T, p ∈ a :: b :: c :: d :: T := fun p hp => (List.mem_cons.mp hp).elim (fun e => e ▸ .head _) fun hp => (List.mem_cons.mp hp).elim (fun e => e ▸ .tail _ (.head _)) fun hp =>
  (List.mem_cons.mp hp).elim (fun e => e ▸ .tail _ (.tail _ (.tail _ (.head _)))) fun hp => (List.mem_cons.mp hp).elim (fun e => e ▸ .tail _ (.tail _ (.head _))) fun hp => .tail _ (.tail _ (.tail _ (.tail _ hp)))
set_option maxRecDepth 100000 in
theorem c_rdr (w : World) (led : Led) (b : Array UInt8) (tb : Tok) : Con w 258 [.bytes b tb] led 4 30 (RdrMade w led b tb) := by
  k_dflt (refine' Con.of_cls (fun y => [(S1 "octets", .bytes b tb), (S1 "self", .ref y)]) ?a ?b ?c ?d ?e ?f ?g ?h ?i ?j ?k ?l ?m ?_; ((case a => k_is); (case b => k_is); (case c => k_is); (case d => k_is); (case e => k_is); (case f => exact fun _ => rfl); (case g => exact fun _ => rfl); (case h => rfl); (case i => rfl); (case j => rfl); (case k => rfl); (case l => decide); (case m => exact fun _ => rfl)))
  intro y d hlt hdy
  have hR : ∀ p ∈ led, p.1 ≠ d := fun p hp => Nat.ne_of_lt (hlt p hp)
  have hyd := Nat.ne_of_gt hdy
  k_extra "vst"
  refine V.assignAttr rfl ?_
  k_extra "vst"
  refine V.setNew hyd hR (by k_is) (by k_is) (by k_is) (by k_is) (by k_get) (fun t => by k_put) (fun _ => rfl) fun t1 => ?_
  k_extra "vst"
  refine V.assignAttr rfl ?_
  k_extra "vst"
  refine V.setNew hyd hR (by k_is) (by k_is) (by k_is) (by k_is) (by k_get) (fun t => by k_put) (fun _ => rfl) fun t2 => ?_
  k_extra "vst"
  refine V.assignAttr rfl ?_
  k_extra "vst"
  refine V.sub rdr_put ?_
  rename_i o ho
  have hxo := ho _ (.head _)
  have hdo := ho _ (.tail _ (.head _))
  refine V.setNew hyd (List.forall_mem_cons.mpr ⟨Nat.ne_of_gt hdo, hR⟩) (by k_is) (by k_is) (by k_is) (by k_is) (by k_get) (fun t => by k_put) (fun _ => rfl) fun t3 => ?_
  k_extra "vst"
  refine V.assignAttr rfl ?_
  k_extra "vst"
  refine V.sub rdr_put ?_
  rename_i f hf
  refine V.setNew hyd (List.forall_mem_cons.mpr ⟨Nat.ne_of_gt (hf _ (.tail _ (.head _))), List.forall_mem_cons.mpr ⟨Nat.ne_of_gt hdo, hR⟩⟩) (by k_is) (by k_is) (by k_is) (by k_is) (by k_get) (fun t => by k_put) (fun _ => rfl) fun t4 => ?_
  k_extra "vst"
  exact ⟨rfl, _, rdr_swap, y, d, o, f, t1, t2, t3, t4, _, rfl, rfl, hdy, hxo, hf _ (.tail _ (.tail _ (.head _))), hlt⟩
end
section
open PySem PySem.W PyProof.Rows PySem.Calls
inductive MidK (Q : Value → Loc → Led → Prop) (x a c : Value) (l₃ : Loc) (led₃ : Led) : Prop
  | mk (q : Addr) (v0 vz : Value) (mid vs : List Value) (n : Nat) (t1 t2 : Tok) (ex : x = .ref q) (ea : a = .int 1 t1) (ec : c = .int (-1) t2) (hm : (q, lst vs n) ∈ led₃) (hv : vs = v0 :: (mid ++ [vz])) (hz : mid.length ≤ 1000000) (k : ∀ D : Addr, (∀ p ∈ led₃, p.1 < D) → Q (.ref D) l₃ ((D, lst mid 0) :: led₃)) : MidK Q x a c l₃ led₃
section
variable {w : World} {σ : Sta} {l : Loc} {led : Led}
theorem V.lItem {value slice : Expr} {a : Addr} {vs : List Value} {n : Nat} {k : Int} {u : Tok} {v : Value} {Q : Value → Loc → Led → Prop} (hm : (a, lst vs n) ∈ led) (h0 : 0 ≤ k) (hf : k < 2 ^ 63) (hx : vs[k.toNat]? = some v) (h : Q v l led)
    (hs : subscripted slice false (.ref a) (.int k u) = operate [.ref a, .int k u] (getItem (.ref a) (.int k u)) := by with_unfolding_all rfl) : V w σ l led (fun _ => subscriptTail value slice (.ref a) (.int k u)) Q :=
  .mk fun _ _ _ _ _ F N kR => lstItem N hm h0 hf hx (kR _ _ _ _ _ F N h) hs
theorem V.midL {v lo hi : Expr} {p pos : Pos} {Q : Value → Loc → Led → Prop}
    (H : V w σ l led (PySem.eval v) (kE1 w σ lo (kE2 w σ hi (MidK Q))))
    (ht : ∀ q r, letTemporaryGo v (.ref q) r = Pure.pure () := by intro _ _; with_unfolding_all rfl) :
    V w σ l led (PySem.eval (.Subscript v (.Slice (some lo) (some hi) none p) pos)) Q :=
  .mk fun δ h tk R D F N kR => Subscript_ (H.go δ h tk _ D F N fun x h₁ t₁ l₁ led₁ F₁ N₁ q₁ => wpAny_Slice (wpAny_evalPart_some (q₁.go δ h₁ t₁ _ D F₁ N₁ fun a h₂ t₂ l₂ led₂ F₂ N₂ q₂ => wpAny_evalPart_some (q₂.go δ h₂ t₂ _ D F₂ N₂ fun c h₃ t₃ l₃ led₃ F₃ N₃ q₃ => wpAny_evalPart_none (by
    obtain ⟨q, v0, vz, mid, vs, n, t1, t2, rfl, rfl, rfl, hm, hv, hz, k⟩ := q₃
    subst hv
    exact midSlice (s := ⟨h₃, _, _, _, _⟩) F₃ N₃ hm hz (fun D' h' F' N' hl => kR _ _ _ _ _ F' N' (k D' hl)) (ht := ht _))))))
end
end
section
open PySem PySem.W PyProof.Rows PySem.Calls
structure badEx (w : World) (OX : Led → Int → Prop) (δ : Dyn) : Prop where
  own : PassesOwn (model PySem.Challenge.rw_nt0496_01.row.prog w) δ.A δ.env δ.E
  out : ∀ (h : Heap) (tk : Nat) (m : Str → Option Value) (led' : Led) (n : Int) (ti : Tok) (x t d : Addr) (tkk : Tok), Fr δ.h₀ δ.L h m → News δ.h₀ δ.L h ((x, excObjD 45 t d) :: (d, toldD w tkk ti n) :: (t, argsObj [.int n ti]) :: led') →
    (∀ p ∈ (d, toldD w tkk ti n) :: (t, argsObj [.int n ti]) :: led', p.1 ≠ x) → OX led' n → RaiseOk (hd.heap_1 w.params) 45 δ.E (.ref x) ⟨h, δ.g, δ.d, tk, δ.o⟩
section
variable {w : World} {σ : Sta}
theorem Con.of_VX {f : Addr} {vs : List Value} {led : Led} {dk uk : Nat} {Out : Led → Value → Prop} {OutX : Int → Prop} {name qual : Str} {params : Arguments} {body : List Stmt} {scope : Scope} {dV kV doc pm cdv ct oc : Value} {an od : Option Addr} {osl : Array (Option Value)} {binds : List (Str × Value)} (l : Loc)
    (ho : (hd.heap_1 w.params).lookup f = some ⟨oc, od, .func (fnOf name qual params body scope dV kV doc pm an cdv ct), osl⟩) (hcd : codeIn (hd.heap_1 w.params) cdv qual = true)
    (hbind : bindArgs (fnOf name qual params body scope dV kV doc pm an cdv ct) ⟨vs, []⟩ = pure binds) (hloc : (binds.all fun x => decide (scope.names.lookup x.1 = some .local)) = true) (hdb : noDbg scope.names = true)
    (hco : scope.isCoroutine = false) (hgen : scope.isGenerator = false) (hk : scope.kind = .function) (hcell : ∀ x ∈ scope.names, x.2 ≠ .cell)
    (hl : binds.reverse = l) (h : V w { cs := scope, dk := dk, uk := uk, ex := badEx w fun led' n => (∀ p ∈ led, p ∈ led') ∧ OutX n } l led (PySem.execs body) (finQ Out)) : ConX w f vs led (dk + 1) (uk + 3) Out OutX := by
  intro mean mg mb dp un cn cs a ccd cl outer A₀ base h₀ L m s Q E B F X N Tp hkc hd hu hret hraise
  refine wpAny_call ?_
  refine code_def B F X N Tp rfl rfl hkc ho hcd (Nat.lt_of_le_of_lt (Nat.le_add_right _ _) hd) (BindsTo.of_eq hbind) (locs hloc) ?_ hco hgen hk hcell
  intro g' L' h' FG' F' N' B' X' T'
  subst hl
  refine h.go ⟨mean, mg, mb, dp + 1, un + 3, qual, scope, f, cdv, [], envX cn cs L a ccd cl :: outer, _, base, g', L', s.gens, s.drawn, s.os, _, envX qual scope L' f cdv []⟩ _ _ _ ⟨B', X', T', Nat.lt_of_le_of_lt (Nat.le_of_eq (Nat.add_right_comm _ _ _)) hd, Nat.lt_of_le_of_lt (Nat.le_of_eq (Nat.add_right_comm _ _ _)) hu, hk, hk, rfl, rfl, rfl, rfl, hdb, fun _ => rfl, (fun h => nomatch h), (fun h => nomatch h), by passes_own, fun h tk m' led' n ti x t d tkk F₁ N₁ hne hO => ⟨x, t, d, rfl, in_keeps X' F₁, (N₁ _ (.head _)).1, leave_own B' F₁ N₁ hne (fun h' R' U' => hraise _ _ _ _ _ _ _ _ _ _ FG' (fun p hp => .tail _ (.tail _ (hO.1 p hp))) (.head _) hO.2 R' U') hk⟩⟩ F' N'
    fun fl h'' tk'' l'' led'' F'' N'' o => leaveK_ F'' N'' fun F1 N1 => ?_
  obtain ⟨led3, hs, o⟩ := o
  cases fl <;> exact hret _ _ _ _ F1 (cb_drop N1 hs) o
section
variable {l : Loc} {led : Led} {OX : Led → Int → Prop}
inductive BadK (w : World) (OX : Led → Int → Prop) (r : Value) (l₁ : Loc) (led₁ : Led) : Prop
  | mk (led' : Led) (n : Int) (ti : Tok) (h : BadMade w led' n ti led₁ r) (q : OX led' n) : BadK w OX r l₁ led₁
theorem V.raise {e : Expr} {pos : Pos} {Q : Flow → Loc → Led → Prop} (hx : σ.ex = badEx w OX) (h : V w σ l led (PySem.eval e) (BadK w OX)) : V w σ l led (exec (.Raise (some e) none pos)) Q :=
  .mk fun δ h' tk _ D F N _ => raise45 rfl (h.go δ h' tk _ D F N fun _ _ _ _ _ F₁ N₁ ⟨_, _, _, ⟨x, t, d, tkk, hr, hl, hne⟩, q⟩ => by
    subst hr hl
    exact (show badEx w OX δ from hx ▸ D.ex).out _ _ _ _ _ _ _ _ _ _ F₁ N₁ hne q)
inductive MethK (w : World) (σ : Sta) (C fm : Addr) (name : Str) (Q : Value → Loc → Led → Prop) (ov : Value) (l₁ : Loc) (led₁ : Led) : Prop
  | mk (x d : Addr) (es : List DictEntry) (n : Nat) (eo : ov = .ref x) (h1 : (x, instObj C d) ∈ led₁) (h2 : (d, dictOf es n) ∈ led₁) (hl : getL name es = some none) (q : V w σ l₁ led₁ (fun _ => PySem.call (.ref fm) [.ref x]) Q) : MethK w σ C fm name Q ov l₁ led₁
theorem V.methE0 {ob : Expr} {name : Str} {apos pos : Pos} {C fm : Addr} {Q : Value → Loc → Led → Prop} (hg : plainGet (hd.heap_1 w.params) C name = true) (hf : findIn (hd.heap_1 w.params) (.ref C) name = some (some (.ref fm))) (ht : isFn (hd.heap_1 w.params) (.ref fm) = true) (hk : keepIn (hd.heap_1 w.params) (.ref fm) = true)
    (pl : Env → Sem Bool) (he : ∀ env, PySem.eval (.Call (.Attribute ob name apos) [] [] pos) env = (do
      let ov ← PySem.eval ob env
      standAt apos.atName
      let (f, first) ← holding [ov] (getMethod ov name (pl env))
      callWith pos f first (backTo pos (starEach [] env)) []))
    (h : V w σ l led (PySem.eval ob) (MethK w σ C fm name Q)) : V w σ l led (PySem.eval (.Call (.Attribute ob name apos) [] [] pos)) Q :=
  .mk fun δ hp tk R D F N kR => MethodCall_ (h.go δ hp tk _ D F N fun _ h₁ t₁ _ _ F₁ N₁ ⟨_, _, _, _, eo, h1, h2, hl, q⟩ => by
    subst eo
    exact method_inst (s := ⟨h₁, δ.g, δ.d, t₁, δ.o⟩) F₁ D.X (InstAt.of_news N₁ h1 h2) hg hf ht hl (callWith_K0 (K := hd.heap_1 w.params) (D.X.keeps F₁.keep) hk (q.go δ h₁ t₁ R D F₁ N₁ kR))) (he _)
inductive EnumN {τ : Type} (ps : Loc) (Lf : τ → Led) (P : τ → Prop) (i1 i2 : Addr × Obj) (l : Loc) (led : Led) : Prop
  | mk (c' : τ) (hp : P c') (hs : ∀ p ∈ i1 :: i2 :: Lf c', p ∈ led) (hk : lks ps l) : EnumN ps Lf P i1 i2 l led
noncomputable def enumQ {τ : Type} (ps : Loc) (Lf : τ → Led) (P : τ → Prop) (i1 i2 : Addr × Obj) (Q : Flow → Loc → Led → Prop) (f : Flow) (l : Loc) (led : Led) : Prop := match f with
  | .next | .cont => EnumN ps Lf P i1 i2 l led
  | .brk => Q .next l led
  | .ret v => Q (.ret v) l led
inductive EnumK (τ : Type) (w : World) (σ : Sta) (a b : Str) (body : List Stmt) (Q : Flow → Loc → Led → Prop) (xv : Value) (l₁ : Loc) (led₁ : Led) : Prop
  | mk (ps : Loc) (Lf : τ → Led) (P : Nat → τ → Prop) (c₀ : τ) (q : Addr) (vs : List Value) (n : Nat) (e : xv = .ref q) (hm : ∀ c, (q, lst vs n) ∈ Lf c) (hs : ∀ p ∈ Lf c₀, p ∈ led₁) (hk : lks ps l₁) (hp : P 0 c₀)
      (had : ∀ k c, P k c → ∀ p ∈ Lf c, p.1 ∈ (Lf c₀).map (·.1) ∨ p.2.cls = .type "tuple")
      (turn : ∀ k v t c u i1 i2, vs[k]? = some v → P k c → (∀ p ∈ Lf c₀, p.1 < i1.1 ∧ p.1 < i2.1) → i1.2.cls = .type "enumerate" → i2.2.cls = .type "list_iterator" → V w σ ((b, v) :: (a, .int (k : Int) t) :: (ps ++ u)) (i1 :: i2 :: Lf c) (PySem.execs body) (enumQ ps Lf (P (k + 1)) i1 i2 Q))
      (fin : ∀ c u, P vs.length c → lks ps u → Q .next u (Lf c)) : EnumK τ w σ a b body Q xv l₁ led₁
theorem V.enumL (τ : Type) {a b en : Str} {pa pb ep pos tp cp : Pos} {kk : Nat} {e : Expr} {body : List Stmt} {Q : Flow → Loc → Led → Prop} (hx : σ.ex = badEx w OX) (ha : isLoc σ a = true) (hb : isLoc σ b = true) (hen : glV σ en = some (.type "enumerate"))
    (hp : adPlain [e] = true) (hfs : ∀ env xv, foldedSetIterable (.Call (.Name en ep) [e] [] cp) env xv = Pure.pure xv) (h : V w σ l led (PySem.eval e) (EnumK τ w σ a b body Q)) :
    V w σ l led (exec (.For (.Tuple [.Name a pa, .Name b pb] kk tp) (.Call (.Name en ep) [e] [] cp) body [] pos)) Q := by
  refine .mk fun δ hp' tk R D F N kR => ?_
  have eE := D.fn (isLoc_ok ha).2
  have hL : δ.env.locals = δ.L := by rw [eE]
  have hX : badEx w OX δ := hx ▸ D.ex
  refine For_turns (h₀ := δ.h₀) (hL.symm ▸ F) (Call_ ((D.lks F).glOk _ _ hen _ _ _ ?_) callName_eq) (hfs _) hX.own
  refine type_call hp (args_cons (h.go δ hp' tk _ D F N fun xv h₁ t₁ l₁ led₁ F₁ N₁ q => args_nil ?_) (star_cons (plain_cons hp).1))
  obtain ⟨ps, Lf, P, c₀, q, vs, n, rfl, hm, hs, hk, hp0, had, turn, fin⟩ := q
  refine ktu_enum (s := ⟨h₁, _, _, t₁, _⟩) rfl (hL.symm ▸ F₁) (hL.symm ▸ cb_drop N₁ hs) (hm c₀) rfl rfl rfl fun I hI => ?_
  have key : ∀ (nn k : Nat) (c : τ) (l' : Loc), k + nn = vs.length → P k c → lks ps l' → ItemsRest PySem.Challenge.rw_nt0496_01.row.prog w δ.A δ.E δ.h₀ δ.env (.Tuple [.Name a pa, .Name b pb] kk tp) body (fun fl s' => R fl s') ⟨h₁, δ.g, δ.d, t₁, δ.o⟩ [(I + 1, "enumerate"), (I, "list_iterator")] [(q, lst vs n)] (enumItems k (vs.drop k)) (fun y => l'.lookup y) (Lf c) := by
    intro nn
    induction nn with
    | zero =>
      intro k c l' hkn hP hk'
      rw [List.drop_of_length_le (by omega)]
      exact ItemsRest.zero fun h tk F N => kR _ _ _ _ _ (hL ▸ F) (hL ▸ N) (fin c l' (by rw [show vs.length = k by omega]; exact hP) hk')
    | succ nn ih =>
      intro k c l' hkn hP hk'
      have hlt : k < vs.length := by omega
      rw [List.drop_eq_getElem_cons hlt]
      refine ItemsRest.pair fun T t h tk hT F₂ => ?_
      intro o1 h1 o2 h2 N₂
      rw [hL] at F₂ N₂
      refine unpackN_ (s := ⟨h, _, _, tk, _⟩) F₂ N₂ hT rfl rfl rfl fun h₃ F₃ N₃ => ?_
      refine assignInOrder_cons (wpAny_assign_Name (D.store F₃ N₃ ha fun h₄ t₄ F₄ N₄ => ?_))
      refine assignInOrder_cons (wpAny_assign_Name (D.store F₄ N₄ hb fun h₅ t₅ F₅ N₅ => assignInOrder_nil ?_))
      have e : (fun y => List.lookup y ((b, vs[k]) :: (a, Value.int (k : Int) t) :: l')) = fun y => List.lookup y ((b, vs[k]) :: (a, Value.int (k : Int) t) :: (ps ++ l')) := by
        funext y
        rw [List.lookup_cons, List.lookup_cons, List.lookup_cons, List.lookup_cons, lks_eq ps hk' y]
      rw [e] at F₅
      refine (turn k vs[k] t c l' (I + 1, o1) (I, o2) (List.getElem?_eq_getElem hlt) hP (fun p hp => ⟨Nat.lt_succ_of_lt (hI p hp), hI p hp⟩) h1 h2).go δ h₅ t₅ _ D F₅ N₅ fun f h₆ t₆ l₆ led₆ F₆ N₆ q₆ => ?_
      have fin2 : EnumN ps Lf (P (k + 1)) (I + 1, o1) (I, o2) l₆ led₆ → UnrEndW δ.h₀ δ.env.locals ⟨h, δ.g, δ.d, tk, δ.o⟩ [(I + 1, o1), (I, o2)] (fun m' n' => SubL [(q, lst vs n)] n' ∧ ItemsRest PySem.Challenge.rw_nt0496_01.row.prog w δ.A δ.E δ.h₀ δ.env (.Tuple [.Name a pa, .Name b pb] kk tp) body (fun fl s' => R fl s') ⟨h₁, δ.g, δ.d, t₁, δ.o⟩ [(I + 1, "enumerate"), (I, "list_iterator")] [(q, lst vs n)] (enumItems (k + 1) (vs.drop (k + 1))) m' n') ⟨h₆, δ.g, δ.d, t₆, δ.o⟩ := by
        rintro ⟨c', p1, p2, p3⟩
        refine ⟨h₆, t₆, _, Lf c', rfl, hL.symm ▸ F₆, hL.symm ▸ cb_drop N₆ p2, fun p hp r hr => ?_, ⟨hm c', trivial⟩, ih (k + 1) c' l₆ (by omega) p1 p3⟩
        rcases had _ _ p1 p hp with hz | hz
        · obtain ⟨p0, hp0, e0⟩ := List.mem_map.mp hz
          have := hI p0 hp0
          rw [e0] at this
          rcases List.mem_cons.mp hr with rfl | hr
          · exact Nat.ne_of_lt (Nat.lt_succ_of_lt this)
          · rw [List.mem_singleton.mp hr]; exact Nat.ne_of_lt this
        · intro e1
          have a1 := (N₆ p (p2 p (.tail _ (.tail _ hp)))).1
          rcases List.mem_cons.mp hr with rfl | hr
          · have a2 := (N₆ _ (p2 (I + 1, o1) (.head _))).1
            rw [e1, a2] at a1
            rw [← Option.some.inj a1, h1] at hz
            exact absurd hz (by show ¬ Value.type "enumerate" = Value.type "tuple"; decide)
          · obtain rfl := List.mem_singleton.mp hr
            have a2 := (N₆ _ (p2 (I, o2) (.tail _ (.head _)))).1
            rw [e1, a2] at a1
            rw [← Option.some.inj a1, h2] at hz
            exact absurd hz (by show ¬ Value.type "list_iterator" = Value.type "tuple"; decide)
      cases f with
      | next => exact fin2 q₆
      | cont => exact fin2 q₆
      | brk => exact kR _ _ _ _ _ F₆ N₆ q₆
      | ret v => exact kR _ _ _ _ _ F₆ N₆ q₆
  exact key vs.length 0 c₀ l₁ (Nat.zero_add _) hp0 hk
end
end
end
section
open PySem PySem.W PyProof.Rows
inductive ReadOut (w : World) (led : Led) (b : Array UInt8) (led' : Led) (r : Value) : Prop
  | mk (x : Str) (ds : List D) (p d : Addr) (t1 t2 : Tok) (rv : Value) (t' : Tok) (new : Led) (hR : readP b = .ok (x, ds)) (hr : r = .ref p) (h : led' = (p, instObj 157 d) :: (d, progObj w t1 t2 rv x t') :: (new ++ led)) (hv : DIn (new ++ led) rv (.tup ds)) : ReadOut w led b led' r
theorem no_tup_lst {vs ws : List Value} {n k : Nat} : tupOf vs n ≠ lst ws k := tup_ne_lst _ _ _ _
theorem rd_ne {h₀ h : Heap} {L R D : Addr} {i1 i2 : Addr × Obj} {rvs mvs : List Value} {n : Nat} {new9 new base : Led} (N : News h₀ L h (new9 ++ i1 :: i2 :: (R, lst rvs n) :: (D, lst mvs 0) :: (new ++ base))) (h9 : Tups new9) (hn : Tups new) (hb : ∀ p ∈ base, p.1 ≠ R) (h1 : R < i1.1) (h2 : R < i2.1) (hD : R < D) :
    ∀ p ∈ i1 :: i2 :: (D, lst mvs 0) :: (new9 ++ (new ++ base)), p.1 ≠ R := by
  have hR := N (R, lst rvs n) (List.mem_append_right _ (.tail _ (.tail _ (.head _))))
  have tup : ∀ p : Addr × Obj, p ∈ new9 ++ i1 :: i2 :: (R, lst rvs n) :: (D, lst mvs 0) :: (new ++ base) → (∃ vs k, p.2 = tupOf vs k) → p.1 ≠ R := fun p hp ⟨vs, k, e⟩ e1 => by
    have h1 := (N p hp).1
    rw [e1, hR.1, e] at h1
    exact no_tup_lst (Option.some.inj h1).symm
  intro p hp
  rcases List.mem_cons.mp hp with rfl | hp
  · exact Nat.ne_of_gt h1
  rcases List.mem_cons.mp hp with rfl | hp
  · exact Nat.ne_of_gt h2
  rcases List.mem_cons.mp hp with rfl | hp
  · exact Nat.ne_of_gt hD
  rcases List.mem_append.mp hp with hp | hp
  · exact tup p (List.mem_append_left _ hp) (h9 p hp)
  rcases List.mem_append.mp hp with hp | hp
  · exact tup p (List.mem_append_right _ (.tail _ (.tail _ (.tail _ (.tail _ (List.mem_append_left _ hp)))))) (hn p hp)
  · exact hb p hp
theorem rd_strip {R D : Addr} {i1 i2 : Addr × Obj} {rvs mvs : List Value} {n : Nat} {new9 rest : Led} (h1 : i1.2.cls = .type "enumerate") (h2 : i2.2.cls = .type "list_iterator") (a : Addr) (vs : List Value) (k : Nat) (h : (a, tupOf vs k) ∈ new9 ++ i1 :: i2 :: (R, lst rvs n) :: (D, lst mvs 0) :: rest) : (a, tupOf vs k) ∈ new9 ++ rest := by
  rcases List.mem_append.mp h with h | h
  · exact List.mem_append_left _ h
  rcases List.mem_cons.mp h with e | h
  · subst e; exact absurd h1 (by show ¬ Value.type "tuple" = Value.type "enumerate"; decide)
  rcases List.mem_cons.mp h with e | h
  · subst e; exact absurd h2 (by show ¬ Value.type "tuple" = Value.type "list_iterator"; decide)
  rcases List.mem_cons.mp h with e | h
  · exact absurd (Prod.mk.inj e).2 no_tup_lst
  rcases List.mem_cons.mp h with e | h
  · exact absurd (Prod.mk.inj e).2 no_tup_lst
  · exact List.mem_append_right _ h
theorem rd_in {i1 i2 r d : Addr × Obj} {new9 rest : Led} : ∀ p ∈ r :: i1 :: i2 :: d :: (new9 ++ rest), p ∈ new9 ++ i1 :: i2 :: r :: d :: rest := fun p hp => by
  rcases List.mem_cons.mp hp with rfl | hp
  · exact List.mem_append_right _ (.tail _ (.tail _ (.head _)))
  rcases List.mem_cons.mp hp with rfl | hp
  · exact List.mem_append_right _ (.head _)
  rcases List.mem_cons.mp hp with rfl | hp
  · exact List.mem_append_right _ (.tail _ (.head _))
  rcases List.mem_cons.mp hp with rfl | hp
  · exact List.mem_append_right _ (.tail _ (.tail _ (.tail _ (.head _))))
  rcases List.mem_append.mp hp with hp | hp
  · exact List.mem_append_left _ hp
  · exact List.mem_append_right _ (.tail _ (.tail _ (.tail _ (.tail _ hp))))
theorem rd_out {i1 i2 r d : Addr × Obj} {new9 new base : Led} : ∀ p ∈ i1 :: i2 :: r :: d :: ((new9 ++ new) ++ base), p ∈ r :: i1 :: i2 :: d :: (new9 ++ (new ++ base)) := fun p hp => by
  rcases List.mem_cons.mp hp with rfl | hp
  · exact .tail _ (.head _)
  rcases List.mem_cons.mp hp with rfl | hp
  · exact .tail _ (.tail _ (.head _))
  rcases List.mem_cons.mp hp with rfl | hp
  · exact .head _
  rw [List.append_assoc] at hp
  exact .tail _ (.tail _ (.tail _ hp))
theorem rd_base {i1 i2 r d p : Addr × Obj} {new9 new tl led : Led} {x : Addr × Obj} (h : p ∈ led) : p ∈ new9 ++ i1 :: i2 :: r :: d :: (new ++ (tl ++ x :: led)) :=
  List.mem_append_right _ (.tail _ (.tail _ (.tail _ (.tail _ (List.mem_append_right _ (List.mem_append_right _ (.tail _ h)))))))
set_option maxRecDepth 100000 in
theorem c_read (w : World) (led : Led) (b : Array UInt8) (t : Tok) (hb : b.size ≤ 9000) : ConX w 269 [.bytes b t] led 30 300 (ReadOut w led b) (fun n => ∃ k : Nat, n = k ∧ readP b = .error k) := by
  have hpl := pieces_len b 10
  have hoc := occ_len b 10
  have hpz := pieces_size b 10
  k_dflt (refine' Con.of_VX [(S1 "octets", .bytes b t)] ?a ?b ?c ?d ?e ?f ?g ?h ?i ?j ?_; ((case a => k_is); (case b => k_is); (case c => rfl); (case d => rfl); (case e => rfl); (case f => rfl); (case g => rfl); (case h => rfl); (case i => decide); (case j => rfl)))
  k_extra "vst"
  refine V.bmeth "bytes.split" _ (fun _ => rfl) rfl ?_
  k_extra "vst"
  refine ⟨BM.split, ?_⟩
  k_extra "vst"
  refine V.splitB (fun p hp => by have := hpz p hp; omega) (by omega) fun l vs hl hv => ?_
  have hlen := hv.length
  obtain ⟨t0, hx0⟩ := hv.get (k := 0) (by omega)
  obtain ⟨tz, hxz⟩ := hv.get (k := (pieces b 10).length - 1) (by omega)
  have hg0 : (pieces b 10).headD #[] = (pieces b 10)[0]'(by omega) := by rw [List.headD_eq_head?_getD, List.head?_eq_getElem?, List.getElem?_eq_getElem (by omega)]; rfl
  have hgz : (pieces b 10).getLastD #[0] = (pieces b 10)[(pieces b 10).length - 1]'(by omega) := by rw [List.getLastD_eq_getLast?, List.getLast?_eq_getElem?, List.getElem?_eq_getElem (by omega)]; rfl
  have hz0 := hpz _ (List.getElem_mem (l := pieces b 10) (n := 0) (by omega))
  have hzz := hpz _ (List.getElem_mem (l := pieces b 10) (n := (pieces b 10).length - 1) (by omega))
  obtain ⟨p0, hp0⟩ : ∃ p0, p0 = (pieces b 10)[0]'(by omega) := ⟨_, rfl⟩
  obtain ⟨pz, hpz'⟩ : ∃ p0, p0 = (pieces b 10)[(pieces b 10).length - 1]'(by omega) := ⟨_, rfl⟩
  rw [← hp0] at hx0 hg0 hz0
  rw [← hpz'] at hxz hgz hzz
  have hlast : vs.getLast? = some (.bytes pz tz) := by rw [List.getLast?_eq_getElem?, hlen]; exact hxz
  k_extra "vst"
  refine V.cutFrom ?_
  k_extra "vst"
  refine V.lItem (.head _) (by decide) (by decide) hx0 ?_
  k_extra "vst"
  refine ⟨p0, t0, 5, _, rfl, rfl, by omega, by decide, fun c tc hc hcz => ?_⟩
  k_extra "vst"
  refine V.neBytes ?_
  k_extra "vst"
  have hc6 := cut_of (n := 5) hc
  generalize hc9 : (c.toList != [102, 108, 97, 116, 32].toArray.toList) = q9
  cases q9 with
  | true =>
    k_extra "vst"
    refine V.raise rfl ?_
    k_extra "vst"
    refine V.call (c_bad w _ _ _) rfl rfl fun r led' o => ⟨_, _, _, o, fun p hp => .tail _ hp, 1, rfl, read_err1 ?_⟩
    have hc5 := bne_tr hc9
    unfold headOk
    rw [hg0, ← hc6, show (c.toList == [102, 108, 97, 116, 32]) = false from hc5, Bool.false_and]
  | false =>
  k_extra "vst"
  refine V.lLast (.head _) hlast ?_
  k_extra "vst"
  refine V.neBytes ?_
  k_extra "vst"
  have hc5 := bne_fa hc9
  generalize hz9 : (pz.toList != [].toArray.toList) = q9
  cases q9 with
  | true =>
    k_extra "vst"
    refine V.raise rfl ?_
    k_extra "vst"
    refine V.call (c_bad w _ _ _) rfl rfl fun r led' o => ⟨_, _, _, o, fun p hp => .tail _ hp, 1, rfl, read_err1 ?_⟩
    unfold headOk
    rw [hg0, hgz, show (pz == #[]) = false from beq_eq_false_iff_ne.mpr (by rintro rfl; simp at hz9), Bool.and_false]
  | false =>
  have hok0 : headOk (pieces b 10) = true := by
    unfold headOk
    rw [hg0, hgz, ← hc6, show (c.toList == [102, 108, 97, 116, 32]) = true from hc5, Bool.true_and, beq_iff_eq]
    exact Array.toList_eq_nil_iff.mp (by simpa using hz9)
  have h2 := two_of_head hok0
  obtain ⟨v0, vz, mvs, rfl, hmv⟩ := hv.mid h2
  have hml := hmv.length
  have hmz : (midOf (pieces b 10)).length ≤ 10000 := by rw [midOf_len]; omega
  k_extra "vst"
  refine V.swap2 (fun _ _ _ _ _ => rfl) (fun _ _ _ _ _ => rfl) rfl rfl ?_
  k_extra "vst"
  refine V.call (c_shapes w _) rfl rfl ?_
  rintro r led' ⟨S9, tl, rfl, rfl, hlt, hS⟩
  rename_i R9 hR9
  k_extra "vst"
  refine V.tuple fun q hq => ⟨_, _, _, _, rfl, .head _, ?_⟩
  refine (?_ : V _ _ _ _ _ _)
  refine V.sub (fun _ h => .tail _ h) ?_
  k_extra "vst"
  refine V.enumL (List Value × Nat × Led) rfl rfl rfl rfl rfl (fun _ _ => rfl) ?_
  refine V.midL ?_
  k_extra "vst"
  refine ⟨l, v0, vz, mvs, _, _, _, _, rfl, rfl, rfl, List.mem_append_right _ (.tail _ (.head _)), rfl, by omega, fun D6 hD6 => ?_⟩
  have hbase : ∀ p ∈ tl ++ (l, lst (v0 :: (mvs ++ [vz])) 0) :: led, p.1 ≠ R9 := fun p hp => (List.mem_append.mp hp).elim (fun h => Nat.ne_of_gt (hlt _ (.head _) p h)) fun h => Nat.ne_of_lt (hR9 p h)
  have hRD : R9 < D6 := hD6 _ (List.mem_append_right _ (.head _))
  refine ⟨[(S1 "rows", .ref R9), (S1 "shapes", .ref S9), (S1 "lines", .ref l), (S1 "octets", .bytes b t)], fun c => (R9, lst c.1 c.2.1) :: (D6, lst mvs 0) :: (c.2.2 ++ (tl ++ (l, lst (v0 :: (mvs ++ [vz])) 0) :: led)),
    fun k c => Tups c.2.2 ∧ DAll (c.2.2 ++ (tl ++ (l, lst (v0 :: (mvs ++ [vz])) 0) :: led)) c.1 (((midOf (pieces b 10)).take k).map rowOf) ∧ ((midOf (pieces b 10)).take k).all okLine = true, ([], 0, []), D6, mvs, 0, rfl, fun c => .tail _ (.head _), ?_, ⟨rfl, rfl, rfl, rfl, trivial⟩, ⟨(fun _ h => nomatch h), .nil, rfl⟩, ?_, ?_, ?_⟩
  · intro p hp
    change p ∈ (R9, lst [] 0) :: (D6, lst mvs 0) :: (tl ++ (l, lst (v0 :: (mvs ++ [vz])) 0) :: led) at hp
    rcases List.mem_cons.mp hp with rfl | hp
    · exact .tail _ (List.mem_append_right _ (.head _))
    rcases List.mem_cons.mp hp with rfl | hp
    · exact .head _
    rcases List.mem_append.mp hp with hp | hp
    · exact .tail _ (List.mem_append_left _ hp)
    · exact .tail _ (List.mem_append_right _ (.tail _ hp))
  · rintro k ⟨rvs, n, new⟩ ⟨hT, _⟩ p hp
    rcases List.mem_cons.mp hp with rfl | hp
    · exact .inl (.head _)
    rcases List.mem_cons.mp hp with rfl | hp
    · exact .inl (.tail _ (.head _))
    rcases List.mem_append.mp hp with hp | hp
    · obtain ⟨vs, k, e⟩ := hT p hp
      exact .inr (by rw [e])
    · exact .inl (.tail _ (.tail _ (List.mem_map_of_mem hp)))
  · rintro k v tk ⟨rvs, n, new⟩ u i1 i2 hv9 ⟨hT, hD, hok⟩ hI hc1 hc2
    dsimp only at hT hD hok ⊢
    have hk9 : k < (midOf (pieces b 10)).length := hml ▸ (List.getElem?_eq_some_iff.mp hv9).1
    obtain ⟨tx, hx⟩ := hmv.get hk9
    obtain rfl := Option.some.inj (hv9.symm.trans hx)
    have hxs := hpz _ (midOf_mem (List.getElem_mem hk9))
    obtain ⟨x, hxe⟩ : ∃ x, x = (midOf (pieces b 10))[k] := ⟨_, rfl⟩
    rw [← hxe] at hxs ⊢
    have err : okLine x = false → readP b = .error (k + 2) := fun h => read_err hok0 hk9 hok (hxe ▸ h)
    k_extra "vst"
    refine V.unpack2 (fun _ _ _ _ _ => rfl) (fun _ _ _ _ _ => rfl) rfl rfl ?_
    refine V.methE0 (C := 258) (fm := 255) (by k_is) (by k_is) (by k_is) (by k_is) _ (fun _ => rfl) ?_
    k_extra "vst"
    refine V.call (c_rdr w _ x tx) rfl rfl ?_
    rintro r led' ⟨x8, d8, o8, f8, t1, t2, t3, t4, ti, rfl, rfl, hA⟩
    refine ⟨x8, d8, _, _, rfl, .head _, .tail _ (.head _), by k_get, ?_⟩
    refine V.call (c_value w x8 d8 o8 f8 x _ _ hA RSt.start (by omega)) rfl rfl ?_
    rintro r led' ⟨new9, hn9, rfl, hD9⟩
    have hwf := valueP_fine (bI x)
    rw [bI_len] at hwf
    have hokx : okLine x = ((valueP (bI x)).1 && isRow (valueP (bI x)).2 && (valOct (valueP (bI x)).2).toArray == x) := rfl
    have hrow : rowOf x = (valueP (bI x)).2 := rfl
    generalize (valueP (bI x)).1 = bb at *
    generalize (valueP (bI x)).2 = dd at *
    obtain ⟨q9, n9, v9, rfl, hm9, hv10⟩ := DIn.pair_open hD9
    refine ⟨q9, _, v9, n9, rfl, hm9, ?_⟩
    k_extra "vst"
    cases bb with
    | false =>
      k_extra "vst"
      refine V.raise rfl ?_
      k_extra "vst"
      exact V.call (c_bad w _ _ _) rfl rfl fun r led' o => ⟨_, _, _, o, fun p hp => rd_base hp, k + 2, rfl, err (by rw [hokx]; rfl)⟩
    | true =>
    k_extra "vst"
    refine V.callP (c_row w _ v9 dd S9 hv10 (hS.mono fun p hp => List.mem_append_right _ (.tail _ (.tail _ (.tail _ (.tail _ (List.mem_append_right _ (List.mem_append_left _ hp))))))) (by omega)) ?_
    cases hr : isRow dd with
    | false =>
      k_extra "vst"
      refine V.raise rfl ?_
      k_extra "vst"
      exact V.call (c_bad w _ _ _) rfl rfl fun r led' o => ⟨_, _, _, o, fun p hp => rd_base hp, k + 2, rfl, err (by rw [hokx, hr]; rfl)⟩
    | true =>
    k_extra "vst"
    refine V.callB (c_val w 10 dd _ v9 (Nat.le_trans (row_dep hr) (by decide)) hv10 (by omega) hwf.2) rfl rfl fun t7 => ?_
    k_extra "vst"
    refine V.neBytes ?_
    k_extra "vst"
    generalize hq : ((valOct dd).toArray.toList != x.toList) = q
    cases q with
    | true =>
      k_extra "vst"
      refine V.raise rfl ?_
      k_extra "vst"
      exact V.call (c_bad w _ _ _) rfl rfl fun r led' o => ⟨_, _, _, o, fun p hp => rd_base hp, k + 2, rfl, err (by rw [hokx, hr, show ((valOct dd).toArray == x) = false from beq_eq_false_iff_ne.mpr (fun e => by rw [e] at hq; simp at hq)]; rfl)⟩
    | false =>
    have hxv : (valOct dd).toArray = x := Array.ext' (beq_iff_eq.mp (bne_fa hq))
    k_extra "vst"
    refine V.withNews fun h₀ hp L N => ?_
    have hne := rd_ne N hn9 hT hbase (hI _ (.head _)).1 (hI _ (.head _)).2 hRD
    refine V.sub rd_in ?_
    have hlen9 := hD.length
    rw [List.length_map, List.length_take] at hlen9
    refine V.append _ (fun _ => rfl) rfl ?_
    k_extra "vst"
    refine ⟨R9, rfl, ⟨_, _, .head _⟩, ?_⟩
    k_extra "vst"
    refine ⟨rvs, n, _, Upd.head hne, by omega, ?_⟩
    k_extra "vst"
    refine ⟨(rvs ++ [v9], n + 1, new9 ++ new), ⟨fun p hp => (List.mem_append.mp hp).elim (hn9 p) (hT p), ?_, ?_⟩, rd_out, rfl, rfl, rfl, rfl, trivial⟩
    · rw [List.take_add_one, List.getElem?_eq_getElem hk9, ← hxe, List.map_append]
      refine DAll.append (hD.mono fun p hp => ?_) (.one (hrow ▸ hv10.strip fun a vs k h => ?_))
      · rw [List.append_assoc]; exact List.mem_append_right _ hp
      · rw [List.append_assoc]; exact rd_strip hc1 hc2 a vs k h
    · rw [List.take_add_one, List.getElem?_eq_getElem hk9, ← hxe, List.all_append, hok]
      show (true && (okLine x && true)) = true
      rw [hokx, hr, hxv]
      simp
  · rintro ⟨rvs, n, new⟩ u ⟨hT, hD, hok⟩ hk
    dsimp only at hT hD hok hk ⊢
    rw [hml, List.take_length] at hD hok
    have hlen9 := hD.length
    rw [List.length_map] at hlen9
    refine V.names hk ?_
    k_extra "vst"
    refine V.tupleOf (.head _) (by omega) fun q9 hq9 => ?_
    k_extra "vst"
    refine V.cutTo ?_
    k_extra "vst"
    refine V.lItem (.tail _ (.tail _ (.tail _ (List.mem_append_right _ (List.mem_append_right _ (.head _)))))) (by decide) (by decide) hx0 ?_
    k_extra "vst"
    refine ⟨p0, t0, 5, _, rfl, rfl, by omega, by decide, fun c tc hc hcz => ?_⟩
    k_extra "vst"
    refine V.callT (word_of hg0 hc ▸ c_text w _ c tc (by omega)) rfl rfl fun t7 => ?_
    k_extra "vst"
    refine V.call (c_prog w _ _ _ _) rfl rfl ?_
    rintro r led' ⟨p, d, t1, t2, rfl, rfl, _, _⟩
    refine ⟨(p, instObj 157 d) :: (d, progObj w t1 t2 (.ref q9) (wordOf (pieces b 10)) t7) :: (((q9, tupOf rvs 0) :: (new ++ (tl ++ (l, lst (v0 :: (mvs ++ [vz])) 0) :: led))) ++ led), ?_, _, _, p, d, t1, t2, _, t7, _, read_ok hok0 hok, rfl, rfl, .tup (.head _) (hD.mono fun p hp => .tail _ (List.mem_append_left _ hp))⟩
    intro p hp
    rcases List.mem_cons.mp hp with rfl | hp
    · exact .head _
    rcases List.mem_cons.mp hp with rfl | hp
    · exact .tail _ (.head _)
    rcases List.mem_cons.mp hp with rfl | hp
    · exact .tail _ (.tail _ (.head _))
    rcases List.mem_append.mp hp with hp | hp
    · exact .tail _ (.tail _ (.tail _ (.tail _ (.tail _ hp))))
    · exact .tail _ (.tail _ (.tail _ (.tail _ (.tail _ (List.mem_append_right _ (List.mem_append_right _ (.tail _ hp)))))))
end
section
open PySem PySem.W PyProof.Rows PySem.Calls
theorem ConX.useN {w : World} {f : Addr} {vs : List Value} {led : Led} {dk uk : Nat} {Out : Led → Value → Prop} {OutX : Int → Prop}
    {mean : ExcName → Option Value} {mg mb : Str → Option Value} {dp un : Nat} {cn : Str} {cs : Scope} {a : Addr} {ccd : Value} {cl : List (Str × Addr)} {outer : List Env} {A₀ : Around} {base h₀ : Heap} {L : Addr} {m : Str → Option Value} {s : Shared}
    {Q E : Value → Shared → Prop} (F : Fr h₀ L s.heap m) (N : News h₀ L s.heap led) (C : ConX w f vs led dk uk Out OutX) (X : (hd.heap_1 w.params).In h₀) (B : Below A₀ base outer h₀) (T : Top hd.view_39 LW mean mg mb h₀) (hk : cs.kind = .function) (hd : dp + dk < recursionLimit) (hu : un + uk < cLine)
    (ret : ∀ r led' h' tk', Fr h₀ L h' m → News h₀ L h' led' → Out led' r → Q r { s with heap := h', toks := tk' })
    (raises : ∀ g e t d tk ti n news h' tk', Fr h₀ L g m → (∀ p ∈ led, p ∈ news) → (d, toldD w tk ti n) ∈ news → OutX n → RaisedB (envX cn cs L a ccd cl :: outer) g e 45 t d news h' → g.UpToSlots h' → E (.ref e) { s with heap := h', toks := tk' }) :
    wpAny (model PySem.Challenge.rw_nt0496_01.row.prog w) (ktrTop dp un (some []) cn cs L a ccd cl outer) (call (.ref f) vs) Q E s := C _ _ _ _ _ _ _ _ _ _ _ _ _ _ _ _ _ _ _ B F X N T hk hd hu ret raises
noncomputable def ConS (w : World) (f : Addr) (vs : List Value) (led : Led) (dk uk : Nat) (Out : Value → Prop) : Prop :=
  ∀ (mean : ExcName → Option Value) (mg mb : Str → Option Value) (dp un : Nat) (cn : Str) (cs : Scope) (a : Addr) (ccd : Value) (cl : List (Str × Addr)) (A₀ : Around) (h₀ : Heap) (L : Addr) (m : Str → Option Value) (s : Shared)
    (Q E : Value → Shared → Prop),
    Below A₀ h₀ [] h₀ → Fr h₀ L s.heap m → (hd.heap_1 w.params).In h₀ → News h₀ L s.heap led → Top hd.view_39 LW mean mg mb h₀ → cs.kind = .function → dp + dk < recursionLimit → un + uk < cLine →
    (∀ r h' tk', Fr h₀ L h' m → News h₀ L h' led → Out r → Q r { s with heap := h', toks := tk' }) →
    wpAny (model PySem.Challenge.rw_nt0496_01.row.prog w) (ktrTop dp un (some []) cn cs L a ccd cl []) (call (.ref f) vs) Q E s
theorem glue_len1 : ∀ (l : List (List UInt8)) (a : List UInt8), (glue [10] (a :: l)).length = a.length + (l.map fun x => x.length + 1).sum
  | [], a => by simp [glue]
  | b :: l, a => by
    have z := glue_len1 l b
    have e : glue [10] (a :: b :: l) = a ++ 10 :: glue [10] (b :: l) := by simp [glue]
    rw [e, List.length_append, List.length_cons, z, List.map_cons, List.sum_cons]
    omega
theorem read_fine {b : Array UInt8} {x : Str} {ds : List D} (h : readP b = .ok (x, ds)) : D.wts ds ≤ b.size ∧ D.ascs ds = true ∧ D.deps ds ≤ 3 ∧ x.cps.size ≤ b.size ∧ ∀ c ∈ x.cps.toList, c < 256 := by
  unfold readP at h
  dsimp only at h
  have hh : headOk (pieces b 10) = true := by
    cases hq : headOk (pieces b 10) with
    | true => rfl
    | false => rw [hq] at h; exact absurd h (by simp)
  rw [if_pos hh] at h
  split at h
  · exact absurd h (by simp)
  rename_i hf
  have h' := Except.ok.inj h
  have hx : x = wordOf (pieces b 10) := (congrArg Prod.fst h').symm
  have hds : ds = (midOf (pieces b 10)).map rowOf := (congrArg Prod.snd h').symm
  have hall : ∀ y ∈ midOf (pieces b 10), okLine y = true := fun y hy => by
    have := List.findIdx?_eq_none_iff.mp hf y hy
    simpa using this
  obtain ⟨p, z, e⟩ := mid_eq (two_of_head hh)
  have hg := congrArg List.length (glue_pieces b)
  rw [e, List.map_cons, glue_len1, List.map_append, List.map_append, List.sum_append] at hg
  have hsum : ∀ l : List (Array UInt8), D.wts (l.map rowOf) ≤ ((l.map fun x => x.toList).map fun x => x.length + 1).sum := by
    intro l
    induction l with
    | nil => exact Nat.le_refl _
    | cons y r ih =>
      have := (valueP_fine (bI y)).1
      rw [bI_len] at this
      have hz : (rowOf y).wt ≤ y.size + 1 := this
      simp only [List.map_cons, D.wts, List.sum_cons, Array.length_toList] at ih ⊢
      omega
  have hs := hsum (midOf (pieces b 10))
  rw [Array.length_toList, Array.length_toList] at hg
  refine ⟨by rw [hds]; omega, ?_, ?_, ?_, ?_⟩
  · rw [hds]
    have : ∀ l : List (Array UInt8), D.ascs (l.map rowOf) = true := by
      intro l
      induction l with
      | nil => rfl
      | cons y r ih =>
        simp only [List.map_cons, D.ascs, ih, Bool.and_true]
        exact (valueP_fine (bI y)).2
    exact this _
  · refine deps_le fun d hd => ?_
    rw [hds] at hd
    obtain ⟨y, hy, rfl⟩ := List.mem_map.mp hd
    have := hall y hy
    unfold okLine at this
    simp only [Bool.and_eq_true] at this
    exact row_dep this.1.2
  · have hp := pieces_size b 10 p (by rw [e]; exact .head _)
    rw [hx]
    unfold wordOf
    rw [show (pieces b 10).headD #[] = p by rw [e]; rfl]
    simp
    omega
  · intro c hc
    rw [hx] at hc
    unfold wordOf at hc
    simp only [List.mem_map] at hc
    obtain ⟨u, _, rfl⟩ := hc
    exact u.toNat_lt
end
section
open PySem PySem.W PyProof.Rows PySem.Calls PySem.MeetsSeq PySem.SeqAt
structure SignOf (c : Array UInt8) (z : Int) : Prop where
  eq : ∀ x : UInt8, (c.toList == [x]) = decide (z = ((x.toNat : Nat) : Int))
theorem signOf {b c : Array UInt8} {i : Nat} (h : bI c = ((bI b).drop i).take 1) : SignOf c ((bI b).getD i (-1)) := by
  refine ⟨fun x => ?_⟩
  have key : ∀ l : List UInt8, l.map (fun c => ((c.toNat : Nat) : Int)) = ((bI b).drop i).take 1 → (l == [x]) = decide ((bI b).getD i (-1) = ((x.toNat : Nat) : Int)) := by
    intro l hl
    by_cases hi : i < (bI b).length
    · rw [List.drop_eq_getElem_cons hi, List.take_succ_cons, List.take_zero] at hl
      have hlen := congrArg List.length hl
      simp only [List.length_map, List.length_cons, List.length_nil] at hlen
      obtain ⟨y, rfl⟩ := List.length_eq_one_iff.mp hlen
      · have e : ((y.toNat : Nat) : Int) = (bI b)[i] := by simpa using hl
        rw [List.getD_eq_getElem?_getD, List.getElem?_eq_getElem hi, Option.getD_some, ← e]
        rw [Bool.eq_iff_iff, beq_iff_eq, decide_eq_true_eq]
        constructor
        · intro q; rw [(List.cons.inj q).1]
        · intro q
          have : y.toNat = x.toNat := by omega
          rw [UInt8.toNat_inj.mp this]
    · rw [List.drop_of_length_le (by omega), List.take_nil] at hl
      have : l = [] := by simpa using hl
      subst this
      rw [List.getD_eq_getElem?_getD, List.getElem?_eq_none (by omega), Option.getD_none]
      rw [Bool.eq_iff_iff, beq_iff_eq, decide_eq_true_eq]
      constructor
      · intro q; cases q
      · intro q; omega
  exact key c.toList h
section
variable {w : World} {A : Around} {E : Value → Shared → Prop} {s : Shared} {h₀ : Heap} {L : Addr} {m : Str → Option Value} {led led' : Led} {prog : Program}
theorem sign_eq {c : Array UInt8} {t u : Tok} {z k : Int} {x : UInt8} {Q : Value → Shared → Prop} (S : SignOf c z) (hx : ((x.toNat : Nat) : Int) = k) (q : Q (.bool (decide (z = k))) s) : wpAny (model prog w) A (compareOp .Eq (.bytes c t) (.bytes #[x] u)) Q E s := by
  refine eq_bytes ?_
  have e := S.eq x
  rw [hx] at e
  show Q (.bool (c.toList == [x])) s
  rw [e]; exact q
theorem sign_ne {c : Array UInt8} {t u : Tok} {z k : Int} {x : UInt8} {Q : Value → Shared → Prop} (S : SignOf c z) (hx : ((x.toNat : Nat) : Int) = k) (q : Q (.bool (!decide (z = k))) s) : wpAny (model prog w) A (compareOp .NotEq (.bytes c t) (.bytes #[x] u)) Q E s := by
  refine ne_bytes ?_
  have e := S.eq x
  rw [hx] at e
  show Q (.bool (c.toList != [x])) s
  rw [bne, e]; exact q
end
section
variable {A : Around} {s : Shared}
theorem rc_bytes_bytes (c d : Array UInt8) (t u : Tok) : RcAt A s (.bytes c t) (.bytes d u) (c.toList == d.toList) := fun _ _ _ _ h => eq_bytes h
theorem eqAt_bytes (c d : Array UInt8) (t u : Tok) : EqAt A s (.bytes c t) (.bytes d u) (c.toList == d.toList) := fun prog w E Q h => by
  unfold eqBool
  refine wpAny_holding ?_
  refine wpAny_ite_split (fun hab => ?_) (fun _ => ?_)
  · have e := eq_of_beq hab
    injection e with e1 e2
    subst e1
    rw [beq_self_eq_true] at h
    exact wpAny_bind (wpAny_rule (wpAny_pure h))
  · exact wpAny_bind (rc_bytes_bytes c d t u prog w E _ (wpAny_truthy_bool h))
end
section
variable {w : World} {A : Around} {E : Value → Shared → Prop} {s : Shared} {h₀ : Heap} {L : Addr} {m : Str → Option Value} {led : Led} {prog : Program}
theorem sign_notin {T : Addr} {c : Array UInt8} {t t1 t2 : Tok} {n : Nat} {z k j : Int} {x y : UInt8} {Q : Value → Shared → Prop} (N : News h₀ L s.heap led) (hm : (T, tupOf [.bytes #[x] t1, .bytes #[y] t2] n) ∈ led) (S : SignOf c z) (hx : ((x.toNat : Nat) : Int) = k) (hy : ((y.toNat : Nat) : Int) = j)
    (q : Q (.bool (!(decide (z = k) || decide (z = j)))) s) : wpAny (model prog w) A (compareOp .NotIn (.bytes c t) (.ref T)) Q E s := by
  have hl : s.heap.IsTuple T [Value.bytes #[x] t1, .bytes #[y] t2].toArray := DIn.isTup N hm
  have sw : ∀ v : UInt8, ([v] == c.toList) = (c.toList == [v]) := fun v => by rw [Bool.eq_iff_iff, beq_iff_eq, beq_iff_eq]; exact eq_comm
  refine notIn_tupleAt (fun v => match v with | .bytes e _ => e.toList == c.toList | _ => false) hl (fun v hv => ?_) ?_
  · simp only [List.mem_toArray, List.mem_cons, List.not_mem_nil, or_false] at hv
    rcases hv with rfl | rfl
    · exact eqAt_bytes _ _ _ _
    · exact eqAt_bytes _ _ _ _
  · have e1 := S.eq x
    have e2 := S.eq y
    rw [hx] at e1
    rw [hy] at e2
    simp only [List.any_toArray, List.any_cons, List.any_nil, Bool.or_false]
    show Q (.bool (!([x] == c.toList || [y] == c.toList))) s
    rw [sw, sw, e1, e2]
    exact q
end
end
section
open PySem PySem.W PyProof.Rows PySem.Calls
mutual
theorem good_asc : ∀ d : D, d.good = true → d.asc = true
  | .none, _ => rfl
  | .bool _, _ => rfl
  | .int _, _ => rfl
  | .bytes _, _ => rfl
  | .str x, h => by
    refine List.all_eq_true.mpr fun c hc => ?_
    have h2 : letters x = true := h
    have := List.all_eq_true.mp h2 c hc
    simp only [Bool.and_eq_true, decide_eq_true_eq] at this ⊢
    omega
  | .tup ds, h => goods_asc ds h
theorem goods_asc : ∀ ds : List D, D.goods ds = true → D.ascs ds = true
  | [], _ => rfl
  | d :: r, h => by
    have h2 : (d.good && D.goods r) = true := h
    rw [Bool.and_eq_true] at h2
    show (d.asc && D.ascs r) = true
    rw [good_asc d h2.1, goods_asc r h2.2]; rfl
end
structure RowsOk (ds : List D) : Prop where
  good : D.goods ds = true
  isr : ∀ d ∈ ds, isRow d = true
  wts : D.wts ds ≤ 400 * ds.length
  deps : D.deps ds ≤ 4
theorem rowsOk : ∀ {ds : List D}, (∀ d ∈ ds, RowOk d) → RowsOk ds
  | [], _ => ⟨rfl, (fun _ h => nomatch h), by simp [D.wts], by simp [D.deps]⟩
  | d :: r, h => by
    have h1 := h d (.head _)
    have h2 := rowsOk fun z hz => h z (.tail _ hz)
    refine ⟨?_, fun z hz => (h z hz).isr, ?_, ?_⟩
    · show (d.good && D.goods r) = true
      rw [h1.good, h2.good]; rfl
    · have a := h1.wt
      have b := h2.wts
      rw [List.length_cons, D.wts]; omega
    · have a := h1.dep
      have b := h2.deps
      rw [D.deps]; omega
noncomputable def words : List Str := [S "done", S "stopped", S "quit"]
theorem word_ok : ∀ x ∈ words, letters x = true ∧ x.cps.size ≤ 7 := by decide +kernel
theorem word_in {n : Int} {x : Str} (h : x = words.getD n.toNat ⟨#[]⟩) (h0 : 0 ≤ n) (h1 : n < 3) : x ∈ words := by
  have hl : n.toNat < words.length := by show _ < 3; omega
  rw [h, List.getD_eq_getElem?_getD, List.getElem?_eq_getElem hl]
  exact List.getElem_mem hl
theorem prog_size {x : Str} {ds : List D} (h : RowsOk ds) (hl : ds.length ≤ 3) (hx : x.cps.size ≤ 7) : (progOct x ds).length ≤ 3000 := by
  have a := valOcts_len ds
  have b := h.wts
  unfold progOct
  have e : ([102, 108, 97, 116, 32] ++ x.cps.toList.map (·.toUInt8) : List UInt8).length = 5 + x.cps.size := by simp; omega
  rw [List.length_append, glue_len1, e]
  show 5 + x.cps.size + _ + 1 ≤ 3000
  omega
end
section
open PySem PySem.W PyProof.Rows PySem.Calls
noncomputable def headOct (x : Str) : Array UInt8 := ([102, 108, 97, 116, 32] ++ x.cps.toList.map (·.toUInt8) : List UInt8).toArray
theorem prog_pieces {x : Str} {ds : List D} (hx : letters x = true) (hg : D.goods ds = true) : pieces (progOct x ds).toArray 10 = headOct x :: (ds.map (fun d => (valOct d).toArray) ++ [#[]]) := by
  have hc : ∀ c ∈ x.cps.toList, 97 ≤ c ∧ c ≤ 122 := fun c hc => by
    have := List.all_eq_true.mp hx c hc
    simpa using this
  have hhead : (10 : UInt8) ∉ ([102, 108, 97, 116, 32] : List UInt8) ++ x.cps.toList.map (·.toUInt8) := fun hm => by
    rcases List.mem_append.mp hm with hm | hm
    · exact absurd hm (by decide)
    · obtain ⟨c, hcm, e⟩ := List.mem_map.mp hm
      have := hc c hcm
      have := congrArg UInt8.toNat e
      simp at this
      omega
  have hp : (pieces (progOct x ds).toArray 10) = ((([102, 108, 97, 116, 32] : List UInt8) ++ x.cps.toList.map (·.toUInt8)) :: (valOcts ds ++ [[]])).map (·.toArray) := by
    refine map_inj ?_
    rw [pieces_split]
    show splitL 10 (progOct x ds) = _
    unfold progOct
    refine splitL_glue _ _ hhead fun y hy => ?_
    rw [valOcts_map] at hy
    obtain ⟨d, hd, rfl⟩ := List.mem_map.mp hy
    exact no10s ds hg d hd
  rw [hp, List.map_cons, List.map_append, valOcts_map, List.map_map]
  rfl
theorem sum_mem {l : List Nat} {n : Nat} (h : n ∈ l) : n ≤ l.sum := by
  induction l with
  | nil => cases h
  | cons a r ih =>
    rw [List.sum_cons]
    rcases List.mem_cons.mp h with rfl | h
    · omega
    · have := ih h; omega
theorem val_size {ds : List D} {d : D} (hd : d ∈ ds) : (valOct d).length ≤ 2 * D.wts ds := by
  have a := valOcts_len ds
  rw [valOcts_map, List.map_map] at a
  have b := sum_mem (l := ds.map ((fun b : List UInt8 => b.length + 1) ∘ valOct)) (List.mem_map.mpr ⟨d, hd, rfl⟩)
  simp only [Function.comp] at a b
  omega
theorem prog_sz {x : Str} {ds : List D} (h : (progOct x ds).length ≤ 3000) : ∀ p ∈ pieces (progOct x ds).toArray 10, p.size ≤ 16777216 := fun p hp => by
  have := pieces_size _ _ p hp
  have e : (progOct x ds).toArray.size = (progOct x ds).length := List.size_toArray ..
  omega
theorem bytes_lines {vs : List Value} {a z : Array UInt8} {l : List (Array UInt8)} (h : BytesAre vs (a :: (l ++ [z]))) : ∃ t0 mid tz, vs = .bytes a t0 :: (mid ++ [.bytes z tz]) ∧ BytesAre mid l := by
  have key : ∀ {l : List (Array UInt8)} {vs : List Value}, BytesAre vs (l ++ [z]) → ∃ mid tz, vs = mid ++ [.bytes z tz] ∧ BytesAre mid l := by
    intro l
    induction l with
    | nil =>
      intro vs h
      cases h with
      | cons b u r => cases r; exact ⟨[], _, rfl, .nil⟩
    | cons c r ih =>
      intro vs h
      cases h with
      | cons b u k =>
        obtain ⟨mid, tz, rfl, hm⟩ := ih k
        exact ⟨_ :: mid, tz, rfl, .cons _ _ hm⟩
  cases h with
  | cons b u k =>
    obtain ⟨mid, tz, rfl, hm⟩ := key k
    exact ⟨_, mid, tz, rfl, hm⟩
end
section
open PySem PySem.W PyProof.Rows PySem.Calls
theorem last_of {v0 vz : Value} {mid vs : List Value} (h : vs = v0 :: (mid ++ [vz])) : vs.getLast? = some vz := by
  subst h
  rw [← List.cons_append]
  exact List.getLast?_concat
theorem first_of {v0 : Value} {r vs : List Value} (h : vs = v0 :: r) : vs[(0 : Int).toNat]? = some v0 := by
  subst h; rfl
theorem bytes_take {x : Str} {l : List Int} (h : letters x = true) (e : l = (x.cps.toList.map fun (c : Nat) => (c : Int))) : KBa.In l := by
  subst e
  intro n hn
  obtain ⟨c, hc, rfl⟩ := List.mem_map.mp hn
  have := List.all_eq_true.mp h c hc
  simp only [Bool.and_eq_true, decide_eq_true_eq] at this
  omega
theorem head_is {x : Str} (h : letters x = true) : #[102, 108, 97, 116, 32] ++ byteArr (x.cps.toList.map fun (c : Nat) => (c : Int)) = headOct x := by
  unfold byteArr headOct
  rw [List.map_map]
  simp
theorem menu10 {n : Int} (_h0 : 0 ≤ n) (_h1 : n < 10) : 0 ≤ ([32, 40, 41, 39, 48, 110, 10, 60, 45, 65] : List Int).getD n.toNat 0 ∧ ([32, 40, 41, 39, 48, 110, 10, 60, 45, 65] : List Int).getD n.toNat 0 < 256 := by
  have key : ∀ k : Nat, k < 10 → 0 ≤ ([32, 40, 41, 39, 48, 110, 10, 60, 45, 65] : List Int).getD k 0 ∧ ([32, 40, 41, 39, 48, 110, 10, 60, 45, 65] : List Int).getD k 0 < 256 := by decide
  exact key _ (by omega)
theorem some3 {a b c : Array UInt8} {ta tb tc : Tok} {n : Int} (h0 : 0 ≤ n) (h1 : n < 3) {z : Nat} (ha : a.size ≤ z) (hb : b.size ≤ z) (hc : c.size ≤ z) : ∃ d t, [Value.bytes a ta, .bytes b tb, .bytes c tc][n.toNat]? = some (.bytes d t) ∧ d.size ≤ z := by
  have key : ∀ k : Nat, k < 3 → ∃ d t, [Value.bytes a ta, .bytes b tb, .bytes c tc][k]? = some (.bytes d t) ∧ d.size ≤ z
    | 0, _ => ⟨a, ta, rfl, ha⟩
    | 1, _ => ⟨b, tb, rfl, hb⟩
    | 2, _ => ⟨c, tc, rfl, hc⟩
    | _ + 3, h => absurd h (by omega)
  exact key _ (by omega)
theorem prog_pos (x : Str) (ds : List D) : 0 < (progOct x ds).length := by
  unfold progOct
  rw [List.length_append]
  exact Nat.succ_pos _
end
section
open PySem PySem.W PyProof.Rows PySem.Calls PySem.MeetsSeq PySem.SeqAt PyProof.V PySem.Spec
theorem odd_size (n : Nat) : Builtin.Range.rangeSize 1 (2 * (n : Int) + 1) 2 = (n : Int) := by
  unfold Builtin.Range.rangeSize
  simp
  omega
section
variable {prog : Program} {w : World} {A : Around} {E : Value → Shared → Prop} {s : Shared} {h₀ : Heap} {L : Addr} {m : Str → Option Value} {env : Env}
theorem walks2 {I : Addr} (hh : A.handled = none) (a : Int) (n : Nat) : Walks prog w A I [I] [I] n (fun i v => ∃ t, v = .int (a + (i : Int) * 2) t) (fun i h => IsRangeIter h I (a + (i : Nat) * 2) ((n : Int) - (i : Nat)) 2) :=
  let W : Walks prog w A I [I] [I] n (fun i v => i < n ∧ ∃ t, v = .int (a + i * 2) t) (fun i h => IsRangeIter h I (a + (i : Nat) * 2) ((n : Int) - (i : Nat)) 2) := (Walks.range hh I a 2 n).bound
  { sub := W.sub, frame := W.frame, done := W.done, self := W.self, item := fun i s Q E hi st hQ => W.item i s Q E hi st fun v h' tk hP => hQ v h' tk hP.2 }
theorem go_range2 {r : Addr} {n : Nat} {t u v : Tok} {elt : Expr} {x : Str} {scope : Scope} {cl : List (Str × Addr)} {Fin : Shared → List Value → Led → Prop} {news : Led} (hh : A.handled = none) (F : Fr h₀ L s.heap m) (N : News h₀ L s.heap news) (hr : IsRange s.heap r 1 (2 * (n : Int) + 1) 2 t u v) (hsz : n ≤ 10000)
    (R : ∀ g, LCg.CompRest prog w A h₀ L m env elt x scope cl { s with heap := g } (fun _ => True) (fun i v => ∃ t, v = .int (1 + (i : Int) * 2) t) (Fin { s with heap := g }) n 0 [] news) :
    wpAny (model prog w) A (pyIter (.ref r)) (CompGo prog w A h₀ L m env elt x scope cl Fin) E s := by
  have hn := odd_size n
  have f : ∀ x : Int, 0 ≤ x → x ≤ 50000 → Builtin.Range.rangeFitsLong x = true := by
    intro x h1 h2
    unfold Builtin.Range.rangeFitsLong
    rw [Bool.and_eq_true, decide_eq_true_eq, decide_eq_true_eq]
    omega
  have hsm : Builtin.Range.small 1 (2 * (n : Int) + 1) 2 = true := by
    unfold Builtin.Range.small
    rw [hn, f 1 (by omega) (by omega), f (2 * (n : Int) + 1) (by omega) (by omega), f 2 (by omega) (by omega), if_pos (by decide)]
    simp
    exact ⟨f _ (by omega) (by omega), .inr (f _ (by omega) (by omega))⟩
  refine wpAny_pyIter_range hr hsm ?_
  refine ⟨_, _, _, _, _, fun _ => True, news, rfl, walks2 hh 1 n, by rw [sizeLine_eq]; omega, fun i h st => ⟨_, st⟩, ?_, ?_, fun b hb => ?_, F.push _, N.grown fun _ _ e => Heap.get?_push_of_some _ e, Nat.ne_of_lt F.ns.lt, next_is_new F,
    fun p hp => Nat.ne_of_lt (Heap.lt_size (N p hp).1), trivial, R _⟩
  · intro i h h' o nw st e e' _ _ _
    have st' : h.get? _ = some _ := st
    show h'.get? _ = some _
    rw [e', ← e]; exact st'
  · show IsRangeIter _ _ _ _ _
    rw [hn]; simpa using Heap.get?_push_size _ rfl
  · rw [List.mem_singleton.mp hb]; show s.heap.objs.size < (s.heap.push _).objs.size; rw [Heap.size_push]; exact Nat.lt_succ_self _
end
end
section
open PySem PySem.W PyProof.Rows PySem.Calls PySem.NumText
theorem octs_of {c : Array UInt8} {d : D} (h : bI c = vI d) : c.toList = valOct d := by
  have e : c.toList.map (fun c => ((c.toNat : Nat) : Int)) = (valOct d).map fun c => ((c.toNat : Nat) : Int) := h
  have key : ∀ a b : List UInt8, a.map (fun c => ((c.toNat : Nat) : Int)) = b.map (fun c => ((c.toNat : Nat) : Int)) → a = b := by
    intro a
    induction a with
    | nil => intro b h; cases b with | nil => rfl | cons _ _ => cases h
    | cons x r ih =>
      intro b h
      cases b with
      | nil => cases h
      | cons y q =>
        rw [List.map_cons, List.map_cons, List.cons.injEq] at h
        have hxy : x.toNat = y.toNat := by have := h.1; omega
        rw [UInt8.toNat_inj.mp hxy, ih q h.2]
  exact key _ _ e
noncomputable def octW (d : D) : Str := ⟨((valOct d).map (·.toNat)).toArray⟩
theorem octW_join (d : D) : Txt.join (Str.ofString "") ((valOct d).map fun c => (⟨#[c.toNat]⟩ : Str)) = octW d := by
  have := join_empty ((valOct d).map (·.toNat))
  rw [List.map_map] at this
  exact this
theorem octW_cps (d : D) : (octW d).cps.toList = (vI d).map Int.toNat := by
  unfold octW vI
  rw [List.map_map]
  exact List.map_congr_left fun c _ => by simp
theorem octW_len (d : D) : (octW d).length = (vI d).length := by
  have := congrArg List.length (octW_cps d)
  rw [Array.length_toList, List.length_map] at this
  exact this
theorem d48 (m : Nat) : ((48 : Int) + (m : Int)).toNat - 48 = m := Nat.add_sub_cancel_left 48 m
theorem digs_val (n : Nat) : digitsVal ((digs n).reverse.map Int.toNat) = n := by
  induction n using Nat.strongRecOn with
  | ind n ih =>
    rw [digs_step, List.reverse_cons, List.map_append, List.map_cons, List.map_nil, digitsVal_snoc]
    by_cases h : n / 10 = 0
    · rw [if_pos h]
      have : digitsVal ([] : List Nat) = 0 := rfl
      rw [show (List.map Int.toNat ([] : List Int).reverse) = [] from rfl, this, d48]
      have z := Nat.div_add_mod n 10
      rw [h] at z
      exact z
    · rw [if_neg h, ih (n / 10) (Nat.div_lt_self (Nat.pos_of_ne_zero fun e => h (by rw [e])) (by decide)), d48]
      exact Nat.div_add_mod' n 10
theorem digs_all (n : Nat) : AllDigits ((digs n).reverse.map Int.toNat) := fun c hc => by
  obtain ⟨k, hk, rfl⟩ := List.mem_map.mp hc
  have := digs_in n k (List.mem_reverse.mp hk)
  omega
theorem digs_ne2 (n : Nat) : (digs n).reverse.map Int.toNat ≠ [] := fun h => by
  have := congrArg List.length h
  rw [List.length_map, List.length_reverse] at this
  exact digs_ne n (List.length_eq_zero_iff.mp this)
theorem int_len {i : Int} (h : i.natAbs < 1000000) : (vI (.int i)).length ≤ 8 := by
  have e : (vI (.int i)).length = (decInts i).length := by
    unfold vI
    rw [List.length_map, valOct, Array.length_toList, byteArr_size0]
  rw [e]
  by_cases h0 : 0 ≤ i
  · obtain ⟨n, rfl⟩ := Int.eq_ofNat_of_zero_le h0
    have := decInts_len (n := n) (c := 6) (by have h10 : (10:Nat)^6 = 1000000 := (by decide); omega) (by omega)
    omega
  · obtain ⟨n, hn⟩ := Int.eq_ofNat_of_zero_le (a := -i) (by omega)
    have e : i = -(n : Int) := by omega
    subst e
    have := decInts_len (n := n) (c := 6) (by have h10 : (10:Nat)^6 = 1000000 := (by decide); omega) (by omega)
    omega
theorem int_text {i : Int} (h : i.natAbs < 1000000) : PySem.intText? (octW (.int i)) = some i ∧ (octW (.int i)).length ≤ 640 := by
  have hl : (octW (.int i)).length ≤ 8 := by rw [octW_len]; exact int_len h
  refine ⟨?_, by omega⟩
  have hc := octW_cps (.int i)
  rw [vI_int] at hc
  by_cases h0 : i < 0
  · rw [if_pos h0, List.map_append] at hc
    have z := intText_neg (x := octW (.int i)) (cs := (digs i.natAbs).reverse.map Int.toNat) hc (digs_all _) (digs_ne2 _) (by omega)
    rw [z, digs_val]
    congr 1
    omega
  · rw [if_neg h0, List.nil_append] at hc
    have z := intText_digits (x := octW (.int i)) (by rw [hc]; exact digs_all _) (by rw [hc]; exact digs_ne2 _) (by omega)
    rw [z, hc, digs_val]
    congr 1
    omega
theorem int_head {i x : Int} {tl : List Int} (h : vI (.int i) = x :: tl) : x = 45 ∨ (48 ≤ x ∧ x < 58) := by
  rw [vI_int] at h
  split at h
  · exact .inl (List.cons.inj h).1.symm
  · rw [List.nil_append] at h
    have : x ∈ digs i.natAbs := List.mem_reverse.mp (h ▸ .head _)
    exact .inr (digs_in _ _ this)
theorem int_word {i x : Int} {tl : List Int} (h : vI (.int i) = x :: tl) : ([Str.ofString "t", Str.ofString "f", Str.ofString "n"].any fun y => y == octW (.int i)) = false := by
  have hx := int_head h
  have hc := octW_cps (.int i)
  rw [h, List.map_cons] at hc
  rw [List.any_eq_false]
  intro y hy
  rw [beq_iff_eq]
  intro e
  rw [← e] at hc
  simp only [List.mem_cons, List.not_mem_nil, or_false] at hy
  have e1 : (Str.ofString "t").cps.toList = [116] := by decide +kernel
  have e2 : (Str.ofString "f").cps.toList = [102] := by decide +kernel
  have e3 : (Str.ofString "n").cps.toList = [110] := by decide +kernel
  rcases hy with rfl | rfl | rfl
  · rw [e1] at hc; have := (List.cons.inj hc).1; omega
  · rw [e2] at hc; have := (List.cons.inj hc).1; omega
  · rw [e3] at hc; have := (List.cons.inj hc).1; omega
theorem str_word {x : Str} (h : letters x = true) : Txt.slice (octW (.str x)) (some 1) none = x := by
  have hc := octW_cps (.str x)
  rw [vI_str, List.map_cons, List.map_map] at hc
  have e : x.cps.toList.map (Int.toNat ∘ fun c => (((c.toUInt8).toNat : Nat) : Int)) = x.cps.toList := by
    refine (List.map_congr_left fun c hcm => ?_).trans (List.map_id _)
    have := List.all_eq_true.mp h c hcm
    simp only [Bool.and_eq_true, decide_eq_true_eq] at this
    simp
    omega
  rw [e] at hc
  have z := StrLaws.sliceText_from (x := octW (.str x)) (i := 1) ⟨by decide, by rw [hc, List.length_cons]; omega⟩
  show StrLaws.sliceText (octW (.str x)) (some 1) none = x
  rw [z, hc]
  have : (39 :: x.cps.toList).drop (1 : Int).toNat = x.cps.toList := rfl
  show (⟨(List.take _ ((39 :: x.cps.toList).drop (1 : Int).toNat)).toArray⟩ : Str) = x
  rw [this, List.take_of_length_le (by rw [List.length_cons]; omega)]
theorem bytes_vI (b : Array UInt8) : vI (.bytes b) = 60 :: (hexInts b ++ [62]) := by
  have hin : ∀ k ∈ hexInts b, 0 ≤ k ∧ k < 256 := by
    unfold hexInts
    exact hex_in fun k hk => KBw.ints_in hk
  unfold vI
  rw [valOct, List.cons_append, List.map_cons, List.map_append, vI_byteArr hin]
  rfl
theorem hexDig_h16 (k : Nat) : (hexDig k).toNat = h16 k := by unfold hexDig h16; split <;> omega
theorem hex_at {ks : List Int} : ∀ {k : Nat}, k < ks.length → ((ks.flatMap hex2).drop (2 * k)).take 2 = hex2 (ks.getD k 0) := by
  induction ks with
  | nil => intro k h; exact absurd h (Nat.not_lt_zero _)
  | cons a r ih =>
    intro k h
    cases k with
    | zero => simp [hex2]
    | succ k =>
      rw [List.flatMap_cons, show 2 * (k + 1) = (hex2 a).length + 2 * k by simp [hex2]; omega, List.drop_append, List.drop_of_length_le (by omega), List.nil_append]
      simp only [List.getD_cons_succ]
      rw [show (hex2 a).length + 2 * k - (hex2 a).length = 2 * k by omega]
      exact ih (Nat.lt_of_succ_lt_succ h)
theorem bytes_slice {b : Array UInt8} {k : Nat} (h : k < b.size) : (Txt.slice (octW (.bytes b)) (some (1 + (k : Int) * 2)) (some (1 + (k : Int) * 2 + 2))).cps.toList = [h16 ((b[k]'h).toNat / 16), h16 ((b[k]'h).toNat % 16)] := by
  have hc := octW_cps (.bytes b)
  rw [bytes_vI, List.map_cons, List.map_append] at hc
  have hl : (hexInts b).length = 2 * b.size := hexInts_len b
  have z := StrLaws.sliceText_plain (x := octW (.bytes b)) (i := 1 + (k : Int) * 2) (j := 1 + (k : Int) * 2 + 2) ⟨by omega, by omega, by rw [hc]; simp only [List.length_cons, List.length_append, List.length_map, List.length_nil, hl]; omega⟩
  show (StrLaws.sliceText (octW (.bytes b)) (some (1 + (k : Int) * 2)) (some (1 + (k : Int) * 2 + 2))).cps.toList = _
  rw [z, hc]
  have e1 : (1 + (k : Int) * 2).toNat = 2 * k + 1 := by omega
  have e2 : (1 + (k : Int) * 2 + 2 - (1 + (k : Int) * 2)).toNat = 2 := by omega
  rw [e1, e2, List.drop_succ_cons]
  show List.take 2 (List.drop (2 * k) (_ ++ _)) = _
  rw [List.drop_append_of_le_length (by rw [List.length_map, hl]; omega), List.take_append_of_le_length (by rw [List.length_drop, List.length_map, hl]; omega), ← List.map_drop, ← List.map_take]
  unfold hexInts
  have hk : k < (KBw.bInts b).length := by rw [KBw.ints_length]; exact h
  rw [hex_at hk]
  have hg : (KBw.bInts b).getD k 0 = (((b[k]'h).toNat : Nat) : Int) := by
    rw [List.getD_eq_getElem?_getD, List.getElem?_eq_getElem hk, Option.getD_some]
    simp [KBw.bInts]
  rw [hg]
  simp only [hex2, List.map_cons, List.map_nil, Int.toNat_natCast, hexDig_h16]
end
section
open PySem PySem.W PyProof.Rows PySem.Calls PySem.MeetsSeq PySem.SeqAt PyProof.V PySem.Spec
section
variable {w : World} {σ : Sta} {l : Loc} {led : Led}
theorem V.signEq {c : Array UInt8} {t u : Tok} {z k : Int} {x : UInt8} {Q : Value → Loc → Led → Prop} (S : SignOf c z) (hx : ((x.toNat : Nat) : Int) = k) (h : Q (.bool (decide (z = k))) l led) : V w σ l led (fun _ => compareOp .Eq (.bytes c t) (.bytes #[x] u)) Q :=
  .mk fun _ _ _ _ _ F N kR => sign_eq S hx (kR _ _ _ _ _ F N h)
theorem V.signNe {c : Array UInt8} {t u : Tok} {z k : Int} {x : UInt8} {Q : Value → Loc → Led → Prop} (S : SignOf c z) (hx : ((x.toNat : Nat) : Int) = k) (h : Q (.bool (!decide (z = k))) l led) : V w σ l led (fun _ => compareOp .NotEq (.bytes c t) (.bytes #[x] u)) Q :=
  .mk fun _ _ _ _ _ F N kR => sign_ne S hx (kR _ _ _ _ _ F N h)
theorem V.signNotIn {T : Addr} {c : Array UInt8} {t t1 t2 : Tok} {n : Nat} {z k j : Int} {x y : UInt8} {Q : Value → Loc → Led → Prop} (hm : (T, tupOf [.bytes #[x] t1, .bytes #[y] t2] n) ∈ led) (S : SignOf c z) (hx : ((x.toNat : Nat) : Int) = k) (hy : ((y.toNat : Nat) : Int) = j)
    (h : Q (.bool (!(decide (z = k) || decide (z = j)))) l led) : V w σ l led (fun _ => compareOp .NotIn (.bytes c t) (.ref T)) Q :=
  .mk fun _ _ _ _ _ F N kR => sign_notin N hm S hx hy (kR _ _ _ _ _ F N h)
theorem V.int16 {x : Str} {t v : Tok} {p q : Nat} {Q : Value → Loc → Led → Prop} (hp : p < 16) (hq : q < 16) (hx : x.cps.toList = [h16 p, h16 q]) (h : ∀ t', Q (.int ((16 * p + q : Nat) : Int) t') l led) : V w σ l led (fun _ => PySem.call (.type "int") [.str x t, .int 16 v]) Q :=
  .mk fun _ _ _ _ _ F N kR => call_hex2 hp hq hx (kR _ _ _ _ _ F N (h _))
theorem Src.range2 {a : Addr} {n : Nat} {t u v : Tok} (hm : (a, rngObj 1 (2 * (n : Int) + 1) 2 t u v) ∈ led) (hz : n ≤ 10000) : Src w (.ref a) led (fun _ => True) (fun i v => ∃ t, v = .int (1 + (i : Int) * 2) t) n :=
  ⟨trivial, fun hh F N R => go_range2 hh F N (N _ hm).1 hz R⟩
end
end
section
open PySem PySem.W PyProof.Rows
noncomputable def D.atom : D → Bool
  | .tup _ => false
  | _ => true
theorem atom_mid {pre post tl : List Int} {x : Int} {c : Nat} (h1 : pre.length + 1 ≤ c) (h2 : c < pre.length + (x :: tl).length) : (pre ++ (x :: tl) ++ post).getD c (-1) ∈ tl := by
  simp only [List.length_cons] at h2
  obtain ⟨n, hn⟩ := Nat.exists_eq_add_of_le h1
  rw [Nat.add_right_comm, Nat.add_assoc] at hn
  subst hn
  rw [List.getD_eq_getElem?_getD, List.append_assoc, List.getElem?_append_right (by omega), Nat.add_sub_cancel_left, List.cons_append, List.getElem?_cons_succ, List.getElem?_append_left (by omega), List.getElem?_eq_getElem (by omega), Option.getD_some]
  exact List.getElem_mem _
theorem atom_end {pre post v : List Int} (hp : Delim post) (h : (pre ++ v ++ post).length ≠ pre.length + v.length) : (pre ++ v ++ post).getD (pre.length + v.length) (-1) = 32 ∨ (pre ++ v ++ post).getD (pre.length + v.length) (-1) = 41 := by
  rw [List.getD_eq_getElem?_getD, ← List.length_append, List.getElem?_append_right (Nat.le_refl _), Nat.sub_self]
  cases post with
  | nil => exact absurd (by simp) h
  | cons k r => exact hp
theorem atom_test {ks pre post v tl : List Int} {x : Int} {c : Nat} (hks : ks = pre ++ v ++ post) (hv : v = x :: tl) (htl : ∀ k ∈ tl, k ≠ 32 ∧ k ≠ 41) (hp : Delim post) (h1 : pre.length + 1 ≤ c) (h2 : c ≤ pre.length + v.length) (h3 : c < ks.length) :
    (decide (ks.getD c (-1) = 32) || decide (ks.getD c (-1) = 41)) = decide (c = pre.length + v.length) := by
  subst hks
  by_cases h : c = pre.length + v.length
  · subst h
    rw [decide_eq_true (rfl : pre.length + v.length = pre.length + v.length), Bool.or_eq_true, decide_eq_true_eq, decide_eq_true_eq]
    exact atom_end hp (by omega)
  · subst hv
    have hm := htl _ (atom_mid (x := x) (post := post) h1 (by omega))
    rw [decide_eq_false h, decide_eq_false hm.1, decide_eq_false hm.2]; rfl
inductive AtomOut (led : Led) (d : D) (E : Int) (led' : Led) (r : Value) : Prop
  | mk (q : Addr) (n : Nat) (v : Value) (t : Tok) (h : led' = (q, tupOf [v, .int E t] n) :: led) (hr : r = .ref q) (hv : DIn [] v d) (hn : ∀ p ∈ led, p.1 ≠ q) : AtomOut led d E led' r
theorem part_end {l' : Loc} {led rest : Led} {q : Addr} {d : D} {E E' : Int} {v : Value} {t : Tok} (hs : ∀ p ∈ led, p ∈ rest) (hD : DIn [] v d) (hq : ∀ p ∈ rest, p.1 < q) (e : E = E') :
    finQ (AtomOut led d E') (.ret (.ref q)) l' ((q, tupOf [v, .int E t] 0) :: rest) :=
  ⟨(q, tupOf [v, .int E t] 0) :: led, fun p hp => (List.mem_cons.mp hp).elim (fun e => e ▸ .head _) (fun hp => .tail _ (hs p hp)), q, 0, v, t, by rw [e], rfl, hD, fun p hp => Nat.ne_of_lt (hq p (hs p hp))⟩
theorem atom_60 {d : D} {tl : List Int} (ha : d.atom = true) (hv : vI d = 60 :: tl) : ∃ bs, d = .bytes bs := by
  cases d with
  | bytes bs => exact ⟨bs, rfl⟩
  | tup ds => cases ha
  | none => exact absurd (List.cons.inj hv).1 (by decide)
  | bool b => cases b <;> exact absurd (List.cons.inj hv).1 (by decide)
  | int i => have := int_head hv; omega
  | str x => exact absurd (List.cons.inj hv).1 (by decide)
theorem atom_39 {d : D} {tl : List Int} (ha : d.atom = true) (hv : vI d = 39 :: tl) : ∃ x, d = .str x := by
  cases d with
  | str x => exact ⟨x, rfl⟩
  | tup ds => cases ha
  | none => exact absurd (List.cons.inj hv).1 (by decide)
  | bool b => cases b <;> exact absurd (List.cons.inj hv).1 (by decide)
  | int i => have := int_head hv; omega
  | bytes b => exact absurd (List.cons.inj hv).1 (by decide)
theorem atom_rest {d : D} {x : Int} {tl : List Int} {a b c : Tok} (ha : d.atom = true) (hv : vI d = x :: tl) (h1 : x ≠ 60) (h2 : x ≠ 39) (hg : d.good = true) :
    (([Str.ofString "t", Str.ofString "f", Str.ofString "n"].any fun y => y == octW d) = true ∧ ∃ v, valueAt (strPairs [(.str (Str.ofString "t") a, .bool true), (.str (Str.ofString "f") b, .bool false), (.str (Str.ofString "n") c, .none)]) (octW d) = some v ∧ DIn [] v d) ∨
    (([Str.ofString "t", Str.ofString "f", Str.ofString "n"].any fun y => y == octW d) = false ∧ ∃ i, d = .int i ∧ i.natAbs < 1000000) := by
  cases d with
  | str x => exact absurd (List.cons.inj hv).1.symm h2
  | tup ds => cases ha
  | none => rw [show octW .none = Str.ofString "n" from by decide +kernel]; exact .inl ⟨by decide +kernel, _, rfl, .none⟩
  | bool b => cases b with
    | false => rw [show octW (.bool false) = Str.ofString "f" from by decide +kernel]; exact .inl ⟨by decide +kernel, _, rfl, .bool _⟩
    | true => rw [show octW (.bool true) = Str.ofString "t" from by decide +kernel]; exact .inl ⟨by decide +kernel, _, rfl, .bool _⟩
  | int i => exact .inr ⟨int_word hv, i, rfl, by simpa [D.good] using hg⟩
  | bytes b => exact absurd (List.cons.inj hv).1.symm h1
theorem even_mod {n m : Nat} (h : n = 2 * m + 2) : ¬ ((n : Int).fmod 2 = 1) := by
  rw [Int.fmod_eq_emod_of_nonneg _ (by decide)]; omega
theorem odd_end {n m : Nat} (h : n = 2 * m + 2) : (n : Int) - 1 = 2 * (m : Int) + 1 := by omega
theorem ones_sum (l : List UInt8) : (l.map fun _ => 1).sum = l.length := by
  induction l with
  | nil => rfl
  | cons a r ih => rw [List.map_cons, List.sum_cons, ih, List.length_cons, Nat.add_comm]
set_option maxHeartbeats 600000
set_option maxRecDepth 100000 in
theorem c_atom (w : World) (led : Led) (d : D) (b : Array UInt8) (tb tk : Tok) (pre post : List Int) (x : Int) (tl : List Int) (hg : d.good = true) (ha : d.atom = true) (hb : b.size ≤ 9000) (hks : bI b = pre ++ vI d ++ post) (hv : vI d = x :: tl) (hx : x ≠ 40) (htl : ∀ k ∈ tl, k ≠ 32 ∧ k ≠ 41) (hp : Delim post) :
    Con w 315 [.bytes b tb, .int (pre.length : Int) tk] led 5 60 (AtomOut led d ((pre.length + (vI d).length : Nat) : Int)) := by
  k_dflt (refine' Con.of_V1 [(S1 "at", .int (pre.length : Int) tk), (S1 "octets", .bytes b tb)] (S1 "word") none ?a ?b ?c ?d ?e ?f ?g ?h ?i ?j ?k ?_; ((case a => k_is); (case b => k_is); (case c => rfl); (case d => rfl); (case e => rfl); (case f => rfl); (case g => rfl); (case h => rfl); (case i => exact fun _ => rfl); (case j => exact bindL_2 rfl rfl); (case k => rfl)))
  intro c ob d1 hc
  have hlen := bI_len b
  have hz : (bI b).getD pre.length (-1) = x := by rw [hks, hv]; simp
  have hl3 : pre.length + (vI d).length + post.length = b.size := by rw [← hlen, hks, List.length_append, List.length_append]
  k_extra "vst"
  refine V.cut2 ?_
  k_extra "vst"
  refine ⟨b, tb, _, _, _, _, rfl, rfl, rfl, by omega, by omega, by omega, fun cs ts hcs _ => ?_⟩
  have S : SignOf cs x := by
    have := signOf (b := b) (c := cs) (i := pre.length) (by rw [hcs, Int.toNat_natCast]; congr 1; omega)
    rwa [hz] at this
  clear hcs
  k_extra "vst"
  refine V.signEq S (k := 40) rfl ?_
  k_extra "vst"
  refine ite_d (fun e => absurd e hx) (fun _ => ?_)
  k_extra "vst"
  rename_i tz
  refine V.pass (τ := Nat × Tok) (fun c => [(S1 "end", .int (c.1 : Int) c.2), (S1 "sign", .bytes cs ts), (S1 "at", .int (pre.length : Int) tk), (S1 "octets", .bytes b tb)]) (fun _ => (c, ob) :: led)
    (fun c => pre.length + 1 ≤ c.1 ∧ c.1 ≤ pre.length + (vI d).length) (fun c => b.size + 1 - c.1) (pre.length + 1, tz) ?_ ⟨Nat.le_refl _, by rw [hv]; exact Nat.add_le_add_left (Nat.succ_le_succ (Nat.zero_le _)) _⟩ (fun _ h => h) ?_
  · exact ⟨rfl, rfl, rfl, rfl, trivial⟩
  rintro ⟨en, te⟩ u ⟨p1, p2⟩
  dsimp only at p1 p2 ⊢
  refine V.mono (Q := fun bl l₂ led₂ => l₂ = [(S1 "end", Value.int (en : Int) te), (S1 "sign", .bytes cs ts), (S1 "at", .int (pre.length : Int) tk), (S1 "octets", .bytes b tb)] ++ u ∧ (∀ p ∈ (c, ob) :: led, p ∈ led₂) ∧ (bl = true ↔ en < pre.length + (vI d).length)) ?_ ?_
  · k_extra "vst"
    refine V.bLen (by omega) fun _ => ?_
    k_extra "vst"
    refine ite_d (fun g1 => ?_) (fun g1 => ?_)
    · k_extra "vst"
      refine V.cut2 ?_
      k_extra "vst"
      refine ⟨b, tb, _, _, _, _, rfl, rfl, rfl, by omega, by omega, by omega, fun c2 t2 hc2 _ => ?_⟩
      have S2 := signOf (b := b) (c := c2) (i := en) (by rw [hc2, Int.toNat_natCast]; congr 1; omega)
      k_extra "vst"
      refine V.signNotIn (.head _) S2 (k := 32) (j := 41) rfl rfl ?_
      rw [atom_test hks hv htl hp p1 p2 (by omega)]
      k_extra "vst"
      refine ite_i (fun g2 => ?_) (fun g2 => ?_)
      · rw [Bool.not_eq_true', decide_eq_false_iff_not] at g2
        k_extra "vst"
        exact ⟨rfl, fun _ h => .tail _ h, fun _ => by omega, fun _ => rfl⟩
      · rw [Bool.not_eq_true', decide_eq_false_iff_not] at g2
        exact ⟨rfl, fun _ h => .tail _ h, fun h => (nomatch h), fun h => absurd (Nat.ne_of_lt h) g2⟩
    · exact ⟨rfl, fun _ h => h, ⟨fun h => (nomatch h), fun h => absurd h (by omega)⟩⟩
  rintro bl _ led₂ ⟨rfl, hs, hbl⟩
  cases bl with
  | true =>
    have p3 := hbl.mp rfl
    refine ite_tt (V.sub hs ?_)
    clear hs
    k_extra "vst"
    rename_i tz
    exact ⟨(en + 1, tz), by simp only []; omega, ⟨by omega, by omega⟩, fun _ h => h, rfl, rfl, rfl, rfl, trivial⟩
  | false =>
    obtain rfl : en = pre.length + (vI d).length := by
      have : ¬ en < pre.length + (vI d).length := fun h => nomatch hbl.mpr h
      omega
    clear hbl p1 p2
    refine ite_ff (x := V _ _ _ _ _ _) (V.sub (t := execs _) hs ?_)
    clear hs
    k_extra "vst"
    refine V.assignX rfl ?_
    refine V.bmeth "str.join" _ (fun _ => rfl) rfl ?_
    k_extra "vst"
    refine ⟨BM.joinS, ?_⟩
    k_extra "vst"
    refine V.each (cl' := []) (fun _ _ _ _ => rfl) (by decide) rfl rfl rfl (by decide) rfl rfl (fun _ _ => rfl) (fun i ys => StrsAre ys (((valOct d).take i).map fun c => ⟨#[c.toNat]⟩)) .nil ?_
    k_extra "vst"
    refine V.cut2 ?_
    k_extra "vst"
    refine ⟨b, tb, _, _, _, _, rfl, rfl, rfl, by omega, by omega, by omega, fun c2 t2 hc2 hz2 => ?_⟩
    rw [Int.toNat_natCast, Int.toNat_natCast, hks, List.append_assoc, List.drop_left, Nat.add_sub_cancel_left, List.take_left] at hc2
    have hco := octs_of hc2
    have hsz : (valOct d).length = c2.size := by rw [← hco, Array.length_toList]
    refine ⟨rfl, _, _, _, Src.bytes (by rw [sizeLine_eq]; omega), by omega, fun _ _ => trivial, ?_, ?_⟩
    · rintro i v ys nx oC C m₂ hi ⟨k, tk, hk, rfl⟩ hJ hs hC hCm hxx
      have hk1 := k.toNat_lt
      have e : (valOct d)[i]? = some k := by rw [← hco]; simpa using hk
      k_extra "vst"
      refine V.chr (by omega) (by omega) fun _ => ⟨rfl, fun _ h => h, ?_⟩
      rw [List.take_add_one, e]
      simpa using kct_snoc hJ
    · intro ys D' hJ hD'
      rw [← hsz, List.take_length] at hJ
      k_extra "vst"
      refine V.joinS (.head _) hJ ?_ fun tw => ?_
      · have e0 : (Str.ofString "").length = 0 := by decide +kernel
        rw [e0, Nat.mul_zero, List.map_map, show ((fun x : Str => x.length) ∘ fun c : UInt8 => (⟨#[c.toNat]⟩ : Str)) = fun _ => 1 from rfl, ones_sum]
        omega
      rw [octW_join]
      refine V.drop ?_
      k_extra "vst"
      refine V.setCell rfl (.head fun p hp => Nat.ne_of_lt (hc p hp)) d1 fun o' d1 => ?_
      have hlw : (octW d).length ≤ 9000 := by rw [octW_len]; omega
      have hcm : (c, o') ∈ (c, o') :: led := .head _
      clear hc2 hco hsz hz2 hJ hD' hz
      k_extra "vst"
      have hs1 : ∀ p ∈ led, p ∈ (c, o') :: led := fun _ h => .tail _ h
      refine V.signEq S (k := 60) rfl ?_
      k_extra "vst"
      refine ite_d (fun h60 => ?_) (fun h60 => ?_)
      · subst h60
        obtain ⟨bs, rfl⟩ := atom_60 ha hv
        have hbl : (vI (.bytes bs)).length = 2 * bs.size + 2 := by rw [bytes_vI, List.length_cons, List.length_append, hexInts_len]; rfl
        k_extra "vst"
        refine V.lenS (Nat.le_trans hlw (by decide)) fun _ => ?_
        k_extra "vst"
        refine V.mod (by decide) fun _ => ?_
        k_extra "vst"
        rw [octW_len]
        refine ite_e (fun h => absurd h (even_mod hbl)) (fun _ => ?_)
        k_extra "vst"
        refine V.signEq S (k := 60) rfl ?_
        k_extra "vst"
        refine V.each (cl' := [(S1 "word", c)]) (fun _ _ _ _ => rfl) (by decide) rfl rfl rfl (by decide) rfl rfl (fun _ _ => rfl) (fun i ys => IntsAre ys ((bI bs).take i)) .nil ?_
        k_extra "vst"
        refine V.lenS (Nat.le_trans hlw (by decide)) fun _ => ?_
        k_extra "vst"
        rw [octW_len, odd_end hbl]
        refine V.range3 (by decide) (PyProof.noPylong_small (by omega)) fun r t1 u1 v1 hr => ?_
        have hs2 : ∀ p ∈ (c, o') :: led, p ∈ (r, rngObj 1 (2 * (bs.size : Int) + 1) 2 t1 u1 v1) :: (c, o') :: led := fun _ h => .tail _ h
        refine ⟨rfl, _, _, _, Src.range2 (.head _) (by omega), by omega, fun _ _ => trivial, ?_, ?_⟩
        · rintro i v ys nx oC C m₂ hi ⟨ti, rfl⟩ hJ hs hC hCm hxx
          have hcx : (c, o') ∈ nx := hs _ (hs2 _ (.head _))
          k_extra "vst"
          refine V.strTwo ?_
          k_extra "vst"
          refine ⟨_, _, _, _, _, _, rfl, rfl, rfl, Nat.le_trans hlw (by decide), fun _ => ?_⟩
          k_extra "vst"
          refine V.int16 (p := (bs[i]'hi).toNat / 16) (q := (bs[i]'hi).toNat % 16) (Nat.div_lt_of_lt_mul (bs[i]'hi).toNat_lt) (Nat.mod_lt _ (by decide)) (bytes_slice hi) fun _ => ⟨rfl, fun _ h => h, ?_⟩
          have e : (bI bs)[i]? = some (((bs[i]'hi).toNat : Nat) : Int) := by simp [bI, KBw.bInts, hi]
          rw [List.take_add_one, e, Nat.div_add_mod]
          exact hJ.append (.cons _ _ .nil)
        · intro ys D' hJ hD'
          rw [← bI_len bs, List.take_length] at hJ
          k_extra "vst"
          refine V.bytesOf (.head _) hJ (fun n hn => KBw.ints_in hn) (by rw [bI_len]; omega) fun _ => ?_
          rw [byteArr_bI]
          k_extra "vst"
          exact V.tuple fun q hq => part_end (fun _ h => .tail _ (.tail _ (.tail _ h))) (.bytes _ _) hq rfl
      k_extra "vst"
      refine V.signEq S (k := 60) rfl ?_
      k_extra "vst"
      refine ite_d (fun h => absurd h h60) (fun _ => ?_)
      k_extra "vst"
      refine V.signEq S (k := 39) rfl ?_
      k_extra "vst"
      refine ite_d (fun h39 => ?_) (fun h39 => ?_)
      · subst h39
        obtain ⟨xs, rfl⟩ := atom_39 ha hv
        have hxl : letters xs = true := hg
        k_extra "vst"
        refine V.strFrom ?_
        k_extra "vst"
        refine ⟨_, _, _, _, rfl, rfl, Nat.le_trans hlw (by decide), fun _ => ?_⟩
        rw [str_word hxl]
        k_extra "vst"
        exact V.tuple fun q hq => part_end hs1 (.str _ _) hq rfl
      k_extra "vst"
      refine V.inStrs (.head _) (by repeat' constructor) ?_
      rcases atom_rest (a := 0) (b := 0) (c := 0) ha hv h60 h39 hg with ⟨e1, v, hvv, hDv⟩ | ⟨e1, i, rfl, hi⟩
      · rw [e1]
        k_extra "vst"
        refine V.dictS rfl rfl (List.cons_ne_nil _ _) rfl fun dd ob hlt hsm => ?_
        refine V.pcons ?_
        k_extra "vst"
        refine V.pcons ?_
        k_extra "vst"
        refine V.pcons ?_
        k_extra "vst"
        refine V.pnil ⟨_, .head fun p hp => Nat.ne_of_lt (hlt p hp), rfl, (show ((["t", "f", "n"] : List String).map Str.ofString).Nodup by decide +kernel), fun o' hd => ?_⟩
        k_extra "vst"
        refine V.itemT (.head _) hd hvv ?_
        k_extra "vst"
        exact V.tuple fun q hq => part_end (fun _ h => .tail _ (.tail _ (hs1 _ h))) hDv hq rfl
      · rw [e1]
        k_extra "vst"
        refine V.intT (int_text hi).1 (int_text hi).2 fun _ => ?_
        k_extra "vst"
        exact V.tuple fun q hq => part_end (fun _ h => .tail _ (hs1 _ h)) (.int _ _) hq rfl
end
section
open PySem PySem.W PyProof.Rows PySem.Calls PySem.NumText
theorem vI_head : ∀ d : D, ∃ x tl, vI d = x :: tl ∧ x ≠ 32 ∧ x ≠ 41
  | .none => ⟨110, [], rfl, by decide, by decide⟩
  | .bool true => ⟨116, [], rfl, by decide, by decide⟩
  | .bool false => ⟨102, [], rfl, by decide, by decide⟩
  | .int i => by
    cases h : vI (.int i) with
    | nil =>
      rw [vI_int] at h
      have := congrArg List.length h
      simp only [List.length_append, List.length_reverse, List.length_nil] at this
      have := digs_pos i.natAbs
      omega
    | cons x tl =>
      have := int_head h
      exact ⟨x, tl, rfl, by omega, by omega⟩
  | .str x => ⟨39, _, vI_str x, by decide, by decide⟩
  | .bytes b => ⟨60, _, bytes_vI b, by decide, by decide⟩
  | .tup ds => ⟨40, _, vI_tup ds, by decide, by decide⟩
structure PartInv (ks post : List Int) (ds : List D) (i j : Nat) : Prop where
  hj : j ≤ ds.length
  rest : ks.drop i = tailI (ds.drop j) ++ 41 :: post ∨ ∃ d r, ds.drop j = d :: r ∧ ks.drop i = vI d ++ (tailI r ++ 41 :: post)
theorem drop_cons {ks r : List Int} {i : Nat} {x : Int} (h : ks.drop i = x :: r) : ks.getD i (-1) = x ∧ ks.drop (i + 1) = r ∧ i < ks.length := by
  have hl : i < ks.length := by
    have := congrArg List.length h
    rw [List.length_drop, List.length_cons] at this
    omega
  rw [List.drop_eq_getElem_cons hl] at h
  have h1 := List.cons.inj h
  exact ⟨by rw [List.getD_eq_getElem?_getD, List.getElem?_eq_getElem hl, Option.getD_some, h1.1], h1.2, hl⟩
theorem PartInv.start {ks pre post : List Int} {ds : List D} (h : ks = pre ++ vI (.tup ds) ++ post) : PartInv ks post ds (pre.length + 1) 0 := by
  refine ⟨Nat.zero_le _, ?_⟩
  subst h
  cases ds with
  | nil =>
    left
    rw [vI_tup0, List.append_assoc, ← List.drop_drop, List.drop_left]
    rfl
  | cons d r =>
    right
    refine ⟨d, r, rfl, ?_⟩
    rw [vI_tup1, List.append_assoc, ← List.drop_drop, List.drop_left]
    simp
theorem PartInv.here {ks post : List Int} {ds : List D} {i j : Nat} (H : PartInv ks post ds i j) : i < ks.length ∧ ((ks.getD i (-1) = 41 ∧ j = ds.length ∧ ks.drop i = 41 :: post) ∨ (ks.getD i (-1) = 32 ∧ PartInv ks post ds (i + 1) j) ∨
    (ks.getD i (-1) ≠ 41 ∧ ks.getD i (-1) ≠ 32 ∧ ∃ d r, ds.drop j = d :: r ∧ ks = ks.take i ++ vI d ++ (tailI r ++ 41 :: post) ∧ PartInv ks post ds (i + (vI d).length) (j + 1))) := by
  rcases H.rest with h | ⟨d, r, hd, h⟩
  · cases hr : ds.drop j with
    | nil =>
      rw [hr] at h
      have h' : ks.drop i = 41 :: post := h
      obtain ⟨h1, h2, h3⟩ := drop_cons h'
      have := congrArg List.length hr
      rw [List.length_drop, List.length_nil] at this
      have := H.hj
      exact ⟨h3, .inl ⟨h1, by omega, h'⟩⟩
    | cons d r =>
      rw [hr] at h
      have h' : ks.drop i = 32 :: (vI d ++ (tailI r ++ 41 :: post)) := by rw [h]; simp [tailI]
      obtain ⟨h1, h2, h3⟩ := drop_cons h'
      exact ⟨h3, .inr (.inl ⟨h1, H.hj, .inr ⟨d, r, hr, h2⟩⟩)⟩
  · obtain ⟨x, tl, hx, hx1, hx2⟩ := vI_head d
    have h' := h
    rw [hx, List.cons_append] at h'
    obtain ⟨h1, h2, h3⟩ := drop_cons h'
    refine ⟨h3, .inr (.inr ⟨by rw [h1]; exact hx2, by rw [h1]; exact hx1, d, r, hd, ?_, ?_, ?_⟩)⟩
    · rw [List.append_assoc, ← h, List.take_append_drop]
    · have := congrArg List.length hd
      rw [List.length_drop, List.length_cons] at this
      omega
    · left
      rw [← List.drop_drop, h, List.drop_left]
      have : ds.drop (j + 1) = r := by rw [← List.drop_drop, hd]; rfl
      rw [this]
theorem PartInv.fin {ks pre post : List Int} {ds : List D} {i : Nat} (h : ks = pre ++ vI (.tup ds) ++ post) (hi : i < ks.length) (hd : ks.drop i = 41 :: post) : i + 1 = pre.length + (vI (.tup ds)).length := by
  have h1 := congrArg List.length h
  have h2 := congrArg List.length hd
  rw [List.length_append, List.length_append] at h1
  rw [List.length_drop, List.length_cons] at h2
  omega
inductive PartOut (led : Led) (d : D) (e : Int) (led' : Led) (r : Value) : Prop
  | mk (q : Addr) (n : Nat) (v : Value) (t : Tok) (new : Led) (hn : NewT ((q, tupOf [v, .int e t] n) :: new) led) (h : led' = (q, tupOf [v, .int e t] n) :: (new ++ led)) (hr : r = .ref q) (hv : DIn new v d) : PartOut led d e led' r
theorem tailI_len : ∀ ds : List D, ds.length ≤ (tailI ds).length
  | [] => Nat.zero_le _
  | d :: r => by
    have := tailI_len r
    have e : tailI (d :: r) = 32 :: vI d ++ tailI r := rfl
    rw [e, List.length_append, List.length_cons, List.length_cons]
    omega
theorem vI_tup_len (ds : List D) : ds.length ≤ (vI (.tup ds)).length := by
  cases ds with
  | nil => exact Nat.zero_le _
  | cons d r =>
    have := tailI_len r
    rw [vI_tup1, List.length_cons, List.length_cons, List.length_append, List.length_append]
    omega
theorem Con.weak {w : World} {f : Addr} {vs : List Value} {led : Led} {dk uk dk' uk' : Nat} {Out Out' : Led → Value → Prop} (C : Con w f vs led dk uk Out) (h1 : dk ≤ dk') (h2 : uk ≤ uk') (h3 : ∀ l r, Out l r → Out' l r) : Con w f vs led dk' uk' Out' :=
  fun mean mg mb dp un cn cs a ccd cl outer A₀ base h₀ L m s Q E B F X N T hk hd hu hret =>
    C mean mg mb dp un cn cs a ccd cl outer A₀ base h₀ L m s Q E B F X N T hk (by omega) (by omega) fun r l h t F N o => hret r l h t F N (h3 l r o)
end
section
open PySem PySem.W PyProof.Rows
theorem atom_ok {d : D} {x : Int} {tl : List Int} (ha : d.atom = true) (hg : d.good = true) (hv : vI d = x :: tl) : x ≠ 40 ∧ ∀ k ∈ tl, k ≠ 32 ∧ k ≠ 41 := by
  cases d with
  | none => cases hv; exact ⟨by decide, fun _ h => nomatch h⟩
  | bool b => cases b <;> (cases hv; exact ⟨by decide, fun _ h => nomatch h⟩)
  | int i =>
    have hx := int_head hv
    refine ⟨by omega, fun k hk => ?_⟩
    have hm : k ∈ vI (.int i) := hv ▸ .tail _ hk
    rw [vI_int, List.mem_append] at hm
    rcases hm with hm | hm
    · split at hm
      · have : k = 45 := by simpa using hm
        omega
      · cases hm
    · have := digs_in _ k (List.mem_reverse.mp hm)
      omega
  | str y =>
    rw [vI_str] at hv
    obtain ⟨rfl, rfl⟩ := List.cons.inj hv
    refine ⟨by decide, fun k hk => ?_⟩
    obtain ⟨c, hc, rfl⟩ := List.mem_map.mp hk
    have := List.all_eq_true.mp (show letters y = true from hg) c hc
    simp only [Bool.and_eq_true, decide_eq_true_eq] at this
    have e : ((c.toUInt8).toNat : Int) = c := by simp; omega
    rw [e]; omega
  | bytes b =>
    rw [bytes_vI] at hv
    obtain ⟨rfl, rfl⟩ := List.cons.inj hv
    refine ⟨by decide, fun k hk => ?_⟩
    rcases List.mem_append.mp hk with hk | hk
    · unfold hexInts at hk
      obtain ⟨c, hc, hk⟩ := List.mem_flatMap.mp hk
      have := KBw.ints_in hc
      unfold hex2 at hk
      simp only [List.mem_cons, List.not_mem_nil, or_false] at hk
      rcases hk with rfl | rfl
      · have := hexDig_in (k := c.toNat / 16) (by omega); omega
      · have := hexDig_in (k := c.toNat % 16) (by omega); omega
    · have : k = 62 := by simpa using hk
      omega
  | tup ds => cases ha
theorem PartOut.atom {led : Led} {d : D} {e : Int} {led' : Led} {r : Value} : AtomOut led d e led' r → PartOut led d e led' r
  | ⟨q, n, v, t, h1, h2, h3, h4⟩ => ⟨q, n, v, t, [], (NewT.nil led).cons h4, h1, h2, h3⟩
theorem part_end2 {l' : Loc} {led rest new : Led} {q : Addr} {d : D} {E E' : Int} {v : Value} {t : Tok} (hs : ∀ p ∈ new ++ led, p ∈ rest) (hn : NewT new led) (hD : DIn new v d) (hq : ∀ p ∈ rest, p.1 < q) (e : E = E') :
    finQ (PartOut led d E') (.ret (.ref q)) l' ((q, tupOf [v, .int E t] 0) :: rest) :=
  ⟨(q, tupOf [v, .int E t] 0) :: (new ++ led), fun p hp => (List.mem_cons.mp hp).elim (fun e => e ▸ .head _) (fun hp => .tail _ (hs p hp)), q, 0, v, t, new, (e ▸ hn.cons (fun p hp => Nat.ne_of_lt (hq p (hs p (List.mem_append_right _ hp))))), by rw [e], rfl, hD⟩
theorem goods_mem : ∀ {ds : List D} {d : D}, D.goods ds = true → d ∈ ds → d.good = true
  | _ :: _, _, h, hm => by
    simp only [D.goods, Bool.and_eq_true] at h
    rcases List.mem_cons.mp hm with rfl | hm
    · exact h.1
    · exact goods_mem h.2 hm
theorem turn9 {a l c : Addr × Obj} {new9 new led : Led} : ∀ p ∈ l :: a :: ((new9 ++ new) ++ c :: led), p ∈ a :: (new9 ++ l :: (new ++ c :: led)) := fun p hp => by
  simp only [List.mem_cons, List.mem_append] at hp ⊢
  rcases hp with h | h | (h | h) | h | h <;> simp [h]
set_option maxRecDepth 100000 in
theorem c_lpart (w : World) : ∀ (n : Nat) (d : D) (led : Led) (b : Array UInt8) (tb tk : Tok) (pre post : List Int), d.dep ≤ n → d.good = true → b.size ≤ 9000 → bI b = pre ++ vI d ++ post → Delim post →
    Con w 315 [.bytes b tb, .int (pre.length : Int) tk] led (n + 5) (8 * n + 60) (PartOut led d ((pre.length + (vI d).length : Nat) : Int)) := by
  intro n
  induction n using Nat.strongRecOn with
  | ind n ih =>
  intro d led b tb tk pre post hn hg hb hks hp
  have atom : d.atom = true → Con w 315 [.bytes b tb, .int (pre.length : Int) tk] led (n + 5) (8 * n + 60) (PartOut led d ((pre.length + (vI d).length : Nat) : Int)) := fun ha => by
    obtain ⟨x, tl, hv, h1, h2⟩ := vI_head d
    have hx : x ≠ 40 ∧ ∀ k ∈ tl, k ≠ 32 ∧ k ≠ 41 := atom_ok ha hg hv
    exact (c_atom w led d b tb tk pre post x tl hg ha hb hks hv hx.1 hx.2 hp).weak (by omega) (by omega) fun _ _ => PartOut.atom
  cases d with
  | none => exact atom rfl
  | bool _ => exact atom rfl
  | int _ => exact atom rfl
  | str _ => exact atom rfl
  | bytes _ => exact atom rfl
  | tup ds =>
    clear atom
    simp only [D.dep] at hn
    obtain ⟨k, rfl⟩ : ∃ k, n = k + 1 := ⟨n - 1, by omega⟩
    k_dflt (refine' Con.of_V1 [(S1 "at", .int (pre.length : Int) tk), (S1 "octets", .bytes b tb)] (S1 "word") none ?a ?b ?c ?d ?e ?f ?g ?h ?i ?j ?k ?_; ((case a => k_is); (case b => k_is); (case c => rfl); (case d => rfl); (case e => rfl); (case f => rfl); (case g => rfl); (case h => rfl); (case i => exact fun _ => rfl); (case j => exact bindL_2 rfl rfl); (case k => rfl)))
    intro c ob d1 hc
    have hlen := bI_len b
    have hz : (bI b).getD pre.length (-1) = 40 := by rw [hks, vI_tup]; simp
    have hlz : pre.length + (vI (.tup ds)).length + post.length = b.size := by rw [← hlen, hks, List.length_append, List.length_append]
    have hdl := vI_tup_len ds
    k_extra "vst"
    refine V.cut2 ?_
    k_extra "vst"
    refine ⟨b, tb, _, _, _, _, rfl, rfl, rfl, by omega, by omega, by omega, fun cs ts hcs _ => ?_⟩
    have S : SignOf cs 40 := by
      have := signOf (b := b) (c := cs) (i := pre.length) (by rw [hcs, Int.toNat_natCast]; congr 1; omega)
      rwa [hz] at this
    clear hcs
    k_extra "vst"
    refine V.signEq S (k := 40) rfl ?_
    k_extra "vst"
    refine V.swap2 (fun _ _ _ _ _ => rfl) (fun _ _ _ _ _ => rfl) rfl rfl ?_
    k_extra "vst"
    rename_i l9 hl9 _ tz a ha
    refine ⟨a, _, _, _, rfl, .head _, ?_⟩
    refine V.drop ?_
    clear ha
    k_extra "vst"
    have hcl : c ≠ l9 := Nat.ne_of_lt (hl9 _ (.head _))
    have hlel : ∀ p ∈ led, p.1 ≠ l9 := fun p hp => Nat.ne_of_lt (hl9 p (.tail _ hp))
    refine V.pass (τ := Nat × Tok × Nat × List Value × Nat × Led) (fun s => [(S1 "at", .int (s.1 : Int) s.2.1), (S1 "found", .ref l9), (S1 "octets", .bytes b tb)]) (fun s => (l9, lst s.2.2.2.1 s.2.2.2.2.1) :: (s.2.2.2.2.2 ++ (c, ob) :: led))
      (fun s => PartInv (bI b) post ds s.1 s.2.2.1 ∧ NewT s.2.2.2.2.2 led ∧ DAll s.2.2.2.2.2 s.2.2.2.1 (ds.take s.2.2.1)) (fun s => b.size + 1 - s.1) (pre.length + 1, tz, 0, [], 0, []) ?_ ⟨PartInv.start hks, NewT.nil led, .nil⟩ (fun _ h => h) ?_
    · exact ⟨rfl, rfl, rfl, trivial⟩
    clear hl9 hz S
    rintro ⟨i, ti, j, vs, nn, new⟩ u ⟨hinv, hnew, hall⟩
    dsimp only at hinv hnew hall ⊢
    obtain ⟨hci, hway⟩ := hinv.here
    k_extra "vst"
    refine V.cut2 ?_
    k_extra "vst"
    refine ⟨b, tb, _, _, _, _, rfl, rfl, rfl, by omega, by omega, by omega, fun c2 t2 hc2 _ => ?_⟩
    have S2 := signOf (b := b) (c := c2) (i := i) (by rw [hc2, Int.toNat_natCast]; congr 1; omega)
    clear hc2
    k_extra "vst"
    refine V.signNe S2 (k := 41) rfl ?_
    k_extra "vst"
    refine ite_i (fun g => ?_) (fun g => ?_)
    · rw [Bool.not_eq_true', decide_eq_false_iff_not] at g
      k_extra "vst"
      refine V.cut2 ?_
      k_extra "vst"
      refine ⟨b, tb, _, _, _, _, rfl, rfl, rfl, by omega, by omega, by omega, fun c3 t3 hc3 _ => ?_⟩
      have S3 := signOf (b := b) (c := c3) (i := i) (by rw [hc3, Int.toNat_natCast]; congr 1; omega)
      clear hc3
      k_extra "vst"
      refine V.signEq S3 (k := 32) rfl ?_
      k_extra "vst"
      refine ite_d (fun g2 => ?_) (fun g2 => ?_)
      · have hinv2 : PartInv (bI b) post ds (i + 1) j := by
          rcases hway with ⟨a, _⟩ | ⟨_, a⟩ | ⟨_, a, _⟩
          · omega
          · exact a
          · exact absurd g2 a
        k_extra "vst"
        rename_i tz
        exact ⟨(i + 1, tz, j, vs, nn, new), by simp only []; omega, ⟨hinv2, hnew, hall⟩, fun _ h => h, rfl, rfl, rfl, trivial⟩
      obtain ⟨d, r, hd, hsplit, hinv2⟩ : ∃ d r, ds.drop j = d :: r ∧ bI b = (bI b).take i ++ vI d ++ (tailI r ++ 41 :: post) ∧ PartInv (bI b) post ds (i + (vI d).length) (j + 1) := by
        rcases hway with ⟨a, _⟩ | ⟨a, _⟩ | ⟨_, _, a⟩
        · exact absurd a g
        · exact absurd a g2
        · exact a
      have hdm : d ∈ ds := List.mem_of_mem_drop (i := j) (by rw [hd]; exact .head _)
      have hdep := D.deps_mem hdm
      have hgd := goods_mem (show D.goods ds = true from hg) hdm
      have hjd : ds.take (j + 1) = ds.take j ++ [d] := by
        rw [List.take_add_one]
        have := congrArg List.head? hd
        rw [List.head?_drop] at this
        rw [this]; rfl
      have hvl := hall.length
      have hjl := hinv.hj
      rw [List.length_take, Nat.min_eq_left hjl] at hvl
      have C := ih k (Nat.lt_succ_self k) d ((l9, lst vs nn) :: (new ++ (c, ob) :: led)) b tb ti ((bI b).take i) (tailI r ++ 41 :: post) (by omega) hgd hb hsplit (delim_tail _ _)
      rw [List.length_take, Nat.min_eq_left (Nat.le_of_lt hci)] at C
      have hcl2 : i + (vI d).length ≤ (bI b).length := by
        have := congrArg List.length hsplit
        rw [List.length_append, List.length_append, List.length_take, Nat.min_eq_left (Nat.le_of_lt hci)] at this
        omega
      have hvp : 0 < (vI d).length := by obtain ⟨x, tl, e, _⟩ := vI_head d; rw [e]; exact Nat.succ_pos _
      k_extra "vst"
      refine V.unpack2 (fun _ _ _ _ _ => rfl) (fun _ _ _ _ _ => rfl) rfl rfl ?_
      k_extra "vst"
      refine V.callF C (Nat.ble_eq_true_of_le (by omega)) (Nat.ble_eq_true_of_le (by omega)) ?_
      rintro r9 led9 huniq ⟨q, nq, v, t, new9, hn9, rfl, rfl, hD9⟩
      have hn99 : NewT ((q, tupOf [v, .int ((i + (vI d).length : Nat) : Int) t] nq) :: (new9 ++ new)) led := NewT.app hnew ⟨hn9.1, fun z hz p hp => hn9.2 z hz p (.tail _ ((List.mem_append.mp hp).elim (fun h => List.mem_append.mpr (.inl h)) fun h => List.mem_append.mpr (.inr (.tail _ h))))⟩
      refine ⟨q, _, _, _, rfl, .head _, ?_⟩
      refine V.sub turn9 ?_
      k_extra "vst"
      refine V.append _ (fun _ => rfl) rfl ?_
      k_extra "vst"
      refine ⟨l9, rfl, ⟨_, _, .head _⟩, ?_⟩
      k_extra "vst"
      have hne : ∀ p ∈ (q, tupOf [v, .int ((i + (vI d).length : Nat) : Int) t] nq) :: ((new9 ++ new) ++ (c, ob) :: led), p.1 ≠ l9 := fun p hp e => by
        have key := huniq p (turn9 p (.tail _ hp)) (l9, lst vs nn) (turn9 _ (.head _)) e
        rcases List.mem_cons.mp hp with rfl | hp2
        · exact tup_ne_lst _ _ _ _ key
        rcases List.mem_append.mp hp2 with hp3 | hp3
        · obtain ⟨ws, k9, e9⟩ := hn99.1 p (.tail _ hp3)
          exact tup_ne_lst _ _ _ _ (e9.symm.trans key)
        rcases List.mem_cons.mp hp3 with rfl | hp3
        · exact hcl e
        · exact hlel p hp3 e
      refine ⟨vs, nn, _, Upd.head hne, by omega, ?_⟩
      k_extra "vst"
      refine ⟨(i + (vI d).length, t, j + 1, vs ++ [v], nn + 1, (q, tupOf [v, .int ((i + (vI d).length : Nat) : Int) t] nq) :: (new9 ++ new)), by simp only []; omega, ⟨hinv2, hn99, ?_⟩, fun _ h => h, rfl, rfl, rfl, trivial⟩
      show DAll _ (vs ++ [v]) (ds.take (j + 1))
      rw [hjd]
      exact (hall.mono fun p hp => .tail _ (List.mem_append.mpr (.inr hp))).append (.one (hD9.mono fun p hp => .tail _ (List.mem_append.mpr (.inl hp))))
    · have h41 : (bI b).getD i (-1) = 41 := by simpa using g
      have hx : j = ds.length ∧ (bI b).drop i = 41 :: post := by
        rcases hway with ⟨_, a, e⟩ | ⟨a, _⟩ | ⟨a, _⟩
        · exact ⟨a, e⟩
        · omega
        · exact absurd h41 a
      obtain ⟨rfl, hdr⟩ := hx
      have hE := PartInv.fin hks hci hdr
      rw [List.take_length] at hall
      have hlv := hall.length
      k_extra "vst"
      refine V.tupleOf (.head _) (by omega) fun q9 lq => ?_
      k_extra "vst"
      refine V.tuple fun q hq => ?_
      refine part_end2 (new := (q9, tupOf vs 0) :: new) ?_ (hnew.cons fun p hp => Nat.ne_of_lt (lq p (.tail _ (List.mem_append_right _ (.tail _ hp))))) (.tup (.head _) (hall.mono fun _ h => .tail _ h)) hq (by omega)
      intro p hp
      simp only [List.mem_cons, List.mem_append, List.cons_append] at hp ⊢
      rcases hp with h | h | h <;> simp [h]
end
section
open PySem PySem.W PyProof.Rows PySem.Calls
inductive Told (led : Led) : List Value → List D → Prop
  | nil : Told led [] []
  | cons {q : Addr} {v : Value} {t : Tok} {n : Nat} {d : D} {ys : List Value} {ds : List D} (h1 : (q, tupOf [v, .int ((vI d).length : Int) t] n) ∈ led) (h2 : DIn led v d) (h3 : Told led ys ds) : Told led (.ref q :: ys) (d :: ds)
theorem Told.mono {led led' : Led} {ys : List Value} {ds : List D} (h : Told led ys ds) (hs : ∀ p ∈ led, p ∈ led') : Told led' ys ds := by
  induction h with
  | nil => exact .nil
  | cons a b _ ih => exact .cons (hs _ a) (b.mono hs) ih
theorem Told.snoc {led : Led} {ys : List Value} {ds : List D} (h : Told led ys ds) {q : Addr} {v : Value} {t : Tok} {n : Nat} {d : D} (h1 : (q, tupOf [v, .int ((vI d).length : Int) t] n) ∈ led) (h2 : DIn led v d) : Told led (ys ++ [.ref q]) (ds ++ [d]) := by
  induction h with
  | nil => exact .cons h1 h2 .nil
  | cons a b _ ih => exact .cons a b ih
theorem Told.length {led : Led} {ys : List Value} {ds : List D} (h : Told led ys ds) : ys.length = ds.length := by
  induction h with
  | nil => rfl
  | cons _ _ _ ih => simp [ih]
theorem Told.get {led : Led} {ys : List Value} {ds : List D} (h : Told led ys ds) {i : Nat} {y : Value} (hy : ys[i]? = some y) : ∃ d q n v t, ds.take (i + 1) = ds.take i ++ [d] ∧ y = .ref q ∧ (q, tupOf [v, .int ((vI d).length : Int) t] n) ∈ led ∧ DIn led v d := by
  induction h generalizing i with
  | nil => cases hy
  | cons a b _ ih =>
    cases i with
    | zero => cases hy; exact ⟨_, _, _, _, _, rfl, rfl, a, b⟩
    | succ i =>
      obtain ⟨d, q, n, v, t, e, h1, h2, h3⟩ := ih hy
      exact ⟨d, q, n, v, t, by rw [List.take_succ_cons, e]; rfl, h1, h2, h3⟩
theorem bytes_at {vs : List Value} {ds : List D} (h : BytesAre vs (ds.map fun d => (valOct d).toArray)) {i : Nat} {v : Value} (hv : vs[i]? = some v) : ∃ d t, d ∈ ds ∧ ds.take (i + 1) = ds.take i ++ [d] ∧ v = .bytes (valOct d).toArray t := by
  induction ds generalizing vs i with
  | nil => cases h; cases hv
  | cons d r ih =>
    cases h with
    | cons b u k =>
      cases i with
      | zero => cases hv; exact ⟨_, _, .head _, rfl, rfl⟩
      | succ i =>
        obtain ⟨d, t, hm, e, h1⟩ := ih k hv
        exact ⟨d, t, .tail _ hm, by rw [List.take_succ_cons, e]; rfl, h1⟩
theorem tup_ref {T : Led} {v : Value} {ds : List D} (h : DIn T v (.tup ds)) : ∃ q vs n, v = .ref q ∧ (q, tupOf vs n) ∈ T ∧ DAll T vs ds := by
  cases h
  exact ⟨_, _, _, rfl, by assumption, by assumption⟩
theorem tup_at {T : Led} {q : Addr} {ds : List D} (h : DIn T (.ref q) (.tup ds)) : ∃ vs n, (q, tupOf vs n) ∈ T ∧ DAll T vs ds := by
  cases h
  exact ⟨_, _, by assumption, by assumption⟩
section
variable {prog : Program} {w : World} {A : Around} {E : Value → Shared → Prop} {s : Shared} {h₀ : Heap} {L : Addr} {m : Str → Option Value} {led : Led}
theorem itemT {value slice : Expr} {a : Addr} {vs : List Value} {n : Nat} {k : Int} {u : Tok} {v : Value} {Q : Value → Shared → Prop} (N : News h₀ L s.heap led) (hm : (a, tupOf vs n) ∈ led) (h0 : 0 ≤ k) (hf : k < 2 ^ 63) (hx : vs[k.toNat]? = some v) (q : Q v s)
    (hs : subscripted slice false (.ref a) (.int k u) = operate [.ref a, .int k u] (getItem (.ref a) (.int k u)) := by with_unfolding_all rfl) :
    wpAny (model prog w) A (subscriptTail value slice (.ref a) (.int k u)) Q E s := by
  have hl : k.toNat < vs.length := by
    have := List.getElem?_eq_some_iff.mp hx
    exact this.1
  exact item_tupleT (DIn.isTup N hm) (by omega) hf (seqIndex_of h0 (by omega)) hx q hs
theorem ne_same {a b : Addr} {vs us : List Value} {n k : Nat} {ns : List Int} {Q : Value → Shared → Prop} (N : News h₀ L s.heap led) (ha : (a, lst vs n) ∈ led) (hb : (b, lst us k) ∈ led) (hi : IntsAre vs ns) (hj : IntsAre us ns) (hu : A.units + 64 < cLine) (h : Q (.bool false) s) :
    wpAny (model prog w) A (compareOp .NotEq (.ref a) (.ref b)) Q E s :=
  ke_ne_ints (isLst N ha) (isLst N hb) hi hj hu (by rw [decide_eq_true rfl]; exact h)
end
end
section
open PySem PySem.W PyProof.Rows PySem.Calls PySem.SeqAt
section
variable {prog : Program} {w : World} {A : Around} {E : Value → Shared → Prop} {s : Shared} {h₀ : Heap} {L : Addr} {m : Str → Option Value} {env : Env}
noncomputable def CompGoT (prog : Program) (w : World) (A : Around) (h₀ : Heap) (L : Addr) (m : Str → Option Value) (env : Env) (ct elt : Expr) (x : Str) (scope : Scope) (cl : List (Str × Addr)) (Fin : Shared → List Value → Led → Prop) (it : Value) (s₂ : Shared) : Prop :=
  ∃ (I : Addr) (fp : List Addr) (n : Nat) (P : Nat → Value → Prop) (St : Nat → Heap → Prop) (S : Led → Prop) (news : Led), it = .ref I ∧ Walks prog w A I fp [I] n P St ∧ n ≤ sizeLine ∧ (∀ i h, St i h → ∃ o, h.get? I = some o) ∧
    (∀ i h h' o nw, St i h → h.get? I = some o → h'.get? I = some o → (∀ b o, h₀.get? b = some o → h'.get? b = some o) → News h₀ L h' nw → S nw → St i h') ∧
    St 0 s₂.heap ∧ (∀ b ∈ fp, b < s₂.heap.objs.size) ∧ Fr h₀ L s₂.heap m ∧ News h₀ L s₂.heap news ∧ L ≠ I ∧ h₀.get? I = none ∧ (∀ p ∈ news, p.1 ≠ I) ∧ S news ∧
    LCt.CompRestT prog w A h₀ L m env ct elt x scope cl s₂ S P (Fin s₂) n 0 [] news
theorem comp_T {ct elt iter : Expr} {x : Str} {px : Pos} {scope : Scope} {cl : List (Str × Addr)} {pos : Pos} {Q : Value → Shared → Prop} (_F₀ : Fr h₀ L s.heap m)
    (hclos : closureFor scope env = pure cl) (hcell : ∀ y ∈ scope.names, y.2 ≠ .cell) (hkind : scope.kind = .function)
    (hnames : ∀ y ∈ scope.names, y.2 = .local → scope.names.lookup y.1 = some .local) (hx : scope.names.lookup x = some .local)
    (h : wpAny (model prog w) A (eval iter env) (fun xv s₁ => wpAny (model prog w) A (pyIter xv) (CompGoT prog w A h₀ L m env ct elt x scope cl (fun s₂ => LCg.FinE h₀ L m s₂ Q)) E s₁) E s)
    (hs : ∀ x, foldedSetIterable iter env x = pure x := by intro _; rfl) :
    wpAny (model prog w) A (eval (.ListComp elt [⟨.Name x px, iter, [ct], 0⟩] scope pos) env) Q E s := by
  rw [eval_ListComp]
  refine wpAny_comprehension_free (use := none) rfl hs hclos hkind hnames (wpAny_mono h (fun xv s₁ h₁ => wpAny_mono h₁ (fun it s₂ h₂ => ?_) fun _ _ e => e) fun _ _ e => e)
  obtain ⟨I, fp, n, P, St, S, news, rfl, W, hsz, hIo, hSt, st0, hfp, F, N, hIL, hI₀, off, hS, R⟩ := h₂
  refine LCt.block_T W hsz hIo hSt hcell hkind hx st0 hfp F N hIL hI₀ off hS R ?_
  intro D C h tk m' ys news' F' N' o1 hn hC₀ hD₀ hCL hDL hCD offC fin
  refine ⟨m', hn, fun h'' hs'' => fin D h'' tk (F'.change hs'' hCL hC₀) (fun p hp => ?_) o1⟩
  refine ⟨hs''.extBut _ _ ?_ (N' p hp).1, (N' p hp).2⟩
  rcases List.mem_cons.mp hp with rfl | hp
  · exact Ne.symm hCD
  · exact offC p hp
theorem goT_tuple {ax : Addr} {vs : List Value} {k : Nat} {ct elt : Expr} {x : Str} {scope : Scope} {cl : List (Str × Addr)} {Fin : Shared → List Value → Led → Prop} {news : Led} (hh : A.handled = none) (F : Fr h₀ L s.heap m) (N : News h₀ L s.heap news) (hm : (ax, tupOf vs k) ∈ news) (hsz : vs.length ≤ sizeLine)
    (R : ∀ g, LCt.CompRestT prog w A h₀ L m env ct elt x scope cl { s with heap := g } (fun nw => (ax, tupOf vs k) ∈ nw) (fun i v => vs[i]? = some v) (Fin { s with heap := g }) vs.length 0 [] news) :
    wpAny (model prog w) A (pyIter (.ref ax)) (CompGoT prog w A h₀ L m env ct elt x scope cl Fin) E s := by
  have ht : s.heap.IsTuple ax vs.toArray := ⟨_, (N _ hm).1, rfl, k, rfl⟩
  have hlt : ax < s.heap.objs.size := Heap.lt_size (N _ hm).1
  have W := Walks.tuple (prog := prog) (w := w) hh s.heap.objs.size ax (Nat.ne_of_lt hlt) vs.toArray
  have hW : Walks prog w A s.heap.objs.size [s.heap.objs.size, ax] [s.heap.objs.size] vs.length (fun i v => vs[i]? = some v) (fun i h => h.IsTupleIter s.heap.objs.size ax i ∧ h.IsTuple ax vs.toArray) := by
    simpa using W
  refine wpAny_pyIter_tuple ht ⟨_, _, _, _, _, fun nw => (ax, tupOf vs k) ∈ nw, news, rfl, hW, hsz, fun i h st => let ⟨o, ho, _⟩ := st.1; ⟨o, ho⟩, fun i h h' o nw st e e' _ N' hS => ?_, ⟨⟨_, Heap.get?_push_size _ rfl, rfl, rfl⟩, ?_⟩, fun b hb => ?_, F.push _, N.grown fun _ _ e => Heap.get?_push_of_some _ e,
    Nat.ne_of_lt F.ns.lt, next_is_new F, fun p hp => Nat.ne_of_lt (Heap.lt_size (N p hp).1), hm, R _⟩
  · refine ⟨?_, ⟨_, (N' _ hS).1, rfl, k, rfl⟩⟩
    obtain ⟨o', h1, h2⟩ := st.1; rw [e] at h1; cases h1; exact ⟨o, e', h2⟩
  · exact ⟨_, Heap.get?_push_of_some _ (N _ hm).1, rfl, k, rfl⟩
  · show b < (s.heap.push _).objs.size
    rw [Heap.size_push]
    rcases List.mem_cons.mp hb with rfl | hb
    · exact Nat.lt_succ_self _
    · rw [List.mem_singleton.mp hb]; exact Nat.lt_succ_of_lt hlt
theorem someItem {value slice : Expr} {ad : Addr} {a b c : Array UInt8} {ta tb tc : Tok} {n : Nat} {k : Int} {u : Tok} {z : Nat} {led : Led} {Q : Value → Shared → Prop} (N : News h₀ L s.heap led) (hm : (ad, lst [.bytes a ta, .bytes b tb, .bytes c tc] n) ∈ led) (h0 : 0 ≤ k) (h1 : k < 3)
    (hs : a.size ≤ z ∧ b.size ≤ z ∧ c.size ≤ z) (q : ∀ d t, d.size ≤ z → Q (.bytes d t) s) (hsub : subscripted slice false (.ref ad) (.int k u) = operate [.ref ad, .int k u] (getItem (.ref ad) (.int k u)) := by with_unfolding_all rfl) :
    wpAny (model prog w) A (subscriptTail value slice (.ref ad) (.int k u)) Q E s := by
  obtain ⟨d, t, hx, hd⟩ := some3 (ta := ta) (tb := tb) (tc := tc) h0 h1 hs.1 hs.2.1 hs.2.2
  exact lstItem N hm h0 (by omega) hx (q d t hd) hsub
theorem ConS.useN {w : World} {f : Addr} {vs : List Value} {led : Led} {dk uk : Nat} {Out : Value → Prop}
    {mean : ExcName → Option Value} {mg mb : Str → Option Value} {dp un : Nat} {cn : Str} {cs : Scope} {a : Addr} {ccd : Value} {cl : List (Str × Addr)} {A₀ : Around} {h₀ : Heap} {L : Addr} {m : Str → Option Value} {s : Shared}
    {Q E : Value → Shared → Prop} (F : Fr h₀ L s.heap m) (N : News h₀ L s.heap led) (C : ConS w f vs led dk uk Out) (X : (hd.heap_1 w.params).In h₀) (B : Below A₀ h₀ [] h₀) (T : Top hd.view_39 LW mean mg mb h₀) (hk : cs.kind = .function) (hd : dp + dk < recursionLimit) (hu : un + uk < cLine)
    (ret : ∀ r h' tk', Fr h₀ L h' m → News h₀ L h' led → Out r → Q r { s with heap := h', toks := tk' }) :
    wpAny (model PySem.Challenge.rw_nt0496_01.row.prog w) (ktrTop dp un (some []) cn cs L a ccd cl []) (call (.ref f) vs) Q E s := C _ _ _ _ _ _ _ _ _ _ _ _ _ _ _ _ _ B F X N T hk hd hu ret
theorem restT_none {ct elt : Expr} {x : Str} {scope : Scope} {cl : List (Str × Addr)} {S : Led → Prop} {P : Nat → Value → Prop} {Fin : List Value → Led → Prop} {n : Nat} {news : Led}
    (turn : ∀ i v I oI C oC D m₂ h tk (E' : Value → Shared → Prop), P i v → LCg.NsObj oC m₂ → m₂ x = some v → Fr h₀ L h m → News h₀ L h ((I, oI) :: (C, oC) :: (D, LCg.lst []) :: news) → LCg.Off3 I C D news →
      wpAny (model prog w) A (isTrue ct (compEnvC scope cl C env) (eval ct (compEnvC scope cl C env))) (fun ok s' => if ok = true then False
        else LCg.CompEnd h₀ L m { s with heap := h, toks := tk } I oI C oC D (LCg.lst []) S (fun _ news' => news' = news) Value.none s') E' { s with heap := h, toks := tk })
    (fin : Fin [] news) : LCt.CompRestT prog w A h₀ L m env ct elt x scope cl s S P Fin n 0 [] news := by
  have key : ∀ (j i : Nat), LCt.CompRestT prog w A h₀ L m env ct elt x scope cl s S P Fin j i [] news := by
    intro j
    induction j with
    | zero => intro i; exact fin
    | succ j ih =>
      intro i
      refine LCt.CompRestT.succ ?_
      intro v I oI C oC D m₂ h tk E' hP hC hx F N off _
      refine wpAny_mono (turn i v I oI C oC D m₂ h tk E' hP hC hx F N off) (fun ok s' q => ?_) fun _ _ e => e
      cases ok with
      | true => exact absurd q (by simp)
      | false =>
        obtain ⟨h', tk', news', e, F', N', off', hS, rfl⟩ := q
        exact ⟨h', tk', news', e, F', N', off', hS, ih (i + 1)⟩
  exact key n 0
end
theorem shapes_ne {tl T3 : Led} {dk c1 c2 : Addr} {o8 o3 w1 : Obj} (htl : ∀ q ∈ (dk, o8) :: (c1, o3) :: (c2, w1) :: T3, ∀ p ∈ tl, q.1 < p.1) (h1 : c2 ≠ dk) (h2 : c1 ≠ c2) (hTc : ∀ p ∈ T3, p.1 ≠ c2) :
    ∀ p ∈ tl ++ (dk, o8) :: (c1, o3) :: T3, p.1 ≠ c2 := fun p hp => by
  rcases List.mem_append.mp hp with hp | hp
  · exact Nat.ne_of_gt (htl (c2, w1) (.tail _ (.tail _ (.head _))) p hp)
  rcases List.mem_cons.mp hp with rfl | hp
  · exact Ne.symm h1
  rcases List.mem_cons.mp hp with rfl | hp
  · exact h2
  · exact hTc p hp
theorem cells_off {T : Led} {C c2 : Addr} {w1 : Obj} {ks : List Int} {x : Option Value} (h : Cells ((c2, w1) :: T) C ks) (hw : w1.data = Data.cell x) : Cells T C ks := by
  obtain ⟨⟨vs, k, hm, hi⟩, h2, h3⟩ := h
  refine ⟨⟨vs, k, ?_, hi⟩, h2, h3⟩
  rcases List.mem_cons.mp hm with e | hm
  · cases e; cases hw
  · exact hm
theorem perm5 {a b c : Addr × Obj} {tl T : Led} : ∀ p ∈ b :: c :: a :: (tl ++ T), p ∈ a :: (tl ++ b :: c :: T) := fun p hp => by
  simp only [List.mem_cons, List.mem_append] at hp ⊢
  rcases hp with h | h | h | h | h <;> simp [h]
theorem rest5 {w : World} {tl T3 : Led} {dk q C c2 sh : Addr} {w1 : Obj} {ks : List Int} {ds : List D} {x : Option Value} (hR : DIn T3 (.ref q) (.tup ds)) (hsh : ShapesIn w tl sh) (hC : Cells ((c2, w1) :: T3) C ks) (hw : w1.data = Data.cell x) (h1 : ∀ p ∈ tl, p.1 ≠ dk) (h2 : ∀ p ∈ T3, p.1 ≠ dk) :
    ∃ T5, T5 = tl ++ T3 ∧ ShapesIn w T5 sh ∧ Cells T5 C ks ∧ (∀ p ∈ T5, p.1 ≠ dk) ∧ ∃ vs n, (q, tupOf vs n) ∈ T5 ∧ DAll T5 vs ds := by
  obtain ⟨vs, n, hm, hd⟩ := tup_at hR
  exact ⟨_, rfl, hsh.mono fun p hp => List.mem_append.mpr (.inl hp), (cells_off hC hw).mono fun p hp => List.mem_append.mpr (.inr hp), fun p hp => (List.mem_append.mp hp).elim (h1 p) (h2 p), vs, n, List.mem_append.mpr (.inr hm), hd.mono fun p hp => List.mem_append.mpr (.inr hp)⟩
theorem dall_cons {T : Led} {v : Value} {vs : List Value} {d : D} {ds : List D} (h : DAll T (v :: vs) (d :: ds)) : DIn T v d ∧ DAll T vs ds := by
  cases h
  exact ⟨by assumption, by assumption⟩
theorem row_ref {T : Led} {v : Value} {d : D} (h : DIn T v d) (hr : isRow d = true) : ∃ ar x tx vs n r, d = .tup (.str x :: r) ∧ v = .ref ar ∧ (ar, tupOf (.str x tx :: vs) n) ∈ T ∧ DAll T vs r := by
  cases d with
  | tup ds =>
    cases ds with
    | nil => cases hr
    | cons a r =>
      cases a with
      | str x =>
        obtain ⟨ar, vs, n, rfl, hm, hd⟩ := tup_ref h
        cases hd with
        | cons h1 h2 =>
          cases h1
          exact ⟨ar, x, _, _, n, r, rfl, rfl, hm, h2⟩
      | _ => cases hr
  | _ => cases hr
section
variable {prog : Program} {w : World} {A : Around} {E : Value → Shared → Prop} {s : Shared} {h₀ : Heap} {L : Addr} {led : Led}
theorem tupNil {a b : Addr} {vs : List Value} {n k : Nat} {Q : Value → Shared → Prop} (hu : A.units < cLine) (N : News h₀ L s.heap led) (hm : (a, tupOf vs n) ∈ led) (hb : (b, tupOf [] k) ∈ led) (q : Q (.bool vs.isEmpty) s) :
    wpAny (model prog w) A (compareOp .Eq (.ref a) (.ref b)) Q E s := by
  refine RcAt.tuples (e := fun _ => true) (DIn.isTup N hm) (DIn.isTup N hb) hu (fun j _ h2 => absurd h2 (Nat.not_lt_zero _)) prog w E Q ?_
  cases vs with
  | nil => simpa using q
  | cons v vs => simpa using q
end
end
section
open PySem PySem.W PyProof.Rows PySem.Calls
theorem bindL_1 {k : Str → Option NameKind} {x : Str} {v : Value} (h1 : k x = some .local) : bindL k [(x, v)] (fun _ => none) = fun z => [(x, v)].lookup z := by
  rw [bindL, if_pos h1, bindL]
  exact look_cons (l := [])
theorem V.enter {w : World} {mean : ExcName → Option Value} {mg mb : Str → Option Value} {dp un : Nat} {cn : Str} {cs : Scope} {L a : Addr} {ccd : Value} {cl : List (Str × Addr)} {A₀ : Around} {h₀ : Heap} {m : Str → Option Value} {body : List Stmt} {env : Env} {Q : Flow → Shared → Prop} {E : Value → Shared → Prop} {s : Shared} {led : Led} (l : Loc) (dk uk : Nat)
    (B : Below A₀ h₀ [] h₀) (X : (hd.heap_1 w.params).In h₀) (T : Top hd.view_39 LW mean mg mb h₀) (F : Fr h₀ L s.heap m) (N : News h₀ L s.heap led) (hm : m = fun y => l.lookup y) (he : env = envX cn cs L a ccd cl) (hk : cs.kind = .function) (hdb : noDbg cs.names = true) (hd : dp + dk < recursionLimit) (hu : un + uk < cLine)
    (h : ∀ QQ : Flow → Loc → Led → Prop, (∀ fl l' led', (∀ h' tk', Fr h₀ L h' (fun y => l'.lookup y) → News h₀ L h' led' → Q fl { s with heap := h', toks := tk' }) → QQ fl l' led') → V w { cs := cs, dk := dk, uk := uk, cl := cl, top := true } l led (PySem.execs body) QQ) :
    wpAny (model PySem.Challenge.rw_nt0496_01.row.prog w) (ktrTop dp un (some []) cn cs L a ccd cl []) (PySem.execs body env) Q E s := by
  subst he hm
  exact (h _ fun fl l' led' q => q).go ⟨mean, mg, mb, dp, un, cn, cs, a, ccd, cl, [], A₀, h₀, h₀, L, s.gens, s.drawn, s.os, E, envX cn cs L a ccd cl⟩ _ _ _ ⟨B, X, T, hd, hu, hk, hk, rfl, rfl, rfl, rfl, hdb, fun _ => rfl, (fun h => nomatch h), (fun _ => ⟨rfl, rfl⟩), trivial⟩ F N fun fl h' tk' l' led' F' N' q => q h' tk' F' N'
inductive NoneT (l : Loc) (nx : Led) (b : Bool) (l' : Loc) (led' : Led) : Prop
  | mk (e : b = false) (el : l' = l) (hs : ∀ p ∈ nx, p ∈ led') : NoneT l nx b l' led'
inductive NoneK (w : World) (σ : Sta) (l : Loc) (ct : Expr) (x : Str) (scope : Scope) (cl' : List (Str × Addr)) (Q : Value → Loc → Led → Prop) (xv : Value) (l₁ : Loc) (led₁ : Led) : Prop
  | mk (e : l₁ = l) (a : Addr) (vs : List Value) (n : Nat) (ex : xv = .ref a) (hm : (a, tupOf vs n) ∈ led₁) (hz : vs.length ≤ 100000)
      (turn : ∀ (i : Nat) (v : Value) (nx : Led) oC C m₂, vs[i]? = some v → (∀ p ∈ led₁, p ∈ nx) → LCg.NsObj oC m₂ → (C, oC) ∈ nx → m₂ x = some v →
        V w { cs := csOf scope σ, dk := σ.dk, uk := σ.uk, fn := false, cl := cl', C := C } l nx (fun env => isTrue ct env (PySem.eval ct env)) (NoneT l nx))
      (fin : ∀ D : Addr, (∀ p ∈ led₁, p.1 ≠ D) → Q (.ref D) l ((D, lst [] 0) :: led₁)) : NoneK w σ l ct x scope cl' Q xv l₁ led₁
section
variable {w : World} {σ : Sta} {l : Loc} {led : Led}
theorem DynOk.unitsN {δ : Dyn} {n : Nat} (D : DynOk w σ δ) (h : Nat.ble n σ.uk = true) : δ.A.units + n < cLine := Nat.lt_of_le_of_lt (Nat.add_le_add_left (Nat.le_of_ble_eq_true h) δ.un) D.hu
theorem V.lInt {value slice : Expr} {a : Addr} {vs : List Value} {ns : List Int} {n : Nat} {k : Int} {u : Tok} {Q : Value → Loc → Led → Prop} (hm : (a, lst vs n) ∈ led) (hi : IntsAre vs ns) (h0 : 0 ≤ k) (h1 : k.toNat < ns.length) (hf : k < 2 ^ 63) (h : ∀ t, Q (.int (ns.getD k.toNat 0) t) l led)
    (hs : subscripted slice false (.ref a) (.int k u) = operate [.ref a, .int k u] (getItem (.ref a) (.int k u)) := by with_unfolding_all rfl) : V w σ l led (fun _ => subscriptTail value slice (.ref a) (.int k u)) Q := by
  obtain ⟨t, ht⟩ := IntsAre.pick hi h1
  exact V.lItem hm h0 hf ht (h t) hs
theorem V.tItem {value slice : Expr} {a : Addr} {vs : List Value} {n : Nat} {k : Int} {u : Tok} {v : Value} {Q : Value → Loc → Led → Prop} (hm : (a, tupOf vs n) ∈ led) (h0 : 0 ≤ k) (hf : k < 2 ^ 63) (hx : vs[k.toNat]? = some v) (h : Q v l led)
    (hs : subscripted slice false (.ref a) (.int k u) = operate [.ref a, .int k u] (getItem (.ref a) (.int k u)) := by with_unfolding_all rfl) : V w σ l led (fun _ => subscriptTail value slice (.ref a) (.int k u)) Q :=
  .mk fun _ _ _ _ _ F N kR => Mine.itemT N hm h0 hf hx (kR _ _ _ _ _ F N h) hs
theorem V.someItem {value slice : Expr} {a : Addr} {x y z : Array UInt8} {ta tb tc : Tok} {n : Nat} {k : Int} {u : Tok} {Q : Value → Loc → Led → Prop} (zz : Nat) (hm : (a, lst [.bytes x ta, .bytes y tb, .bytes z tc] n) ∈ led) (h0 : 0 ≤ k) (h1 : k < 3) (hs : x.size ≤ zz ∧ y.size ≤ zz ∧ z.size ≤ zz) (h : ∀ d t, d.size ≤ zz → Q (.bytes d t) l led)
    (hsub : subscripted slice false (.ref a) (.int k u) = operate [.ref a, .int k u] (getItem (.ref a) (.int k u)) := by with_unfolding_all rfl) : V w σ l led (fun _ => subscriptTail value slice (.ref a) (.int k u)) Q :=
  .mk fun _ _ _ _ _ F N kR => Mine.someItem N hm h0 h1 hs (fun d t hd => kR _ _ _ _ _ F N (h d t hd)) hsub
theorem V.reprL {a : Addr} {vs : List Value} {ds : List D} {n : Nat} {Q : Value → Loc → Led → Prop} (hm : (a, lst vs n) ∈ led) (hd : DAll led vs ds) (hg : D.goods ds = true) (hz : D.wts ds ≤ 100000) (hdep : D.deps ds ≤ 10) (h : ∀ t, Q (.str (listText (D.showns ds)) t) l led) (hu : Nat.ble 20 σ.uk = true := by rfl) :
    V w σ l led (fun _ => PySem.call (.builtin "repr") [.ref a]) Q :=
  .mk fun _ _ _ _ Dk F N kR => repr_lst F N hm hd hg hz hdep rfl (Dk.unitsN hu) fun _ t _ F' N' => kR _ _ _ _ _ F' N' (h t)
theorem V.reprT {a : Addr} {vs : List Value} {ds : List D} {n : Nat} {Q : Value → Loc → Led → Prop} (hm : (a, tupOf vs n) ∈ led) (hd : DAll led vs ds) (hg : D.goods ds = true) (hz : D.wts ds ≤ 100000) (hdep : D.deps ds ≤ 10) (h : ∀ t, Q (.str (D.tup ds).shown t) l led) (hu : Nat.ble 20 σ.uk = true := by rfl) :
    V w σ l led (fun _ => PySem.call (.builtin "repr") [.ref a]) Q :=
  .mk fun _ _ _ _ Dk F N kR => repr_tup F N hm hd hg hz hdep rfl (Dk.unitsN hu) fun _ t _ F' N' => kR _ _ _ _ _ F' N' (h t)
theorem V.listOfT {b : Addr} {vs : List Value} {n : Nat} {Q : Value → Loc → Led → Prop} (hm : (b, tupOf vs n) ∈ led) (hz : vs.length ≤ 100000) (h : ∀ (D : Addr) c, (∀ p ∈ led, p.1 < D) → Q (.ref D) l ((D, lst vs c) :: led)) : V w σ l led (fun _ => PySem.call (.type "list") [.ref b]) Q :=
  .mk fun _ _ _ _ _ F N kR => kup_listOfT F N hm rfl (fun D c _ F' N' hl => kR _ _ _ _ _ F' N' (h D c hl)) (by rw [List.toList_toArray, sizeLine_eq]; omega)
theorem V.tupSame {b : Addr} {vs : List Value} {n : Nat} {Q : Value → Loc → Led → Prop} (hm : (b, tupOf vs n) ∈ led) (h : Q (.ref b) l led) : V w σ l led (fun _ => PySem.call (.type "tuple") [.ref b]) Q :=
  .mk fun _ _ _ _ _ F N kR => call_tuple_tup (DIn.isTup N hm) (kR _ _ _ _ _ F N h)
theorem V.bytesSelf {b : Array UInt8} {t : Tok} {Q : Value → Loc → Led → Prop} (h : Q (.bytes b t) l led) : V w σ l led (fun _ => PySem.call (.type "bytes") [.bytes b t]) Q :=
  .mk fun _ _ _ _ _ F N kR => bytes_self (kR _ _ _ _ _ F N h)
theorem V.neStr {x y : Str} {t u : Tok} {Q : Value → Loc → Led → Prop} (h : Q (.bool (x != y)) l led) : V w σ l led (fun _ => compareOp .NotEq (.str x t) (.str y u)) Q :=
  .mk fun _ _ _ _ _ F N kR => PyProof.Rows.ne_str (kR _ _ _ _ _ F N h)
theorem V.neInts {a b : Addr} {vs us : List Value} {n k : Nat} {ns : List Int} {Q : Value → Loc → Led → Prop} (ha : (a, lst vs n) ∈ led) (hb : (b, lst us k) ∈ led) (hi : IntsAre vs ns) (hj : IntsAre us ns) (h : Q (.bool false) l led) (hu : Nat.ble 64 σ.uk = true := by rfl) : V w σ l led (fun _ => compareOp .NotEq (.ref a) (.ref b)) Q :=
  .mk fun _ _ _ _ Dk F N kR => ne_same N ha hb hi hj (Dk.unitsN hu) (kR _ _ _ _ _ F N h)
theorem V.tupNil {a b : Addr} {vs : List Value} {n k : Nat} {Q : Value → Loc → Led → Prop} (hm : (a, tupOf vs n) ∈ led) (hb : (b, tupOf [] k) ∈ led) (h : Q (.bool vs.isEmpty) l led) : V w σ l led (fun _ => compareOp .Eq (.ref a) (.ref b)) Q :=
  .mk fun _ _ _ _ Dk F N kR => Mine.tupNil Dk.units N hm hb (kR _ _ _ _ _ F N h)
theorem V.callX {f : Addr} {vs : List Value} {dk uk : Nat} {Out : Led → Value → Prop} {OutX : Int → Prop} {Q : Value → Loc → Led → Prop} (C : ConX w f vs led dk uk Out OutX) (hx : ∀ n, ¬ OutX n) (hd : Nat.ble dk σ.dk = true) (hu : Nat.ble uk σ.uk = true) (h : ∀ r led', Out led' r → Q r l led') : V w σ l led (fun _ => PySem.call (.ref f) vs) Q :=
  .mk fun _ _ _ _ Dk F N kR => ConX.useN F N C Dk.X Dk.B Dk.T Dk.hk (Nat.lt_of_le_of_lt (Nat.add_le_add_left (Nat.le_of_ble_eq_true hd) _) Dk.hd) (Dk.unitsN hu) (fun _ _ _ _ F' N' o => kR _ _ _ _ _ F' N' (h _ _ o)) fun _ _ _ _ _ _ n _ _ _ _ _ _ hn => absurd hn (hx n)
theorem V.callS {f : Addr} {vs : List Value} {dk uk : Nat} {Out : Value → Prop} {Q : Value → Loc → Led → Prop} (C : ConS w f vs led dk uk Out) (hd : Nat.ble dk σ.dk = true) (hu : Nat.ble uk σ.uk = true) (h : ∀ r, Out r → Q r l led) (ht : σ.top = true := by rfl) : V w σ l led (fun _ => PySem.call (.ref f) vs) Q := by
  refine .mk fun δ _ _ _ Dk F N kR => ?_
  obtain ⟨mean, mg, mb, dp, un, cn, cs, a, ccd, cl, outer, A₀, base, h₀, L, g, d, o, E, env⟩ := δ
  obtain ⟨e1, e2⟩ := Dk.top ht
  dsimp only at e1 e2
  subst e1 e2
  exact ConS.useN F N C Dk.X Dk.B Dk.T Dk.hk (Nat.lt_of_le_of_lt (Nat.add_le_add_left (Nat.le_of_ble_eq_true hd) _) Dk.hd) (Dk.unitsN hu) fun _ _ _ F' N' o => kR _ _ _ _ _ F' N' (h _ o)
theorem V.noneOf {ct elt iter : Expr} {x : Str} {px : Pos} {scope : Scope} {cl' : List (Str × Addr)} {pos : Pos} {Q : Value → Loc → Led → Prop}
    (hclos : ∀ cn L a ccd, closureFor scope (envX cn σ.cs L a ccd σ.cl) = Pure.pure cl') (hcell : ∀ y ∈ scope.names, y.2 ≠ .cell) (hkind : scope.kind = .function)
    (hk' : (csOf scope σ).kind = .function) (hdb : noDbg (csOf scope σ).names = true) (hnames : ∀ y ∈ scope.names, y.2 = .local → scope.names.lookup y.1 = some .local) (hx : scope.names.lookup x = some .local) (hf : σ.fn = true) (hfs : ∀ env xv, foldedSetIterable iter env xv = Pure.pure xv)
    (h : V w σ l led (PySem.eval iter) (NoneK w σ l ct x scope cl' Q)) :
    V w σ l led (PySem.eval (.ListComp elt [⟨.Name x px, iter, [ct], 0⟩] scope pos)) Q := by
  refine .mk fun δ hp tk R D F N kR => ?_
  have e := D.fn hf
  have ec := D.ec
  rw [e] at ec
  have ec' : δ.cl = σ.cl := ec
  have eE : δ.env = envX δ.cn σ.cs δ.L δ.a δ.ccd σ.cl := by rw [e, ec']
  refine comp_T (env := δ.env) F (eE ▸ hclos _ _ _ _) hcell hkind hnames hx ?_ (hfs _)
  refine h.go δ hp tk _ D F N fun xv h₁ t₁ l₁ led₁ F₁ N₁ q => ?_
  obtain ⟨rfl, a, vs, n, rfl, hm, hz, turn, fin⟩ := q
  refine goT_tuple (s := ⟨h₁, _, _, t₁, _⟩) rfl F₁ N₁ hm (by rw [sizeLine_eq]; omega) fun g => restT_none ?_ ?_
  · intro i v I oI C oC D' m₂ h tk' E' hv hC hxx F₂ N₂ off
    have D2 : DynOk w { cs := csOf scope σ, dk := σ.dk, uk := σ.uk, fn := false, cl := cl', C := C } { δ with E := E', env := compEnvC scope cl' C δ.env } :=
      ⟨D.B, D.X, D.T, D.hd, D.hu, D.hk, hk', by show relabel scope δ.env = _; rw [eE]; rfl, D.eg, D.eb, rfl, hdb, (fun h => nomatch h), (fun _ => rfl), (fun h => nomatch h), trivial⟩
    refine (turn i v _ oC C m₂ hv (fun p hp => .tail _ (.tail _ (.tail _ hp))) hC (.tail _ (.head _)) hxx).go _ h tk' _ D2 F₂ N₂ fun b h₃ t₃ l₃ led₃ F₃ N₃ q₃ => ?_
    obtain ⟨rfl, rfl, hs⟩ := q₃
    rw [if_neg (by decide)]
    exact LCg.CompEnd.intro F₃ (cb_drop N₃ hs) _ (fun _ h => h) off hm rfl
  · intro D' h tk' F₂ N₂ off
    exact kR _ _ _ _ _ F₂ N₂ (fin D' fun p hp => off1_mem off p hp)
end
end
section
open PySem PySem.W PyProof.Rows PySem.Calls
noncomputable def LitD (e : Expr) (d : D) : Prop := (∀ (r : List Expr) (env : Env), starEach (e :: r) env = (false, eval e env) :: starEach r env) ∧
  ∀ (w : World) (σ : Sta) (l : Loc) (led : Led) (Q : Value → Loc → Led → Prop), (∀ v new, DIn new v d → Q v l (new ++ led)) → V w σ l led (eval e) Q
noncomputable def LitDs (es : List Expr) (ds : List D) : Prop := ds.length = es.length ∧
  ∀ (w : World) (σ : Sta) (l : Loc) (led : Led) (pos : Pos) (Q : List Value → Loc → Led → Prop), (∀ vs new, DAll new vs ds → Q vs l (new ++ led)) → V w σ l led (fun env => spliced (backTo pos (starEach es env))) Q
theorem LitD.none {k : Nat} {p : Pos} : LitD (.Constant .none k p) .none := ⟨fun _ _ => rfl, fun _ _ _ _ _ q => .mk fun _ _ _ _ _ F N kR => wpAny_Constant_none (kR _ _ _ _ _ F N (q _ [] .none))⟩
theorem LitD.bool {b : Bool} {k : Nat} {p : Pos} : LitD (.Constant (.bool b) k p) (.bool b) := ⟨fun _ _ => rfl, fun _ _ _ _ _ q => .mk fun _ _ _ _ _ F N kR => wpAny_Constant_bool (kR _ _ _ _ _ F N (q _ [] (.bool b)))⟩
theorem LitD.int {i : Int} {k : Nat} {p : Pos} : LitD (.Constant (.int i) k p) (.int i) := ⟨fun _ _ => rfl, fun _ _ _ _ _ q => .mk fun _ _ _ _ _ F N kR => wpAny_Constant_int (kR _ _ _ _ _ F N (q _ [] (.int i _)))⟩
theorem LitD.str {x : Str} {k : Nat} {p : Pos} : LitD (.Constant (.str x) k p) (.str x) := ⟨fun _ _ => rfl, fun _ _ _ _ _ q => .mk fun _ _ _ _ _ F N kR => wpAny_Constant_str (kR _ _ _ _ _ F N (q _ [] (.str x _)))⟩
theorem LitD.bytes {l : List UInt8} {k : Nat} {p : Pos} : LitD (.Constant (.bytes l) k p) (.bytes l.toArray) := ⟨fun _ _ => rfl, fun _ _ _ _ _ q => .mk fun _ _ _ _ _ F N kR => Constant_bytes (kR _ _ _ _ _ F N (q _ [] (.bytes _ _)))⟩
theorem LitD.neg {i : Int} {k : Nat} {p p' : Pos} : LitD (.UnaryOp .USub (.Constant (.int i) k p) p') (.int (-i)) :=
  ⟨fun _ _ => rfl, fun _ _ _ _ _ q => .mk fun _ _ _ _ _ F N kR => wpAny_UnaryOp (wpAny_Constant_int (PySem.P.neg_int (kR _ _ _ _ _ F N (q _ [] (.int (-i) _)))))⟩
theorem LitD.tup {es : List Expr} {ds : List D} {k : Nat} {p : Pos} (H : LitDs es ds) (hlen : Nat.ble es.length 1000 = true) : LitD (.Tuple es k p) (.tup ds) := ⟨fun _ _ => rfl, fun w σ l led Q q =>
  .mk fun δ h tk R D F N kR => Tuple_ ((H.2 w σ l led p (kTup w σ Q) fun vs new hD => V.tuple (fun a _ => q (.ref a) ((a, tupOf vs 0) :: new) (.tup (.head _) (hD.mono fun _ h => .tail _ h))) (by rw [hD.length, H.1]; exact hlen)).go δ h tk _ D F N fun _ h₁ t₁ _ _ F₁ N₁ q₁ => q₁.go δ h₁ t₁ R D F₁ N₁ kR)⟩
theorem LitDs.nil : LitDs [] [] := ⟨rfl, fun _ _ _ _ _ _ q => .mk fun _ _ _ _ _ F N kR => args_nil (kR _ _ _ _ _ F N (q [] [] .nil))⟩
theorem LitDs.cons {e : Expr} {d : D} {r : List Expr} {ds : List D} (H1 : LitD e d) (H2 : LitDs r ds) : LitDs (e :: r) (d :: ds) := ⟨congrArg (· + 1) H2.1, fun w σ l led pos Q q =>
  .mk fun δ h tk R D F N kR => args_cons ((H1.2 w σ l led (kArgs w σ pos r Q) fun v new hD => H2.2 w σ l (new ++ led) pos (kCons v Q) fun vs new2 hD2 => by
    show Q (v :: vs) l (new2 ++ (new ++ led))
    rw [← List.append_assoc]
    exact q (v :: vs) (new2 ++ new) (.cons (hD.mono fun _ h => List.mem_append_right _ h) (hD2.mono fun _ h => List.mem_append_left _ h))).go δ h tk _ D F N fun _ h₁ t₁ _ _ F₁ N₁ q₁ => q₁.go δ h₁ t₁ _ D F₁ N₁ fun _ _ _ _ _ F₂ N₂ q₂ => kR _ _ _ _ _ F₂ N₂ q₂) (H1.1 _ _)⟩
section
variable {w : World} {σ : Sta} {l : Loc} {led : Led}
theorem V.litL {es : List Expr} {ds : List D} {pos : Pos} {Q : Value → Loc → Led → Prop} (h : LitDs es ds) (hz : Nat.ble es.length 1000 = true) (q : ∀ D vs new, DAll new vs ds → Q (.ref D) l ((D, lst vs 0) :: (new ++ led))) : V w σ l led (PySem.eval (.List es pos)) Q :=
  .mk fun δ h' tk R D F N kR => List_ ((h.2 w σ l led pos (kLst w σ Q) fun vs new hD => V.list (fun a _ => q a vs new hD) (by rw [hD.length, h.1]; exact hz)).go δ h' tk _ D F N fun _ h₁ t₁ _ _ F₁ N₁ q₁ => q₁.go δ h₁ t₁ R D F₁ N₁ kR)
theorem V.lstAdd {a b : Addr} {vs ws : List Value} {n k : Nat} {Q : Value → Loc → Led → Prop} (ha : (a, lst vs n) ∈ led) (hb : (b, lst ws k) ∈ led) (hz : vs.length + ws.length ≤ 2000) (q : ∀ D, Q (.ref D) l ((D, lst (vs ++ ws) 0) :: led)) : V w σ l led (fun _ => binaryOp .Add (.ref a) (.ref b)) Q :=
  .mk fun _ _ _ _ _ F N kR => kmk_add_lit (its := vs.toArray) (its2 := ws.toArray) (zs := vs ++ ws) F N (isLst N ha) (isLst N hb) rfl (fun D h' F' N' _ => kR _ _ _ _ _ F' N' (q D)) (by rw [sizeLine_eq]; show vs.length + ws.length ≤ _; omega)
theorem V.tupAdd {a b : Addr} {vs ws : List Value} {n k : Nat} {Q : Value → Loc → Led → Prop} (ha : (a, tupOf vs n) ∈ led) (hb : (b, tupOf ws k) ∈ led) (hv : vs ≠ []) (hw : ws ≠ []) (hz : vs.length + ws.length ≤ 2000) (q : ∀ D, Q (.ref D) l ((D, tupOf (vs ++ ws) 0) :: led)) : V w σ l led (fun _ => binaryOp .Add (.ref a) (.ref b)) Q :=
  .mk fun _ _ _ _ _ F N kR => kde_addT (zs := vs ++ ws) F N (News.isTup N ha) (News.isTup N hb) hv hw (Nat.le_trans hz (by decide)) rfl fun D _ F' N' _ => kR _ _ _ _ _ F' N' (q D)
theorem V.binE {a b : Expr} {op : Operator} {pos : Pos} {Q : Value → Loc → Led → Prop} (h : V w σ l led (PySem.eval a) (kBin1 w σ op b Q)) : V w σ l led (PySem.eval (.BinOp a op b pos)) Q :=
  .mk fun δ h' tk R D F N kR => wpAny_BinOp (h.go δ h' tk _ D F N fun _ h₁ t₁ _ _ F₁ N₁ q₁ => q₁.go δ h₁ t₁ _ D F₁ N₁ fun _ h₂ t₂ _ _ F₂ N₂ q₂ => q₂.go δ h₂ t₂ R D F₂ N₂ kR)
theorem V.subE {v sl : Expr} {pos : Pos} {Q : Value → Loc → Led → Prop} (h : V w σ l led (PySem.eval v) (kSub1 w σ v sl Q)) : V w σ l led (PySem.eval (.Subscript v sl pos)) Q :=
  .mk fun δ h' tk R D F N kR => Subscript_ (h.go δ h' tk _ D F N fun _ h₁ t₁ _ _ F₁ N₁ q₁ => q₁.go δ h₁ t₁ _ D F₁ N₁ fun _ h₂ t₂ _ _ F₂ N₂ q₂ => q₂.go δ h₂ t₂ R D F₂ N₂ kR)
theorem V.ret {e : Expr} {p : Pos} {Q : Flow → Loc → Led → Prop} (h : V w σ l led (PySem.eval e) (kRet Q)) : V w σ l led (exec (.Return (some e) p)) Q :=
  .mk fun δ h' tk R D F N kR => wpAny_Return_some (h.go δ h' tk _ D F N fun _ _ _ _ _ F₁ N₁ q₁ => kR _ _ _ _ _ F₁ N₁ q₁)
theorem V.litAdd {D1 : Addr} {vs1 : List Value} {n1 base : Led} {es : List Expr} {ds1 ds : List D} {pos : Pos} {Q : Value → Loc → Led → Prop} (h1 : DAll n1 vs1 ds1) (h : LitDs es ds) (hz : Nat.ble es.length 1000 = true) (hz1 : Nat.ble ds1.length 1000 = true)
    (q : ∀ D vs new, DAll new vs (ds1 ++ ds) → Q (.ref D) l ((D, lst vs 0) :: (new ++ base))) : V w σ l ((D1, lst vs1 0) :: (n1 ++ base)) (PySem.eval (.List es pos)) (kBin2 w σ .Add (.ref D1) Q) :=
  V.litL h hz fun D2 vs2 n2 h2 => by
    refine V.lstAdd (.tail _ (List.mem_append_right _ (.head _))) (.head _) (by rw [h1.length, h2.length, h.1]; exact Nat.add_le_add (Nat.le_of_ble_eq_true hz1) (Nat.le_of_ble_eq_true hz)) fun D => ?_
    have e : (D2, lst vs2 0) :: (n2 ++ (D1, lst vs1 0) :: (n1 ++ base)) = ((D2, lst vs2 0) :: (n2 ++ (D1, lst vs1 0) :: n1)) ++ base := by rw [List.cons_append, List.append_assoc, List.cons_append]
    rw [e]
    exact q D (vs1 ++ vs2) _ ((h1.mono fun _ h => .tail _ (List.mem_append_right _ (.tail _ h))).append (h2.mono fun _ h => .tail _ (List.mem_append_left _ h)))
end
end
section
open PySem PySem.W PyProof.Rows
noncomputable abbrev bent1 : List D := [.tup [.str (S "drop"), .int (-1)], .tup [.str (S "drop"), .bool true], .tup [.str (S "call"), .str (S "add"), .tup []], .tup [.str (S "vm"), .int 1], .tup [.str (S "text"), .int 1, .bytes [120].toArray, .int 0],
  .tup [.str (S "call"), .bytes [120].toArray, .tup [.tup [.int 1]]]]
noncomputable abbrev bent2 : List D := [.tup [.str (S "call"), .bytes [120].toArray, .tup [.tup [.int 1, .int (-1)]]], .tup [.str (S "push"), .tup [.str (S "plain"), .str (S "integer"), .bytes [120].toArray, .bool true, .int 0]],
  .tup [.str (S "push"), .tup [.str (S "plain"), .str (S "boolean"), .int 1, .bool true, .int 0]]]
noncomputable abbrev bent3 : List D := [.tup [.str (S "push"), .tup [.str (S "plain"), .str (S "null"), .int 0, .bool true, .int 0]], .tup [.str (S "push"), .tup [.str (S "body"), .int 1, .str (S "what"), .int 0, .int 0, .bool true, .int 0]]]
noncomputable abbrev bent4 : List D := [.tup [.str (S "row"), .int 1, .tup [.tup [.str (S "plain"), .str (S "mark"), .none, .bool true]], .bool true]]
theorem row_bent {x : Str} {r : List D} (h : isRow (.tup (.str x :: r)) = true) : r ≠ [] ∧ r.length ≤ 3 ∧ isRow (.tup (.str (S "what") :: r)) = false ∧ isRow (.tup (.str x :: (r ++ [.int 0]))) = false := by
  cases hl : shapesL.lookup x with
  | none => simp only [isRow, hl] at h; cases h
  | some ks =>
    simp only [isRow, hl, Bool.and_eq_true, decide_eq_true_eq] at h
    have key : ∀ l : List (Str × List Str), (∀ p ∈ l, 1 ≤ p.2.length ∧ p.2.length ≤ 3) → l.lookup x = some ks → 1 ≤ ks.length ∧ ks.length ≤ 3 := by
      intro l
      induction l with
      | nil => intro _ h; cases h
      | cons p r ih =>
        intro hp h
        rw [List.lookup_cons] at h
        cases e : x == p.1 with
        | true => rw [e] at h; exact Option.some.inj h ▸ hp p (.head _)
        | false => rw [e] at h; exact ih (fun q hq => hp q (.tail _ hq)) h
    have hk := key _ (by decide +kernel) hl
    refine ⟨?_, by omega, ?_, ?_⟩
    · rintro rfl
      have := h.1
      rw [List.length_nil] at this
      omega
    · have e : shapesL.lookup (S "what") = none := by decide +kernel
      simp only [isRow, e]
    · simp only [isRow, hl]
      show (decide ((r ++ [D.int 0]).length = ks.length) && _) = false
      rw [decide_eq_false (by rw [List.length_append, List.length_cons, List.length_nil]; omega), Bool.false_and]
noncomputable abbrev bents : List D := bent1 ++ bent2 ++ bent3 ++ bent4
theorem bent_all : ∀ d ∈ bents, isRow d = false ∧ d.wt ≤ 1000 := by
  have h1 : bents.all (fun d => !isRow d && decide (d.wt ≤ 1000)) = true := by decide +kernel
  intro d hd
  have := List.all_eq_true.mp h1 d hd
  simpa using this
inductive BentOut (w : World) (dk C : Addr) (T : Led) (i : Int) (led' : Led) (v : Value) : Prop
  | mk (o' : Obj) (new : Led) (j : Int) (d' : D) (h : led' = (dk, o') :: (new ++ T)) (hd : DkIs w o' C j) (h1 : i ≤ j) (h2 : j ≤ i + 1) (hv : DIn (new ++ T) v d') (hr : isRow d' = false) (hw : d'.wt ≤ 1000) : BentOut w dk C T i led' v
theorem bent_row {T n : Led} {vs : List Value} (hD : DAll n vs bents) {i : Int} (_ : i ≠ 0) (_ : i ≠ 1) (_ : 0 ≤ i) (h3 : i < 14) : ∃ v d, vs[(i - 2).toNat]? = some v ∧ DIn (n ++ T) v d ∧ isRow d = false ∧ d.wt ≤ 1000 := by
  obtain ⟨v, e, hv⟩ := hD.get (k := (i - 2).toNat) (by show _ < 12; omega)
  have hm := bent_all _ (List.getElem_mem (n := (i - 2).toNat) (by show _ < 12; omega))
  exact ⟨v, _, e, hv.mono fun p hp => List.mem_append.mpr (.inl hp), hm.1, hm.2⟩
theorem bent_fin {w : World} {l' : Loc} {dk C : Addr} {ns : List Int} {o : Obj} {i : Int} {d : D} {T led new : Led} {v : Value} (S : DkR w dk C ns i T o (0 + 1)) (hs : ∀ p ∈ (dk, o) :: (new ++ T), p ∈ led) (hv : DIn (new ++ T) v d)
    (hr : isRow d = false) (hw : d.wt ≤ 1000) : finQ (BentOut w dk C T i) (.ret v) l' led :=
  let ⟨j, hj, h0, h1⟩ := S.dk
  ⟨_, hs, o, new, j, d, rfl, hj, h0, h1, hv, hr, hw⟩
theorem bent_w1 {x : Str} {r : List D} (h : (D.tup (.str x :: r)).wt ≤ 400) : (D.tup (.str (S "what") :: r)).wt ≤ 1000 := by
  have : (S "what").cps.size = 4 := by decide +kernel
  simp only [D.wt, D.wts] at h ⊢
  omega
theorem bent_w2 {x : Str} {r : List D} (h : (D.tup (.str x :: r)).wt ≤ 400) : (D.tup (.str x :: (r ++ [.int 0]))).wt ≤ 1000 := by
  have : (decInts 0).length = 1 := by decide +kernel
  simp only [D.wt, D.wts, D.wts_app] at h ⊢
  omega
theorem bent_mem {q : Addr × Obj} {n T : Led} : ∀ p ∈ q :: (n ++ T), p ∈ n ++ q :: T := fun p hp => (List.mem_cons.mp hp).elim (fun e => List.mem_append_right _ (e ▸ .head _)) fun hp => (List.mem_append.mp hp).elim (List.mem_append_left _) fun hp => List.mem_append_right _ (.tail _ hp)
set_option maxRecDepth 100000 in
theorem c_lbent (w : World) (dk C : Addr) (o : Obj) (i : Int) (ns : List Int) (T : Led) (hT : ∀ p ∈ T, p.1 ≠ dk) (hdk : DkIs w o C i) (hC : Cells T C ns) (hi : 0 ≤ i) (hi2 : i ≤ 60000) (ar : Addr) (x : Str) (tx : Tok) (rvs : List Value) (nr : Nat) (r : List D)
    (hm : (ar, tupOf (.str x tx :: rvs) nr) ∈ T) (hD : DAll T rvs r) (hrow : RowOk (.tup (.str x :: r))) :
    Con w 329 [.ref dk, .ref ar] ((dk, o) :: T) 6 80 (BentOut w dk C T i) := by
  k_with "lit" => (repeat (first | exact LitDs.nil | exact LitD.int | exact LitD.bool | exact LitD.none | exact LitD.str | exact LitD.bytes | exact LitD.neg | refine LitDs.cons ?_ ?_ | refine LitD.tup ?_ rfl))
  obtain ⟨hrn, hrl, hw1, hw2⟩ := row_bent hrow.isr
  have hlen := hD.length
  have hrv : rvs ≠ [] := fun e => hrn (List.length_eq_zero_iff.mp (by rw [← hlen, e]; rfl))
  have hwt := hrow.wt
  k_dflt (refine' Con.of_V [(S1 "row", .ref ar), (S1 "deck", .ref dk)] ?a ?b ?c ?d ?e ?f ?g ?h ?i ?j ?_; ((case a => k_is); (case b => k_is); (case c => rfl); (case d => rfl); (case e => rfl); (case f => rfl); (case g => rfl); (case h => rfl); (case i => decide); (case j => rfl)))
  have S := DkR.of hT hdk hC hi (by omega)
  k_extra "vst"
  refine V.draw S fun o1 n t S1 a1 b1 => ?_
  k_extra "vst"
  refine ite_e (fun c0 => ?_) (fun c0 => ?_)
  · k_extra "vst"
    refine V.tupFrom1 ?_
    k_extra "vst"
    refine ⟨ar, _, rvs, _, _, rfl, rfl, .tail _ (.tail _ hm), by omega, fun b hb => ?_⟩
    k_extra "vst"
    refine V.tupAdd (.tail _ (.head _)) (.head _) (List.cons_ne_nil _ _) hrv (by show 1 + _ ≤ _; omega) fun D9 => ?_
    exact bent_fin (new := [(D9, _)]) S1 (fun p hp => (List.mem_cons.mp hp).elim (fun e => e ▸ .tail _ (.tail _ (.tail _ (.head _)))) fun hp => (List.mem_cons.mp hp).elim (fun e => e ▸ .head _) fun hp => .tail _ (.tail _ (.tail _ (.tail _ hp))))
      (.tup (.head _) (.cons (.str _ _) (hD.mono fun _ h => .tail _ h))) hw1 (bent_w1 hwt)
  k_extra "vst"
  refine ite_e (fun c1 => ?_) (fun c1 => ?_)
  · k_extra "vst"
    refine V.tupAdd (.tail _ (.tail _ hm)) (.head _) (List.cons_ne_nil _ _) (List.cons_ne_nil _ _) (by show _ + 1 + 1 ≤ _; omega) fun D9 => ?_
    exact bent_fin (new := [(D9, _)]) S1 (fun p hp => (List.mem_cons.mp hp).elim (fun e => e ▸ .tail _ (.tail _ (.head _))) fun hp => (List.mem_cons.mp hp).elim (fun e => e ▸ .head _) fun hp => .tail _ (.tail _ (.tail _ hp)))
      (.tup (.head _) (.cons (.str _ _) ((hD.mono fun _ h => .tail _ h).append (.one (.int _ _))))) hw2 (bent_w2 hwt)
  refine V.execs ?_
  refine V.seq (V.assignX rfl ?_)
  refine' V.litL (ds := bent1) ?l1 rfl fun D1 vs1 n1 h1 => ?_
  case l1 => k_extra "lit"
  refine V.store rfl ?_
  refine V.seq (V.assignX rfl (V.binE (V.eval (by rfl) ?_)))
  refine' V.litAdd (ds := bent2) h1 ?l2 rfl rfl fun D2 vs2 n2 h2 => ?_
  case l2 => k_extra "lit"
  clear h1
  refine V.store rfl ?_
  refine V.seq (V.assignX rfl (V.binE (V.eval (by rfl) ?_)))
  refine' V.litAdd (ds := bent3) h2 ?l3 rfl rfl fun D3 vs3 n3 h3 => ?_
  case l3 => k_extra "lit"
  clear h2
  refine V.store rfl ?_
  refine V.seq (V.ret (V.subE (V.binE (V.eval (by rfl) ?_))))
  refine' V.litAdd (ds := bent4) h3 ?l4 rfl rfl fun D4 vs4 n4 h4 => ?_
  case l4 => k_extra "lit"
  clear h3
  k_extra "vst"
  obtain ⟨v, d, hx, hv, hr, hw⟩ := bent_row (T := T) h4 c0 c1 a1 b1
  refine V.lHead (.head _) (by omega) (by omega) hx ?_
  exact bent_fin S1 (fun p hp => .tail _ (bent_mem p hp)) hv hr hw
end
section
open PySem PySem.W PyProof.Rows
theorem rowsN {w : World} {q dk C c1 c2 D : Addr} {x o5 o3 w1 : Obj} {ks : List Int} {K : Nat} {ys : List Value} {ds : List Mine.D} {new T' : Led} (hq : ∀ p ∈ (D, x) :: (dk, o5) :: (new ++ (c1, o3) :: (c2, w1) :: T'), p.1 < q) (w5 : NewT new ((c1, o3) :: (c2, w1) :: T')) (hT' : ∀ p ∈ T', p.1 ≠ c2)
    (S5 : DkR w dk C ks 0 (new ++ (c1, o3) :: (c2, w1) :: T') o5 K) (vs5 : DAll new ys ds) :
    ∃ T3, DIn T3 (.ref q) (.tup ds) ∧ (∀ p ∈ T3, p.1 ≠ c2) ∧ DkR w dk C ks 0 ((c1, o3) :: (c2, w1) :: T3) o5 K ∧ ∀ p ∈ (dk, o5) :: (c1, o3) :: (c2, w1) :: T3, p ∈ (q, tupOf ys 0) :: (D, x) :: (dk, o5) :: (new ++ (c1, o3) :: (c2, w1) :: T') := by
  have S6 := S5.cons (x := tupOf ys 0) fun p hp => hq p (.tail _ hp)
  have h1 : ∀ p ∈ (c1, o3) :: (c2, w1) :: (q, tupOf ys 0) :: (new ++ T'), p ∈ (q, tupOf ys 0) :: (new ++ (c1, o3) :: (c2, w1) :: T') := fun p hp => by
    simp only [List.mem_cons, List.mem_append] at hp ⊢
    rcases hp with h | h | h | h | h <;> simp [h]
  have h2 : ∀ p ∈ (q, tupOf ys 0) :: (new ++ (c1, o3) :: (c2, w1) :: T'), p ∈ (c1, o3) :: (c2, w1) :: (q, tupOf ys 0) :: (new ++ T') := fun p hp => by
    simp only [List.mem_cons, List.mem_append] at hp ⊢
    rcases hp with h | h | h | h | h <;> simp [h]
  refine ⟨(q, tupOf ys 0) :: (new ++ T'), .tup (.head _) (vs5.mono fun _ h => .tail _ (List.mem_append_left _ h)), List.forall_mem_cons.mpr ⟨Nat.ne_of_gt (hq (c2, w1) (.tail _ (.tail _ (List.mem_append_right _ (.tail _ (.head _)))))), fun p hp => ?_⟩,
    ⟨fun p hp => S6.off p (h1 p hp), S6.dk, S6.cells.mono h2, S6.lo, S6.up⟩, fun p hp => ?_⟩
  · rcases List.mem_append.mp hp with hp | hp
    · exact Ne.symm (w5.2 p hp (c2, w1) (.tail _ (.head _)))
    · exact hT' p hp
  · rcases List.mem_cons.mp hp with rfl | hp
    · exact .tail _ (.tail _ (.head _))
    · rcases List.mem_cons.mp (h1 p hp) with rfl | hp
      · exact .head _
      · exact .tail _ (.tail _ (.tail _ hp))
theorem V.drop2 {α : Type} {w : World} {σ : Sta} {t : Env → Sem α} {Q : α → Loc → Led → Prop} {l : Loc} {led : Led} {p a : Addr × Obj} (h : V w σ l (a :: led) t Q) : V w σ l (a :: p :: led) t Q := V.sub (fun _ hp => (List.mem_cons.mp hp).elim (fun e => e ▸ .head _) fun hp => .tail _ (.tail _ hp)) h
theorem off3_new {I Cc D : Addr} {oI oC x : Obj} {new nx : Led} (hn : NewT new ((I, oI) :: (Cc, oC) :: (D, x) :: nx)) (off : LCg.Off3 I Cc D nx) : LCg.Off3 I Cc D (new ++ nx) := off3_of fun p hp => (List.mem_append.mp hp).elim
  (fun h => ⟨Ne.symm (hn.2 p h _ (.head _)), Ne.symm (hn.2 p h _ (.tail _ (.head _))), Ne.symm (hn.2 p h _ (.tail _ (.tail _ (.head _))))⟩) (off.mem p)
theorem turn_mem {a b c q : Addr × Obj} {new nx : Led} : ∀ p ∈ a :: b :: c :: q :: (new ++ nx), p ∈ q :: (new ++ a :: b :: c :: nx) := fun p hp => by
  simp only [List.mem_cons, List.mem_append] at hp ⊢
  rcases hp with h | h | h | h | h | h <;> simp [h]
theorem base3 {a b c d e : Addr × Obj} {T LL : Led} (h : a :: b :: c :: d :: e :: T = LL) : a ∈ LL ∧ b ∈ LL ∧ ∀ p ∈ c :: d :: e :: T, p ∈ LL := by
  subst h
  exact ⟨.head _, .tail _ (.head _), fun p hp => .tail _ (.tail _ hp)⟩
theorem lens_snoc {zs : List Value} {ds : List Mine.D} {d : Mine.D} {i : Nat} {t : Tok} (hJ : IntsAre zs ((ds.take i).map fun d => ((vI d).length : Int))) (htk : ds.take (i + 1) = ds.take i ++ [d]) : IntsAre (zs ++ [.int ((vI d).length : Int) t]) ((ds.take (i + 1)).map fun d => ((vI d).length : Int)) := by
  rw [htk, List.map_append]
  exact hJ.append (.cons _ _ .nil)
theorem cell_out {a b c : Addr × Obj} {tl T : Led} : ∀ p ∈ c :: (tl ++ a :: b :: T), p ∈ tl ++ a :: b :: c :: T := fun p hp => by
  simp only [List.mem_cons, List.mem_append] at hp ⊢
  rcases hp with h | h | h | h | h <;> simp [h]
theorem byte1 (k : Int) : (byteArr [k]).size = 1 := by rw [byteArr_size0]; rfl
theorem law_lit {w : World} {f : Addr} {oc oc' : Value} {od od' : Option Addr} {osl osl' : Array (Option Value)} {name qual name' qual' : Str} {params params' : Arguments} {body body' : List Stmt} {scope scope' : Scope} {dV kV doc pm cdv ct dV' kV' doc' pm' cdv' ct' : Value} {an an' : Option Addr}
    (ho : (hd.heap_1 w.params).lookup f = some ⟨oc, od, .func (fnOf name qual params body scope dV kV doc pm an cdv ct), osl⟩) (h2 : (hd.heap_1 w.params).lookup f = some ⟨oc', od', .func (fnOf name' qual' params' body' scope' dV' kV' doc' pm' an' cdv' ct'), osl'⟩)
    {P : Scope → List Stmt → Prop} (h : (hd.heap_1 w.params).lookup f = some ⟨oc', od', .func (fnOf name' qual' params' body' scope' dV' kV' doc' pm' an' cdv' ct'), osl'⟩ → P scope' body') : P scope body := by
  have e := Option.some.inj (ho.symm.trans h2)
  injection e with _ _ e _
  injection e with e
  injection e with _ _ _ e5 e6
  injection e5 with e5
  subst e5 e6
  exact h h2
set_option maxRecDepth 100000 in
theorem law4 {w : World} {oc : Value} {od : Option Addr} {osl : Array (Option Value)} {name qual : Str} {params : Arguments} {body : List Stmt} {scope : Scope} {dV kV doc pm cdv ct : Value} {an : Option Addr}
    (ho : (hd.heap_1 w.params).lookup 334 = some ⟨oc, od, .func (fnOf name qual params body scope dV kV doc pm an cdv ct), osl⟩)
    {dk C c1 c2 : Addr} {o o3 w1 : Obj} {ks : List Int} {cv2 : Option Value} {l : Loc} {QQ : Flow → Loc → Led → Prop} (fin : ∀ l led, QQ (.ret (.bool true)) l led) (d3 : o3.data = Data.cell (some (Value.ref dk))) (hcv2 : w1.data = Data.cell cv2) (h12 : c1 ≠ c2)
    {T3 : Led} {q : Addr} {ds : List Mine.D} {K : Nat} (S16 : DkR w dk C ks 0 ((c1, o3) :: (c2, w1) :: T3) o K) (hK : K ≤ 1000) (hTc : ∀ p ∈ T3, p.1 ≠ c2) (hR4 : DIn T3 (.ref q) (.tup ds)) (hok : RowsOk ds) (hn3 : ds.length ≤ 3) (p5 : ∀ d ∈ ds, RowOk d) (hl0 : l.lookup (S1 "rows") = some (.ref q)) :
    ∀ st rest, body.drop 13 = st :: rest → V w { cs := scope, dk := 100, uk := 1000, cl := [(S1 "shapes", c2), (S1 "deck", c1)], top := true } l ((dk, o) :: (c1, o3) :: (c2, w1) :: T3) (exec st) (seqQ w { cs := scope, dk := 100, uk := 1000, cl := [(S1 "shapes", c2), (S1 "deck", c1)], top := true } rest QQ) := by
  refine' law_lit ho ?h2 (P := fun sc bd => ∀ st rest, bd.drop 13 = st :: rest → V w { cs := sc, dk := 100, uk := 1000, cl := [(S1 "shapes", c2), (S1 "deck", c1)], top := true } l ((dk, o) :: (c1, o3) :: (c2, w1) :: T3) (exec st) (seqQ w { cs := sc, dk := 100, uk := 1000, cl := [(S1 "shapes", c2), (S1 "deck", c1)], top := true } rest QQ)) fun ho => ?h
  case h2 => k_is
  intro st rest e
  obtain ⟨rfl, rfl⟩ := List.cons.inj e
  clear e
  have hwt := hok.wts
  have hde := hok.deps
  refine V.names (ps := [(S1 "rows", .ref q)]) ?_ ?_
  · exact ⟨hl0, trivial⟩
  refine V.assignX rfl ?_
  k_extra "vst"
  refine V.call (c_shapes _ _) rfl rfl ?_
  rintro r led' ⟨sh, tl, rfl, rfl, htl, hsh⟩
  have htd : ∀ p ∈ tl, p.1 ≠ dk := fun p hp => Nat.ne_of_gt (htl _ (.head _) p hp)
  refine V.sub cell_out ?_
  refine V.setCell rfl (.head (shapes_ne htl (S16.off _ (.tail _ (.head _))) h12 hTc)) (by assumption) fun o10 d10 => ?_
  refine V.sub perm5 ?_
  obtain ⟨T5, hT5, hsh5, hC5, hTd5, rvs, rn, hrm, hrd⟩ := rest5 hR4 hsh (cells_off S16.cells d3) (by assumption) htd (fun p hp => S16.off p (.tail _ (.tail _ hp)))
  rw [← hT5]
  have hA1 := S16.off _ (.head _)
  have hA2 := S16.off _ (.tail _ (.head _))
  have S17 : DkR w dk C ks 0 ((_, o3) :: (_, o10) :: T5) o K := ⟨List.forall_mem_cons.mpr ⟨hA1, List.forall_mem_cons.mpr ⟨hA2, hTd5⟩⟩, S16.dk, hC5.mono fun p hp => .tail _ (.tail _ hp), S16.lo, S16.up⟩
  clear hT5 hR4 hsh htl htd hTd5 hTc S16
  have hrl := hrd.length
  k_extra "vst"
  refine V.noneOf (cl' := [(S1 "shapes", _)]) (fun _ _ _ _ => rfl) (by decide) rfl rfl rfl (by decide) rfl rfl (fun _ _ => rfl) ?_
  k_extra "vst"
  refine ⟨rfl, _, rvs, rn, rfl, .tail _ (.tail _ (.tail _ hrm)), by omega, ?_, fun D2 hD2 => ?_⟩
  · intro i v nx oC Cc m₂ hv hs hC hCm hxx
    obtain ⟨hd9, hi9⟩ := hrd.at (List.getElem?_eq_some_iff.mp hv).1 hv
    have hro : isRow (ds.getD i .none) = true := hok.isr _ (by rw [getD_of hi9]; exact List.getElem_mem hi9)
    have hwi := Mine.D.wts_at ds i hi9
    have hcx := hs _ (.tail _ (.tail _ (.head _)))
    k_extra "vst"
    refine V.callP (c_row w _ v _ sh (hd9.mono fun p hp => hs p (.tail _ (.tail _ (.tail _ hp)))) (hsh5.mono fun p hp => hs p (.tail _ (.tail _ (.tail _ hp)))) (by omega)) ?_
    rw [hro]
    k_extra "vst"
    exact ⟨rfl, rfl, fun _ h => h⟩
  clear hD2
  k_extra "vst"
  refine V.neNil (.tail _ (.head _)) (.head _) ?_
  refine V.drop (V.drop ?_)
  k_extra "vst"
  refine V.tupNil (.tail _ (.tail _ (.tail _ (.tail _ hrm)))) (.head _) ?_
  refine V.drop ?_
  cases rvs with
  | nil =>
    k_extra "vst"
    exact fin _ _
  | cons v0 vr =>
  cases ds with
  | nil => cases hrd
  | cons d0 dr =>
  obtain ⟨hd0, hdr⟩ := dall_cons hrd
  have hr0 := p5 d0 (.head _)
  obtain ⟨ar, x0, tx0, rv0, rn0, r0, rfl, rfl, hm0, hD0⟩ := row_ref hd0 hr0.isr
  k_extra "vst"
  refine V.not ?_
  k_extra "vst"
  refine V.tItem (.tail _ (.tail _ (.tail _ hrm))) (by decide) (by decide) rfl ?_
  k_extra "vst"
  obtain ⟨j, hj, j0, j1⟩ := S17.dk
  refine V.call (c_lbent w dk C o j ks _ S17.off hj S17.cells (by omega) (by omega) ar x0 tx0 rv0 rn0 r0 (.tail _ (.tail _ hm0)) (hD0.mono fun p hp => .tail _ (.tail _ hp)) hr0) rfl rfl ?_
  rintro r led' ⟨o10', new6, j9, d6, rfl, hdk9, _, _, hdv, hrf, hw9⟩
  k_extra "vst"
  refine V.callP (c_row w _ r d6 sh (hdv.mono fun p hp => .tail _ hp) (hsh5.mono fun p hp => .tail _ (List.mem_append_right _ (.tail _ (.tail _ hp)))) (by omega)) ?_
  rw [hrf]
  k_extra "vst"
  exact fin _ _
end
section
open PySem PySem.W PyProof.Rows
noncomputable def ConB (w : World) (f : Addr) (vs : List Value) (led : Led) (dk uk : Nat) (Pre : Heap → Prop) (Out : Led → Value → Prop) : Prop :=
  ∀ (mean : ExcName → Option Value) (mg mb : Str → Option Value) (dp un : Nat) (cn : Str) (cs : Scope) (a : Addr) (ccd : Value) (cl : List (Str × Addr)) (outer : List Env) (A₀ : Around) (base h₀ : Heap) (L : Addr) (m : Str → Option Value) (s : Shared)
    (Q E : Value → Shared → Prop), Pre h₀ →
    Below A₀ base outer h₀ → Fr h₀ L s.heap m → (hd.heap_1 w.params).In h₀ → News h₀ L s.heap led → Top hd.view_39 LW mean mg mb h₀ → cs.kind = .function → dp + dk < recursionLimit → un + uk < cLine →
    (∀ r led' h' tk', Fr h₀ L h' m → News h₀ L h' led' → Out led' r → Q r { s with heap := h', toks := tk' }) →
    wpAny (model PySem.Challenge.rw_nt0496_01.row.prog w) (ktrTop dp un (some []) cn cs L a ccd cl outer) (call (.ref f) vs) Q E s
theorem off1_mem9 {D : Addr} {l : Led} (x : LCg.Off1 D l) : ∀ p ∈ l, p.1 ≠ D := by
  induction l with
  | nil => intro _ h; cases h
  | cons q r ih =>
    intro p h
    rcases List.mem_cons.mp h with e | h
    · rw [e]; exact x.1
    · exact ih x.2 p h
inductive DeckOut (w : World) (T : Led) (led' : Led) (r : Value) : Prop
  | mk (dk C : Addr) (o oc : Obj) (ks : List Int) (h : led' = (dk, o) :: (C, oc) :: T) (hr : r = .ref dk) (hd : DkIs w o C 0) (hC : Cells [(C, oc)] C ks) (hk : ∀ p ∈ (C, oc) :: T, p.1 ≠ dk) (hT : ∀ p ∈ T, p.1 ≠ C) : DeckOut w T led' r
set_option maxRecDepth 100000 in
theorem c_deck (w : World) (sc : Addr) (vs : List Value) (ns : List Int) (hI : IntsAre vs ns) (hz : ns.length ≤ 63) (T : Led) :
    ConB w 274 [.ref sc] T 4 60 (fun h₀ => h₀.IsList sc vs.toArray) (DeckOut w T) := by
  intro mean mg mb dp un cn cs a ccd cl outer A₀ base h₀ L m s Q E hsc B F X N Tp hk hd hu hret
  k_with_none
  k_with "alne" => exact all_ne (by assumption)
  k_with "vm" => first | assumption | exact List.Mem.head _ | (refine List.Mem.tail _ ?_; k_extra "vm") | (refine List.mem_append_right _ ?_; k_extra "vm")
  k_with "vst" => repeat (first
    | ((fail_if_success (with_reducible show V _ _ _ _ _ _)); first | intro _ | refine (?_ : V _ _ _ _ _ _) | refine ite_tt ?_ | refine ite_ff ?_)
    | ((with_reducible show V _ _ _ _ (execs _) _); refine V.execs ?_)
    | ((with_reducible show V _ _ _ _ (eval _) _); first
      | refine V.eval (by rfl) ?_
      | ((with_reducible show V _ _ _ _ (eval (Expr.BoolOp _ _ _)) _); first | refine V.last ?_ | refine V.and ?_ | refine V.or ?_)
      | ((with_reducible show V _ _ _ _ (eval (Expr.IfExp _ _ _ _)) _); refine V.ifexp ?_)
      | ((with_reducible show V _ _ _ _ (eval (Expr.Compare _ [_] [_] _)) _); refine V.cmpE (by rfl) ?_)
      | ((with_reducible show V _ _ _ _ (eval (Expr.Name _ _)) _); refine' V.cell (by rfl) ?hm ?hd ?_; (case hm => k_extra "vm"); (case hd => assumption))
      | ((with_reducible show V _ _ _ _ (eval (Expr.Name _ _)) _); refine' V.own ?hm ?hC ?hv ?_; (case hm => k_extra "vm"); (case hC => assumption); (case hv => assumption)))
    | ((fail_if_success (fail_if_success (with_reducible show V _ _ _ _ (fun env => spliced (backTo _ (starEach _ env))) _))); refine V.args ?_)
    | ((with_reducible show V _ _ _ _ (fun env => isTrue _ env (eval _ env)) _); refine V.test (by rfl) ?_)
    | ((with_reducible show V _ _ _ _ (fun _ => binaryOp _ _ _) _); refine V.bin (by rfl) ?_)
    | ((with_reducible show V _ _ _ _ (fun _ => compareOp _ _ _) _); refine V.cmp (by rfl) ?_)
    | ((with_reducible show V _ _ _ _ (fun _ => truthy _) _); refine V.truthy (by rfl) ?_))
  k_with "eval ListComp" => (k_here; k_dflt (refine comp_W (by k_asm) (by rfl) (by decide) (by rfl) (by decide) (by rfl) ?_))
  k_with "exec Assign cons ListComp" => (k_here; k_dflt (refine comp_assign_W (by k_asm) (by rfl) (by with_unfolding_all rfl) (by rfl) (by decide) (by rfl) (by decide) (by rfl) (by rfl) (by rfl) ?_))
  k_with "pyIter bytes" => (k_here; k_dflt (refine go_bytes (by rfl) (by k_asm) (by k_asm) (by size_fits) (fun g => halt ?_)))
  k_with "pyIter str" => (k_here; k_dflt (refine go_str (by rfl) (by k_asm) (by k_asm) (by size_fits) (fun g => halt ?_)))
  k_with "pyIter ref" => (k_here; k_dflt (refine go_tuple (by rfl) (by k_asm) (by k_asm) (by k_extra "vm") (by size_fits) (fun g => halt ?_)))
  k_with "pyIter bytes" => ((with_reducible show wpAny _ _ (pyIter _) (fun it s₂ => LoopAtV _ _ _ _ _ _ _ _ _ it s₂) _ _); refine halt ?_)
  k_with "pyIter ref" => ((with_reducible show wpAny _ _ (pyIter _) (fun it s₂ => LoopAtV _ _ _ _ _ _ _ _ _ it s₂) _ _); refine halt ?_)
  k_with "call builtin:list.append" => (k_here; (with_reducible show wpAny _ _ (call (Value.builtin _) [Value.ref _, _]) _ _ _); k_dflt (refine' append_K ?k1 ?k2 ?k3 ?_ ?z; (case k1 => k_asm); (case k2 => k_asm); (case k3 => k_upd); (case z => first | (have hL9 := IntsAre.length (by assumption); (try simp only [Array.size_push, List.size_toArray, sizeLine_eq]); omega) | ((try simp only [Array.size_push, List.size_toArray, sizeLine_eq]); omega)); k_whole); intro h' F' N'; (try k_sweep))
  k_with "din" => first | assumption | (refine DIn.mono ?_ (by assumption); ktd_sub)
  k_with "call builtin:isinstance" => (k_here; k_dflt (refine isi_str (by k_asm) (by k_asm) (by k_asm) (by walk_at "din") ?_); intro tk)
  k_with "call builtin:isinstance" => (k_here; k_dflt (refine isi_tuple (by k_asm) (by k_asm) (by k_asm) (by walk_at "din") ?_); intro tk)
  k_with "call builtin:isinstance" => (k_here; k_dflt (refine isi_bytes (by k_asm) (by k_asm) (by k_asm) (by walk_at "din") ?_); intro tk)
  k_with "call builtin:isinstance" => (k_here; k_dflt (refine isi_bool (by k_asm) (by k_asm) (by k_asm) (by walk_at "din") ?_); intro tk)
  k_with "call builtin:isinstance" => (k_here; k_dflt (refine isi_int (by k_asm) (by k_asm) (by k_asm) (by walk_at "din") ?_); intro tk)
  k_with "compareOp Eq" => (k_here; k_dflt (refine eqS (by ktr_units) (by k_asm) (by walk_at "din") ?_))
  k_with "compareOp In" => (k_here; k_dflt (refine inS_K (by ktr_units) (by k_asm) (by k_asm) (by k_asm) (by walk_at "din") (by k_is) (by repeat' constructor) ?_))
  k_with "compareOp NotIn" => (k_here; k_dflt (refine notInS_K (by ktr_units) (by k_asm) (by k_asm) (by k_asm) (by walk_at "din") (by k_is) (by repeat' constructor) ?_))
  k_with "compareOp Is" => (k_here; k_dflt (refine isN (by walk_at "din") ?_))
  k_with "compareOp NotEq" => (k_here; k_dflt (refine neS (by ktr_units) (by k_asm) (by walk_at "din") ?_))
  k_with "call builtin:len" => (k_here; k_dflt (refine lenD (by k_asm) (by k_extra "vm") (by assumption) (by omega) ?_); intro t' tk)
  k_with "ditem" => first | omega | (simp only [Int.toNat_ofNat]; omega) | (simp_all; omega)
  k_with "subscriptTail" => (k_here; (with_reducible show wpAny _ _ (subscriptTail _ _ (Value.ref _) (Value.int _ _)) _ _ _); (with_unfolding_all refine itemD (by k_asm) (by k_extra "vm") (by assumption) (by walk_at "ditem") (by walk_at "ditem") (by omega) ?_ (by with_unfolding_all rfl)); intro v' hD'; (try simp only [Int.reduceToNat] at hD'))
  k_with "enterC" => (refine' code_defC ?k1 ?k2 ?k3 ?k4 ?k5 ?kA ?kF ?kK ?k6 ?k7 ?k8 ?k9 ?kB ?kD ?_ ?c2 ?c3 ?c4; (case kA => exact rfl); (case kF => exact rfl); (case kK => assumption); (case k1 => k_asm); (case k2 => k_asm); (case k3 => k_asm); (case k4 => k_asm); (case k5 => k_asm); (case k6 => k_is); (case k7 => k_is); (case k8 => ktr_room); (case k9 => exact BindsTo.of_eq rfl); (case kB => exact rfl); (case kD => decide +kernel); (case c2 => exact rfl); (case c3 => exact rfl); (case c4 => exact rfl); k_whole; intro g' L' h' tk' cells' FG' F' N' Y' B' X' T' l1; (try k_lt l1); k_cells Y'; (try simp only [List.cons_append, List.nil_append] at N'); (try dsimp only); (try k_lift B'); (try k_fold))
  k_with "call builtin:isinstance" => (k_here; (with_reducible show wpAny _ _ (call (Value.builtin _) [Value.ref _, Value.type _]) _ _ _); k_dflt (refine isi_tup1 (by k_asm) (by k_asm) (by k_asm) (by k_extra "vm") ?_); intro tk)
  k_with "wt" => first | assumption | omega | (simp only [D.wt, D.wts] at *; omega)
  k_with "eval Dict" => (k_here; k_dflt (refine' kdn_str ?q ?F ?N ?b ?a ?l ?e ?n ?_; (case q => rfl); (case F => k_asm); (case N => first | k_asm | exact News.nil); (case b => exact Top.nolimit (by k_asm)); (case a => rfl); (case l => rfl); (case e => exact List.cons_ne_nil _ _); (case n => exact Nat.le_of_ble_eq_true rfl)); intro d' h' o' F' N' l1 lo' hd'; (try k_lt l1))
  k_with "KdnMade" => (k_here; k_dflt (refine' kdn_made_str ?F ?N ?U ?d ?k ?n ?_; (case F => k_asm); (case N => k_asm); (case U => k_updF); (case d => k_asm); (case k => rfl); (case n => exact of_decide_eq_true (by first | rfl | kernel_rfl!))); intro h' o' F' N' hd')
  k_with "shp" => first | assumption | (refine ShapesIn.mono ?_ (by assumption); ktd_sub)
  k_with "subscriptTail" => (refine halt ?_)
  k_with "KdnMade" => (refine halt ?_)
  k_with "pyIter" => (refine halt ?_)
  refine wpAny_call ?_; k_dflt cell_enter; refine wpAny_noRaise ?_
  k_steps
  refine ⟨?_⟩
  rename Fr _ _ _ _ => F3
  rename News _ _ _ _ => N3
  rename Fr h₀ L _ m => FG
  refine kmk_slice_ints (ns := ns) (ms := ns.take 60) F3 N3 (Fr.lst F3 (Fr.lst FG hsc)) IsPart.none (IsPart.int 60 _) hI (kmk_upto hI (by decide)) rfl ?_ (by with_unfolding_all rfl) (by kmk_pure) (by rw [List.size_toArray, hI.length, sizeLine_eq]; omega)
  intro S ws h4 F4 N4 l4 hW _ _
  clear F3 N3
  k_steps
  refine ⟨?_⟩
  rename Fr _ _ _ _ => F5
  rename News _ _ _ _ => N5
  refine go_list (by rfl) F5 N5 (.head _) (by rw [hW.length, List.length_take, sizeLine_eq]; omega) fun g => ?_
  refine rest_const (fun i ys => ∃ ks, IntsAre ys ks ∧ (∀ n ∈ ks, 0 ≤ n ∧ n < 1000000007) ∧ ks.length = i) ⟨[], .nil, (fun _ h => nomatch h), rfl⟩ ?_ ?_
  · rintro i v ys I oI C oC D' m₂ h tk E' hi hv ⟨ks, hys, hin, hlen⟩ hC hxx F9 N9 off ne
    obtain ⟨n, t, _, rfl⟩ := ints_get hW hv
    k_steps
    refine LCg.CompEnd.intro F9 N9 _ (fun p hp => hp) (by exact ⟨off.1, off.2⟩) (.head _) ⟨rfl, _, hys.append (.cons _ _ .nil), ?_, by rw [List.length_append, hlen]; rfl⟩
    intro z hz
    rcases List.mem_append.mp hz with hz | hz
    · exact hin z hz
    · rw [List.mem_singleton.mp hz]
      exact ⟨Int.fmod_nonneg_of_pos _ (by decide), Int.fmod_lt_of_pos _ (by decide)⟩
  · rintro ys ⟨ks, hys, hin, hlen⟩
    dsimp only [LCg.FinE]
    clear F5 N5
    intro D h5 tk5 F6 N6 o1
    rename (∀ p ∈ T, p.1 < _) => l1
    rename Obj.IsDictOf _ _ [] => hd'
    have hn4 := l4 _ (.head _)
    have hnD := o1.2.1
    k_steps
    rename Fr _ _ _ _ => F7
    rename News _ _ _ _ => N7
    refine ⟨?_⟩
    refine kdn_made_str F7 N7 (.tail (Ne.symm hnD) (.tail (Nat.ne_of_gt hn4) (.head fun p hp => Nat.ne_of_lt (l1 p hp)))) hd' rfl (of_decide_eq_true (by first | rfl | kernel_rfl!)) ?_
    intro h8 o8 F8 N8 hd8
    clear F7 N7
    k_steps
    rename Fr h₀ L _ m => F9
    rename News h₀ L _ (_ :: _) => N9
    refine hret _ _ _ _ F9 (cb_drop (news := (_, o8) :: (D, LCg.lst ys) :: T) N9 (fun p hp => (List.mem_cons.mp hp).elim (fun e => e ▸ .tail _ (.tail _ (.head _))) fun hp => (List.mem_cons.mp hp).elim (fun e => e ▸ .head _) fun hp => .tail _ (.tail _ (.tail _ hp)))) ⟨_, D, o8, _, ks, rfl, rfl, ⟨_, hd8⟩, ⟨⟨ys, _, .head _, hys⟩, hin, ?_⟩, ?_, off1_mem9 o1.2.2⟩
    · rw [hlen, hW.length, List.length_take]; omega
    · intro p hp
      rcases List.mem_cons.mp hp with rfl | hp
      · exact Ne.symm hnD
      · exact Nat.ne_of_lt (l1 p hp)
end
section
open PySem PySem.W PyProof.Rows
theorem hide1 {h₀ g : Heap} {L : Addr} {m : Str → Option Value} (F : Fr h₀ L g m) : ∀ b o, h₀.get? b = some o → (hideAll g [L]).get? b = some o := fun b o e =>
  hideAll_get _ (F.keep b o e) fun hm => by
    rw [List.mem_singleton.mp hm] at e
    exact absurd (Heap.lt_size e) (Nat.not_lt.mpr F.above)
theorem back_fr {h₀ g h' : Heap} {L L' e : Addr} {m m' : Str → Option Value} {oe o : Obj} {sl : Array (Option Value)} {news : Led} (F : Fr h₀ L g m) (F' : Fr (hideAll g [L]) L' h' m') (ho : g.get? L = some o) (N : News (hideAll g [L]) L' h' ((e, oe) :: (L, { o with slots := sl }) :: news)) : Fr h₀ L h' m := by
  obtain ⟨o1, es, ep, h1, hd, r⟩ := F.ns
  rw [ho] at h1
  obtain rfl := Option.some.inj h1
  exact ⟨⟨_, es, ep, (N _ (.tail _ (.head _))).1, hd, r⟩, fun b o q => F'.keep b o (hide1 F b o q), F.above⟩
theorem back_news {h₀ h h' g : Heap} {L L' : Addr} {led news : Led} (N : News h₀ L h led) (N' : News g L' h' news) (hs : ∀ p ∈ led, p ∈ news) : News h₀ L h' led := fun p hp => ⟨(N' p (hs p hp)).1, (N p hp).2⟩
theorem ga45 (w : World) : findIn (hd.heap_1 w.params) (.ref 45) "__getattribute__" = some (some (.builtin "BaseException.__getattribute__")) := by kernel_rfl
theorem gk45 (w : World) : findIn (hd.heap_1 w.params) (.ref 45) "__getattr__" = some none := by kernel_rfl
theorem mb45 (w : World) : mroIn (hd.heap_1 w.params) 45 (.type "BaseException") = some true := by kernel_rfl
theorem hd45 (w : World) : hasDictIn (hd.heap_1 w.params) 45 = true := by kernel_rfl
theorem tl45 (w : World) : findIn (hd.heap_1 w.params) (.ref 45) (Str.ofString "told") = some none := by kernel_rfl
theorem get_told {A : Around} {E : Value → Shared → Prop} {s : Shared} {h₀ : Heap} {L x : Addr} {m : Str → Option Value} {ox : Obj} {tk ti : Tok} {n : Int} {expr : Bool} {Q : Value → Shared → Prop} {prog : Program} (w : World) (F : Fr h₀ L s.heap m) (X : (hd.heap_1 w.params).In h₀) (I : W.InstAt s.heap x ox 45 (some (toldD w tk ti n)))
    (h : Q (.int n ti) { s with toks := s.toks + 1 }) : wpAny (model prog w) A (getAttr (.ref x) (Str.ofString "told") expr) Q E s :=
  get_exc (X.keeps F.keep) I (ga45 w) (gk45 w) (mb45 w) (findObj_own (hd45 w) (tl45 w) rfl rfl) rfl h
set_option maxRecDepth 100000 in
theorem c_strict (w : World) (led : Led) (b : Array UInt8) (t : Tok) (hb : b.size ≤ 9000) : ConS w 322 [.bytes b t] led 60 600 (fun r => r = .bool true) := by
  intro mean mg mb dp un cn cs a ccd cl A₀ h₀ L m s Q E B F X N T hk hdk hu hret
  k_with_none
  k_with "alne" => exact all_ne (by assumption)
  k_with "vm" => first | assumption | exact List.Mem.head _ | (refine List.Mem.tail _ ?_; k_extra "vm") | (refine List.mem_append_right _ ?_; k_extra "vm")
  k_with "vst" => repeat (first
    | ((fail_if_success (with_reducible show V _ _ _ _ _ _)); first | intro _ | refine (?_ : V _ _ _ _ _ _) | refine ite_tt ?_ | refine ite_ff ?_)
    | ((with_reducible show V _ _ _ _ (execs _) _); refine V.execs ?_)
    | ((with_reducible show V _ _ _ _ (eval _) _); first
      | refine V.eval (by rfl) ?_
      | ((with_reducible show V _ _ _ _ (eval (Expr.BoolOp _ _ _)) _); first | refine V.last ?_ | refine V.and ?_ | refine V.or ?_)
      | ((with_reducible show V _ _ _ _ (eval (Expr.IfExp _ _ _ _)) _); refine V.ifexp ?_)
      | ((with_reducible show V _ _ _ _ (eval (Expr.Compare _ [_] [_] _)) _); refine V.cmpE (by rfl) ?_)
      | ((with_reducible show V _ _ _ _ (eval (Expr.Name _ _)) _); refine' V.cell (by rfl) ?hm ?hd ?_; (case hm => k_extra "vm"); (case hd => assumption))
      | ((with_reducible show V _ _ _ _ (eval (Expr.Name _ _)) _); refine' V.own ?hm ?hC ?hv ?_; (case hm => k_extra "vm"); (case hC => assumption); (case hv => assumption)))
    | ((fail_if_success (fail_if_success (with_reducible show V _ _ _ _ (fun env => spliced (backTo _ (starEach _ env))) _))); refine V.args ?_)
    | ((with_reducible show V _ _ _ _ (fun env => isTrue _ env (eval _ env)) _); refine V.test (by rfl) ?_)
    | ((with_reducible show V _ _ _ _ (fun _ => binaryOp _ _ _) _); refine V.bin (by rfl) ?_)
    | ((with_reducible show V _ _ _ _ (fun _ => compareOp _ _ _) _); refine V.cmp (by rfl) ?_)
    | ((with_reducible show V _ _ _ _ (fun _ => truthy _) _); refine V.truthy (by rfl) ?_))
  k_with "eval ListComp" => (k_here; k_dflt (refine comp_W (by k_asm) (by rfl) (by decide) (by rfl) (by decide) (by rfl) ?_))
  k_with "exec Assign cons ListComp" => (k_here; k_dflt (refine comp_assign_W (by k_asm) (by rfl) (by with_unfolding_all rfl) (by rfl) (by decide) (by rfl) (by decide) (by rfl) (by rfl) (by rfl) ?_))
  k_with "pyIter bytes" => (k_here; k_dflt (refine go_bytes (by rfl) (by k_asm) (by k_asm) (by size_fits) (fun g => halt ?_)))
  k_with "pyIter str" => (k_here; k_dflt (refine go_str (by rfl) (by k_asm) (by k_asm) (by size_fits) (fun g => halt ?_)))
  k_with "pyIter ref" => (k_here; k_dflt (refine go_tuple (by rfl) (by k_asm) (by k_asm) (by k_extra "vm") (by size_fits) (fun g => halt ?_)))
  k_with "pyIter bytes" => ((with_reducible show wpAny _ _ (pyIter _) (fun it s₂ => LoopAtV _ _ _ _ _ _ _ _ _ it s₂) _ _); refine halt ?_)
  k_with "pyIter ref" => ((with_reducible show wpAny _ _ (pyIter _) (fun it s₂ => LoopAtV _ _ _ _ _ _ _ _ _ it s₂) _ _); refine halt ?_)
  k_with "call builtin:list.append" => (k_here; (with_reducible show wpAny _ _ (call (Value.builtin _) [Value.ref _, _]) _ _ _); k_dflt (refine' append_K ?k1 ?k2 ?k3 ?_ ?z; (case k1 => k_asm); (case k2 => k_asm); (case k3 => k_upd); (case z => first | (have hL9 := IntsAre.length (by assumption); (try simp only [Array.size_push, List.size_toArray, sizeLine_eq]); omega) | ((try simp only [Array.size_push, List.size_toArray, sizeLine_eq]); omega)); k_whole); intro h' F' N'; (try k_sweep))
  k_with "din" => first | assumption | (refine DIn.mono ?_ (by assumption); ktd_sub)
  k_with "call builtin:isinstance" => (k_here; k_dflt (refine isi_str (by k_asm) (by k_asm) (by k_asm) (by walk_at "din") ?_); intro tk)
  k_with "call builtin:isinstance" => (k_here; k_dflt (refine isi_tuple (by k_asm) (by k_asm) (by k_asm) (by walk_at "din") ?_); intro tk)
  k_with "call builtin:isinstance" => (k_here; k_dflt (refine isi_bytes (by k_asm) (by k_asm) (by k_asm) (by walk_at "din") ?_); intro tk)
  k_with "call builtin:isinstance" => (k_here; k_dflt (refine isi_bool (by k_asm) (by k_asm) (by k_asm) (by walk_at "din") ?_); intro tk)
  k_with "call builtin:isinstance" => (k_here; k_dflt (refine isi_int (by k_asm) (by k_asm) (by k_asm) (by walk_at "din") ?_); intro tk)
  k_with "compareOp Eq" => (k_here; k_dflt (refine eqS (by ktr_units) (by k_asm) (by walk_at "din") ?_))
  k_with "compareOp In" => (k_here; k_dflt (refine inS_K (by ktr_units) (by k_asm) (by k_asm) (by k_asm) (by walk_at "din") (by k_is) (by repeat' constructor) ?_))
  k_with "compareOp NotIn" => (k_here; k_dflt (refine notInS_K (by ktr_units) (by k_asm) (by k_asm) (by k_asm) (by walk_at "din") (by k_is) (by repeat' constructor) ?_))
  k_with "compareOp Is" => (k_here; k_dflt (refine isN (by walk_at "din") ?_))
  k_with "compareOp NotEq" => (k_here; k_dflt (refine neS (by ktr_units) (by k_asm) (by walk_at "din") ?_))
  k_with "call builtin:len" => (k_here; k_dflt (refine lenD (by k_asm) (by k_extra "vm") (by assumption) (by omega) ?_); intro t' tk)
  k_with "ditem" => first | omega | (simp only [Int.toNat_ofNat]; omega) | (simp_all; omega)
  k_with "subscriptTail" => (k_here; (with_reducible show wpAny _ _ (subscriptTail _ _ (Value.ref _) (Value.int _ _)) _ _ _); (with_unfolding_all refine itemD (by k_asm) (by k_extra "vm") (by assumption) (by walk_at "ditem") (by walk_at "ditem") (by omega) ?_ (by with_unfolding_all rfl)); intro v' hD'; (try simp only [Int.reduceToNat] at hD'))
  k_with "enterC" => (refine' code_defC ?k1 ?k2 ?k3 ?k4 ?k5 ?kA ?kF ?kK ?k6 ?k7 ?k8 ?k9 ?kB ?kD ?_ ?c2 ?c3 ?c4; (case kA => exact rfl); (case kF => exact rfl); (case kK => assumption); (case k1 => k_asm); (case k2 => k_asm); (case k3 => k_asm); (case k4 => k_asm); (case k5 => k_asm); (case k6 => k_is); (case k7 => k_is); (case k8 => ktr_room); (case k9 => exact BindsTo.of_eq rfl); (case kB => exact rfl); (case kD => decide +kernel); (case c2 => exact rfl); (case c3 => exact rfl); (case c4 => exact rfl); k_whole; intro g' L' h' tk' cells' FG' F' N' Y' B' X' T' l1; (try k_lt l1); k_cells Y'; (try simp only [List.cons_append, List.nil_append] at N'); (try dsimp only); (try k_lift B'); (try k_fold))
  k_with "call builtin:isinstance" => (k_here; (with_reducible show wpAny _ _ (call (Value.builtin _) [Value.ref _, Value.type _]) _ _ _); k_dflt (refine isi_tup1 (by k_asm) (by k_asm) (by k_asm) (by k_extra "vm") ?_); intro tk)
  k_with "wt" => first | assumption | omega | (simp only [D.wt, D.wts] at *; omega)
  k_with "eval Dict" => (k_here; k_dflt (refine' kdn_str ?q ?F ?N ?b ?a ?l ?e ?n ?_; (case q => rfl); (case F => k_asm); (case N => first | k_asm | exact News.nil); (case b => exact Top.nolimit (by k_asm)); (case a => rfl); (case l => rfl); (case e => exact List.cons_ne_nil _ _); (case n => exact Nat.le_of_ble_eq_true rfl)); intro d' h' o' F' N' l1 lo' hd'; (try k_lt l1))
  k_with "KdnMade" => (k_here; k_dflt (refine' kdn_made_str ?F ?N ?U ?d ?k ?n ?_; (case F => k_asm); (case N => k_asm); (case U => k_updF); (case d => k_asm); (case k => rfl); (case n => exact of_decide_eq_true (by first | rfl | kernel_rfl!))); intro h' o' F' N' hd')
  k_with "shp" => first | assumption | (refine ShapesIn.mono ?_ (by assumption); ktd_sub)
  k_with "call ref" => (k_here; k_dflt (refine' Con.use ?C ?B ?F ?X ?N ?T ?k ?dd ?uu ?_; (case C => assumption); (case N => k_asm); (case F => k_asm); (case X => k_asm); (case B => k_asm); (case T => k_asm); (case k => first | exact rfl | assumption); (case dd => ktr_room); (case uu => ktr_units); intro r' led' h' tk' F' N' hO'; (try dsimp only at hO'); obtain ⟨e1', t9', e2'⟩ := hO'; (try replace e1' := Eq.symm e1'); subst e1'; subst e2'; (try dsimp only); (try k_fold)))
  k_with "getMethod bytes" => (k_here; refine m_join ?_)
  k_with "call builtin:bytes.join" => (refine halt ?_)
  k_with "asc" => assumption
  k_with "bsz" => ((try simp only [List.size_toArray, Array.size_append, List.length_cons, List.length_nil, byteArr_size0, hexInts_len, Array.size_map]); first | omega | assumption)
  k_with "binaryOp Add bytes bytes" => (k_here; (with_reducible show wpAny _ _ (binaryOp Operator.Add (Value.bytes _ _) (Value.bytes _ _)) _ _ _); (refine KBy.add_bytes (by walk_at "bsz") ?_); intro _ _)
  k_with "bidx" => first | omega | (simp only [Int.toNat_natCast] at *; omega)
  k_with "call builtin:len" => (k_here; (with_reducible show wpAny _ _ (call (Value.builtin "len") [Value.bytes _ _]) _ _ _); (refine bLen (by omega) ?_); intro _ _)
  k_with "subscriptTail" => (k_here; (with_reducible show wpAny _ _ (subscriptTail _ _ (Value.bytes _ _) (Value.int _ _)) _ _ _); (refine bItem (by omega) (by walk_at "bidx") (by walk_at "bidx") ?_); intro _ _ bLo bHi; (try simp only [Int.toNat_natCast] at bLo bHi); (try simp only [Int.toNat_natCast]))
  k_with "lmem" => first | assumption | exact .head _ | exact .tail _ (.head _) | exact .tail _ (.tail _ (.head _)) | exact .tail _ (.tail _ (.tail _ (.head _))) | exact .tail _ (.tail _ (.tail _ (.tail _ (.head _)))) | exact .tail _ (.tail _ (.tail _ (.tail _ (.tail _ (.head _)))))
  k_with "compareOp Eq" => (k_here; (with_reducible show wpAny _ _ (compareOp CmpOp.Eq (Value.ref _) (Value.ref _)) _ _ _); k_dflt (refine' eqNil (by ktr_units) ?N ?m (List.Mem.head _) ?_; (case N => k_asm); (case m => walk_at "lmem")))
  k_with "compareOp NotEq" => (k_here; (with_reducible show wpAny _ _ (compareOp CmpOp.NotEq (Value.ref _) (Value.ref _)) _ _ _); k_dflt (refine' neNil (by ktr_units) ?N ?m (List.Mem.head _) ?_; (case N => k_asm); (case m => walk_at "lmem")))
  k_with "subscriptTail" => (k_here; (with_reducible show wpAny _ _ (subscriptTail _ _ (Value.ref _) (Value.int (-1) _)) _ _ _); (with_unfolding_all refine lastItem (by k_asm) (by walk_at "lmem") ?_ (by with_unfolding_all rfl)))
  k_with "subscriptTail" => (k_here; (with_reducible show wpAny _ _ (subscriptTail _ (Expr.Slice (some _) (some _) none _) (Value.bytes _ _) (Value.ref _)) _ _ _); (with_reducible rename Fr _ _ _ _ => F'); (with_reducible rename News _ _ _ _ => N'); (refine bSlice (s := ⟨_, _, _, _, _⟩) F' N' (by omega) (by omega) (by omega) ?_); intro h' c' t' k' F' N' hc' hcs')
  k_with "subscriptTail" => (k_here; (with_reducible show wpAny _ _ (subscriptTail _ (Expr.Slice (some _) none none _) (Value.bytes _ _) (Value.ref _)) _ _ _); (with_reducible rename Fr _ _ _ _ => F'); (with_reducible rename News _ _ _ _ => N'); (refine bSliceTo (s := ⟨_, _, _, _, _⟩) F' N' (by omega) (by omega) ?_); intro h' c' t' k' F' N' hc' hcs')
  k_with "subscriptTail" => (k_here; (with_reducible show wpAny _ _ (subscriptTail _ (Expr.Slice none (some _) none _) (Value.bytes _ _) (Value.ref _)) _ _ _); (with_reducible rename Fr _ _ _ _ => F'); (with_reducible rename News _ _ _ _ => N'); (refine bSliceFrom (s := ⟨_, _, _, _, _⟩) F' N' (by omega) (by omega) ?_); intro h' c' t' k' F' N' hc' hcs')
  k_with "din" => first | exact DIn.int _ _ | exact DIn.str _ _ | exact DIn.bytes _ _ | exact DIn.none | exact DIn.bool _
  k_with "exec For" => (k_here; (rename Fr _ _ _ _ => lF'); (with_unfolding_all refine' For_invVF lF' ?k1 ?k2 ?_; (case k1 => exact rfl); (case k2 => exact rfl); k_whole))
  k_with "call ref" => (k_here; refine halt ?_)
  k_with "noteFrame ref" => (k_here; refine halt ?_)
  k_with "call type:bytes" => (k_here; (with_reducible show wpAny _ _ (call (Value.type "bytes") [Value.bytes _ _]) _ _ _); refine bytes_self ?_)
  k_with "getAttr ref" => (k_here; (with_reducible show wpAny _ _ (getAttr _ (Str.ofString "told") _) _ _ _); refine halt ?_)
  k_with "getMethod bytes" => (k_here; refine m_count ?_)
  k_with "call builtin:bytes.count" => (refine halt ?_)
  k_with "enterS" => (refine' code_defS ?k1 ?k2 ?k3 ?k4 ?k5 ?kA ?kF ?kK ?k6 ?k7 ?k8 ?k9 ?kB ?_ ?c2 ?c3 ?c4 ?c5; (case kA => exact rfl); (case kF => exact rfl); (case kK => first | exact rfl | assumption); (case k1 => k_asm); (case k2 => k_asm); (case k3 => k_asm); (case k4 => k_asm); (case k5 => k_asm); (case k6 => k_is); (case k7 => k_is); (case k8 => ktr_room); (case k9 => first | exact BindsTo.of_eq rfl | exact binds_K (by k_in) rfl (by k_is) rfl rfl rfl); (case c5 => decide); (case kB => exact locs rfl); (case c2 => exact rfl); (case c3 => exact rfl); (case c4 => exact rfl); k_whole; intro g' L' h' FG' F' N' B' X' T' lv'; (try dsimp only); (try k_lift B'); (try k_fold))
  refine wpAny_call ?_; k_dflt walk_at "enterS"
  k_steps
  refine ⟨?_⟩
  rename Fr _ _ _ _ => F1
  rename News _ _ _ _ => N1
  refine ConX.useN F1 N1 (c_read w _ b t hb) (by k_asm) (by k_asm) (by k_asm) (by first | exact rfl | assumption) (by ktr_room) (by ktr_units) ?_ ?_
  · rintro r2 led2 h2 tk2 F2 N2 ⟨x, ds, p, d, t1, t2, rv, t3, new, hread, rfl, rfl, hD⟩
    try dsimp only
    try k_fold
    k_steps
    refine ⟨?_⟩
    have hf := read_fine hread
    rename Fr _ _ _ _ => F3
    rename News _ _ _ _ => N3
    refine Con.useN F3 N3 (c_octs w _ p d t1 t2 t3 rv x ds (.head _) (.tail _ (.head _)) (hD.mono fun z hz => .tail _ (.tail _ hz)) (by omega) hf.2.1 (by omega) (by omega) hf.2.2.2.2) (by k_asm) (by k_asm) (by k_asm) (by first | exact rfl | assumption) (by ktr_room) (by ktr_units) ?_
    intro r9 led9 h9 tk9 F5 N5 hO9
    obtain ⟨rfl, t9, rfl⟩ := hO9
    rw [strict_read hread]
    clear F3 N3
    try dsimp only
    try k_fold
    k_steps
    rename Fr _ _ _ _ => F6
    rename News _ _ _ _ => N6
    rw [beq_self_eq_true]
    rename (∀ (v : Value) (s' : Shared), LeaveK _ _ _ _ _ v s' → _) => lv9
    exact lv9 _ _ (leaveK_ F6 N6 fun F0 N0 => hret _ _ _ F0 (cb_drop N0 fun p hp => .tail _ (.tail _ (List.mem_append.mpr (.inr hp)))) rfl)
  · rintro g2 e2 t2 d2 tk2 ti2 n2 news2 h2 tk3 F2 hsub hmem ⟨k, rfl, hread⟩ R2 U2
    try dsimp only
    try k_fold
    k_steps
    refine ⟨?_⟩
    have htold := told_in hread
    rename Fr h₀ L _ m => FG9
    obtain ⟨o9, es9, ep9, ho9, hd9, _⟩ := FG9.ns
    have XG := X.keeps (hide1 FG9)
    have TG := T.keeps (hide1 FG9)
    refine caught_bad (L' := L) (o' := o9) (by k_asm) (.head _) ho9 (fun vs q => by rw [hd9] at q; cases q) F2 R2 U2 X (topRead_of T) (by k_is) (exc45 w) (by decide) ?_
    intro h3 oe sl tk4 F3 N3 hoc hod hof
    replace F3 : Fr (hideAll _ [L]) _ h3 _ := F3
    replace N3 : News (hideAll _ [L]) _ h3 _ := N3
    clear F2 F1 N1
    have hInst : InstAt h3 e2 oe 45 (some (toldD w tk2 ti2 k)) := ⟨(N3 _ (.head _)).1, hoc, (by obtain ⟨vs, q⟩ := hof; unfold notCls; rw [q]), (by rw [hod]; exact (N3 _ (.tail _ (.tail _ hmem))).1)⟩
    try dsimp only
    try k_fold
    k_steps
    refine ⟨?_⟩
    rename Fr _ _ _ _ => F4
    refine get_told w F4 XG hInst ?_
    k_steps
    refine ⟨?_⟩
    rename Fr _ _ _ _ => F5
    refine get_told w F5 XG hInst ?_
    k_steps
    refine ⟨?_⟩
    refine count_K ?_
    intro t6 k6
    k_steps
    · rename Fr _ _ _ _ => F9
      rename News _ _ _ _ => N9
      rw [decide_eq_true (by omega)]
      exact hret _ _ _ (back_fr FG9 F9 ho9 N9) (back_news N N9 fun p hp => .tail _ (.tail _ (hsub p hp))) rfl
    all_goals (exfalso; first | omega | (rename ((D.int _).kind == "int" || (D.int _).kind == "bool") = false => hk9; exact absurd hk9 (by simp [D.kind])))
end
section
open PySem PySem.W PyProof.Rows
set_option maxRecDepth 100000 in
theorem law3 {w : World} {oc : Value} {od : Option Addr} {osl : Array (Option Value)} {name qual : Str} {params : Arguments} {body : List Stmt} {scope : Scope} {dV kV doc pm cdv ct : Value} {an : Option Addr}
    (ho : (hd.heap_1 w.params).lookup 334 = some ⟨oc, od, .func (fnOf name qual params body scope dV kV doc pm an cdv ct), osl⟩)
    {dk C c1 c2 : Addr} {o o3 w1 : Obj} {ks : List Int} {cv2 : Option Value} {l : Loc} {QQ : Flow → Loc → Led → Prop} (fin : ∀ l led, QQ (.ret (.bool true)) l led) (d3 : o3.data = Data.cell (some (Value.ref dk))) (hcv2 : w1.data = Data.cell cv2) (h12 : c1 ≠ c2)
    {T3 : Led} {q : Addr} {ds : List Mine.D} {BO : Array UInt8} {tB : Tok} (S9 : DkR w dk C ks 0 ((c1, o3) :: (c2, w1) :: T3) o 311) (hTc : ∀ p ∈ T3, p.1 ≠ c2) (hR4 : DIn T3 (.ref q) (.tup ds)) (hok : RowsOk ds) (hn3 : ds.length ≤ 3) (p5 : ∀ d ∈ ds, RowOk d) (hB0 : 0 < BO.size) (hBz : BO.size ≤ 3000)
    (hl0 : l.lookup (S1 "rows") = some (.ref q)) (hl1 : l.lookup (S1 "octets") = some (.bytes BO tB)) :
    ∀ st rest, body.drop 10 = st :: rest → V w { cs := scope, dk := 100, uk := 1000, cl := [(S1 "shapes", c2), (S1 "deck", c1)], top := true } l ((dk, o) :: (c1, o3) :: (c2, w1) :: T3) (exec st) (seqQ w { cs := scope, dk := 100, uk := 1000, cl := [(S1 "shapes", c2), (S1 "deck", c1)], top := true } rest QQ) := by
  refine' law_lit ho ?h2 (P := fun sc bd => ∀ st rest, bd.drop 10 = st :: rest → V w { cs := sc, dk := 100, uk := 1000, cl := [(S1 "shapes", c2), (S1 "deck", c1)], top := true } l ((dk, o) :: (c1, o3) :: (c2, w1) :: T3) (exec st) (seqQ w { cs := sc, dk := 100, uk := 1000, cl := [(S1 "shapes", c2), (S1 "deck", c1)], top := true } rest QQ)) fun ho => ?h
  case h2 => k_is
  intro st rest e
  obtain ⟨rfl, rfl⟩ := List.cons.inj e
  clear e
  refine V.names (ps := [(S1 "rows", .ref q), (S1 "octets", .bytes BO tB)]) ?_ ?_
  · exact ⟨hl0, hl1, trivial⟩
  refine V.swap2 (fun _ _ _ _ _ => rfl) (fun _ _ _ _ _ => rfl) rfl rfl ?_
  k_extra "vst"
  refine V.bLen (by omega) fun _ => ?_
  k_extra "vst"
  refine V.draw S9 (hb := by omega) (hb2 := by omega) fun o7 at0 t7 S10 a7 b7 => ?_
  k_extra "vst"
  refine V.hold S10 (by assumption) fun S11 => ?_
  k_extra "vst"
  refine V.draw S11 fun o8 sg0 t8 S12 a8 b8 => ?_
  k_extra "vst"
  refine V.lInt (ns := [32, 40, 41, 39, 48, 110, 10, 60, 45, 65]) (.tail _ (.head _)) (by repeat' constructor) a8 (by show sg0.toNat < 10; omega) (by omega) fun t9 => ?_
  have S13 := S12.tail S9.cells
  have hsg := menu10 a8 b8
  clear S9 S10 S11 S12
  generalize ([32, 40, 41, 39, 48, 110, 10, 60, 45, 65] : List Int).getD sg0.toNat 0 = sg at *
  refine V.drop2 ?_
  k_extra "vst"
  refine V.tuple fun q9 hq9 => ⟨q9, _, _, _, rfl, .head _, ?_⟩
  refine V.drop ?_
  clear hq9
  have hin : KBa.In [sg] := fun k hk => by rw [List.mem_singleton.mp hk]; exact hsg
  k_extra "vst"
  refine V.cutFrom ?_
  k_extra "vst"
  refine ⟨BO, _, _, _, rfl, rfl, by omega, a7, fun y1 u1 _ z1 => ?_⟩
  k_extra "vst"
  refine V.bytesOf (.head _) (.cons _ _ .nil) hin (by show 1 ≤ _; omega) fun _ => ?_
  refine V.drop ?_
  k_extra "vst"
  refine V.addB (by rw [byte1]; omega) fun _ => ?_
  k_extra "vst"
  refine V.cutTo ?_
  k_extra "vst"
  refine ⟨BO, _, _, _, rfl, rfl, by omega, by omega, fun y2 u2 _ z2 => ?_⟩
  k_extra "vst"
  refine V.addB (by rw [Array.size_append, byte1]; omega) fun _ => ?_
  k_extra "vst"
  refine V.cutFrom ?_
  k_extra "vst"
  refine ⟨BO, _, _, _, rfl, rfl, by omega, a7, fun y3 u3 _ z3 => ?_⟩
  k_extra "vst"
  refine V.bytesOf (.head _) (.cons _ _ .nil) hin (by show 1 ≤ _; omega) fun _ => ?_
  refine V.drop ?_
  k_extra "vst"
  refine V.addB (by rw [byte1]; omega) fun _ => ?_
  k_extra "vst"
  refine V.cutTo ?_
  k_extra "vst"
  refine ⟨BO, _, _, _, rfl, rfl, by omega, a7, fun y4 u4 _ z4 => ?_⟩
  k_extra "vst"
  refine V.addB (by rw [Array.size_append, byte1]; omega) fun _ => ?_
  k_extra "vst"
  refine V.cutFrom ?_
  k_extra "vst"
  refine ⟨BO, _, _, _, rfl, rfl, by omega, a7, fun y5 u5 _ z5 => ?_⟩
  k_extra "vst"
  refine V.cutTo ?_
  k_extra "vst"
  refine ⟨BO, _, _, _, rfl, rfl, by omega, by omega, fun y6 u6 _ z6 => ?_⟩
  k_extra "vst"
  refine V.addB (by omega) fun _ => ?_
  k_extra "vst"
  refine V.list fun ls hls => ?_
  k_extra "vst"
  refine V.hold S13 hls fun S14 => ?_
  k_extra "vst"
  refine V.draw S14 fun o9 n9 t9 S15 a9 b9 => ?_
  k_extra "vst"
  refine V.someItem 9000 (.tail _ (.head _)) a9 b9 ⟨by simp only [Array.size_append, byte1]; omega, by simp only [Array.size_append, byte1]; omega, by simp only [Array.size_append]; omega⟩ fun bd tb hbd => ?_
  have S16 := S15.tail S13.cells
  refine V.drop2 ?_
  clear S13 S14 S15 hls hsg hin a7 b7
  k_extra "vst"
  refine V.callS (c_strict _ _ bd tb hbd) rfl rfl (fun r hr => ?_)
  subst hr
  clear hbd
  k_extra "vst"
  exact law4 ho fin d3 hcv2 h12 S16 (by decide) hTc hR4 hok hn3 p5 rfl _ _ rfl
end
section
open PySem PySem.W PyProof.Rows
set_option maxRecDepth 100000 in
theorem law2 {w : World} {oc : Value} {od : Option Addr} {osl : Array (Option Value)} {name qual : Str} {params : Arguments} {body : List Stmt} {scope : Scope} {dV kV doc pm cdv ct : Value} {an : Option Addr}
    (ho : (hd.heap_1 w.params).lookup 334 = some ⟨oc, od, .func (fnOf name qual params body scope dV kV doc pm an cdv ct), osl⟩)
    {dk C c1 c2 : Addr} {o o3 w1 : Obj} {ks : List Int} {cv2 : Option Value} {l : Loc} {QQ : Flow → Loc → Led → Prop} (fin : ∀ l led, QQ (.ret (.bool true)) l led) (d3 : o3.data = Data.cell (some (Value.ref dk))) (hcv2 : w1.data = Data.cell cv2) (h12 : c1 ≠ c2)
    {T3 : Led} {q l10 : Addr} {ds : List Mine.D} {x : Str} {BO : Array UInt8} {tB tx : Tok} {vs10 mid : List Value} {v0 vz : Value} (S9 : DkR w dk C ks 0 ((c1, o3) :: (c2, w1) :: T3) o 311) (hTc : ∀ p ∈ T3, p.1 ≠ c2) (hR4 : DIn T3 (.ref q) (.tup ds)) (hok : RowsOk ds) (hn3 : ds.length ≤ 3) (p5 : ∀ d ∈ ds, RowOk d) (hB0 : 0 < BO.size) (hBz : BO.size ≤ 3000)
    (hvs : vs10 = v0 :: (mid ++ [vz])) (hmid : BytesAre mid (ds.map fun d => (valOct d).toArray)) (hml : mid.length = ds.length) (hrb : readP BO = .ok (x, ds)) (hOc : ∀ led p d t1 t2 rv t, (p, instObj 157 d) ∈ led → (d, progObj w t1 t2 rv x t) ∈ led → DIn led rv (.tup ds) → Con w 171 [.ref p] led 20 200 (RetB led BO))
    (hl0 : l.lookup (S1 "rows") = some (.ref q)) (hl1 : l.lookup (S1 "octets") = some (.bytes BO tB)) (hl2 : l.lookup (S1 "word") = some (.str x tx)) (hl3 : l.lookup (S1 "lines") = some (.ref l10)) :
    ∀ st rest, body.drop 6 = st :: rest → V w { cs := scope, dk := 100, uk := 1000, cl := [(S1 "shapes", c2), (S1 "deck", c1)], top := true } l ((l10, lst vs10 0) :: (dk, o) :: (c1, o3) :: (c2, w1) :: T3) (exec st) (seqQ w { cs := scope, dk := 100, uk := 1000, cl := [(S1 "shapes", c2), (S1 "deck", c1)], top := true } rest QQ) := by
  refine' law_lit ho ?h2 (P := fun sc bd => ∀ st rest, bd.drop 6 = st :: rest → V w { cs := sc, dk := 100, uk := 1000, cl := [(S1 "shapes", c2), (S1 "deck", c1)], top := true } l ((l10, lst vs10 0) :: (dk, o) :: (c1, o3) :: (c2, w1) :: T3) (exec st) (seqQ w { cs := sc, dk := 100, uk := 1000, cl := [(S1 "shapes", c2), (S1 "deck", c1)], top := true } rest QQ)) fun ho => ?h
  case h2 => k_is
  intro st rest e
  obtain ⟨rfl, rfl⟩ := List.cons.inj e
  clear e
  have hwt := hok.wts
  have hde := hok.deps
  refine V.names (ps := [(S1 "rows", .ref q), (S1 "octets", .bytes BO tB), (S1 "word", .str x tx), (S1 "lines", .ref l10)]) ?_ ?_
  · exact ⟨hl0, hl1, hl2, hl3, trivial⟩
  obtain ⟨rvs, rn, hrm, hrd⟩ := tup_at hR4
  have hrl := hrd.length
  refine V.compA (cl' := []) (fun _ _ _ _ => rfl) rfl (fun _ _ _ _ => rfl) (by decide) rfl rfl rfl (by decide) rfl rfl (fun _ _ => rfl) ?_
  k_extra "vst"
  refine V.midL ?_
  k_extra "vst"
  refine ⟨_, _, _, mid, _, _, _, _, rfl, rfl, rfl, .head _, hvs, by omega, fun D1 hD1 => ?_⟩
  clear hD1
  generalize hLL : (D1, lst mid 0) :: _ = LL
  obtain ⟨hm1, hm2, hm3⟩ := base3 hLL
  clear hLL
  refine ⟨rfl, _, _, _, fun i ys nx => (∀ p ∈ LL, p ∈ nx) ∧ Told nx ys (ds.take i), Src.list hm1 (by rw [sizeLine_eq]; omega), by omega, ⟨fun _ h => h, .nil⟩, ?_, ?_⟩
  · rintro i v ys nx I oI Cc oC D2 m₂ hi hv ⟨hsub, hT⟩ hC hx off ne
    obtain ⟨d, tv, hdm, htk, rfl⟩ := bytes_at hmid hv
    have hgd := goods_mem hok.good hdm
    have hdp := Mine.D.deps_mem hdm
    have hsz := val_size hdm
    k_extra "vst"
    refine V.callF (c_lpart w 5 d _ _ _ _ [] [] (by omega) hgd (by rw [List.size_toArray]; omega) (by rw [vI_bI]; simp) trivial) rfl rfl ?_
    rintro r9 led9 huniq ⟨q9, nq, v9, t9, new9, hn9, rfl, rfl, hD9⟩
    clear huniq
    rw [show (([] : List Int).length + (vI d).length : Nat) = (vI d).length from Nat.zero_add _] at hn9 ⊢
    exact ⟨rfl, (q9, tupOf [v9, .int ((vI d).length : Int) t9] nq) :: (new9 ++ nx), turn_mem, off3_new hn9 off, .tail _ (List.mem_append_right _ (hsub _ hm1)), fun p hp => .tail _ (List.mem_append_right _ (hsub p hp)),
      by have z := (hT.mono fun p hp => .tail _ (List.mem_append_right _ hp)).snoc (q := q9) (t := t9) (n := nq) (.head _) (hD9.mono fun p hp => .tail _ (List.mem_append_left (as := new9) nx hp)); rw [← htk] at z; exact z⟩
  rintro ys nx D2 ⟨hsub, hT⟩ off
  clear off
  refine ⟨_, fun _ h => h, ?_⟩
  rw [hml, List.take_length] at hT
  have hyl := hT.length
  have hT3 : ∀ p ∈ T3, p ∈ nx := fun p hp => hsub p (hm3 p (.tail _ (.tail _ (.tail _ hp))))
  k_extra "vst"
  refine V.each (cl' := []) (fun _ _ _ _ => rfl) (by decide) rfl rfl rfl (by decide) rfl rfl (fun _ _ => rfl) (fun i zs => DAll nx zs (ds.take i)) .nil ?_
  k_extra "vst"
  refine ⟨rfl, _, _, _, Src.list (.head _) (by rw [sizeLine_eq]; omega), by omega, fun _ h => h _ (.head _), ?_, ?_⟩
  · intro i v zs nx' oC Cc m₂ hi hv hJ hs hC hCm hxx
    obtain ⟨d, q9, n9, v9, t9, htk, rfl, hm9, hd9⟩ := hT.get hv
    k_extra "vst"
    exact V.tItem (hs _ (.tail _ hm9)) (by decide) (by decide) rfl ⟨rfl, fun _ h => h, by have z := hJ.append (.one hd9); rw [← htk] at z; exact z⟩
  intro zs D3 hzs _
  rw [hyl, List.take_length] at hzs
  k_extra "vst"
  refine V.reprL (.head _) (hzs.mono fun p hp => .tail _ (.tail _ hp)) hok.good (by omega) (by omega) fun _ => ?_
  k_extra "vst"
  refine V.listOfT (.tail _ (.tail _ (hT3 _ hrm))) (by omega) fun D4 c4 hD4 => ?_
  clear hD4
  k_extra "vst"
  refine V.reprL (.head _) (hrd.mono fun p hp => .tail _ (.tail _ (.tail _ (hT3 p hp)))) hok.good (by omega) (by omega) fun _ => ?_
  k_extra "vst"
  refine V.neStr ?_
  rw [bne_self_eq_false]
  refine V.drop (V.drop ?_)
  clear hzs
  k_extra "vst"
  refine V.each (cl' := []) (fun _ _ _ _ => rfl) (by decide) rfl rfl rfl (by decide) rfl rfl (fun _ _ => rfl) (fun i zs => IntsAre zs ((ds.take i).map fun d => ((vI d).length : Int))) .nil ?_
  k_extra "vst"
  refine ⟨rfl, _, _, _, Src.list (.head _) (by rw [sizeLine_eq]; omega), by omega, fun _ h => h _ (.head _), ?_, ?_⟩
  · intro i v zs nx' oC Cc m₂ hi hv hJ hs hC hCm hxx
    obtain ⟨d, q9, n9, v9, t9, htk, rfl, hm9, hd9⟩ := hT.get hv
    k_extra "vst"
    exact V.tItem (hs _ (.tail _ hm9)) (by decide) (by decide) rfl ⟨rfl, fun _ h => h, lens_snoc hJ htk⟩
  intro ls1 D5 hls1 _
  rw [hyl, List.take_length] at hls1
  k_extra "vst"
  refine V.each (cl' := []) (fun _ _ _ _ => rfl) (by decide) rfl rfl rfl (by decide) rfl rfl (fun _ _ => rfl) (fun i zs => IntsAre zs ((ds.take i).map fun d => ((vI d).length : Int))) .nil ?_
  k_extra "vst"
  refine V.midL ?_
  k_extra "vst"
  refine ⟨_, _, _, mid, _, _, _, _, rfl, rfl, rfl, .tail _ (.tail _ (hsub _ hm2)), hvs, by omega, fun D6 hD6 => ?_⟩
  clear hD6
  refine ⟨rfl, _, _, _, Src.list (.head _) (by rw [sizeLine_eq]; omega), by omega, fun _ h => h _ (.head _), ?_, ?_⟩
  · intro i v zs nx' oC Cc m₂ hi hv hJ hs hC hCm hxx
    obtain ⟨d, tv, hdm, htk, rfl⟩ := bytes_at hmid hv
    have hsz := val_size hdm
    have e9 : (valOct d).toArray.size = (vI d).length := by rw [← vI_bI, bI_len]
    k_extra "vst"
    refine V.bLen (by rw [List.size_toArray]; omega) fun t8 => ⟨rfl, fun _ h => h, ?_⟩
    rw [e9]
    exact lens_snoc hJ htk
  intro ls2 D7 hls2 _
  rw [hml, List.take_length] at hls2
  k_extra "vst"
  refine V.neInts (.tail _ (.tail _ (.head _))) (.head _) hls1 hls2 ?_
  refine V.drop (V.drop (V.drop (V.drop (V.sub (fun p hp => hsub p (hm3 p hp)) ?_))))
  clear hls1 hls2 hsub hT hyl hT3 hm1 hm2 hm3 hvs hmid hml
  k_extra "vst"
  refine V.callX (c_read w _ BO _ (by omega)) (fun n ⟨k, _, hk⟩ => by rw [hrb] at hk; cases hk) rfl rfl ?_
  rintro r2 led2 ⟨x2, ds2, p2, d2, t1, t2, rv, t3, new9, hread, rfl, rfl, hD⟩
  rw [hrb] at hread
  cases hread
  obtain ⟨ar, rvs2, rn2, rfl, hrm2, hrd2⟩ := tup_ref hD
  k_extra "vst"
  refine V.attr (.head _) (.tail _ (.head _)) (by k_is) (by k_is) (by k_is) (by k_is) (by k_get) rfl ?_
  k_extra "vst"
  refine V.tupSame (.tail _ (.tail _ hrm2)) ?_
  k_extra "vst"
  refine V.reprT (.tail _ (.tail _ hrm2)) (hrd2.mono fun p hp => .tail _ (.tail _ hp)) hok.good (by omega) (by omega) fun _ => ?_
  k_extra "vst"
  refine V.reprT (.tail _ (.tail _ (List.mem_append_right _ (.tail _ (.tail _ (.tail _ hrm)))))) (hrd.mono fun p hp => .tail _ (.tail _ (List.mem_append_right _ (.tail _ (.tail _ (.tail _ hp)))))) hok.good (by omega) (by omega) fun _ => ?_
  k_extra "vst"
  refine V.neStr ?_
  rw [bne_self_eq_false]
  k_extra "vst"
  refine V.attr (.head _) (.tail _ (.head _)) (by k_is) (by k_is) (by k_is) (by k_is) (by k_get) rfl ?_
  k_extra "vst"
  refine V.neStr ?_
  rw [bne_self_eq_false]
  k_extra "vst"
  refine V.callB (hOc _ p2 d2 t1 t2 _ t3 (.head _) (.tail _ (.head _)) (hD.mono fun z hz => .tail _ (.tail _ hz))) rfl rfl fun t9 => ?_
  k_extra "vst"
  refine V.bytesSelf ?_
  k_extra "vst"
  refine V.neBytes ?_
  rw [bne_self_eq_false]
  refine V.drop (V.drop (V.sub (fun p hp => List.mem_append_right _ hp) ?_))
  clear hD hrm2 hrd2 hOc hrb
  k_extra "vst"
  exact law3 ho fin d3 hcv2 h12 S9 hTc hR4 hok hn3 p5 hB0 hBz rfl rfl _ _ rfl
end
end
set_option maxHeartbeats 16000000
section
open PySem PySem.W PyProof.Rows
theorem ConB.use {w : World} {f : Addr} {vs : List Value} {led : Led} {dk uk : Nat} {Pre : Heap → Prop} {Out : Led → Value → Prop} (C : ConB w f vs led dk uk Pre Out)
    {mean : ExcName → Option Value} {mg mb : Str → Option Value} {dp un : Nat} {cn : Str} {cs : Scope} {a : Addr} {ccd : Value} {cl : List (Str × Addr)} {outer : List Env} {A₀ : Around} {base h₀ : Heap} {L : Addr} {m : Str → Option Value} {s : Shared}
    {Q E : Value → Shared → Prop} (P : Pre h₀) (B : Below A₀ base outer h₀) (F : Fr h₀ L s.heap m) (X : (hd.heap_1 w.params).In h₀) (N : News h₀ L s.heap led) (T : Top hd.view_39 LW mean mg mb h₀) (hk : cs.kind = .function) (hd : dp + dk < recursionLimit) (hu : un + uk < cLine)
    (ret : ∀ r led' h' tk', Fr h₀ L h' m → News h₀ L h' led' → Out led' r → Q r { s with heap := h', toks := tk' }) :
    wpAny (model PySem.Challenge.rw_nt0496_01.row.prog w) (ktrTop dp un (some []) cn cs L a ccd cl outer) (call (.ref f) vs) Q E s := C _ _ _ _ _ _ _ _ _ _ _ _ _ _ _ _ _ _ _ P B F X N T hk hd hu ret
theorem cells3 {h₀ h : Heap} {L dk C c2 c1 : Addr} {o oc w1 w0 o3 : Obj} {ks : List Int} (N : News h₀ L h [(dk, o), (C, oc), (c2, w1), (c1, o3)]) (hT : ∀ p ∈ [(C, oc), (c2, w1), (c1, w0)], p.1 ≠ dk) (hC : Cells [(C, oc)] C ks) (hTC : ∀ p ∈ [(c2, w1), (c1, w0)], p.1 ≠ C) :
    ∃ T : Led, News h₀ L h ((dk, o) :: (c1, o3) :: T) ∧ (∀ p ∈ T, p.1 ≠ dk) ∧ c1 ≠ dk ∧ Cells T C ks ∧ ∃ T', T = (c2, w1) :: T' ∧ (∀ p ∈ T', p.1 ≠ c2) := by
  refine ⟨[(c2, w1), (C, oc)], fun p hp => N p ?_, ?_, hT _ (.tail _ (.tail _ (.head _))), hC.mono fun p hp => .tail _ hp, _, rfl, ?_⟩
  · simp only [List.mem_cons, List.not_mem_nil, or_false] at hp ⊢
    rcases hp with h | h | h | h
    · exact .inl h
    · exact .inr (.inr (.inr h))
    · exact .inr (.inr (.inl h))
    · exact .inr (.inl h)
  · intro p hp
    rcases List.mem_cons.mp hp with e | hp
    · rw [e]; exact hT _ (.tail _ (.head _))
    · rw [List.mem_singleton.mp hp]; exact hT _ (.head _)
  · intro p hp
    rw [List.mem_singleton.mp hp]
    exact Ne.symm (hTC _ (.head _))
theorem cell_some {T T' : Led} {c2 : Addr} {w1 : Obj} {x : Option Value} (_ : T = (c2, w1) :: T') (d : w1.data = Data.cell x) : ∃ cv, w1.data = Data.cell cv := ⟨x, d⟩
set_option maxRecDepth 100000 in
theorem law_holds : PySem.Challenge.rw_nt0496_01.Holds := by
  w_top off
  k_with_none
  k_with "alne" => exact all_ne (by assumption)
  k_with "vm" => first | assumption | exact List.Mem.head _ | (refine List.Mem.tail _ ?_; k_extra "vm") | (refine List.mem_append_right _ ?_; k_extra "vm")
  k_with "vst" => repeat (first
    | ((fail_if_success (with_reducible show V _ _ _ _ _ _)); first | intro _ | refine (?_ : V _ _ _ _ _ _) | refine ite_tt ?_ | refine ite_ff ?_)
    | ((with_reducible show V _ _ _ _ (execs _) _); refine V.execs ?_)
    | ((with_reducible show V _ _ _ _ (eval _) _); first
      | refine V.eval (by rfl) ?_
      | ((with_reducible show V _ _ _ _ (eval (Expr.BoolOp _ _ _)) _); first | refine V.last ?_ | refine V.and ?_ | refine V.or ?_)
      | ((with_reducible show V _ _ _ _ (eval (Expr.IfExp _ _ _ _)) _); refine V.ifexp ?_)
      | ((with_reducible show V _ _ _ _ (eval (Expr.Compare _ [_] [_] _)) _); refine V.cmpE (by rfl) ?_)
      | ((with_reducible show V _ _ _ _ (eval (Expr.Name _ _)) _); refine' V.cell (by rfl) ?hm ?hd ?_; (case hm => k_extra "vm"); (case hd => assumption))
      | ((with_reducible show V _ _ _ _ (eval (Expr.Name _ _)) _); refine' V.own ?hm ?hC ?hv ?_; (case hm => k_extra "vm"); (case hC => assumption); (case hv => assumption)))
    | ((fail_if_success (fail_if_success (with_reducible show V _ _ _ _ (fun env => spliced (backTo _ (starEach _ env))) _))); refine V.args ?_)
    | ((with_reducible show V _ _ _ _ (fun env => isTrue _ env (eval _ env)) _); refine V.test (by rfl) ?_)
    | ((with_reducible show V _ _ _ _ (fun _ => binaryOp _ _ _) _); refine V.bin (by rfl) ?_)
    | ((with_reducible show V _ _ _ _ (fun _ => compareOp _ _ _) _); refine V.cmp (by rfl) ?_)
    | ((with_reducible show V _ _ _ _ (fun _ => truthy _) _); refine V.truthy (by rfl) ?_))
  k_with "eval ListComp" => (k_here; k_dflt (refine comp_W (by k_asm) (by rfl) (by decide) (by rfl) (by decide) (by rfl) ?_))
  k_with "exec Assign cons ListComp" => (k_here; k_dflt (refine comp_assign_W (by k_asm) (by rfl) (by with_unfolding_all rfl) (by rfl) (by decide) (by rfl) (by decide) (by rfl) (by rfl) (by rfl) ?_))
  k_with "pyIter bytes" => (k_here; k_dflt (refine go_bytes (by rfl) (by k_asm) (by k_asm) (by size_fits) (fun g => halt ?_)))
  k_with "pyIter str" => (k_here; k_dflt (refine go_str (by rfl) (by k_asm) (by k_asm) (by size_fits) (fun g => halt ?_)))
  k_with "pyIter ref" => (k_here; k_dflt (refine go_tuple (by rfl) (by k_asm) (by k_asm) (by k_extra "vm") (by size_fits) (fun g => halt ?_)))
  k_with "pyIter bytes" => ((with_reducible show wpAny _ _ (pyIter _) (fun it s₂ => LoopAtV _ _ _ _ _ _ _ _ _ it s₂) _ _); refine halt ?_)
  k_with "pyIter ref" => ((with_reducible show wpAny _ _ (pyIter _) (fun it s₂ => LoopAtV _ _ _ _ _ _ _ _ _ it s₂) _ _); refine halt ?_)
  k_with "call builtin:list.append" => (k_here; (with_reducible show wpAny _ _ (call (Value.builtin _) [Value.ref _, _]) _ _ _); k_dflt (refine' append_K ?k1 ?k2 ?k3 ?_ ?z; (case k1 => k_asm); (case k2 => k_asm); (case k3 => k_upd); (case z => first | (have hL9 := IntsAre.length (by assumption); (try simp only [Array.size_push, List.size_toArray, sizeLine_eq]); omega) | ((try simp only [Array.size_push, List.size_toArray, sizeLine_eq]); omega)); k_whole); intro h' F' N'; (try k_sweep))
  k_with "din" => first | assumption | (refine DIn.mono ?_ (by assumption); ktd_sub)
  k_with "call builtin:isinstance" => (k_here; k_dflt (refine isi_str (by k_asm) (by k_asm) (by k_asm) (by walk_at "din") ?_); intro tk)
  k_with "call builtin:isinstance" => (k_here; k_dflt (refine isi_tuple (by k_asm) (by k_asm) (by k_asm) (by walk_at "din") ?_); intro tk)
  k_with "call builtin:isinstance" => (k_here; k_dflt (refine isi_bytes (by k_asm) (by k_asm) (by k_asm) (by walk_at "din") ?_); intro tk)
  k_with "call builtin:isinstance" => (k_here; k_dflt (refine isi_bool (by k_asm) (by k_asm) (by k_asm) (by walk_at "din") ?_); intro tk)
  k_with "call builtin:isinstance" => (k_here; k_dflt (refine isi_int (by k_asm) (by k_asm) (by k_asm) (by walk_at "din") ?_); intro tk)
  k_with "compareOp Eq" => (k_here; k_dflt (refine eqS (by ktr_units) (by k_asm) (by walk_at "din") ?_))
  k_with "compareOp In" => (k_here; k_dflt (refine inS_K (by ktr_units) (by k_asm) (by k_asm) (by k_asm) (by walk_at "din") (by k_is) (by repeat' constructor) ?_))
  k_with "compareOp NotIn" => (k_here; k_dflt (refine notInS_K (by ktr_units) (by k_asm) (by k_asm) (by k_asm) (by walk_at "din") (by k_is) (by repeat' constructor) ?_))
  k_with "compareOp Is" => (k_here; k_dflt (refine isN (by walk_at "din") ?_))
  k_with "compareOp NotEq" => (k_here; k_dflt (refine neS (by ktr_units) (by k_asm) (by walk_at "din") ?_))
  k_with "call builtin:len" => (k_here; k_dflt (refine lenD (by k_asm) (by k_extra "vm") (by assumption) (by omega) ?_); intro t' tk)
  k_with "ditem" => first | omega | (simp only [Int.toNat_ofNat]; omega) | (simp_all; omega)
  k_with "subscriptTail" => (k_here; (with_reducible show wpAny _ _ (subscriptTail _ _ (Value.ref _) (Value.int _ _)) _ _ _); (with_unfolding_all refine itemD (by k_asm) (by k_extra "vm") (by assumption) (by walk_at "ditem") (by walk_at "ditem") (by omega) ?_ (by with_unfolding_all rfl)); intro v' hD'; (try simp only [Int.reduceToNat] at hD'))
  k_with "enterC" => (refine' code_defC ?k1 ?k2 ?k3 ?k4 ?k5 ?kA ?kF ?kK ?k6 ?k7 ?k8 ?k9 ?kB ?kD ?_ ?c2 ?c3 ?c4; (case kA => exact rfl); (case kF => exact rfl); (case kK => assumption); (case k1 => k_asm); (case k2 => k_asm); (case k3 => k_asm); (case k4 => k_asm); (case k5 => k_asm); (case k6 => k_is); (case k7 => k_is); (case k8 => ktr_room); (case k9 => exact BindsTo.of_eq rfl); (case kB => exact rfl); (case kD => decide +kernel); (case c2 => exact rfl); (case c3 => exact rfl); (case c4 => exact rfl); k_whole; intro g' L' h' tk' cells' FG' F' N' Y' B' X' T' l1; (try k_lt l1); k_cells Y'; (try simp only [List.cons_append, List.nil_append] at N'); (try dsimp only); (try k_lift B'); (try k_fold))
  k_with "call builtin:isinstance" => (k_here; (with_reducible show wpAny _ _ (call (Value.builtin _) [Value.ref _, Value.type _]) _ _ _); k_dflt (refine isi_tup1 (by k_asm) (by k_asm) (by k_asm) (by k_extra "vm") ?_); intro tk)
  k_with "wt" => first | assumption | omega | (simp only [D.wt, D.wts] at *; omega)
  k_with "eval Dict" => (k_here; k_dflt (refine' kdn_str ?q ?F ?N ?b ?a ?l ?e ?n ?_; (case q => rfl); (case F => k_asm); (case N => first | k_asm | exact News.nil); (case b => exact Top.nolimit (by k_asm)); (case a => rfl); (case l => rfl); (case e => exact List.cons_ne_nil _ _); (case n => exact Nat.le_of_ble_eq_true rfl)); intro d' h' o' F' N' l1 lo' hd'; (try k_lt l1))
  k_with "KdnMade" => (k_here; k_dflt (refine' kdn_made_str ?F ?N ?U ?d ?k ?n ?_; (case F => k_asm); (case N => k_asm); (case U => k_updF); (case d => k_asm); (case k => rfl); (case n => exact of_decide_eq_true (by first | rfl | kernel_rfl!))); intro h' o' F' N' hd')
  k_with "shp" => first | assumption | (refine ShapesIn.mono ?_ (by assumption); ktd_sub)
  k_with "subscriptTail" => (k_here; (with_reducible show wpAny _ _ (subscriptTail _ _ (Value.ref _) (Value.str (Str.ofString "cells") _)) _ _ _); k_dflt (refine deck_cells (by k_asm) (by walk_at "lmem") (by assumption) ?_))
  k_with "subscriptTail" => (k_here; (with_reducible show wpAny _ _ (subscriptTail _ _ (Value.ref _) (Value.str (Str.ofString "at") _)) _ _ _); k_dflt (refine deck_at (by k_asm) (by walk_at "lmem") (by assumption) ?_; intro _))
  k_with "setItem ref str" => (k_here; k_dflt (refine deck_set2 (by k_asm) (by k_asm) (by assumption) (by assumption) ?_); intro h' o' F' N' hdk')
  k_with "subscriptTail" => (k_here; (with_reducible show wpAny _ _ (subscriptTail _ _ (Value.ref _) (Value.int _ _)) _ _ _); k_dflt (refine cell_item (by k_asm) (by walk_at "lmem") (by assumption) (by assumption) (by omega) (by omega) (by omega) ?_); intro _ bLo bHi)
  k_with "call builtin:len" => (k_here; (with_reducible show wpAny _ _ (call (Value.builtin "len") [Value.ref _]) _ _ _); k_dflt (refine lstLen (by k_asm) (by walk_at "lmem") (by omega) ?_); intro _ _)
  k_with "lmem" => first | assumption | exact List.Mem.tail _ (by assumption) | exact List.Mem.tail _ (List.Mem.tail _ (by assumption)) | exact .head _ | exact .tail _ (.head _) | exact .tail _ (.tail _ (.head _)) | exact .tail _ (.tail _ (.tail _ (.head _))) | exact List.Mem.tail _ (List.Mem.tail _ (List.Mem.tail _ (by assumption)))
  k_with "out1" => first | exact Out1.head | exact Out1.tail Out1.head | exact Out1.tail (Out1.tail Out1.head) | exact Out1.tail (Out1.tail (Out1.tail Out1.head)) | exact Out1.tail (Out1.tail (Out1.tail (Out1.tail Out1.head))) | exact Out1.tail (Out1.tail (Out1.tail (Out1.tail (Out1.tail Out1.head)))) | exact Out1.tail (Out1.tail (Out1.tail (Out1.tail (Out1.tail (Out1.tail Out1.head))))) | exact Out1.tail (Out1.tail (Out1.tail (Out1.tail (Out1.tail (Out1.tail (Out1.tail Out1.head)))))) | exact Out1.tail (Out1.tail (Out1.tail (Out1.tail (Out1.tail (Out1.tail (Out1.tail (Out1.tail Out1.head)))))))
  k_with "dcell" => first | assumption | (refine Cells.mono (by assumption) ?_; ktd_sub)
  k_with "call type:range" => (k_here; (with_reducible rename Fr _ _ _ _ => F'); (with_reducible rename News _ _ _ _ => N'); k_dflt (refine range1_rows F' N' ?_); intro h' tk' t₁ u₁ v₁ hR' F' N' hK'; clear hK')
  k_with "pyIter ref" => (k_here; (with_reducible show wpAny _ _ (pyIter _) (CompGo _ _ _ _ _ _ _ _ _ _ _ _) _ _); refine halt ?_)
  k_with "dall" => first | assumption | (refine' List.forall_mem_cons.mpr ⟨?a, ?b⟩; (case a => k_ne); (case b => walk_at "dall"))
  k_with "subscriptTail" => (k_here; (with_reducible show wpAny _ _ (subscriptTail (Expr.List _ _) _ (Value.ref _) (Value.int _ _)) _ _ _); k_dflt (refine menuStr (by k_asm) (by walk_at "lmem") (by first | (repeat' constructor) | constructor) (by omega) (by (simp only [List.length_cons, List.length_nil]; omega)) (by decide) ?_); intro t' x' hx')
  k_with "ledsub" => first | exact fun _ h => h | ktd_sub | (intro p hp; (simp only [List.mem_cons, List.mem_append, List.not_mem_nil, or_false, false_or] at hp ⊢); grind)
  k_with "fresh9" => ((rename @LT.lt Nat _ _ _ ∧ _ => l9); intro p9 hp9; (repeat (first | exact Nat.ne_of_lt (allLt_mem l9 p9 hp9) | (obtain ⟨x9, l9⟩ := l9))))
  k_with "call ref" => (refine halt ?_)
  k_with "enter9" => (refine' code_def ?k1 ?k2 ?k3 ?k4 ?k5 ?kA ?kF ?kK ?k6 ?k7 ?k8 ?k9 ?kB ?_ ?c2 ?c3 ?c4 ?c5; (case kA => exact rfl); (case kF => exact rfl); (case kK => first | exact rfl | assumption); (case k1 => k_asm); (case k2 => k_asm); (case k3 => k_asm); (case k4 => k_asm); (case k5 => k_asm); (case k6 => k_is); (case k7 => k_is); (case k8 => ktr_room); (case k9 => first | exact BindsTo.of_eq rfl | exact binds_K (by k_in) rfl (by k_is) rfl rfl rfl); (case c5 => decide); (case kB => exact locs rfl); (case c2 => exact rfl); (case c3 => exact rfl); (case c4 => exact rfl); k_whole; intro g' L' h' FG' F' N' B' X' T'; (try dsimp only); (try k_lift B'); (try k_fold))
  k_with "call type:bytes" => (k_here; (with_reducible show wpAny _ _ (call (Value.type "bytes") [Value.bytes _ _]) _ _ _); refine bytes_self ?_)
  k_with "call builtin:bytes.split" => (refine halt ?_)
  k_with "getMethod bytes" => (k_here; refine m_split ?_)
  k_with "subscriptTail" => (k_here; (with_reducible show wpAny _ _ (subscriptTail (Expr.Name (Str.ofString "lines") _) _ _ _) _ _ _); refine halt ?_)
  k_with "call type:tuple" => refine halt ?_
  k_with "storeName" => (k_here; (with_reducible show wpAny _ _ (storeName _ (Str.ofString "deck") _) _ _ _); refine halt ?_)
  k_with "storeName" => (k_here; (with_reducible show wpAny _ _ (storeName _ (Str.ofString "shapes") _) _ _ _); refine halt ?_)
  k_with "subscriptTail Name UnaryOp ref int" => (k_here; (with_reducible show wpAny _ _ (subscriptTail (Expr.Name (Str.ofString "lines") _) _ _ _) _ _ _); refine halt ?_)
  k_with "subscriptTail Name Constant ref int" => (k_here; (with_reducible show wpAny _ _ (subscriptTail (Expr.Name (Str.ofString "lines") _) _ _ _) _ _ _); refine halt ?_)
  k_with "subscriptTail Name Call ref int" => (k_here; (with_reducible show wpAny _ _ (subscriptTail (Expr.Name (Str.ofString "lines") _) _ _ _) _ _ _); refine halt ?_)
  k_with "subscriptTail Name Slice ref ref" => (k_here; (with_reducible show wpAny _ _ (subscriptTail (Expr.Name (Str.ofString "lines") _) _ _ _) _ _ _); refine halt ?_)
  refine hd fun w s₀ s₁ mg mb G Y fa o pm cd doc dV kV ho hd1 hcd hD hmg hg args vals as hpre hlay hrd hwl hlo => ?_
  have KX := kIn_of Y
  refine Ground.open G fun T B D TE TW => ?_
  obtain ⟨_, _, he, B0⟩ := based_of_top T rfl hmg ho hd1
  obtain rfl : cd = _ := he
  clear hmg D
  wrow_args hpre hlay hrd hwl hlo
  refine enter_call ?_
  w_top on
  refine codeAny_mono ?_ fun _ _ g => GoodW.toG g
  have K0 := below_caller (Top.heap T)
  w_call any ho hd1 hcd hD T F
  clear hd1
  k_drop
  rename Top _ _ _ _ _ _ => Tp
  rename ReadsAll _ _ _ _ => ra
  rename IntsAre _ _ => hI
  rename Heap.IsList _ _ _ => hL
  rename Fr _ _ _ _ => F0
  rename News _ _ _ _ => N0
  rename CellsAre _ _ _ => X0
  rename Below _ _ _ _ => K0
  rename Frag.In _ _ => KX
  rename ¬ _ < _ => hcond
  rename Ground _ _ _ _ _ _ _ _ _ => G
  rename TopE _ _ _ _ => TE
  rename TopW _ _ _ => TW
  rename ReadsAllW _ _ _ _ _ _ => rw1
  rename Well _ _ _ _ => w1
  rename PySem.Reads _ _ _ _ => r0
  rename Hook.says _ _ _ => Y
  clear G TE TW rw1 w1 r0 Y ra X0
  k_steps
  refine ⟨?_⟩
  rename Fr _ _ _ _ => F1
  rename News _ _ _ _ => N1
  rename Heap.CodeRec _ _ _ => hcd
  rename _ = Data.cell _ => dd1
  rename _ = Data.cell _ => dd2
  refine ConB.use (c_deck _ _ _ _ hI (by omega) _) hL K0 F1 KX N1 Tp rfl (by decide) (by decide) ?_
  clear F1 N1 hcd hI hL hcond
  rintro r led' h' tk' F2 N2 ⟨dk, C, o, oc, ks, rfl, rfl, hdk, hC, hT, hTC⟩
  k_steps
  refine ⟨?_⟩
  refine storeX_C F2 N2 rfl (.tail (Ne.symm (hT _ (.tail _ (.tail _ (.head _))))) (.tail (Ne.symm (hTC _ (.tail _ (.head _)))) (.tail (Nat.succ_ne_self _) (.head fun _ h => nomatch h)))) dd2 ?_
  intro h3 o3 F3 N3 d3
  clear F2 N2 dd2
  obtain ⟨T, N4, hT3, hclk, hC3, T', hTe, hT'⟩ := cells3 N3 hT hC hTC
  clear N3 hT hC hTC
  obtain ⟨cv2, hcv2⟩ := cell_some hTe (by assumption)
  subst hTe
  refine V.enter (cl := [(S1 "shapes", _), (S1 "deck", _)]) ?ll 100 1000 K0 KX Tp F3 N4 ?e1 ?e2 ?e3 ?e4 ?e5 ?e6 ?e7
  case e1 => refine bindL_1 ?_; rfl
  case e2 => rfl
  case e3 => rfl
  case e4 => rfl
  case e5 => decide
  case e6 => decide
  rename World => wW
  intro QQ hQQ
  have fin : ∀ l led, QQ (.ret (.bool true)) l led := fun l led => hQQ _ _ _ fun h9 tk9 F9 N9 => by k_steps
  clear hQQ K0 KX Tp F3 N4
  rename Dflts _ _ _ _ _ _ => hDf
  rename Tables _ _ _ _ => hTb
  rename Obj.data _ = Data.cell (bindC _ _ _ _) => hBc
  clear hDf hTb hBc
  have S := DkR.of (T := (_, o3) :: (_, _) :: T') (List.forall_mem_cons.mpr ⟨hclk, hT3⟩) hdk (hC3.mono fun p hp => .tail _ hp) (by decide) (by decide)
  clear hT3 hC3 hdk hclk
  k_extra "vst"
  refine V.turns (dk := dk) (C := C) (ns := ks) (i := 0) (cl' := [(Str.ofString "deck", _)]) (fun _ _ _ _ => rfl) (by decide) rfl rfl rfl (by decide) rfl rfl (fun _ _ => rfl) 100 RowOk ?_
  k_extra "vst"
  refine V.draw S fun o4 m4 t4 S4 a4 b4 => ?_
  obtain ⟨m, rfl⟩ := Int.eq_ofNat_of_zero_le a4
  k_extra "vst"
  refine V.range1 fun a t u v ha => ⟨rfl, a, m, t, u, v, o4, _, _, rfl, .head _, by omega, fun _ h => .tail _ h, S4, ?_, ?_⟩
  · intro n1 o1 R' Cc hn SR hR
    have hcm : (_, o3) ∈ (dk, o1) :: R' := .tail _ (hR _ (.head _))
    k_extra "vst"
    refine V.kept SR (fun j a b c => c_lrow _ dk C o1 j ks R' SR.off a SR.cells b (by omega)) fun o4 n4 r4 e4 S4 w4 v4 p4 => ?_
    exact ⟨rfl, o4, n4, e4, fun _ h => h, S4, w4, v4, p4⟩
  intro o5 new ys ds D S5 w5 vs5 p5 hl5 hD
  k_extra "vst"
  refine V.tupleOf (.head _) (by rw [vs5.length]; omega) fun q hq => ?_
  obtain ⟨T3, hR4, hTc, S6, hs6⟩ := rowsN hq w5 hT' S5 vs5
  refine V.sub hs6 ?_
  have hok := rowsOk p5
  have hn3 : ds.length ≤ 3 := by omega
  have hwt := hok.wts
  have hde := hok.deps
  have S6 := S6.more (K' := 310) (by omega)
  clear S5 w5 vs5 hs6 hq S S4 hT'
  k_extra "vst"
  refine V.hold S6 (by assumption) fun S7 => ?_
  k_extra "vst"
  refine V.draw S7 fun o6 n6 t6 S8 a6 b6 => ?_
  k_extra "vst"
  refine V.menu (.tail _ (.head _)) (by repeat' constructor) a6 b6 fun tx x hx5 => ?_
  have S9 := S8.tail S6.cells
  have hx7 := word_ok x (word_in hx5 a6 b6)
  have hxc : ∀ c ∈ x.cps.toList, c < 256 := fun c hc => by
    have := List.all_eq_true.mp hx7.1 c hc
    simp only [Bool.and_eq_true, decide_eq_true_eq] at this
    omega
  refine V.drop2 ?_
  clear S6 S7 S8 hx5
  k_extra "vst"
  refine V.call (c_prog _ _ _ x tx) rfl rfl ?_
  rintro r led' ⟨p8, d8, t1, t2, rfl, rfl, _, _⟩
  k_extra "vst"
  refine V.callB (c_octs _ _ p8 d8 t1 t2 tx _ x ds (.head _) (.tail _ (.head _)) (hR4.mono fun p hp => .tail _ (.tail _ (.tail _ (.tail _ (.tail _ hp))))) (by omega) (goods_asc ds hok.good) (by omega) (by omega) hxc) rfl rfl fun t9 => ?_
  k_extra "vst"
  refine V.bytesSelf ?_
  refine V.drop (V.drop ?_)
  have hbz := prog_size hok hn3 hx7.2
  have hpc := prog_pieces hx7.1 hok.good
  k_extra "vst"
  refine V.bmeth "bytes.split" _ (fun _ => rfl) rfl ?_
  k_extra "vst"
  refine ⟨BM.split, ?_⟩
  k_extra "vst"
  refine V.splitB (prog_sz hbz) (by rw [hpc]; simp; omega) fun l10 vs10 hl10 hv10 => ?_
  rw [hpc] at hv10
  obtain ⟨t0, mid, tz, hvs, hmid⟩ := bytes_lines hv10
  have hml : mid.length = ds.length := by rw [hmid.length, List.length_map]
  clear hv10 hpc
  have hB0 : 0 < (progOct x ds).toArray.size := by rw [List.size_toArray]; exact prog_pos x ds
  have hBz : (progOct x ds).toArray.size ≤ 3000 := by rw [List.size_toArray]; exact hbz
  have hrb := read_back hx7.1 hok.good hok.isr
  have hOc : ∀ led p d t1 t2 rv t, (p, instObj 157 d) ∈ led → (d, progObj wW t1 t2 rv x t) ∈ led → DIn led rv (.tup ds) → Con wW 171 [.ref p] led 20 200 (RetB led ((progOct x ds).toArray)) := fun led p d t1 t2 rv t h1 h2 h3 => c_octs wW led p d t1 t2 t rv x ds h1 h2 h3 (by omega) (goods_asc ds hok.good) (by omega) (by omega) hxc
  generalize (progOct x ds).toArray = BO at *
  clear hbz
  k_extra "vst"
  refine V.lLast (.head _) (last_of hvs) ?_
  k_extra "vst"
  refine V.neBytes ?_
  k_extra "vst"
  refine V.lItem (.head _) (by decide) (by decide) (first_of hvs) ?_
  k_extra "vst"
  refine V.each (cl' := []) (fun _ _ _ _ => rfl) (by decide) rfl rfl rfl (by decide) rfl rfl (fun _ _ => rfl) (fun i ys => IntsAre ys ((x.cps.toList.take i).map fun (c : Nat) => (c : Int))) .nil ?_
  k_extra "vst"
  refine ⟨rfl, _, _, _, Src.str (by rw [sizeLine_eq]; omega), by omega, fun _ _ => trivial, ?_, ?_⟩
  · rintro i v ys nx oC Cc m₂ hi ⟨c, u, hc, rfl⟩ hJ hs hC hCm hxx
    k_extra "vst"
    refine V.ord fun _ => ⟨rfl, fun _ h => h, ?_⟩
    have e : x.cps.toList[i]? = some c := by simpa using hc
    rw [List.take_add_one, e]
    simpa using hJ.append (.cons _ _ .nil)
  intro zs D9 hzs _
  have e : x.cps.toList.take x.cps.size = x.cps.toList := List.take_of_length_le (by simp)
  rw [e] at hzs
  k_extra "vst"
  refine V.bytesOf (.head _) hzs (bytes_take hx7.1 rfl) (by rw [List.length_map, Array.length_toList]; omega) fun _ => ?_
  k_extra "vst"
  refine V.addB (by simp only [byteArr_size0, List.length_map, Array.length_toList, List.size_toArray, List.length_cons, List.length_nil]; omega) fun _ => ?_
  rw [head_is hx7.1]
  k_extra "vst"
  refine V.neBytes ?_
  rw [bne_self_eq_false]
  refine V.drop ?_
  clear hzs e
  k_extra "vst"
  refine' law2 (w := wW) ?ho fin d3 hcv2 (Nat.ne_of_lt (Nat.lt_succ_self _)) S9 hTc hR4 hok hn3 p5 hB0 hBz hvs hmid hml hrb hOc rfl rfl rfl rfl _ _ ?hE9
  case ho => k_is
  case hE9 => rfl
end
end
end Mine
set_option maxRecDepth 100000 in
theorem PySem.Challenge.cw_nt0496_01_holds : PySem.Challenge.rw_nt0496_01.Holds := by
  exact Mine.law_holds
