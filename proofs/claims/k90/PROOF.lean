import PyProof.Rows.All
import Wide.All
import OpenK.AllK
import Wide.FinOn
import HandS.ForMost
import HandS.Codes
import HandS.TupSets
import HandS.TupAny
import HandS.TupLe
import HandS.Style
import HandS.OwnEq
import HandS.Conv
import PySem.Challenge.RW_translatory_k90_whole_one_machine_for_ea
set_option Elab.async false
set_option linter.all false
set_option maxRecDepth 100000
set_option maxHeartbeats 4000000
/-! ### the text by places -/
namespace K9
open PySem PySem.Spec PyProof.Rows L2
def top (i : Nat) : Stmt := PySem.Challenge.pw_translatory_k90_whole_one_machine_for_ea.main.body.getD i (.Pass ⟨0, 0, 0, 0⟩)
abbrev sPower : Stmt := top 6
abbrev sInit : Stmt := inClass (top 10) 0
abbrev sEq : Stmt := inClass (top 10) 1
abbrev sRule : Stmt := inClass (top 10) 2
abbrev sChkS : Stmt := top 13
abbrev sCount : Stmt := top 14
abbrev sChkI : Stmt := top 15
abbrev sRuleFor : Stmt := top 16
abbrev sMachAt : Stmt := top 17
abbrev sIdxOf : Stmt := top 18
abbrev sCell : Stmt := top 20
abbrev sDraws : Stmt := top 21
abbrev sRules : Stmt := top 22
abbrev sLaw : Stmt := top 23
/-- what the class and the module's names are behind the top -/
structure Txt (K : PySem.W.Frag) (mg : Str → Option Value) (C : Addr) : Prop where
  cl : Cls K C
  nS : NoAttr K C "states"
  nY : NoAttr K C "symbols"
  nT : NoAttr K C "table"
  nR : NoAttr K C "rules"
  mgC : mg "Turing" = some (.ref C)
  ic : C8.InsC K C
  mkC : PySem.W.makesIn K C = true
  kC : PySem.W.keepIn K (.ref C) = true
  len : mg "len" = none
  abs : mg "abs" = none
  int : mg "int" = none
  range : mg "range" = none
  tuple : mg "tuple" = none
  sorted : mg "sorted" = none
  list : mg "list" = none
  isi : mg "isinstance" = none
  cT : ∃ t, mg "MOST_STATES_turing" = some (.int 20000 t)
  cY : ∃ t, mg "MOST_SYMBOLS" = some (.int 400 t)
  cS : ∃ t, mg "MOST_STATES_census" = some (.int 6 t)
/-- the law's promise -/
def spLaw (K : PySem.W.Frag) : Sp := fun vs H Q _ => ∃ (a : Addr) (ns : List Int), vs = [.ref a] ∧ SqL K H a (ns.map V.int) ∧ ns.length ≤ 63 ∧ ∀ H', Q (.bl true) H'
end K9

/-! ### rules of our own: sorted over tuples whose ints may be -1; sorted of a dict with tuple keys; == by an own __eq__ with both answers -/
namespace K9
open PySem PySem.Spec PyProof.Rows L2
/-- the rank of a tuple of small ints, -1 at least -/
def sh1 (ns : List Int) : List Int := ns.map fun m => m + 1
def rk (ns : List Int) : Int := TS.code 4096 (sh1 ns)
def Bd1 (ns : List Int) : Prop := ∀ m, m ∈ ns → -1 ≤ m ∧ m < 4000
theorem bd_sh {ns : List Int} (h : Bd1 ns) : TS.Bd 4096 (sh1 ns) := fun m hm => by
  obtain ⟨z, hz, rfl⟩ := List.mem_map.mp hm
  obtain ⟨a, b⟩ := h z hz
  constructor <;> omega
theorem Bd1.tl {x : Int} {r : List Int} (h : Bd1 (x :: r)) : Bd1 r := fun m hm => h m (List.mem_cons_of_mem _ hm)
theorem sh_len {r q : List Int} (hl : r.length = q.length) : (sh1 r).length = (sh1 q).length := by
  unfold sh1
  rw [List.length_map, List.length_map, hl]
theorem rk_lt {x y : Int} {r q : List Int} (hl : r.length = q.length) (hr : Bd1 r) (hq : Bd1 q) (h : x < y) : rk (x :: r) < rk (y :: q) :=
  TS.code_lt (B := 4096) (d := x + 1) (e := y + 1) (sh_len hl) (bd_sh hr) (bd_sh hq) (by omega)
theorem rk_same {x : Int} {r q : List Int} (hl : r.length = q.length) : rk (x :: r) < rk (x :: q) ↔ rk r < rk q :=
  TS.code_same (B := 4096) (d := x + 1) (sh_len hl)
theorem rk_inj : ∀ {r q : List Int}, r.length = q.length → Bd1 r → Bd1 q → rk r = rk q → r = q
  | [], [], _, _, _, _ => rfl
  | [], _ :: _, hl, _, _, _ => by simp at hl
  | _ :: _, [], hl, _, _, _ => by simp at hl
  | x :: r, y :: q, hl, h1, h2, e => by
    have hl' : r.length = q.length := by simpa using hl
    rcases Int.lt_trichotomy x y with c | c | c
    · have := rk_lt hl' h1.tl h2.tl c
      omega
    · subst c
      have a1 := rk_same (x := x) hl'
      have a2 := rk_same (x := x) hl'.symm
      have e2 : rk r = rk q := by
        have n1 : ¬ rk r < rk q := fun z => by have := a1.mpr z; omega
        have n2 : ¬ rk q < rk r := fun z => by have := a2.mpr z; omega
        omega
      rw [rk_inj hl' h1.tl h2.tl e2]
    · have := rk_lt hl'.symm h2.tl h1.tl c
      omega
section
variable {prog : Program} {w : World} {A : Around} {E : Value → Shared → Prop} {s : Shared}
theorem lexS {Q : Bool → Shared → Prop} {b : Bool} {us vs : List Value} {ns ms : List Int} (i : Nat) (hu : IntsAre us ns) (hv : IntsAre vs ms) (hl : ns.length = ms.length) (h1 : Bd1 ns) (h2 : Bd1 ms)
    (q : Q (decide (rk ns < rk ms)) s) : PySem.W.KatLex prog w A b false Q (us.zip vs) i s := by
  induction hu generalizing vs ms i with
  | nil =>
    cases hv with
    | nil =>
      have e : decide (rk [] < rk []) = false := decide_eq_false (Int.lt_irrefl _)
      rw [e] at q
      exact PySem.W.kat_nil q
    | cons x t hx => simp at hl
  | @cons x t us ns hu ih =>
    cases hv with
    | nil => simp at hl
    | @cons y u vs ms hv =>
      have hl' : ns.length = ms.length := by simpa using hl
      show PySem.W.KatLex prog w A b false Q ((Value.int x t, Value.int y u) :: us.zip vs) i s
      refine PySem.W.kat_cons (wpAny_eqBool_int ?_)
      by_cases e : x = y
      · subst e
        rw [beq_self_eq_true]
        rw [show decide (rk (x :: ns) < rk (x :: ms)) = decide (rk ns < rk ms) from decide_eq_decide.mpr (rk_same hl')] at q
        refine PySem.W.kat_yes ?_
        first
          | exact ih (i + 1) hv hl' h1.tl h2.tl q
          | exact ih _ _ (i + 1) hv hl' h1.tl h2.tl q
      · rw [show (x == y) = false from beq_eq_false_iff_ne.mpr e]
        refine PySem.W.kat_no (TS.oneLt_ints _ ?_)
        have c : decide (rk (x :: ns) < rk (y :: ms)) = decide (x < y) := by
          refine decide_eq_decide.mpr ⟨fun z => ?_, fun z => rk_lt hl' h1.tl h2.tl z⟩
          rcases Int.lt_trichotomy x y with k | k | k
          · exact k
          · exact absurd k e
          · have := rk_lt hl'.symm h2.tl h1.tl k
            omega
        rw [c] at q
        exact q
/-- each value is a tuple of d small ints -/
def OkS (h : Heap) (d : Nat) (vs : List Value) : Prop := ∀ v, v ∈ vs → ∃ ns, TS.TupInts h v ns ∧ ns.length = d ∧ Bd1 ns
theorem OkS.keeps {h h' : Heap} {d : Nat} {vs : List Value} (x : OkS h d vs) (k : ∀ b o, h.get? b = some o → o.cls = .type "tuple" → h'.get? b = some o) : OkS h' d vs := fun v hv => by
  obtain ⟨ns, t, r⟩ := x v hv
  exact ⟨ns, t.keeps k, r⟩
theorem firstS {h : Heap} {d : Nat} (hd : 1 ≤ d) : ∀ vs : List Value, OkS h d vs → ∃ fs, PySem.W.KatTups h vs fs ∧ fs.length = vs.length ∧ ∀ f, f ∈ fs → ∃ n t, f = Value.int n t
  | [], _ => ⟨[], PySem.W.KatTups.nil, rfl, fun f hf => absurd hf (by simp)⟩
  | v :: vs, x => by
    obtain ⟨fs, k, hl, hi⟩ := firstS hd vs fun u m => x u (List.mem_cons_of_mem _ m)
    obtain ⟨ns, ⟨a, xs, rfl, ⟨o, ho, hc, n, hdt⟩, ii⟩, hn, _⟩ := x v List.mem_cons_self
    have hpos : 0 < xs.toList.length := by
      have l := ii.length
      omega
    obtain ⟨y, ys, e⟩ : ∃ y ys, xs.toList = y :: ys := by
      cases q : xs.toList with
      | nil => rw [q] at hpos; exact absurd hpos (by simp)
      | cons y ys => exact ⟨y, ys, rfl⟩
    obtain ⟨m, t, hy⟩ := ii.all y (by rw [e]; exact List.mem_cons_self)
    have z : xs[0]? = some y := by
      have z := congrArg (fun l : List Value => l[0]?) e
      simpa using z
    refine ⟨y :: fs, PySem.W.KatTups.cons ho hc hdt z k, by simp [hl], fun f hf => ?_⟩
    rcases List.mem_cons.mp hf with rfl | hf
    · exact ⟨m, t, hy⟩
    · exact hi f hf
theorem kindS {d : Nat} {vs : List Value} (hd : 1 ≤ d) (h2 : 2 ≤ vs.length) (x : OkS s.heap d vs) (r : Value → Int) (hr : ∀ v, v ∈ vs → ∀ ns, TS.TupInts s.heap v ns → r v = rk ns) (Q : SortKind → Shared → Prop)
    (h : ∀ κ, TS.Cmp prog w A s κ (pairsOf vs) r → Q κ s) : wpAny (model prog w) A (keyKind' vs.toArray) Q E s := by
  obtain ⟨fs, k, hl, hi⟩ := firstS hd vs x
  refine PySem.W.kat_kind (T := Value.type "int") k (by omega) (fun f hf => ?_) rfl (h _ ?_)
  · obtain ⟨n, t, rfl⟩ := hi f hf
    exact PySem.W.Looks.of_pure rfl
  · intro p q hp hq Q' E' hQ
    rw [pairsOf_toList] at hp hq
    obtain ⟨ns, tp, lp, bp⟩ := x _ (mem_zip_self hp).2
    obtain ⟨ms, tq, lq, bq⟩ := x _ (mem_zip_self hq).2
    have e1 := hr _ (mem_zip_self hp).2 _ tp
    have e2 := hr _ (mem_zip_self hq).2 _ tq
    rw [show decide (r p.1 < r q.1) = decide (rk ns < rk ms) by rw [e1, e2]] at hQ
    obtain ⟨a, xs, ea, ⟨o, ho, hc, n, hdt⟩, i1⟩ := tp
    obtain ⟨b, ys, eb, ⟨o', ho', hc', n', hdt'⟩, i2⟩ := tq
    rw [ea, eb]
    refine PySem.W.kat_lt ho hdt ho' hdt' ?_
    have l1 := i1.length
    have l2 := i2.length
    rw [Array.length_toList] at l1 l2
    rw [show decide (xs.size < ys.size) = false from decide_eq_false (by omega)]
    exact lexS 0 i1 i2 (by omega) bp bq hQ
theorem sortS {a : Addr} {vs : List Value} {n d : Nat} {P : PySem.Fin → Shared → Prop} (ho : s.heap.get? a = some (seqObj "list" vs.toArray n)) (h64 : vs.length < 64) (hd : 1 ≤ d) (x : OkS s.heap d vs)
    (r : Value → Int) (hr : ∀ v, v ∈ vs → ∀ ns, TS.TupInts s.heap v ns → r v = rk ns)
    (h : ∀ out : Array Value, out.toList.Perm vs → out.toList.Pairwise (fun u v => r u ≤ r v) → P (.done (.ret .none)) { s with heap := sortedHeap s.heap a vs out }) :
    wpAny (model prog w) A (Builtin.«list.sort» ⟨[.ref a], []⟩) P E s := by
  have keep : ∀ b o, s.heap.get? b = some o → o.cls = .type "tuple" → (TS.midHeap s.heap a vs).get? b = some o := fun b o e hc => by
    refine TS.midHeap_old (fun z => ?_) e
    subst z
    rw [ho] at e
    have e' := Option.some.inj e
    subst e'
    have c' : Value.type "list" = Value.type "tuple" := hc
    injection c' with c''
    exact absurd c'' (by decide)
  refine SK.plain_sort (r := r) ho h64 (fun h2 Q hQ => ?_) fun ps out h1 h2 h3 => ?_
  · refine kindS (s := { s with heap := TS.midHeap s.heap a vs }) hd h2 (x.keeps keep) r (fun v hv ns t => ?_) Q hQ
    obtain ⟨ns0, t0, _⟩ := x v hv
    rw [show ns = ns0 from t.ints.symm.trans (t0.keeps keep).ints]
    exact hr v hv ns0 t0
  · obtain ⟨p, o⟩ := TS.out_rank h1 h2 h3
    exact h out p o
/-- sorted(x), once it is known what collecting x gives -/
theorem sortedS {x : Value} {vs : List Value} {d : Nat} {Q : Value → Shared → Prop}
    (hcol : ∀ (R : List Value → Shared → Prop) (E' : Value → Shared → Prop), (∀ (h' : Heap) (tk : Nat), (∀ b o, s.heap.get? b = some o → h'.get? b = some o) → R vs { s with heap := h', toks := tk }) → wpAny (model prog w) A.in1 (collect x) R E' s)
    (h64 : vs.length < 64) (hd : 1 ≤ d) (ok : OkS s.heap d vs)
    (h : ∀ (h1 h2 : Heap) (tk : Nat) (out : Array Value) (e : Nat), out.toList.Perm vs → out.toList.Pairwise (fun u v => rk (TS.intsOf s.heap u) ≤ rk (TS.intsOf s.heap v)) →
      (∀ b o, s.heap.get? b = some o → h1.get? b = some o) → (∀ b o, h1.get? b = some o → h2.get? b = some o) → h2.get? h1.objs.size = some (seqObj "list" out e) → Q (.ref h1.objs.size) { s with heap := h2, toks := tk }) :
    wpAny (model prog w) A (call (.builtin "sorted") [x]) Q E s := by
  refine Calls.call_function_entry kind_sorted plain_sorted entry_sorted (args_sorted1 _) ?_
  unfold Builtin.«sorted»
  refine wpAny_bind (m := checkCount "sorted" 1 1 _) (wpAny_pure ?_)
  refine wpAny_bind (hcol _ _ fun h1 tk k1 => ?_)
  refine wpAny_bind (wpAny_newList ?_ (by rw [sizeLine_eq]; omega))
  have hoL : (h1.push (seqObj "list" vs.toArray 0)).get? h1.objs.size = some (seqObj "list" vs.toArray 0) := Heap.get?_push_size _ rfl
  have k2 : ∀ b o, s.heap.get? b = some o → (h1.push (seqObj "list" vs.toArray 0)).get? b = some o := fun b o e => Heap.get?_push_of_some _ (k1 b o e)
  show wpAny _ _ _ _ _ { s with heap := h1.push (seqObj "list" vs.toArray 0), toks := tk }
  refine wpAny_bind (wpAny_holding (wpAny_call_entry slot_list_sort ⟨_, hoL, rfl⟩ entry_list_sort
    (sortS (s := { s with heap := h1.push (seqObj "list" vs.toArray 0), toks := tk }) hoL h64 hd (ok.keeps fun b o e _ => k2 b o e) (fun v => rk (TS.intsOf s.heap v)) (fun v hv ns t => ?_) fun out a1 a2 => ⟨_, rfl, ?_⟩) (args_list_sort _)))
  · obtain ⟨ns0, t0, _⟩ := ok v hv
    rw [show ns = ns0 from t.ints.symm.trans (t0.keeps fun b o e _ => k2 b o e).ints]
    show rk (TS.intsOf s.heap v) = rk ns0
    rw [t0.ints]
  · obtain ⟨e', he'⟩ := sortedHeap_at (vs := vs) (out := out) hoL
    refine wpAny_pure ⟨_, rfl, h h1 _ tk out e' a1 a2 k1 (fun b o e => ?_) he'⟩
    have hb : b < h1.objs.size := Heap.lt_size e
    rw [sortedHeap_old (Nat.ne_of_lt hb) (by rw [size_push']; exact Nat.lt_succ_of_lt hb)]
    exact Heap.get?_push_of_some _ e
end
/-- a permutation of images is the image of a permutation -/
theorem perm_lift {α β : Type} (f : α → β) : ∀ (l : List β) (L : List α), l.Perm (L.map f) → ∃ L' : List α, L'.Perm L ∧ L'.map f = l
  | [], L, h => by
    have e := h.length_eq
    rw [List.length_map, List.length_nil] at e
    have : L = [] := List.length_eq_zero_iff.mp e.symm
    subst this
    exact ⟨[], List.Perm.nil, rfl⟩
  | b :: r, L, h => by
    have hb : b ∈ L.map f := h.mem_iff.mp List.mem_cons_self
    obtain ⟨x, hx, rfl⟩ := List.mem_map.mp hb
    obtain ⟨u, v, rfl⟩ := List.append_of_mem hx
    have h2 : (f x :: r).Perm (f x :: (u ++ v).map f) := by
      refine h.trans ?_
      have := (List.perm_middle (a := x) (l₁ := u) (l₂ := v)).map f
      simpa using this
    obtain ⟨L', p, e⟩ := perm_lift f r (u ++ v) (List.Perm.cons_inv h2)
    exact ⟨x :: L', (List.Perm.cons x p).trans List.perm_middle.symm, by rw [List.map_cons, e]⟩
section
variable {X : Cx}
/-- sorted(xs), xs a list of fewer than 64 tuples of d small ints -/
def rSortL (K : PySem.W.Frag) : List V → Hp → VK → Prop := fun vs H Q => ∃ (a : Addr) (L : List (Addr × List Int)) (d : Nat), vs = [V.ref a] ∧ SqL K H a (L.map fun q => V.ref q.1) ∧ L.length < 64 ∧ 1 ≤ d ∧
  (∀ q ∈ L, SqT K H q.1 (q.2.map V.int) ∧ q.2.length = d ∧ Bd1 q.2) ∧
  ∀ (L' : List (Addr × List Int)) (p : Addr), L'.Perm L → L'.Pairwise (fun q r => rk q.2 ≤ rk r.2) → H p = none → Q (.ref p) (upd H p (.lst (L'.map fun q => V.ref q.1)))
theorem refs_vals (L : List (Addr × List Int)) : Vals (L.map fun q => V.ref q.1) (L.map fun q => Value.ref q.1) := by
  induction L with
  | nil => exact .nil
  | cons q r ih => exact .cons (show RelV (.ref q.1) (.ref q.1) from rfl) ih
theorem vals_refs_eq : ∀ {L : List (Addr × List Int)} {us : List Value}, Vals (L.map fun q => V.ref q.1) us → us = L.map fun q => Value.ref q.1
  | [], _, h => by cases h; rfl
  | q :: r, _, h => by
    cases h with
    | cons a b =>
      have e := vals_refs_eq b
      cases a
      rw [e]
      rfl
theorem okS_of {pins : List (Addr × Obj)} {σ : L2.St} {H : Hp} {s : Shared} (I : Inv X pins σ H s) {L : List (Addr × List Int)} {d : Nat} (h : ∀ q ∈ L, SqT X.K H q.1 (q.2.map V.int) ∧ q.2.length = d ∧ Bd1 q.2) :
    OkS s.heap d (L.map fun q => Value.ref q.1) := fun v hv => by
  obtain ⟨q, hq, rfl⟩ := List.mem_map.mp hv
  obtain ⟨a, b, c⟩ := h q hq
  exact ⟨q.2, tupI_raw I a, b, c⟩
theorem ranked {pins : List (Addr × Obj)} {σ : L2.St} {H : Hp} {s : Shared} (I : Inv X pins σ H s) {L L' : List (Addr × List Int)} {d : Nat} (h : ∀ q ∈ L, SqT X.K H q.1 (q.2.map V.int) ∧ q.2.length = d ∧ Bd1 q.2) (hp : L'.Perm L)
    (hw : (L'.map fun q => Value.ref q.1).Pairwise (fun u v => rk (TS.intsOf s.heap u) ≤ rk (TS.intsOf s.heap v))) : L'.Pairwise (fun q r => rk q.2 ≤ rk r.2) := by
  rw [List.pairwise_map] at hw
  refine List.Pairwise.imp_of_mem (fun {q r} hq hr z => ?_) hw
  have e1 := (tupI_raw I (h q (hp.mem_iff.mp hq)).1).ints
  have e2 := (tupI_raw I (h r (hp.mem_iff.mp hr)).1).ints
  rw [e1, e2] at z
  exact z
theorem cr_sortL : CallR X (.builtin "sorted") (rSortL X.K) := by
  intro pins s σ H vs us Q I r h
  obtain ⟨a, L, d, rfl, hs, h64, hd, hx, q⟩ := h
  obtain ⟨its, rv, hl, hz⟩ := I.list hs
  rw [Vals.ref1 r]
  have ei := vals_refs_eq rv
  subst ei
  refine sortedS (vs := L.map fun q => Value.ref q.1) (fun R E' hR => collect_list hl.isList ?_ (by rw [sizeLine_eq, List.length_map]; omega)) (by rw [List.length_map]; exact h64) hd (okS_of I hx) fun g1 g2 tk out e a1 a2 k1 k2 he => ?_
  · first
      | exact hR _ _ fun b o e => Heap.get?_push_of_some _ e
      | exact hR _ _ fun b o e => by
          rw [Heap.get?_update_ne _ _ _ _ (Nat.ne_of_lt (Heap.lt_size e)), Heap.get?_push_ne _ _ _ (Nat.ne_of_lt (Heap.lt_size e))]
          exact e
  · obtain ⟨L', p1, e1⟩ := perm_lift (fun q : Addr × List Int => Value.ref q.1) out.toList L a1
    have J : Inv X pins σ H { s with heap := g1, toks := tk } := I.kept k1
    have hn : H g1.objs.size = none := J.hok.fresh (Nat.le_refl _)
    have hlen : (L'.map fun q => V.ref q.1).length ≤ sizeLine := by rw [List.length_map, p1.length_eq, sizeLine_eq]; omega
    rw [← e1] at a2
    refine ⟨.ref g1.objs.size, upd H g1.objs.size (.lst (L'.map fun q => V.ref q.1)), J.laid (t' := tk) k2 (Nat.le_refl _) ⟨hlen, out.toList, e, by rw [← e1]; exact refs_vals L', by rw [Array.toArray_toList]; exact he⟩, rfl, q L' _ p1 (ranked I hx p1 a2) hn⟩
/-- a dict's tuple keys that are ints -/
def kI (ns : List Int) : List Key := ns.map Sum.inl
def unk (k : List Key) : List Int := k.map fun x => match x with
  | .inl i => i
  | .inr _ => 0
theorem unk_kI (ns : List Int) : unk (kI ns) = ns := by
  unfold unk kI
  rw [List.map_map]
  exact List.map_id' ns
theorem kI_V (ns : List Int) : (kI ns).map kV = ns.map V.int := by
  unfold kI
  rw [List.map_map]
  rfl
/-- sorted(d), d a dict of fewer than 64 keys that are tuples of d small ints -/
def rSortDT : List V → Hp → VK → Prop := fun vs H Q => ∃ (a : Addr) (kvs : List (List Key × V)) (d : Nat), vs = [V.ref a] ∧ Rd H a (.dT kvs) ∧ kvs.length < 64 ∧ 1 ≤ d ∧
  (∀ x ∈ kvs, ∃ ns, x.1 = kI ns ∧ ns.length = d ∧ Bd1 ns) ∧
  ∀ (L' : List (Addr × List Int)) (p : Addr), (L'.map fun q => kI q.2).Perm (kvs.map fun x => x.1) → (∀ q ∈ L', H q.1 = some (.tup (q.2.map V.int))) → L'.Pairwise (fun q r => rk q.2 ≤ rk r.2) → H p = none → Q (.ref p) (upd H p (.lst (L'.map fun q => V.ref q.1)))
theorem keys_list {H : Hp} : ∀ {kvs : List (List Key × V)} {ks : List (List Key × Addr × Value)}, KT H kvs ks → (∀ x ∈ kvs, ∃ ns, x.1 = kI ns) →
    (ks.map fun x => kI (unk x.1)) = kvs.map (fun x => x.1) ∧ ∀ x ∈ ks, x.1 = kI (unk x.1) ∧ H x.2.1 = some (.tup ((unk x.1).map V.int))
  | _, _, .nil, _ => ⟨rfl, fun x hx => absurd hx (by simp)⟩
  | y :: kvs, x :: ks, .cons a b, h => by
    obtain ⟨i1, i2⟩ := keys_list b fun z hz => h z (List.mem_cons_of_mem _ hz)
    obtain ⟨ns, e⟩ := h y List.mem_cons_self
    have ex : x.1 = kI (unk x.1) := by
      rw [← a.1, e, unk_kI]
    refine ⟨?_, fun z hz => ?_⟩
    · rw [List.map_cons, List.map_cons, i1, ← ex, ← a.1]
    · rcases List.mem_cons.mp hz with c | c
      · subst c
        refine ⟨ex, ?_⟩
        have z := a.2.1
        rw [a.1, ex, kI_V] at z
        exact z
      · exact i2 z c
theorem cr_sortDT (hc : X.calm = true) : CallR X (.builtin "sorted") rSortDT := by
  intro pins s σ H vs us Q I r h
  obtain ⟨a, kvs, d, rfl, hd, h64, h1, hx, q⟩ := h
  obtain ⟨z, hs, ks, pr, o, es, ep, ho, hex, hdt, he, hn⟩ := (show ObjOk X.prog X.w H s.heap a (.dT kvs) from hd.ok I.hok)
  have l1 : es.size = ks.length := size_of_entries he
  have l2 : kvs.length = ks.length := Paired.length pr
  obtain ⟨m1, m2⟩ := keys_list pr fun x hx' => (hx x hx').imp fun ns z => z.1
  rw [Vals.ref1 r]
  let L : List (Addr × List Int) := ks.map fun x => (x.2.1, unk x.1)
  have hL : ∀ p ∈ L, H p.1 = some (.tup (p.2.map V.int)) := fun p hp => by
    obtain ⟨x, hxk, rfl⟩ := List.mem_map.mp hp
    exact (m2 x hxk).2
  have hL2 : (L.map fun p => kI p.2) = kvs.map fun x => x.1 := by
    rw [← m1, List.map_map]
    rfl
  have hOk : ∀ p ∈ L, SqT X.K H p.1 (p.2.map V.int) ∧ p.2.length = d ∧ Bd1 p.2 := fun p hp => by
    refine ⟨.inl (.inl (hL p hp)), ?_⟩
    have hm : kI p.2 ∈ L.map fun p => kI p.2 := List.mem_map.mpr ⟨p, hp, rfl⟩
    rw [hL2] at hm
    obtain ⟨x, hxk, ex⟩ := List.mem_map.mp hm
    obtain ⟨ns, en, el, eb⟩ := hx x hxk
    have : p.2 = ns := by
      have e := congrArg unk (ex.symm.trans en)
      rw [unk_kI, unk_kI] at e
      exact e
    rw [this]
    exact ⟨el, eb⟩
  have lL : L.length = ks.length := List.length_map _
  refine sortedS (vs := L.map fun q => Value.ref q.1) (fun R E' hR => PySem.W.kdu_collect (A := X.A.in1) (kdl_raw hs hex hdt) (I.ok.hd hc) ho (by rw [sizeLine_eq]; omega) fun h' tk acc hk hacc => ?_) (by rw [List.length_map]; omega) h1 (okS_of I hOk) fun g1 g2 tk out e a1 a2 k1 k2 he' => ?_
  · have ea : acc.toList = L.map fun q => Value.ref q.1 := by
      have hl : acc.toList.length = ks.length := by rw [Array.length_toList, hacc.1]; exact l1
      apply List.ext_getElem?
      intro j
      rw [List.getElem?_map, List.getElem?_map]
      cases hj : acc.toList[j]? with
      | none =>
        have hge := List.getElem?_eq_none_iff.mp hj
        rw [List.getElem?_eq_none (by omega)]
        all_goals rfl
      | some v =>
        obtain ⟨en, hen, hv⟩ := hacc.2 j v (by rw [← Array.getElem?_toList]; exact hj)
        have qe := entry_at he j
        rw [hen] at qe
        cases hb : ks[j]? with
        | none =>
          rw [hb] at qe
          exact nomatch (show some en = none from qe)
        | some b =>
          rw [hb] at qe
          have e2 : en = entryOfKey (tupleKind (mixKind X.prog X.w)) b := Option.some.inj qe
          rw [hv, e2]
          all_goals rfl
    rw [ea]
    exact hR _ _ hk
  · obtain ⟨L', p1, e1⟩ := perm_lift (fun q : Addr × List Int => Value.ref q.1) out.toList L a1
    have J : Inv X pins σ H { s with heap := g1, toks := tk } := I.kept k1
    have hnone : H g1.objs.size = none := J.hok.fresh (Nat.le_refl _)
    have hlen : (L'.map fun q => V.ref q.1).length ≤ sizeLine := by rw [List.length_map, p1.length_eq, sizeLine_eq]; omega
    rw [← e1] at a2
    refine ⟨.ref g1.objs.size, upd H g1.objs.size (.lst (L'.map fun q => V.ref q.1)), J.laid (t' := tk) k2 (Nat.le_refl _) ⟨hlen, out.toList, e, by rw [← e1]; exact refs_vals L', by rw [Array.toArray_toList]; exact he'⟩, rfl, q L' _ ?_ (fun y hy => hL y (p1.mem_iff.mp hy)) (ranked I hOk p1 a2) hnone⟩
    rw [← hL2]
    exact p1.map _
/-- x == y of two instances of the class at C, by its own __eq__, whatever it answers -/
theorem op_insEq {CX : CXT} {C f : Addr} {fd : FuncData} {ps : List Str} {sp : Sp} {E : XK} {n : Nat} (F : FnOk X.prog X.w X.K X.mg X.base CX n f fd ps sp) (hr : Room n X.A)
    (M : Meth X.K C "__eq__" f) (hb : Binds X.K fd ps []) (hx : Passes CX X E) :
    OpR X (compareOp .Eq) (fun x y H Q => ∃ a b dx dy fs gs, x = .ref a ∧ y = .ref b ∧ H a = some (.ins C dx fs) ∧ H b = some (.ins C dy gs) ∧ sp [.ref a, .ref b] H (fun v H' => (∃ k, v = .bl k) ∧ Q v H') E) := by
  intro pins s σ H x y v u Q I rx ry hq
  obtain ⟨a, b, dx, dy, fs, gs, rfl, rfl, ha, hb', hsp⟩ := hq
  cases rx
  cases ry
  obtain ⟨mA, J, _⟩ := ins_get I.hok ha
  obtain ⟨mB, J', _⟩ := ins_get I.hok hb'
  obtain ⟨od, J, _⟩ := J.look
  obtain ⟨od', J', _⟩ := J'.look
  obtain ⟨m, hF⟩ := I.fr
  show wpAny (model X.prog X.w) X.A (richCompare .Eq (.ref a) (.ref b)) (EP X pins σ Q) X.xe s
  refine PySem.W.cmp_K (op := .Eq) (tb := .ref C) hr.units0 hF I.ok.mod.kin J J'.type (by simp [PySem.W.notFirst]) M.at_ M.fn ?_
  have hl := F.len _ _ _ _ hsp
  have r2 : Vals [V.ref a, V.ref b] [Value.ref a, Value.ref b] := .cons rfl (.cons rfl .nil)
  refine wpAny_call (codeAny_mono (F.run X.A X.stack s H ⟨[.ref a, .ref b], []⟩ [.ref a, .ref b] [.ref a, .ref b] _ E hr I.env0 (by
    have := hb s [.ref a, .ref b] I.kIn (by simpa using hl)
    simpa using this) r2 hsp) fun r s' hq => ?_)
  cases r with
  | error e => exact hx pins σ H s e s' I hq
  | ok fl =>
    cases fl with
    | ret w' =>
      obtain ⟨z, H', I', rz, ⟨k, ez⟩, q⟩ := I.after hq
      subst ez
      cases rz
      exact ⟨.bl k, H', I', rfl, q⟩
    | next => exact False.elim hq
    | brk => exact False.elim hq
    | cont => exact False.elim hq
end
end K9

/-! ### the mathematics: a machine's rules by their entries, its index by the entries as digits -/
namespace K9
open PySem PySem.Spec PyProof.Rows L2
/-- the rule of the pair p with the entry x (x > 0) -/
def rule5 (p x : Nat) : List Int := [((p / 2 : Nat) : Int), ((p % 2 : Nat) : Int), (((x - 1) / 3 % 2 : Nat) : Int), (((x - 1) % 3 : Nat) : Int) - 1, (((x - 1) / 6 : Nat) : Int)]
def pairs (N : Nat) (e : Nat → Nat) : List Nat := (List.range N).filter fun p => e p != 0
def rulesOf (N : Nat) (e : Nat → Nat) : List (List Int) := (pairs N e).map fun p => rule5 p (e p)
theorem pairs_mem {N : Nat} {e : Nat → Nat} {p : Nat} : p ∈ pairs N e ↔ p < N ∧ e p ≠ 0 := by
  unfold pairs
  rw [List.mem_filter, List.mem_range]
  simp
theorem pairs_succ (N : Nat) (e : Nat → Nat) : pairs (N + 1) e = pairs N e ++ (if e N = 0 then [] else [N]) := by
  unfold pairs
  rw [List.range_succ, List.filter_append]
  by_cases h : e N = 0
  · simp [h]
  · simp [h]
theorem rulesOf_succ0 {N : Nat} {e : Nat → Nat} (h : e N = 0) : rulesOf (N + 1) e = rulesOf N e := by
  unfold rulesOf
  rw [pairs_succ, if_pos h, List.append_nil]
theorem rulesOf_succ1 {N : Nat} {e : Nat → Nat} (h : e N ≠ 0) : rulesOf (N + 1) e = rulesOf N e ++ [rule5 N (e N)] := by
  unfold rulesOf
  rw [pairs_succ, if_neg h, List.map_append]
  rfl
theorem pairs_nodup (N : Nat) (e : Nat → Nat) : (pairs N e).Nodup := List.Pairwise.filter _ List.nodup_range
theorem pairs_lt (N : Nat) (e : Nat → Nat) : (pairs N e).Pairwise (· < ·) := List.Pairwise.filter _ List.pairwise_lt_range
theorem rulesOf_len (N : Nat) (e : Nat → Nat) : (rulesOf N e).length ≤ N := by
  unfold rulesOf pairs
  rw [List.length_map]
  have := List.length_filter_le (fun p => e p != 0) (List.range N)
  rw [List.length_range] at this
  exact this
theorem rulesOf_mem {N : Nat} {e : Nat → Nat} {r : List Int} : r ∈ rulesOf N e ↔ ∃ p, p < N ∧ e p ≠ 0 ∧ r = rule5 p (e p) := by
  unfold rulesOf
  rw [List.mem_map]
  constructor
  · rintro ⟨p, hp, rfl⟩
    obtain ⟨a, b⟩ := pairs_mem.mp hp
    exact ⟨p, a, b, rfl⟩
  · rintro ⟨p, a, b, rfl⟩
    exact ⟨p, pairs_mem.mpr ⟨a, b⟩, rfl⟩
theorem rule5_inj {p q x y : Nat} (hx : x ≠ 0) (hy : y ≠ 0) (h : rule5 p x = rule5 q y) : p = q ∧ x = y := by
  unfold rule5 at h
  simp only [List.cons.injEq, and_true] at h
  obtain ⟨h1, h2, h3, h4, h5⟩ := h
  constructor <;> omega
/-- the entries are what the list tells -/
theorem rulesOf_inj {N : Nat} {e e' : Nat → Nat} (h : rulesOf N e = rulesOf N e') : ∀ p, p < N → e p = e' p := by
  have key : ∀ {a b : Nat → Nat}, rulesOf N a = rulesOf N b → ∀ p, p < N → a p ≠ 0 → a p = b p := by
    intro a b hab p hp hne
    have m : rule5 p (a p) ∈ rulesOf N b := by
      rw [← hab]
      exact rulesOf_mem.mpr ⟨p, hp, hne, rfl⟩
    obtain ⟨q, _, hq, e⟩ := rulesOf_mem.mp m
    obtain ⟨e1, e2⟩ := rule5_inj hne hq e
    subst e1
    exact e2
  intro p hp
  by_cases h1 : e p = 0
  · by_cases h2 : e' p = 0
    · rw [h1, h2]
    · exact (key h.symm p hp h2).symm
  · exact key h p hp h1
theorem rulesOf_congr {N : Nat} {e e' : Nat → Nat} (h : ∀ p, p < N → e p = e' p) : rulesOf N e = rulesOf N e' := by
  have hp : pairs N e = pairs N e' := List.filter_congr fun p hp => by rw [h p (List.mem_range.mp hp)]
  unfold rulesOf
  rw [← hp]
  exact List.map_congr_left fun p hp => by rw [h p (pairs_mem.mp hp).1]
/-- an entry from a rule's three numbers -/
def enc (w m f : Int) : Nat := (1 + 3 * (2 * f + w) + (m + 1)).toNat
theorem enc_ok {w m f : Int} {n : Nat} (hw : 0 ≤ w ∧ w < 2) (hm : -1 ≤ m ∧ m ≤ 1) (hf : 0 ≤ f ∧ f < n) : enc w m f ≠ 0 ∧ enc w m f ≤ 6 * n ∧ ((enc w m f : Nat) : Int) = 1 + 3 * (2 * f + w) + m + 1 := by
  unfold enc
  refine ⟨?_, ?_, ?_⟩ <;> omega
theorem rule5_enc {p : Nat} {w m f : Int} {n : Nat} (hw : 0 ≤ w ∧ w < 2) (hm : -1 ≤ m ∧ m ≤ 1) (hf : 0 ≤ f ∧ f < n) : rule5 p (enc w m f) = [((p / 2 : Nat) : Int), ((p % 2 : Nat) : Int), w, m, f] := by
  obtain ⟨h1, h2, h3⟩ := enc_ok hw hm hf
  unfold rule5
  simp only [List.cons.injEq, and_true, true_and]
  refine ⟨?_, ?_, ?_⟩ <;> omega
/-- what a rule of entry x holds -/
theorem rule5_in {p x n : Nat} (h0 : x ≠ 0) (h : x ≤ 6 * n) : ∃ w m f : Int, rule5 p x = [((p / 2 : Nat) : Int), ((p % 2 : Nat) : Int), w, m, f] ∧ (0 ≤ w ∧ w < 2) ∧ (-1 ≤ m ∧ m ≤ 1) ∧ (0 ≤ f ∧ f < n) ∧ 1 + 3 * (2 * f + w) + m + 1 = (x : Int) :=
  ⟨_, _, _, rfl, by omega, by omega, by omega, by omega⟩
theorem rule5_bd {p x n : Nat} (hp : p < 2 * n) (hn : n ≤ 6) (h0 : x ≠ 0) (h : x ≤ 6 * n) : Bd1 (rule5 p x) := by
  intro m hm
  unfold rule5 at hm
  simp only [List.mem_cons, List.not_mem_nil, or_false] at hm
  rcases hm with e | e | e | e | e <;> subst e <;> constructor <;> omega
theorem rule5_len (p x : Nat) : (rule5 p x).length = 5 := rfl
/-! ### order -/
theorem rk_cons_le {x y : Int} {r q : List Int} (hl : r.length = q.length) (h : x = y) (hr : rk r < rk q) : rk (x :: r) < rk (y :: q) := by
  subst h
  exact (rk_same hl).mpr hr
theorem rk_pair {p q : Nat} {a b : List Int} (hl : a.length = b.length) (ha : Bd1 (((p / 2 : Nat) : Int) :: ((p % 2 : Nat) : Int) :: a)) (hb : Bd1 (((q / 2 : Nat) : Int) :: ((q % 2 : Nat) : Int) :: b)) (h : p < q) :
    rk (((p / 2 : Nat) : Int) :: ((p % 2 : Nat) : Int) :: a) < rk (((q / 2 : Nat) : Int) :: ((q % 2 : Nat) : Int) :: b) := by
  have hl2 : (((p % 2 : Nat) : Int) :: a).length = (((q % 2 : Nat) : Int) :: b).length := by simp [hl]
  by_cases c : p / 2 = q / 2
  · exact rk_cons_le hl2 (by rw [c]) (rk_lt hl ha.tl.tl hb.tl.tl (by omega))
  · exact rk_lt hl2 ha.tl hb.tl (by omega)
theorem perm_sorted_eq {α : Type} (f : α → Int) : ∀ (l l2 : List α), l.Perm l2 → l.Pairwise (fun x y => f x ≤ f y) → l2.Pairwise (fun x y => f x < f y) → l = l2
  | [], l2, h, _, _ => by
    have e := h.length_eq
    exact (List.length_eq_zero_iff.mp e.symm).symm
  | a :: t, [], h, _, _ => by
    have e := h.length_eq
    simp at e
  | a :: t, b :: r, h, h1, h2 => by
    obtain ⟨p1, p2⟩ := List.pairwise_cons.mp h1
    obtain ⟨q1, q2⟩ := List.pairwise_cons.mp h2
    have hab : a = b := by
      have ha : a ∈ b :: r := h.mem_iff.mp List.mem_cons_self
      have hb : b ∈ a :: t := h.mem_iff.mpr List.mem_cons_self
      rcases List.mem_cons.mp ha with e | ha
      · exact e
      · rcases List.mem_cons.mp hb with e | hb
        · exact e.symm
        · have z1 := q1 a ha
          have z2 := p1 b hb
          omega
    subst hab
    rw [perm_sorted_eq f t r (List.Perm.cons_inv h) p2 q2]
theorem rulesOf_sorted {n : Nat} {e : Nat → Nat} (hn : n ≤ 6) (he : ∀ p, p < 2 * n → e p ≤ 6 * n) : (rulesOf (2 * n) e).Pairwise (fun a b => rk a < rk b) := by
  unfold rulesOf
  rw [List.pairwise_map]
  refine List.Pairwise.imp_of_mem (fun {p q} hp hq h => ?_) (pairs_lt (2 * n) e)
  obtain ⟨p1, p2⟩ := pairs_mem.mp hp
  obtain ⟨q1, q2⟩ := pairs_mem.mp hq
  exact rk_pair rfl (rule5_bd p1 hn p2 (he p p1)) (rule5_bd q1 hn q2 (he q q1)) h
/-- the pair of a rule -/
def key2 (p : Nat) : List Int := [((p / 2 : Nat) : Int), ((p % 2 : Nat) : Int)]
theorem key2_inj {p q : Nat} (h : key2 p = key2 q) : p = q := by
  unfold key2 at h
  simp only [List.cons.injEq, and_true] at h
  omega
theorem key2_bd {p n : Nat} (hp : p < 2 * n) (hn : n ≤ 6) : Bd1 (key2 p) := by
  intro m hm
  unfold key2 at hm
  simp only [List.mem_cons, List.not_mem_nil, or_false] at hm
  rcases hm with e | e <;> subst e <;> constructor <;> omega
theorem keys_sorted {n : Nat} {e : Nat → Nat} (hn : n ≤ 6) : ((pairs (2 * n) e).map key2).Pairwise (fun a b => rk a < rk b) := by
  rw [List.pairwise_map]
  refine List.Pairwise.imp_of_mem (fun {p q} hp hq h => ?_) (pairs_lt (2 * n) e)
  exact rk_pair rfl (key2_bd (pairs_mem.mp hp).1 hn) (key2_bd (pairs_mem.mp hq).1 hn) h
/-! ### the index -/
/-- the number with the digits e lo, e (lo + 1), .., k of them, the first one counting least -/
def valF (B : Nat) (e : Nat → Nat) (lo : Nat) : Nat → Nat
  | 0 => 0
  | k + 1 => e lo + B * valF B e (lo + 1) k
theorem valF_lt {B : Nat} {e : Nat → Nat} : ∀ (k lo : Nat), (∀ p, lo ≤ p → p < lo + k → e p < B) → valF B e lo k < B ^ k
  | 0, _, _ => by
    show 0 < B ^ 0
    exact Nat.one_pos
  | k + 1, lo, h => by
    have ih := valF_lt k (lo + 1) fun p a b => h p (by omega) (by omega)
    have h0 := h lo (Nat.le_refl _) (by omega)
    show e lo + B * valF B e (lo + 1) k < B ^ (k + 1)
    have : B * (valF B e (lo + 1) k + 1) ≤ B * B ^ k := Nat.mul_le_mul_left B ih
    rw [Nat.mul_add, Nat.mul_one] at this
    rw [Nat.pow_succ, Nat.mul_comm (B ^ k) B]
    omega
theorem valF_inj {B : Nat} {e e' : Nat → Nat} : ∀ (k lo : Nat), (∀ p, lo ≤ p → p < lo + k → e p < B) → (∀ p, lo ≤ p → p < lo + k → e' p < B) → valF B e lo k = valF B e' lo k → ∀ p, lo ≤ p → p < lo + k → e p = e' p
  | 0, lo, _, _, _, p, a, b => by omega
  | k + 1, lo, h, h', he, p, a, b => by
    have h0 := h lo (Nat.le_refl _) (by omega)
    have h1 := h' lo (Nat.le_refl _) (by omega)
    have he' : e lo + B * valF B e (lo + 1) k = e' lo + B * valF B e' (lo + 1) k := he
    have m := congrArg (· % B) he'
    simp only [Nat.add_mul_mod_self_left] at m
    rw [Nat.mod_eq_of_lt h0, Nat.mod_eq_of_lt h1] at m
    rw [m] at he'
    have hB : 0 < B := by omega
    have t : valF B e (lo + 1) k = valF B e' (lo + 1) k := Nat.eq_of_mul_eq_mul_left hB (Nat.add_left_cancel he')
    rcases Nat.eq_or_lt_of_le a with c | c
    · subst c
      exact m
    · exact valF_inj k (lo + 1) (fun q x y => h q (by omega) (by omega)) (fun q x y => h' q (by omega) (by omega)) t p c (by omega)
theorem valF_congr {B : Nat} {e e' : Nat → Nat} : ∀ (k lo : Nat), (∀ p, lo ≤ p → p < lo + k → e p = e' p) → valF B e lo k = valF B e' lo k
  | 0, _, _ => rfl
  | k + 1, lo, h => by
    show e lo + B * valF B e (lo + 1) k = e' lo + B * valF B e' (lo + 1) k
    rw [h lo (Nat.le_refl _) (by omega), valF_congr k (lo + 1) fun p a b => h p (by omega) (by omega)]
theorem valF_mod {B : Nat} {e : Nat → Nat} {lo k : Nat} (h : e lo < B) : valF B e lo (k + 1) % B = e lo := by
  show (e lo + B * valF B e (lo + 1) k) % B = e lo
  rw [Nat.add_mul_mod_self_left, Nat.mod_eq_of_lt h]
theorem valF_div {B : Nat} {e : Nat → Nat} {lo k : Nat} (h : e lo < B) : valF B e lo (k + 1) / B = valF B e (lo + 1) k := by
  show (e lo + B * valF B e (lo + 1) k) / B = valF B e (lo + 1) k
  rw [Nat.add_mul_div_left _ _ (by omega), Nat.div_eq_of_lt h, Nat.zero_add]
/-! ### equality of lists of tuples of ints -/
def dat (R : List (List Int)) : PyData := .tuple (R.map fun ns => .tuple (ns.map PyData.int))
def datL (R : List (List Int)) : PyData := .list (R.map fun ns => .tuple (ns.map PyData.int))
theorem eqv_ints : ∀ a b : List Int, PyData.eqvAll (a.map PyData.int) (b.map PyData.int) = decide (a = b)
  | [], [] => rfl
  | [], _ :: _ => rfl
  | _ :: _, [] => rfl
  | x :: a, y :: b => by
    show (PyData.eqv (.int x) (.int y) && PyData.eqvAll (a.map PyData.int) (b.map PyData.int)) = decide (x :: a = y :: b)
    rw [eqv_ints a b]
    show ((x == y) && decide (a = b)) = decide (x :: a = y :: b)
    by_cases h : x = y <;> by_cases k : a = b <;> simp [h, k]
theorem eqv_tups : ∀ a b : List (List Int), PyData.eqvAll (a.map fun ns => PyData.tuple (ns.map PyData.int)) (b.map fun ns => PyData.tuple (ns.map PyData.int)) = decide (a = b)
  | [], [] => rfl
  | [], _ :: _ => rfl
  | _ :: _, [] => rfl
  | x :: a, y :: b => by
    show (PyData.eqvAll (x.map PyData.int) (y.map PyData.int) && PyData.eqvAll (a.map fun ns => PyData.tuple (ns.map PyData.int)) (b.map fun ns => PyData.tuple (ns.map PyData.int))) = decide (x :: a = y :: b)
    rw [eqv_tups a b, eqv_ints]
    by_cases h : x = y <;> by_cases k : a = b <;> simp [h, k]
theorem eqv_dat (a b : List (List Int)) : PyData.eqv (dat a) (dat b) = decide (a = b) := eqv_tups a b
theorem eqv_datL (a b : List (List Int)) : PyData.eqv (datL a) (datL b) = decide (a = b) := eqv_tups a b
end K9

/-! ### the small defs: check_states, power, machine_count, check_index, rule_for -/
namespace K9
open PySem PySem.Spec PyProof.Rows L2
theorem ifT {c : Bool} {A B : Prop} (hc : c = true) (h : A) : if c = true then A else B := by
  rw [if_pos hc]
  exact h
theorem ifF {c : Bool} {A B : Prop} (hc : c = false) (h : B) : if c = true then A else B := by
  rw [hc]
  exact iteF h
theorem ifN {c : Bool} {A B : Prop} (hc : c = true) (h : B) : if (!c) = true then A else B := by
  rw [hc]
  exact iteF h
section
variable {P : Program} {w : World} {K : PySem.W.Frag} {mg : Str → Option Value} {base : Heap} {C : Addr}
/-! ### check_states -/
def spCS : Sp := fun vs H Q _ => ∃ n : Nat, vs = [.int n] ∧ 1 ≤ n ∧ n ≤ 6 ∧ Q .non H
theorem scCS : FnScope ["states"] ["states"] (defScope sChkS) := ⟨rfl, rfl, rfl, by decide +kernel, rfl, by decide +kernel, by decide +kernel⟩
theorem ok_cs {f : Addr} {fd : FuncData} (F : Fun K "check_states" "check_states" sChkS f fd) (T : Txt K mg C) : FnOk P w K mg base CX0 1 f fd ["states"] spCS := by
  refine F.ok scCS (fun vs H Q E h => ?_) (fun cdv A outer s H vs Q E hr h => ?_)
  · obtain ⟨n, rfl, _⟩ := h
    rfl
  · obtain ⟨n, rfl, h1, h6, k⟩ := h
    obtain ⟨t, ht⟩ := T.cS
    refine ⟨_, pss_one (ps_if (pt_not (pt_chain op_le op_le pe_int (pv 0) (pe_glob (v := .int 6) rfl ht ⟨t, rfl⟩))) (pss_one ps_never) pss_nil), ?_⟩
    refine ⟨_, rfl, _, _, rfl, rfl, _, rfl, ifT (decide_eq_true (by omega)) ?_⟩
    refine ⟨_, _, rfl, rfl, _, rfl, ifN (decide_eq_true (by omega)) ?_⟩
    exact k
/-! ### power -/
def spPW : Sp := fun vs H Q _ => ∃ b c : Nat, vs = [.int b, .int c] ∧ b ≤ 37 ∧ c ≤ 12 ∧ Q (.int ((b ^ c : Nat) : Int)) H
theorem pow_small {b k : Nat} (hb : b ≤ 37) (hk : k < 4) : b ^ 2 ^ k < 2 ^ 64 := by
  have h1 : b ^ 2 ^ k ≤ 37 ^ 2 ^ k := Nat.pow_le_pow_left hb _
  have h2 : (37 : Nat) ^ 2 ^ k ≤ 37 ^ 2 ^ 3 := Nat.pow_le_pow_right (by decide) (Nat.pow_le_pow_right (by decide) (by omega))
  exact Nat.lt_of_le_of_lt (Nat.le_trans h1 h2) (by decide)
theorem scPW : FnScope ["base", "count", "product"] ["base", "count"] (defScope sPower) := ⟨rfl, rfl, rfl, by decide +kernel, rfl, by decide +kernel, by decide +kernel⟩
theorem ok_pw {f : Addr} {fd : FuncData} (F : Fun K "power" "power" sPower f fd) : FnOk P w K mg base CX0 1 f fd ["base", "count"] spPW := by
  refine F.ok scPW (fun vs H Q E h => ?_) (fun cdv A outer s H vs Q E hr h => ?_)
  · obtain ⟨b, c, rfl, _⟩ := h
    rfl
  · obtain ⟨b, c, rfl, hb, hc, q⟩ := h
    refine ⟨_, pss_cons (ps_set (i := 2) scPW.nd rfl (.inl rfl) pe_int)
      (pss_cons (ps_while PassesOwn.never (pt_cmpR op_gt (pv 1) pe_int (nomark _))
        (pss_cons (ps_if (pt_cmpR op_eq (pe_op op_mod (pv 1) pe_int) pe_int (nomark _)) (pss_one (ps_set (i := 2) scPW.nd rfl (.inl rfl) (pe_op op_mul (pv 2) (pv 0)))) pss_nil)
        (pss_cons (ps_set (i := 0) scPW.nd rfl (.inl rfl) (pe_op op_mul (pv 0) (pv 0)))
        (pss_one (ps_set (i := 1) scPW.nd rfl (.inl rfl) (pe_op op_fdiv (pv 1) pe_int))))))
      (pss_one (ps_ret (pv 2)))), ?_⟩
    -- product = 1; the loop: behind k turns
    refine ⟨fun m σ H1 => ∃ k, m + k = 4 ∧ H1 = H ∧ σ = [some (.int ((b ^ 2 ^ k : Nat) : Int)), some (.int ((c / 2 ^ k : Nat) : Int)), some (.int ((b ^ (c % 2 ^ k) : Nat) : Int))], ⟨4, 0, rfl, rfl, ?_⟩, ?_⟩
    · show [some (V.int b), some (V.int c), some (V.int 1)] = _
      rw [Nat.pow_zero, Nat.pow_one, Nat.div_one, Nat.mod_one, Nat.pow_zero]
      rfl
    · rintro m σ H1 ⟨k, hk, rfl, rfl⟩
      refine ⟨_, rfl, _, _, rfl, rfl, _, rfl, ?_⟩
      by_cases hz : c / 2 ^ k = 0
      · refine ifF (decide_eq_false (by omega)) ?_
        refine ⟨_, rfl, ?_⟩
        have hlt : c < 2 ^ k := by
          rcases Nat.lt_or_ge c (2 ^ k) with z | z
          · exact z
          · have := Nat.div_pos z (Nat.two_pow_pos k)
            omega
        rw [Nat.mod_eq_of_lt hlt]
        exact q
      · have hk4 : k < 4 := by
          rcases Nat.lt_or_ge k 4 with z | z
          · exact z
          · have e : k = 4 := by omega
            subst e
            have : c / 2 ^ 4 = 0 := Nat.div_eq_of_lt (by show c < 16; omega)
            exact absurd this hz
        have hbb := pow_small hb hk4
        have hbi : -(2 ^ 64) < ((b ^ 2 ^ k : Nat) : Int) ∧ ((b ^ 2 ^ k : Nat) : Int) < 2 ^ 64 := by
          have e : (2 : Int) ^ 64 = ((2 ^ 64 : Nat) : Int) := by decide
          rw [e]
          omega
        have e1 : b ^ 2 ^ (k + 1) = b ^ 2 ^ k * b ^ 2 ^ k := by
          rw [← Nat.pow_add]
          congr 1
          rw [Nat.pow_succ]
          omega
        have e2 : c / 2 ^ (k + 1) = c / 2 ^ k / 2 := by
          rw [Nat.div_div_eq_div_mul, Nat.pow_succ]
        have e3 : c % 2 ^ (k + 1) = c % 2 ^ k + 2 ^ k * (c / 2 ^ k % 2) := Nat.mod_pow_succ
        refine ifT (decide_eq_true (by have hp : 0 < c / 2 ^ k := Nat.pos_of_ne_zero hz
                                       exact Int.natCast_pos.mpr hp)) ?_
        refine ⟨fun σ' H' => H' = H1 ∧ σ' = [some (.int ((b ^ 2 ^ (k + 1) : Nat) : Int)), some (.int ((c / 2 ^ (k + 1) : Nat) : Int)), some (.int ((b ^ (c % 2 ^ (k + 1)) : Nat) : Int))], fun σ' H' hN => ⟨m - 1, by omega, k + 1, by omega, hN.1, hN.2⟩, ?_⟩
        -- if count % 2 == 1
        refine ⟨_, rfl, _, _, rfl, rfl, (by show (0 : Int) < 2; decide), rfl, _, rfl, ?_⟩
        refine ite2 (fun h => ?_) (fun h => ?_)
        · have h1 : c / 2 ^ k % 2 = 1 := by
            have z : ((c / 2 ^ k : Nat) : Int) % 2 = 1 := V.int.inj (of_decide_eq_true h)
            generalize c / 2 ^ k = u at z
            omega
          refine ⟨_, rfl, _, rfl, _, _, rfl, rfl, .inr hbi, ?_⟩
          refine ⟨_, rfl, _, rfl, _, _, rfl, rfl, .inl hbi, ?_⟩
          refine ⟨_, rfl, _, _, rfl, rfl, ⟨by decide, by decide⟩, rfl, ?_⟩
          rw [e1, e2, e3, h1, Nat.mul_one, Nat.pow_add]
          generalize b ^ 2 ^ k = x
          generalize b ^ (c % 2 ^ k) = y
          generalize c / 2 ^ k = z
          rw [Int.natCast_mul, Int.natCast_mul]
          rfl
        · have h1 : c / 2 ^ k % 2 = 0 := by
            rcases Nat.mod_two_eq_zero_or_one (c / 2 ^ k) with z | z
            · exact z
            · exact absurd (decide_eq_true (by
                have : ((c / 2 ^ k : Nat) : Int) % 2 = 1 := by
                  generalize c / 2 ^ k = u at z
                  omega
                show V.int (((c / 2 ^ k : Nat) : Int) % 2) = V.int 1
                rw [this])) h
          refine ⟨_, rfl, _, rfl, _, _, rfl, rfl, .inl hbi, ?_⟩
          refine ⟨_, rfl, _, _, rfl, rfl, ⟨by decide, by decide⟩, rfl, ?_⟩
          rw [e1, e2, e3, h1, Nat.mul_zero, Nat.add_zero]
          generalize b ^ 2 ^ k = x
          generalize b ^ (c % 2 ^ k) = y
          generalize c / 2 ^ k = z
          rw [Int.natCast_mul]
          rfl
/-! ### machine_count -/
def spMC : Sp := fun vs H Q _ => ∃ n : Nat, vs = [.int n] ∧ 1 ≤ n ∧ n ≤ 6 ∧ Q (.int (((6 * n + 1) ^ (2 * n) : Nat) : Int)) H
theorem scMC : FnScope ["states"] ["states"] (defScope sCount) := ⟨rfl, rfl, rfl, by decide +kernel, rfl, by decide +kernel, by decide +kernel⟩
theorem ok_mc {f fCS fPW : Addr} {fd dCS dPW : FuncData} (F : Fun K "machine_count" "machine_count" sCount f fd) (T : Txt K mg C)
    (FC : Fun K "check_states" "check_states" sChkS fCS dCS) (bC : Binds K dCS ["states"] []) (gC : mg "check_states" = some (.ref fCS))
    (FW : Fun K "power" "power" sPower fPW dPW) (bW : Binds K dPW ["base", "count"] []) (gW : mg "power" = some (.ref fPW)) : FnOk P w K mg base CX0 2 f fd ["states"] spMC := by
  have GC : FnOk P w K mg base CX0 1 fCS dCS ["states"] spCS := ok_cs FC T
  have GW : FnOk P w K mg base CX0 1 fPW dPW ["base", "count"] spPW := ok_pw FW
  refine F.ok scMC (fun vs H Q E h => ?_) (fun cdv A outer s H vs Q E hr h => ?_)
  · obtain ⟨n, rfl, _⟩ := h
    rfl
  · obtain ⟨n, rfl, h1, h6, q⟩ := h
    refine ⟨_, pss_cons (ps_expr (pe_call GC hr (by rfl) gC FC.kp bC .nil pass0 (pa_cons (pv 0) pa_nil)))
      (pss_one (ps_ret (pe_call GW hr (by rfl) gW FW.kp bW .nil pass0 (pa_cons (pe_op op_add (pe_op op_mul pe_int (pv 0)) pe_int) (pa_cons (pe_op op_mul pe_int (pv 0)) pa_nil))))), ?_⟩
    refine ⟨_, rfl, n, rfl, h1, h6, ?_⟩
    refine ⟨_, rfl, _, _, rfl, rfl, .inl ⟨by decide, by decide⟩, _, _, rfl, rfl, _, rfl, _, _, rfl, rfl, .inl ⟨by decide, by decide⟩, 6 * n + 1, 2 * n, ?_, by omega, by omega, q⟩
    show [V.int (6 * (n : Int) + 1), V.int (2 * (n : Int))] = [V.int ((6 * n + 1 : Nat) : Int), V.int ((2 * n : Nat) : Int)]
    rw [show (6 * (n : Int) + 1) = ((6 * n + 1 : Nat) : Int) by omega, show (2 * (n : Int)) = ((2 * n : Nat) : Int) by omega]
/-! ### check_index -/
def spCI : Sp := fun vs H Q _ => ∃ n i : Nat, vs = [.int n, .int i] ∧ 1 ≤ n ∧ n ≤ 6 ∧ i < (6 * n + 1) ^ (2 * n) ∧ Q .non H
theorem scCI : FnScope ["states", "index"] ["states", "index"] (defScope sChkI) := ⟨rfl, rfl, rfl, by decide +kernel, rfl, by decide +kernel, by decide +kernel⟩
theorem ok_ci {f fMC : Addr} {fd dMC : FuncData} (F : Fun K "check_index" "check_index" sChkI f fd)
    (GM : FnOk P w K mg base CX0 2 fMC dMC ["states"] spMC) (kM : PySem.W.keepIn K (.ref fMC) = true) (bM : Binds K dMC ["states"] []) (gM : mg "machine_count" = some (.ref fMC)) : FnOk P w K mg base CX0 3 f fd ["states", "index"] spCI := by
  refine F.ok scCI (fun vs H Q E h => ?_) (fun cdv A outer s H vs Q E hr h => ?_)
  · obtain ⟨n, i, rfl, _⟩ := h
    rfl
  · obtain ⟨n, i, rfl, h1, h6, hi, q⟩ := h
    refine ⟨_, pss_one (ps_if (pt_not (pt_chain op_le op_lt pe_int (pv 1) (pe_call GM hr (by rfl) gM kM bM .nil pass0 (pa_cons (pv 0) pa_nil)))) (pss_one ps_never) pss_nil), ?_⟩
    refine ⟨_, rfl, _, _, rfl, rfl, _, rfl, ifT (decide_eq_true (by omega)) ?_⟩
    refine ⟨_, rfl, n, rfl, h1, h6, _, _, rfl, rfl, _, rfl, ifN (decide_eq_true (by omega)) ?_⟩
    exact q
/-! ### rule_for -/
def spRF : Sp := fun vs H Q _ => ∃ p x : Nat, vs = [.int (p / 2 : Nat), .int (p % 2 : Nat), .int x] ∧ x ≠ 0 ∧ ∀ t, H t = none → Q (.ref t) (upd H t (.tup ((rule5 p x).map V.int)))
theorem scRF : FnScope ["state", "symbol", "entry", "rest"] ["state", "symbol", "entry"] (defScope sRuleFor) := ⟨rfl, rfl, rfl, by decide +kernel, rfl, by decide +kernel, by decide +kernel⟩
theorem ok_rf {f : Addr} {fd : FuncData} (F : Fun K "rule_for" "rule_for" sRuleFor f fd) : FnOk P w K mg base CX0 1 f fd ["state", "symbol", "entry"] spRF := by
  refine F.ok scRF (fun vs H Q E h => ?_) (fun cdv A outer s H vs Q E hr h => ?_)
  · obtain ⟨p, x, rfl, _⟩ := h
    rfl
  · obtain ⟨p, x, rfl, hx, q⟩ := h
    refine ⟨_, pss_cons (ps_set (i := 3) scRF.nd rfl (.inl rfl) (pe_op op_sub (pv 2) pe_int))
      (pss_one (ps_ret (pe_tup (pa_cons (pv 0) (pa_cons (pv 1) (pa_cons (pe_op op_mod (pe_op op_fdiv (pv 3) pe_int) pe_int) (pa_cons (pe_op op_sub (pe_op op_mod (pv 3) pe_int) pe_int) (pa_cons (pe_op op_fdiv (pv 3) pe_int) pa_nil)))))))), ?_⟩
    refine ⟨_, rfl, _, _, rfl, rfl, ?_⟩
    refine ⟨_, rfl, _, rfl, _, rfl, _, _, rfl, rfl, ⟨by decide, by decide⟩, _, _, rfl, rfl, (by show (0 : Int) < 2; decide), _, rfl, _, _, rfl, rfl, (by show (0 : Int) < 3; decide), _, _, rfl, rfl, _, rfl, _, _, rfl, rfl, ⟨by decide, by decide⟩, (by show 5 ≤ sizeLine; decide), fun t ht => ?_⟩
    have e : [V.int (p / 2 : Nat), V.int (p % 2 : Nat), V.int (((x : Int) - 1) / 3 % 2), V.int (((x : Int) - 1) % 3 - 1), V.int (((x : Int) - 1) / 6)] = (rule5 p x).map V.int := by
      unfold rule5
      rw [show ((x : Int) - 1) = ((x - 1 : Nat) : Int) by omega]
      rfl
    have z := q t ht
    rw [← e] at z
    exact z
end
end K9

/-! ### what a machine looks like in the heap -/
namespace K9
open PySem PySem.Spec PyProof.Rows L2
theorem sUpd {H : Hp} {p : Addr} {o : HO} (h : H p = none) : Same H (upd H p o) := fun b x e => by
  rw [upd_ne (ne_of_none e h)]
  exact e
theorem Same.tup {K : PySem.W.Frag} {H H' : Hp} {a : Addr} {xs : List V} (e : Same H H') (h : SqT K H a xs) : SqT K H' a xs := by
  rcases h with (h | ⟨o, h⟩) | h
  · exact .inl (.inl (e _ _ h))
  · exact .inl (.inr ⟨o, e _ _ h⟩)
  · exact .inr h
/-- the tuples stand there -/
def Rows (H : Hp) (L : List (Addr × List Int)) : Prop := ∀ q ∈ L, H q.1 = some (.tup (q.2.map V.int))
theorem Rows.same {H H' : Hp} {L : List (Addr × List Int)} (h : Rows H L) (s : Same H H') : Rows H' L := fun q hq => s _ _ (h q hq)
/-! ### the fields -/
def fS (n : Nat) : List (Str × V) := putF "states" (.int n) []
def fY (n : Nat) : List (Str × V) := putF "symbols" (.int 2) (fS n)
def fT (n : Nat) (d : Addr) : List (Str × V) := putF "table" (.ref d) (fY n)
def flds (n : Nat) (d r : Addr) : List (Str × V) := putF "rules" (.ref r) (fT n d)
theorem fS_len (n : Nat) : (fS n).length < 1000 := Nat.lt_of_le_of_lt (length_putF _ _ _) (by decide)
theorem fS_len1 (n : Nat) : (fS n).length ≤ 1 := length_putF _ _ _
theorem fY_len1 (n : Nat) : (fY n).length ≤ 2 := Nat.le_trans (length_putF _ _ _) (Nat.succ_le_succ (fS_len1 n))
theorem fT_len1 (n : Nat) (d : Addr) : (fT n d).length ≤ 3 := Nat.le_trans (length_putF _ _ _) (Nat.succ_le_succ (fY_len1 n))
theorem fY_len (n : Nat) : (fY n).length < 1000 := Nat.lt_of_le_of_lt (fY_len1 n) (by decide)
theorem fT_len (n : Nat) (d : Addr) : (fT n d).length < 1000 := Nat.lt_of_le_of_lt (fT_len1 n d) (by decide)
theorem n_sr : ¬ (("states" : Str) = "rules") := by decide +kernel
theorem n_st : ¬ (("states" : Str) = "table") := by decide +kernel
theorem n_sy : ¬ (("states" : Str) = "symbols") := by decide +kernel
theorem n_yr : ¬ (("symbols" : Str) = "rules") := by decide +kernel
theorem n_yt : ¬ (("symbols" : Str) = "table") := by decide +kernel
theorem n_tr : ¬ (("table" : Str) = "rules") := by decide +kernel
theorem fl_states (n : Nat) (d r : Addr) : (flds n d r).lookup ("states" : Str) = some (.int n) := by
  unfold flds fT fY fS
  rw [lookup_putF, if_neg n_sr, lookup_putF, if_neg n_st, lookup_putF, if_neg n_sy, lookup_putF, if_pos rfl]
theorem fl_symbols (n : Nat) (d r : Addr) : (flds n d r).lookup ("symbols" : Str) = some (.int 2) := by
  unfold flds fT fY
  rw [lookup_putF, if_neg n_yr, lookup_putF, if_neg n_yt, lookup_putF, if_pos rfl]
theorem fl_table (n : Nat) (d r : Addr) : (flds n d r).lookup ("table" : Str) = some (.ref d) := by
  unfold flds fT
  rw [lookup_putF, if_neg n_tr, lookup_putF, if_pos rfl]
theorem fl_rules (n : Nat) (d r : Addr) : (flds n d r).lookup ("rules" : Str) = some (.ref r) := by
  unfold flds
  rw [lookup_putF, if_pos rfl]
theorem fl_no (n : Nat) (d r : Addr) {m : Str} (h1 : ¬ m = "rules") (h2 : ¬ m = "table") (h3 : ¬ m = "symbols") (h4 : ¬ m = "states") : (flds n d r).lookup m = none := by
  unfold flds fT fY fS
  rw [lookup_putF, if_neg h1, lookup_putF, if_neg h2, lookup_putF, if_neg h3, lookup_putF, if_neg h4]
  all_goals rfl
/-! ### the table -/
theorem kI_inj {a b : List Int} (h : kI a = kI b) : a = b := by
  have e := congrArg unk h
  rw [unk_kI, unk_kI] at e
  exact e
theorem valV_out {κ : Type} [DecidableEq κ] {kvs : List (κ × V)} {k : κ} (h : ¬ k ∈ kvs.map (·.1)) : valV kvs k = none := by
  cases e : valV kvs k with
  | none => rfl
  | some v => exact absurd (valV_in e) h
structure TabOk (H : Hp) (kvs : List (List Key × V)) (R : List (List Int)) : Prop where
  keys : kvs.map (fun x => x.1) = R.map fun r => kI (r.take 2)
  vals : ∀ r ∈ R, ∃ t, valV kvs (kI (r.take 2)) = some (.ref t) ∧ H t = some (.tup ((r.drop 2).map V.int))
theorem TabOk.nil {H : Hp} : TabOk H [] [] := ⟨rfl, fun r hr => absurd hr (by simp)⟩
theorem TabOk.len {H : Hp} {kvs : List (List Key × V)} {R : List (List Int)} (T : TabOk H kvs R) : kvs.length = R.length := by
  have e := congrArg List.length T.keys
  rw [List.length_map, List.length_map] at e
  exact e
/-- one more rule; H' keeps the values' tuples -/
theorem TabOk.snoc {H H' : Hp} {kvs : List (List Key × V)} {R : List (List Int)} {r : List Int} {t : Addr} (T : TabOk H kvs R) (hk : ∀ x ∈ R, x.take 2 ≠ r.take 2) (ht : H' t = some (.tup ((r.drop 2).map V.int)))
    (hs : ∀ (b : Addr) (xs : List V), H b = some (.tup xs) → H' b = some (.tup xs)) : valV kvs (kI (r.take 2)) = none ∧ TabOk H' (putK kvs (kI (r.take 2)) (.ref t)) (R ++ [r]) := by
  have hn : valV kvs (kI (r.take 2)) = none := valV_out fun m => by
    rw [T.keys] at m
    obtain ⟨x, hx, e⟩ := List.mem_map.mp m
    exact hk x hx (kI_inj e)
  refine ⟨hn, ?_, fun x hx => ?_⟩
  · rw [putK_new _ hn, List.map_append, List.map_append, T.keys]
    rfl
  · rw [putK_new _ hn, valV_snoc _ _ _ _ hn]
    rcases List.mem_append.mp hx with m | m
    · obtain ⟨u, e1, e2⟩ := T.vals x m
      exact ⟨u, by rw [if_neg fun z => hk x m (kI_inj z)]; exact e1, hs _ _ e2⟩
    · have e := List.mem_singleton.mp m
      subst e
      exact ⟨t, by rw [if_pos rfl], ht⟩
/-- what the table tells of the pair q with the entry x -/
def TabAt (H : Hp) (kvs : List (List Key × V)) (q x : Nat) : Prop :=
  (x = 0 → valV kvs (kI (key2 q)) = none) ∧ (x ≠ 0 → ∃ t, valV kvs (kI (key2 q)) = some (.ref t) ∧ H t = some (.tup (((rule5 q x).drop 2).map V.int)))
theorem TabOk.at {H : Hp} {kvs : List (List Key × V)} {R : List (List Int)} {N : Nat} {e : Nat → Nat} (T : TabOk H kvs R) (hp : R.Perm (rulesOf N e)) {q : Nat} (hq : q < N) : TabAt H kvs q (e q) := by
  refine ⟨fun h => valV_out fun m => ?_, fun h => ?_⟩
  · rw [T.keys] at m
    obtain ⟨r, hr, ek⟩ := List.mem_map.mp m
    obtain ⟨p, _, hp0, rfl⟩ := rulesOf_mem.mp (hp.mem_iff.mp hr)
    have : key2 p = key2 q := kI_inj ek
    rw [key2_inj this] at hp0
    exact hp0 h
  · exact T.vals (rule5 q (e q)) (hp.mem_iff.mpr (rulesOf_mem.mpr ⟨q, hq, h, rfl⟩))
/-! ### a machine -/
structure TurAt (C : Addr) (H : Hp) (p : Addr) (n : Nat) (e : Nat → Nat) : Prop where
  ex : ∃ (dx d r : Addr) (kvs : List (List Key × V)) (R : List (Addr × List Int)), H p = some (.ins C dx (flds n d r)) ∧ H d = some (.dT kvs) ∧ (∀ q, q < 2 * n → TabAt H kvs q (e q)) ∧
    H r = some (.tup (R.map fun q => V.ref q.1)) ∧ Rows H R ∧ R.map (fun q => q.2) = rulesOf (2 * n) e
theorem TabAt.same {H H' : Hp} {kvs : List (List Key × V)} {q x : Nat} (h : TabAt H kvs q x) (s : Same H H') : TabAt H' kvs q x :=
  ⟨h.1, fun z => by
    obtain ⟨t, a, b⟩ := h.2 z
    exact ⟨t, a, s _ _ b⟩⟩
theorem TurAt.same {C : Addr} {H H' : Hp} {p n : Nat} {e : Nat → Nat} (h : TurAt C H p n e) (s : Same H H') : TurAt C H' p n e := by
  obtain ⟨dx, d, r, kvs, R, h1, h2, h3, h4, h5, h6⟩ := h.ex
  exact ⟨dx, d, r, kvs, R, s _ _ h1, s _ _ h2, fun q hq => (h3 q hq).same s, s _ _ h4, h5.same s, h6⟩
theorem notin_take {α : Type} {l : List α} (hn : l.Nodup) {i : Nat} {x : α} (h : l[i]? = some x) : ¬ x ∈ l.take i := fun m => by
  obtain ⟨j, hj, e⟩ := List.mem_iff_getElem.mp m
  rw [List.length_take] at hj
  rw [List.getElem_take] at e
  have hjl : j < l.length := by omega
  have z : l[j]? = some x := by rw [List.getElem?_eq_getElem hjl, e]
  have := nd_ix hn z h
  omega
theorem rules_keys (N : Nat) (e : Nat → Nat) : (rulesOf N e).map (fun r => r.take 2) = (pairs N e).map key2 := by
  unfold rulesOf
  rw [List.map_map]
  rfl
theorem keys_nodup {R : List (List Int)} {N : Nat} {e : Nat → Nat} (h : R.Perm (rulesOf N e)) : (R.map fun r => r.take 2).Nodup := by
  have h1 : ((pairs N e).map key2).Nodup := by
    show List.Pairwise (· ≠ ·) _
    rw [List.pairwise_map]
    exact List.Pairwise.imp (fun {a b} hab z => hab (key2_inj z)) (pairs_nodup N e)
  rw [(h.map fun r => r.take 2).nodup_iff, rules_keys]
  exact h1
end K9

/-! ### Turing.__init__ -/
namespace K9
open PySem PySem.Spec PyProof.Rows L2
def spIN (K : PySem.W.Frag) (C : Addr) : Sp := fun vs H Q _ => ∃ (p dx a : Addr) (n : Nat) (L : List (Addr × List Int)) (e : Nat → Nat), vs = [.ref p, .int n, .int 2, .ref a] ∧ H p = some (.ins C dx []) ∧ SqL K H a (L.map fun q => V.ref q.1) ∧ Rows H L ∧
  1 ≤ n ∧ n ≤ 6 ∧ (∀ q, q < 2 * n → e q ≤ 6 * n) ∧ (L.map fun q => q.2).Perm (rulesOf (2 * n) e) ∧
  ∀ H', TurAt C H' p n e → (∀ b o, H b = some o → b ≠ p → H' b = some o) → Q .non H'
theorem in_moves {m : Int} (h : -1 ≤ m ∧ m ≤ 1) : inV (.int m) [.int (-1), .int 0, .int 1] = true := by
  have c : m = -1 ∨ m = 0 ∨ m = 1 := by omega
  rcases c with c | c | c <;> subst c <;> rfl
abbrev nmIN : List Str := ["self", "states", "symbols", "rules", "table", "state", "symbol", "written", "move", "following", "pair"]
theorem scIN : FnScope nmIN ["self", "states", "symbols", "rules"] (defScope sInit) := ⟨rfl, rfl, rfl, by decide +kernel, rfl, by decide +kernel, by decide +kernel⟩
section
variable {P : Program} {w : World} {K : PySem.W.Frag} {mg : Str → Option Value} {base : Heap} {C : Addr}
theorem ok_in {f : Addr} {fd : FuncData} (F : Fun K "__init__" "Turing.__init__" sInit f fd) (T : Txt K mg C) : FnOk P w K mg base CX0 1 f fd ["self", "states", "symbols", "rules"] (spIN K C) := by
  refine F.ok scIN (fun vs H Q E h => ?_) (fun cdv A outer s H vs Q E hr h => ?_)
  · obtain ⟨p, dx, a, n, L, e, rfl, _⟩ := h
    rfl
  · obtain ⟨p, dx, a, n, L, e, rfl, hp, hS, hL, h1, h6, he, hperm, q⟩ := h
    have hu := hu_of hr
    obtain ⟨t1, ht1⟩ := T.cT
    obtain ⟨t2, ht2⟩ := T.cY
    refine ⟨_, pss_cons (ps_if (PW.pt (pw_or (pt_not (pt_chain op_le op_le pe_int (pv 1) (pe_glob (v := .int 20000) rfl ht1 ⟨t1, rfl⟩))) (pw_or1 (pt_not (pt_chain op_le op_le pe_int (pv 2) (pe_glob (v := .int 400) rfl ht2 ⟨t2, rfl⟩)))))) (pss_one ps_never) pss_nil)
      (pss_cons (ps_set (i := 4) scIN.nd rfl (.inr rfl) pe_dnewT)
      (pss_cons (ps_for PassesOwn.never rfl (pi_list (pv 3))
          (pg_tup rfl (pgs_cons (pg_name (i := 5) scIN.nd rfl (.inl rfl)) (pgs_cons (pg_name (i := 6) scIN.nd rfl (.inl rfl)) (pgs_cons (pg_name (i := 7) scIN.nd rfl (.inl rfl)) (pgs_cons (pg_name (i := 8) scIN.nd rfl (.inl rfl)) (pgs_cons (pg_name (i := 9) scIN.nd rfl (.inl rfl)) pgs_nil))))))
        (pss_cons (ps_if (PW.pt (pw_or (pt_not (pt_chain op_le op_lt pe_int (pv 5) (pv 1))) (pw_or1 (pt_not (pt_chain op_le op_lt pe_int (pv 9) (pv 1)))))) (pss_one ps_never) pss_nil)
        (pss_cons (ps_if (PW.pt (pw_or (pt_not (pt_chain op_le op_lt pe_int (pv 6) (pv 2))) (pw_or (pt_not (pt_chain op_le op_lt pe_int (pv 7) (pv 2))) (pw_or1 (pt_cmpR op_notIn_seq (pv 8) (pe_tup (pa_cons (pe_un un_neg pe_int) (pa_cons pe_int (pa_cons pe_int pa_nil)))) (by rfl)))))) (pss_one ps_never) pss_nil)
        (pss_cons (ps_if (pt_cmp (pc_din hu (pe_tup (pa_cons (pv 5) (pa_cons (pv 6) pa_nil))) (pv 4))) (pss_one ps_never) pss_nil)
        (pss_one (ps_dput hu (pv 4) (pe_tup (pa_cons (pv 5) (pa_cons (pv 6) pa_nil))) (pe_tup (pa_cons (pv 7) (pa_cons (pv 8) (pa_cons (pv 9) pa_nil)))) rfl))))))
      (pss_cons (ps_fld (pv 0) (pv 1) rfl)
      (pss_cons (ps_fld (pv 0) (pv 2) rfl)
      (pss_cons (ps_fld (pv 0) (pv 4) rfl)
      (pss_one (ps_fld (pv 0) (pe_callTy call_tuple_of (by rfl) T.tuple boot_tuple
        (pa_cons (pe_lc (own := [("pair", 10)]) (g := gName 10) (tt := tYes) rfl scIN.nd (pi_list (pe_callB (cr_sortDT rfl) (by rfl) T.sorted boot_sorted (pa_cons (pv 4) pa_nil))) (blkOk_by (own := [("pair", 10)]) (N := nmIN) (sc := defScope sInit) (by decide +kernel))
          (fun _ _ _ _ _ => pg_name (i := 10) scIN.nd rfl (Or.inl rfl)) (fun _ _ _ _ _ => pts_nil) (fun _ _ _ _ _ => pe_op (r := rCatT K) op_catT (pv 10) (pe_dget hu (pv 4) (pv 10) (fun _ _ => rfl)))) pa_nil)) rfl))))))), ?_⟩
    -- the numbers of states and symbols
    refine ⟨_, rfl, _, _, rfl, rfl, _, rfl, ifT (decide_eq_true (by omega)) ⟨_, _, rfl, rfl, _, rfl, ifN (decide_eq_true (by omega)) ?_⟩⟩
    refine ⟨_, rfl, _, _, rfl, rfl, _, rfl, ifT (by decide) ⟨_, _, rfl, rfl, _, rfl, ifN (by decide) ?_⟩⟩
    -- table = {}
    intro d hd
    have npd : p ≠ d := ne_of_none hp hd
    have s0 : Same H (upd H d (.dT [])) := sUpd hd
    have hnd := keys_nodup hperm
    have hlen : L.length ≤ 12 := by
      have z := hperm.length_eq
      have z2 := rulesOf_len (2 * n) e
      rw [List.length_map] at z
      omega
    -- for state, symbol, written, move, following in rules
    refine ⟨_, rfl, a, rfl, ⟨_, s0.seq hS⟩, for_list (K := K) (a := a) (xs := L.map fun q => V.ref q.1) (fun i σ H2 => ∃ (v5 v6 v7 v8 v9 : Option V) (kvs : List (List Key × V)),
        σ = [some (.ref p), some (.int n), some (.int 2), some (.ref a), some (.ref d), v5, v6, v7, v8, v9, none] ∧ Same H H2 ∧ H2 d = some (.dT kvs) ∧ TabOk H2 kvs ((L.map fun q => q.2).take i))
      ⟨none, none, none, none, none, [], rfl, s0, upd_same, TabOk.nil⟩ (fun i σ H2 _ ⟨_, _, _, _, _, _, _, z, _⟩ => z.seq hS) ?_ ?_⟩
    · rintro i x σ H2 hi ⟨v5, v6, v7, v8, v9, kvs, rfl, s2, hd2, T2⟩
      obtain ⟨l, hl, rfl⟩ : ∃ l, L[i]? = some l ∧ x = V.ref l.1 := by
        rw [List.getElem?_map] at hi
        cases z : L[i]? with
        | none => rw [z] at hi; cases hi
        | some l => rw [z] at hi; exact ⟨l, rfl, (Option.some.inj hi).symm⟩
      have hml : l ∈ L := List.mem_of_getElem? hl
      obtain ⟨P0, hP, hP0, el⟩ := rulesOf_mem.mp (hperm.mem_iff.mp (List.mem_map.mpr ⟨l, hml, rfl⟩))
      obtain ⟨w0, m0, f0, er, hw, hm, hf, _⟩ := rule5_in (p := P0) hP0 (he P0 hP)
      have el2 : l.2 = [((P0 / 2 : Nat) : Int), ((P0 % 2 : Nat) : Int), w0, m0, f0] := el.trans er
      have hl2 := hL l hml
      rw [el2] at hl2
      -- the five names
      refine ⟨l.1, _, rfl, .inl (.inl (s2 _ _ hl2)), rfl, _, _, rfl, _, _, rfl, _, _, rfl, _, _, rfl, _, [], rfl, rfl, ?_⟩
      -- the tests
      refine ⟨_, rfl, _, _, rfl, rfl, _, rfl, ifT (decide_eq_true (by omega)) ⟨_, rfl, _, _, rfl, rfl, _, rfl, ifN (decide_eq_true (by omega)) ?_⟩⟩
      refine ⟨_, rfl, _, _, rfl, rfl, _, rfl, ifT (decide_eq_true (by omega)) ⟨_, rfl, _, _, rfl, rfl, _, rfl, ifN (decide_eq_true (by omega)) ?_⟩⟩
      refine ⟨_, rfl, _, _, rfl, rfl, _, rfl, ifT (decide_eq_true (by omega)) ⟨_, rfl, _, _, rfl, rfl, _, rfl, ifN (decide_eq_true (by omega)) ?_⟩⟩
      refine ⟨_, rfl, _, _, rfl, rfl, _, rfl, ifT (decide_eq_true (by omega)) ⟨_, rfl, _, _, rfl, rfl, _, rfl, ifN (decide_eq_true (by omega)) ?_⟩⟩
      refine ⟨_, rfl, _, rfl, (by show 3 ≤ sizeLine; decide), fun ta hta => ⟨ta, _, rfl, .inr (.inl (.inl upd_same)), rfl, rfl, _, rfl, ifN (in_moves hm) ?_⟩⟩
      have sa : Same H2 (upd H2 ta (.tup [.int (-1), .int 0, .int 1])) := sUpd hta
      -- if (state, symbol) in table
      have hk2 : key2 P0 = l.2.take 2 := by rw [el]; rfl
      have hne : ∀ x ∈ (L.map fun q => q.2).take i, x.take 2 ≠ l.2.take 2 := fun x hx z => by
        have g : ((L.map fun q => q.2).map fun r => r.take 2)[i]? = some (l.2.take 2) := by
          rw [List.getElem?_map, List.getElem?_map, hl]
          rfl
        refine notin_take hnd g ?_
        rw [← List.map_take]
        exact List.mem_map.mpr ⟨x, hx, z⟩
      refine ⟨_, rfl, _, rfl, (by show 2 ≤ sizeLine; decide), fun tb htb => ⟨_, rfl, d, _, rfl, DGet.t (k := kI (key2 P0)) ((sa.trans (sUpd htb)) _ _ hd2) (by rw [kI_V]; exact upd_same), _, rfl, ?_⟩⟩
      have sb := sa.trans (sUpd (o := .tup [.int ((P0 / 2 : Nat) : Int), .int ((P0 % 2 : Nat) : Int)]) htb)
      have hnone : valV kvs (kI (key2 P0)) = none := by
        rw [hk2]
        exact (T2.snoc (H' := upd H2 ta (.tup ((l.2.drop 2).map V.int))) hne upd_same fun b xs z => (sUpd hta) _ _ z).1
      refine ifF (by rw [hnone]; rfl) ?_
      -- table[state, symbol] = (written, move, following)
      refine ⟨_, rfl, _, rfl, _, rfl, (by show 3 ≤ sizeLine; decide), fun tc htc => ⟨_, rfl, _, rfl, _, rfl, (by show 2 ≤ sizeLine; decide), fun td htd => ?_⟩⟩
      have sc := sb.trans (sUpd (o := .tup [.int w0, .int m0, .int f0]) htc)
      have sd := sc.trans (sUpd (o := .tup [.int ((P0 / 2 : Nat) : Int), .int ((P0 % 2 : Nat) : Int)]) htd)
      have hlk : kvs.length ≤ 12 := by
        rw [T2.len, List.length_take, List.length_map]
        omega
      refine ⟨d, _, rfl, DPut.t (k := kI (key2 P0)) (sd _ _ hd2) (by rw [kI_V]; exact upd_same) (small1000 (by omega)), ?_⟩
      have ncd : tc ≠ d := fun z => by
        have := sb _ _ hd2
        rw [← z, htc] at this
        cases this
      have ncdd : tc ≠ td := ne_of_none upd_same htd
      have hsn := T2.snoc (r := l.2) (t := tc) (H' := upd (upd (upd (upd (upd H2 ta (.tup [.int (-1), .int 0, .int 1])) tb (.tup [.int ((P0 / 2 : Nat) : Int), .int ((P0 % 2 : Nat) : Int)])) tc (.tup [.int w0, .int m0, .int f0])) td (.tup [.int ((P0 / 2 : Nat) : Int), .int ((P0 % 2 : Nat) : Int)])) d (.dT (putK kvs (kI (key2 P0)) (.ref tc)))) hne
        (by rw [upd_ne ncd, upd_ne ncdd, upd_same, el2]; rfl) fun b xs z => by
          have nbd : b ≠ d := ne_of z hd2 (by intro y; cases y)
          rw [upd_ne nbd]
          exact sd _ _ z
      refine ⟨_, _, _, _, _, _, rfl, fun b o z => ?_, upd_same, ?_⟩
      · have nbd : b ≠ d := ne_of_none z hd
        rw [upd_ne nbd]
        exact sd _ _ (s2 _ _ z)
      · have et : (L.map fun q => q.2).take (i + 1) = (L.map fun q => q.2).take i ++ [l.2] := by
          rw [List.take_add_one, List.getElem?_map, hl]
          rfl
        rw [et]
        have z := hsn.2
        rw [← hk2] at z
        exact z
    · rintro σ H2 ⟨v5, v6, v7, v8, v9, kvs, rfl, s2, hd2, T2⟩
      have eR : (L.map fun q => q.2).take (L.map fun q => V.ref q.1).length = L.map fun q => q.2 := List.take_of_length_le (by rw [List.length_map, List.length_map]; exact Nat.le_refl _)
      rw [eR] at T2
      have hp2 := s2 _ _ hp
      -- self.states = states; self.symbols = symbols; self.table = table
      refine ⟨_, rfl, _, rfl, p, C, dx, [], rfl, hp2, T.cl, T.nS, (by show 0 < 1000; decide), ?_⟩
      refine ⟨_, rfl, _, rfl, p, C, dx, _, rfl, upd_same, T.cl, T.nY, fS_len n, ?_⟩
      refine ⟨_, rfl, _, rfl, p, C, dx, _, rfl, upd_same, T.cl, T.nT, fY_len n, ?_⟩
      have hup : ∀ b, b ≠ p → (upd (upd (upd H2 p (.ins C dx (putF "states" (.int n) []))) p (.ins C dx (putF "symbols" (.int 2) (putF "states" (.int n) [])))) p (.ins C dx (putF "table" (.ref d) (putF "symbols" (.int 2) (putF "states" (.int n) []))))) b = H2 b := fun b hb => by
        rw [upd_ne hb, upd_ne hb, upd_ne hb]
      generalize hH3 : (upd (upd (upd H2 p (.ins C dx (putF "states" (.int n) []))) p (.ins C dx (putF "symbols" (.int 2) (putF "states" (.int n) [])))) p (.ins C dx (putF "table" (.ref d) (putF "symbols" (.int 2) (putF "states" (.int n) []))))) = H3 at hup
      have hp3 : H3 p = some (.ins C dx (fT n d)) := by
        rw [← hH3]
        exact upd_same
      have hd3 : H3 d = some (.dT kvs) := by
        rw [hup d npd.symm]
        exact hd2
      have t3 : ∀ (b : Addr) (xs : List V), H2 b = some (.tup xs) → H3 b = some (.tup xs) := fun b xs z => by
        have nb : b ≠ p := ne_of z hp2 (by intro y; cases y)
        rw [hup b nb]
        exact z
      -- sorted(table)
      refine ⟨_, rfl, d, kvs, 2, rfl, .inl hd3, (by rw [T2.len, List.length_map]; omega), by decide, fun x hx => ?_, fun L' sq pm hrw hpw hsq => ?_⟩
      · have hm : x.1 ∈ kvs.map fun x => x.1 := List.mem_map.mpr ⟨x, hx, rfl⟩
        rw [T2.keys] at hm
        obtain ⟨r, hr', ek⟩ := List.mem_map.mp hm
        obtain ⟨P0, hP, hP0, rfl⟩ := rulesOf_mem.mp (hperm.mem_iff.mp hr')
        exact ⟨key2 P0, ek.symm, rfl, key2_bd hP h6⟩
      have ek : (L'.map fun q => q.2) = (pairs (2 * n) e).map key2 := by
        refine perm_sorted_eq rk _ _ ?_ ?_ (keys_sorted h6)
        · have z := pm.map unk
          rw [T2.keys, List.map_map, List.map_map] at z
          have z1 : (L'.map (unk ∘ fun q => kI q.2)) = L'.map fun q => q.2 := List.map_congr_left fun q _ => unk_kI q.2
          have z2 : ((L.map fun q => q.2).map (unk ∘ fun r => kI (r.take 2))) = (L.map fun q => q.2).map fun r => r.take 2 := List.map_congr_left fun r _ => unk_kI _
          rw [z1, z2] at z
          have y := hperm.map fun r => r.take 2
          rw [rules_keys] at y
          exact z.trans y
        · rw [List.pairwise_map]
          exact hpw
      have s4 : Same H3 (upd H3 sq (.lst (L'.map fun q => V.ref q.1))) := sUpd hsq
      generalize hH4 : upd H3 sq (.lst (L'.map fun q => V.ref q.1)) = H4 at s4
      have hq4 : H4 sq = some (.lst (L'.map fun q => V.ref q.1)) := by
        rw [← hH4]
        exact upd_same
      refine ⟨sq, rfl, ⟨_, SqL.of hq4⟩, fun D hD => lc_list (K := K) (a := sq) (xs := L'.map fun q => V.ref q.1) (fun i H5 => ∃ R : List (Addr × List Int), Same H4 H5 ∧ H5 D = some (.lst (R.map fun q => V.ref q.1)) ∧ Rows H5 R ∧ (R.map fun q => q.2) = (rulesOf (2 * n) e).take i)
        ⟨[], sUpd hD, upd_same, fun q hq => absurd hq (by simp), rfl⟩ (fun i H5 _ ⟨_, z, _⟩ => SqL.of (z _ _ hq4)) ?_ ?_⟩
      · rintro i x H5 hi ⟨R, s5, hD5, hR5, eR5⟩
        obtain ⟨l, hl, rfl⟩ : ∃ l, L'[i]? = some l ∧ x = V.ref l.1 := by
          rw [List.getElem?_map] at hi
          cases z : L'[i]? with
          | none => rw [z] at hi; cases hi
          | some l => rw [z] at hi; exact ⟨l, rfl, (Option.some.inj hi).symm⟩
        obtain ⟨P0, hP, e2⟩ : ∃ P0, (pairs (2 * n) e)[i]? = some P0 ∧ l.2 = key2 P0 := by
          have z : (L'.map fun q => q.2)[i]? = some l.2 := by
            rw [List.getElem?_map, hl]
            rfl
          rw [ek, List.getElem?_map] at z
          cases y : (pairs (2 * n) e)[i]? with
          | none => rw [y] at z; cases z
          | some P0 => rw [y] at z; exact ⟨P0, rfl, (Option.some.inj z).symm⟩
        obtain ⟨hPn, hP0⟩ := pairs_mem.mp (List.mem_of_getElem? hP)
        have hk := hrw l (List.mem_of_getElem? hl)
        rw [e2] at hk
        have hk5 : H5 l.1 = some (.tup ((key2 P0).map V.int)) := s5 _ _ (s4 _ _ hk)
        obtain ⟨tv, hv, htv⟩ := (T2.at hperm hPn).2 hP0
        have htv5 := s5 _ _ (s4 _ _ (t3 _ _ htv))
        have hd5 := s5 _ _ (s4 _ _ hd3)
        have hg : DGet H5 d (.ref l.1) (some (.ref tv)) := by
          have z := DGet.t (k := kI (key2 P0)) hd5 (by rw [kI_V]; exact hk5)
          rw [hv] at z
          exact z
        refine ⟨rfl, _, rfl, _, rfl, _, rfl, d, _, rfl, hg, l.1, tv, _, _, rfl, rfl, .inl (.inl hk5), .inl (.inl htv5), (by simp [key2]), (by show 5 ≤ sizeLine; decide), (fun z => absurd z (by simp [rule5])), fun _ tn htn => ?_⟩
        have hD6 : (upd H5 tn (.tup ((key2 P0).map V.int ++ ((rule5 P0 (e P0)).drop 2).map V.int))) D = some (.lst (R.map fun q => V.ref q.1)) := (sUpd htn) _ _ hD5
        have hRl : R.length ≤ 12 := by
          have z := congrArg List.length eR5
          have y := rulesOf_len (2 * n) e
          rw [List.length_map, List.length_take] at z
          omega
        refine ⟨_, hD6, small1000 (by rw [List.length_map]; omega), R ++ [(tn, rule5 P0 (e P0))], fun b o z => ?_, ?_, fun y hy => ?_, ?_⟩
        · have nb : b ≠ D := ne_of_none z hD
          rw [upd_ne nb]
          exact (sUpd htn) _ _ (s5 _ _ z)
        · rw [upd_same, List.map_append]
          rfl
        · have nyD : ∀ (b : Addr) (xs : List V), (upd H5 tn (.tup ((key2 P0).map V.int ++ ((rule5 P0 (e P0)).drop 2).map V.int))) b = some (.tup xs) → b ≠ D := fun b xs z => ne_of z hD6 (by intro y; cases y)
          rcases List.mem_append.mp hy with m | m
          · have z := (sUpd (o := .tup ((key2 P0).map V.int ++ ((rule5 P0 (e P0)).drop 2).map V.int)) htn) _ _ (hR5 y m)
            rw [upd_ne (nyD _ _ z)]
            exact z
          · have ey := List.mem_singleton.mp m
            subst ey
            have z : (upd H5 tn (.tup ((key2 P0).map V.int ++ ((rule5 P0 (e P0)).drop 2).map V.int))) tn = some (.tup ((key2 P0).map V.int ++ ((rule5 P0 (e P0)).drop 2).map V.int)) := upd_same
            rw [upd_ne (nyD _ _ z)]
            exact z
        · have g : (rulesOf (2 * n) e)[i]? = some (rule5 P0 (e P0)) := by
            unfold rulesOf
            rw [List.getElem?_map, hP]
            rfl
          rw [List.take_add_one, g, List.map_append, eR5]
          rfl
      · rintro H5 ⟨R, s5, hD5, hR5, eR5⟩
        have eL : (rulesOf (2 * n) e).take (L'.map fun q => V.ref q.1).length = rulesOf (2 * n) e := List.take_of_length_le (by
          have z := congrArg List.length ek
          rw [List.length_map, List.length_map] at z
          unfold rulesOf
          rw [List.length_map, List.length_map, z]
          exact Nat.le_refl _)
        rw [eL] at eR5
        -- self.rules = tuple(..)
        refine ⟨D, _, rfl, .inl ⟨SqL.of hD5, fun tl htl => ?_⟩⟩
        have s6 : Same H5 (upd H5 tl (.tup (R.map fun q => V.ref q.1))) := sUpd htl
        have hp6 := s6 _ _ (s5 _ _ (s4 _ _ hp3))
        refine ⟨_, rfl, p, C, dx, _, rfl, hp6, T.cl, T.nR, fT_len n d, ?_⟩
        have t7 : ∀ (b : Addr) (o : HO), (∀ ds fs, o ≠ .ins C ds fs) → (upd H5 tl (.tup (R.map fun q => V.ref q.1))) b = some o → (upd (upd H5 tl (.tup (R.map fun q => V.ref q.1))) p (.ins C dx (putF "rules" (.ref tl) (fT n d)))) b = some o := fun b o ho z => by
          have nb : b ≠ p := ne_of z hp6 (ho _ _)
          rw [upd_ne nb]
          exact z
        refine q _ ⟨dx, d, tl, kvs, R, upd_same, t7 _ _ (fun _ _ y => by cases y) (s6 _ _ (s5 _ _ (s4 _ _ hd3))), fun x hx => ?_, t7 _ _ (fun _ _ y => by cases y) upd_same, fun y hy => t7 _ _ (fun _ _ y => by cases y) (s6 _ _ (hR5 y hy)), eR5⟩ fun b o z nb => ?_
        · obtain ⟨g1, g2⟩ := T2.at hperm hx
          refine ⟨g1, fun z => ?_⟩
          obtain ⟨t, a1, a2⟩ := g2 z
          exact ⟨t, a1, t7 _ _ (fun _ _ y => by cases y) (s6 _ _ (s5 _ _ (s4 _ _ (t3 _ _ a2))))⟩
        · rw [upd_ne nb]
          refine s6 _ _ (s5 _ _ (s4 _ _ ?_))
          rw [hup b nb]
          exact s2 _ _ z
end
end K9

/-! ### Turing.__eq__, Turing.rule -/
namespace K9
open PySem PySem.Spec PyProof.Rows L2
theorem dp_ints (K : PySem.W.Frag) (H : Hp) : ∀ ns : List Int, DpAll K H (ns.map V.int) (ns.map PyData.int)
  | [] => .nil
  | x :: r => .cons (.int x) (dp_ints K H r)
theorem dp_rows (K : PySem.W.Frag) {H : Hp} : ∀ R : List (Addr × List Int), Rows H R → DpAll K H (R.map fun q => V.ref q.1) ((R.map fun q => q.2).map fun ns => PyData.tuple (ns.map PyData.int))
  | [], _ => .nil
  | q :: r, h => .cons (.tup (.inl (.inl (h q List.mem_cons_self))) (dp_ints K H q.2)) (dp_rows K r fun x hx => h x (List.mem_cons_of_mem _ hx))
theorem lay_ints : ∀ ns : List Int, PyData.canLayAll0 (ns.map PyData.int) = true
  | [] => rfl
  | x :: r => by
    show (PyData.canLay0 (.int x) && PyData.canLayAll0 (r.map PyData.int)) = true
    rw [lay_ints r]
    rfl
theorem lay_tups : ∀ R : List (List Int), PyData.canLayAll0 (R.map fun ns => PyData.tuple (ns.map PyData.int)) = true
  | [] => rfl
  | x :: r => by
    show (PyData.canLayAll0 (x.map PyData.int) && PyData.canLayAll0 (r.map fun ns => PyData.tuple (ns.map PyData.int))) = true
    rw [lay_tups r, lay_ints]
    rfl
theorem dep_ints : ∀ ns : List Int, PyData.depthAll (ns.map PyData.int) ≤ 0
  | [] => Nat.le_refl _
  | x :: r => by
    show max 0 (PyData.depthAll (r.map PyData.int)) ≤ 0
    have := dep_ints r
    omega
theorem dep_tups : ∀ R : List (List Int), PyData.depthAll (R.map fun ns => PyData.tuple (ns.map PyData.int)) ≤ 1
  | [] => Nat.zero_le _
  | x :: r => by
    show max (PyData.depthAll (x.map PyData.int) + 1) (PyData.depthAll (r.map fun ns => PyData.tuple (ns.map PyData.int))) ≤ 1
    have := dep_tups r
    have := dep_ints x
    omega
theorem shaped_dat (R : List (List Int)) : SeqAt.shaped (dat R) = true := by
  unfold SeqAt.shaped
  rw [show PyData.canLay0 (dat R) = true from lay_tups R]
  have : PyData.depth (dat R) ≤ 64 := by
    show PyData.depthAll (R.map fun ns => PyData.tuple (ns.map PyData.int)) + 1 ≤ 64
    have := dep_tups R
    omega
  rw [decide_eq_true this]
  rfl
theorem shaped_datL (R : List (List Int)) : SeqAt.shaped (datL R) = true := by
  unfold SeqAt.shaped
  rw [show PyData.canLay0 (datL R) = true from lay_tups R]
  have : PyData.depth (datL R) ≤ 64 := by
    show PyData.depthAll (R.map fun ns => PyData.tuple (ns.map PyData.int)) + 1 ≤ 64
    have := dep_tups R
    omega
  rw [decide_eq_true this]
  rfl
section
variable {P : Program} {w : World} {K : PySem.W.Frag} {mg : Str → Option Value} {base : Heap} {C : Addr}
def spEQ (C : Addr) : Sp := fun vs H Q _ => ∃ (a b : Addr) (n : Nat) (e e' : Nat → Nat), vs = [.ref a, .ref b] ∧ TurAt C H a n e ∧ TurAt C H b n e' ∧ Q (.bl (decide (rulesOf (2 * n) e = rulesOf (2 * n) e'))) H
theorem scEQ : FnScope ["self", "other"] ["self", "other"] (defScope sEq) := ⟨rfl, rfl, rfl, by decide +kernel, rfl, by decide +kernel, by decide +kernel⟩
theorem ok_eq {f : Addr} {fd : FuncData} (F : Fun K "__eq__" "Turing.__eq__" sEq f fd) (T : Txt K mg C) : FnOk P w K mg base CX0 1 f fd ["self", "other"] (spEQ C) := by
  refine F.ok scEQ (fun vs H Q E h => ?_) (fun cdv A outer s H vs Q E hr h => ?_)
  · obtain ⟨a, b, n, e, e', rfl, _⟩ := h
    rfl
  · obtain ⟨a, b, n, e, e', rfl, h1, h2, q⟩ := h
    obtain ⟨dx, d, r, kvs, R, a1, a2, a3, a4, a5, a6⟩ := h1.ex
    obtain ⟨dx', d', r', kvs', R', b1, b2, b3, b4, b5, b6⟩ := h2.ex
    refine ⟨_, pss_cons (ps_if (pt_not (pt_val (pe_callB (C8.call_isC T.ic) (by rfl) T.isi boot_isinstance (pa_cons (pv 1) (pa_cons (pe_glob (v := .ref C) rfl T.mgC rfl) pa_nil))))) (pss_one (ps_ret pe_bl)) pss_nil)
      (pss_one (ps_ret (pe_and (pe_cmpR op_eq (pe_fld (pv 0) rfl) (pe_fld (pv 1) rfl) (nomark _)) (pe_and (pe_cmpR op_eq (pe_fld (pv 0) rfl) (pe_fld (pv 1) rfl) (nomark _)) (pe_one (pe_cmpR (op_eqD hr.units) (pe_fld (pv 0) rfl) (pe_fld (pv 1) rfl) (nomark _))))))), ?_⟩
    refine ⟨_, rfl, b, dx', _, rfl, b1, _, rfl, ifN rfl ?_⟩
    refine ⟨_, rfl, a, C, dx, _, _, rfl, a1, T.cl, T.nS, fl_states _ _ _, _, rfl, b, C, dx', _, _, rfl, b1, T.cl, T.nS, fl_states _ _ _, rfl, _, rfl, ifT (decide_eq_true rfl) ?_⟩
    refine ⟨_, rfl, a, C, dx, _, _, rfl, a1, T.cl, T.nY, fl_symbols _ _ _, _, rfl, b, C, dx', _, _, rfl, b1, T.cl, T.nY, fl_symbols _ _ _, rfl, _, rfl, ifT (decide_eq_true rfl) ?_⟩
    refine ⟨_, rfl, a, C, dx, _, _, rfl, a1, T.cl, T.nR, fl_rules _ _ _, _, rfl, b, C, dx', _, _, rfl, b1, T.cl, T.nR, fl_rules _ _ _, dat (rulesOf (2 * n) e), dat (rulesOf (2 * n) e'), ?_, ?_, shaped_dat _, shaped_dat _, ?_⟩
    · rw [← a6]
      exact .tup (.inl (.inl a4)) (dp_rows K R a5)
    · rw [← b6]
      exact .tup (.inl (.inl b4)) (dp_rows K R' b5)
    · rw [eqv_dat]
      exact q
def spRU (C : Addr) : Sp := fun vs H Q _ => ∃ (a : Addr) (p n : Nat) (e : Nat → Nat), vs = [.ref a, .int (p / 2 : Nat), .int (p % 2 : Nat)] ∧ TurAt C H a n e ∧ p < 2 * n ∧
  (e p = 0 → ∀ H', Same H H' → Q .non H') ∧ (e p ≠ 0 → ∀ H' t, Same H H' → H' t = some (.tup (((rule5 p (e p)).drop 2).map V.int)) → Q (.ref t) H')
theorem scRU : FnScope ["self", "state", "symbol"] ["self", "state", "symbol"] (defScope sRule) := ⟨rfl, rfl, rfl, by decide +kernel, rfl, by decide +kernel, by decide +kernel⟩
theorem ok_ru {f : Addr} {fd : FuncData} (F : Fun K "rule" "Turing.rule" sRule f fd) (T : Txt K mg C) : FnOk P w K mg base CX0 1 f fd ["self", "state", "symbol"] (spRU C) := by
  refine F.ok scRU (fun vs H Q E h => ?_) (fun cdv A outer s H vs Q E hr h => ?_)
  · obtain ⟨a, p, n, e, rfl, _⟩ := h
    rfl
  · obtain ⟨a, p, n, e, rfl, h1, hp, q0, q1⟩ := h
    have hu := hu_of hr
    obtain ⟨dx, d, r, kvs, R, a1, a2, a3, a4, a5, a6⟩ := h1.ex
    refine ⟨_, pss_one (ps_ret (pe_dget1 hu (pe_fld (pv 0) rfl) (pe_tup (pa_cons (pv 1) (pa_cons (pv 2) pa_nil))) ⟨rfl, rfl, rfl, rfl⟩)), ?_⟩
    refine ⟨_, rfl, a, C, dx, _, _, rfl, a1, T.cl, T.nT, fl_table _ _ _, d, rfl, .inr ⟨kvs, .inl a2⟩, _, rfl, _, rfl, (by show 2 ≤ sizeLine; decide), fun t ht => ?_⟩
    have st : Same H (upd H t (.tup [.int (p / 2 : Nat), .int (p % 2 : Nat)])) := sUpd ht
    refine ⟨_, DGet.t (k := kI (key2 p)) (st _ _ a2) (by rw [kI_V]; exact upd_same), ?_⟩
    by_cases hz : e p = 0
    · rw [(a3 p hp).1 hz]
      exact q0 hz _ st
    · obtain ⟨u, hu1, hu2⟩ := (a3 p hp).2 hz
      rw [hu1]
      exact q1 hz _ u st (st _ _ hu2)
end
end K9

/-! ### machine_at, index_of -/
namespace K9
open PySem PySem.Spec PyProof.Rows L2
section
variable {P : Program} {w : World} {K : PySem.W.Frag} {mg : Str → Option Value} {base : Heap} {C : Addr}
def spMA (C : Addr) : Sp := fun vs H Q _ => ∃ (n : Nat) (e : Nat → Nat), vs = [.int n, .int ((valF (6 * n + 1) e 0 (2 * n) : Nat) : Int)] ∧ 1 ≤ n ∧ n ≤ 6 ∧ (∀ q, q < 2 * n → e q ≤ 6 * n) ∧
  ∀ H' p, Same H H' → TurAt C H' p n e → Q (.ref p) H'
theorem scMA : FnScope ["states", "index", "rules", "pair", "entry"] ["states", "index"] (defScope sMachAt) := ⟨rfl, rfl, rfl, by decide +kernel, rfl, by decide +kernel, by decide +kernel⟩
theorem ok_ma {f fCS fCI fRF fIN : Addr} {fd dCS dCI dRF dIN : FuncData} (F : Fun K "machine_at" "machine_at" sMachAt f fd) (T : Txt K mg C)
    (GS : FnOk P w K mg base CX0 1 fCS dCS ["states"] spCS) (kS : PySem.W.keepIn K (.ref fCS) = true) (bS : Binds K dCS ["states"] []) (gS : mg "check_states" = some (.ref fCS))
    (GI : FnOk P w K mg base CX0 3 fCI dCI ["states", "index"] spCI) (kI' : PySem.W.keepIn K (.ref fCI) = true) (bI : Binds K dCI ["states", "index"] []) (gI : mg "check_index" = some (.ref fCI))
    (GR : FnOk P w K mg base CX0 1 fRF dRF ["state", "symbol", "entry"] spRF) (kR : PySem.W.keepIn K (.ref fRF) = true) (bR : Binds K dRF ["state", "symbol", "entry"] []) (gR : mg "rule_for" = some (.ref fRF))
    (GN : FnOk P w K mg base CX0 1 fIN dIN ["self", "states", "symbols", "rules"] (spIN K C)) (bN : Binds K dIN ["self", "states", "symbols", "rules"] []) (mN : Meth K C "__init__" fIN) :
    FnOk P w K mg base CX0 4 f fd ["states", "index"] (spMA C) := by
  have M : Mk K C fIN := ⟨T.mkC, mN.at_, mN.fn, T.kC⟩
  refine F.ok scMA (fun vs H Q E h => ?_) (fun cdv A outer s H vs Q E hr h => ?_)
  · obtain ⟨n, e, rfl, _⟩ := h
    rfl
  · obtain ⟨n, e, rfl, h1, h6, he, q⟩ := h
    refine ⟨_, pss_cons (ps_expr (pe_call GS (hr.mono (by decide)) (by rfl) gS kS bS .nil pass0 (pa_cons (pv 0) pa_nil)))
      (pss_cons (ps_expr (pe_call GI hr (by rfl) gI kI' bI .nil pass0 (pa_cons (pv 0) (pa_cons (pv 1) pa_nil))))
      (pss_cons (ps_set (i := 2) scMA.nd rfl (.inl rfl) (pe_lst pa_nil))
      (pss_cons (ps_for PassesOwn.never rfl (pi_range1 rfl T.range (pa_cons (pe_op op_mul pe_int (pv 0)) pa_nil)) (pg_name (i := 3) scMA.nd rfl (.inl rfl))
        (pss_cons (ps_set (i := 4) scMA.nd rfl (.inl rfl) (pe_op op_mod (pv 1) (pe_op op_add (pe_op op_mul pe_int (pv 0)) pe_int)))
        (pss_cons (ps_set (i := 1) scMA.nd rfl (.inl rfl) (pe_op op_fdiv (pv 1) (pe_op op_add (pe_op op_mul pe_int (pv 0)) pe_int)))
        (pss_one (ps_if (pt_cmpR op_gt (pv 4) pe_int (nomark _))
          (pss_one (ps_expr (pe_bm PySem.F.plainAttrs_list PySem.F.slot_list_append PySem.F.type_list_append mt_append (pv 2)
            (pa_cons (pe_call GR (hr.mono (by decide)) (by rfl) gR kR bR .nil pass0 (pa_cons (pe_op op_fdiv (pv 3) pe_int) (pa_cons (pe_op op_mod (pv 3) pe_int) (pa_cons (pv 4) pa_nil)))) pa_nil)))) pss_nil)))))
      (pss_one (ps_ret (pe_make M GN (hr.mono (by decide)) rfl T.mgC bN .nil pass0 (pa_cons (pv 0) (pa_cons pe_int (pa_cons (pv 2) pa_nil))))))))), ?_⟩
    have hB : ∀ p, p < 2 * n → e p < 6 * n + 1 := fun p hp => Nat.lt_succ_of_le (he p hp)
    -- the checks
    refine ⟨_, rfl, n, rfl, h1, h6, ?_⟩
    refine ⟨_, rfl, _, rfl, n, _, rfl, h1, h6, valF_lt (2 * n) 0 fun p _ hp => hB p (by omega), ?_⟩
    -- rules = []
    refine ⟨by decide, fun l hl => ?_⟩
    have s0 : Same H (upd H l (.lst [])) := sUpd hl
    have eB : 6 * (n : Int) + 1 = ((6 * n + 1 : Nat) : Int) := by omega
    -- for pair in range(2 * states)
    refine ⟨_, rfl, _, _, rfl, rfl, .inl ⟨by decide, by decide⟩, _, rfl, by omega, by omega, for_range (lo := 0) (n := (2 * (n : Int)).toNat) (fun i σ H2 => ∃ (v3 v4 : Option V) (L : List (Addr × List Int)),
        σ = [some (.int n), some (.int ((valF (6 * n + 1) e i (2 * n - i) : Nat) : Int)), some (.ref l), v3, v4] ∧ Same H H2 ∧ H2 l = some (.lst (L.map fun q => V.ref q.1)) ∧ Rows H2 L ∧ (L.map fun q => q.2) = rulesOf i e)
      ⟨none, none, [], rfl, s0, upd_same, fun q hq => absurd hq (by simp), rfl⟩ ?_ ?_⟩
    · rintro i σ H2 hi ⟨v3, v4, L, rfl, s2, hl2, hL, eL⟩
      have hi' : i < 2 * n := by omega
      obtain ⟨k, hk⟩ : ∃ k, 2 * n - i = k + 1 := ⟨2 * n - i - 1, by omega⟩
      have hk2 : 2 * n - (i + 1) = k := by omega
      have hm : ((valF (6 * n + 1) e i (2 * n - i) : Nat) : Int) % (6 * (n : Int) + 1) = ((e i : Nat) : Int) := by
        rw [eB, hk, ← Int.natCast_emod, valF_mod (hB i hi')]
      have hdv : ((valF (6 * n + 1) e i (2 * n - i) : Nat) : Int) / (6 * (n : Int) + 1) = ((valF (6 * n + 1) e (i + 1) (2 * n - (i + 1)) : Nat) : Int) := by
        rw [eB, hk, hk2, ← Int.natCast_ediv, valF_div (hB i hi')]
      refine ⟨_, rfl, _, rfl, _, _, rfl, rfl, .inl ⟨by decide, by decide⟩, _, _, rfl, rfl, _, _, rfl, rfl, (by omega), ?_⟩
      refine ⟨_, rfl, _, rfl, _, _, rfl, rfl, .inl ⟨by decide, by decide⟩, _, _, rfl, rfl, _, _, rfl, rfl, ⟨by omega, by omega⟩, ?_⟩
      refine ⟨_, rfl, _, _, rfl, rfl, _, rfl, ite2 (fun h => ?_) (fun h => ?_)⟩
      · have hpos : 0 < e i := by
          have z : ((valF (6 * n + 1) e i (2 * n - i) : Nat) : Int) % (6 * (n : Int) + 1) > 0 := of_decide_eq_true h
          rw [hm] at z
          omega
        have hne : e i ≠ 0 := by omega
        refine ⟨_, rfl, .inl ⟨rfl, _, .inl (.inl hl2)⟩, _, rfl, _, _, rfl, rfl, ⟨by decide, by decide⟩, _, rfl, _, _, rfl, rfl, (by show (0 : Int) < 2; decide), _, rfl, i, e i, ?_, hne, fun t ht => ?_⟩
        · show [V.int ((0 + (i : Int)) / 2), V.int ((0 + (i : Int)) % 2), V.int (((valF (6 * n + 1) e i (2 * n - i) : Nat) : Int) % (6 * (n : Int) + 1))] = [V.int ((i / 2 : Nat) : Int), V.int ((i % 2 : Nat) : Int), V.int ((e i : Nat) : Int)]
          rw [hm, show (0 + (i : Int)) / 2 = ((i / 2 : Nat) : Int) by omega, show (0 + (i : Int)) % 2 = ((i % 2 : Nat) : Int) by omega]
        · have st : Same H2 (upd H2 t (.tup ((rule5 i (e i)).map V.int))) := sUpd ht
          have hlt := st _ _ hl2
          have nlt : ∀ (b : Addr) (xs : List V), (upd H2 t (.tup ((rule5 i (e i)).map V.int))) b = some (.tup xs) → b ≠ l := fun b xs z => ne_of z hlt (by intro y; cases y)
          have hLl : L.length ≤ 12 := by
            have z := congrArg List.length eL
            have y := rulesOf_len i e
            rw [List.length_map] at z
            omega
          refine ⟨l, _, _, rfl, rfl, hlt, small1000 (by rw [List.length_map]; omega), ?_⟩
          refine ⟨some (.int (0 + (i : Int))), some (.int (((valF (6 * n + 1) e i (2 * n - i) : Nat) : Int) % (6 * (n : Int) + 1))), L ++ [(t, rule5 i (e i))], ?_, fun b o z => ?_, ?_, fun y hy => ?_, ?_⟩
          · rw [← hdv]
            rfl
          · have nb : b ≠ l := ne_of_none z hl
            rw [upd_ne nb]
            exact st _ _ (s2 _ _ z)
          · rw [upd_same, List.map_append]
            rfl
          · rcases List.mem_append.mp hy with m | m
            · have z := st _ _ (hL y m)
              rw [upd_ne (nlt _ _ z)]
              exact z
            · have ey := List.mem_singleton.mp m
              subst ey
              have z : (upd H2 t (.tup ((rule5 i (e i)).map V.int))) t = some (.tup ((rule5 i (e i)).map V.int)) := upd_same
              rw [upd_ne (nlt _ _ z)]
              exact z
          · rw [rulesOf_succ1 hne, List.map_append, eL]
            rfl
      · have h0 : e i = 0 := by
          have z : ¬ ((valF (6 * n + 1) e i (2 * n - i) : Nat) : Int) % (6 * (n : Int) + 1) > 0 := fun y => h (decide_eq_true y)
          rw [hm] at z
          omega
        refine ⟨some (.int (0 + (i : Int))), some (.int (((valF (6 * n + 1) e i (2 * n - i) : Nat) : Int) % (6 * (n : Int) + 1))), L, ?_, s2, hl2, hL, ?_⟩
        · rw [← hdv]
          rfl
        · rw [rulesOf_succ0 h0, eL]
    · rintro σ H2 ⟨v3, v4, L, rfl, s2, hl2, hL, eL⟩
      rw [show (2 * (n : Int)).toNat = 2 * n by omega] at eL
      -- return Turing(states, 2, rules)
      refine ⟨_, rfl, _, rfl, fun x dx nx ndx nex => ?_⟩
      have s3 : Same H2 (upd (upd H2 dx (.own x)) x (.ins C dx [])) := fun b o z => by
        rw [upd_ne (ne_of_none z nx), upd_ne (ne_of_none z ndx)]
        exact z
      refine ⟨x, dx, l, n, L, e, rfl, upd_same, .inl (.inl (s3 _ _ hl2)), hL.same s3, h1, h6, he, by rw [eL], fun H' hT kp => ⟨rfl, ?_⟩⟩
      exact q H' x (s2.trans (Same.made nx ndx kp)) hT
/-! ### index_of -/
def spIX (C : Addr) : Sp := fun vs H Q _ => ∃ (a : Addr) (n : Nat) (e : Nat → Nat), vs = [.ref a] ∧ TurAt C H a n e ∧ 1 ≤ n ∧ n ≤ 6 ∧ (∀ q, q < 2 * n → e q ≤ 6 * n) ∧
  ∀ H', Same H H' → Q (.int ((valF (6 * n + 1) e 0 (2 * n) : Nat) : Int)) H'
theorem scIX : FnScope ["machine", "index", "pair", "entry", "rule", "written", "move", "following"] ["machine"] (defScope sIdxOf) := ⟨rfl, rfl, rfl, by decide +kernel, rfl, by decide +kernel, by decide +kernel⟩
theorem ok_ix {f fCS fRU : Addr} {fd dCS dRU : FuncData} (F : Fun K "index_of" "index_of" sIdxOf f fd) (T : Txt K mg C)
    (GS : FnOk P w K mg base CX0 1 fCS dCS ["states"] spCS) (kS : PySem.W.keepIn K (.ref fCS) = true) (bS : Binds K dCS ["states"] []) (gS : mg "check_states" = some (.ref fCS))
    (GU : FnOk P w K mg base CX0 1 fRU dRU ["self", "state", "symbol"] (spRU C)) (bU : Binds K dRU ["self", "state", "symbol"] []) (mU : Meth K C "rule" fRU) :
    FnOk P w K mg base CX0 2 f fd ["machine"] (spIX C) := by
  refine F.ok scIX (fun vs H Q E h => ?_) (fun cdv A outer s H vs Q E hr h => ?_)
  · obtain ⟨a, n, e, rfl, _⟩ := h
    rfl
  · obtain ⟨a, n, e, rfl, hT, h1, h6, he, q⟩ := h
    obtain ⟨dx, d, r, kvs, R, a1, a2, a3, a4, a5, a6⟩ := id hT.ex
    refine ⟨_, pss_cons (ps_expr (pe_call GS hr (by rfl) gS kS bS .nil pass0 (pa_cons (pe_fld (pv 0) rfl) pa_nil)))
      (pss_cons (ps_if (pt_cmpR op_ne (pe_fld (pv 0) rfl) pe_int (nomark _)) (pss_one ps_never) pss_nil)
      (pss_cons (ps_set (i := 1) scIX.nd rfl (.inl rfl) pe_int)
      (pss_cons (ps_for PassesOwn.never rfl (pi_range3 rfl T.range (pa_cons (pe_op op_sub (pe_op op_mul pe_int (pe_fld (pv 0) rfl)) pe_int) (pa_cons (pe_un un_neg pe_int) (pa_cons (pe_un un_neg pe_int) pa_nil)))) (pg_name (i := 2) scIX.nd rfl (.inl rfl))
        (pss_cons (ps_set (i := 3) scIX.nd rfl (.inl rfl) pe_int)
        (pss_cons (ps_set (i := 4) scIX.nd rfl (.inl rfl) (pe_meth (pv 0) T.cl mU GU hr bU .nil pass0 (pa_cons (pe_op op_fdiv (pv 2) pe_int) (pa_cons (pe_op op_mod (pv 2) pe_int) pa_nil))))
        (pss_cons (ps_if (pt_cmpR op_notN (pv 4) pe_non (nomark _))
          (pss_cons (ps_asg (pv 4) (pg_tup rfl (pgs_cons (pg_name (i := 5) scIX.nd rfl (.inl rfl)) (pgs_cons (pg_name (i := 6) scIX.nd rfl (.inl rfl)) (pgs_cons (pg_name (i := 7) scIX.nd rfl (.inl rfl)) pgs_nil)))))
          (pss_one (ps_set (i := 3) scIX.nd rfl (.inl rfl) (pe_op op_add (pe_op op_add (pe_op op_add pe_int (pe_op op_mul pe_int (pe_op op_add (pe_op op_mul pe_int (pv 7)) (pv 5)))) (pv 6)) pe_int)))) pss_nil)
        (pss_one (ps_set (i := 1) scIX.nd rfl (.inl rfl) (pe_op op_add (pe_op op_mul (pv 1) (pe_op op_add (pe_op op_mul pe_int (pe_fld (pv 0) rfl)) pe_int)) (pv 3))))))))
      (pss_one (ps_ret (pv 1)))))), ?_⟩
    have fa : ∀ H', Same H H' → H' a = some (.ins C dx (flds n d r)) := fun H' z => z _ _ a1
    -- check_states(machine.states)
    refine ⟨_, rfl, a, C, dx, _, _, rfl, a1, T.cl, T.nS, fl_states _ _ _, n, rfl, h1, h6, ?_⟩
    -- if machine.symbols != 2
    refine ⟨_, rfl, a, C, dx, _, _, rfl, a1, T.cl, T.nY, fl_symbols _ _ _, rfl, _, rfl, ?_⟩
    refine iteNS rfl ?_
    -- for pair in range(2 * machine.states - 1, -1, -1)
    refine ⟨_, rfl, a, C, dx, _, _, rfl, a1, T.cl, T.nS, fl_states _ _ _, _, _, rfl, rfl, .inl ⟨by decide, by decide⟩, _, _, rfl, rfl, _, rfl, _, rfl, 2 * (n : Int) - 1, -1, -1, 2 * n, rfl, ?_, ?_⟩
    · have z := RgC.neg (i := 2 * (n : Int) - 1) (j := -1) (by omega) (by omega) (by decide) (by decide)
      rw [show (2 * (n : Int) - 1 - -1).toNat = 2 * n by omega] at z
      exact z
    refine for_rangeC (lo := 2 * (n : Int) - 1) (c := -1) (n := 2 * n) (fun i σ H2 => ∃ (v2 v3 v4 v5 v6 v7 : Option V), σ = [some (.ref a), some (.int ((valF (6 * n + 1) e (2 * n - i) i : Nat) : Int)), v2, v3, v4, v5, v6, v7] ∧ Same H H2)
      ⟨none, none, none, none, none, none, rfl, Same.refl H⟩ ?_ ?_
    · rintro i σ H2 hi ⟨v2, v3, v4, v5, v6, v7, rfl, s2⟩
      obtain ⟨p, hp⟩ : ∃ p, p = 2 * n - 1 - i := ⟨_, rfl⟩
      have hpn : p < 2 * n := by omega
      have ep : 2 * (n : Int) - 1 + (i : Nat) * (-1 : Int) = (p : Int) := by omega
      have e2 : valF (6 * n + 1) e (2 * n - (i + 1)) (i + 1) = e p + (6 * n + 1) * valF (6 * n + 1) e (2 * n - i) i := by
        rw [show 2 * n - (i + 1) = p by omega, show 2 * n - i = p + 1 by omega]
        rfl
      have e3 : ((valF (6 * n + 1) e (2 * n - i) i : Nat) : Int) * (6 * (n : Int) + 1) + ((e p : Nat) : Int) = ((valF (6 * n + 1) e (2 * n - (i + 1)) (i + 1) : Nat) : Int) := by
        rw [e2, Int.natCast_add, Int.natCast_mul, Int.mul_comm, show ((6 * n + 1 : Nat) : Int) = 6 * (n : Int) + 1 by omega, Int.add_comm]
      -- entry = 0; rule = machine.rule(pair // 2, pair % 2)
      refine ⟨_, rfl, a, dx, _, rfl, fa _ s2, fl_no _ _ _ (by decide +kernel) (by decide +kernel) (by decide +kernel) (by decide +kernel), _, rfl, _, _, rfl, rfl, ⟨by decide, by decide⟩, _, rfl, _, _, rfl, rfl, (by show (0 : Int) < 2; decide), a, p, n, e, ?_, hT.same s2, hpn, fun h0 H3 s3 => ?_, fun h0 H3 t s3 ht => ?_⟩
      · show [V.ref a, V.int ((2 * (n : Int) - 1 + (i : Nat) * (-1 : Int)) / 2), V.int ((2 * (n : Int) - 1 + (i : Nat) * (-1 : Int)) % 2)] = [V.ref a, V.int ((p / 2 : Nat) : Int), V.int ((p % 2 : Nat) : Int)]
        rw [ep]
        rfl
      · -- no rule
        refine ⟨_, rfl, rfl, _, rfl, iteNS rfl ?_⟩
        refine ⟨_, rfl, _, rfl, a, C, dx, _, _, rfl, fa _ (s2.trans s3), T.cl, T.nS, fl_states _ _ _, _, _, rfl, rfl, .inl ⟨by decide, by decide⟩, _, _, rfl, rfl, _, _, rfl, rfl, .inr ⟨by omega, by omega⟩, _, rfl, _, _, rfl, rfl, ?_⟩
        refine ⟨some (.int (2 * (n : Int) - 1 + (i : Nat) * (-1 : Int))), some (.int 0), some .non, v5, v6, v7, ?_, s2.trans s3⟩
        rw [← e3, h0]
        rfl
      · obtain ⟨w0, m0, f0, er, hw, hm, hf, ex⟩ := rule5_in (p := p) h0 (he p hpn)
        rw [er] at ht
        refine ⟨_, rfl, rfl, _, rfl, ifT (by rfl) ?_⟩
        refine ⟨_, rfl, t, _, rfl, .inl (.inl ht), rfl, _, _, rfl, _, _, rfl, _, [], rfl, rfl, ?_⟩
        refine ⟨_, rfl, _, _, rfl, rfl, .inl ⟨by decide, by decide⟩, _, rfl, _, _, rfl, rfl, _, _, rfl, rfl, .inl ⟨by decide, by decide⟩, _, _, rfl, rfl, _, rfl, _, _, rfl, rfl, _, _, rfl, rfl, ?_⟩
        refine ⟨_, rfl, _, rfl, a, C, dx, _, _, rfl, fa _ (s2.trans s3), T.cl, T.nS, fl_states _ _ _, _, _, rfl, rfl, .inl ⟨by decide, by decide⟩, _, _, rfl, rfl, _, _, rfl, rfl, .inr ⟨by omega, by omega⟩, _, rfl, _, _, rfl, rfl, ?_⟩
        refine ⟨some (.int (2 * (n : Int) - 1 + (i : Nat) * (-1 : Int))), some (.int (1 + 3 * (2 * f0 + w0) + m0 + 1)), some (.ref t), some (.int w0), some (.int m0), some (.int f0), ?_, s2.trans s3⟩
        rw [← e3, ← ex]
        rfl
    · rintro σ H2 ⟨v2, v3, v4, v5, v6, v7, rfl, s2⟩
      refine ⟨_, rfl, ?_⟩
      rw [show 2 * n - 2 * n = 0 by omega]
      exact q H2 s2
end
end K9

/-! ### the law's helpers -/
namespace K9
open PySem PySem.Spec PyProof.Rows L2
/-- an and whose second way out is shared -/
theorem share {a : Bool} {S A B : Prop} (hB : B) (hS : B → S) : if a = true then S else (if false = true then A else B) := by
  cases a with
  | true => exact iteT (hS hB)
  | false => exact iteF (iteF hB)
section
variable {P : Program} {w : World} {K : PySem.W.Frag} {mg : Str → Option Value} {base : Heap} {C : Addr}
def spCE (K : PySem.W.Frag) : Sp := fun vs H Q _ => ∃ (a : Addr) (k : Nat) (ns : List Int), vs = [.ref a, .int k] ∧ SqL K H a (ns.map V.int) ∧ ∀ z : Int, Q (.int z) H
theorem scCE : FnScope ["_law_script", "_law_k"] ["_law_script", "_law_k"] (defScope sCell) := ⟨rfl, rfl, rfl, by decide +kernel, rfl, by decide +kernel, by decide +kernel⟩
theorem ok_ce {f : Addr} {fd : FuncData} (F : Fun K "_law_cell" "_law_cell" sCell f fd) (T : Txt K mg C) : FnOk P w K mg base CX0 1 f fd ["_law_script", "_law_k"] (spCE K) := by
  refine F.ok scCE (fun vs H Q E h => ?_) (fun cdv A outer s H vs Q E hr h => ?_)
  · obtain ⟨a, k, ns, rfl, _⟩ := h
    rfl
  · obtain ⟨a, k, ns, rfl, hS, q⟩ := h
    refine ⟨_, pss_cons (ps_if (pt_cmpR op_lt (pv 1) (pe_callB call_len_seq (by rfl) T.len PySem.boot_len (pa_cons (pv 0) pa_nil)) (nomark _))
        (pss_one (ps_ret (pe_callB call_abs (by rfl) T.abs boot_abs (pa_cons (pe_callTy call_int1 (by rfl) T.int boot_int (pa_cons (pe_ix ix_list (pv 0) (pv 1) (fun _ _ => rfl)) pa_nil)) pa_nil)))) pss_nil)
      (pss_one (ps_ret pe_int)), ?_⟩
    refine ⟨_, rfl, _, rfl, a, _, rfl, .inl hS, _, _, rfl, rfl, _, rfl, ite2 (fun h => ?_) (fun _ => ?_)⟩
    · have hk : (k : Int) < ((ns.map V.int).length : Int) := of_decide_eq_true h
      have hk2 : k < ns.length := by
        rw [List.length_map] at hk
        omega
      refine ⟨_, rfl, _, rfl, a, _, _, _, rfl, rfl, hS, at_of (j := k) (v := V.int ns[k]) rfl (by rw [List.getElem?_map, List.getElem?_eq_getElem hk2]; rfl), .inl ⟨_, rfl, _, rfl, q _⟩⟩
    · exact q 0
def spDR : Sp := fun vs H Q _ => ∃ (c : Int) (m : Nat), vs = [.int c, .int m] ∧ m ≤ 100 ∧ ∀ H' l (ds : List Int), Same H H' → ds.length = m → H' l = some (.lst (ds.map V.int)) → Q (.ref l) H'
theorem scDR : FnScope ["_law_cell_here", "_law_count", "_law_rows", "_law_left", "_law_k", "_law_mixed"] ["_law_cell_here", "_law_count"] (defScope sDraws) := ⟨rfl, rfl, rfl, by decide +kernel, rfl, by decide +kernel, by decide +kernel⟩
theorem ok_dr {f : Addr} {fd : FuncData} (F : Fun K "_law_draws" "_law_draws" sDraws f fd) (T : Txt K mg C) : FnOk P w K mg base CX0 1 f fd ["_law_cell_here", "_law_count"] spDR := by
  refine F.ok scDR (fun vs H Q E h => ?_) (fun cdv A outer s H vs Q E hr h => ?_)
  · obtain ⟨c, m, rfl, _⟩ := h
    rfl
  · obtain ⟨c, m, rfl, hm, q⟩ := h
    refine ⟨_, pss_cons (ps_set (i := 2) scDR.nd rfl (.inl rfl) (pe_lst pa_nil))
      (pss_cons (ps_set (i := 3) scDR.nd rfl (.inl rfl) (pv 0))
      (pss_cons (ps_for PassesOwn.never rfl (pi_range1 rfl T.range (pa_cons (pv 1) pa_nil)) (pg_name (i := 4) scDR.nd rfl (.inl rfl))
        (pss_one (ps_if (PW.pt (pw_and (pt_cmpR op_ge (pv 0) (pe_op op_pow pe_int pe_int) (nomark _)) (pw_and1 (pt_cmpR op_gt (pv 3) pe_int (nomark _)))))
          (pss_cons (ps_expr (pe_bm PySem.F.plainAttrs_list PySem.F.slot_list_append PySem.F.type_list_append mt_append (pv 2) (pa_cons (pe_op op_mod (pe_callTy call_int1 (by rfl) T.int boot_int (pa_cons (pv 3) pa_nil)) pe_int) pa_nil)))
          (pss_one (ps_set (i := 3) scDR.nd rfl (.inl rfl) (pe_op op_fdiv (pv 3) pe_int))))
          (pss_cons (ps_set (i := 5) scDR.nd rfl (.inl rfl) (pe_op op_mod (pe_callTy call_int1 (by rfl) T.int boot_int (pa_cons (pe_op op_add (pe_op op_mul (pv 0) pe_int) (pe_op op_mul (pe_op op_add (pv 4) pe_int) pe_int)) pa_nil)) pe_int))
          (pss_cons (ps_set (i := 5) scDR.nd rfl (.inl rfl) (pe_op op_mod (pe_callTy call_int1 (by rfl) T.int boot_int (pa_cons (pe_op op_add (pe_op op_add (pe_op op_mul (pv 5) (pv 5)) (pe_op op_mul (pv 5) pe_int)) (pe_op op_mul (pv 4) pe_int)) pa_nil)) pe_int))
          (pss_cons (ps_set (i := 5) scDR.nd rfl (.inl rfl) (pe_op op_mod (pe_callTy call_int1 (by rfl) T.int boot_int (pa_cons (pe_op op_add (pe_op op_add (pe_op op_mul (pv 5) (pv 5)) (pv 0)) (pe_op op_mul pe_int (pv 4))) pa_nil)) pe_int))
          (pss_one (ps_expr (pe_bm PySem.F.plainAttrs_list PySem.F.slot_list_append PySem.F.type_list_append mt_append (pv 2) (pa_cons (pe_op op_mod (pe_op op_fdiv (pv 5) pe_int) pe_int) pa_nil))))))))))
      (pss_one (ps_ret (pv 2))))), ?_⟩
    refine ⟨by decide, fun l hl => ?_⟩
    have s0 : Same H (upd H l (.lst [])) := sUpd hl
    refine ⟨_, rfl, ?_⟩
    refine ⟨_, rfl, _, rfl, by omega, by omega, for_range (lo := 0) (n := (m : Int).toNat) (fun i σ H2 => ∃ (z : Int) (v4 v5 : Option V) (ds : List Int),
        σ = [some (.int c), some (.int m), some (.ref l), some (.int z), v4, v5] ∧ Same H H2 ∧ H2 l = some (.lst (ds.map V.int)) ∧ ds.length = i)
      ⟨c, none, none, [], rfl, s0, upd_same, rfl⟩ ?_ ?_⟩
    · rintro i σ H2 hi ⟨z, v4, v5, ds, rfl, s2, hl2, hds⟩
      have hi' : i < 100 := by omega
      -- what an append of y leaves
      have done : ∀ y : Int, Same H (upd H2 l (.lst (ds.map V.int ++ [.int y]))) ∧ (upd H2 l (.lst (ds.map V.int ++ [.int y]))) l = some (.lst ((ds ++ [y]).map V.int)) ∧ (ds ++ [y]).length = i + 1 := fun y => by
        refine ⟨fun b o e => ?_, ?_, ?_⟩
        · rw [upd_ne (ne_of_none e hl)]
          exact s2 _ _ e
        · rw [upd_same, List.map_append]
          rfl
        · rw [List.length_append, hds]
          rfl
      have hfew : (ds.map V.int).length < sizeLine := small1000 (by rw [List.length_map]; omega)
      refine ⟨_, rfl, _, _, rfl, rfl, ⟨by decide, by decide, by decide⟩, _, _, rfl, rfl, _, rfl, share ?_ fun els => ⟨_, rfl, _, _, rfl, rfl, _, rfl, ite2 (fun h => ?_) (fun _ => els)⟩⟩
      · -- the mixed draw
        refine ⟨_, rfl, _, _, rfl, rfl, .inr ⟨by decide, by decide⟩, _, rfl, _, _, rfl, rfl, _, _, rfl, rfl, .inr ⟨by decide, by decide⟩, _, _, rfl, rfl, .inl ⟨_, rfl, _, _, rfl, rfl, (by show (0 : Int) < 2147483647; decide), ?_⟩⟩
        refine ⟨_, rfl, _, rfl, _, _, rfl, rfl, .inl ⟨by omega, by omega⟩, _, rfl, _, _, rfl, rfl, .inr ⟨by decide, by decide⟩, _, _, rfl, rfl, _, rfl, _, _, rfl, rfl, .inr ⟨by decide, by decide⟩, _, _, rfl, rfl, .inl ⟨_, rfl, _, _, rfl, rfl, (by show (0 : Int) < 2147483629; decide), ?_⟩⟩
        refine ⟨_, rfl, _, rfl, _, _, rfl, rfl, .inl ⟨by omega, by omega⟩, _, rfl, _, _, rfl, rfl, _, rfl, _, _, rfl, rfl, .inl ⟨by decide, by decide⟩, _, _, rfl, rfl, .inl ⟨_, rfl, _, _, rfl, rfl, (by show (0 : Int) < 2147483587; decide), ?_⟩⟩
        refine ⟨_, rfl, .inl ⟨rfl, _, .inl (.inl hl2)⟩, _, rfl, _, _, rfl, rfl, ⟨by decide, by decide⟩, _, _, rfl, rfl, (by show (0 : Int) < 4096; decide), l, _, _, rfl, rfl, hl2, hfew, ?_⟩
        exact ⟨_, _, _, _, rfl, (done _).1, (done _).2.1, (done _).2.2⟩
      · refine ⟨_, rfl, .inl ⟨rfl, _, .inl (.inl hl2)⟩, _, rfl, .inl ⟨_, rfl, _, _, rfl, rfl, (by show (0 : Int) < 4096; decide), l, _, _, rfl, rfl, hl2, hfew, ?_⟩⟩
        refine ⟨_, rfl, _, _, rfl, rfl, ⟨by decide, by decide⟩, ?_⟩
        exact ⟨_, _, _, _, rfl, (done _).1, (done _).2.1, (done _).2.2⟩
    · rintro σ H2 ⟨z, v4, v5, ds, rfl, s2, hl2, hds⟩
      exact ⟨_, rfl, q H2 l ds s2 (by omega) hl2⟩
/-- the entry of the pair p, by the draws -/
def eD (ds : List Int) (n p : Nat) : Nat :=
  if ds.getD (p % ds.length) 0 % 6 > 0 then enc (ds.getD (p % ds.length) 0 / 6 % 2) (ds.getD (p % ds.length) 0 / 60 % 3 - 1) (ds.getD (p % ds.length) 0 / 180 % n) else 0
theorem eD_le (ds : List Int) {n : Nat} (h1 : 1 ≤ n) (p : Nat) : eD ds n p ≤ 6 * n := by
  unfold eD
  generalize ds.getD (p % ds.length) 0 = d
  by_cases h : d % 6 > 0
  · rw [if_pos h]
    have hn : (0 : Int) < n := by omega
    exact (enc_ok (n := n) ⟨by omega, by omega⟩ ⟨by omega, by omega⟩ ⟨Int.emod_nonneg _ (by omega), Int.emod_lt_of_pos _ hn⟩).2.1
  · rw [if_neg h]
    exact Nat.zero_le _
def spRS (K : PySem.W.Frag) : Sp := fun vs H Q _ => ∃ (a : Addr) (n : Nat) (ds : List Int), vs = [.ref a, .int n, .int 2] ∧ SqL K H a (ds.map V.int) ∧ ds.length ≠ 0 ∧ 1 ≤ n ∧ n ≤ 6 ∧
  ∀ H' l (L : List (Addr × List Int)) (e : Nat → Nat), (∀ p, e p ≤ 6 * n) → Same H H' → H l = none → H' l = some (.lst (L.map fun q => V.ref q.1)) → Rows H' L → (L.map fun q => q.2) = rulesOf (2 * n) e → Q (.ref l) H'
theorem scRS : FnScope ["_law_draws_here", "_law_states", "_law_symbols", "_law_rules_here", "_law_state", "_law_symbol", "_law_draw"] ["_law_draws_here", "_law_states", "_law_symbols"] (defScope sRules) := ⟨rfl, rfl, rfl, by decide +kernel, rfl, by decide +kernel, by decide +kernel⟩
theorem ok_rs {f : Addr} {fd : FuncData} (F : Fun K "_law_rules" "_law_rules" sRules f fd) (T : Txt K mg C) : FnOk P w K mg base CX0 1 f fd ["_law_draws_here", "_law_states", "_law_symbols"] (spRS K) := by
  refine F.ok scRS (fun vs H Q E h => ?_) (fun cdv A outer s H vs Q E hr h => ?_)
  · obtain ⟨a, n, ds, rfl, _⟩ := h
    rfl
  · obtain ⟨a, n, ds, rfl, hS, hds, h1, h6, q⟩ := h
    refine ⟨_, pss_cons (ps_set (i := 3) scRS.nd rfl (.inl rfl) (pe_lst pa_nil))
      (pss_cons (ps_for PassesOwn.never rfl (pi_range1 rfl T.range (pa_cons (pv 1) pa_nil)) (pg_name (i := 4) scRS.nd rfl (.inl rfl))
        (pss_one (ps_for PassesOwn.never rfl (pi_range1 rfl T.range (pa_cons (pv 2) pa_nil)) (pg_name (i := 5) scRS.nd rfl (.inl rfl))
          (pss_cons (ps_set (i := 6) scRS.nd rfl (.inl rfl) (pe_ix ix_list (pv 0) (pe_op op_mod (pe_op op_add (pe_op op_mul (pv 4) (pv 2)) (pv 5)) (pe_callB call_len_seq (by rfl) T.len PySem.boot_len (pa_cons (pv 0) pa_nil))) (fun _ _ => rfl)))
          (pss_one (ps_if (pt_cmpR op_gt (pe_op op_mod (pv 6) pe_int) pe_int (nomark _))
            (pss_one (ps_expr (pe_bm PySem.F.plainAttrs_list PySem.F.slot_list_append PySem.F.type_list_append mt_append (pv 3)
              (pa_cons (pe_tup (pa_cons (pv 4) (pa_cons (pv 5) (pa_cons (pe_op op_mod (pe_op op_fdiv (pv 6) pe_int) (pv 2)) (pa_cons (pe_op op_sub (pe_op op_mod (pe_op op_fdiv (pv 6) pe_int) pe_int) pe_int) (pa_cons (pe_op op_mod (pe_op op_fdiv (pv 6) pe_int) (pv 1)) pa_nil)))))) pa_nil)))) pss_nil))))))
      (pss_one (ps_ret (pv 3)))), ?_⟩
    refine ⟨by decide, fun l hl => ?_⟩
    have s0 : Same H (upd H l (.lst [])) := sUpd hl
    refine ⟨_, rfl, _, rfl, by omega, by omega, for_range (lo := 0) (n := (n : Int).toNat) (fun i σ H2 => ∃ (v4 v5 v6 : Option V) (L : List (Addr × List Int)),
        σ = [some (.ref a), some (.int n), some (.int 2), some (.ref l), v4, v5, v6] ∧ Same H H2 ∧ H2 l = some (.lst (L.map fun q => V.ref q.1)) ∧ Rows H2 L ∧ (L.map fun q => q.2) = rulesOf (2 * i) (eD ds n))
      ⟨none, none, none, [], rfl, s0, upd_same, fun q hq => absurd hq (by simp), rfl⟩ ?_ ?_⟩
    · rintro i σ H2 hi ⟨v4, v5, v6, L, rfl, s2, hl2, hL, eL⟩
      have hin : i < n := by omega
      refine ⟨_, rfl, _, rfl, by decide, by decide, for_range (lo := 0) (n := 2) (fun j σ H3 => ∃ (v5 v6 : Option V) (L : List (Addr × List Int)),
          σ = [some (.ref a), some (.int n), some (.int 2), some (.ref l), some (.int (0 + (i : Int))), v5, v6] ∧ Same H H3 ∧ H3 l = some (.lst (L.map fun q => V.ref q.1)) ∧ Rows H3 L ∧ (L.map fun q => q.2) = rulesOf (2 * i + j) (eD ds n))
        ⟨v5, v6, L, rfl, s2, hl2, hL, eL⟩ ?_ ?_⟩
      · rintro j σ H3 hj ⟨v5, v6, L, rfl, s3, hl3, hL3, eL3⟩
        have hlt : (2 * i + j) % ds.length < ds.length := Nat.mod_lt _ (by omega)
        have ed : ds.getD ((2 * i + j) % ds.length) 0 = ds[(2 * i + j) % ds.length] := by
          rw [List.getD_eq_getElem?_getD, List.getElem?_eq_getElem hlt]
          rfl
        have eix : ((0 + (i : Int)) * 2 + (0 + (j : Int))) % ((ds.map V.int).length : Int) = (((2 * i + j) % ds.length : Nat) : Int) := by
          rw [List.length_map, show (0 + (i : Int)) * 2 + (0 + (j : Int)) = ((2 * i + j : Nat) : Int) by omega, Int.natCast_emod]
        refine ⟨_, rfl, _, rfl, _, rfl, _, _, rfl, rfl, .inr ⟨by decide, by decide⟩, _, rfl, _, _, rfl, rfl, _, rfl, a, _, rfl, .inl (s3.seq hS), _, _, rfl, rfl, (by rw [List.length_map]; omega), a, _, _, V.int (ds.getD ((2 * i + j) % ds.length) 0), rfl, rfl, s3.seq hS,
          at_of (j := (2 * i + j) % ds.length) eix (by rw [List.getElem?_map, List.getElem?_eq_getElem hlt, ed]; rfl), ?_⟩
        generalize hd : ds.getD ((2 * i + j) % ds.length) 0 = d
        have eE : eD ds n (2 * i + j) = if d % 6 > 0 then enc (d / 6 % 2) (d / 60 % 3 - 1) (d / 180 % n) else 0 := by
          unfold eD
          rw [hd]
        have hw : 0 ≤ d / 6 % 2 ∧ d / 6 % 2 < 2 := ⟨by omega, by omega⟩
        have hm : -1 ≤ d / 60 % 3 - 1 ∧ d / 60 % 3 - 1 ≤ 1 := ⟨by omega, by omega⟩
        have hf : 0 ≤ d / 180 % (n : Int) ∧ d / 180 % (n : Int) < n := ⟨Int.emod_nonneg _ (by omega), Int.emod_lt_of_pos _ (by omega)⟩
        refine ⟨_, rfl, _, _, rfl, rfl, (by show (0 : Int) < 6; decide), _, _, rfl, rfl, _, rfl, ite2 (fun h => ?_) (fun h => ?_)⟩
        · have h' : d % 6 > 0 := of_decide_eq_true h
          rw [if_pos h'] at eE
          have hne : eD ds n (2 * i + j) ≠ 0 := by
            rw [eE]
            exact (enc_ok hw hm hf).1
          have e5 : rule5 (2 * i + j) (eD ds n (2 * i + j)) = [(0 + (i : Int)), (0 + (j : Int)), d / 6 % 2, d / 60 % 3 - 1, d / 180 % (n : Int)] := by
            rw [eE, rule5_enc hw hm hf, show (((2 * i + j) / 2 : Nat) : Int) = 0 + (i : Int) by omega, show (((2 * i + j) % 2 : Nat) : Int) = 0 + (j : Int) by omega]
          refine ⟨_, rfl, .inl ⟨rfl, _, .inl (.inl hl3)⟩, _, rfl, _, rfl, _, rfl, _, _, rfl, rfl, ⟨by decide, by decide⟩, _, rfl, _, _, rfl, rfl, (by show (0 : Int) < 2; decide), _, rfl, _, _, rfl, rfl, ⟨by decide, by decide⟩, _, _, rfl, rfl, (by show (0 : Int) < 3; decide), _, _, rfl, rfl,
            _, rfl, _, _, rfl, rfl, ⟨by decide, by decide⟩, _, rfl, _, _, rfl, rfl, (by omega), (by show 5 ≤ sizeLine; decide), fun t ht => ?_⟩
          have st : Same H3 (upd H3 t (.tup [.int (0 + (i : Int)), .int (0 + (j : Int)), .int (d / 6 % 2), .int (d / 60 % 3 - 1), .int (d / 180 % (n : Int))])) := sUpd ht
          have hlt' := st _ _ hl3
          have nlt : ∀ (b : Addr) (xs : List V), (upd H3 t (.tup [.int (0 + (i : Int)), .int (0 + (j : Int)), .int (d / 6 % 2), .int (d / 60 % 3 - 1), .int (d / 180 % (n : Int))])) b = some (.tup xs) → b ≠ l := fun b xs z => ne_of z hlt' (by intro y; cases y)
          have hLl : L.length ≤ 12 := by
            have z := congrArg List.length eL3
            have y := rulesOf_len (2 * i + j) (eD ds n)
            rw [List.length_map] at z
            omega
          refine ⟨l, _, _, rfl, rfl, hlt', small1000 (by rw [List.length_map]; omega), ?_⟩
          refine ⟨_, _, L ++ [(t, rule5 (2 * i + j) (eD ds n (2 * i + j)))], rfl, fun b o z => ?_, ?_, fun y hy => ?_, ?_⟩
          · rw [upd_ne (ne_of_none z hl)]
            exact st _ _ (s3 _ _ z)
          · rw [upd_same, List.map_append]
            rfl
          · rcases List.mem_append.mp hy with m | m
            · have z := st _ _ (hL3 y m)
              rw [upd_ne (nlt _ _ z)]
              exact z
            · have ey := List.mem_singleton.mp m
              subst ey
              rw [e5]
              have z : (upd H3 t (.tup [.int (0 + (i : Int)), .int (0 + (j : Int)), .int (d / 6 % 2), .int (d / 60 % 3 - 1), .int (d / 180 % (n : Int))])) t = some (.tup [.int (0 + (i : Int)), .int (0 + (j : Int)), .int (d / 6 % 2), .int (d / 60 % 3 - 1), .int (d / 180 % (n : Int))]) := upd_same
              have y := nlt _ _ z
              show (upd _ l _) t = _
              rw [upd_ne y]
              exact z
          · rw [show 2 * i + (j + 1) = 2 * i + j + 1 by omega, rulesOf_succ1 hne, List.map_append, eL3]
            rfl
        · have h' : ¬ d % 6 > 0 := fun y => h (decide_eq_true y)
          rw [if_neg h'] at eE
          refine ⟨_, _, L, rfl, s3, hl3, hL3, ?_⟩
          rw [show 2 * i + (j + 1) = 2 * i + j + 1 by omega, rulesOf_succ0 eE, eL3]
      · rintro σ H3 ⟨v5, v6, L, rfl, s3, hl3, hL3, eL3⟩
        exact ⟨_, _, _, L, rfl, s3, hl3, hL3, by rw [eL3, show 2 * (i + 1) = 2 * i + 2 by omega]⟩
    · rintro σ H2 ⟨v4, v5, v6, L, rfl, s2, hl2, hL, eL⟩
      rw [show (n : Int).toNat = n by omega] at eL
      exact ⟨_, rfl, q H2 l L (eD ds n) (eD_le ds h1) s2 hl hl2 hL eL⟩
end
end K9

/-! ### the law -/
namespace K9
open PySem PySem.Spec PyProof.Rows L2
/-- the defs of the text as they stand behind the top -/
structure Defs (K : PySem.W.Frag) (mg : Str → Option Value) (C fPW fIN fEQ fRU fCS fMC fCI fRF fMA fIX fCE fDR fRS : Addr) (dPW dIN dEQ dRU dCS dMC dCI dRF dMA dIX dCE dDR dRS : FuncData) : Prop where
  FPW : Fun K "power" "power" sPower fPW dPW
  bPW : Binds K dPW ["base", "count"] []
  gPW : mg "power" = some (.ref fPW)
  FIN : Fun K "__init__" "Turing.__init__" sInit fIN dIN
  bIN : Binds K dIN ["self", "states", "symbols", "rules"] []
  mIN : Meth K C "__init__" fIN
  FEQ : Fun K "__eq__" "Turing.__eq__" sEq fEQ dEQ
  bEQ : Binds K dEQ ["self", "other"] []
  mEQ : Meth K C "__eq__" fEQ
  FRU : Fun K "rule" "Turing.rule" sRule fRU dRU
  bRU : Binds K dRU ["self", "state", "symbol"] []
  mRU : Meth K C "rule" fRU
  FCS : Fun K "check_states" "check_states" sChkS fCS dCS
  bCS : Binds K dCS ["states"] []
  gCS : mg "check_states" = some (.ref fCS)
  FMC : Fun K "machine_count" "machine_count" sCount fMC dMC
  bMC : Binds K dMC ["states"] []
  gMC : mg "machine_count" = some (.ref fMC)
  FCI : Fun K "check_index" "check_index" sChkI fCI dCI
  bCI : Binds K dCI ["states", "index"] []
  gCI : mg "check_index" = some (.ref fCI)
  FRF : Fun K "rule_for" "rule_for" sRuleFor fRF dRF
  bRF : Binds K dRF ["state", "symbol", "entry"] []
  gRF : mg "rule_for" = some (.ref fRF)
  FMA : Fun K "machine_at" "machine_at" sMachAt fMA dMA
  bMA : Binds K dMA ["states", "index"] []
  gMA : mg "machine_at" = some (.ref fMA)
  FIX : Fun K "index_of" "index_of" sIdxOf fIX dIX
  bIX : Binds K dIX ["machine"] []
  gIX : mg "index_of" = some (.ref fIX)
  FCE : Fun K "_law_cell" "_law_cell" sCell fCE dCE
  bCE : Binds K dCE ["_law_script", "_law_k"] []
  gCE : mg "_law_cell" = some (.ref fCE)
  FDR : Fun K "_law_draws" "_law_draws" sDraws fDR dDR
  bDR : Binds K dDR ["_law_cell_here", "_law_count"] []
  gDR : mg "_law_draws" = some (.ref fDR)
  FRS : Fun K "_law_rules" "_law_rules" sRules fRS dRS
  bRS : Binds K dRS ["_law_draws_here", "_law_states", "_law_symbols"] []
  gRS : mg "_law_rules" = some (.ref fRS)

/-- an and whose second way out is shared -/
theorem share2 {a : Bool} {S A B : Prop} (hB : B) (hS : a = true → B → S) : if a = true then S else (if false = true then A else B) := by
  cases a with
  | true => exact iteT (hS rfl hB)
  | false => exact iteF (iteF hB)
/-! ### the other list: one rule changed -/
def setE (e : Nat → Nat) (p x : Nat) : Nat → Nat := fun q => if q = p then x else e q
theorem setE_le {e : Nat → Nat} {p x N m : Nat} (h : ∀ q, q < N → e q ≤ m) (hx : x ≤ m) : ∀ q, q < N → setE e p x q ≤ m := fun q hq => by
  unfold setE
  by_cases c : q = p
  · rw [if_pos c]
    exact hx
  · rw [if_neg c]
    exact h q hq
theorem other_list {N : Nat} {e : Nat → Nat} {k p x : Nat} (hk : (pairs N e).reverse[k]? = some p) (hx : x ≠ 0) : (rulesOf N e).reverse.set k (rule5 p x) = (rulesOf N (setE e p x)).reverse := by
  have hpm : p ∈ pairs N e := List.mem_reverse.mp (List.mem_of_getElem? hk)
  have hp0 := (pairs_mem.mp hpm).2
  have hpr : pairs N (setE e p x) = pairs N e := by
    unfold pairs
    refine List.filter_congr fun q _ => ?_
    show (setE e p x q != 0) = (e q != 0)
    by_cases c : q = p
    · have e1 : setE e p x q = x := by
        unfold setE
        rw [if_pos c]
      rw [e1, c, bne_iff_ne.mpr hx, bne_iff_ne.mpr hp0]
    · have e1 : setE e p x q = e q := by
        unfold setE
        rw [if_neg c]
      rw [e1]
  have hnd : (pairs N e).reverse.Nodup := List.pairwise_reverse.mpr ((pairs_nodup N e).imp fun h => Ne.symm h)
  unfold rulesOf
  rw [hpr, ← List.map_reverse, ← List.map_reverse]
  apply List.ext_getElem?
  intro j
  by_cases c : k = j
  · subst c
    have hlt : k < ((pairs N e).reverse.map fun q => rule5 q (e q)).length := by
      rw [List.length_map]
      exact (List.getElem?_eq_some_iff.mp hk).1
    rw [List.getElem?_set_self hlt, List.getElem?_map, hk]
    show some (rule5 p x) = some (rule5 p (setE e p x p))
    unfold setE
    rw [if_pos rfl]
  · rw [List.getElem?_set_ne c, List.getElem?_map, List.getElem?_map]
    cases z : (pairs N e).reverse[j]? with
    | none => rfl
    | some q =>
      have hq : q ≠ p := fun y => c (nd_ix hnd hk (by rw [z, y]))
      show some (rule5 q (e q)) = some (rule5 q (setE e p x q))
      unfold setE
      rw [if_neg hq]
theorem ixN_at {n j : Nat} {z : Int} (e : z = (j : Int)) (h : j < n) : ixN n z = some j := by
  subst e
  unfold ixN
  rw [if_pos (by omega), if_pos (by omega)]
  simp
/-- equal indexes, equal rules -/
theorem idx_iff {n : Nat} {e e' : Nat → Nat} (he : ∀ q, q < 2 * n → e q ≤ 6 * n) (he' : ∀ q, q < 2 * n → e' q ≤ 6 * n) :
    (V.int ((valF (6 * n + 1) e 0 (2 * n) : Nat) : Int) = V.int ((valF (6 * n + 1) e' 0 (2 * n) : Nat) : Int)) ↔ rulesOf (2 * n) e = rulesOf (2 * n) e' := by
  constructor
  · intro h
    have h2 : valF (6 * n + 1) e 0 (2 * n) = valF (6 * n + 1) e' 0 (2 * n) := Int.ofNat.inj (V.int.inj h)
    have z := valF_inj (2 * n) 0 (fun p _ hp => Nat.lt_succ_of_le (he p (by omega))) (fun p _ hp => Nat.lt_succ_of_le (he' p (by omega))) h2
    exact rulesOf_congr fun p hp => z p (Nat.zero_le _) (by omega)
  · intro h
    have z := rulesOf_inj h
    rw [valF_congr (2 * n) 0 fun p _ hp => z p (by omega)]
abbrev nmLW : List Str := ["_law_script", "_law_draws_here", "_law_states", "_law_rules_here", "_law_first", "_law_other", "_law_way", "_law_at", "_law_state", "_law_symbol", "_law_written", "_law_move", "_law_following", "_law_rows", "_law_second", "_law_same", "_law_machine", "_law_index"]
theorem scLW : FnScope nmLW ["_law_script"] (defScope sLaw) := ⟨rfl, rfl, rfl, by decide +kernel, rfl, by decide +kernel, by decide +kernel⟩
theorem ok_law {P : Program} {w : World} {K : PySem.W.Frag} {mg : Str → Option Value} {base : Heap} {f C fPW fIN fEQ fRU fCS fMC fCI fRF fMA fIX fCE fDR fRS : Addr} {fd dPW dIN dEQ dRU dCS dMC dCI dRF dMA dIX dCE dDR dRS : FuncData}
    (F : Fun K "law" "law" sLaw f fd) (T : Txt K mg C) (D : Defs K mg C fPW fIN fEQ fRU fCS fMC fCI fRF fMA fIX fCE fDR fRS dPW dIN dEQ dRU dCS dMC dCI dRF dMA dIX dCE dDR dRS) :
    FnOk P w K mg base CX0 9 f fd ["_law_script"] (spLaw K) := by
  have GCS : FnOk P w K mg base CX0 1 fCS dCS ["states"] spCS := ok_cs D.FCS T
  have GMC : FnOk P w K mg base CX0 2 fMC dMC ["states"] spMC := ok_mc D.FMC T D.FCS D.bCS D.gCS D.FPW D.bPW D.gPW
  have GCI : FnOk P w K mg base CX0 3 fCI dCI ["states", "index"] spCI := ok_ci D.FCI GMC D.FMC.kp D.bMC D.gMC
  have GRF : FnOk P w K mg base CX0 1 fRF dRF ["state", "symbol", "entry"] spRF := ok_rf D.FRF
  have GIN : FnOk P w K mg base CX0 1 fIN dIN ["self", "states", "symbols", "rules"] (spIN K C) := ok_in D.FIN T
  have GEQ : FnOk P w K mg base CX0 1 fEQ dEQ ["self", "other"] (spEQ C) := ok_eq D.FEQ T
  have GRU : FnOk P w K mg base CX0 1 fRU dRU ["self", "state", "symbol"] (spRU C) := ok_ru D.FRU T
  have GMA : FnOk P w K mg base CX0 4 fMA dMA ["states", "index"] (spMA C) := ok_ma D.FMA T GCS D.FCS.kp D.bCS D.gCS GCI D.FCI.kp D.bCI D.gCI GRF D.FRF.kp D.bRF D.gRF GIN D.bIN D.mIN
  have GIX : FnOk P w K mg base CX0 2 fIX dIX ["machine"] (spIX C) := ok_ix D.FIX T GCS D.FCS.kp D.bCS D.gCS GRU D.bRU D.mRU
  have GCE : FnOk P w K mg base CX0 1 fCE dCE ["_law_script", "_law_k"] (spCE K) := ok_ce D.FCE T
  have GDR : FnOk P w K mg base CX0 1 fDR dDR ["_law_cell_here", "_law_count"] spDR := ok_dr D.FDR T
  have GRS : FnOk P w K mg base CX0 1 fRS dRS ["_law_draws_here", "_law_states", "_law_symbols"] (spRS K) := ok_rs D.FRS T
  have M : Mk K C fIN := ⟨T.mkC, D.mIN.at_, D.mIN.fn, T.kC⟩
  refine F.ok scLW (fun vs H Q E h => ?_) (fun cdv A outer s H vs Q E hr h => ?_)
  · obtain ⟨a, ns, rfl, _⟩ := h
    rfl
  · obtain ⟨a, ns, rfl, hS, hlen, q⟩ := h
    have r1 : Room 1 _ := hr.mono (by decide)
    have r2 : Room 2 _ := hr.mono (by decide)
    have r4 : Room 4 _ := hr.mono (by decide)
    refine ⟨_, pss_cons (ps_set (i := 1) scLW.nd rfl (.inl rfl) (pe_call GDR r1 (by rfl) D.gDR D.FDR.kp D.bDR .nil pass0 (pa_cons (pe_call GCE r1 (by rfl) D.gCE D.FCE.kp D.bCE .nil pass0 (pa_cons (pv 0) (pa_cons pe_int pa_nil))) (pa_cons pe_int pa_nil))))
      (C8.pss_cut (ps_set (i := 2) scLW.nd rfl (.inl rfl) (pe_op op_add pe_int (pe_op op_mod (pe_ix ix_list (pv 1) pe_int (fun _ _ => rfl)) pe_int)))
      (pss_cons (ps_set (i := 3) scLW.nd rfl (.inl rfl) (pe_call GRS r1 (by rfl) D.gRS D.FRS.kp D.bRS .nil pass0 (pa_cons (pv 1) (pa_cons (pv 2) (pa_cons pe_int pa_nil)))))
      (pss_cons (ps_set (i := 4) scLW.nd rfl (.inl rfl) (pe_make M GIN r2 rfl T.mgC D.bIN .nil pass0 (pa_cons (pv 2) (pa_cons pe_int (pa_cons (pe_callTy call_list_of (by rfl) T.list boot_list (pa_cons (pv 3) pa_nil)) pa_nil)))))
      (pss_cons (ps_set (i := 5) scLW.nd rfl (.inl rfl) (pe_revL (pv 3)))
      (pss_cons (ps_set (i := 6) scLW.nd rfl (.inl rfl) (pe_op op_mod (pe_ix ix_list (pv 1) pe_int (fun _ _ => rfl)) pe_int))
      (C8.pss_cut (ps_if (PW.pt (pw_and (pt_cmpR op_gt (pv 6) pe_int (nomark _)) (pw_and1 (pt_cmpR op_gt (pe_callB call_len_seq (by rfl) T.len PySem.boot_len (pa_cons (pv 5) pa_nil)) pe_int (nomark _)))))
          (pss_cons (ps_set (i := 7) scLW.nd rfl (.inl rfl) (pe_op op_mod (pe_ix ix_list (pv 1) pe_int (fun _ _ => rfl)) (pe_callB call_len_seq (by rfl) T.len PySem.boot_len (pa_cons (pv 5) pa_nil))))
          (pss_cons (ps_asg (pe_ix ix_list (pv 5) (pv 7) (fun _ _ => rfl)) (pg_tup rfl (pgs_cons (pg_name (i := 8) scLW.nd rfl (.inl rfl)) (pgs_cons (pg_name (i := 9) scLW.nd rfl (.inl rfl)) (pgs_cons (pg_name (i := 10) scLW.nd rfl (.inl rfl)) (pgs_cons (pg_name (i := 11) scLW.nd rfl (.inl rfl)) (pgs_cons (pg_name (i := 12) scLW.nd rfl (.inl rfl)) pgs_nil)))))))
          (pss_cons (ps_set (i := 13) scLW.nd rfl (.inl rfl) (pe_lst
            (pa_cons (pe_tup (pa_cons (pv 8) (pa_cons (pv 9) (pa_cons (pe_op op_sub pe_int (pv 10)) (pa_cons (pv 11) (pa_cons (pv 12) pa_nil))))))
            (pa_cons (pe_tup (pa_cons (pv 8) (pa_cons (pv 9) (pa_cons (pv 10) (pa_cons (pe_op op_sub (pe_op op_mod (pe_op op_add (pv 11) pe_int) pe_int) pe_int) (pa_cons (pv 12) pa_nil))))))
            (pa_cons (pe_tup (pa_cons (pv 8) (pa_cons (pv 9) (pa_cons (pv 10) (pa_cons (pv 11) (pa_cons (pe_op op_mod (pe_op op_add (pv 12) pe_int) (pv 2)) pa_nil)))))) pa_nil)))))
          (pss_one (ps_asg (pe_ix ix_list (pv 13) (pe_op op_sub (pv 6) pe_int) (fun _ _ => rfl)) (pg_sub (pv 5) (pv 7) set_list)))))) pss_nil)
      (pss_cons (ps_set (i := 14) scLW.nd rfl (.inl rfl) (pe_make M GIN r2 rfl T.mgC D.bIN .nil pass0 (pa_cons (pv 2) (pa_cons pe_int (pa_cons (pe_callTy call_list_of (by rfl) T.list boot_list (pa_cons (pv 5) pa_nil)) pa_nil)))))
      (C8.pss_cut (ps_set (i := 15) scLW.nd rfl (.inl rfl) (pe_cmpR (op_eqD hr.units) (pe_callB cr_sortL (by rfl) T.sorted boot_sorted (pa_cons (pv 3) pa_nil)) (pe_callB cr_sortL (by rfl) T.sorted boot_sorted (pa_cons (pv 5) pa_nil)) (nomark _)))
      (pss_cons (ps_if (PW.pt (pw_or (pt_cmpR op_ne (pe_cmpR op_eq (pe_call GIX r2 (by rfl) D.gIX D.FIX.kp D.bIX .nil pass0 (pa_cons (pv 4) pa_nil)) (pe_call GIX r2 (by rfl) D.gIX D.FIX.kp D.bIX .nil pass0 (pa_cons (pv 14) pa_nil)) (nomark _)) (pv 15) (nomark _))
          (pw_or1 (pt_cmpR op_ne (pe_cmpR (op_insEq GEQ r1 D.mEQ D.bEQ pass0) (pv 4) (pv 14) (nomark _)) (pv 15) (nomark _))))) (pss_one (ps_ret pe_bl)) pss_nil)
      (pss_cons (ps_for PassesOwn.never rfl (pi_tup (pe_tup (pa_cons (pv 4) (pa_cons (pv 14) pa_nil)))) (pg_name (i := 16) scLW.nd rfl (.inl rfl))
        (pss_cons (ps_set (i := 17) scLW.nd rfl (.inl rfl) (pe_call GIX r2 (by rfl) D.gIX D.FIX.kp D.bIX .nil pass0 (pa_cons (pv 16) pa_nil)))
        (pss_one (ps_if (PW.pt (pw_or (pt_cmpR op_lt (pv 17) pe_int (nomark _)) (pw_or (pt_cmpR op_ge (pv 17) (pe_call GMC r2 (by rfl) D.gMC D.FMC.kp D.bMC .nil pass0 (pa_cons (pv 2) pa_nil)) (nomark _))
          (pw_or1 (pt_not (pt_cmpR (op_insEq GEQ r1 D.mEQ D.bEQ pass0) (pe_call GMA r4 (by rfl) D.gMA D.FMA.kp D.bMA .nil pass0 (pa_cons (pv 2) (pa_cons (pv 17) pa_nil))) (pv 16) (nomark _))))))) (pss_one (ps_ret pe_bl)) pss_nil))))
      (pss_one (ps_ret pe_bl)))))))))))), ?_⟩
    -- draws = _law_draws(_law_cell(script, 0), 60)
    refine ⟨_, rfl, a, 0, ns, rfl, hS, fun c0 => ⟨c0, 60, rfl, by decide, fun H1 ld ds s1 hds hd1 => ?_⟩⟩
    have dAt : ∀ j, j < 60 → (ds.map V.int)[j]? = some (V.int (ds.getD j 0)) := fun j hj => by
      have hj' : j < ds.length := by omega
      rw [List.getElem?_map, List.getD_eq_getElem?_getD, List.getElem?_eq_getElem hj']
      rfl
    obtain ⟨n, hn⟩ : ∃ n : Nat, 1 + ds.getD 59 0 % 6 = (n : Int) := ⟨(1 + ds.getD 59 0 % 6).toNat, by omega⟩
    have h1 : 1 ≤ n := by omega
    have h6 : n ≤ 6 := by omega
    -- states = 1 + draws[59] % 6
    refine ⟨fun σ' H' => H' = H1 ∧ σ' = [some (.ref a), some (.ref ld), some (.int n), none, none, none, none, none, none, none, none, none, none, none, none, none, none, none], ?_, ?_⟩
    · refine ⟨_, rfl, ld, _, _, _, rfl, rfl, SqL.of hd1, at_of (j := 59) (v := V.int (ds.getD 59 0)) rfl (dAt 59 (by decide)), _, _, rfl, rfl, (by show (0 : Int) < 6; decide), _, _, rfl, rfl, rfl, ?_⟩
      rw [← hn]
      rfl
    rintro σ' H' ⟨rfl, rfl⟩
    -- rules = _law_rules(draws, states, 2)
    refine ⟨_, rfl, _, rfl, ld, n, ds, rfl, SqL.of hd1, by rw [hds]; decide, h1, h6, fun H2 lr L e he s2 hlr0 hlr hL eL => ?_⟩
    have he' : ∀ q, q < 2 * n → e q ≤ 6 * n := fun q _ => he q
    -- first = Turing(states, 2, list(rules))
    refine ⟨_, rfl, _, rfl, lr, _, rfl, .inl (SqL.of hlr), fun lc hlc mf dx nx ndx nex => ?_⟩
    have s3 : Same H2 (upd H2 lc (.lst (L.map fun q => V.ref q.1))) := sUpd hlc
    have s4 : Same (upd H2 lc (.lst (L.map fun q => V.ref q.1))) (upd (upd (upd H2 lc (.lst (L.map fun q => V.ref q.1))) dx (.own mf)) mf (.ins C dx [])) := fun b o z => by
      rw [upd_ne (ne_of_none z nx), upd_ne (ne_of_none z ndx)]
      exact z
    refine ⟨mf, dx, lc, n, L, e, rfl, upd_same, .inl (.inl (s4 _ _ upd_same)), (hL.same s3).same s4, h1, h6, he', by rw [eL], fun H4 hT1 kp => ⟨rfl, ?_⟩⟩
    have s34 : Same H2 H4 := s3.trans (Same.made nx ndx kp)
    have hlr4 := s34 _ _ hlr
    have hL4 : Rows H4 L := hL.same s34
    have hd4 := s34 _ _ (s2 _ _ hd1)
    -- other = rules[::-1]; way = draws[58] % 4
    refine ⟨_, rfl, lr, _, rfl, SqL.of hlr4, fun lo hlo => ?_⟩
    have s5 : Same H4 (upd H4 lo (.lst (L.map fun q => V.ref q.1).reverse)) := sUpd hlo
    refine ⟨_, rfl, ld, _, _, _, rfl, rfl, SqL.of (s5 _ _ hd4), at_of (j := 58) (v := V.int (ds.getD 58 0)) rfl (dAt 58 (by decide)), _, _, rfl, rfl, (by show (0 : Int) < 4; decide), ?_⟩
    have hLl : L.length ≤ 12 := by
      have z := congrArg List.length eL
      have y := rulesOf_len (2 * n) e
      rw [List.length_map] at z
      omega
    refine ⟨fun σ' H' => ∃ (v7 v8 v9 v10 v11 v12 v13 : Option V) (LB : List (Addr × List Int)) (e2 : Nat → Nat),
      σ' = [some (.ref a), some (.ref ld), some (.int n), some (.ref lr), some (.ref mf), some (.ref lo), some (.int (ds.getD 58 0 % 4)), v7, v8, v9, v10, v11, v12, v13, none, none, none, none] ∧
      Same H4 H' ∧ H' lo = some (.lst (LB.map fun q => V.ref q.1)) ∧ Rows H' LB ∧ (LB.map fun q => q.2).Perm (rulesOf (2 * n) e2) ∧ (∀ q, q < 2 * n → e2 q ≤ 6 * n) ∧ LB.length ≤ 12, ?_, ?_⟩
    · -- if way > 0 and len(other) > 0
      refine ⟨_, rfl, _, _, rfl, rfl, _, rfl, share2 ?_ fun hway els => ⟨_, rfl, lo, _, rfl, .inl (SqL.of upd_same), _, _, rfl, rfl, _, rfl, ite2 (fun hpos => ?_) (fun _ => els)⟩⟩
      · refine ⟨_, _, _, _, _, _, _, L.reverse, e, rfl, s5, ?_, fun y hy => s5 _ _ (hL4 y (List.mem_reverse.mp hy)), ?_, he', by rw [List.length_reverse]; exact hLl⟩
        · rw [upd_same, List.map_reverse]
        · rw [List.map_reverse, eL]
          exact List.reverse_perm _
      · have hw : ds.getD 58 0 % 4 > 0 := of_decide_eq_true hway
        have hp : (((L.map fun q => V.ref q.1).reverse.length : Nat) : Int) > 0 := of_decide_eq_true hpos
        -- at = draws[57] % len(other)
        refine ⟨_, rfl, ld, _, _, _, rfl, rfl, SqL.of (s5 _ _ hd4), at_of (j := 57) (v := V.int (ds.getD 57 0)) rfl (dAt 57 (by decide)), _, rfl, lo, _, rfl, .inl (SqL.of upd_same), _, _, rfl, rfl, hp, ?_⟩
        obtain ⟨k, hk⟩ : ∃ k : Nat, ds.getD 57 0 % (((L.map fun q => V.ref q.1).reverse.length : Nat) : Int) = (k : Int) := ⟨_, (Int.toNat_of_nonneg (Int.emod_nonneg _ (by omega))).symm⟩
        have hklt : k < (L.map fun q => V.ref q.1).reverse.length := by
          have z := Int.emod_lt_of_pos (ds.getD 57 0) hp
          rw [hk] at z
          omega
        have hkl : k < L.reverse.length := by
          rw [List.length_reverse, List.length_map] at hklt
          rw [List.length_reverse]
          exact hklt
        obtain ⟨l0, hl0⟩ : ∃ l0, L.reverse[k]? = some l0 := ⟨_, List.getElem?_eq_getElem hkl⟩
        have hx0 : (L.map fun q => V.ref q.1).reverse[k]? = some (V.ref l0.1) := by
          rw [← List.map_reverse, List.getElem?_map, hl0]
          rfl
        have er : L.reverse.map (fun q => q.2) = ((pairs (2 * n) e).reverse).map fun p => rule5 p (e p) := by
          rw [List.map_reverse, eL]
          unfold rulesOf
          rw [List.map_reverse]
        obtain ⟨p, hpk, e0⟩ : ∃ p, (pairs (2 * n) e).reverse[k]? = some p ∧ l0.2 = rule5 p (e p) := by
          have z : (L.reverse.map fun q => q.2)[k]? = some l0.2 := by
            rw [List.getElem?_map, hl0]
            rfl
          rw [er, List.getElem?_map] at z
          cases y : (pairs (2 * n) e).reverse[k]? with
          | none => rw [y] at z; cases z
          | some p => rw [y] at z; exact ⟨p, rfl, (Option.some.inj z).symm⟩
        obtain ⟨hpn, hp0⟩ := pairs_mem.mp (List.mem_reverse.mp (List.mem_of_getElem? hpk))
        obtain ⟨w0, m0, f0, e1, hw0, hm0, hf0, _⟩ := rule5_in (p := p) hp0 (he' p hpn)
        have hrow := hL4 l0 (List.mem_reverse.mp (List.mem_of_getElem? hl0))
        rw [e0, e1] at hrow
        -- the five names
        refine ⟨_, rfl, _, rfl, lo, _, _, V.ref l0.1, rfl, rfl, SqL.of upd_same, at_of (j := k) hk hx0, l0.1, _, rfl, .inl (.inl (s5 _ _ hrow)), rfl, _, _, rfl, _, _, rfl, _, _, rfl, _, _, rfl, _, [], rfl, rfl, ?_⟩
        -- rows
        refine ⟨_, rfl, _, rfl, _, rfl, _, _, rfl, rfl, _, rfl, _, rfl, (by show 5 ≤ sizeLine; decide), fun t0 ht0 => ?_⟩
        refine ⟨_, rfl, _, rfl, _, rfl, _, rfl, _, _, rfl, rfl, _, _, rfl, rfl, (by show (0 : Int) < 3; decide), _, _, rfl, rfl, _, rfl, (by show 5 ≤ sizeLine; decide), fun t1 ht1 => ?_⟩
        refine ⟨_, rfl, _, rfl, _, rfl, _, rfl, _, rfl, _, _, rfl, rfl, _, rfl, _, _, rfl, rfl, (by omega), (by show 5 ≤ sizeLine; decide), fun t2 ht2 => ?_⟩
        refine ⟨(by show 3 ≤ sizeLine; decide), fun lw hlw => ?_⟩
        have z0 := sUpd (o := .tup [.int ((p / 2 : Nat) : Int), .int ((p % 2 : Nat) : Int), .int (1 - w0), .int m0, .int f0]) ht0
        have z1 := sUpd (o := .tup [.int ((p / 2 : Nat) : Int), .int ((p % 2 : Nat) : Int), .int w0, .int ((m0 + 2) % 3 - 1), .int f0]) ht1
        have z2 := sUpd (o := .tup [.int ((p / 2 : Nat) : Int), .int ((p % 2 : Nat) : Int), .int w0, .int m0, .int ((f0 + 1) % (n : Int))]) ht2
        have z3 := sUpd (o := .lst [.ref t0, .ref t1, .ref t2]) hlw
        have z12 := z1.trans z2
        have z123 := z12.trans z3
        have zz := z0.trans z123
        have g0 := z123 _ _ (upd_same (H := upd H4 lo (.lst (L.map fun q => V.ref q.1).reverse)) (a := t0) (o := .tup [.int ((p / 2 : Nat) : Int), .int ((p % 2 : Nat) : Int), .int (1 - w0), .int m0, .int f0]))
        have g1 := (z2.trans z3) _ _ (upd_same (a := t1) (o := .tup [.int ((p / 2 : Nat) : Int), .int ((p % 2 : Nat) : Int), .int w0, .int ((m0 + 2) % 3 - 1), .int f0]))
        have g2 := z3 _ _ (upd_same (a := t2) (o := .tup [.int ((p / 2 : Nat) : Int), .int ((p % 2 : Nat) : Int), .int w0, .int m0, .int ((f0 + 1) % (n : Int))]))
        -- which of the three
        have pick : ∃ (jj : Nat) (tr : Addr) (x : Nat), ds.getD 58 0 % 4 - 1 = (jj : Int) ∧ ([.ref t0, .ref t1, .ref t2] : List V)[jj]? = some (.ref tr) ∧
            (upd (upd (upd (upd (upd H4 lo (.lst (L.map fun q => V.ref q.1).reverse)) t0 (.tup [.int ((p / 2 : Nat) : Int), .int ((p % 2 : Nat) : Int), .int (1 - w0), .int m0, .int f0])) t1 (.tup [.int ((p / 2 : Nat) : Int), .int ((p % 2 : Nat) : Int), .int w0, .int ((m0 + 2) % 3 - 1), .int f0])) t2 (.tup [.int ((p / 2 : Nat) : Int), .int ((p % 2 : Nat) : Int), .int w0, .int m0, .int ((f0 + 1) % (n : Int))])) lw (.lst [.ref t0, .ref t1, .ref t2])) tr = some (.tup ((rule5 p x).map V.int)) ∧ x ≠ 0 ∧ x ≤ 6 * n := by
          have c : ds.getD 58 0 % 4 = 1 ∨ ds.getD 58 0 % 4 = 2 ∨ ds.getD 58 0 % 4 = 3 := by omega
          rcases c with c | c | c
          · obtain ⟨x1, x2, _⟩ := enc_ok (w := 1 - w0) (m := m0) (f := f0) (n := n) ⟨by omega, by omega⟩ hm0 hf0
            refine ⟨0, t0, enc (1 - w0) m0 f0, by omega, rfl, ?_, x1, x2⟩
            rw [rule5_enc (n := n) ⟨by omega, by omega⟩ hm0 hf0]
            exact g0
          · obtain ⟨x1, x2, _⟩ := enc_ok (w := w0) (m := (m0 + 2) % 3 - 1) (f := f0) (n := n) hw0 ⟨by omega, by omega⟩ hf0
            refine ⟨1, t1, enc w0 ((m0 + 2) % 3 - 1) f0, by omega, rfl, ?_, x1, x2⟩
            rw [rule5_enc (n := n) hw0 ⟨by omega, by omega⟩ hf0]
            exact g1
          · have hfn : 0 ≤ (f0 + 1) % (n : Int) ∧ (f0 + 1) % (n : Int) < n := ⟨Int.emod_nonneg _ (by omega), Int.emod_lt_of_pos _ (by omega)⟩
            obtain ⟨x1, x2, _⟩ := enc_ok (w := w0) (m := m0) (f := (f0 + 1) % (n : Int)) (n := n) hw0 hm0 hfn
            refine ⟨2, t2, enc w0 m0 ((f0 + 1) % (n : Int)), by omega, rfl, ?_, x1, x2⟩
            rw [rule5_enc (n := n) hw0 hm0 hfn]
            exact g2
        obtain ⟨jj, tr, x, hj1, hj2, htr, hx1, hx2⟩ := pick
        have hlo' := zz _ _ (upd_same (H := H4) (a := lo) (o := .lst (L.map fun q => V.ref q.1).reverse))
        -- other[at] = rows[way - 1]
        refine ⟨_, rfl, _, rfl, _, _, rfl, rfl, lw, _, _, V.ref tr, rfl, rfl, SqL.of upd_same, at_of (j := jj) hj1 hj2, _, rfl, _, rfl, lo, _, _, k, rfl, rfl, hlo', ixN_at hk hklt, ?_⟩
        have keep : ∀ (b : Addr) (o : HO), H4 b = some o → (upd (upd (upd (upd (upd (upd H4 lo (.lst (L.map fun q => V.ref q.1).reverse)) t0 (.tup [.int ((p / 2 : Nat) : Int), .int ((p % 2 : Nat) : Int), .int (1 - w0), .int m0, .int f0])) t1 (.tup [.int ((p / 2 : Nat) : Int), .int ((p % 2 : Nat) : Int), .int w0, .int ((m0 + 2) % 3 - 1), .int f0])) t2 (.tup [.int ((p / 2 : Nat) : Int), .int ((p % 2 : Nat) : Int), .int w0, .int m0, .int ((f0 + 1) % (n : Int))])) lw (.lst [.ref t0, .ref t1, .ref t2])) lo (.lst ((L.map fun q => V.ref q.1).reverse.set k (.ref tr)))) b = some o := fun b o z => by
          rw [upd_ne (ne_of_none z hlo)]
          exact zz _ _ (s5 _ _ z)
        refine ⟨_, _, _, _, _, _, _, L.reverse.set k (tr, rule5 p x), setE e p x, rfl, keep, ?_, fun y hy => ?_, ?_, setE_le he' hx2, by rw [List.length_set, List.length_reverse]; exact hLl⟩
        · rw [upd_same, List.map_set, List.map_reverse]
        · rcases List.mem_or_eq_of_mem_set hy with m | m
          · exact keep _ _ (hL4 y (List.mem_reverse.mp m))
          · subst m
            have ntl : tr ≠ lo := ne_of htr hlo' (by intro y; cases y)
            rw [upd_ne ntl]
            exact htr
        · rw [List.map_set, List.map_reverse, eL]
          show ((rulesOf (2 * n) e).reverse.set k (rule5 p x)).Perm _
          rw [other_list hpk hx1]
          exact List.reverse_perm _
    rintro σ' H6 ⟨v7, v8, v9, v10, v11, v12, v13, LB, e2, rfl, s6, hlo6, hLB, hpB, he2, hLBl⟩
    -- second = Turing(states, 2, list(other))
    refine ⟨_, rfl, _, rfl, lo, _, rfl, .inl (SqL.of hlo6), fun lc2 hlc2 ms dx2 nx2 ndx2 nex2 => ?_⟩
    have s7 : Same H6 (upd H6 lc2 (.lst (LB.map fun q => V.ref q.1))) := sUpd hlc2
    have s8 : Same (upd H6 lc2 (.lst (LB.map fun q => V.ref q.1))) (upd (upd (upd H6 lc2 (.lst (LB.map fun q => V.ref q.1))) dx2 (.own ms)) ms (.ins C dx2 [])) := fun b o z => by
      rw [upd_ne (ne_of_none z nx2), upd_ne (ne_of_none z ndx2)]
      exact z
    refine ⟨ms, dx2, lc2, n, LB, e2, rfl, upd_same, .inl (.inl (s8 _ _ upd_same)), (hLB.same s7).same s8, h1, h6, he2, hpB, fun H7 hT2 kp2 => ⟨rfl, ?_⟩⟩
    have s67 : Same H6 H7 := s7.trans (Same.made nx2 ndx2 kp2)
    have hT1' : TurAt C H7 mf n e := hT1.same (s6.trans s67)
    have hL7 : Rows H7 L := hL4.same (s6.trans s67)
    have hLB7 : Rows H7 LB := hLB.same s67
    -- same = sorted(rules) == sorted(other)
    refine ⟨fun σ' H' => Same H7 H' ∧ σ' = [some (.ref a), some (.ref ld), some (.int n), some (.ref lr), some (.ref mf), some (.ref lo), some (.int (ds.getD 58 0 % 4)), v7, v8, v9, v10, v11, v12, v13, some (.ref ms), some (.bl (decide (rulesOf (2 * n) e = rulesOf (2 * n) e2))), none, none], ?_, ?_⟩
    · have ok5 : ∀ (LL : List (Addr × List Int)) (ee : Nat → Nat), (LL.map fun q => q.2).Perm (rulesOf (2 * n) ee) → (∀ q, q < 2 * n → ee q ≤ 6 * n) → ∀ q ∈ LL, q.2.length = 5 ∧ Bd1 q.2 := fun LL ee hp hee q hq => by
        obtain ⟨p, hpn, hp0, ep⟩ := rulesOf_mem.mp (hp.mem_iff.mp (List.mem_map.mpr ⟨q, hq, rfl⟩))
        rw [ep]
        exact ⟨rfl, rule5_bd hpn h6 hp0 (hee p hpn)⟩
      have hpA : (L.map fun q => q.2).Perm (rulesOf (2 * n) e) := by rw [eL]
      refine ⟨_, rfl, lr, L, 5, rfl, SqL.of ((s6.trans s67) _ _ hlr4), by omega, by decide, fun q hq => ⟨.inl (.inl (hL7 q hq)), ok5 L e hpA he' q hq⟩, fun La pa pmA pwA hpa => ?_⟩
      have sA : Same H7 (upd H7 pa (.lst (La.map fun q => V.ref q.1))) := sUpd hpa
      refine ⟨_, rfl, lo, LB, 5, rfl, SqL.of (sA _ _ (s67 _ _ hlo6)), by omega, by decide, fun q hq => ⟨.inl (.inl (sA _ _ (hLB7 q hq))), ok5 LB e2 hpB he2 q hq⟩, fun Lb pb pmB pwB hpb => ?_⟩
      have sB : Same (upd H7 pa (.lst (La.map fun q => V.ref q.1))) (upd (upd H7 pa (.lst (La.map fun q => V.ref q.1))) pb (.lst (Lb.map fun q => V.ref q.1))) := sUpd hpb
      have eA : (La.map fun q => q.2) = rulesOf (2 * n) e := perm_sorted_eq rk _ _ ((pmA.map fun q => q.2).trans hpA) (by rw [List.pairwise_map]; exact pwA) (rulesOf_sorted h6 he')
      have eB : (Lb.map fun q => q.2) = rulesOf (2 * n) e2 := perm_sorted_eq rk _ _ ((pmB.map fun q => q.2).trans hpB) (by rw [List.pairwise_map]; exact pwB) (rulesOf_sorted h6 he2)
      have rA : Rows H7 La := fun q hq => hL7 q (pmA.mem_iff.mp hq)
      have rB : Rows H7 Lb := fun q hq => hLB7 q (pmB.mem_iff.mp hq)
      refine ⟨datL (rulesOf (2 * n) e), datL (rulesOf (2 * n) e2), ?_, ?_, shaped_datL _, shaped_datL _, sA.trans sB, ?_⟩
      · rw [← eA]
        exact .lst (SqL.of (sB _ _ upd_same)) (dp_rows K La (rA.same (sA.trans sB)))
      · rw [← eB]
        exact .lst (SqL.of upd_same) (dp_rows K Lb (rB.same (sA.trans sB)))
      · rw [eqv_datL]
        rfl
    rintro σ' H8 ⟨s78, rfl⟩
    have ins_of : ∀ {H' : Hp} {m : Addr} {em : Nat → Nat}, TurAt C H' m n em → ∃ dx fs, H' m = some (.ins C dx fs) := fun h => by
      obtain ⟨dx, d, r, kvs, R, z, _⟩ := h.ex
      exact ⟨_, _, z⟩
    -- the indexes
    refine ⟨_, rfl, mf, n, e, rfl, hT1'.same s78, h1, h6, he', fun H9 s9 => ⟨_, rfl, ms, n, e2, rfl, (hT2.same s78).same s9, h1, h6, he2, fun HA s10 => ⟨rfl, _, rfl, rfl, _, rfl, iteNS (congrArg V.bl (decide_eq_decide.mpr (idx_iff he' he2))) ?_⟩⟩⟩
    have hTa : TurAt C HA mf n e := ((hT1'.same s78).same s9).same s10
    have hTb : TurAt C HA ms n e2 := ((hT2.same s78).same s9).same s10
    obtain ⟨dxa, fa, ia⟩ := ins_of hTa
    obtain ⟨dxb, fb, ib⟩ := ins_of hTb
    refine ⟨_, rfl, _, rfl, mf, ms, dxa, dxb, fa, fb, rfl, rfl, ia, ib, mf, ms, n, e, e2, rfl, hTa, hTb, ⟨_, rfl⟩, _, rfl, rfl, _, rfl, iteNS rfl ?_⟩
    -- for machine in (first, second)
    refine ⟨_, rfl, _, rfl, (by show 2 ≤ sizeLine; decide), fun tp htp => ⟨tp, rfl, ⟨_, .inl (.inl upd_same)⟩, for_tup (K := K) (a := tp) (xs := [.ref mf, .ref ms]) (fun i σ H' => ∃ (v16 v17 : Option V),
        σ = [some (.ref a), some (.ref ld), some (.int n), some (.ref lr), some (.ref mf), some (.ref lo), some (.int (ds.getD 58 0 % 4)), v7, v8, v9, v10, v11, v12, v13, some (.ref ms), some (.bl (decide (rulesOf (2 * n) e = rulesOf (2 * n) e2))), v16, v17] ∧ Same (upd HA tp (.tup [.ref mf, .ref ms])) H')
      ⟨none, none, rfl, Same.refl _⟩ (fun i σ H' _ ⟨_, _, _, z⟩ => .inl (.inl (z _ _ upd_same))) ?_ ?_⟩⟩
    · rintro i y σ HB hi ⟨v16, v17, rfl, sB⟩
      have sAB : Same HA HB := (sUpd htp).trans sB
      obtain ⟨m, em, rfl, hTm, hem⟩ : ∃ (m : Addr) (em : Nat → Nat), y = V.ref m ∧ TurAt C HB m n em ∧ ∀ q, q < 2 * n → em q ≤ 6 * n := by
        match i, hi with
        | 0, hi => exact ⟨mf, e, (Option.some.inj hi).symm, hTa.same sAB, he'⟩
        | 1, hi => exact ⟨ms, e2, (Option.some.inj hi).symm, hTb.same sAB, he2⟩
        | i + 2, hi => simp at hi
      -- index = index_of(machine)
      refine ⟨_, rfl, m, n, em, rfl, hTm, h1, h6, hem, fun HC sC => ?_⟩
      have hlt : valF (6 * n + 1) em 0 (2 * n) < (6 * n + 1) ^ (2 * n) := valF_lt (2 * n) 0 fun p _ hp => Nat.lt_succ_of_le (hem p (by omega))
      refine ⟨_, rfl, _, _, rfl, rfl, _, rfl, ifF (decide_eq_false (by omega)) ?_⟩
      refine ⟨_, rfl, _, rfl, n, rfl, h1, h6, _, _, rfl, rfl, _, rfl, ifF (decide_eq_false (by omega)) ?_⟩
      refine ⟨_, rfl, _, rfl, n, em, rfl, h1, h6, hem, fun HD mm sD hTmm => ?_⟩
      have hTm' : TurAt C HD m n em := (hTm.same sC).same sD
      obtain ⟨dxa, fa, ia⟩ := ins_of hTmm
      obtain ⟨dxb, fb, ib⟩ := ins_of hTm'
      refine ⟨_, rfl, mm, m, dxa, dxb, fa, fb, rfl, rfl, ia, ib, mm, m, n, em, em, rfl, hTmm, hTm', ⟨_, rfl⟩, _, rfl, ifN (decide_eq_true rfl) ?_⟩
      exact ⟨_, _, rfl, (sB.trans sC).trans sD⟩
    · rintro σ HB ⟨v16, v17, rfl, sB⟩
      exact q HB
end K9

namespace K9
open PySem PySem.Spec PyProof.Rows L2
/-! ### what the top has written, and the law's own head -/
theorem all_mk {l : PySem.W.OpenLaw} {w : World} {K : PySem.W.Frag} {h : Heap} {mg : Str → Option Value} {fa C fPW fIN fEQ fRU fCS fMC fCI fRF fMA fIX fCE fDR fRS fLW : Addr} (X : K.In h) (G : h.Ns mainGlobals mg) (hfa : mg "law" = some (.ref fa))
    {odPW anPW odIN anIN odEQ anEQ odRU anRU odCS anCS odMC anMC odCI anCI odRF anRF odMA anMA odIX anIX odCE anCE odDR anDR odRS anRS odLW anLW : Option Addr} {slPW slIN slEQ slRU slCS slMC slCI slRF slMA slIX slCE slDR slRS slLW : Array (Option Value)} {ocPW kVPW dcPW pmPW cdPW ctPW ocIN kVIN dcIN pmIN cdIN ctIN ocEQ kVEQ dcEQ pmEQ cdEQ ctEQ ocRU kVRU dcRU pmRU cdRU ctRU ocCS kVCS dcCS pmCS cdCS ctCS ocMC kVMC dcMC pmMC cdMC ctMC ocCI kVCI dcCI pmCI cdCI ctCI ocRF kVRF dcRF pmRF cdRF ctRF ocMA kVMA dcMA pmMA cdMA ctMA ocIX kVIX dcIX pmIX cdIX ctIX ocCE kVCE dcCE pmCE cdCE ctCE ocDR kVDR dcDR pmDR cdDR ctDR ocRS kVRS dcRS pmRS cdRS ctRS ocLW kVLW dcLW pmLW cdLW ctLW : Value} {tgT tgY tgS : Tok}
    (aC : PySem.W.nsIn K mainGlobals "Turing" = some (some (.ref C)))
    (aPW : PySem.W.nsIn K mainGlobals "power" = some (some (.ref fPW)))
    (lPW : K.lookup fPW = some ⟨ocPW, odPW, .func (PySem.W.fnOf "power" "power" (defArgs sPower) (defBody sPower) (defScope sPower) .none kVPW dcPW pmPW anPW cdPW ctPW), slPW⟩)
    (cPW : PySem.W.codeIn K cdPW "power" = true)
    (kPW : PySem.W.keepIn K (.ref fPW) = true)
    (aIN : PySem.W.findIn K (.ref C) "__init__" = some (some (.ref fIN)))
    (iIN : PySem.W.isFn K (.ref fIN) = true)
    (lIN : K.lookup fIN = some ⟨ocIN, odIN, .func (PySem.W.fnOf "__init__" "Turing.__init__" (defArgs sInit) (defBody sInit) (defScope sInit) .none kVIN dcIN pmIN anIN cdIN ctIN), slIN⟩)
    (cIN : PySem.W.codeIn K cdIN "Turing.__init__" = true)
    (kIN : PySem.W.keepIn K (.ref fIN) = true)
    (aEQ : PySem.W.findIn K (.ref C) "__eq__" = some (some (.ref fEQ)))
    (iEQ : PySem.W.isFn K (.ref fEQ) = true)
    (lEQ : K.lookup fEQ = some ⟨ocEQ, odEQ, .func (PySem.W.fnOf "__eq__" "Turing.__eq__" (defArgs sEq) (defBody sEq) (defScope sEq) .none kVEQ dcEQ pmEQ anEQ cdEQ ctEQ), slEQ⟩)
    (cEQ : PySem.W.codeIn K cdEQ "Turing.__eq__" = true)
    (kEQ : PySem.W.keepIn K (.ref fEQ) = true)
    (aRU : PySem.W.findIn K (.ref C) "rule" = some (some (.ref fRU)))
    (iRU : PySem.W.isFn K (.ref fRU) = true)
    (lRU : K.lookup fRU = some ⟨ocRU, odRU, .func (PySem.W.fnOf "rule" "Turing.rule" (defArgs sRule) (defBody sRule) (defScope sRule) .none kVRU dcRU pmRU anRU cdRU ctRU), slRU⟩)
    (cRU : PySem.W.codeIn K cdRU "Turing.rule" = true)
    (kRU : PySem.W.keepIn K (.ref fRU) = true)
    (aCS : PySem.W.nsIn K mainGlobals "check_states" = some (some (.ref fCS)))
    (lCS : K.lookup fCS = some ⟨ocCS, odCS, .func (PySem.W.fnOf "check_states" "check_states" (defArgs sChkS) (defBody sChkS) (defScope sChkS) .none kVCS dcCS pmCS anCS cdCS ctCS), slCS⟩)
    (cCS : PySem.W.codeIn K cdCS "check_states" = true)
    (kCS : PySem.W.keepIn K (.ref fCS) = true)
    (aMC : PySem.W.nsIn K mainGlobals "machine_count" = some (some (.ref fMC)))
    (lMC : K.lookup fMC = some ⟨ocMC, odMC, .func (PySem.W.fnOf "machine_count" "machine_count" (defArgs sCount) (defBody sCount) (defScope sCount) .none kVMC dcMC pmMC anMC cdMC ctMC), slMC⟩)
    (cMC : PySem.W.codeIn K cdMC "machine_count" = true)
    (kMC : PySem.W.keepIn K (.ref fMC) = true)
    (aCI : PySem.W.nsIn K mainGlobals "check_index" = some (some (.ref fCI)))
    (lCI : K.lookup fCI = some ⟨ocCI, odCI, .func (PySem.W.fnOf "check_index" "check_index" (defArgs sChkI) (defBody sChkI) (defScope sChkI) .none kVCI dcCI pmCI anCI cdCI ctCI), slCI⟩)
    (cCI : PySem.W.codeIn K cdCI "check_index" = true)
    (kCI : PySem.W.keepIn K (.ref fCI) = true)
    (aRF : PySem.W.nsIn K mainGlobals "rule_for" = some (some (.ref fRF)))
    (lRF : K.lookup fRF = some ⟨ocRF, odRF, .func (PySem.W.fnOf "rule_for" "rule_for" (defArgs sRuleFor) (defBody sRuleFor) (defScope sRuleFor) .none kVRF dcRF pmRF anRF cdRF ctRF), slRF⟩)
    (cRF : PySem.W.codeIn K cdRF "rule_for" = true)
    (kRF : PySem.W.keepIn K (.ref fRF) = true)
    (aMA : PySem.W.nsIn K mainGlobals "machine_at" = some (some (.ref fMA)))
    (lMA : K.lookup fMA = some ⟨ocMA, odMA, .func (PySem.W.fnOf "machine_at" "machine_at" (defArgs sMachAt) (defBody sMachAt) (defScope sMachAt) .none kVMA dcMA pmMA anMA cdMA ctMA), slMA⟩)
    (cMA : PySem.W.codeIn K cdMA "machine_at" = true)
    (kMA : PySem.W.keepIn K (.ref fMA) = true)
    (aIX : PySem.W.nsIn K mainGlobals "index_of" = some (some (.ref fIX)))
    (lIX : K.lookup fIX = some ⟨ocIX, odIX, .func (PySem.W.fnOf "index_of" "index_of" (defArgs sIdxOf) (defBody sIdxOf) (defScope sIdxOf) .none kVIX dcIX pmIX anIX cdIX ctIX), slIX⟩)
    (cIX : PySem.W.codeIn K cdIX "index_of" = true)
    (kIX : PySem.W.keepIn K (.ref fIX) = true)
    (aCE : PySem.W.nsIn K mainGlobals "_law_cell" = some (some (.ref fCE)))
    (lCE : K.lookup fCE = some ⟨ocCE, odCE, .func (PySem.W.fnOf "_law_cell" "_law_cell" (defArgs sCell) (defBody sCell) (defScope sCell) .none kVCE dcCE pmCE anCE cdCE ctCE), slCE⟩)
    (cCE : PySem.W.codeIn K cdCE "_law_cell" = true)
    (kCE : PySem.W.keepIn K (.ref fCE) = true)
    (aDR : PySem.W.nsIn K mainGlobals "_law_draws" = some (some (.ref fDR)))
    (lDR : K.lookup fDR = some ⟨ocDR, odDR, .func (PySem.W.fnOf "_law_draws" "_law_draws" (defArgs sDraws) (defBody sDraws) (defScope sDraws) .none kVDR dcDR pmDR anDR cdDR ctDR), slDR⟩)
    (cDR : PySem.W.codeIn K cdDR "_law_draws" = true)
    (kDR : PySem.W.keepIn K (.ref fDR) = true)
    (aRS : PySem.W.nsIn K mainGlobals "_law_rules" = some (some (.ref fRS)))
    (lRS : K.lookup fRS = some ⟨ocRS, odRS, .func (PySem.W.fnOf "_law_rules" "_law_rules" (defArgs sRules) (defBody sRules) (defScope sRules) .none kVRS dcRS pmRS anRS cdRS ctRS), slRS⟩)
    (cRS : PySem.W.codeIn K cdRS "_law_rules" = true)
    (kRS : PySem.W.keepIn K (.ref fRS) = true)
    (aLW : PySem.W.nsIn K mainGlobals "law" = some (some (.ref fLW)))
    (lLW : K.lookup fLW = some ⟨ocLW, odLW, .func (PySem.W.fnOf "law" "law" (defArgs sLaw) (defBody sLaw) (defScope sLaw) .none kVLW dcLW pmLW anLW cdLW ctLW), slLW⟩)
    (cLW : PySem.W.codeIn K cdLW "law" = true)
    (kLW : PySem.W.keepIn K (.ref fLW) = true)
    (pg : PySem.W.plainGet K C Str.empty = true)
    (hd : PySem.W.hasDictIn K C = true)
    (po : PySem.W.plainOver K C = true)
    (sa : PySem.W.findIn K (.ref C) "__setattr__" = some (some (.builtin "object.__setattr__")))
    (mk : PySem.W.makesIn K C = true)
    (kc : PySem.W.keepIn K (.ref C) = true)
    (nS : PySem.W.findIn K (.ref C) "states" = some none)
    (nY : PySem.W.findIn K (.ref C) "symbols" = some none)
    (nT : PySem.W.findIn K (.ref C) "table" = some none)
    (nR : PySem.W.findIn K (.ref C) "rules" = some none)
    (ha : PySem.W.findIn K (.ref C) "__class__" = some (some (.builtin "object.__class__")))
    (hn : PySem.W.specialIn K (.builtin "object.__class__") "__get__" = some (some (.builtin "getset_descriptor.__get__")))
    (htk : PySem.W.takesIn K (.builtin "object.__class__") = some true)
    (hm : PySem.W.mroIn K C (.type "object") = some true)
    (z_len : PySem.W.nsIn K mainGlobals "len" = some none)
    (z_abs : PySem.W.nsIn K mainGlobals "abs" = some none)
    (z_int : PySem.W.nsIn K mainGlobals "int" = some none)
    (z_range : PySem.W.nsIn K mainGlobals "range" = some none)
    (z_tuple : PySem.W.nsIn K mainGlobals "tuple" = some none)
    (z_sorted : PySem.W.nsIn K mainGlobals "sorted" = some none)
    (z_list : PySem.W.nsIn K mainGlobals "list" = some none)
    (z_isinstance : PySem.W.nsIn K mainGlobals "isinstance" = some none)
    (gT : PySem.W.nsIn K mainGlobals "MOST_STATES_turing" = some (some (.int 20000 tgT)))
    (gY : PySem.W.nsIn K mainGlobals "MOST_SYMBOLS" = some (some (.int 400 tgY)))
    (gS : PySem.W.nsIn K mainGlobals "MOST_STATES_census" = some (some (.int 6 tgS)))
    : ∃ fd : FuncData, (∀ (s : Shared) (v : Value), BindsTo s fd ⟨[v], []⟩ [("_law_script", v)]) ∧ ∀ base : Heap, K.In base → base.Ns mainGlobals mg → FnOk l.prog w K mg base CX0 9 fa fd ["_law_script"] (spLaw K) := by
  have e := hfa.symm.trans (PySem.W.mg_of X G aLW)
  cases e
  have T : Txt K mg C := ⟨⟨pg, hd, po, sa⟩, nS, nY, nT, nR, PySem.W.mg_of X G aC, ⟨⟨pg, hd, po, sa⟩, ha, hn, htk, hm, if_pos (beq_self_eq_true _)⟩, mk, kc, PySem.W.mg_none_of X G z_len, PySem.W.mg_none_of X G z_abs, PySem.W.mg_none_of X G z_int, PySem.W.mg_none_of X G z_range, PySem.W.mg_none_of X G z_tuple, PySem.W.mg_none_of X G z_sorted, PySem.W.mg_none_of X G z_list, PySem.W.mg_none_of X G z_isinstance, ⟨_, PySem.W.mg_of X G gT⟩, ⟨_, PySem.W.mg_of X G gY⟩, ⟨_, PySem.W.mg_of X G gS⟩⟩
  have FPW := fun_mk (st := sPower) lPW cPW kPW
  have FIN := fun_mk (st := sInit) lIN cIN kIN
  have FEQ := fun_mk (st := sEq) lEQ cEQ kEQ
  have FRU := fun_mk (st := sRule) lRU cRU kRU
  have FCS := fun_mk (st := sChkS) lCS cCS kCS
  have FMC := fun_mk (st := sCount) lMC cMC kMC
  have FCI := fun_mk (st := sChkI) lCI cCI kCI
  have FRF := fun_mk (st := sRuleFor) lRF cRF kRF
  have FMA := fun_mk (st := sMachAt) lMA cMA kMA
  have FIX := fun_mk (st := sIdxOf) lIX cIX kIX
  have FCE := fun_mk (st := sCell) lCE cCE kCE
  have FDR := fun_mk (st := sDraws) lDR cDR kDR
  have FRS := fun_mk (st := sRules) lRS cRS kRS
  have FLW := fun_mk (st := sLaw) lLW cLW kLW
  have bPW := FPW.binds (ps := ["base", "count"]) fun _ _ _ _ _ _ us hl => match us, hl with | [_, _], _ => rfl
  have bIN := FIN.binds (ps := ["self", "states", "symbols", "rules"]) fun _ _ _ _ _ _ us hl => match us, hl with | [_, _, _, _], _ => rfl
  have bEQ := FEQ.binds (ps := ["self", "other"]) fun _ _ _ _ _ _ us hl => match us, hl with | [_, _], _ => rfl
  have bRU := FRU.binds (ps := ["self", "state", "symbol"]) fun _ _ _ _ _ _ us hl => match us, hl with | [_, _, _], _ => rfl
  have bCS := FCS.binds (ps := ["states"]) fun _ _ _ _ _ _ us hl => match us, hl with | [_], _ => rfl
  have bMC := FMC.binds (ps := ["states"]) fun _ _ _ _ _ _ us hl => match us, hl with | [_], _ => rfl
  have bCI := FCI.binds (ps := ["states", "index"]) fun _ _ _ _ _ _ us hl => match us, hl with | [_, _], _ => rfl
  have bRF := FRF.binds (ps := ["state", "symbol", "entry"]) fun _ _ _ _ _ _ us hl => match us, hl with | [_, _, _], _ => rfl
  have bMA := FMA.binds (ps := ["states", "index"]) fun _ _ _ _ _ _ us hl => match us, hl with | [_, _], _ => rfl
  have bIX := FIX.binds (ps := ["machine"]) fun _ _ _ _ _ _ us hl => match us, hl with | [_], _ => rfl
  have bCE := FCE.binds (ps := ["_law_script", "_law_k"]) fun _ _ _ _ _ _ us hl => match us, hl with | [_, _], _ => rfl
  have bDR := FDR.binds (ps := ["_law_cell_here", "_law_count"]) fun _ _ _ _ _ _ us hl => match us, hl with | [_, _], _ => rfl
  have bRS := FRS.binds (ps := ["_law_draws_here", "_law_states", "_law_symbols"]) fun _ _ _ _ _ _ us hl => match us, hl with | [_, _, _], _ => rfl
  have D : Defs K mg C fPW fIN fEQ fRU fCS fMC fCI fRF fMA fIX fCE fDR fRS _ _ _ _ _ _ _ _ _ _ _ _ _ := ⟨FPW, bPW, PySem.W.mg_of X G aPW, FIN, bIN, ⟨aIN, iIN, kIN⟩, FEQ, bEQ, ⟨aEQ, iEQ, kEQ⟩, FRU, bRU, ⟨aRU, iRU, kRU⟩, FCS, bCS, PySem.W.mg_of X G aCS, FMC, bMC, PySem.W.mg_of X G aMC, FCI, bCI, PySem.W.mg_of X G aCI, FRF, bRF, PySem.W.mg_of X G aRF, FMA, bMA, PySem.W.mg_of X G aMA, FIX, bIX, PySem.W.mg_of X G aIX, FCE, bCE, PySem.W.mg_of X G aCE, FDR, bDR, PySem.W.mg_of X G aDR, FRS, bRS, PySem.W.mg_of X G aRS⟩
  exact ⟨PySem.W.fnOf "law" "law" (defArgs sLaw) (defBody sLaw) (defScope sLaw) .none kVLW dcLW pmLW anLW cdLW ctLW, fun s v => .of_eq rfl, fun base _ _ => ok_law FLW T D⟩
theorem walk {l : PySem.W.OpenLaw} {q : Program} {loose : List Str} {XP : (Str → Option Value) → Heap → Prop} {YP : World → Heap → Prop} {d : DefRec} {K : Params → PySem.W.Frag} (hn : l.most = some 63) (hdf : d.params.defaults = [])
    (hY : ∀ (w : World) (h : Heap), YP w h → (K w.params).In h)
    (F : ∀ (w : World) (mg : Str → Option Value) (fa : Addr) (h : Heap), (K w.params).In h → h.Ns mainGlobals mg → mg d.name = some (.ref fa) →
      ∃ fd : FuncData, (∀ (s : Shared) (u : Value), BindsTo s fd ⟨[u], []⟩ [("_law_script", u)]) ∧ ∀ base : Heap, (K w.params).In base → base.Ns mainGlobals mg → FnOk l.prog w (K w.params) mg base CX0 9 fa fd ["_law_script"] (spLaw (K w.params))) :
    PySem.W.WalkO q loose XP YP l.row.toRowW d [] (fun f vs => PySem.call f vs) :=
  L2.walk_of (n := 63) (k := 9) (x := "_law_script") (CX := fun _ => CX0) (sp := fun w => spLaw (K w.params)) hn (by decide) hdf ⟨rfl, by decide, by decide⟩ hY F (fun _ _ a ns hl _ hS => ⟨a, ns, rfl, hS, hl, fun _ => rfl⟩) fun _ _ _ _ _ z => z
end K9
open PySem PySem.W PyProof.Rows
set_option maxRecDepth 100000 in
set_option maxHeartbeats 0 in
theorem PySem.Challenge.cw_translatory_k90_whole_one_machine_for_ea_holds : PySem.Challenge.rw_translatory_k90_whole_one_machine_for_ea.Holds := by
  w_on; o_law; k_head; (case hw => w_witness2)
  k_fill
  refine K9.walk (l := PySem.Challenge.rw_translatory_k90_whole_one_machine_for_ea) rfl rfl (fun w h Y => PySem.W.kIn_of Y) ?F
  case F =>
    intro w mg fa h KX G hmg
    refine' K9.all_mk KX G hmg ?aC ?aPW ?lPW ?cPW ?kPW ?aIN ?iIN ?lIN ?cIN ?kIN ?aEQ ?iEQ ?lEQ ?cEQ ?kEQ ?aRU ?iRU ?lRU ?cRU ?kRU ?aCS ?lCS ?cCS ?kCS ?aMC ?lMC ?cMC ?kMC ?aCI ?lCI ?cCI ?kCI ?aRF ?lRF ?cRF ?kRF ?aMA ?lMA ?cMA ?kMA ?aIX ?lIX ?cIX ?kIX ?aCE ?lCE ?cCE ?kCE ?aDR ?lDR ?cDR ?kDR ?aRS ?lRS ?cRS ?kRS ?aLW ?lLW ?cLW ?kLW ?pg ?hd ?po ?sa ?mk ?kc ?nS ?nY ?nT ?nR ?ha ?hn ?htk ?hm ?z_len ?z_abs ?z_int ?z_range ?z_tuple ?z_sorted ?z_list ?z_isinstance ?gT ?gY ?gS
    (case aC => k_is)
    (case aPW => k_is)
    (case lPW => k_is)
    (case cPW => k_is)
    (case kPW => k_is)
    (case aIN => k_is)
    (case iIN => k_is)
    (case lIN => k_is)
    (case cIN => k_is)
    (case kIN => k_is)
    (case aEQ => k_is)
    (case iEQ => k_is)
    (case lEQ => k_is)
    (case cEQ => k_is)
    (case kEQ => k_is)
    (case aRU => k_is)
    (case iRU => k_is)
    (case lRU => k_is)
    (case cRU => k_is)
    (case kRU => k_is)
    (case aCS => k_is)
    (case lCS => k_is)
    (case cCS => k_is)
    (case kCS => k_is)
    (case aMC => k_is)
    (case lMC => k_is)
    (case cMC => k_is)
    (case kMC => k_is)
    (case aCI => k_is)
    (case lCI => k_is)
    (case cCI => k_is)
    (case kCI => k_is)
    (case aRF => k_is)
    (case lRF => k_is)
    (case cRF => k_is)
    (case kRF => k_is)
    (case aMA => k_is)
    (case lMA => k_is)
    (case cMA => k_is)
    (case kMA => k_is)
    (case aIX => k_is)
    (case lIX => k_is)
    (case cIX => k_is)
    (case kIX => k_is)
    (case aCE => k_is)
    (case lCE => k_is)
    (case cCE => k_is)
    (case kCE => k_is)
    (case aDR => k_is)
    (case lDR => k_is)
    (case cDR => k_is)
    (case kDR => k_is)
    (case aRS => k_is)
    (case lRS => k_is)
    (case cRS => k_is)
    (case kRS => k_is)
    (case aLW => k_is)
    (case lLW => k_is)
    (case cLW => k_is)
    (case kLW => k_is)
    (case pg => k_is)
    (case hd => k_is)
    (case po => k_is)
    (case sa => k_is)
    (case mk => k_is)
    (case kc => k_is)
    (case nS => k_is)
    (case nY => k_is)
    (case nT => k_is)
    (case nR => k_is)
    (case ha => k_is)
    (case hn => k_is)
    (case htk => k_is)
    (case hm => k_is)
    (case z_len => k_is)
    (case z_abs => k_is)
    (case z_int => k_is)
    (case z_range => k_is)
    (case z_tuple => k_is)
    (case z_sorted => k_is)
    (case z_list => k_is)
    (case z_isinstance => k_is)
    (case gT => k_is)
    (case gY => k_is)
    (case gS => k_is)
#print axioms PySem.Challenge.cw_translatory_k90_whole_one_machine_for_ea_holds
