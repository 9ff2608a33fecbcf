import PyProof.Rows.All
import Wide.All
import OpenK.AllK
import Wide.FinOn
import HandS.SortRule
import HandS.SortInts
import HandS.ForMost
import HandS.ForExc
import HandS.Deep
import HandS.Walk
import HandS.TupAny
import HandS.IsInst
import HandS.CallSlots
import HandS.TupMul
import KE.KRevSl
import HandS.Style
import HandS.SetFor
import HandS.Strs
import KE.GoesEnum
import KE.GoesMore
import HandS.Wide
import HandS.Zip
import HandS.Flow
import HandS.ExcOwn
import PyProof.AutoSeq1
import HandS.Conv
import HandS.Iter
import HandS.AnyAll
import HandS.WordsExc
import HandS.HeadHook4
import HandS.HeadEnd
import HandS.Defaults
import PySem.Challenge.RW_walkstrides_k82_whole_growing_shapes
import HandS.Head0
import HandS.Head1
import HandS.Head2
import KE.KStateDown
set_option Elab.async false
set_option linter.all false
set_option maxRecDepth 100000
set_option maxHeartbeats 4000000
/-! VsSo: sorted of a list of tuples of ints, of any lengths. -/
namespace VS
open PySem PySem.Spec PyProof.Rows L2

/-- tuples of ints in their order -/
def lexL : List Int → List Int → Bool
  | [], [] => false
  | [], _ :: _ => true
  | _ :: _, [] => false
  | x :: xs, y :: ys => if x = y then lexL xs ys else decide (x < y)
theorem lexL_asym : ∀ x y : List Int, lexL x y = true → lexL y x = false
  | [], [], h => by simp [lexL] at h
  | [], _ :: _, _ => rfl
  | _ :: _, [], h => by simp [lexL] at h
  | x :: xs, y :: ys, h => by
    unfold lexL at h ⊢
    by_cases e : x = y
    · subst e
      rw [if_pos rfl] at h ⊢
      exact lexL_asym xs ys h
    · rw [if_neg e] at h
      rw [if_neg (Ne.symm e)]
      have := of_decide_eq_true h
      exact decide_eq_false (by omega)
theorem lexL_tr : ∀ x y z : List Int, lexL y x = false → lexL z y = false → lexL z x = false
  | [], _, [], _, _ => rfl
  | [], [], _ :: _, _, _ => rfl
  | [], _ :: _, _ :: _, _, _ => rfl
  | _ :: _, [], _, h, _ => by simp [lexL] at h
  | _ :: _, _ :: _, [], _, h => by simp [lexL] at h
  | x :: xs, y :: ys, z :: zs, h1, h2 => by
    unfold lexL at h1 h2 ⊢
    by_cases e : y = x
    · subst e
      rw [if_pos rfl] at h1
      by_cases e2 : z = y
      · subst e2
        rw [if_pos rfl] at h2 ⊢
        exact lexL_tr xs ys zs h1 h2
      · rw [if_neg e2] at h2 ⊢
        exact h2
    · rw [if_neg e] at h1
      have h1' := of_decide_eq_false h1
      by_cases e2 : z = y
      · subst e2
        rw [if_neg e]
        exact h1
      · rw [if_neg e2] at h2
        have h2' := of_decide_eq_false h2
        rw [if_neg (by omega)]
        exact decide_eq_false (by omega)
theorem lexL_eq : ∀ {x y : List Int}, lexL x y = false → lexL y x = false → x = y
  | [], [], _, _ => rfl
  | [], _ :: _, h, _ => by simp [lexL] at h
  | _ :: _, [], _, h => by simp [lexL] at h
  | x :: xs, y :: ys, h1, h2 => by
    unfold lexL at h1 h2
    by_cases e : x = y
    · subst e
      rw [if_pos rfl] at h1 h2
      rw [lexL_eq h1 h2]
    · rw [if_neg e] at h1
      rw [if_neg (Ne.symm e)] at h2
      have := of_decide_eq_false h1
      have := of_decide_eq_false h2
      omega
theorem swoL {α : Type} (k : α → List Int) : SrtO.Swo fun v u => lexL (k v) (k u) := ⟨fun x y => lexL_asym _ _, fun x y z => lexL_tr _ _ _⟩
section
variable {prog : Program} {w : World} {A : Around} {E : Value → Shared → Prop} {s : Shared} {Q : Bool → Shared → Prop}
theorem katL {b : Bool} {z : Bool} {xs ys : List Value} {ns ms : List Int} (i : Nat) (hx : IntsAre xs ns) (hy : IntsAre ys ms) (hz : z = decide (ns.length < ms.length)) (h : Q (lexL ns ms) s) :
    PySem.W.KatLex prog w A b z Q (xs.zip ys) i s := by
  induction hx generalizing ys ms i z with
  | nil =>
    cases hy with
    | nil =>
      subst hz
      exact PySem.W.kat_nil h
    | cons q u hy =>
      have e : z = true := by rw [hz]; simp
      subst e
      exact PySem.W.kat_nil h
  | @cons p t xs ns hx ih =>
    cases hy with
    | nil =>
      have e : z = false := by rw [hz]; simp
      subst e
      exact PySem.W.kat_nil h
    | @cons q u ys ms hy =>
      have hz' : z = decide (ns.length < ms.length) := by rw [hz]; simp
      show PySem.W.KatLex prog w A b z Q ((Value.int p t, Value.int q u) :: xs.zip ys) i s
      refine PySem.W.kat_cons (wpAny_eqBool_int ?_)
      unfold lexL at h
      by_cases e : p = q
      · subst e
        rw [beq_self_eq_true]
        rw [if_pos rfl] at h
        refine PySem.W.kat_yes ?_
        first
          | exact ih (i + 1) hy hz' h
          | exact ih _ _ (i + 1) hy hz' h
      · rw [show (p == q) = false from beq_eq_false_iff_ne.mpr e]
        rw [if_neg e] at h
        exact PySem.W.kat_no (TS.oneLt_ints _ h)
theorem cmpL {vs : List Value} {k : Value → List Int} (hp : ∀ v ∈ vs, TS.TupInts s.heap v (k v)) : SrtO.Cmp prog w A s (tuples' true) (fun p => p.1 ∈ vs) (SrtO.lt2 fun v u => lexL (k v) (k u)) := by
  intro p q hm hm'
  have h1 := hp _ hm
  have h2 := hp _ hm'
  show wpAny (model prog w) A (keyLt' (tuples' true) p.1 q.1) (fun r s' => s' = s ∧ r = lexL (k p.1) (k q.1)) (fun _ _ => False) s
  generalize k p.1 = x at h1 ⊢
  generalize k q.1 = y at h2 ⊢
  obtain ⟨a, xs, e1, ⟨o, ho, hc, n, hd⟩, i1⟩ := h1
  obtain ⟨a', ys, e2, ⟨o', ho', hc', n', hd'⟩, i2⟩ := h2
  rw [e1, e2]
  refine PySem.W.kat_lt ho hd ho' hd' (katL 0 i1 i2 ?_ ⟨rfl, rfl⟩)
  have l1 := i1.length
  have l2 := i2.length
  rw [Array.length_toList] at l1 l2
  rw [l1, l2]
theorem firstsL {h : Heap} {k : Value → List Int} : ∀ {vs : List Value}, (∀ v ∈ vs, TS.TupInts h v (k v) ∧ k v ≠ []) → ∃ fs : List Value, PySem.W.KatTups h vs fs ∧ fs.length = vs.length ∧ ∀ f ∈ fs, ∃ x t, f = Value.int x t
  | [], _ => ⟨[], PySem.W.KatTups.nil, rfl, fun _ hm => by simp at hm⟩
  | v :: vs, hp => by
    obtain ⟨fs, h1, h2, h3⟩ := firstsL (k := k) (vs := vs) fun v' hm => hp v' (List.mem_cons_of_mem _ hm)
    obtain ⟨⟨a, xs, e, ⟨o, ho, hc, n, hd⟩, i⟩, hne⟩ := hp v (List.mem_cons_self ..)
    generalize k v = ns at i hne
    obtain ⟨y, ys, e2⟩ : ∃ y ys, xs.toList = y :: ys := by
      cases q : xs.toList with
      | nil =>
        rw [q] at i
        cases i
        exact absurd rfl hne
      | cons y ys => exact ⟨y, ys, rfl⟩
    obtain ⟨m, t, hy⟩ := i.all y (by rw [e2]; exact List.mem_cons_self ..)
    subst e
    refine ⟨y :: fs, PySem.W.KatTups.cons ho hc hd ?_ h1, by rw [List.length_cons, List.length_cons, h2], fun f hm => ?_⟩
    · have z := congrArg (fun l : List Value => l[0]?) e2
      simpa using z
    · rcases List.mem_cons.mp hm with rfl | hm
      · exact ⟨m, t, hy⟩
      · exact h3 f hm
theorem sortableL {a : Addr} {vs : List Value} {k : Value → List Int} (h0 : 0 < vs.length) (hp : ∀ v ∈ vs, TS.TupInts s.heap v (k v) ∧ k v ≠ []) (ha : ∀ o, s.heap.get? a = some o → o.cls ≠ .type "tuple") :
    SrtO.SortableO prog w A s a vs fun v u => lexL (k v) (k u) := by
  intro h' keep
  have hp' : ∀ v ∈ vs, TS.TupInts h' v (k v) ∧ k v ≠ [] := fun v hm => ⟨(hp v hm).1.keeps fun b o e c => keep b o (fun z => by subst z; exact ha o e c) e, (hp v hm).2⟩
  obtain ⟨fs, h1, h2, h3⟩ := firstsL hp'
  refine ⟨tuples' true, fun Q E hq => ?_, cmpL fun v hm => (hp' v hm).1⟩
  refine PySem.W.kat_kind (T := .type "int") h1 (by omega) (fun f hm => ?_) (by rfl) ?_
  · obtain ⟨x, t, rfl⟩ := h3 f hm
    exact PySem.W.Looks.now
  · have e : (Value.type "int" != Value.type "tuple") = true := by first | decide +kernel | rfl | decide
    rw [e]
    exact hq
end
/-- sorted(xs), tuples of ints of any lengths: the new list -/
def TupOf (K : PySem.W.Frag) (H : Hp) (x : V) (ns : List Int) : Prop := ∃ t, x = V.ref t ∧ SqT K H t (ns.map V.int)
def rSortedT (K : PySem.W.Frag) : List V → Hp → VK → Prop := fun vs H Q => ∃ (a : Addr) (xs : List V) (ks : List (List Int)), vs = [V.ref a] ∧ SqL K H a xs ∧ Paired (TupOf K H) xs ks ∧
  (2 ≤ ks.length → ∀ k ∈ ks, k ≠ []) ∧ ∀ (zs : List (V × List Int)) (p : Addr), zs.Perm (xs.zip ks) → (zs.map Prod.snd).Pairwise (fun x y => lexL y x = false) → H p = none → Q (.ref p) (upd H p (.lst (zs.map Prod.fst)))
theorem map_int_inj : ∀ {ns ms : List Int}, ns.map V.int = ms.map V.int → ns = ms
  | [], [], _ => rfl
  | [], _ :: _, h => by simp at h
  | _ :: _, [], h => by simp at h
  | n :: ns, m :: ms, h => by
    rw [List.map_cons, List.map_cons] at h
    injection h with h1 h2
    injection h1 with h1
    rw [h1, map_int_inj h2]
theorem paired_map {K : PySem.W.Frag} {H : Hp} {k : V → List Int} (u : ∀ x ns, TupOf K H x ns → k x = ns) : ∀ {xs : List V} {ks : List (List Int)}, Paired (TupOf K H) xs ks → xs.map k = ks
  | _, _, .nil => rfl
  | _, _, .cons r t => by rw [List.map_cons, u _ _ r, paired_map u t]
theorem paired_mem {K : PySem.W.Frag} {H : Hp} : ∀ {xs : List V} {ks : List (List Int)}, Paired (TupOf K H) xs ks → ∀ x ∈ xs, ∃ ns, TupOf K H x ns
  | _, _, .nil, _, h => absurd h (by simp)
  | _, _, .cons r t, x, h => by
    rcases List.mem_cons.mp h with e | h
    · exact ⟨_, e ▸ r⟩
    · exact paired_mem t x h
theorem zip_map_self {α β : Type} (f : α → β) : ∀ l : List α, l.zip (l.map f) = l.map fun x => (x, f x)
  | [] => rfl
  | x :: l => by rw [List.map_cons, List.zip_cons_cons, zip_map_self f l, List.map_cons]
theorem cr_sortedT {X : Cx} : CallR X (.builtin "sorted") (rSortedT X.K) := by
  intro pins s σ H vs us Q I r h
  obtain ⟨a, xs, ks, rfl, hs, hx, hne, q⟩ := h
  obtain ⟨its, rv, hl, hz⟩ := I.list hs
  obtain ⟨u, rfl, ru⟩ := vals1 r
  obtain rfl : u = Value.ref a := ru
  obtain ⟨k, hk⟩ : ∃ k : V → List Int, ∀ x ns, TupOf X.K H x ns → k x = ns := by
    refine ⟨fun x => Classical.epsilon fun ns => TupOf X.K H x ns, fun x ns hn => ?_⟩
    obtain ⟨t, e1, h1⟩ := Classical.epsilon_spec (p := fun ns => TupOf X.K H x ns) ⟨ns, hn⟩
    obtain ⟨t', e2, h2⟩ := hn
    have e3 : V.ref t = V.ref t' := e1.symm.trans e2
    cases e3
    exact map_int_inj (I.tuple_inj h1 h2)
  have ek := paired_map hk hx
  have hx' : ∀ x ∈ xs, TupOf X.K H x (k x) := fun x m => by
    obtain ⟨ns, h⟩ := paired_mem hx x m
    rw [hk _ _ h]
    exact h
  subst ek
  obtain ⟨e1, e2⟩ := refs_back rv fun x m => by
    obtain ⟨t, e, _⟩ := hx' x m
    exact ⟨t, e⟩
  have tup : ∀ v ∈ its, TS.TupInts s.heap v (k (backV v)) := fun v hv => by
    obtain ⟨t, rfl⟩ := e2 v hv
    have hm : V.ref t ∈ xs := by rw [e1]; exact List.mem_map.mpr ⟨_, hv, rfl⟩
    obtain ⟨t', e, ht⟩ := hx' _ hm
    cases e
    obtain ⟨its2, r2, ht2, _⟩ := I.tuple ht
    exact ⟨t, its2.toArray, rfl, ht2, r2.ints⟩
  have hne' : 2 ≤ its.length → ∀ v ∈ its, k (backV v) ≠ [] := fun h2 v hv => hne (by rw [List.length_map, rv.length]; exact h2) _ (List.mem_map.mpr ⟨_, by rw [e1]; exact List.mem_map.mpr ⟨_, hv, rfl⟩, rfl⟩)
  refine SrtO.sorted_ord (ltv := fun v u => lexL (k (backV v)) (k (backV u))) (swoL fun v => k (backV v)) hl.isList (by rw [← rv.length]; exact hz) (fun h2 h₁ a' ha kk => ?_) fun out h1 h2 => ?_
  · refine sortableL (s := { s with heap := h₁ }) (by omega) (fun v hm => ⟨(tup v hm).keeps fun b o e _ => (kk b o e).2, hne' h2 v hm⟩) fun o e => ?_
    have e' : some o = some (seqObj "list" its.toArray 0) := e.symm.trans ha
    cases e'
    intro c
    exact absurd (Value.type.inj c) (by decide)
  · obtain ⟨ep, he'⟩ := PyProof.Rows.sortedAll_at s.heap its out.toArray
    have h3 : ∀ u ∈ out, ∃ a, u = Value.ref a := fun u hu => e2 u (h2.perm.mem_iff.mp hu)
    have hp : (out.map backV).Perm xs := by rw [e1]; exact h2.perm.map _
    have q' := q ((out.map backV).map fun x => (x, k x)) (s.heap.objs.size + 1) (by rw [zip_map_self]; exact hp.map _)
      (by rw [List.map_map, List.map_map]; exact List.pairwise_map.mpr h1) (I.hok.fresh (Nat.le_succ _))
    rw [List.map_map, show (Prod.fst ∘ fun x => (x, k x)) = (id : V → V) from rfl, List.map_id] at q'
    refine ⟨.ref _, upd H (s.heap.objs.size + 1) (.lst (out.map backV)), I.laid (t' := s.toks) (fun _ _ => PyProof.Rows.sortedAll_old) (Nat.le_succ _) ⟨?_, out, ep, vals_back h3, he'⟩, rfl, q'⟩
    rw [hp.length_eq]; exact hz

/-! ### the same of data -/
def insL (x : List Int) : List (List Int) → List (List Int)
  | [] => [x]
  | y :: ys => if lexL y x = false then x :: y :: ys else y :: insL x ys
def sortT : List (List Int) → List (List Int)
  | [] => []
  | x :: xs => insL x (sortT xs)
theorem insL_perm (x : List Int) : ∀ ys : List (List Int), (insL x ys).Perm (x :: ys)
  | [] => List.Perm.refl _
  | y :: ys => by
    unfold insL
    split
    · exact List.Perm.refl _
    · exact ((insL_perm x ys).cons y).trans (List.Perm.swap x y ys)
theorem sortT_perm : ∀ xs : List (List Int), (sortT xs).Perm xs
  | [] => List.Perm.refl _
  | x :: xs => (insL_perm x _).trans ((sortT_perm xs).cons x)
theorem insL_sorted (x : List Int) : ∀ ys : List (List Int), ys.Pairwise (fun x y => lexL y x = false) → (insL x ys).Pairwise (fun x y => lexL y x = false)
  | [], _ => by simp [insL]
  | y :: ys, h => by
    unfold insL
    obtain ⟨h1, h2⟩ := List.pairwise_cons.mp h
    split
    · rename_i hx
      refine List.pairwise_cons.mpr ⟨fun z hz => ?_, h⟩
      rcases List.mem_cons.mp hz with e | hz
      · rw [e]; exact hx
      · exact lexL_tr _ _ _ hx (h1 z hz)
    · rename_i hx
      refine List.pairwise_cons.mpr ⟨fun z hz => ?_, insL_sorted x ys h2⟩
      rcases List.mem_cons.mp ((insL_perm x ys).mem_iff.mp hz) with e | hz
      · rw [e]; exact lexL_asym _ _ (by simpa using hx)
      · exact h1 z hz
theorem sortT_sorted : ∀ xs : List (List Int), (sortT xs).Pairwise (fun x y => lexL y x = false)
  | [] => List.Pairwise.nil
  | x :: xs => insL_sorted x _ (sortT_sorted xs)
theorem sortT_uniq {ns xs : List (List Int)} (h1 : ns.Perm xs) (s1 : ns.Pairwise (fun x y => lexL y x = false)) : ns = sortT xs :=
  List.Perm.eq_of_pairwise (le := fun a b => lexL b a = false) (fun a b _ _ x y => lexL_eq y x) s1 (sortT_sorted xs) (h1.trans (sortT_perm xs).symm)
end VS
set_option Elab.async false
set_option linter.all false
set_option maxRecDepth 100000
/-! VsA: data trees, the small language, what it computes. -/
namespace VS
open PySem PySem.Spec PyProof.Rows L2

/-! ### data -/
inductive D where
  | non | bl (b : Bool) | int (i : Int) | str (x : Str) | tup (ds : List D) | lst (ds : List D)
  | dic (t : Bool) (kvs : List (D × D)) | set (ds : List D) | fn (f : Nat) | frl (ds : List D)
  deriving Inhabited

def D.isMut : D → Bool
  | .lst _ => true
  | .dic _ _ => true
  | .set _ => true
  | _ => false

mutual
/-- nothing in it that can be changed in place -/
def D.noMut : D → Bool
  | .non => true
  | .bl _ => true
  | .int _ => true
  | .str _ => true
  | .tup ds => D.noMuts ds
  | .fn _ => true
  | .frl _ => false
  | .lst _ => false
  | .dic _ _ => false
  | .set _ => false
def D.noMuts : List D → Bool
  | [] => true
  | d :: ds => D.noMut d && D.noMuts ds
end

/-- the items of a list cannot be changed in place -/
def D.inner : D → Bool
  | .lst ds => D.noMuts ds
  | _ => false

mutual
/-- may be compared: no dicts, texts of a lawful size, not too deep -/
def D.fine : D → Nat → Bool
  | .non, _ => true
  | .bl _, _ => true
  | .int _, _ => true
  | .str x, _ => PyData.strOk x
  | .tup ds, n => (match n with
    | 0 => false
    | m + 1 => D.fines ds m)
  | .lst ds, n => (match n with
    | 0 => false
    | m + 1 => D.fines ds m)
  | .dic _ _, _ => false
  | .set _, _ => false
  | .fn _, _ => false
  | .frl _, _ => false
def D.fines : List D → Nat → Bool
  | [], _ => true
  | d :: ds, n => D.fine d n && D.fines ds n
end

mutual
/-- == of Python -/
def D.eqv : D → D → Bool
  | .non, e => (match e with | .non => true | _ => false)
  | .bl a, e => (match e with | .bl b => a == b | .int j => (if a then 1 else 0) == j | _ => false)
  | .int i, e => (match e with | .int j => i == j | .bl b => i == (if b then 1 else 0) | _ => false)
  | .str x, e => (match e with | .str y => x == y | _ => false)
  | .tup ds, e => (match e with | .tup es => D.eqvs ds es | _ => false)
  | .lst ds, e => (match e with | .lst es => D.eqvs ds es | _ => false)
  | .dic _ _, _ => false
  | .set _, _ => false
  | .fn _, _ => false
  | .frl _, _ => false
def D.eqvs : List D → List D → Bool
  | [], es => (match es with | [] => true | _ => false)
  | d :: ds, es => (match es with | e :: es => D.eqv d e && D.eqvs ds es | [] => false)
end

/-! ### the environment -/
/-- a slot: nothing known; a value that never changes; an object of its own; the caller's object, handed in to be changed -/
inductive Sl where
  | no | val (d : D) | own (d : D) | io (d : D)
  deriving Inhabited
abbrev En := List Sl
structure Ex where
  cls : Nat
  arg : Option D
inductive Out (α : Type) where
  | ok (a : α) (ρ : En) | err (e : Ex) (ρ : En) | bad
def Out.to {α β : Type} (m : Out α) (f : α → En → Out β) : Out β := match m with
  | .ok a ρ => f a ρ
  | .err e ρ => .err e ρ
  | .bad => .bad
/-- what a call gives: a value; a value and the changed object; an exception -/
inductive CR where
  | ok (d : D) | oki (d io : D) | err (e : Ex) | bad
/-- a pending operand: a value, or a slot that is looked at when the operation is done -/
abbrev Pd := Sum D Nat
def Sl.get? : Sl → Option D
  | .val d => some d
  | .own d => some d
  | .io d => some d
  | .no => none
def Pd.get (ρ : En) : Pd → Option D
  | .inl d => some d
  | .inr i => (match ρ[i]? with
    | some s => s.get?
    | none => none)
def Pds.get (ρ : En) : List Pd → Option (List D)
  | [] => some []
  | p :: ps => (match Pd.get ρ p, Pds.get ρ ps with
    | some d, some ds => some (d :: ds)
    | _, _ => none)

/-! ### the operations -/
/-- types that isinstance asks -/
inductive Ty where
  | int | bool | str | tuple | list
  deriving DecidableEq
inductive Op where
  | add | sub | mul | fdiv | mod | pow | shl | neg
  | eq | ne | lt | le | gt | ge | isN | notN | inn | nin
  | idx | slc (lo hi : Bool)
  | len | sum | max1 | min1 | max2 | min2 | sorted | tuple | list | abs | int | str | all | any | isi (t : Ty)
  | rngL1 | rngL2 | rngT1 | rngT2
  | rev | isB | notB | sset | lset
  deriving DecidableEq

def lineN : Nat := 16777216
def mulOk (i j : Int) : Bool := decide (i.natAbs < 18446744073709551616) || decide (j.natAbs < 18446744073709551616) || decide (i.natAbs.log2 + j.natAbs.log2 < 1000000)
def D.ints : List D → Option (List Int)
  | [] => some []
  | .int i :: ds => (match D.ints ds with
    | some is => some (i :: is)
    | none => none)
  | _ :: _ => none
def D.bls : List D → Option (List Bool)
  | [] => some []
  | .bl b :: ds => (match D.bls ds with
    | some bs => some (b :: bs)
    | none => none)
  | _ :: _ => none
def insI (x : Int) : List Int → List Int
  | [] => [x]
  | y :: ys => if x ≤ y then x :: y :: ys else y :: insI x ys
def sortI : List Int → List Int
  | [] => []
  | x :: xs => insI x (sortI xs)
/-- the members in order -/
def insU (x : Int) : List Int → List Int
  | [] => [x]
  | y :: ys => if x < y then x :: y :: ys else if x = y then y :: ys else y :: insU x ys
def setI : List Int → List Int
  | [] => []
  | x :: xs => insU x (setI xs)
def maxI : List Int → Int → Int
  | [], m => m
  | x :: xs, m => maxI xs (if m < x then x else m)
def minI : List Int → Int → Int
  | [], m => m
  | x :: xs, m => minI xs (if x < m then x else m)
def seqOf : D → Option (List D)
  | .tup ds => some ds
  | .lst ds => some ds
  | _ => none
def isTy (t : Ty) : D → Option Bool
  | .non => some false
  | .bl _ => some (decide (t = .int) || decide (t = .bool))
  | .int _ => some (decide (t = .int))
  | .str _ => some (decide (t = .str))
  | .tup _ => some (decide (t = .tuple))
  | .lst _ => some (decide (t = .list))
  | _ => none
def cutD (xs : List D) (lo hi : Option Int) : List D := (xs.drop (HT.sIx xs.length 0 lo)).take (HT.sIx xs.length xs.length hi - HT.sIx xs.length 0 lo)
def rngD (a b : Int) : List D := (List.range (b - a).toNat).map fun i => D.int (a + (i : Nat))
def rngOk (a b : Int) : Bool := decide (-4611686018427387904 ≤ a) && decide (a < 4611686018427387904) && decide (-4611686018427387904 ≤ b) && decide (b < 4611686018427387904)
def dedupD : List D → List D → List D
  | [], acc => acc.reverse
  | d :: ds, acc => if acc.any (fun e => D.eqv e d) then dedupD ds acc else dedupD ds (d :: acc)

def semAdd : D → D → Option D
  | .int i, e => (match e with | .int j => some (.int (i + j)) | .bl b => some (.int (i + (if b then 1 else 0))) | _ => none)
  | .str x, e => (match e with | .str y => if x.length + y.length ≤ lineN then some (.str (x ++ y)) else none | _ => none)
  | .tup xs, e => (match e with | .tup ys => if xs.length + ys.length ≤ lineN then some (.tup (xs ++ ys)) else none | _ => none)
  | .lst xs, e => (match e with | .lst ys => if xs.length + ys.length ≤ lineN then some (.lst (xs ++ ys)) else none | _ => none)
  | _, _ => none
def semMul : D → D → Option D
  | .int i, e => (match e with | .int j => if mulOk i j = true then some (.int (i * j)) else none | _ => none)
  | .tup xs, e => (match e with | .int k => if decide (-9223372036854775808 ≤ k) && decide (k < 9223372036854775808) && decide (xs.length * k.toNat ≤ lineN) then some (.tup (List.replicate k.toNat xs).flatten) else none | _ => none)
  | .lst xs, e => (match e with | .int k => if decide (-9223372036854775808 ≤ k) && decide (k < 9223372036854775808) && decide (xs.length * k.toNat ≤ lineN) then some (.lst (List.replicate k.toNat xs).flatten) else none | _ => none)
  | _, _ => none
def semII (f : Int → Int → Option D) : D → D → Option D
  | .int i, e => (match e with | .int j => f i j | _ => none)
  | _, _ => none
def semIn (d e : D) : Option Bool := (match e with
  | .lst ds => if D.fine d 63 && D.fines ds 63 then some (ds.any fun z => D.eqv z d) else none
  | .tup ds => if D.fine d 63 && D.fines ds 63 then some (ds.any fun z => D.eqv z d) else none
  | _ => none)
def ixD (xs : List D) (i : Int) : Option D := atI xs i
def semSlc (a : D) (lo hi : Option Int) : Option D := (match a with
  | .tup xs => some (.tup (cutD xs lo hi))
  | .lst xs => some (.lst (cutD xs lo hi))
  | _ => none)

def D.isNon : D → Bool
  | .non => true
  | _ => false
/-- what an operation gives -/
def D.tints : List D → Option (List (List Int))
  | [] => some []
  | .tup ds :: r => (match D.ints ds with
    | some is => (D.tints r).map fun t => is :: t
    | none => none)
  | _ => none
def semSort (xs : List D) : Option D := match D.ints xs with
  | some is => some (.lst ((sortI is).map D.int))
  | none => (match D.tints xs with
    | some ts => if decide (ts.length < 2) || ts.all (fun t => !t.isEmpty) then some (.lst ((sortT ts).map fun t => .tup (t.map D.int))) else none
    | none => none)
def sem : Op → List D → Option D
  | .add, [a, b] => semAdd a b
  | .sub, [a, b] => semII (fun i j => some (.int (i - j))) a b
  | .mul, [a, b] => semMul a b
  | .fdiv, [a, b] => semII (fun i j => if decide (j ≠ 0) && decide (j.natAbs < 1073741824) then some (.int (i.fdiv j)) else none) a b
  | .mod, [a, b] => semII (fun i j => if j = 0 then none else some (.int (i.fmod j))) a b
  | .pow, [a, b] => semII (fun i j => if decide (0 ≤ j) && decide (j ≤ 1000000) && decide (i.natAbs < 18446744073709551616) then some (.int (i ^ j.toNat)) else none) a b
  | .shl, [a, b] => semII (fun i j => if decide (0 ≤ j) && decide (j ≤ 1000000) && decide (i.natAbs < 18446744073709551616) then some (.int (i * 2 ^ j.toNat)) else none) a b
  | .neg, [.int i] => some (.int (-i))
  | .eq, [a, b] => if D.fine a 64 && D.fine b 64 then some (.bl (D.eqv a b)) else none
  | .ne, [a, b] => if D.fine a 64 && D.fine b 64 then some (.bl (!D.eqv a b)) else none
  | .lt, [a, b] => semII (fun i j => some (.bl (decide (i < j)))) a b
  | .le, [a, b] => semII (fun i j => some (.bl (decide (i ≤ j)))) a b
  | .gt, [a, b] => semII (fun i j => some (.bl (decide (j < i)))) a b
  | .ge, [a, b] => semII (fun i j => some (.bl (decide (j ≤ i)))) a b
  | .isN, [a, .non] => some (.bl a.isNon)
  | .notN, [a, .non] => some (.bl !a.isNon)
  | .inn, [a, b] => (semIn a b).map D.bl
  | .nin, [a, b] => (semIn a b).map fun k => D.bl !k
  | .idx, [.tup xs, .int i] => ixD xs i
  | .idx, [.lst xs, .int i] => ixD xs i
  | .slc false false, [a] => semSlc a none none
  | .slc true false, [a, .int i] => semSlc a (some i) none
  | .slc false true, [a, .int j] => semSlc a none (some j)
  | .slc true true, [a, .int i, .int j] => semSlc a (some i) (some j)
  | .len, [.tup xs] => some (.int xs.length)
  | .len, [.lst xs] => some (.int xs.length)
  | .len, [.frl xs] => some (.int xs.length)
  | .sum, [.lst xs] => (D.ints xs).map fun is => .int is.sum
  | .max1, [.lst xs] => (match D.ints xs with | some (i :: is) => some (.int (maxI is i)) | _ => none)
  | .min1, [.lst xs] => (match D.ints xs with | some (i :: is) => some (.int (minI is i)) | _ => none)
  | .max2, [a, b] => semII (fun i j => some (.int (if j > i then j else i))) a b
  | .min2, [a, b] => semII (fun i j => some (.int (if j < i then j else i))) a b
  | .sorted, [.lst xs] => semSort xs
  | .tuple, [.tup xs] => some (.tup xs)
  | .tuple, [.lst xs] => some (.tup xs)
  | .list, [.tup xs] => some (.lst xs)
  | .list, [.lst xs] => some (.lst xs)
  | .list, [.frl xs] => some (.lst xs)
  | .abs, [.int i] => some (.int (if i < 0 then -i else i))
  | .int, [.int i] => some (.int i)
  | .int, [.bl b] => some (.int (if b then 1 else 0))
  | .str, [.int i] => if i.natAbs.log2 < 1920 then some (.str (Str.ofString (toString i))) else none
  | .all, [.lst xs] => (D.bls xs).map fun bs => .bl (bs.all id)
  | .any, [.lst xs] => (D.bls xs).map fun bs => .bl (bs.any id)
  | .isi t, [a] => (isTy t a).map D.bl
  | .rev, [.tup xs] => some (.tup xs.reverse)
  | .rev, [.lst xs] => some (.lst xs.reverse)
  | .isB, [.bl a, .bl b] => some (.bl (a == b))
  | .notB, [.bl a, .bl b] => some (.bl !(a == b))
  | .sset, [.lst xs] => (match D.ints xs with | some is => if is.length < 64 then some (.lst ((setI is).map D.int)) else none | none => none)
  | .sset, [.tup xs] => (match D.ints xs with | some is => if is.length < 64 then some (.lst ((setI is).map D.int)) else none | none => none)
  | .lset, [.lst xs] => (match D.ints xs with | some is => if is.length < 1000 then some (.int (setI is).length) else none | none => none)
  | .rngL1, [.int n] => if rngOk 0 n && decide (n.toNat ≤ lineN) then some (.lst (rngD 0 n)) else none
  | .rngL2, [.int a, .int b] => if rngOk a b && decide ((b - a).toNat ≤ lineN) then some (.lst (rngD a b)) else none
  | .rngT1, [.int n] => if rngOk 0 n && decide (n.toNat ≤ lineN) then some (.tup (rngD 0 n)) else none
  | .rngT2, [.int a, .int b] => if rngOk a b && decide ((b - a).toNat ≤ lineN) then some (.tup (rngD a b)) else none
  | _, _ => none
/-- is a changeable result a new object -/
def Op.fresh : Op → Bool
  | .idx => false
  | _ => true

/-! ### the language -/
mutual
inductive E where
  | cst (d : D) | var (i : Nat) | pk (i : Nat) | glo (x : Str) (d : D) | fnv (i : Nat)
  | tup (es : Es) | lst (es : Es)
  | op (o : Op) (es : Es)
  | and (a b : E) | or (a b : E) | not (a : E) | ite (c a b : E)
  | chn (o1 o2 : Op) (a b c : E)
  | sl2 (a l h : E)
  | call (f : Nat) (io : Option Nat) (ro : Bool) (es : Es)
  | comp (e : E) (t : T) (it : It) (cs : Es) (own : List Nat)
  | comp2 (e : E) (t : T) (it : It) (cs : Es) (t2 : T) (it2 : It) (cs2 : Es) (own own2 : List Nat)
inductive Es where
  | nil | cons (e : E) (r : Es)
inductive It where
  | e (e : E) | rng1 (a : E) | rng2 (a b : E) | rng3 (a b c : E) | zip (a b : E) | enm (a : E)
inductive T where
  | n (i : Nat) | t (ts : Ts) | ix (i : Nat) (k : E)
inductive Ts where
  | nil | cons (t : T) (r : Ts)
end
inductive Me where
  | append | extend
  deriving DecidableEq
mutual
inductive S where
  | asg (t : T) (e : E) | par (is : List Nat) (es : Es)
  | meth (m : Me) (i : Nat) (e : E)
  | ex (e : E)
  | iff (c : E) (a b : Ss)
  | forr (t : T) (it : It) (b : Ss)
  | whl (c : E) (b : Ss)
  | ret (e : E) | retn
  | rse (c : Nat) (e : Option E)
  | pas | brk | cnt | bad
inductive Ss where
  | nil | cons (s : S) (r : Ss)
end
/-- a def: how many parameters, names, which parameter is changed in place, whether a changeable answer is new, its body -/
structure Fd where
  np : Nat
  nl : Nat
  io : Option Nat
  ro : Bool
  body : Ss

/-! ### what it computes -/
def E.fresh : E → Bool
  | .lst _ => true
  | .op o _ => o.fresh
  | .sl2 .. => true
  | .comp .. => true
  | .comp2 .. => true
  | .call _ _ ro _ => ro
  | .ite _ a b => E.fresh a && E.fresh b
  | _ => false

/-- a slot that is looked at -/
def pkD (i : Nat) (ρ : En) : Out Pd := match ρ[i]? with
  | some .no => .bad
  | some _ => .ok (.inr i) ρ
  | none => .bad
def rdV (i : Nat) (ρ : En) : Out D := match ρ[i]? with
  | some (.val d) => .ok d ρ
  | some (.own d) => .ok d (ρ.set i (.val d))
  | _ => .bad
def setSl (i : Nat) (s : Sl) (ρ : En) : Out Unit := match ρ[i]? with
  | some (.io _) => .bad
  | some _ => .ok () (ρ.set i s)
  | none => .bad
def mkSl (fr : Bool) (d : D) : Sl := if fr && d.isMut then .own d else .val d
def Pds.slots : List Pd → List Nat
  | [] => []
  | .inl _ :: ps => Pds.slots ps
  | .inr i :: ps => i :: Pds.slots ps
def freezeAll : List Nat → En → En
  | [], ρ => ρ
  | i :: is, ρ => (match ρ[i]? with
    | some (.own d) => freezeAll is (ρ.set i (.val d))
    | _ => freezeAll is ρ)
/-- no slot of these is the caller's object -/
def noIo (ρ : En) : List Nat → Bool
  | [] => true
  | i :: is => (match ρ[i]? with
    | some (.io _) => false
    | _ => true) && noIo ρ is
def callD (C : Nat → List D → CR) (f : Nat) (io : Option Nat) (ps : List Pd) (ρ : En) : Out D := match Pds.get ρ ps with
  | none => .bad
  | some ds => (match io with
    | none => if noIo ρ (Pds.slots ps) then (match C f ds with
      | .ok d => .ok d (if d.noMut then ρ else freezeAll (Pds.slots ps) ρ)
      | .err e => .err e (freezeAll (Pds.slots ps) ρ)
      | _ => .bad) else .bad
    | some j => (match ps[j]? with
      | some (.inr i) => if noIo ρ (Pds.slots (ps.eraseIdx j)) && !(Pds.slots (ps.eraseIdx j)).contains i then (match ρ[i]?, C f ds with
        | some (.own _), .oki d x => .ok d ((if d.noMut && x.inner then ρ else freezeAll (Pds.slots (ps.eraseIdx j)) ρ).set i (.own x))
        | some (.io _), .oki d x => .ok d ((if d.noMut && x.inner then ρ else freezeAll (Pds.slots (ps.eraseIdx j)) ρ).set i (.io x))
        | _, _ => .bad) else .bad
      | _ => .bad))
def wipeE (ρ : En) : List Nat → En
  | [] => ρ
  | i :: is => (wipeE ρ is).set i .no
def backE (ρ0 ρ : En) : List Nat → En
  | [] => ρ
  | i :: is => (backE ρ0 ρ is).set i (match ρ0[i]? with
    | some (.val d) => .val d
    | _ => .no)
def compLoop (body : D → En → Out (Option D)) : List D → En → Out (List D)
  | [], ρ => .ok [] ρ
  | d :: ds, ρ => (match body d ρ with
    | .ok none ρ' => compLoop body ds ρ'
    | .ok (some y) ρ' => (match compLoop body ds ρ' with
      | .ok ys ρ'' => .ok (y :: ys) ρ''
      | _ => .bad)
    | _ => .bad)
/-- no slot of these holds an object of its own -/
def noOwn (ρ : En) : List Nat → Bool
  | [] => true
  | i :: is => (match ρ[i]? with
    | some (.own _) => false
    | some (.io _) => false
    | none => false
    | _ => true) && noOwn ρ is
def endT (own : List Nat) (y : Option D) (ρ : En) : Out (Option D) := if noOwn ρ own then .ok y (wipeE ρ own) else .bad
def compEnd (own : List Nat) (ρ0 : En) (m : Out (List D)) : Out D := match m with
  | .ok ys ρ => if ys.length ≤ lineN && noOwn ρ0 own then .ok (.lst ys) (backE ρ0 ρ own) else .bad
  | _ => .bad
def zipD : List D → List D → List D
  | a :: as, b :: bs => .tup [a, b] :: zipD as bs
  | _, _ => []
def enmD : Nat → List D → List D
  | _, [] => []
  | n, d :: ds => .tup [.int n, d] :: enmD (n + 1) ds
def rng3D (a c : Int) : Nat → List D
  | 0 => []
  | n + 1 => .int a :: rng3D (a + c) c n
def opD (o : Op) (ps : List Pd) (ρ : En) : Out D := match Pds.get ρ ps with
  | some ds => (match sem o ds with
    | some d => .ok d ρ
    | none => .bad)
  | none => .bad
/-- x[k] = v in a list of one's own -/
def storeD (c : D) (k : D) (d : D) : Option D := match c, k with
  | .lst xs, .int i => (match ixN xs.length i with
    | some j => some (.lst (xs.set j d))
    | none => none)
  | _, _ => none
/-- the content of an object in a slot is changed -/
def updSl (i : Nat) (f : D → Option D) (ρ : En) : Out Unit := match ρ[i]? with
  | some (.own c) => (match f c with
    | some c' => .ok () (ρ.set i (.own c'))
    | none => .bad)
  | some (.io c) => (match f c with
    | some c' => .ok () (ρ.set i (.io c'))
    | none => .bad)
  | _ => .bad

/-- a list that may be changed stands in the slot -/
def lstAt (i : Nat) (ρ : En) : Bool := match ρ[i]? with
  | some (.own (.lst _)) => true
  | some (.io (.lst _)) => true
  | _ => false

variable (C : Nat → List D → CR)
mutual
def denE : E → En → Out D
  | .cst d, ρ => .ok d ρ
  | .var i, ρ => rdV i ρ
  | .pk _, _ => .bad
  | .glo _ d, ρ => .ok d ρ
  | .fnv i, ρ => .ok (.fn i) ρ
  | .tup es, ρ => (denEs es ρ).to fun ds ρ => .ok (.tup ds) ρ
  | .lst es, ρ => (denEs es ρ).to fun ds ρ => .ok (.lst ds) ρ
  | .op o es, ρ => (denOs es ρ).to fun ps ρ => opD o ps ρ
  | .and a b, ρ => (denE a ρ).to fun d ρ => (match d with
    | .bl true => denE b ρ
    | .bl false => .ok (.bl false) ρ
    | _ => .bad)
  | .or a b, ρ => (denE a ρ).to fun d ρ => (match d with
    | .bl true => .ok (.bl true) ρ
    | .bl false => denE b ρ
    | _ => .bad)
  | .not a, ρ => (denE a ρ).to fun d ρ => (match d with
    | .bl k => .ok (.bl !k) ρ
    | _ => .bad)
  | .ite c a b, ρ => (denE c ρ).to fun d ρ => (match d with
    | .bl true => denE a ρ
    | .bl false => denE b ρ
    | _ => .bad)
  | .chn o1 o2 a b c, ρ => (match a with
    | .pk i => pkD i ρ
    | _ => (denE a ρ).to fun d ρ => .ok (.inl d) ρ).to fun x ρ => (match b with
    | .pk i => pkD i ρ
    | _ => (denE b ρ).to fun d ρ => .ok (.inl d) ρ).to fun y ρ => (opD o1 [x, y] ρ).to fun d ρ => (match d with
    | .bl true => (match c with
      | .pk i => pkD i ρ
      | _ => (denE c ρ).to fun d ρ => .ok (.inl d) ρ).to fun z ρ => opD o2 [y, z] ρ
    | .bl false => .ok (.bl false) ρ
    | _ => .bad)
  | .sl2 a l h, ρ => (match a with
    | .pk i => pkD i ρ
    | _ => (denE a ρ).to fun d ρ => .ok (.inl d) ρ).to fun x ρ => (denE l ρ).to fun d ρ => (match d with
    | .int i => (denE h ρ).to fun e ρ => (match e with
      | .int j => opD (.slc true true) [x, .inl (.int i), .inl (.int j)] ρ
      | _ => .bad)
    | _ => .bad)
  | .call f io _ es, ρ => (denOs es ρ).to fun ps ρ => callD C f io ps ρ
  | .comp e t it cs own, ρ => (denIt it ρ).to fun ds ρ0 => compEnd own ρ0 (compLoop (fun d ρ => (bindT t d ρ).to fun _ ρ => (denCs cs ρ).to fun k ρ =>
      if k then (denE e ρ).to fun y ρ => endT own (some y) ρ else endT own none ρ) ds (wipeE ρ0 own))
  | .comp2 _ _ _ _ _ _ _ _ _, _ => .bad
def denEs : Es → En → Out (List D)
  | .nil, ρ => .ok [] ρ
  | .cons e r, ρ => (denE e ρ).to fun d ρ => (denEs r ρ).to fun ds ρ => .ok (d :: ds) ρ
def denOs : Es → En → Out (List Pd)
  | .nil, ρ => .ok [] ρ
  | .cons e r, ρ => (match e with
    | .pk i => pkD i ρ
    | _ => (denE e ρ).to fun d ρ => .ok (.inl d) ρ).to fun d ρ => (denOs r ρ).to fun ds ρ => .ok (d :: ds) ρ
/-- all tests of a comprehension's clause -/
def denCs : Es → En → Out Bool
  | .nil, ρ => .ok true ρ
  | .cons e r, ρ => (denE e ρ).to fun d ρ => (match d with
    | .bl true => denCs r ρ
    | .bl false => .ok false ρ
    | _ => .bad)
def denIt : It → En → Out (List D)
  | .e e, ρ => (denE e ρ).to fun d ρ => (match d with
    | .tup ds => .ok ds ρ
    | .lst ds => .ok ds ρ
    | _ => .bad)
  | .rng1 a, ρ => (denE a ρ).to fun d ρ => (match d with
    | .int n => if rngOk 0 n then .ok (rngD 0 n) ρ else .bad
    | _ => .bad)
  | .rng2 a b, ρ => (denE a ρ).to fun d ρ => (denE b ρ).to fun e ρ => (match d, e with
    | .int i, .int j => if rngOk i j then .ok (rngD i j) ρ else .bad
    | _, _ => .bad)
  | .rng3 a b c, ρ => (denE a ρ).to fun d ρ => (denE b ρ).to fun e ρ => (denE c ρ).to fun s ρ => (match d, e, s with
    | .int i, .int j, .int (-1) => if rngOk i j then .ok (rng3D i (-1) (i - j).toNat) ρ else .bad
    | _, _, _ => .bad)
  | .zip a b, ρ => (denE a ρ).to fun d ρ => (denE b ρ).to fun e ρ => (match d, e with
    | .tup xs, .tup ys => .ok (zipD xs ys) ρ
    | .lst xs, .lst ys => .ok (zipD xs ys) ρ
    | _, _ => .bad)
  | .enm a, ρ => (denE a ρ).to fun d ρ => (match d with
    | .lst ds => .ok (enmD 0 ds) ρ
    | .tup ds => .ok (enmD 0 ds) ρ
    | _ => .bad)
def bindT : T → D → En → Out Unit
  | .n i, d, ρ => setSl i (.val d) ρ
  | .t ts, d, ρ => (match d with
    | .tup ds => bindTs ts ds ρ
    | _ => .bad)
  | .ix i k, d, ρ => if lstAt i ρ then (match denE k ρ with
    | .ok k ρ => updSl i (fun c => storeD c k d) ρ
    | _ => .bad) else .bad
def bindTs : Ts → List D → En → Out Unit
  | .nil, ds, ρ => (match ds with
    | [] => .ok () ρ
    | _ => .bad)
  | .cons t r, ds, ρ => (match ds with
    | d :: ds => (bindT t d ρ).to fun _ ρ => bindTs r ds ρ
    | [] => .bad)
end

/-! ### statements -/
inductive Fl where
  | nx | bk | ct | ret (d : D)
def forLoop (body : D → En → Out Fl) : List D → En → Out Fl
  | [], ρ => .ok .nx ρ
  | d :: ds, ρ => (match body d ρ with
    | .ok .nx ρ' => forLoop body ds ρ'
    | .ok .ct ρ' => forLoop body ds ρ'
    | .ok .bk ρ' => .ok .nx ρ'
    | .ok (.ret d) ρ' => .ok (.ret d) ρ'
    | .err e ρ' => .err e ρ'
    | .bad => .bad)
def whlLoop (c : En → Out D) (body : En → Out Fl) : Nat → En → Out Fl
  | 0, _ => .bad
  | n + 1, ρ => (match c ρ with
    | .ok (.bl true) ρ' => (match body ρ' with
      | .ok .nx ρ' => whlLoop c body n ρ'
      | .ok .ct ρ' => whlLoop c body n ρ'
      | .ok .bk ρ' => .ok .nx ρ'
      | .ok (.ret d) ρ' => .ok (.ret d) ρ'
      | .err e ρ' => .err e ρ'
      | .bad => .bad)
    | .ok (.bl false) ρ' => .ok .nx ρ'
    | .ok _ _ => .bad
    | .err e ρ' => .err e ρ'
    | .bad => .bad)
def appD : Me → D → D → Option D
  | .append, .lst xs, d => if xs.length < lineN then some (.lst (xs ++ [d])) else none
  | .extend, .lst xs, .lst ys => if xs.length + ys.length ≤ lineN then some (.lst (xs ++ ys)) else none
  | .extend, .lst xs, .tup ys => if xs.length + ys.length ≤ lineN then some (.lst (xs ++ ys)) else none
  | _, _, _ => none
def WF : Nat := 100000000
/-- values at places, from the right -/
def putAll : List Nat → List Sl → En → Out Unit
  | [], ss, ρ => (match ss with
    | [] => .ok () ρ
    | _ => .bad)
  | i :: is, ss, ρ => (match ss with
    | s :: ss => (putAll is ss ρ).to fun _ ρ => setSl i s ρ
    | [] => .bad)
def denPar : Es → En → Out (List Sl)
  | .nil, ρ => .ok [] ρ
  | .cons e r, ρ => (denE C e ρ).to fun d ρ => (denPar r ρ).to fun ss ρ => .ok (mkSl e.fresh d :: ss) ρ
/-- return e of a def whose changeable answer is new -/
def retO (e : E) (ρ : En) : Out Fl := match e with
  | .var i => (match ρ[i]? with
    | some (.own d) => .ok (.ret d) ρ
    | some (.val d) => if d.isMut then .bad else .ok (.ret d) ρ
    | _ => .bad)
  | e => (denE C e ρ).to fun d ρ => if d.isMut && !e.fresh then .bad else .ok (.ret d) ρ
mutual
def denS (ro : Bool) : S → En → Out Fl
  | .asg t e, ρ => (denE C e ρ).to fun d ρ => (match t with
    | .n i => (match setSl i (mkSl e.fresh d) ρ with
      | .ok _ ρ => .ok .nx ρ
      | _ => .bad)
    | t => (match bindT C t d ρ with
      | .ok _ ρ => .ok .nx ρ
      | _ => .bad))
  | .par is es, ρ => (denPar C es ρ).to fun ss ρ => (match putAll is ss ρ with
      | .ok _ ρ => .ok .nx ρ
      | _ => .bad)
  | .meth m i e, ρ => if lstAt i ρ then (denE C e ρ).to fun d ρ => (match updSl i (fun c => appD m c d) ρ with
      | .ok _ ρ => .ok .nx ρ
      | _ => .bad) else .bad
  | .ex e, ρ => (denE C e ρ).to fun _ ρ => .ok .nx ρ
  | .iff c a b, ρ => (denE C c ρ).to fun d ρ => (match d with
    | .bl true => denSs ro a ρ
    | .bl false => denSs ro b ρ
    | _ => .bad)
  | .forr t it b, ρ => (denIt C it ρ).to fun ds ρ => forLoop (fun d ρ => (match bindT C t d ρ with
      | .ok _ ρ => denSs ro b ρ
      | _ => .bad)) ds ρ
  | .whl c b, ρ => whlLoop (fun ρ => denE C c ρ) (fun ρ => denSs ro b ρ) WF ρ
  | .ret e, ρ => if ro then retO C e ρ else (denE C e ρ).to fun d ρ => .ok (.ret d) ρ
  | .retn, ρ => .ok (.ret .non) ρ
  | .rse c e, ρ => (match e with
    | none => .err ⟨c, none⟩ ρ
    | some e => (denE C e ρ).to fun d ρ => .err ⟨c, some d⟩ ρ)
  | .pas, ρ => .ok .nx ρ
  | .brk, ρ => .ok .bk ρ
  | .cnt, ρ => .ok .ct ρ
  | .bad, _ => .bad
def denSs (ro : Bool) : Ss → En → Out Fl
  | .nil, ρ => .ok .nx ρ
  | .cons s r, ρ => (denS ro s ρ).to fun f ρ => (match f with
    | .nx => denSs ro r ρ
    | f => .ok f ρ)
end

/-! ### a program -/
def startE (fd : Fd) (ds : List D) : En := (List.range fd.nl).map fun i => match ds[i]? with
  | some d => if fd.io = some i then .io d else .val d
  | none => .no
def endE (io : Option Nat) (d : D) (ρ : En) : CR := match io with
  | none => .ok d
  | some j => (match ρ[j]? with
    | some (.io x) => .oki d x
    | _ => .bad)
def outE (io : Option Nat) (m : Out Fl) : CR := match m with
  | .ok (.ret d) ρ => endE io d ρ
  | .ok .nx ρ => endE io .non ρ
  | .ok _ _ => .bad
  | .err e _ => (match io with
    | none => .err e
    | some _ => .bad)
  | .bad => .bad
def run (P : List Fd) : Nat → Nat → List D → CR
  | 0, _, _ => .bad
  | n + 1, f, ds => (match P[f]? with
    | none => .bad
    | some fd => if ds.length = fd.np then outE fd.io (denSs (run P n) fd.ro fd.body (startE fd ds)) else .bad)
end VS
set_option Elab.async false
set_option linter.all false
set_option maxRecDepth 100000
/-! VsB: how data lie in the heap. -/
namespace VS
open PySem PySem.Spec PyProof.Rows L2

/-- what stands fixed: the written part, the module's names, where the defs are -/
structure Cf where
  K : PySem.W.Frag
  mg : Str → Option Value
  fad : Nat → Addr

def keyD : Key → D
  | .inl i => .int i
  | .inr x => .str x
def KTup (K : PySem.W.Frag) (a : Addr) (xs : List V) : Prop := ∃ (o : Obj) (its : Array Value) (n : Nat), K.lookup a = some o ∧ o.cls = .type "tuple" ∧ o.data = .seq its n ∧ its.size ≤ sizeLine ∧ Vals xs its.toList
def KLst (K : PySem.W.Frag) (a : Addr) (xs : List V) : Prop := ∃ (o : Obj) (its : Array Value) (n : Nat), K.lookup a = some o ∧ o.cls = .type "list" ∧ o.dict = none ∧ o.data = .seq its n ∧ its.size ≤ sizeLine ∧ Vals xs its.toList
def setMem (ds : List D) : Int → Bool := fun i => ds.any fun d => D.eqv d (.int i)

section
variable (c : Cf) (F : Addr → Prop) (H : Hp)
mutual
/-- v is the datum d; F: the addresses whose objects never change again -/
inductive Rep : V → D → Prop
  | non : Rep .non .non
  | bl (b : Bool) : Rep (.bl b) (.bl b)
  | int (i : Int) : Rep (.int i) (.int i)
  | str (x : Str) : Rep (.str x) (.str x)
  | fn (f : Nat) : Rep (.ref (c.fad f)) (.fn f)
  | tup {a : Addr} {xs : List V} {ds : List D} : F a → H a = some (.tup xs) → Reps xs ds → Rep (.ref a) (.tup ds)
  | ktup {a : Addr} {xs : List V} {ds : List D} : KTup c.K a xs → Reps xs ds → Rep (.ref a) (.tup ds)
  | lst {a : Addr} {xs : List V} {ds : List D} : F a → H a = some (.lst xs) → Reps xs ds → Rep (.ref a) (.lst ds)
  | frl {a : Addr} {o : Obj} {xs : List V} {ds : List D} : F a → H a = some (.frz o (.lst xs)) → Reps xs ds → Rep (.ref a) (.frl ds)
  | klst {a : Addr} {xs : List V} {ds : List D} : KLst c.K a xs → Reps xs ds → Rep (.ref a) (.frl ds)
  | dic {a : Addr} {ks : List (Key × V)} {kvs : List (D × D)} : F a → H a = some (.dK ks) → KReps ks kvs → Rep (.ref a) (.dic false kvs)
  | set {a : Addr} {ds : List D} {is : List Int} : F a → H a = some (.set (setMem ds) ds.length) → D.ints ds = some is → is.Nodup → Rep (.ref a) (.set ds)
inductive Reps : List V → List D → Prop
  | nil : Reps [] []
  | cons {v : V} {vs : List V} {d : D} {ds : List D} : Rep v d → Reps vs ds → Reps (v :: vs) (d :: ds)
inductive KReps : List (Key × V) → List (D × D) → Prop
  | nil : KReps [] []
  | cons {k : Key} {v : V} {ks : List (Key × V)} {d : D} {ds : List (D × D)} : Rep v d → KReps ks ds → KReps ((k, v) :: ks) ((keyD k, d) :: ds)
end
/-- the object at a holds d, what is in it never changes -/
inductive Own : Addr → D → Prop
  | lst {a : Addr} {xs : List V} {ds : List D} : H a = some (.lst xs) → Reps c F H xs ds → Own a (.lst ds)
  | dic {a : Addr} {ks : List (Key × V)} {kvs : List (D × D)} : H a = some (.dK ks) → KReps c F H ks kvs → Own a (.dic false kvs)
  | set {a : Addr} {ds : List D} {is : List Int} : H a = some (.set (setMem ds) ds.length) → D.ints ds = some is → is.Nodup → Own a (.set ds)
end

/-- F grows, what it holds stays -/
structure Ext (F : Addr → Prop) (H : Hp) (F' : Addr → Prop) (H' : Hp) : Prop where
  sub : ∀ a, F a → F' a
  keep : ∀ a, F a → H' a = H a
theorem Ext.refl (F : Addr → Prop) (H : Hp) : Ext F H F H := ⟨fun _ h => h, fun _ _ => rfl⟩
theorem Ext.trans {F F1 F2 : Addr → Prop} {H H1 H2 : Hp} (x : Ext F H F1 H1) (y : Ext F1 H1 F2 H2) : Ext F H F2 H2 :=
  ⟨fun a h => y.sub a (x.sub a h), fun a h => (y.keep a (x.sub a h)).trans (x.keep a h)⟩

section
variable {c : Cf} {F F' : Addr → Prop} {H H' : Hp}
mutual
theorem Rep.ext (x : Ext F H F' H') : ∀ {d : D} {v : V}, Rep c F H v d → Rep c F' H' v d
  | .non, _, h => by cases h; exact .non
  | .bl b, _, h => by cases h; exact .bl b
  | .int i, _, h => by cases h; exact .int i
  | .str y, _, h => by cases h; exact .str y
  | .fn f, _, h => by cases h; exact .fn f
  | .tup ds, _, h => by
    cases h with
    | tup f e r => exact .tup (x.sub _ f) ((x.keep _ f).trans e) (Reps.ext x r)
    | ktup k r => exact .ktup k (Reps.ext x r)
  | .lst ds, _, h => by
    cases h with
    | lst f e r => exact .lst (x.sub _ f) ((x.keep _ f).trans e) (Reps.ext x r)
  | .frl ds, _, h => by
    cases h with
    | frl f e r => exact .frl (x.sub _ f) ((x.keep _ f).trans e) (Reps.ext x r)
    | klst k r => exact .klst k (Reps.ext x r)
  | .dic t kvs, _, h => by
    cases h with
    | dic f e r => exact .dic (x.sub _ f) ((x.keep _ f).trans e) (KReps.ext x r)
  | .set ds, _, h => by
    cases h with
    | set f e r n => exact .set (x.sub _ f) ((x.keep _ f).trans e) r n
theorem Reps.ext (x : Ext F H F' H') : ∀ {ds : List D} {vs : List V}, Reps c F H vs ds → Reps c F' H' vs ds
  | [], _, h => by cases h; exact .nil
  | d :: ds, _, h => by
    cases h with
    | cons r rs => exact .cons (Rep.ext x r) (Reps.ext x rs)
theorem KReps.ext (x : Ext F H F' H') : ∀ {ds : List (D × D)} {vs : List (Key × V)}, KReps c F H vs ds → KReps c F' H' vs ds
  | [], _, h => by cases h; exact .nil
  | (k, d) :: ds, _, h => by
    cases h with
    | cons r rs => exact .cons (Rep.ext x r) (KReps.ext x rs)
end
theorem Own.ext (x : Ext F H F' H') {a : Addr} {d : D} (e : H' a = H a) (h : Own c F H a d) : Own c F' H' a d := by
  cases h with
  | lst h r => exact .lst (e.trans h) (r.ext x)
  | dic h r => exact .dic (e.trans h) (r.ext x)
  | set h r n => exact .set (e.trans h) r n
theorem Own.dom {a : Addr} {d : D} (h : Own c F H a d) : H a ≠ none := by
  cases h with
  | lst h r => rw [h]; simp
  | dic h r => rw [h]; simp
  | set h r => rw [h]; simp
theorem Own.mut {a : Addr} {d : D} (h : Own c F H a d) : d.isMut = true := by
  cases h <;> rfl
/-- what is one's own is a value from now on -/
theorem Own.rep {a : Addr} {d : D} (h : Own c F H a d) (f : F a) : Rep c F H (.ref a) d := by
  cases h with
  | lst h r => exact .lst f h r
  | dic h r => exact .dic f h r
  | set h r n => exact .set f h r n
theorem Reps.length : ∀ {vs : List V} {ds : List D}, Reps c F H vs ds → vs.length = ds.length
  | _, _, .nil => rfl
  | _, _, .cons _ r => by rw [List.length_cons, List.length_cons, r.length]
theorem Reps.append : ∀ {vs ws : List V} {ds es : List D}, Reps c F H vs ds → Reps c F H ws es → Reps c F H (vs ++ ws) (ds ++ es)
  | _, _, _, _, .nil, s => s
  | _, _, _, _, .cons r t, s => .cons r (t.append s)
theorem Reps.take : ∀ {vs : List V} {ds : List D} (n : Nat), Reps c F H vs ds → Reps c F H (vs.take n) (ds.take n)
  | _, _, 0, _ => .nil
  | _, _, _ + 1, .nil => .nil
  | _, _, n + 1, .cons r t => .cons r (t.take n)
theorem Reps.drop : ∀ {vs : List V} {ds : List D} (n : Nat), Reps c F H vs ds → Reps c F H (vs.drop n) (ds.drop n)
  | _, _, 0, r => r
  | _, _, _ + 1, .nil => .nil
  | _, _, n + 1, .cons r t => t.drop n
theorem Reps.get : ∀ {vs : List V} {ds : List D} {i : Nat} {d : D}, Reps c F H vs ds → ds[i]? = some d → ∃ v, vs[i]? = some v ∧ Rep c F H v d
  | _, _, _, _, .nil, e => by simp at e
  | _, _, 0, _, .cons r _, e => by simp at e; subst e; exact ⟨_, rfl, r⟩
  | _, _, i + 1, _, .cons _ t, e => by
    obtain ⟨v, h1, h2⟩ := Reps.get (i := i) t (by simpa using e)
    exact ⟨v, by simpa using h1, h2⟩
theorem Reps.getV : ∀ {vs : List V} {ds : List D} {i : Nat} {v : V}, Reps c F H vs ds → vs[i]? = some v → ∃ d, ds[i]? = some d ∧ Rep c F H v d
  | _, _, _, _, .nil, e => by simp at e
  | _, _, 0, _, .cons r _, e => by simp at e; subst e; exact ⟨_, rfl, r⟩
  | _, _, i + 1, _, .cons _ t, e => by
    obtain ⟨v, h1, h2⟩ := Reps.getV (i := i) t (by simpa using e)
    exact ⟨v, by simpa using h1, h2⟩
theorem Reps.set : ∀ {vs : List V} {ds : List D} {v : V} {d : D} (i : Nat), Reps c F H vs ds → Rep c F H v d → Reps c F H (vs.set i v) (ds.set i d)
  | _, _, _, _, _, .nil, _ => .nil
  | _, _, _, _, 0, .cons _ t, r => .cons r t
  | _, _, _, _, i + 1, .cons q t, r => .cons q (t.set i r)
theorem Reps.flat {vs : List V} {ds : List D} (h : Reps c F H vs ds) : ∀ k : Nat, Reps c F H (List.replicate k vs).flatten (List.replicate k ds).flatten
  | 0 => .nil
  | k + 1 => by
    rw [List.replicate_succ, List.replicate_succ, List.flatten_cons, List.flatten_cons]
    exact h.append (h.flat k)
theorem Reps.ints : ∀ {ds : List D} {vs : List V} {is : List Int}, Reps c F H vs ds → D.ints ds = some is → vs = is.map V.int
  | [], _, is, h, e => by
    cases h
    have : is = [] := by simpa [D.ints] using e.symm
    subst this; rfl
  | d :: ds, _, is, h, e => by
    cases h with
    | cons r rs =>
      cases d with
      | int i =>
        cases r
        simp only [D.ints] at e
        split at e
        · rename_i js hj
          cases e
          rw [rs.ints hj]; rfl
        · cases e
      | _ => simp [D.ints] at e
theorem Reps.bls : ∀ {ds : List D} {vs : List V} {is : List Bool}, Reps c F H vs ds → D.bls ds = some is → vs = is.map V.bl
  | [], _, is, h, e => by
    cases h
    have : is = [] := by simpa [D.bls] using e.symm
    subst this; rfl
  | d :: ds, _, is, h, e => by
    cases h with
    | cons r rs =>
      cases d with
      | bl i =>
        cases r
        simp only [D.bls] at e
        split at e
        · rename_i js hj
          cases e
          rw [rs.bls hj]; rfl
        · cases e
      | _ => simp [D.bls] at e
theorem Reps.of_ints : ∀ (is : List Int), Reps c F H (is.map V.int) (is.map D.int)
  | [] => .nil
  | i :: is => .cons (.int i) (Reps.of_ints is)
theorem ints_map : ∀ {ds : List D} {is : List Int}, D.ints ds = some is → ds = is.map D.int
  | [], is, e => by
    have : is = [] := by simpa [D.ints] using e.symm
    subst this; rfl
  | d :: ds, is, e => by
    cases d with
    | int i =>
      simp only [D.ints] at e
      split at e
      · rename_i js hj
        cases e
        rw [ints_map hj]; rfl
      · cases e
    | _ => simp [D.ints] at e
end

/-! ### reading as the layer's rules want it -/
/-- a value, or an object of one's own that is looked at -/
def Sh (c : Cf) (F : Addr → Prop) (H : Hp) (v : V) (d : D) : Prop := Rep c F H v d ∨ ∃ a, v = .ref a ∧ Own c F H a d
section
variable {c : Cf} {F F' : Addr → Prop} {H H' : Hp} {v : V} {ds : List D}
theorem Sh.of (h : Rep c F H v d) : Sh c F H v d := .inl h
theorem Rep.seqT (h : Rep c F H v (.tup ds)) : ∃ a xs, v = .ref a ∧ SqT c.K H a xs ∧ Reps c F H xs ds := by
  cases h with
  | tup f e r => exact ⟨_, _, rfl, .inl (.inl e), r⟩
  | ktup k r => exact ⟨_, _, rfl, .inr k, r⟩
theorem Rep.seqL (h : Rep c F H v (.lst ds)) : ∃ a xs, v = .ref a ∧ H a = some (.lst xs) ∧ Reps c F H xs ds := by
  cases h with
  | lst f e r => exact ⟨_, _, rfl, e, r⟩
theorem Rep.seqF (h : Rep c F H v (.frl ds)) : ∃ a xs, v = .ref a ∧ SqL c.K H a xs ∧ Reps c F H xs ds := by
  cases h with
  | frl f e r => exact ⟨_, _, rfl, .inl (.inr ⟨_, e⟩), r⟩
  | klst k r => exact ⟨_, _, rfl, .inr k, r⟩
theorem Sh.tup (h : Sh c F H v (.tup ds)) : ∃ a xs, v = .ref a ∧ SqT c.K H a xs ∧ Reps c F H xs ds := by
  rcases h with h | ⟨a, e, h⟩
  · exact h.seqT
  · cases h
theorem Sh.lst (h : Sh c F H v (.lst ds)) : ∃ a xs, v = .ref a ∧ H a = some (.lst xs) ∧ Reps c F H xs ds := by
  rcases h with h | ⟨a, e, h⟩
  · exact h.seqL
  · cases h with
    | lst h r => exact ⟨a, _, e, h, r⟩
theorem Sh.frl (h : Sh c F H v (.frl ds)) : ∃ a xs, v = .ref a ∧ SqL c.K H a xs ∧ Reps c F H xs ds := by
  rcases h with h | ⟨a, e, h⟩
  · exact h.seqF
  · cases h
theorem Sh.int {i : Int} (h : Sh c F H v (.int i)) : v = .int i := by
  rcases h with h | ⟨a, e, h⟩
  · cases h; rfl
  · cases h
theorem Sh.bl {i : Bool} (h : Sh c F H v (.bl i)) : v = .bl i := by
  rcases h with h | ⟨a, e, h⟩
  · cases h; rfl
  · cases h
theorem Sh.str {i : Str} (h : Sh c F H v (.str i)) : v = .str i := by
  rcases h with h | ⟨a, e, h⟩
  · cases h; rfl
  · cases h
theorem Sh.non (h : Sh c F H v .non) : v = .non := by
  rcases h with h | ⟨a, e, h⟩
  · cases h; rfl
  · cases h
end

/-! ### the layer's own data -/
mutual
def D.py : D → PyData
  | .non => .none
  | .bl b => .bool b
  | .int i => .int i
  | .str x => .str x
  | .tup ds => .tuple (D.pys ds)
  | .lst ds => .list (D.pys ds)
  | .dic _ _ => .none
  | .set _ => .none
  | .fn _ => .none
  | .frl _ => .none
def D.pys : List D → List PyData
  | [] => []
  | d :: ds => D.py d :: D.pys ds
end
mutual
theorem fine_py : ∀ (d : D) (n : Nat), d.fine n = true → d.py.canLay0 = true ∧ d.py.depth ≤ n
  | .non, _, _ => ⟨rfl, Nat.zero_le _⟩
  | .bl _, _, _ => ⟨rfl, Nat.zero_le _⟩
  | .int _, _, _ => ⟨rfl, Nat.zero_le _⟩
  | .str x, _, h => ⟨by simpa [D.fine, D.py, PyData.canLay0] using h, Nat.zero_le _⟩
  | .tup ds, 0, h => by simp [D.fine] at h
  | .tup ds, n + 1, h => by
    have := fines_py ds n (by simpa [D.fine] using h)
    exact ⟨by simpa [D.py, PyData.canLay0] using this.1, by simpa [D.py, PyData.depth] using this.2⟩
  | .lst ds, 0, h => by simp [D.fine] at h
  | .lst ds, n + 1, h => by
    have := fines_py ds n (by simpa [D.fine] using h)
    exact ⟨by simpa [D.py, PyData.canLay0] using this.1, by simpa [D.py, PyData.depth] using this.2⟩
  | .dic _ _, _, h => by simp [D.fine] at h
  | .set _, _, h => by simp [D.fine] at h
  | .fn _, _, h => by simp [D.fine] at h
  | .frl _, _, h => by simp [D.fine] at h
theorem fines_py : ∀ (ds : List D) (n : Nat), D.fines ds n = true → PyData.canLayAll0 (D.pys ds) = true ∧ PyData.depthAll (D.pys ds) ≤ n
  | [], _, _ => ⟨rfl, Nat.zero_le _⟩
  | d :: ds, n, h => by
    simp only [D.fines, Bool.and_eq_true] at h
    have a := fine_py d n h.1
    have b := fines_py ds n h.2
    refine ⟨by simp [D.pys, PyData.canLayAll0, a.1, b.1], ?_⟩
    simp only [D.pys, PyData.depthAll]
    omega
end
theorem fine_shaped {d : D} (h : d.fine 64 = true) : SeqAt.shaped d.py = true := by
  have := fine_py d 64 h
  simp [SeqAt.shaped, this.1, this.2]
theorem fines_shaped {ds : List D} (h : D.fines ds 63 = true) : SeqAt.shaped (.list (D.pys ds)) = true := by
  have := fines_py ds 63 h
  have h2 : PyData.depth (.list (D.pys ds)) ≤ 64 := by simp only [PyData.depth]; omega
  simp [SeqAt.shaped, PyData.canLay0, this.1, h2]
mutual
theorem eqv_py : ∀ (d e : D) (n m : Nat), d.fine n = true → e.fine m = true → PyData.eqv d.py e.py = D.eqv d e
  | .non, e, _, _, _, he => by cases e <;> simp [D.py, D.eqv, PyData.eqv, D.fine] at *
  | .bl _, e, _, _, _, he => by cases e <;> simp [D.py, D.eqv, PyData.eqv, D.fine] at *
  | .int _, e, _, _, _, he => by cases e <;> simp [D.py, D.eqv, PyData.eqv, D.fine] at *
  | .str _, e, _, _, _, he => by cases e <;> simp [D.py, D.eqv, PyData.eqv, D.fine] at *
  | .tup ds, e, 0, m, hd, he => by simp [D.fine] at hd
  | .tup ds, e, n + 1, m, hd, he => by
    cases e with
    | tup es =>
      cases m with
      | zero => simp [D.fine] at he
      | succ m =>
        simp only [D.py, D.eqv, PyData.eqv]
        exact eqvs_py ds es n m (by simpa [D.fine] using hd) (by simpa [D.fine] using he)
    | _ => simp [D.py, D.eqv, PyData.eqv, D.fine] at *
  | .lst ds, e, 0, m, hd, he => by simp [D.fine] at hd
  | .lst ds, e, n + 1, m, hd, he => by
    cases e with
    | lst es =>
      cases m with
      | zero => simp [D.fine] at he
      | succ m =>
        simp only [D.py, D.eqv, PyData.eqv]
        exact eqvs_py ds es n m (by simpa [D.fine] using hd) (by simpa [D.fine] using he)
    | _ => simp [D.py, D.eqv, PyData.eqv, D.fine] at *
  | .dic _ _, e, _, _, hd, _ => by simp [D.fine] at hd
  | .set _, e, _, _, hd, _ => by simp [D.fine] at hd
  | .fn _, e, _, _, hd, _ => by simp [D.fine] at hd
  | .frl _, e, _, _, hd, _ => by simp [D.fine] at hd
theorem eqvs_py : ∀ (ds es : List D) (n m : Nat), D.fines ds n = true → D.fines es m = true → PyData.eqvAll (D.pys ds) (D.pys es) = D.eqvs ds es
  | [], es, n, m, _, _ => by cases es <;> simp [D.pys, D.eqvs, PyData.eqvAll]
  | d :: ds, [], n, m, _, _ => by simp [D.pys, D.eqvs, PyData.eqvAll]
  | d :: ds, e :: es, n, m, hd, he => by
    simp only [D.fines, Bool.and_eq_true] at hd he
    simp only [D.pys, D.eqvs, PyData.eqvAll]
    rw [eqv_py d e n m hd.1 he.1, eqvs_py ds es n m hd.2 he.2]
end
section
variable {c : Cf} {F : Addr → Prop} {H : Hp}
mutual
theorem Rep.dp : ∀ {d : D} {v : V} (n : Nat), d.fine n = true → Rep c F H v d → Dp c.K H v d.py
  | .non, _, _, _, h => by cases h; exact .non
  | .bl b, _, _, _, h => by cases h; exact .bl b
  | .int i, _, _, _, h => by cases h; exact .int i
  | .str y, _, _, _, h => by cases h; exact .str y
  | .tup ds, _, 0, f, h => by simp [D.fine] at f
  | .tup ds, _, n + 1, f, h => by
    obtain ⟨a, xs, rfl, q, r⟩ := h.seqT
    exact .tup q (Reps.dp n (by simpa [D.fine] using f) r)
  | .lst ds, _, 0, f, h => by simp [D.fine] at f
  | .lst ds, _, n + 1, f, h => by
    obtain ⟨a, xs, rfl, q, r⟩ := h.seqL
    exact .lst (.inl (.inl q)) (Reps.dp n (by simpa [D.fine] using f) r)
  | .dic _ _, _, _, f, _ => by simp [D.fine] at f
  | .set _, _, _, f, _ => by simp [D.fine] at f
  | .fn _, _, _, f, _ => by simp [D.fine] at f
  | .frl _, _, _, f, _ => by simp [D.fine] at f
theorem Reps.dp : ∀ {ds : List D} {vs : List V} (n : Nat), D.fines ds n = true → Reps c F H vs ds → DpAll c.K H vs (D.pys ds)
  | [], _, _, _, h => by cases h; exact .nil
  | d :: ds, _, n, f, h => by
    simp only [D.fines, Bool.and_eq_true] at f
    cases h with
    | cons r rs => exact .cons (Rep.dp n f.1 r) (Reps.dp n f.2 rs)
end
theorem Sh.dp {d : D} {v : V} (n : Nat) (f : d.fine n = true) (h : Sh c F H v d) : Dp c.K H v d.py := by
  rcases h with h | ⟨a, e, h⟩
  · exact h.dp n f
  · cases h with
    | lst h r =>
      cases n with
      | zero => simp [D.fine] at f
      | succ n =>
        subst e
        exact .lst (.inl (.inl h)) (Reps.dp n (by simpa [D.fine] using f) r)
    | dic h r => simp [D.fine] at f
    | set h r => simp [D.fine] at f
theorem any_eqv {ds : List D} {d : D} {n m : Nat} (hd : D.fines ds n = true) (h : d.fine m = true) : ((D.pys ds).any fun z => PyData.eqv z d.py) = ds.any fun z => D.eqv z d := by
  induction ds with
  | nil => rfl
  | cons x xs ih =>
    simp only [D.fines, Bool.and_eq_true] at hd
    simp only [D.pys, List.any_cons]
    rw [eqv_py x d n m hd.1 h, ih hd.2]
end
end VS
set_option Elab.async false
set_option linter.all false
set_option maxRecDepth 100000
/-! VsC: the state; readings by values. -/
namespace VS
open PySem PySem.Spec PyProof.Rows L2

/-- where one began: the heap, what was fixed, which objects may be changed, the caller's object -/
structure Bs where
  H : Hp
  F : Addr → Prop
  io : Addr → Prop
  ia : Option Addr

/-- may be taken for one's own -/
def Bs.mu (B : Bs) (a : Addr) : Prop := B.H a = none ∨ (B.io a ∧ B.ia ≠ some a)
/-- the same slot with another content -/
def Sl.put : Sl → D → Sl
  | .io _, x => .io x
  | _, x => .own x
def Sl.mine : Sl → Bool
  | .own _ => true
  | .io _ => true
  | _ => false
def SlOk (c : Cf) (B : Bs) (F : Addr → Prop) (H : Hp) (s : Sl) (v : Option (Option V)) : Prop := match s with
  | .no => True
  | .val d => ∃ u, v = some (some u) ∧ Rep c F H u d
  | .own d => ∃ a, v = some (some (.ref a)) ∧ ¬ F a ∧ B.mu a ∧ Own c F H a d
  | .io d => ∃ a, v = some (some (.ref a)) ∧ ¬ F a ∧ (B.ia = some a ∧ B.io a) ∧ Own c F H a d
structure RSt (c : Cf) (B : Bs) (F : Addr → Prop) (ρ : En) (σ : L2.St) (H : Hp) : Prop where
  wf : ∀ a, B.ia = some a → B.io a ∧ B.H a ≠ none
  ioat : ∀ a, B.ia = some a → ∃ (i : Nat) (d : D), ρ[i]? = some (.io d) ∧ σ[i]? = some (some (.ref a))
  live : ∀ a, B.H a ≠ none → H a ≠ none
  frame : ∀ a o, B.H a = some o → ¬ B.io a → H a = some o
  sub : ∀ a, B.F a → F a
  new : ∀ a, F a → B.F a ∨ B.mu a
  dom : ∀ a, F a → H a ≠ none
  len : ρ.length = σ.length
  sl : ∀ (i : Nat) (s : Sl), ρ[i]? = some s → SlOk c B F H s σ[i]?
  apart : ∀ (i j : Nat) (a : Addr) (s t : Sl), i ≠ j → ρ[i]? = some s → ρ[j]? = some t → s.mine = true → t.mine = true → σ[i]? = some (some (.ref a)) → σ[j]? = some (some (.ref a)) → False

section
variable {c : Cf} {B : Bs} {F F' : Addr → Prop} {ρ ρ' : En} {σ σ' : L2.St} {H H' : Hp}
theorem RSt.ownAt (R : RSt c B F ρ σ H) {i : Nat} {s : Sl} (e : ρ[i]? = some s) (m : s.mine = true) : ∃ a d, s.get? = some d ∧ σ[i]? = some (some (.ref a)) ∧ ¬ F a ∧ (B.H a = none ∨ B.io a) ∧ Own c F H a d := by
  have h := R.sl i s e
  cases s with
  | no => cases m
  | val d => cases m
  | own d => obtain ⟨a, h1, h2, h3, h4⟩ := h; exact ⟨a, d, rfl, h1, h2, h3.elim .inl fun z => .inr z.1, h4⟩
  | io d => obtain ⟨a, h1, h2, h3, h4⟩ := h; exact ⟨a, d, rfl, h1, h2, .inr h3.2, h4⟩
theorem RSt.lt (R : RSt c B F ρ σ H) {i : Nat} {s : Sl} (e : ρ[i]? = some s) : i < σ.length := by
  rw [← R.len]; exact (List.getElem?_eq_some_iff.mp e).1
/-- objects are laid, nothing else changes -/
structure Alloc (F : Addr → Prop) (H : Hp) (F' : Addr → Prop) (H' : Hp) : Prop where
  sub : ∀ a, F a → F' a
  new : ∀ a, F' a → F a ∨ H a = none
  dom : ∀ a, F' a → F a ∨ H' a ≠ none
  same : ∀ a o, H a = some o → H' a = some o
theorem Alloc.refl : Alloc F H F H := ⟨fun _ h => h, fun _ h => .inl h, fun _ h => .inl h, fun _ _ h => h⟩
theorem Alloc.ext (x : Alloc F H F' H') (dom : ∀ a, F a → H a ≠ none) : Ext F H F' H' := ⟨x.sub, fun a h => by
  cases e : H a with
  | none => exact absurd e (dom a h)
  | some o => exact x.same a o e⟩
theorem RSt.alloc (R : RSt c B F ρ σ H) (x : Alloc F H F' H') : RSt c B F' ρ σ H' := by
  have xe := x.ext R.dom
  have nf : ∀ a, ¬ F a → H a ≠ none → ¬ F' a := fun a h1 h2 h3 => (x.new a h3).elim h1 h2
  have ow : ∀ {a d}, Own c F H a d → Own c F' H' a d := fun {a d} o => by
    obtain ⟨u, e⟩ := Option.ne_none_iff_exists'.mp o.dom
    exact o.ext xe ((x.same a u e).trans e.symm)
  refine ⟨R.wf, R.ioat, fun a h => ?_, fun a o h1 h2 => x.same a o (R.frame a o h1 h2), fun a h => x.sub a (R.sub a h), fun a h => ?_, fun a h => ?_, R.len, fun i s e => ?_, R.apart⟩
  · obtain ⟨u, e⟩ := Option.ne_none_iff_exists'.mp (R.live a h)
    rw [x.same a u e]; simp
  · rcases x.new a h with h | h
    · exact R.new a h
    · refine .inr (.inl ?_)
      cases q : B.H a with
      | none => rfl
      | some o => exact absurd h (R.live a (by rw [q]; simp))
  · rcases x.dom a h with h | h
    · obtain ⟨u, e⟩ := Option.ne_none_iff_exists'.mp (R.dom a h)
      rw [x.same a u e]; simp
    · exact h
  · have q := R.sl i s e
    cases s with
    | no => trivial
    | val d => obtain ⟨u, h1, h2⟩ := q; exact ⟨u, h1, h2.ext xe⟩
    | own d => obtain ⟨a, h1, h2, h3, h4⟩ := q; exact ⟨a, h1, nf a h2 h4.dom, h3, ow h4⟩
    | io d => obtain ⟨a, h1, h2, h3, h4⟩ := q; exact ⟨a, h1, nf a h2 h4.dom, h3, ow h4⟩
/-- a new object at p -/
theorem Alloc.push {p : Addr} {o : HO} (h : H p = none) : Alloc F H F (upd H p o) :=
  ⟨fun _ h => h, fun _ h => .inl h, fun _ h => .inl h, fun a u e => by rw [upd_ne (ne_of_none e h)]; exact e⟩
/-- a new object at p, fixed -/
theorem Alloc.pushF {p : Addr} {o : HO} (h : H p = none) : Alloc F H (fun a => F a ∨ a = p) (upd H p o) :=
  ⟨fun _ h => .inl h, fun a q => q.elim .inl fun e => .inr (e ▸ h), fun a q => q.elim .inl fun e => .inr (by rw [e, upd_same]; simp), fun a u e => by rw [upd_ne (ne_of_none e h)]; exact e⟩

/-- an answer: a value; if it is fresh and changeable, an object that nothing else holds -/
def Rs (c : Cf) (B : Bs) (F : Addr → Prop) (ρ : En) (σ : L2.St) (H : Hp) (fr : Bool) (v : V) (d : D) : Prop :=
  if fr && d.isMut then ∃ a, v = .ref a ∧ ¬ F a ∧ B.H a = none ∧ Own c F H a d ∧ ∀ (i : Nat) (s : Sl), ρ[i]? = some s → s.mine = true → σ[i]? ≠ some (some (.ref a))
  else Rep c F H v d
theorem Rs.rep {fr : Bool} {v : V} {d : D} (h : Rep c F H v d) (n : (fr && d.isMut) = false) : Rs c B F ρ σ H fr v d := by
  unfold Rs; rw [n]; exact h
theorem Rs.freeze {fr : Bool} {v : V} {d : D} (R : RSt c B F ρ σ H) (h : Rs c B F ρ σ H fr v d) : ∃ F', Ext F H F' H ∧ RSt c B F' ρ σ H ∧ Rep c F' H v d := by
  unfold Rs at h
  split at h
  · obtain ⟨a, rfl, na, bn, o, ap⟩ := h
    have xe : Ext F H (fun b => F b ∨ b = a) H := ⟨fun _ h => .inl h, fun _ _ => rfl⟩
    refine ⟨fun b => F b ∨ b = a, xe, ⟨R.wf, R.ioat, R.live, R.frame, fun b h => .inl (R.sub b h), fun b h => ?_, fun b h => ?_, R.len, fun i s e => ?_, R.apart⟩, (o.ext xe rfl).rep (.inr rfl)⟩
    · rcases h with h | h
      · exact R.new b h
      · exact .inr (.inl (h ▸ bn))
    · rcases h with h | h
      · exact R.dom b h
      · exact h ▸ o.dom
    · have q := R.sl i s e
      cases s with
      | no => trivial
      | val d => obtain ⟨u, h1, h2⟩ := q; exact ⟨u, h1, h2.ext xe⟩
      | own d =>
        obtain ⟨b, h1, h2, h3, h4⟩ := q
        exact ⟨b, h1, fun z => z.elim h2 fun z => ap i _ e rfl (z ▸ h1), h3, h4.ext xe rfl⟩
      | io d =>
        obtain ⟨b, h1, h2, h3, h4⟩ := q
        exact ⟨b, h1, fun z => z.elim h2 fun z => ap i _ e rfl (z ▸ h1), h3, h4.ext xe rfl⟩
  · exact ⟨F, Ext.refl F H, R, h⟩
/-- a slot is stored -/
theorem RSt.store {i : Nat} {s : Sl} {v : V} (R : RSt c B F ρ σ H) (h : SlOk c B F H s (some (some v))) (ap : s.mine = true → ∀ a, v = .ref a → ∀ (j : Nat) (t : Sl), ρ[j]? = some t → t.mine = true → σ[j]? ≠ some (some (.ref a))) (hi : i < ρ.length) (hn : ∀ d, ρ[i]? ≠ some (.io d)) :
    RSt c B F (ρ.set i s) (σ.set i (some v)) H := by
  have hσ : i < σ.length := by rw [← R.len]; exact hi
  refine ⟨R.wf, fun a ha => (by
    obtain ⟨j, d, h1, h2⟩ := R.ioat a ha
    have hj : i ≠ j := fun z => hn d (z ▸ h1)
    exact ⟨j, d, by rw [List.getElem?_set_ne hj]; exact h1, by rw [List.getElem?_set_ne hj]; exact h2⟩), R.live, R.frame, R.sub, R.new, R.dom, by rw [List.length_set, List.length_set, R.len], fun j t e => ?_, fun j k a s' t hjk e1 e2 m1 m2 e3 e4 => ?_⟩
  · by_cases hj : i = j
    · subst hj
      rw [List.getElem?_set_self hi] at e; cases e
      rw [List.getElem?_set_self hσ]; exact h
    · rw [List.getElem?_set_ne hj] at e
      rw [List.getElem?_set_ne hj]; exact R.sl j t e
  · by_cases hj : i = j
    · subst hj
      have hk : i ≠ k := hjk
      rw [List.getElem?_set_self hi] at e1; cases e1
      rw [List.getElem?_set_self hσ] at e3
      rw [List.getElem?_set_ne hk] at e2 e4
      exact ap m1 a (by injection e3 with e; injection e) k t e2 m2 e4
    · rw [List.getElem?_set_ne hj] at e1 e3
      by_cases hk : i = k
      · subst hk
        rw [List.getElem?_set_self hi] at e2; cases e2
        rw [List.getElem?_set_self hσ] at e4
        exact ap m2 a (by injection e4 with e; injection e) j s' e1 m1 e3
      · rw [List.getElem?_set_ne hk] at e2 e4
        exact R.apart j k a s' t hjk e1 e2 m1 m2 e3 e4
/-- a slot is forgotten -/
theorem RSt.drop (R : RSt c B F ρ σ H) (i : Nat) (hn : ∀ d, ρ[i]? ≠ some (.io d)) : RSt c B F (ρ.set i .no) σ H := by
  refine ⟨R.wf, fun a ha => (by
    obtain ⟨j, d, h1, h2⟩ := R.ioat a ha
    have hj : i ≠ j := fun z => hn d (z ▸ h1)
    exact ⟨j, d, by rw [List.getElem?_set_ne hj]; exact h1, h2⟩), R.live, R.frame, R.sub, R.new, R.dom, by rw [List.length_set, R.len], fun j t e => ?_, fun j k a s' t hjk e1 e2 m1 m2 e3 e4 => ?_⟩
  · by_cases hj : i = j
    · subst hj
      by_cases hi : i < ρ.length
      · rw [List.getElem?_set_self hi] at e; cases e; trivial
      · rw [List.getElem?_eq_none (by rw [List.length_set]; omega)] at e; cases e
    · rw [List.getElem?_set_ne hj] at e; exact R.sl j t e
  · have key : ∀ {j : Nat} {s : Sl}, (ρ.set i .no)[j]? = some s → s.mine = true → ρ[j]? = some s := fun {j s} e m => by
      by_cases hj : i = j
      · subst hj
        by_cases hi : i < ρ.length
        · rw [List.getElem?_set_self hi] at e; cases e; cases m
        · rw [List.getElem?_eq_none (by rw [List.length_set]; omega)] at e; cases e
      · rw [List.getElem?_set_ne hj] at e; exact e
    exact R.apart j k a s' t hjk (key e1 m1) (key e2 m2) m1 m2 e3 e4
/-- a slot's own object becomes a value -/
theorem RSt.frozen {i : Nat} {d : D} (R : RSt c B F ρ σ H) (e : ρ[i]? = some (.own d)) : ∃ F' a, Ext F H F' H ∧ (∀ b, F' b → F b ∨ b = a) ∧ σ[i]? = some (some (.ref a)) ∧ ¬ F a ∧
    RSt c B F' (ρ.set i (.val d)) σ H ∧ Rep c F' H (.ref a) d := by
  obtain ⟨a, h1, h2, h3, h4⟩ := R.sl i _ e
  have xe : Ext F H (fun b => F b ∨ b = a) H := ⟨fun _ h => .inl h, fun _ _ => rfl⟩
  have hi : i < ρ.length := (List.getElem?_eq_some_iff.mp e).1
  refine ⟨fun b => F b ∨ b = a, a, xe, fun _ h => h, h1, h2, ?_, (h4.ext xe rfl).rep (.inr rfl)⟩
  refine ⟨R.wf, fun b hb => (by
    obtain ⟨j, d', k1, k2⟩ := R.ioat b hb
    have hj : i ≠ j := fun z => by rw [← z, e] at k1; cases k1
    exact ⟨j, d', by rw [List.getElem?_set_ne hj]; exact k1, k2⟩), R.live, R.frame, fun b h => .inl (R.sub b h), fun b h => h.elim (R.new b) fun z => .inr (z ▸ h3), fun b h => h.elim (R.dom b) fun z => z ▸ h4.dom, by rw [List.length_set, R.len], fun j t et => ?_, fun j k b s' t hjk e1 e2 m1 m2 e3 e4 => ?_⟩
  · by_cases hj : i = j
    · subst hj
      rw [List.getElem?_set_self hi] at et; cases et
      exact ⟨_, h1, (h4.ext xe rfl).rep (.inr rfl)⟩
    · rw [List.getElem?_set_ne hj] at et
      have q := R.sl j t et
      cases t with
      | no => trivial
      | val d => obtain ⟨u, k1, k2⟩ := q; exact ⟨u, k1, k2.ext xe⟩
      | own d' =>
        obtain ⟨b, k1, k2, k3, k4⟩ := q
        exact ⟨b, k1, fun z => z.elim k2 fun z => R.apart i j a _ _ hj e et rfl rfl h1 (z ▸ k1), k3, k4.ext xe rfl⟩
      | io d' =>
        obtain ⟨b, k1, k2, k3, k4⟩ := q
        exact ⟨b, k1, fun z => z.elim k2 fun z => R.apart i j a _ _ hj e et rfl rfl h1 (z ▸ k1), k3, k4.ext xe rfl⟩
  · have key : ∀ {j : Nat} {s : Sl}, (ρ.set i (.val d))[j]? = some s → s.mine = true → ρ[j]? = some s := fun {j s} e m => by
      by_cases hj : i = j
      · subst hj
        rw [List.getElem?_set_self hi] at e; cases e; cases m
      · rw [List.getElem?_set_ne hj] at e; exact e
    exact R.apart j k b s' t hjk (key e1 m1) (key e2 m2) m1 m2 e3 e4
/-- the base that stands here -/
def Bs.at (B : Bs) (F : Addr → Prop) (ρ : En) (σ : L2.St) (H : Hp) : Bs := ⟨H, F, fun a => ∃ (i : Nat) (s : Sl), ρ[i]? = some s ∧ s.mine = true ∧ σ[i]? = some (some (.ref a)), B.ia⟩
theorem RSt.mineMu (R : RSt c B F ρ σ H) {i : Nat} {s : Sl} {a : Addr} (e : ρ[i]? = some s) (m : s.mine = true) (h : σ[i]? = some (some (.ref a))) : B.mu a ∨ (B.ia = some a ∧ B.io a) := by
  have q := R.sl i s e
  cases s with
  | no => cases m
  | val d => cases m
  | own d => obtain ⟨b, h1, h2, h3, h4⟩ := q; rw [h] at h1; cases h1; exact .inl h3
  | io d => obtain ⟨b, h1, h2, h3, h4⟩ := q; rw [h] at h1; cases h1; exact .inr h3
theorem RSt.rebase (R : RSt c B F ρ σ H) : RSt c (B.at F ρ σ H) F ρ σ H := by
  refine ⟨fun a h => ⟨(by obtain ⟨i, d, h1, h2⟩ := R.ioat a h; exact ⟨i, _, h1, rfl, h2⟩), R.live a (R.wf a h).2⟩, R.ioat, fun _ h => h, fun _ _ h _ => h, fun _ h => h, fun _ h => .inl h, R.dom, R.len, fun i s e => ?_, R.apart⟩
  have q := R.sl i s e
  cases s with
  | no => trivial
  | val d => exact q
  | own d =>
    obtain ⟨a, h1, h2, h3, h4⟩ := q
    refine ⟨a, h1, h2, .inr ⟨⟨i, _, e, rfl, h1⟩, fun z => ?_⟩, h4⟩
    rcases h3 with h3 | h3
    · exact (R.wf a z).2 h3
    · exact h3.2 z
  | io d =>
    obtain ⟨a, h1, h2, h3, h4⟩ := q
    exact ⟨a, h1, h2, ⟨h3.1, ⟨i, _, e, rfl, h1⟩⟩, h4⟩
theorem RSt.muBack (R : RSt c B F ρ σ H) {a : Addr} (h : (B.at F ρ σ H).mu a) : B.mu a := by
  rcases h with h | ⟨⟨i, s, e, m, z⟩, h⟩
  · refine .inl ?_
    cases q : B.H a with
    | none => rfl
    | some o => exact absurd h (R.live a (by rw [q]; simp))
  · rcases R.mineMu e m z with k | k
    · exact k
    · exact absurd k.1 h
theorem RSt.unbase (R : RSt c B F ρ σ H) (R' : RSt c (B.at F ρ σ H) F' ρ' σ' H') : RSt c B F' ρ' σ' H' := by
  refine ⟨R.wf, R'.ioat, fun a h => R'.live a (R.live a h), fun a o h1 h2 => R'.frame a o (R.frame a o h1 h2) fun ⟨i, s, e, m, z⟩ => ?_, fun a h => R'.sub a (R.sub a h), fun a h => ?_, R'.dom, R'.len, fun i s e => ?_, R'.apart⟩
  · rcases R.mineMu e m z with k | k
    · rcases k with k | k
      · rw [h1] at k; cases k
      · exact h2 k.1
    · exact h2 k.2
  · rcases R'.new a h with h | h
    · exact R.new a h
    · exact .inr (R.muBack h)
  · have q := R'.sl i s e
    cases s with
    | no => trivial
    | val d => exact q
    | own d =>
      obtain ⟨a, h1, h2, h3, h4⟩ := q
      exact ⟨a, h1, h2, R.muBack h3, h4⟩
    | io d =>
      obtain ⟨a, h1, h2, h3, h4⟩ := q
      exact ⟨a, h1, h2, ⟨h3.1, (R.wf a h3.1).1⟩, h4⟩
/-- objects are laid, the one at a may have changed -/
structure AllocBut (a : Addr) (F : Addr → Prop) (H : Hp) (F' : Addr → Prop) (H' : Hp) : Prop where
  sub : ∀ b, F b → F' b
  new : ∀ b, F' b → F b ∨ H b = none
  dom : ∀ b, F' b → F b ∨ H' b ≠ none
  same : ∀ b o, b ≠ a → H b = some o → H' b = some o
theorem AllocBut.ext {a : Addr} (x : AllocBut a F H F' H') (dom : ∀ a, F a → H a ≠ none) (na : ¬ F a) : Ext F H F' H' := ⟨x.sub, fun b h => by
  cases e : H b with
  | none => exact absurd e (dom b h)
  | some o => exact x.same b o (fun z => na (z ▸ h)) e⟩
theorem Alloc.but (a : Addr) (x : Alloc F H F' H') : AllocBut a F H F' H' := ⟨x.sub, x.new, x.dom, fun b o _ h => x.same b o h⟩
/-- the object in a slot changes -/
theorem RSt.change {i : Nat} {s t : Sl} {a : Addr} {x : D} (R : RSt c B F ρ σ H) (e : ρ[i]? = some s) (m : s.mine = true) (h : σ[i]? = some (some (.ref a))) (al : AllocBut a F H F' H') (na : ¬ F' a) (o : Own c F' H' a x)
    (ht : t = s.put x) : RSt c B F' (ρ.set i t) σ H' := by
  have hi : i < ρ.length := (List.getElem?_eq_some_iff.mp e).1
  have nF : ¬ F a := fun z => na (al.sub a z)
  have xe := al.ext R.dom nF
  have tm : t.mine = true := by subst ht; cases s <;> rfl
  have nf : ∀ b, ¬ F b → H b ≠ none → ¬ F' b := fun b h1 h2 h3 => (al.new b h3).elim h1 h2
  have ow : ∀ {b d}, b ≠ a → Own c F H b d → Own c F' H' b d := fun {b d} hb o => by
    obtain ⟨u, e⟩ := Option.ne_none_iff_exists'.mp o.dom
    exact o.ext xe ((al.same b u hb e).trans e.symm)
  have key : ∀ {j : Nat} {s' : Sl}, i ≠ j → (ρ.set i t)[j]? = some s' → ρ[j]? = some s' := fun {j s'} hj e => by rw [List.getElem?_set_ne hj] at e; exact e
  refine ⟨R.wf, fun b hb => (by
    obtain ⟨j, d, k1, k2⟩ := R.ioat b hb
    by_cases hj : i = j
    · subst hj
      rw [e] at k1
      cases k1
      exact ⟨i, x, by rw [List.getElem?_set_self hi, ht] <;> rfl, k2⟩
    · exact ⟨j, d, by rw [List.getElem?_set_ne hj]; exact k1, k2⟩), fun b hb => ?_, fun b u h1 h2 => al.same b u (fun z => ?_) (R.frame b u h1 h2), fun b h => al.sub b (R.sub b h), fun b h => ?_, fun b h => ?_, by rw [List.length_set, R.len], fun j s' ej => ?_, fun j k b s' t' hjk e1 e2 m1 m2 e3 e4 => ?_⟩
  · by_cases z : b = a
    · subst z; exact o.dom
    · obtain ⟨u, q⟩ := Option.ne_none_iff_exists'.mp (R.live b hb)
      rw [al.same b u z q]; simp
  · subst z
    rcases R.mineMu e m h with k | k
    · rcases k with k | k
      · rw [h1] at k; cases k
      · exact h2 k.1
    · exact h2 k.2
  · rcases al.new b h with h | h
    · exact R.new b h
    · refine .inr (.inl ?_)
      cases q : B.H b with
      | none => rfl
      | some o => exact absurd h (R.live b (by rw [q]; simp))
  · rcases al.dom b h with h | h
    · obtain ⟨u, q⟩ := Option.ne_none_iff_exists'.mp (R.dom b h)
      rw [xe.keep b h, q]; simp
    · exact h
  · by_cases hj : i = j
    · subst hj
      rw [List.getElem?_set_self hi] at ej
      cases ej
      have q := R.sl i s e
      subst ht
      cases s with
      | no => cases m
      | val d => cases m
      | own d => obtain ⟨b, h1, h2, h3, h4⟩ := q; rw [h] at h1; cases h1; exact ⟨a, h, na, h3, o⟩
      | io d => obtain ⟨b, h1, h2, h3, h4⟩ := q; rw [h] at h1; cases h1; exact ⟨a, h, na, h3, o⟩
    · have ej := key hj ej
      have q := R.sl j s' ej
      cases s' with
      | no => trivial
      | val d => obtain ⟨u, h1, h2⟩ := q; exact ⟨u, h1, h2.ext xe⟩
      | own d =>
        obtain ⟨b, h1, h2, h3, h4⟩ := q
        exact ⟨b, h1, nf b h2 h4.dom, h3, ow (fun z => R.apart i j a _ _ hj e ej m rfl h (z ▸ h1)) h4⟩
      | io d =>
        obtain ⟨b, h1, h2, h3, h4⟩ := q
        exact ⟨b, h1, nf b h2 h4.dom, h3, ow (fun z => R.apart i j a _ _ hj e ej m rfl h (z ▸ h1)) h4⟩
  · have back : ∀ {j : Nat} {s' : Sl}, (ρ.set i t)[j]? = some s' → s'.mine = true → ∃ s'', ρ[j]? = some s'' ∧ s''.mine = true := fun {j s'} e' m' => by
      by_cases hj : i = j
      · subst hj; exact ⟨s, e, m⟩
      · exact ⟨s', key hj e', m'⟩
    obtain ⟨s1, x1, y1⟩ := back e1 m1
    obtain ⟨s2, x2, y2⟩ := back e2 m2
    exact R.apart j k b s1 s2 hjk x1 x2 y1 y2 e3 e4
end
end VS
set_option Elab.async false
set_option linter.all false
set_option maxRecDepth 100000
set_option maxHeartbeats 2000000
/-! VsR: further rules of the layer's kind. -/
namespace L2
open PySem PySem.Spec PyProof.Rows
theorem vs_tuple_mul1 (l : Addr) (items : Array Value) (n : Nat) (dd : Option Addr) (sl : Array (Option Value)) (x : Int) (u : Tok) (c0 : (decide (x < -(2 ^ 63)) || decide (x ≥ 2 ^ 63)) = false) (c1 : (items.isEmpty || x == 1) = true) :
    Meets (Builtin.«tuple.__mul__» ⟨[.ref l, .int x u], []⟩) (fun _ R s => s.heap.get? l = some { cls := .type "tuple", dict := dd, data := .seq items n, slots := sl } ∧
      R (.ok (.ret (Value.ref l))) s) :=
  .of_wp fun prog w A R s h => by
    obtain ⟨hp, g, d, tk, os⟩ := s
    obtain ⟨hl, h⟩ := h
    have f1 := AutoSeq1.idx_int
    wp_walk using wpAny_loadPart' hl
    repeat (first
      | (refine wpAny_ite_false (decide_eq_false (by rw [c0]; exact Bool.false_ne_true)) ?_; wp_walk using wpAny_loadPart' hl)
      | (refine wpAny_ite_true (decide_eq_true (by rw [c1])) ?_; wp_walk using wpAny_loadPart' hl))
    exact ⟨_, rfl, h⟩
theorem vs_tuple_mul0 (l : Addr) (items : Array Value) (n : Nat) (dd : Option Addr) (sl : Array (Option Value)) (x : Int) (u : Tok) (c0 : (decide (x < -(2 ^ 63)) || decide (x ≥ 2 ^ 63)) = false) (c1 : (items.isEmpty || x == 1) = false) (c2 : (decide (x ≤ 0) || items.isEmpty) = true) :
    Meets (Builtin.«tuple.__mul__» ⟨[.ref l, .int x u], []⟩) (fun _ R s => s.heap.get? l = some { cls := .type "tuple", dict := dd, data := .seq items n, slots := sl } ∧
      R (.ok (.ret (Value.ref s.heap.objs.size))) { s with heap := s.heap.push { cls := Value.type "tuple", data := Data.seq #[] }, toks := s.toks }) :=
  .of_wp fun prog w A R s h => by
    obtain ⟨hp, g, d, tk, os⟩ := s
    obtain ⟨hl, h⟩ := h
    have f1 := AutoSeq1.idx_int
    wp_walk using wpAny_loadPart' hl
    repeat (first
      | (refine wpAny_ite_false (decide_eq_false (by rw [c0]; exact Bool.false_ne_true)) ?_; wp_walk using wpAny_loadPart' hl)
      | (refine wpAny_ite_false (decide_eq_false (by rw [c1]; exact Bool.false_ne_true)) ?_; wp_walk using wpAny_loadPart' hl)
      | (refine wpAny_ite_true (decide_eq_true (by rw [c2])) ?_; wp_walk using wpAny_loadPart' hl))
    exact ⟨_, rfl, h⟩
/-- t * k, any k -/
def rRepU (K : PySem.W.Frag) : R2 := fun x y H Q => ∃ l k xs, x = .ref l ∧ y = .int k ∧ SqT K H l xs ∧ -(2 ^ 63) ≤ k ∧ k < 2 ^ 63 ∧ xs.length * k.toNat ≤ sizeLine ∧
  ((xs = [] ∨ k = 1) → Q (.ref l) H) ∧ (xs ≠ [] → k ≠ 1 → ∀ p, H p = none → Q (.ref p) (upd H p (.tup (List.replicate k.toNat xs).flatten)))
section
variable {X : Cx}
theorem op_repU : OpR X (binaryOp .Mult) (rRepU X.K) := by
  intro pins s σ H x y v u Q I rx ry h
  obtain ⟨l, k, xs, rfl, rfl, hT, h1, h2, hz, q1, q2⟩ := h
  cases rx
  obtain ⟨t, rfl⟩ := ry
  obtain ⟨its, r, ⟨⟨cls, dd, data, sl⟩, ho, hc, n, hd⟩, hs⟩ := I.tuple hT
  simp only at hc hd
  subst hc hd
  have hle : its.length = xs.length := r.length.symm
  have hsz0 : its.toArray.size = xs.length := by rw [List.size_toArray, hle]
  have hline : sizeLine = 16777216 := sizeLine_eq
  have c0 : (decide (k < -(2 ^ 63)) || decide (k ≥ 2 ^ 63)) = false := by
    rw [decide_eq_false (by omega), decide_eq_false (by omega)] <;> rfl
  have emp : its.toArray.isEmpty = decide (xs = []) := by
    cases xs with
    | nil => cases r; rfl
    | cons a b => cases r; rfl
  by_cases hx : xs = [] ∨ k = 1
  · have c1 : (its.toArray.isEmpty || k == 1) = true := by
      rw [emp]
      rcases hx with z | z
      · rw [decide_eq_true z] <;> rfl
      · rw [z]; simp
    refine wpAny_binaryOp_repeat_ref (T := "tuple") (U := "int") (by decide) ⟨_, ho, rfl⟩ (fun s' => typeIs_int s' k t) noFill_tuple_mul F.fills_int_mul F.slot_int_rmul repeat_tuple F.slot_int_index.lookup
      (call_meets F.slot_int_rmul (typeIs_int s k t) F.entry_int_rmul (F.args_int_rmul_2 _ _) (int_rmul_tuple k t l its.toArray n dd sl)
        ⟨ho, rfl, ⟨_, ho, rfl⟩, call_meets F.slot_tuple_mul ⟨_, ho, rfl⟩ F.entry_tuple_mul (F.args_tuple_mul_2 _ _) (vs_tuple_mul1 l its.toArray n dd sl k t c0 c1) ⟨ho, ?_⟩⟩)
    exact ⟨.ref l, H, I, rfl, q1 hx⟩
  · have hne : xs ≠ [] := fun e => hx (.inl e)
    have hk : k ≠ 1 := fun e => hx (.inr e)
    have c1 : (its.toArray.isEmpty || k == 1) = false := by
      rw [emp, decide_eq_false hne, Bool.false_or]
      exact beq_eq_false_iff_ne.mpr hk
    by_cases h0 : k ≤ 0
    · have c2 : (decide (k ≤ 0) || its.toArray.isEmpty) = true := by rw [decide_eq_true h0] <;> rfl
      have e0 : (List.replicate k.toNat xs).flatten = [] := by rw [show k.toNat = 0 by omega] <;> rfl
      refine wpAny_binaryOp_repeat_ref (T := "tuple") (U := "int") (by decide) ⟨_, ho, rfl⟩ (fun s' => typeIs_int s' k t) noFill_tuple_mul F.fills_int_mul F.slot_int_rmul repeat_tuple F.slot_int_index.lookup
        (call_meets F.slot_int_rmul (typeIs_int s k t) F.entry_int_rmul (F.args_int_rmul_2 _ _) (int_rmul_tuple k t l its.toArray n dd sl)
          ⟨ho, rfl, ⟨_, ho, rfl⟩, call_meets F.slot_tuple_mul ⟨_, ho, rfl⟩ F.entry_tuple_mul (F.args_tuple_mul_2 _ _) (vs_tuple_mul0 l its.toArray n dd sl k t c0 c1 c2) ⟨ho, ?_⟩⟩)
      refine ⟨.ref s.heap.objs.size, _, I.laid (t' := s.toks) (o := .tup (List.replicate k.toNat xs).flatten) (fun b ob q => Heap.get?_push_of_some _ q) (Nat.le_refl _) ?_, rfl, q2 hne hk _ (I.hok.fresh (Nat.le_refl _))⟩
      exact ⟨by rw [e0]; exact Nat.zero_le _, [], by rw [e0]; exact .nil, IsTup.new _ _⟩
    · have hi : its.toArray.isEmpty = false := by rw [emp, decide_eq_false hne]
      have hmul : xs.length * k.toNat = k.toNat * xs.length := Nat.mul_comm _ _
      have hm : ((its.toArray.size : Nat) : Int) * k ≤ 16777216 := by
        rw [hsz0]
        have e : ((xs.length : Nat) : Int) * k = ((xs.length * k.toNat : Nat) : Int) := by
          rw [Int.natCast_mul, Int.toNat_of_nonneg (by omega)]
        rw [e]
        omega
      have flen : (List.replicate k.toNat its).flatten.length ≤ sizeLine := by
        rw [PyProof.Rows.lm_len_rep_flat, hle, ← hmul]
        exact hz
      have c2 : (decide (k ≤ 0) || its.toArray.isEmpty) = false := by
        rw [hi, Bool.or_false]
        exact decide_eq_false h0
      have c4 : Builtin.Tuple.tupleTooMany (((its.toArray.size : Nat) : Int) * k) = false := by
        unfold Builtin.Tuple.tupleTooMany
        rw [sizeLine_eq]
        exact decide_eq_false (by omega)
      refine wpAny_binaryOp_repeat_ref (T := "tuple") (U := "int") (by decide) ⟨_, ho, rfl⟩ (fun s' => typeIs_int s' k t) noFill_tuple_mul F.fills_int_mul F.slot_int_rmul repeat_tuple F.slot_int_index.lookup
        (call_meets F.slot_int_rmul (typeIs_int s k t) F.entry_int_rmul (F.args_int_rmul_2 _ _) (int_rmul_tuple k t l its.toArray n dd sl)
          ⟨ho, rfl, ⟨_, ho, rfl⟩, call_meets F.slot_tuple_mul ⟨_, ho, rfl⟩ F.entry_tuple_mul (F.args_tuple_mul_2 _ _) (tuple_mulW l its.toArray n dd sl k t c0 c1 c2 (by omega) c4 (by rw [size_rep, List.size_toArray]; exact flen)) ⟨ho, ?_⟩⟩)
      rw [size_rep]
      refine ⟨.ref s.heap.objs.size, _, I.laid (t' := s.toks) (o := .tup (List.replicate k.toNat xs).flatten) (fun b ob q => Heap.get?_push_of_some _ q) (Nat.le_refl _) ?_, rfl, q2 hne hk _ (I.hok.fresh (Nat.le_refl _))⟩
      exact ⟨by rw [PyProof.Rows.lm_len_rep_flat, ← hmul]; exact hz, _, r.rep k.toNat, IsTup.new _ _⟩
end
/-! ### x in t, data of any depth -/
def rInT (K : PySem.W.Frag) (neg : Bool) : R2 := fun x y H Q => ∃ d ds, Dp K H x d ∧ Dp K H y (.tuple ds) ∧ SeqAt.shaped d = true ∧ SeqAt.shaped (.tuple ds) = true ∧ Q (.bl (if neg then !(ds.any fun z => PyData.eqv z d) else ds.any fun z => PyData.eqv z d)) H
end L2
namespace L2
open PySem PySem.Spec PyProof.Rows
section
variable {X : Cx}
theorem op_inT (hu : X.A.units + 65 < cLine) : OpR X (compareOp .In) (rInT X.K false) := by
  intro pins s σ H x y v u Q I rx ry h
  obtain ⟨d, ds, hd, he, sd, se, q⟩ := h
  obtain ⟨as, r1⟩ := Dp.reads I d x v hd rx
  obtain ⟨bs, r2⟩ := Dp.reads I (.tuple ds) y u he ry
  exact SeqAt.in_tuple_reads r2 r1 (SeqAt.canLay_of_shaped se) (SeqAt.canLay_of_shaped sd) (room_in_shaped sd hu) ⟨.bl _, H, I, rfl, q⟩
theorem op_notInT (hu : X.A.units + 65 < cLine) : OpR X (compareOp .NotIn) (rInT X.K true) := by
  intro pins s σ H x y v u Q I rx ry h
  obtain ⟨d, ds, hd, he, sd, se, q⟩ := h
  obtain ⟨as, r1⟩ := Dp.reads I d x v hd rx
  obtain ⟨bs, r2⟩ := Dp.reads I (.tuple ds) y u he ry
  exact SeqAt.notIn_tuple_reads r2 r1 (SeqAt.canLay_of_shaped se) (SeqAt.canLay_of_shaped sd) (room_in_shaped sd hu) ⟨.bl _, H, I, rfl, q⟩
end
end L2
set_option Elab.async false
set_option linter.all false
set_option maxRecDepth 100000
set_option maxHeartbeats 4000000
/-! VsU: t[::-1] of a tuple; sorted(set(..)) of ints. -/
namespace VS
open PySem PySem.Spec PyProof.Rows L2 HT

theorem rev_places (n : Nat) : Builtin.Slice.slicePlaces ((n : Int) - 1) (-1) (-1) = n := by
  unfold Builtin.Slice.slicePlaces
  rw [if_neg (by decide)]
  by_cases h : (n : Int) - 1 > -1
  · rw [if_pos h, show (-(-1) : Int) = 1 by decide, Int.ediv_one]
    omega
  · rw [if_neg h]
    omega
theorem fm_congr {α β : Type} {f g : α → Option β} : ∀ {l : List α}, (∀ m ∈ l, f m = g m) → l.filterMap f = l.filterMap g
  | [], _ => rfl
  | a :: l, h => by
    rw [List.filterMap_cons, List.filterMap_cons, h a List.mem_cons_self, fm_congr fun m hm => h m (List.mem_cons_of_mem _ hm)]
theorem rev_pick {α : Type} (xs : Array α) : ((List.range xs.size).filterMap fun (m : Nat) => xs[(((xs.size : Int) - 1) + (m : Int) * (-1)).toNat]?) = xs.toList.reverse := by
  have h := PySem.W.krv_all xs
  rw [← h, ← List.filterMap_reverse, ← PySem.W.krv_range, List.filterMap_map]
  refine fm_congr fun m hm => ?_
  have hm := List.mem_range.mp hm
  show _ = xs[xs.size - 1 - m]?
  rw [show (((xs.size : Int) - 1) + (m : Int) * (-1)).toNat = xs.size - 1 - m by omega]
section
variable {prog : Program} {w : World} {A : Around} {E : Value → Shared → Prop} {s : Shared}
theorem rev_applied {sl : Addr} {vl vu vs : Value} {n : Nat} {Q : Int × Int × Nat → Shared → Prop} (hs : s.heap.IsSliceOf sl vl vu vs) (pl : IsPart vl none) (pu : IsPart vu none) (ps : IsPart vs (some (-1)))
    (h : Q ((n : Int) - 1, -1, n) s) : wpAny (model prog w) A (Builtin.Slice.sliceApplied (.ref sl) (pure (n : Int))) Q E s := by
  obtain ⟨os, hos, hcs, hds⟩ := id hs
  cases pl
  cases pu
  cases ps
  unfold Builtin.Slice.sliceApplied Builtin.Slice.sliceFields
  refine wpAny_bind (wpAny_bind (wpAny_field hos hds (x := .none) rfl (wpAny_bind (wpAny_field hos hds (x := .none) rfl (wpAny_bind (wpAny_field hos hds (x := .int (-1) _) rfl (wpAny_pure ?_)))))))
  refine wpAny_bind (slicePart_int ?_)
  show wpAny _ _ (if ((-1 : Int) == 0) = true then _ else _) _ _ s
  rw [if_neg (by decide)]
  refine wpAny_bind (slicePart_none (wpAny_bind (slicePart_none (wpAny_bind (wpAny_pure ?_)))))
  show wpAny _ _ (pure ((n : Int) - 1, (-1 : Int), Builtin.Slice.slicePlaces ((n : Int) - 1) (-1) (-1))) _ _ s
  rw [rev_places]
  exact wpAny_pure h
theorem rev_tuple {t sl : Addr} {items : Array Value} {vl vu vs : Value} {Q : Value → Shared → Prop} (ht : IsTup s.heap t items) (hs : s.heap.IsSliceOf sl vl vu vs) (pl : IsPart vl none) (pu : IsPart vu none) (ps : IsPart vs (some (-1)))
    (h : Q (.ref s.heap.objs.size) { s with heap := s.heap.push { cls := .type "tuple", data := .seq items.toList.reverse.toArray } }) (hsz : items.size ≤ sizeLine) : wpAny (model prog w) A (getItem (.ref t) (.ref sl)) Q E s := by
  have fits : sizeOk (.seq items.toList.reverse.toArray) := by
    show items.toList.reverse.toArray.size ≤ sizeLine
    simpa using hsz
  obtain ⟨os, hos, hcs, hds⟩ := id hs
  have hTs : s.TypeIs (.ref sl) "slice" := ⟨os, hos, hcs⟩
  unfold getItem
  try with_reducible refine wpAny_holding ?_
  first | refine wpAny_bind (wpAny_pure ?_) | skip
  refine wpAny_bind (wpAny_sequenceKey ht.typeIs (by decide) ?_)
  refine wpAny_bind (wpAny_callSpecial?_slot (name := Str.ofString "__getitem__") ht.typeIs PyProof.Rows.slot_tuple_getitem
    (wpAny_call_entry PyProof.Rows.slot_tuple_getitem ht.typeIs entry_tuple_getitem ?_ (args_tuple_getitem _ _)))
  show wpAny _ _ (Builtin.Tuple.tupleItemsOf (.ref t) >>= _) _ _ s
  refine wpAny_bind (tupleItemsOf_ ht ?_)
  refine wpAny_bind (wpAny_typeOf hTs ?_)
  rw [if_pos (by decide)]
  refine wpAny_bind (rev_applied hs pl pu ps ?_)
  have hno : ¬ (((items.size : Int) - 1 == 0 && (-1 : Int) == 1 && items.size == items.size) = true) := by
    intro q
    simp at q
  show wpAny _ _ (if ((items.size : Int) - 1 == 0 && (-1 : Int) == 1 && items.size == items.size) = true then _ else _) _ _ s
  rw [if_neg hno, rev_pick]
  first
    | exact wpAny_bind (m := Builtin.Tuple.tupleExact _) (wpAny_newObj_type (wpAny_pure ⟨_, rfl, wpAny_pure h⟩) fits)
    | exact wpAny_bind (m := Builtin.Tuple.tupleExact _) (wpAny_newObj_type (wpAny_bind (wpAny_pure (wpAny_pure ⟨_, rfl, wpAny_pure h⟩))) fits)
    | exact wpAny_bind (wpAny_bind (m := Builtin.Tuple.tupleExact _) (wpAny_newObj_type (wpAny_pure (wpAny_pure ⟨_, rfl, wpAny_pure h⟩)) fits))
    | exact wpAny_bind (wpAny_bind (m := Builtin.Tuple.tupleExact _) (wpAny_newObj_type (wpAny_pure ⟨_, rfl, wpAny_pure h⟩) fits))
end
/-- x[::-1] -/
def rRev (K : PySem.W.Frag) : V → Hp → VK → Prop := fun x H Q => ∃ a xs, x = .ref a ∧ ((SqL K H a xs ∧ ∀ p, H p = none → Q (.ref p) (upd H p (.lst xs.reverse))) ∨ (SqT K H a xs ∧ ∀ p, H p = none → Q (.ref p) (upd H p (.tup xs.reverse))))
def tRev (K : PySem.W.Frag) (te : TE) : TE := fun σ H Q => te σ H fun x H1 => rRev K x H1 Q
section
variable {X : Cx}
theorem pe_rev {e : Expr} {te : TE} {k : Nat} {p1 p2 p3 pos : Pos} (he : PE X e te) : PE X (.Subscript e (.Slice none none (some (.UnaryOp .USub (.Constant (.int 1) k p1) p2)) p3) pos) (tRev X.K te) := by
  refine ⟨fun pins s σ H Q I h => ?_⟩
  refine Subscript_ (thn (he.run pins s σ H _ I h) fun v s1 ⟨x, H1, I1, r1, q1⟩ => ?_)
  obtain ⟨a, xs, ex, q⟩ := q1
  subst ex
  cases r1
  have step : PO X (some (.UnaryOp .USub (.Constant (.int 1) k p1) p2)) (tPart (tUn (rU fun i => .int (-i)) (tC (.int 1)))) := po_some (pe_un un_neg pe_int)
  refine wpAny_Slice (thn (po_none.run pins s1 σ H1 (fun o H2 => o = none ∧ H2 = H1) I1 ⟨rfl, rfl⟩) fun vl s2 ⟨l, H2, I2, pl, el, e2⟩ => ?_)
  subst el e2
  refine thn (po_none.run pins s2 σ H2 (fun o H3 => o = none ∧ H3 = H2) I2 ⟨rfl, rfl⟩) fun vu s3 ⟨u, H3, I3, pu, eu, e3⟩ => ?_
  subst eu e3
  refine thn (step.run pins s3 σ H3 (fun o H4 => o = some (-1) ∧ H4 = H3) I3 ⟨1, rfl, -1, rfl, rfl, rfl⟩) fun vs s4 ⟨o, H4, I4, ps, eo, e4⟩ => ?_
  subst eo e4
  have I5 : Inv X pins σ H4 { s4 with heap := s4.heap.push { cls := .type "slice", data := .fields #[vl, vu, vs] } } := I4.kept (t' := s4.toks) fun b ob q => Heap.get?_push_of_some _ q
  show wpAny (model X.prog X.w) X.A (subscriptTail e (.Slice none none (some (.UnaryOp .USub (.Constant (.int 1) k p1) p2)) p3) (.ref a) (.ref s4.heap.objs.size)) (EP X pins σ Q) X.xe { s4 with heap := s4.heap.push { cls := .type "slice", data := .fields #[vl, vu, vs] } }
  rcases q with ⟨hx, q⟩ | ⟨hx, q⟩
  · obtain ⟨its, r, ht, hz⟩ := I5.list hx
    refine tail_any (ops := [.ref a, .ref s4.heap.objs.size]) ht.isList.typeIs (PySem.slot_list_getitem.lookup) ?_ (by with_unfolding_all rfl)
    refine wpAny_getItem_list_slice ht.isList (Heap.IsSliceOf.new _ vl vu vs) pl pu ps (by decide) ?_ (by rw [List.size_toArray, ← r.length]; exact hz)
    rw [PySem.W.krv_pick]
    refine ⟨.ref _, _, I5.laid (t' := s4.toks) (o := .lst xs.reverse) (fun b ob q => Heap.get?_push_of_some _ q) (Nat.le_refl _) ?_, rfl, q _ (I5.hok.fresh (Nat.le_refl _))⟩
    exact ⟨by rw [List.length_reverse]; exact hz, _, 0, r.reverse, Heap.get?_push_size _ rfl⟩
  · obtain ⟨its, r, ht, hz⟩ := I5.tuple hx
    refine tail_any (ops := [.ref a, .ref s4.heap.objs.size]) ht.typeIs (PyProof.Rows.slot_tuple_getitem.lookup) ?_ (by with_unfolding_all rfl)
    refine rev_tuple ht (Heap.IsSliceOf.new _ vl vu vs) pl pu ps ?_ (by rw [List.size_toArray, ← r.length]; exact hz)
    refine ⟨.ref _, _, I5.laid (t' := s4.toks) (o := .tup xs.reverse) (fun b ob q => Heap.get?_push_of_some _ q) (Nat.le_refl _) ?_, rfl, q _ (I5.hok.fresh (Nat.le_refl _))⟩
    exact ⟨by rw [List.length_reverse]; exact hz, _, r.reverse, IsTup.new _ _⟩
end
end VS
set_option Elab.async false
set_option linter.all false
set_option maxRecDepth 100000
set_option maxHeartbeats 4000000
/-! VsV: set(list of ints), kept as the sets of HandS.Strs are; sorted(set(..)), len(set(..)). -/
namespace VS
open PySem PySem.Spec PyProof.Rows L2

section
variable {P : Program} {w : World} {A : Around} {E : Value → Shared → Prop} {s : Shared}
abbrev newSet0 (w : World) : Obj := { cls := .type "set", dict := none, data := .set #[] 0 (.fresh 0 0 (!w.params.followText "set-order")) }
/-- what the filling leaves -/
def Filled (w : World) (s : Shared) (ns : List Int) (s₂ : Shared) : Prop := ∃ h' tk c, s₂ = { s with heap := h', toks := tk } ∧ SetR w h' s.heap.objs.size (fun j => decide (j ∈ ns)) c ∧ c ≤ ns.length ∧ ∀ b o, s.heap.get? b = some o → h'.get? b = some o
theorem int_of {items : Array Value} {ns : List Int} (hit : IntsAre items.toList ns) (hz : items.size = ns.length) (i : Nat) (v : Value) (hv : items[i]? = some v) : ∃ k t, ns[i]? = some k ∧ v = .int k t := by
  have hi : i < ns.length := by rw [← hz]; exact (Array.getElem?_eq_some_iff.mp hv).1
  obtain ⟨t, e⟩ := PyProof.Rows.IntsAre.int_at hit i v (by rw [Array.getElem?_toList]; exact hv)
  refine ⟨ns[i], t, List.getElem?_eq_getElem hi, ?_⟩
  rw [e, List.getD_eq_getElem?_getD, List.getElem?_eq_getElem hi] <;> rfl
theorem set_of_list {l : Addr} {items : Array Value} (ns : List Int) {Q : Value → Shared → Prop} (hh : A.handled = none) (hl : s.heap.IsList l items) (hit : IntsAre items.toList ns) (hb : ns.length + 1 < scanBound)
    (h : ∀ s₂, Filled w s ns s₂ → Q (.ref s.heap.objs.size) s₂) : wpAny (model P w) A (call (.type "set") [.ref l]) Q E s := by
  have hz : items.size = ns.length := by
    have q := IntsAre.length hit
    rw [Array.length_toList] at q
    exact q
  obtain ⟨c, tl, hmro⟩ := F.called_set.mro
  have hmade := F.called_set.made
  have hsub := F.called_set.sub
  have h1 := F.called_set.notType
  have h2 := F.called_set.canCreate
  have hct := F.typeCall_set_1 (.ref l)
  refine wpAny_call (codeAny_of_tree ?_)
  show wpAny _ _ (callAny (.type "set") _) _ _ _
  refine wpAny_pure ⟨Code.quiet_builtin _ (by decide +kernel), codeAny_builtin F.entry_type_call ?_⟩
  rw [Around.under_plain (weight_type_call_type "set" [.ref l] []) rfl]
  repeat (any_goals (first | assumption | wp_step))
  refine codeAny_mono (code_set_led1 (.ref l) (E := E) (Q₁ := fun obj s₁ => obj = .ref s.heap.objs.size ∧ s₁ = { s with heap := s.heap.push (newSet0 w) }) ⟨rfl, rfl⟩) fun r s₁ hr => ?_
  cases r with
  | error e => exact hr
  | ok fl =>
    cases fl with
    | ret obj =>
      obtain ⟨rfl, rfl⟩ := hr
      have hS : (s.heap.push (newSet0 w)).get? s.heap.objs.size = some (newSet0 w) := Heap.get?_push_size _ rfl
      have hT : Shared.TypeIs { s with heap := s.heap.push (newSet0 w) } (.ref s.heap.objs.size) "set" := ⟨_, hS, rfl⟩
      have hli := F.called_set.init.lookup
      have hbi := F.called_set.init.bind (.ref s.heap.objs.size)
      repeat (any_goals (first | assumption | wp_step))
      refine codeAny_mono (codeAny_call_builtin (R := wants (fun r s₂ => r = .none ∧ Filled w s ns s₂) E) F.called_set.init.plain F.entry_set_init (check_set_init_1 hT ?_)) fun r₂ s₂ hr₂ => ?_
      · obtain ⟨ol, hol, hcl, nl, hdl⟩ := id hl
        obtain ⟨ocls, odict, odata, oslots⟩ := ol
        simp only at hcl hdl
        subst hcl hdl
        have up : ∀ {b o}, s.heap.get? b = some o → (s.heap.push (newSet0 w)).get? b = some o := fun e => Heap.get?_push_of_some _ e
        have hol1 := up hol
        have hl1 : (s.heap.push (newSet0 w)).IsList l items := ⟨_, hol1, rfl, nl, rfl⟩
        have hlS : l < s.heap.objs.size := Heap.lt_size hol
        have q1 := F.sub_list_set
        have q2 := F.sub_list_frozenset
        have q3 : (Value.type "list" == Value.type "dict") = false := by decide
        unfold Builtin.«set.__init__» noKeywords Builtin.Frozenset.updateFrom
        generalize hPI : pyIter = PI
        wp_walk
        subst hPI
        refine wpAny_pyIter_list hl1 ?_
        refine wpAny_bind (wpAny_runValue ?_)
        have hh3 : A.in1.in1.in1.handled = none := by simp [hh]
        have hsz : (s.heap.push (newSet0 w)).objs.size = s.heap.objs.size + 1 := Heap.size_push ..
        have hneI : l ≠ (s.heap.push (newSet0 w)).objs.size := by rw [hsz]; exact Nat.ne_of_lt (Nat.lt_succ_of_lt hlS)
        have hSf : s.heap.objs.size ∉ [(s.heap.push (newSet0 w)).objs.size, l] := by
          rw [hsz]
          simp only [List.mem_cons, List.not_mem_nil, or_false, not_or]
          exact ⟨Nat.ne_of_lt (Nat.lt_succ_self _), Nat.ne_of_gt hlS⟩
        refine set_update_ints ((Walks.list hh3 _ l hneI items).toS) s.heap.objs.size hSf ns hz hb (int_of hit hz) (items.size - 0) 0 _ (by omega) (Nat.zero_le _) ⟨⟨_, Heap.get?_push_size _ rfl, rfl, rfl⟩, (hl1.push _)⟩
          ⟨0, Nat.le_refl 0, setR_new_at (Heap.get?_push_of_some _ hS)⟩ ?_
        intro s' c' hm hc' hS'
        obtain ⟨h', g2, d', tk', os'⟩ := s'
        have eg : g2 = s.gens := hm.gens
        have ed : d' = s.drawn := hm.drawn
        have eo : os' = s.os := hm.os
        subst eg ed eo
        show wpAny _ _ _ _ _ _
        refine wpAny_pure ?_
        show wpAny _ _ (ret Value.none) _ _ _
        rw [hz] at hc'
        refine wpAny_pure ⟨rfl, h', tk', c', rfl, hS', hc', fun b o e => ?_⟩
        have hb0 : b < s.heap.objs.size := Heap.lt_size e
        refine hm.heap b o ?_ (Heap.get?_push_of_some _ (up e))
        rw [hsz]
        simp only [List.mem_cons, List.not_mem_nil, or_false, not_or]
        exact ⟨Nat.ne_of_lt hb0, Nat.ne_of_lt (Nat.lt_succ_of_lt hb0)⟩
      · cases r₂ with
        | error e => exact hr₂
        | ok fl₂ =>
          cases fl₂ with
          | ret r =>
            obtain ⟨rfl, hf⟩ := hr₂
            obtain ⟨h', tk, c', e, hf'⟩ := id hf
            have hf2 : Filled w s ns s₂ := hf
            subst e
            repeat (any_goals (first | assumption | wp_step))
            exact h _ hf2
          | _ => exact hr₂.elim
    | _ => exact hr.elim
end
end VS
set_option Elab.async false
set_option linter.all false
set_option maxRecDepth 100000
set_option maxHeartbeats 2000000
/-! VsX: enumerate(tuple). -/
namespace VS
open PySem PySem.Spec PyProof.Rows L2

theorem meets_enum1 {v : Value} {o : Obj} {H : Heap → Prop} (B : Begins v o H) :
    Meets (Builtin.«enumerate.__new__» ⟨[.type "enumerate", v], []⟩) (fun _ R s => H s.heap ∧
      R (.ok (.ret (.ref (s.heap.push o).objs.size))) { s with heap := (s.heap.push o).push { cls := .type "enumerate", data := .fields #[.none, .bool false, .ref s.heap.objs.size, rawInt 0, .none, .none] } }) :=
  .of_wp fun prog w A R s h => by
    obtain ⟨hp, g, d, tk, os⟩ := s
    obtain ⟨h1, h⟩ := h
    have hsub := sub_enumerate
    have q1 : ∀ {A' : Around} {E : Value → Shared → Prop} {Q : Value → Shared → Prop}, Q (.ref hp.objs.size) ⟨hp.push o, g, d, tk, os⟩ → wpAny (model prog w) A' (pyIter v) Q E ⟨hp, g, d, tk, os⟩ :=
      fun q => B.iter prog w _ _ ⟨hp, g, d, tk, os⟩ _ h1 q
    wp_walk using q1
    refine wpAny_stack_any fun st => wpAny_pure ?_
    split
    · rename_i c _ _ _ _ _
      cases (c == Value.type "enumerate")
      · wp_walk using q1
        exact ⟨_, rfl, h⟩
      · wp_walk using q1
        exact ⟨_, rfl, h⟩
    · wp_walk using q1
      exact ⟨_, rfl, h⟩
section
variable {prog : Program} {w : World} {A : Around} {E : Value → Shared → Prop} {s : Shared}
theorem enum_of {v : Value} {o : Obj} {H : Heap → Prop} {Q : Value → Shared → Prop} (B : Begins v o H) (h1 : H s.heap)
    (h : ∀ h', IsEnum h' (s.heap.objs.size + 1) s.heap.objs.size 0 .none → h'.get? s.heap.objs.size = some o → (∀ b o, s.heap.get? b = some o → h'.get? b = some o) → Q (.ref (s.heap.objs.size + 1)) { s with heap := h' }) :
    wpAny (model prog w) A (call (.type "enumerate") [v]) Q E s := by
  refine callType_new F.called_enumerate (by decide) (F.typeCall_enumerate_1 _) (F.newCall_enumerate_1 _) (fun obj => F.args_object_init_2 obj _) F.entry_enumerate_new (meets_enum1 B) ⟨h1, ?_⟩
  have hz : (s.heap.push o).objs.size = s.heap.objs.size + 1 := Heap.size_push ..
  show _ ∧ _
  rw [hz]
  have he : IsEnum ((s.heap.push o).push { cls := .type "enumerate", data := .fields #[.none, .bool false, .ref s.heap.objs.size, rawInt 0, .none, .none] }) (s.heap.objs.size + 1) s.heap.objs.size 0 .none := by
    have := Heap.get?_push_size (s.heap.push o) (o := { cls := .type "enumerate", data := .fields #[.none, .bool false, .ref s.heap.objs.size, rawInt 0, .none, .none] }) rfl
    rw [hz] at this
    exact this
  exact ⟨⟨_, he, rfl⟩, h _ he (Heap.get?_push_of_some _ (Heap.get?_push_size _ B.free)) fun b o x => Heap.get?_push_of_some _ (Heap.get?_push_of_some _ x)⟩
end
/-- the tuple at a, each item in a new pair -/
def IteT (K : PySem.W.Frag) (a : Addr) : L2.It :=
  ⟨fun i H => ∃ (xs : List V) (x : V), SqT K H a xs ∧ xs[i]? = some x, fun i H v H' => ∃ T x, v = .ref T ∧ H T = none ∧ H' = upd H T (.tup [.int (i : Nat), x]) ∧ ∀ xs, SqT K H a xs → xs[i]? = some x, fun i H => ∃ xs : List V, SqT K H a xs ∧ xs.length ≤ i⟩
theorem turn_enumT {P : Program} {w : World} {K : PySem.W.Frag} {elts : List Expr} {kk : Nat} {tpos : Pos} (a e it : Addr) :
    Turn P w K (.Tuple elts kk tpos) (IteT K a) [e, it] e (fun i h => (∃ old, IsEnum h e it ((i : Nat) : Int) old) ∧ h.IsTupleIter it a i ∧ e ≠ it) where
  mem := by simp
  obj := fun i h st b hb => by
    obtain ⟨⟨old, he⟩, ⟨o, ho, hc, hd⟩, _⟩ := st
    have e' : b = e ∨ b = it := by simpa using hb
    rcases e' with z | z
    · rw [z]; exact ⟨_, he, fun v q => nomatch q⟩
    · rw [z]; exact ⟨o, ho, fun v q => by rw [hd] at q; cases q⟩
  keep := fun i h h' st k => let ⟨⟨old, he⟩, hi, hne⟩ := st; ⟨⟨old, k e (by simp) _ he⟩, hi.at fun o q => k it (by simp) o q, hne⟩
  item := by
    intro X hP hw hK hc i pins s σ H E I hf st hg
    subst hP hw hK
    obtain ⟨⟨old, he⟩, hit, hne⟩ := st
    obtain ⟨xs, x, hq, hx⟩ := hg
    obtain ⟨its, rv, p, hz⟩ := I.tuple hq
    obtain ⟨u, hu, ru⟩ := rv.get hx
    have hel : e < s.heap.objs.size := Heap.lt_size he
    have hil : it < s.heap.objs.size := by obtain ⟨_, q, _⟩ := hit; exact Heap.lt_size q
    have hae : a ≠ e := fun z => by
      obtain ⟨o, ho, hcl, _⟩ := p
      rw [z, show s.heap.get? e = _ from he] at ho
      cases ho
      exact absurd (Value.type.inj hcl) (by decide)
    have hai : a ≠ it := fun z => by
      obtain ⟨o, ho, hcl, _⟩ := p
      obtain ⟨o2, ho2, hcl2, _⟩ := hit
      rw [z, ho2] at ho
      cases ho
      rw [hcl2] at hcl
      exact absurd (Value.type.inj hcl) (by decide)
    have D := Draws.tuple (prog := X.prog) (w := X.w) (A := X.A.in1) (by show X.A.handled = none; exact I.ok.hd hc) it a hai its.toArray
    have hlt : i < its.toArray.size := by
      have := (List.getElem?_eq_some_iff.mp hu).1
      simpa using this
    refine wpAny_pyNext_enum_itemD D he ⟨hit, p⟩ hlt hne (by simp only [List.mem_cons, List.not_mem_nil, or_false, not_or]; exact ⟨hne, fun z => hae z.symm⟩) fun y h' tk hy ho hs' hT hsz hk => ?_
    have hy : u = y := by
      have hy : its[i]? = some y := by simpa using hy
      rw [hu] at hy
      exact Option.some.inj hy
    subst hy
    refine ⟨_, rfl, wpAny_letOwnedTupleGo_enum (s := { s with heap := h', toks := tk + 1 }) ho fun h'' he' sb => ?_⟩
    have hT2 : h''.get? s.heap.objs.size = some { cls := .type "tuple", data := .seq #[.int i tk, u] } := (sb.2 _ (Nat.ne_of_gt hel)).trans hT
    have new : ObjOk X.prog X.w (upd H s.heap.objs.size (.tup [.int (i : Nat), x])) h'' s.heap.objs.size (.tup [.int (i : Nat), x]) :=
      ⟨by show 2 ≤ sizeLine; decide, [.int i tk, u], .cons ⟨_, rfl⟩ (.cons ru .nil), ⟨_, hT2, rfl, _, rfl⟩⟩
    have I1 : Inv X pins σ (upd H s.heap.objs.size (.tup [.int (i : Nat), x])) { s with heap := h'', toks := tk + 1 } :=
      I.turnedNew (ch := [e, it]) (fun b ob hb q => (sb.2 b (fun z => hb (by simp [z]))).trans (hk b ob (fun z => hb (by simp [z])) (fun z => hb (by simp [z])) q)) hf (Nat.le_refl _) new
    refine ⟨.ref s.heap.objs.size, _, I1, rfl, ⟨_, x, rfl, I.hok.fresh (Nat.le_refl _), rfl, fun ys hy => by rw [I.tuple_inj hy hq]; exact hx⟩, ⟨⟨u, ?_⟩, hs'.1.at fun o q => (sb.2 it (Ne.symm hne)).trans q, hne⟩, fun b hb => ?_⟩
    · have e1 : ((i + 1 : Nat) : Int) = (i : Int) + 1 := by omega
      rw [e1]; exact he'
    · have hb' : b < s.heap.objs.size := by
        have e' : b = e ∨ b = it := by simpa using hb
        rcases e' with z | z
        · rw [z]; exact hel
        · rw [z]; exact hil
      rw [upd_ne (Nat.ne_of_lt hb')]
      exact (hf b hb).1
  done := by
    intro X hP hw hK hc i pins s σ H E I hf st hg
    subst hP hw hK
    obtain ⟨⟨old, he⟩, hit, hne⟩ := st
    obtain ⟨xs, hq, hx⟩ := hg
    obtain ⟨its, rv, p, hz⟩ := I.tuple hq
    obtain ⟨f0, f1, f2, f3, f4, f5⟩ := hf it (by simp)
    have hl := rv.length
    have hT : s.TypeIs (.ref e) "enumerate" := ⟨_, he, rfl⟩
    unfold pyNext
    refine wpAny_bind (wpAny_attempt (wpAny_callSpecial?_slot (name := Str.ofString "__next__") hT F.slot_enumerate_next
      (wpAny_call_entry F.slot_enumerate_next hT F.entry_enumerate_next ?_ (F.args_enumerate_next_1 _))))
    show wpAny _ _ (field (.ref e) 2 >>= _) _ _ _
    refine wpAny_bind (wpAny_field he rfl (x := .ref it) rfl ?_)
    refine wpAny_bind (wpAny_nextOf_tuple_end (by show X.A.handled = none; exact I.ok.hd hc) hit p (by simp; omega) fun h' x eb hx' => ?_)
    obtain ⟨o, ho, hc'⟩ := hx'
    refine wpAny_bind (wpAny_isInstance (T := "StopIteration") (b := true) ⟨o, ho, hc'⟩ isSubtype_stop ?_)
    exact wpAny_pure ⟨rfl, I.turned (t' := s.toks) (fun b o hb q => eb b o hb q) f0 f1 f3 f4 f5⟩
  self := fun A i s Q E st h => let ⟨⟨_, he⟩, _⟩ := st; wpAny_pyIter_enum he h
/-- enumerate of a list or a tuple -/
def iEnumA (K : PySem.W.Frag) (ta : TA) : TI := fun σ H R => ta σ H fun vs H1 => ∃ a xs, vs = [.ref a] ∧ ((SqL K H1 a xs ∧ R (Ite K a) H1) ∨ (SqT K H1 a xs ∧ R (IteT K a) H1))
theorem pi_enumA {X : Cx} {e : Expr} {ta : TA} {p pos tpos : Pos} {elts : List Expr} {kk : Nat} (hg : Gl X "enumerate") (hm : X.mg "enumerate" = none) (ha : PA X [e] ta) (hs : starEach [e] X.env = [(false, eval e X.env)]) :
    PI X (.Tuple elts kk tpos) (.Call (.Name "enumerate" p) [e] [] pos) (iEnumA X.K ta) := by
  refine ⟨fun pins s σ H R I h => ?_⟩
  refine Call_ (ld_blt I hg hm boot_enumerate (PyProof.Rows.callWith_type1 (thn (ha.run pos pins s σ H _ I h) fun us s1 ⟨vs, H1, I1, r1, q1⟩ => ?_) hs rfl))
  obtain ⟨a, xs, ex, q⟩ := q1
  subst ex
  cases r1 with
  | cons r rr =>
    cases rr
    cases r
    have fp : ∀ b ∈ [s1.heap.objs.size + 1, s1.heap.objs.size], FpOk X pins H1 b := fun b hb => by
      have e' : b = s1.heap.objs.size + 1 ∨ b = s1.heap.objs.size := by simpa using hb
      have hle : s1.heap.objs.size ≤ b := by
        rcases e' with z | z
        · rw [z]; exact Nat.le_add_right _ _
        · rw [z]; exact Nat.le_refl _
      exact I1.fpOk hle (I1.hok.fresh hle)
    rcases q with ⟨hq, q⟩ | ⟨hq, q⟩
    · obtain ⟨its, rv, p', hz⟩ := I1.list hq
      refine call_enumerate_list p'.isList fun h' he hit hsz hk => wpAny_pyIter_enum he ?_
      exact ⟨s1.heap.objs.size + 1, [s1.heap.objs.size + 1, s1.heap.objs.size], _, _, H1, rfl, I1.kept (t' := s1.toks) hk, turn_enum a (s1.heap.objs.size + 1) s1.heap.objs.size, ⟨⟨.none, he⟩, hit, Nat.succ_ne_self _⟩, fp, q⟩
    · obtain ⟨its, rv, p', hz⟩ := I1.tuple hq
      refine enum_of (begins_tuple a its.toArray) p' fun h' he ho hk => wpAny_pyIter_enum he ?_
      exact ⟨s1.heap.objs.size + 1, [s1.heap.objs.size + 1, s1.heap.objs.size], _, _, H1, rfl, I1.kept (t' := s1.toks) hk, turn_enumT a (s1.heap.objs.size + 1) s1.heap.objs.size, ⟨⟨.none, he⟩, ⟨_, ho, rfl, rfl⟩, Nat.succ_ne_self _⟩, fp, q⟩
theorem walk_enumT {K : PySem.W.Frag} {a : Addr} {xs : List V} : Walk (IteT K a) xs.length (fun H => SqT K H a xs) (YPair (fun i => some (.int (i : Nat))) (fun i => xs[i]?)) := by
  refine ⟨fun i _ hi q => ⟨xs, xs[i], q, by simp [hi]⟩, fun _ q => ⟨xs, q, Nat.le_refl _⟩, fun i H v H' _ q y => ?_⟩
  obtain ⟨T, x, h1, h2, h3, h4⟩ := y
  exact ⟨T, .int (i : Nat), x, h1, h2, h3, rfl, h4 xs q⟩
end VS
set_option Elab.async false
set_option linter.all false
set_option maxRecDepth 100000
/-! VsD: each operation by the layer's rule. -/
namespace VS
open PySem PySem.Spec PyProof.Rows L2

/-- an operation's answer: a value, or a new object -/
def Rn (c : Cf) (F : Addr → Prop) (H : Hp) (F' : Addr → Prop) (H' : Hp) (fr : Bool) (v : V) (d : D) : Prop :=
  if fr && d.isMut then ∃ a, v = .ref a ∧ ¬ F' a ∧ H a = none ∧ Own c F' H' a d else Rep c F' H' v d
inductive Shs (c : Cf) (F : Addr → Prop) (H : Hp) : List V → List D → Prop
  | nil : Shs c F H [] []
  | cons {v : V} {vs : List V} {d : D} {ds : List D} : Sh c F H v d → Shs c F H vs ds → Shs c F H (v :: vs) (d :: ds)
abbrev R1 := List V → Hp → VK → Prop
/-- the rule r serves the operation o -/
def Lk (c : Cf) (o : Op) (r : R1) : Prop := ∀ (F : Addr → Prop) (H : Hp) (vs : List V) (ds : List D) (d : D) (Q : VK), (∀ a, F a → H a ≠ none) → Shs c F H vs ds → sem o ds = some d →
  (∀ F' H' v, Alloc F H F' H' → Rn c F H F' H' o.fresh v d → Q v H') → r vs H Q
def r2 (r : R2) : R1 := fun vs H Q => match vs with
  | [x, y] => r x y H Q
  | _ => False
def r1 (r : V → Hp → VK → Prop) : R1 := fun vs H Q => match vs with
  | [x] => r x H Q
  | _ => False
theorem OpR.or {X : Cx} {f : Value → Value → Sem Value} {r r' : R2} (h : OpR X f r) (h' : OpR X f r') : OpR X f (fun x y H Q => r x y H Q ∨ r' x y H Q) := by
  intro pins s σ H x y v u Q I rx ry q
  rcases q with q | q
  · exact h pins s σ H x y v u Q I rx ry q
  · exact h' pins s σ H x y v u Q I rx ry q

section
variable {c : Cf} {F : Addr → Prop} {H : Hp}
theorem Shs.two {vs : List V} {ds : List D} (h : Shs c F H vs ds) (P : V → V → D → D → Prop) (k : ∀ v w d e, Sh c F H v d → Sh c F H w e → vs = [v, w] → ds = [d, e] → P v w d e) : vs.length = 2 → ∃ v w d e, vs = [v, w] ∧ ds = [d, e] ∧ Sh c F H v d ∧ Sh c F H w e := by
  intro hl
  cases h with
  | nil => simp at hl
  | cons a t => cases t with
    | nil => simp at hl
    | cons b t => cases t with
      | nil => exact ⟨_, _, _, _, rfl, rfl, a, b⟩
      | cons => simp at hl
/-- how many operands -/
def _root_.VS.Op.ar : Op → Nat
  | .neg | .len | .sum | .max1 | .min1 | .sorted | .tuple | .list | .abs | .int | .str | .all | .any | .isi _ | .rngL1 | .rngT1 | .rev | .sset | .lset => 1
  | .slc lo hi => 1 + (if lo then 1 else 0) + (if hi then 1 else 0)
  | _ => 2
theorem sem_ar : ∀ {o : Op} {ds : List D} {d : D}, sem o ds = some d → ds.length = o.ar := by
  intro o ds d h
  unfold sem at h
  split at h <;> first | rfl | (cases h)
/-- how a two-place operation is shown -/
theorem lk2 {o : Op} {r : R2} (hs : o.ar = 2)
    (h : ∀ F H v w d1 d2 d Q, (∀ a, F a → H a ≠ none) → Sh c F H v d1 → Sh c F H w d2 → sem o [d1, d2] = some d → (∀ F' H' v, Alloc F H F' H' → Rn c F H F' H' o.fresh v d → Q v H') → r v w H Q) : Lk c o (r2 r) := by
  intro F H vs ds d Q dom sh e q
  have hl := (sem_ar e).trans hs
  cases sh with
  | nil => simp at hl
  | cons a t => cases t with
    | nil => simp at hl
    | cons b t => cases t with
      | nil => exact h F H _ _ _ _ d Q dom a b e q
      | cons => simp at hl
theorem lk1 {o : Op} {r : R1} (hs : o.ar = 1)
    (h : ∀ F H v d1 d Q, (∀ a, F a → H a ≠ none) → Sh c F H v d1 → sem o [d1] = some d → (∀ F' H' v, Alloc F H F' H' → Rn c F H F' H' o.fresh v d → Q v H') → r [v] H Q) : Lk c o r := by
  intro F H vs ds d Q dom sh e q
  have hl := (sem_ar e).trans hs
  cases sh with
  | nil => simp at hl
  | cons a t => cases t with
    | nil => exact h F H _ _ d Q dom a e q
    | cons => simp at hl
theorem not_F {F : Addr → Prop} {H : Hp} (dom : ∀ a, F a → H a ≠ none) {p : Addr} (h : H p = none) : ¬ F p := fun f => dom p f h
theorem line_eq : lineN = sizeLine := by rw [sizeLine_eq]; rfl

/-- answers -/
theorem q_val {o : Op} {v : V} {d : D} {Q : VK} (n : d.isMut = false) (r : Rep c F H v d) (q : ∀ F' H' v, Alloc F H F' H' → Rn c F H F' H' o.fresh v d → Q v H') : Q v H :=
  q F H v Alloc.refl (by unfold Rn; rw [n, Bool.and_false]; exact r)
theorem q_tup {o : Op} {xs : List V} {ds : List D} {Q : VK} (dom : ∀ a, F a → H a ≠ none) (r : Reps c F H xs ds) (q : ∀ F' H' v, Alloc F H F' H' → Rn c F H F' H' o.fresh v (.tup ds) → Q v H') (p : Addr) (hp : H p = none) : Q (.ref p) (upd H p (.tup xs)) := by
  have al : Alloc F H (fun a => F a ∨ a = p) (upd H p (.tup xs)) := Alloc.pushF hp
  refine q _ _ _ al ?_
  unfold Rn
  rw [show (D.tup ds).isMut = false from rfl, Bool.and_false]
  exact .tup (.inr rfl) upd_same (r.ext (al.ext dom))
theorem q_lst {o : Op} {xs : List V} {ds : List D} {Q : VK} (dom : ∀ a, F a → H a ≠ none) (hf : o.fresh = true) (r : Reps c F H xs ds) (q : ∀ F' H' v, Alloc F H F' H' → Rn c F H F' H' o.fresh v (.lst ds) → Q v H') (p : Addr) (hp : H p = none) : Q (.ref p) (upd H p (.lst xs)) := by
  have al : Alloc F H F (upd H p (.lst xs)) := Alloc.push hp
  refine q _ _ _ al ?_
  unfold Rn
  rw [hf, show (D.lst ds).isMut = true from rfl]
  exact ⟨p, rfl, not_F dom hp, hp, .lst upd_same (r.ext (al.ext dom))⟩

/-! ### ints -/
theorem semII_some {f : Int → Int → Option D} {a b d : D} (h : semII f a b = some d) : ∃ i j, a = .int i ∧ b = .int j ∧ f i j = some d := by
  cases a <;> cases b <;> first | exact ⟨_, _, rfl, rfl, h⟩ | (simp [semII] at h)
theorem lk_II {o : Op} {f : Int → Int → Option D} {r : R2} (ho : ∀ a b, sem o [a, b] = semII f a b) (hs : o.ar = 2)
    (hr : ∀ i j d H Q, f i j = some d → (∃ z, d.isMut = false ∧ (∀ c F H, Rep c F H z d) ∧ (Q z H → r (.int i) (.int j) H Q))) : Lk c o (r2 r) :=
  lk2 hs fun F H v w d1 d2 d Q dom h1 h2 e q => by
    rw [ho] at e
    obtain ⟨i, j, rfl, rfl, e⟩ := semII_some e
    rw [h1.int, h2.int]
    obtain ⟨z, n, rz, k⟩ := hr i j d H Q e
    exact k (q_val n (rz c F H) q)
end


section
variable {c : Cf}
theorem lk_sub : Lk c .sub (r2 (rI0 fun i j => .int (i - j))) := lk_II (fun _ _ => rfl) rfl fun i j d H Q e => by
  cases e; exact ⟨_, rfl, fun _ _ _ => .int _, fun q => ⟨i, j, rfl, rfl, q⟩⟩
theorem lk_lt : Lk c .lt (r2 (rI0 fun i j => .bl (decide (i < j)))) := lk_II (fun _ _ => rfl) rfl fun i j d H Q e => by
  cases e; exact ⟨_, rfl, fun _ _ _ => .bl _, fun q => ⟨i, j, rfl, rfl, q⟩⟩
theorem lk_le : Lk c .le (r2 (rI0 fun i j => .bl (decide (i ≤ j)))) := lk_II (fun _ _ => rfl) rfl fun i j d H Q e => by
  cases e; exact ⟨_, rfl, fun _ _ _ => .bl _, fun q => ⟨i, j, rfl, rfl, q⟩⟩
theorem lk_gt : Lk c .gt (r2 (rI0 fun i j => .bl (decide (j < i)))) := lk_II (fun _ _ => rfl) rfl fun i j d H Q e => by
  cases e; exact ⟨_, rfl, fun _ _ _ => .bl _, fun q => ⟨i, j, rfl, rfl, q⟩⟩
theorem lk_ge : Lk c .ge (r2 (rI0 fun i j => .bl (decide (j ≤ i)))) := lk_II (fun _ _ => rfl) rfl fun i j d H Q e => by
  cases e; exact ⟨_, rfl, fun _ _ _ => .bl _, fun q => ⟨i, j, rfl, rfl, q⟩⟩
theorem lk_fdiv : Lk c .fdiv (r2 (rI CDivN fun i j => .int (i.fdiv j))) := lk_II (fun _ _ => rfl) rfl fun i j d H Q e => by
  split at e
  · rename_i h
    cases e
    simp only [Bool.and_eq_true, decide_eq_true_eq] at h
    exact ⟨_, rfl, fun _ _ _ => .int _, fun q => ⟨i, j, rfl, rfl, h, q⟩⟩
  · cases e
theorem lk_mod : Lk c .mod (r2 (rI (fun _ j => j ≠ 0) fun i j => .int (i.fmod j))) := lk_II (fun _ _ => rfl) rfl fun i j d H Q e => by
  split at e
  · cases e
  · rename_i h
    cases e
    exact ⟨_, rfl, fun _ _ _ => .int _, fun q => ⟨i, j, rfl, rfl, h, q⟩⟩
theorem lk_pow : Lk c .pow (r2 (rI CPow fun i j => .int (i ^ j.toNat))) := lk_II (fun _ _ => rfl) rfl fun i j d H Q e => by
  split at e
  · rename_i h
    cases e
    simp only [Bool.and_eq_true, decide_eq_true_eq] at h
    exact ⟨_, rfl, fun _ _ _ => .int _, fun q => ⟨i, j, rfl, rfl, ⟨h.1.1, h.1.2, h.2⟩, q⟩⟩
  · cases e
theorem lk_shl : Lk c .shl (r2 (rI CPow fun i j => .int (i * 2 ^ j.toNat))) := lk_II (fun _ _ => rfl) rfl fun i j d H Q e => by
  split at e
  · rename_i h
    cases e
    simp only [Bool.and_eq_true, decide_eq_true_eq] at h
    exact ⟨_, rfl, fun _ _ _ => .int _, fun q => ⟨i, j, rfl, rfl, ⟨h.1.1, h.1.2, h.2⟩, q⟩⟩
  · cases e
theorem lk_neg : Lk c .neg (r1 (rU fun i => .int (-i))) := lk1 rfl fun F H v d1 d Q dom h e q => by
  cases d1 with
  | int i =>
    cases e
    rw [h.int]
    exact ⟨i, rfl, q_val rfl (.int _) q⟩
  | _ => cases e
/-! ### + and * -/
def rAddI : R2 := rI0 fun i j => .int (i + j)
def rAddB : R2 := fun x y H Q => ∃ i k, x = .int i ∧ y = .bl k ∧ Q (.int (i + b2i k)) H
def rAddS : R2 := fun x y H Q => ∃ i j, x = .str i ∧ y = .str j ∧ i.length + j.length ≤ sizeLine ∧ Q (.str (i ++ j)) H
def rAddAll (K : PySem.W.Frag) : R2 := fun x y H Q => rAddI x y H Q ∨ rAddB x y H Q ∨ rAddS x y H Q ∨ rCatA K x y H Q ∨ rCat x y H Q
theorem or_add {X : Cx} : OpR X (binaryOp .Add) (rAddAll X.K) := OpR.or op_add (OpR.or op_add_ib (OpR.or op_add_str (OpR.or op_catA op_cat)))
theorem lk_add : Lk c .add (r2 (rAddAll c.K)) := lk2 rfl fun F H v w d1 d2 d Q dom h1 h2 e q => by
  have e : semAdd d1 d2 = some d := e
  cases d1 with
  | int i =>
    cases d2 with
    | int j =>
      cases e
      rw [h1.int, h2.int]
      exact .inl ⟨i, j, rfl, rfl, q_val rfl (.int _) q⟩
    | bl b =>
      cases e
      rw [h1.int, h2.bl]
      refine .inr (.inl ⟨i, b, rfl, rfl, q_val rfl ?_ q⟩)
      have z : i + b2i b = i + (if b = true then 1 else 0) := by cases b <;> rfl
      rw [z]
      exact .int _
    | _ => cases e
  | str x =>
    cases d2 with
    | str y =>
      simp only [semAdd] at e
      split at e
      · rename_i hl
        cases e
        rw [h1.str, h2.str]
        exact .inr (.inr (.inl ⟨x, y, rfl, rfl, by rw [← line_eq]; exact hl, q_val rfl (.str _) q⟩))
      · cases e
    | _ => cases e
  | tup xs =>
    cases d2 with
    | tup ys =>
      simp only [semAdd] at e
      split at e
      · rename_i hl
        cases e
        obtain ⟨a, us, rfl, sa, ra⟩ := h1.tup
        obtain ⟨b, ws, rfl, sb, rb⟩ := h2.tup
        refine .inr (.inr (.inr (.inl ⟨a, b, us, ws, rfl, rfl, sa, sb, by rw [ra.length, rb.length, ← line_eq]; exact hl, fun z => ?_, fun _ z => ?_, fun _ _ => q_tup dom (ra.append rb) q⟩)))
        · subst z
          cases ra
          rcases h2 with h2 | ⟨_, _, z⟩
          · exact q_val rfl h2 q
          · cases z
        · subst z
          cases rb
          rw [List.append_nil] at q
          rcases h1 with h1 | ⟨_, _, z⟩
          · exact q_val rfl h1 q
          · cases z
      · cases e
    | _ => cases e
  | lst xs =>
    cases d2 with
    | lst ys =>
      simp only [semAdd] at e
      split at e
      · rename_i hl
        cases e
        obtain ⟨a, us, rfl, sa, ra⟩ := h1.lst
        obtain ⟨b, ws, rfl, sb, rb⟩ := h2.lst
        exact .inr (.inr (.inr (.inr ⟨a, b, us, ws, rfl, rfl, sa, sb, by rw [ra.length, rb.length, ← line_eq]; exact hl, q_lst dom rfl (ra.append rb) q⟩)))
      · cases e
    | _ => cases e
  | _ => cases e
def rMulAll (K : PySem.W.Frag) : R2 := fun x y H Q => rI PySem.IntMulOk (fun i j => .int (i * j)) x y H Q ∨ rRepU K x y H Q ∨ rRep x y H Q
theorem op_mulAny {X : Cx} : OpR X (binaryOp .Mult) (rI PySem.IntMulOk fun i j => .int (i * j)) := opI fun _ _ _ _ _ _ _ hc q => mul_int q hc
theorem or_mul {X : Cx} : OpR X (binaryOp .Mult) (rMulAll X.K) := OpR.or op_mulAny (OpR.or op_repU op_rep)
theorem flat_one {α : Type} (xs : List α) : (List.replicate 1 xs).flatten = xs := by simp
theorem flat_nil {α : Type} (k : Nat) : (List.replicate k ([] : List α)).flatten = [] := by
  induction k with
  | zero => rfl
  | succ k ih => rw [List.replicate_succ, List.flatten_cons, ih] <;> rfl
theorem lk_mul : Lk c .mul (r2 (rMulAll c.K)) := lk2 rfl fun F H v w d1 d2 d Q dom h1 h2 e q => by
  have e : semMul d1 d2 = some d := e
  cases d1 with
  | int i =>
    cases d2 with
    | int j =>
      simp only [semMul] at e
      split at e
      · rename_i hm
        cases e
        rw [h1.int, h2.int]
        simp only [mulOk, Bool.or_eq_true, decide_eq_true_eq] at hm
        refine .inl ⟨i, j, rfl, rfl, ?_, q_val rfl (.int _) q⟩
        rcases hm with (hm | hm) | hm
        · exact CMul.ok (.inl ⟨by omega, by omega⟩)
        · exact CMul.ok (.inr ⟨by omega, by omega⟩)
        · exact CMulW.ok hm
      · cases e
    | _ => cases e
  | tup xs =>
    cases d2 with
    | int k =>
      simp only [semMul] at e
      split at e
      · rename_i hm
        cases e
        simp only [Bool.and_eq_true, decide_eq_true_eq] at hm
        obtain ⟨a, us, rfl, sa, ra⟩ := h1.tup
        rw [h2.int]
        refine .inr (.inl ⟨a, k, us, rfl, rfl, sa, hm.1.1, hm.1.2, by rw [ra.length, ← line_eq]; exact hm.2, fun z => ?_, fun _ _ => q_tup dom (ra.flat _) q⟩)
        have e1 : (List.replicate k.toNat xs).flatten = xs := by
          rcases z with z | z
          · subst z; cases ra; exact flat_nil _
          · subst z; exact flat_one _
        rw [e1] at q
        rcases h1 with h1 | ⟨_, _, z⟩
        · exact q_val rfl h1 q
        · cases z
      · cases e
    | _ => cases e
  | lst xs =>
    cases d2 with
    | int k =>
      simp only [semMul] at e
      split at e
      · rename_i hm
        cases e
        simp only [Bool.and_eq_true, decide_eq_true_eq] at hm
        obtain ⟨a, us, rfl, sa, ra⟩ := h1.lst
        rw [h2.int]
        exact .inr (.inr ⟨a, k, us, rfl, rfl, sa, hm.1.1, hm.1.2, by rw [ra.length, ← line_eq]; exact hm.2, q_lst dom rfl (ra.flat _) q⟩)
      · cases e
    | _ => cases e
  | _ => cases e
/-! ### comparisons of data -/
theorem lk_eq : Lk c .eq (r2 (rEqD c.K)) := lk2 rfl fun F H v w d1 d2 d Q dom h1 h2 e q => by
  simp only [sem] at e
  split at e
  · rename_i hf
    cases e
    simp only [Bool.and_eq_true] at hf
    exact ⟨d1.py, d2.py, h1.dp _ hf.1, h2.dp _ hf.2, fine_shaped hf.1, fine_shaped hf.2, by rw [eqv_py d1 d2 64 64 hf.1 hf.2]; exact q_val rfl (.bl _) q⟩
  · cases e
theorem lk_ne : Lk c .ne (r2 (rNeD c.K)) := lk2 rfl fun F H v w d1 d2 d Q dom h1 h2 e q => by
  simp only [sem] at e
  split at e
  · rename_i hf
    cases e
    simp only [Bool.and_eq_true] at hf
    exact ⟨d1.py, d2.py, h1.dp _ hf.1, h2.dp _ hf.2, fine_shaped hf.1, fine_shaped hf.2, by rw [eqv_py d1 d2 64 64 hf.1 hf.2]; exact q_val rfl (.bl _) q⟩
  · cases e
theorem fine_mono : ∀ {d : D} {n m : Nat}, n ≤ m → d.fine n = true → d.py.canLay0 = true ∧ d.py.depth ≤ m := fun {d n m} h f => by
  have := fine_py d n f
  exact ⟨this.1, by omega⟩
theorem shaped63 {d : D} (h : d.fine 63 = true) : SeqAt.shaped d.py = true := by
  have := fine_mono (m := 64) (by omega) h
  simp [SeqAt.shaped, this.1, this.2]
theorem shapedT {ds : List D} (h : D.fines ds 63 = true) : SeqAt.shaped (.tuple (D.pys ds)) = true := by
  have := fines_py ds 63 h
  have h2 : PyData.depth (.tuple (D.pys ds)) ≤ 64 := by simp only [PyData.depth]; omega
  simp [SeqAt.shaped, PyData.canLay0, this.1, h2]
def rInAll (K : PySem.W.Frag) : R2 := fun x y H Q => rInD K x y H Q ∨ rInT K false x y H Q
def rNinAll (K : PySem.W.Frag) : R2 := fun x y H Q => rNotInD K x y H Q ∨ rInT K true x y H Q
theorem or_in {X : Cx} (hu : X.A.units + 65 < cLine) : OpR X (compareOp .In) (rInAll X.K) := OpR.or (op_inD hu) (op_inT hu)
theorem or_nin {X : Cx} (hu : X.A.units + 65 < cLine) : OpR X (compareOp .NotIn) (rNinAll X.K) := OpR.or (op_notInD hu) (op_notInT hu)
theorem dpL {F : Addr → Prop} {H : Hp} {v : V} {ds : List D} (h : Sh c F H v (.lst ds)) (f : D.fines ds 63 = true) : Dp c.K H v (.list (D.pys ds)) := h.dp 64 (by simpa [D.fine] using f)
theorem dpT {F : Addr → Prop} {H : Hp} {v : V} {ds : List D} (h : Sh c F H v (.tup ds)) (f : D.fines ds 63 = true) : Dp c.K H v (.tuple (D.pys ds)) := h.dp 64 (by simpa [D.fine] using f)
theorem lk_inn : Lk c .inn (r2 (rInAll c.K)) := lk2 rfl fun F H v w d1 d2 d Q dom h1 h2 e q => by
  have e : (semIn d1 d2).map D.bl = some d := e
  cases d2 with
  | lst ds =>
    simp only [semIn] at e
    split at e
    · rename_i hf
      cases e
      simp only [Bool.and_eq_true] at hf
      exact .inl ⟨d1.py, D.pys ds, h1.dp _ hf.1, dpL h2 hf.2, shaped63 hf.1, fines_shaped hf.2, by rw [any_eqv hf.2 hf.1]; exact q_val rfl (.bl _) q⟩
    · cases e
  | tup ds =>
    simp only [semIn] at e
    split at e
    · rename_i hf
      cases e
      simp only [Bool.and_eq_true] at hf
      exact .inr ⟨d1.py, D.pys ds, h1.dp _ hf.1, dpT h2 hf.2, shaped63 hf.1, shapedT hf.2, by rw [if_neg (by decide), any_eqv hf.2 hf.1]; exact q_val rfl (.bl _) q⟩
    · cases e
  | _ => cases e
theorem lk_nin : Lk c .nin (r2 (rNinAll c.K)) := lk2 rfl fun F H v w d1 d2 d Q dom h1 h2 e q => by
  have e : (semIn d1 d2).map (fun k => D.bl !k) = some d := e
  cases d2 with
  | lst ds =>
    simp only [semIn] at e
    split at e
    · rename_i hf
      cases e
      simp only [Bool.and_eq_true] at hf
      exact .inl ⟨d1.py, D.pys ds, h1.dp _ hf.1, dpL h2 hf.2, shaped63 hf.1, fines_shaped hf.2, by rw [any_eqv hf.2 hf.1]; exact q_val rfl (.bl _) q⟩
    · cases e
  | tup ds =>
    simp only [semIn] at e
    split at e
    · rename_i hf
      cases e
      simp only [Bool.and_eq_true] at hf
      exact .inr ⟨d1.py, D.pys ds, h1.dp _ hf.1, dpT h2 hf.2, shaped63 hf.1, shapedT hf.2, by rw [if_pos rfl, any_eqv hf.2 hf.1]; exact q_val rfl (.bl _) q⟩
    · cases e
  | _ => cases e
theorem rep_non {F : Addr → Prop} {H : Hp} {v : V} {d : D} (h : Sh c F H v d) : decide (v = .non) = d.isNon := by
  rcases h with h | ⟨a, e, h⟩
  · cases h <;> rfl
  · subst e; cases h <;> rfl
theorem lk_isN : Lk c .isN (r2 fun x y H Q => y = .non ∧ Q (.bl (decide (x = .non))) H) := lk2 rfl fun F H v w d1 d2 d Q dom h1 h2 e q => by
  cases d2 with
  | non =>
    cases e
    exact ⟨h2.non, by rw [rep_non h1]; exact q_val rfl (.bl _) q⟩
  | _ => cases e
theorem lk_notN : Lk c .notN (r2 fun x y H Q => y = .non ∧ Q (.bl (!decide (x = .non))) H) := lk2 rfl fun F H v w d1 d2 d Q dom h1 h2 e q => by
  cases d2 with
  | non =>
    cases e
    exact ⟨h2.non, by rw [rep_non h1]; exact q_val rfl (.bl _) q⟩
  | _ => cases e
/-! ### items, slices -/
theorem reps_at {F : Addr → Prop} {H : Hp} {vs : List V} {ds : List D} {i : Int} {d : D} (r : Reps c F H vs ds) (e : atI ds i = some d) : ∃ v, atI vs i = some v ∧ Rep c F H v d := by
  unfold atI at e ⊢
  rw [r.length]
  cases q : ixN ds.length i with
  | none => rw [q] at e; cases e
  | some j =>
    rw [q] at e
    exact r.get (i := j) e
theorem lk_idx : Lk c .idx (r2 (rIx c.K)) := lk2 rfl fun F H v w d1 d2 d Q dom h1 h2 e q => by
  have fin : ∀ {v : V}, Rep c F H v d → Q v H := fun {v} r => q F H v Alloc.refl (by unfold Rn; rw [show Op.fresh .idx = false from rfl, Bool.false_and]; exact r)
  cases d1 with
  | tup xs =>
    cases d2 with
    | int i =>
      obtain ⟨a, us, rfl, sa, ra⟩ := h1.tup
      obtain ⟨v, e1, r⟩ := reps_at ra e
      rw [h2.int]
      exact .inr (.inl ⟨a, us, i, v, rfl, rfl, sa, e1, fin r⟩)
    | _ => cases e
  | lst xs =>
    cases d2 with
    | int i =>
      obtain ⟨a, us, rfl, sa, ra⟩ := h1.lst
      obtain ⟨v, e1, r⟩ := reps_at ra e
      rw [h2.int]
      exact .inl ⟨a, us, i, v, rfl, rfl, .inl (.inl sa), e1, fin r⟩
    | _ => cases e
  | _ => cases d2 <;> cases e
theorem reps_cut {F : Addr → Prop} {H : Hp} {vs : List V} {ds : List D} (lo hi : Option Int) (r : Reps c F H vs ds) : Reps c F H (cutV vs lo hi) (cutD ds lo hi) := by
  unfold cutV cutD
  rw [r.length]
  exact (r.drop _).take _
def rSlAll (K : PySem.W.Frag) : V → Option Int → Option Int → Hp → VK → Prop := fun x lo hi H Q => rSlA K x lo hi H Q ∨ rSlL K x lo hi H Q
theorem sl_all {X : Cx} : SlR X (rSlAll X.K) := SlR.or sl_tupA sl_list
theorem lk_slc {o : Op} (hf : o.fresh = true) {F : Addr → Prop} {H : Hp} {v : V} {a d : D} {lo hi : Option Int} {Q : VK} (dom : ∀ a, F a → H a ≠ none) (h : Sh c F H v a) (e : semSlc a lo hi = some d)
    (q : ∀ F' H' v, Alloc F H F' H' → Rn c F H F' H' o.fresh v d → Q v H') : rSlAll c.K v lo hi H Q := by
  cases a with
  | tup xs =>
    cases e
    obtain ⟨p, us, rfl, sa, ra⟩ := h.tup
    refine .inl ⟨p, us, rfl, sa, fun z => ?_, fun _ => q_tup dom (reps_cut lo hi ra) q⟩
    have e1 : cutD xs lo hi = xs := by
      unfold cutD
      rw [← ra.length, z.1, z.2, List.drop_zero, Nat.sub_zero, ra.length, List.take_length]
    rw [e1] at q
    rcases h with h1 | ⟨_, _, z⟩
    · exact q_val rfl h1 q
    · cases z
  | lst xs =>
    cases e
    obtain ⟨p, us, rfl, sa, ra⟩ := h.lst
    exact .inr ⟨p, us, rfl, .inl (.inl sa), q_lst dom hf (reps_cut lo hi ra) q⟩
  | _ => cases e
/-! ### built-in functions -/
def rLen (K : PySem.W.Frag) : R1 := fun xs H Q => ∃ x n, xs = [x] ∧ LenV K x H n ∧ Q (.int n) H
theorem lk_len : Lk c .len (rLen c.K) := lk1 rfl fun F H v d1 d Q dom h e q => by
  cases d1 with
  | tup xs =>
    cases e
    obtain ⟨p, us, rfl, sa, ra⟩ := h.tup
    exact ⟨_, us.length, rfl, .inr ⟨us, sa, rfl⟩, by rw [ra.length]; exact q_val rfl (.int _) q⟩
  | lst xs =>
    cases e
    obtain ⟨p, us, rfl, sa, ra⟩ := h.lst
    exact ⟨_, us.length, rfl, .inl ⟨us, .inl (.inl sa), rfl⟩, by rw [ra.length]; exact q_val rfl (.int _) q⟩
  | frl xs =>
    cases e
    obtain ⟨p, us, rfl, sa, ra⟩ := h.frl
    exact ⟨_, us.length, rfl, .inl ⟨us, sa, rfl⟩, by rw [ra.length]; exact q_val rfl (.int _) q⟩
  | _ => cases e
theorem lk_sum : Lk c .sum (rSum c.K) := lk1 rfl fun F H v d1 d Q dom h e q => by
  cases d1 with
  | lst xs =>
    have e : (D.ints xs).map (fun is => D.int is.sum) = some d := e
    cases z : D.ints xs with
    | none => rw [z] at e; cases e
    | some is =>
      rw [z] at e
      cases e
      obtain ⟨p, us, rfl, sa, ra⟩ := h.lst
      have := ra.ints z
      subst this
      exact ⟨p, is, rfl, .inl (.inl sa), q_val rfl (.int _) q⟩
  | _ => cases e
theorem maxI_ge : ∀ (xs : List Int) (m : Int), m ≤ maxI xs m ∧ (∀ x ∈ xs, x ≤ maxI xs m) ∧ (maxI xs m = m ∨ maxI xs m ∈ xs)
  | [], m => ⟨Int.le_refl _, (fun _ h => nomatch h), .inl rfl⟩
  | x :: xs, m => by
    unfold maxI
    by_cases hm : m < x
    · rw [if_pos hm]
      obtain ⟨h1, h2, h3⟩ := maxI_ge xs x
      refine ⟨by omega, fun y hy => ?_, ?_⟩
      · rcases List.mem_cons.mp hy with e | hy
        · rw [e]; exact h1
        · exact h2 y hy
      · rcases h3 with h3 | h3
        · rw [h3]; exact .inr List.mem_cons_self
        · exact .inr (List.mem_cons_of_mem _ h3)
    · rw [if_neg hm]
      obtain ⟨h1, h2, h3⟩ := maxI_ge xs m
      refine ⟨h1, fun y hy => ?_, ?_⟩
      · rcases List.mem_cons.mp hy with e | hy
        · rw [e]; omega
        · exact h2 y hy
      · rcases h3 with h3 | h3
        · exact .inl h3
        · exact .inr (List.mem_cons_of_mem _ h3)
theorem minI_le : ∀ (xs : List Int) (m : Int), minI xs m ≤ m ∧ (∀ x ∈ xs, minI xs m ≤ x) ∧ (minI xs m = m ∨ minI xs m ∈ xs)
  | [], m => ⟨Int.le_refl _, (fun _ h => nomatch h), .inl rfl⟩
  | x :: xs, m => by
    unfold minI
    by_cases hm : x < m
    · rw [if_pos hm]
      obtain ⟨h1, h2, h3⟩ := minI_le xs x
      refine ⟨by omega, fun y hy => ?_, ?_⟩
      · rcases List.mem_cons.mp hy with e | hy
        · rw [e]; exact h1
        · exact h2 y hy
      · rcases h3 with h3 | h3
        · rw [h3]; exact .inr List.mem_cons_self
        · exact .inr (List.mem_cons_of_mem _ h3)
    · rw [if_neg hm]
      obtain ⟨h1, h2, h3⟩ := minI_le xs m
      refine ⟨h1, fun y hy => ?_, ?_⟩
      · rcases List.mem_cons.mp hy with e | hy
        · rw [e]; omega
        · exact h2 y hy
      · rcases h3 with h3 | h3
        · exact .inl h3
        · exact .inr (List.mem_cons_of_mem _ h3)
theorem max_uniq {i : Int} {is : List Int} {m : Int} (h : m ∈ i :: is) (g : ∀ y ∈ i :: is, y ≤ m) : m = maxI is i := by
  obtain ⟨h1, h2, h3⟩ := maxI_ge is i
  have a : maxI is i ≤ m := by
    rcases h3 with h3 | h3
    · rw [h3]; exact g i List.mem_cons_self
    · exact g _ (List.mem_cons_of_mem _ h3)
  have b : m ≤ maxI is i := by
    rcases List.mem_cons.mp h with e | h
    · rw [e]; exact h1
    · exact h2 m h
  omega
theorem min_uniq {i : Int} {is : List Int} {m : Int} (h : m ∈ i :: is) (g : ∀ y ∈ i :: is, m ≤ y) : m = minI is i := by
  obtain ⟨h1, h2, h3⟩ := minI_le is i
  have a : m ≤ minI is i := by
    rcases h3 with h3 | h3
    · rw [h3]; exact g i List.mem_cons_self
    · exact g _ (List.mem_cons_of_mem _ h3)
  have b : minI is i ≤ m := by
    rcases List.mem_cons.mp h with e | h
    · rw [e]; exact h1
    · exact h2 m h
  omega
theorem lk_max1 : Lk c .max1 (rMax c.K) := lk1 rfl fun F H v d1 d Q dom h e q => by
  cases d1 with
  | lst xs =>
    have e : (match D.ints xs with | some (i :: is) => some (D.int (maxI is i)) | _ => none) = some d := e
    cases z : D.ints xs with
    | none => rw [z] at e; cases e
    | some is =>
      rw [z] at e
      cases is with
      | nil => cases e
      | cons i is =>
        cases e
        obtain ⟨p, us, rfl, sa, ra⟩ := h.lst
        have := ra.ints z
        subst this
        exact ⟨p, i :: is, rfl, .inl (.inl sa), by simp, fun m hm hg => by rw [max_uniq hm hg]; exact q_val rfl (.int _) q⟩
  | _ => cases e
theorem lk_min1 : Lk c .min1 (rMin c.K) := lk1 rfl fun F H v d1 d Q dom h e q => by
  cases d1 with
  | lst xs =>
    have e : (match D.ints xs with | some (i :: is) => some (D.int (minI is i)) | _ => none) = some d := e
    cases z : D.ints xs with
    | none => rw [z] at e; cases e
    | some is =>
      rw [z] at e
      cases is with
      | nil => cases e
      | cons i is =>
        cases e
        obtain ⟨p, us, rfl, sa, ra⟩ := h.lst
        have := ra.ints z
        subst this
        exact ⟨p, i :: is, rfl, .inl (.inl sa), by simp, fun m hm hg => by rw [min_uniq hm hg]; exact q_val rfl (.int _) q⟩
  | _ => cases e
def rMax2 : R1 := fun xs H Q => ∃ i j, xs = [.int i, .int j] ∧ Q (.int (if j > i then j else i)) H
def rMin2 : R1 := fun xs H Q => ∃ i j, xs = [.int i, .int j] ∧ Q (.int (if j < i then j else i)) H
theorem lk_max2 : Lk c .max2 rMax2 := fun F H vs ds d Q dom sh e q => by
  obtain ⟨v, w, d1, d2, rfl, rfl, h1, h2⟩ := Shs.two sh (fun _ _ _ _ => True) (fun _ _ _ _ _ _ _ _ => trivial) (by
    have : ∀ {vs : List V} {ds : List D}, Shs c F H vs ds → vs.length = ds.length := fun {vs ds} h => by induction h <;> simp_all
    rw [this sh, sem_ar e] <;> rfl)
  obtain ⟨i, j, rfl, rfl, e⟩ := semII_some e
  cases e
  rw [h1.int, h2.int]
  exact ⟨i, j, rfl, q_val rfl (.int _) q⟩
theorem lk_min2 : Lk c .min2 rMin2 := fun F H vs ds d Q dom sh e q => by
  obtain ⟨v, w, d1, d2, rfl, rfl, h1, h2⟩ := Shs.two sh (fun _ _ _ _ => True) (fun _ _ _ _ _ _ _ _ => trivial) (by
    have : ∀ {vs : List V} {ds : List D}, Shs c F H vs ds → vs.length = ds.length := fun {vs ds} h => by induction h <;> simp_all
    rw [this sh, sem_ar e] <;> rfl)
  obtain ⟨i, j, rfl, rfl, e⟩ := semII_some e
  cases e
  rw [h1.int, h2.int]
  exact ⟨i, j, rfl, q_val rfl (.int _) q⟩
/-! ### sorting -/
theorem insI_perm (x : Int) : ∀ ys : List Int, (insI x ys).Perm (x :: ys)
  | [] => List.Perm.refl _
  | y :: ys => by
    unfold insI
    split
    · exact List.Perm.refl _
    · exact ((insI_perm x ys).cons y).trans (List.Perm.swap x y ys)
theorem sortI_perm : ∀ xs : List Int, (sortI xs).Perm xs
  | [] => List.Perm.refl _
  | x :: xs => (insI_perm x _).trans ((sortI_perm xs).cons x)
theorem insI_sorted (x : Int) : ∀ ys : List Int, ys.Pairwise (· ≤ ·) → (insI x ys).Pairwise (· ≤ ·)
  | [], _ => by simp [insI]
  | y :: ys, h => by
    unfold insI
    obtain ⟨h1, h2⟩ := List.pairwise_cons.mp h
    split
    · rename_i hx
      refine List.pairwise_cons.mpr ⟨fun z hz => ?_, h⟩
      rcases List.mem_cons.mp hz with e | hz
      · rw [e]; exact hx
      · have := h1 z hz; omega
    · rename_i hx
      refine List.pairwise_cons.mpr ⟨fun z hz => ?_, insI_sorted x ys h2⟩
      rcases List.mem_cons.mp ((insI_perm x ys).mem_iff.mp hz) with e | hz
      · rw [e]; omega
      · exact h1 z hz
theorem sortI_sorted : ∀ xs : List Int, (sortI xs).Pairwise (· ≤ ·)
  | [] => List.Pairwise.nil
  | x :: xs => insI_sorted x _ (sortI_sorted xs)
theorem sort_uniq {ns ms xs : List Int} (h1 : ns.Perm xs) (s1 : ns.Pairwise (· ≤ ·)) (h2 : ms.Perm xs) (s2 : ms.Pairwise (· ≤ ·)) : ns = ms :=
  List.Perm.eq_of_pairwise (le := fun a b => a ≤ b) (fun a b _ _ x y => Int.le_antisymm x y) s1 s2 (h1.trans h2.symm)
def rSortedAll (K : PySem.W.Frag) : List V → Hp → VK → Prop := fun vs H Q => rSortedI K vs H Q ∨ rSortedT K vs H Q
theorem tints_some : ∀ {ds : List D} {ts : List (List Int)}, D.tints ds = some ts → ds = ts.map fun t => .tup (t.map D.int)
  | [], ts, h => by
    unfold D.tints at h
    cases h
    rfl
  | d :: ds, ts, h => by
    unfold D.tints at h
    cases d with
    | tup xs =>
      dsimp only at h
      cases z : D.ints xs with
      | none => rw [z] at h; cases h
      | some is =>
        rw [z] at h
        dsimp only at h
        cases y : D.tints ds with
        | none => rw [y] at h; cases h
        | some t =>
          rw [y] at h
          cases h
          rw [tints_some y, ints_map z]
          rfl
    | _ => cases h
theorem ints_int : ∀ is : List Int, D.ints (is.map D.int) = some is
  | [] => rfl
  | i :: is => by rw [List.map_cons]; unfold D.ints; rw [ints_int is]
theorem Reps.tups {F : Addr → Prop} {H : Hp} : ∀ {ts : List (List Int)} {vs : List V}, Reps c F H vs (ts.map fun t => .tup (t.map D.int)) → Paired (TupOf c.K H) vs ts
  | [], _, h => by cases h; exact .nil
  | t :: ts, _, h => by
    cases h with
    | cons r rs =>
      refine .cons ?_ (Reps.tups rs)
      obtain ⟨p, us, rfl, sa, ra⟩ := r.seqT
      have := ra.ints (ints_int t)
      subst this
      exact ⟨p, rfl, sa⟩
theorem Reps.zip {F : Addr → Prop} {H : Hp} : ∀ {ts : List (List Int)} {vs : List V}, Reps c F H vs (ts.map fun t => .tup (t.map D.int)) → ∀ z ∈ vs.zip ts, Rep c F H z.1 (.tup (z.2.map D.int))
  | [], _, h => by cases h; simp
  | t :: ts, _, h => by
    cases h with
    | cons r rs =>
      intro z hz
      rw [List.zip_cons_cons] at hz
      rcases List.mem_cons.mp hz with e | hz
      · rw [e]; exact r
      · exact Reps.zip rs z hz
theorem Reps.unzip {F : Addr → Prop} {H : Hp} : ∀ {zs : List (V × List Int)}, (∀ z ∈ zs, Rep c F H z.1 (.tup (z.2.map D.int))) → Reps c F H (zs.map Prod.fst) ((zs.map Prod.snd).map fun t => .tup (t.map D.int))
  | [], _ => .nil
  | z :: zs, h => .cons (h z List.mem_cons_self) (Reps.unzip fun y hy => h y (List.mem_cons_of_mem _ hy))
theorem lk_sorted : Lk c .sorted (rSortedAll c.K) := lk1 rfl fun F H v d1 d Q dom h e q => by
  cases d1 with
  | lst xs =>
    have e : semSort xs = some d := e
    obtain ⟨p, us, rfl, sa, ra⟩ := h.lst
    unfold semSort at e
    cases z : D.ints xs with
    | none =>
      rw [z] at e
      dsimp only at e
      cases y : D.tints xs with
      | none => rw [y] at e; cases e
      | some ts =>
        rw [y] at e
        dsimp only at e
        split at e
        · rename_i hc
          cases e
          rw [tints_some y] at ra
          have hp := ra.tups
          refine .inr ⟨p, us, ts, rfl, .inl (.inl sa), hp, fun h2 k hk e => ?_, fun zs p' h1 h2 hn => ?_⟩
          · rw [Bool.or_eq_true, decide_eq_true_eq, List.all_eq_true] at hc
            rcases hc with hc | hc
            · omega
            · have := hc k hk
              rw [e] at this
              cases this
          · have hl : us.length = ts.length := by rw [ra.length, List.length_map]
            have e3 : zs.map Prod.snd = sortT ts := sortT_uniq (by
              have q3 := h1.map Prod.snd
              rw [List.map_snd_zip (by omega)] at q3
              exact q3) h2
            have e4 : Reps c F H (zs.map Prod.fst) ((sortT ts).map fun t => .tup (t.map D.int)) := by
              rw [← e3]
              exact Reps.unzip fun z hz => Reps.zip ra z (h1.mem_iff.mp hz)
            exact q_lst dom rfl e4 q p' hn
        · cases e
    | some is =>
      rw [z] at e
      cases e
      have := ra.ints z
      subst this
      refine .inl ⟨p, is, rfl, .inl (.inl sa), fun ns' p' hp hs hn => ?_⟩
      rw [sort_uniq hp hs (sortI_perm is) (sortI_sorted is)]
      exact q_lst dom rfl (Reps.of_ints _) q p' hn
  | _ => cases e
/-! ### conversions -/
def rTupleOf (K : PySem.W.Frag) : R1 := fun xs H Q => ∃ p ys, xs = [.ref p] ∧ ((SqL K H p ys ∧ ∀ l, H l = none → Q (.ref l) (upd H l (.tup ys))) ∨ (SqT K H p ys ∧ Q (.ref p) H))
def rListOf (K : PySem.W.Frag) : R1 := fun xs H Q => ∃ p ys, xs = [.ref p] ∧ (SqL K H p ys ∨ SqT K H p ys) ∧ ∀ l, H l = none → Q (.ref l) (upd H l (.lst ys))
theorem lk_tuple : Lk c .tuple (rTupleOf c.K) := lk1 rfl fun F H v d1 d Q dom h e q => by
  cases d1 with
  | tup xs =>
    cases e
    obtain ⟨p, us, rfl, sa, ra⟩ := h.tup
    rcases h with h1 | ⟨_, _, z⟩
    · exact ⟨p, us, rfl, .inr ⟨sa, q_val rfl h1 q⟩⟩
    · cases z
  | lst xs =>
    cases e
    obtain ⟨p, us, rfl, sa, ra⟩ := h.lst
    exact ⟨p, us, rfl, .inl ⟨.inl (.inl sa), q_tup dom ra q⟩⟩
  | _ => cases e
theorem lk_list : Lk c .list (rListOf c.K) := lk1 rfl fun F H v d1 d Q dom h e q => by
  cases d1 with
  | tup xs =>
    cases e
    obtain ⟨p, us, rfl, sa, ra⟩ := h.tup
    exact ⟨p, us, rfl, .inr sa, q_lst dom rfl ra q⟩
  | lst xs =>
    cases e
    obtain ⟨p, us, rfl, sa, ra⟩ := h.lst
    exact ⟨p, us, rfl, .inl (.inl (.inl sa)), q_lst dom rfl ra q⟩
  | frl xs =>
    cases e
    obtain ⟨p, us, rfl, sa, ra⟩ := h.frl
    exact ⟨p, us, rfl, .inl sa, q_lst dom rfl ra q⟩
  | _ => cases e
def rAbs : R1 := fun xs H Q => ∃ i, xs = [.int i] ∧ Q (.int (if i < 0 then -i else i)) H
theorem lk_abs : Lk c .abs rAbs := lk1 rfl fun F H v d1 d Q dom h e q => by
  cases d1 with
  | int i => cases e; rw [h.int]; exact ⟨i, rfl, q_val rfl (.int _) q⟩
  | _ => cases e
def rInt1 : R1 := fun xs H Q => (∃ i, xs = [.int i] ∧ Q (.int i) H) ∨ ∃ k, xs = [.bl k] ∧ Q (.int (if k then 1 else 0)) H
theorem lk_int : Lk c .int rInt1 := lk1 rfl fun F H v d1 d Q dom h e q => by
  cases d1 with
  | int i => cases e; rw [h.int]; exact .inl ⟨i, rfl, q_val rfl (.int _) q⟩
  | bl k => cases e; rw [h.bl]; exact .inr ⟨k, rfl, q_val rfl (.int _) q⟩
  | _ => cases e
def rStr1 : R1 := fun xs H Q => ∃ i, xs = [.int i] ∧ i.natAbs.log2 < 1920 ∧ Q (.str (toString i)) H
theorem lk_str : Lk c .str rStr1 := lk1 rfl fun F H v d1 d Q dom h e q => by
  cases d1 with
  | int i =>
    simp only [sem] at e
    split at e
    · rename_i hl
      cases e; rw [h.int]; exact ⟨i, rfl, hl, q_val rfl (.str _) q⟩
    · cases e
  | _ => cases e
theorem lk_all : Lk c .all (rAll c.K) := lk1 rfl fun F H v d1 d Q dom h e q => by
  cases d1 with
  | lst xs =>
    have e : (D.bls xs).map (fun bs => D.bl (bs.all id)) = some d := e
    cases z : D.bls xs with
    | none => rw [z] at e; cases e
    | some is =>
      rw [z] at e
      cases e
      obtain ⟨p, us, rfl, sa, ra⟩ := h.lst
      have := ra.bls z
      subst this
      exact ⟨p, is, rfl, .inl (.inl sa), q_val rfl (.bl _) q⟩
  | _ => cases e
theorem lk_any : Lk c .any (rAny c.K) := lk1 rfl fun F H v d1 d Q dom h e q => by
  cases d1 with
  | lst xs =>
    have e : (D.bls xs).map (fun bs => D.bl (bs.any id)) = some d := e
    cases z : D.bls xs with
    | none => rw [z] at e; cases e
    | some is =>
      rw [z] at e
      cases e
      obtain ⟨p, us, rfl, sa, ra⟩ := h.lst
      have := ra.bls z
      subst this
      exact ⟨p, is, rfl, .inl (.inl sa), q_val rfl (.bl _) q⟩
  | _ => cases e
/-! ### isinstance -/
def Ty.nm : Ty → String
  | .int => "int"
  | .bool => "bool"
  | .str => "str"
  | .tuple => "tuple"
  | .list => "list"
theorem KTup.obj {K : PySem.W.Frag} {a : Addr} {xs : List V} (h : KTup K a xs) : ∃ o, K.lookup a = some o ∧ o.cls = .type "tuple" := by
  obtain ⟨o, _, _, h1, h2, _⟩ := h
  exact ⟨o, h1, h2⟩
theorem kit_all (t : Ty) : kitB "NoneType" t.nm = some false ∧ kitB "bool" t.nm = some (decide (t = .int) || decide (t = .bool)) ∧ kitB "int" t.nm = some (decide (t = .int)) ∧ kitB "str" t.nm = some (decide (t = .str)) ∧
    kitB "tuple" t.nm = some (decide (t = .tuple)) ∧ kitB "list" t.nm = some (decide (t = .list)) := by
  cases t <;> decide +kernel
theorem ty_of {F : Addr → Prop} {H : Hp} {v : V} {d : D} {t : Ty} {b : Bool} (h : Sh c F H v d) (e : isTy t d = some b) : ∃ n : String, TyX c.K H v (.type n) ∧ kitB n t.nm = some b := by
  have k := kit_all t
  cases d with
  | non =>
    have e : some false = some b := e
    rw [h.non, ← e]
    exact ⟨"NoneType", .base .non, k.1⟩
  | bl x =>
    have e : some (decide (t = .int) || decide (t = .bool)) = some b := e
    rw [h.bl, ← e]
    exact ⟨"bool", .base (.bl x), k.2.1⟩
  | int x =>
    have e : some (decide (t = .int)) = some b := e
    rw [h.int, ← e]
    exact ⟨"int", .base (.int x), k.2.2.1⟩
  | str x =>
    have e : some (decide (t = .str)) = some b := e
    rw [h.str, ← e]
    exact ⟨"str", .base (.str x), k.2.2.2.1⟩
  | tup xs =>
    have e : some (decide (t = .tuple)) = some b := e
    rw [← e]
    rcases h with h | ⟨_, _, z⟩
    · cases h with
      | tup f e r => exact ⟨"tuple", .base (.tup e), k.2.2.2.2.1⟩
      | ktup kk r =>
        obtain ⟨o, h1, h2⟩ := kk.obj
        exact ⟨"tuple", .kTuple h1 h2, k.2.2.2.2.1⟩
    · cases z
  | lst xs =>
    have e : some (decide (t = .list)) = some b := e
    rw [← e]
    obtain ⟨p, us, rfl, sa, ra⟩ := h.lst
    exact ⟨"list", .base (.lst sa), k.2.2.2.2.2⟩
  | _ => exact absurd e (by intro z; cases z)
/-- isinstance(x, T) -/
def rIsTyp (K : PySem.W.Frag) (n : String) : V → Hp → VK → Prop := fun x H Q => ∃ (t : String) (b : Bool), TyX K H x (.type t) ∧ kitB t n = some b ∧ Q (.bl b) H
theorem lk_isi (t : Ty) : Lk c (.isi t) (r1 (rIsTyp c.K t.nm)) := lk1 rfl fun F H v d1 d Q dom h e q => by
  have e : (isTy t d1).map D.bl = some d := e
  cases z : isTy t d1 with
  | none => rw [z] at e; cases e
  | some b =>
    rw [z] at e
    cases e
    obtain ⟨u, h1, h2⟩ := ty_of h z
    exact ⟨u, b, h1, h2, q_val rfl (.bl _) q⟩
end
end VS
set_option Elab.async false
set_option linter.all false
set_option maxRecDepth 100000
/-! VsE: readings by values; expressions. -/
namespace VS
open PySem PySem.Spec PyProof.Rows L2

/-- exceptions: the classes' addresses and their one field -/
structure Xf where
  cad : Nat → Addr
  fld : Nat → Option Str
def ExOk (x : Xf) (e : Ex) (cls : Value) (dd : Option Addr) (H : Hp) : Prop := cls = .ref (x.cad e.cls) ∧ match e.arg with
  | none => dd = none
  | some d => ∃ a f i, dd = some a ∧ d = .int i ∧ x.fld e.cls = some f ∧ H a = some (.xd [(f, .int i)])

section
variable (c : Cf) (xf : Xf) (B : Bs) (W : WX) (σ : L2.St)
def Post {α : Type} (F : Addr → Prop) (H : Hp) (k : α → En → (Addr → Prop) → Hp → Prop) : Out α → Prop
  | .ok a ρ => ∀ F' H', Ext F H F' H' → RSt c B F' ρ σ H' → k a ρ F' H'
  | .err e ρ => ∀ F' H' cls dd, Ext F H F' H' → RSt c B F' ρ σ H' → ExOk xf e cls dd H' → W cls dd σ H'
  | .bad => False
/-- an expression -/
def tV (fr : Bool) (m : En → Out D) : TE := fun σ H Q => ∃ F ρ, RSt c B F ρ σ H ∧ Post c xf B W σ F H (fun d ρ' F' H' => ∀ v, Rs c B F' ρ' σ H' fr v d → Q v H') (m ρ)
/-- a test -/
def tT (m : En → Out D) : TT := fun σ H Q => ∃ F ρ, RSt c B F ρ σ H ∧ Post c xf B W σ F H (fun d ρ' F' H' => ∃ b, d = .bl b ∧ Q b H') (m ρ)
def PdR (c : Cf) (F : Addr → Prop) (H : Hp) (σ : L2.St) (v : V) : Pd → Prop
  | .inl d => Rep c F H v d
  | .inr i => σ[i]? = some (some v)
inductive PdRs (c : Cf) (F : Addr → Prop) (H : Hp) (σ : L2.St) : List V → List Pd → Prop
  | nil : PdRs c F H σ [] []
  | cons {v : V} {vs : List V} {p : Pd} {ps : List Pd} : PdR c F H σ v p → PdRs c F H σ vs ps → PdRs c F H σ (v :: vs) (p :: ps)
/-- an operand -/
def tO (m : En → Out Pd) : TE := fun σ H Q => ∃ F ρ, RSt c B F ρ σ H ∧ Post c xf B W σ F H (fun p ρ' F' H' => ∀ v, PdR c F' H' σ v p → Q v H') (m ρ)
def tOs (m : En → Out (List Pd)) : TA := fun σ H Q => ∃ F ρ, RSt c B F ρ σ H ∧ Post c xf B W σ F H (fun p ρ' F' H' => ∀ v, PdRs c F' H' σ v p → Q v H') (m ρ)
/-- written items -/
def tVs (m : En → Out (List D)) : TA := fun σ H Q => ∃ F ρ, RSt c B F ρ σ H ∧ Post c xf B W σ F H (fun p ρ' F' H' => ∀ v, Reps c F' H' v p → Q v H') (m ρ)
end

section
variable {c : Cf} {xf : Xf} {B : Bs} {W : WX} {σ : L2.St} {F F' : Addr → Prop} {H H' : Hp} {ρ : En}
theorem Post.ext {α : Type} {k : α → En → (Addr → Prop) → Hp → Prop} {m : Out α} (x : Ext F H F' H') (h : Post c xf B W σ F H k m) : Post c xf B W σ F' H' k m := by
  cases m with
  | ok a ρ => exact fun F2 H2 y R => h F2 H2 (x.trans y) R
  | err e ρ => exact fun F2 H2 cls dd y R => h F2 H2 cls dd (x.trans y) R
  | bad => exact h
theorem Post.mono {α : Type} {k k' : α → En → (Addr → Prop) → Hp → Prop} {m : Out α} (h : Post c xf B W σ F H k m) (q : ∀ a ρ F' H', Ext F H F' H' → RSt c B F' ρ σ H' → k a ρ F' H' → k' a ρ F' H') : Post c xf B W σ F H k' m := by
  cases m with
  | ok a ρ => exact fun F2 H2 y R => q a ρ F2 H2 y R (h F2 H2 y R)
  | err e ρ => exact h
  | bad => exact h
theorem Post.to {α β : Type} {k : β → En → (Addr → Prop) → Hp → Prop} {m : Out α} {f : α → En → Out β} (h : Post c xf B W σ F H k (m.to f)) :
    Post c xf B W σ F H (fun a ρ' F' H' => Post c xf B W σ F' H' k (f a ρ')) m := by
  cases m with
  | ok a ρ => exact fun F2 H2 y R => h.ext y
  | err e ρ => exact h
  | bad => exact h
theorem Post.bind {α β : Type} {k : β → En → (Addr → Prop) → Hp → Prop} {k' : α → En → (Addr → Prop) → Hp → Prop} {m : Out α} {f : α → En → Out β} (h : Post c xf B W σ F H k (m.to f))
    (q : ∀ a ρ F' H', Ext F H F' H' → RSt c B F' ρ σ H' → Post c xf B W σ F' H' k (f a ρ) → k' a ρ F' H') : Post c xf B W σ F H k' m := h.to.mono q
/-- at once -/
theorem Post.here {α : Type} {k : α → En → (Addr → Prop) → Hp → Prop} {a : α} (h : Post c xf B W σ F H k (.ok a ρ)) (R : RSt c B F ρ σ H) : k a ρ F H := h F H (Ext.refl F H) R
theorem Post.at {α : Type} {k : α → En → (Addr → Prop) → Hp → Prop} {a : α} (h : Post c xf B W σ F H k (.ok a ρ)) (x : Ext F H F' H') (R : RSt c B F' ρ σ H') : k a ρ F' H' := h F' H' x R
end

section
variable {X : Cx} {e : Expr} {c : Cf} {xf : Xf} {B : Bs} {W : WX}
theorem _root_.L2.PE.imp {t t' : TE} (h : PE X e t) (w : ∀ σ H Q, t' σ H Q → t σ H Q) : PE X e t' := ⟨fun pins s σ H Q I q => h.run pins s σ H Q I (w σ H Q q)⟩
theorem _root_.L2.PT.imp {t t' : TT} (h : PT X e t) (w : ∀ σ H Q, t' σ H Q → t σ H Q) : PT X e t' := ⟨fun pins s σ H Q I q => h.run pins s σ H Q I (w σ H Q q)⟩
theorem _root_.L2.PA.imp {es : List Expr} {t t' : TA} (h : PA X es t) (w : ∀ σ H Q, t' σ H Q → t σ H Q) : PA X es t' := ⟨fun pos pins s σ H Q I q => h.run pos pins s σ H Q I (w σ H Q q)⟩
theorem _root_.L2.PS.imp {st : Stmt} {t t' : TS} (h : PS X st t) (w : ∀ D σ H, t' D σ H → t D σ H) : PS X st t' := ⟨fun pins s σ H D I q => h.run pins s σ H D I (w D σ H q)⟩
theorem _root_.L2.PSs.imp {st : List Stmt} {t t' : TS} (h : PSs X st t) (w : ∀ D σ H, t' D σ H → t D σ H) : PSs X st t' := ⟨fun pins s σ H D I q => h.run pins s σ H D I (w D σ H q)⟩
theorem _root_.L2.PG.imp {t t' : TG} (h : PG X e t) (w : ∀ v σ H Q, t' v σ H Q → t v σ H Q) : PG X e t' := ⟨fun pins s σ H v u Q I r q => h.run pins s σ H v u Q I r (w v σ H Q q)⟩
theorem _root_.L2.PI.imp {tg : Expr} {t t' : TI} (h : PI X tg e t) (w : ∀ σ H Q, t' σ H Q → t σ H Q) : PI X tg e t' := ⟨fun pins s σ H Q I q => h.run pins s σ H Q I (w σ H Q q)⟩
/-- an answer that is kept -/
theorem Post.frz {σ : L2.St} {F : Addr → Prop} {H : Hp} {Q : VK} {fr : Bool} {m : Out D} (h : Post c xf B W σ F H (fun d ρ' F' H' => ∀ v, Rs c B F' ρ' σ H' false v d → Q v H') m) :
    Post c xf B W σ F H (fun d ρ' F' H' => ∀ v, Rs c B F' ρ' σ H' fr v d → Q v H') m := by
  cases m with
  | ok d ρ =>
    intro F2 H2 y R v r
    obtain ⟨F3, x, R3, r3⟩ := r.freeze R
    exact h F3 H2 (y.trans x) R3 v (Rs.rep r3 (Bool.false_and _))
  | err e ρ => exact h
  | bad => exact h
theorem tV.frozen {fr : Bool} {m : En → Out D} (h : PE X e (tV c xf B W fr m)) : PE X e (tV c xf B W false m) := h.imp fun σ H Q ⟨F, ρ, R, p⟩ => ⟨F, ρ, R, p.frz⟩
theorem Rs.val {F : Addr → Prop} {ρ : En} {σ : L2.St} {H : Hp} {v : V} {d : D} (h : Rs c B F ρ σ H false v d) : Rep c F H v d := h
/-! ### operands -/
theorem pdr_ext {σ : L2.St} {F F' : Addr → Prop} {H H' : Hp} {v : V} {p : Pd} (x : Ext F H F' H') (h : PdR c F H σ v p) : PdR c F' H' σ v p := by
  cases p with
  | inl d => exact Rep.ext x h
  | inr i => exact h
theorem PdRs.ext {σ : L2.St} {F F' : Addr → Prop} {H H' : Hp} (x : Ext F H F' H') : ∀ {vs : List V} {ps : List Pd}, PdRs c F H σ vs ps → PdRs c F' H' σ vs ps
  | _, _, .nil => .nil
  | _, _, .cons r t => .cons (pdr_ext x r) (t.ext x)
/-- what is looked at when the operation is done -/
theorem pd_sh {σ : L2.St} {F : Addr → Prop} {H : Hp} {ρ : En} {v : V} {p : Pd} {d : D} (R : RSt c B F ρ σ H) (h : PdR c F H σ v p) (e : Pd.get ρ p = some d) : Sh c F H v d := by
  cases p with
  | inl d' => cases e; exact .inl h
  | inr i =>
    have e : (match ρ[i]? with | some s => s.get? | none => none) = some d := e
    cases q : ρ[i]? with
    | none => rw [q] at e; cases e
    | some s =>
      rw [q] at e
      have h : σ[i]? = some (some v) := h
      have sl := R.sl i s q
      rw [h] at sl
      cases s with
      | no => cases e
      | val d' =>
        cases e
        obtain ⟨u, h1, h2⟩ := sl
        cases h1
        exact .inl h2
      | own d' =>
        cases e
        obtain ⟨a, h1, h2, h3, h4⟩ := sl
        cases h1
        exact .inr ⟨a, rfl, h4⟩
      | io d' =>
        cases e
        obtain ⟨a, h1, h2, h3, h4⟩ := sl
        cases h1
        exact .inr ⟨a, rfl, h4⟩
theorem pds_shs {σ : L2.St} {F : Addr → Prop} {H : Hp} {ρ : En} (R : RSt c B F ρ σ H) : ∀ {vs : List V} {ps : List Pd} {ds : List D}, PdRs c F H σ vs ps → Pds.get ρ ps = some ds → Shs c F H vs ds
  | _, _, ds, .nil, e => by
    have : ds = [] := by simpa [Pds.get] using e.symm
    subst this; exact .nil
  | _, p :: ps, ds, .cons r t, e => by
    simp only [Pds.get] at e
    split at e
    · rename_i d ds' e1 e2
      cases e
      exact .cons (pd_sh R r e1) (pds_shs R t e2)
    · cases e
/-- an operation's answer in the state -/
theorem rn_rs {σ : L2.St} {F F' : Addr → Prop} {H H' : Hp} {ρ : En} {fr : Bool} {v : V} {d : D} (R : RSt c B F ρ σ H) (al : Alloc F H F' H') (h : Rn c F H F' H' fr v d) : Rs c B F' ρ σ H' fr v d := by
  unfold Rn at h
  unfold Rs
  split at h
  · rename_i hm
    rw [if_pos hm]
    obtain ⟨a, rfl, na, an, o⟩ := h
    refine ⟨a, rfl, na, ?_, o, fun i s e m z => ?_⟩
    · cases q : B.H a with
      | none => rfl
      | some u => exact absurd an (R.live a (by rw [q]; simp))
    · obtain ⟨b, d', _, h2, _, _, h5⟩ := R.ownAt e m
      rw [z] at h2
      cases h2
      exact h5.dom an
  · rename_i hm
    rw [if_neg hm]
    exact h
/-- the operation is done -/
theorem op_done {σ : L2.St} {F : Addr → Prop} {H : Hp} {ρ : En} {o : Op} {r : R1} {vs : List V} {ps : List Pd} {Q : VK} (lk : Lk c o r) (R : RSt c B F ρ σ H) (pr : PdRs c F H σ vs ps)
    (h : Post c xf B W σ F H (fun d ρ' F' H' => ∀ v, Rs c B F' ρ' σ H' o.fresh v d → Q v H') (opD o ps ρ)) : r vs H Q := by
  unfold opD at h
  cases e1 : Pds.get ρ ps with
  | none => rw [e1] at h; exact h.elim
  | some ds =>
    rw [e1] at h
    cases e2 : sem o ds with
    | none => simp only [e2] at h; exact h.elim
    | some d =>
      simp only [e2] at h
      exact lk F H vs ds d Q R.dom (pds_shs R pr e1) e2 fun F' H' v al rn => h F' H' (al.ext R.dom) (R.alloc al) v (rn_rs R al rn)
/-- pending operands by a match -/
def opnd (f : E → En → Out D) (e : E) (ρ : En) : Out Pd := match e with
  | .pk i => pkD i ρ
  | _ => (f e ρ).to fun d ρ => .ok (.inl d) ρ
theorem pe_opnd_var {i : Nat} {x : Expr} (h : PE X x (tVar i)) : PE X x (tO c xf B W (pkD i)) := h.imp fun σ H Q ⟨F, ρ, R, p⟩ => by
  unfold pkD at p
  cases e : ρ[i]? with
  | none => rw [e] at p; exact p.elim
  | some s =>
    rw [e] at p
    have sl := R.sl i s e
    cases s with
    | no => exact p.elim
    | val d => obtain ⟨v, h1, _⟩ := sl; exact ⟨v, h1, p.here R v h1⟩
    | own d => obtain ⟨a, h1, _⟩ := sl; exact ⟨_, h1, p.here R _ h1⟩
    | io d => obtain ⟨a, h1, _⟩ := sl; exact ⟨_, h1, p.here R _ h1⟩
theorem pe_opnd_val {x : Expr} {m : En → Out D} (h : PE X x (tV c xf B W false m)) : PE X x (tO c xf B W (fun ρ => (m ρ).to fun d ρ => .ok (.inl d) ρ)) := h.imp fun σ H Q ⟨F, ρ, R, p⟩ =>
  ⟨F, ρ, R, p.bind fun d ρ' F' H' x R' k v r => k.here R' v r⟩
/-! ### forms of operations -/
variable {a b : Expr} {pos : Pos} {ma mb mc : En → Out Pd} {o o' : Op}
theorem pe_bin {opr : Operator} {r : R2} (ho : OpR X (binaryOp opr) r) (lk : Lk c o (r2 r)) (ha : PE X a (tO c xf B W ma)) (hb : PE X b (tO c xf B W mb)) :
    PE X (.BinOp a opr b pos) (tV c xf B W o.fresh (fun ρ => (ma ρ).to fun x ρ => (mb ρ).to fun y ρ => opD o [x, y] ρ)) := (pe_op ho ha hb).imp fun σ H Q ⟨F, ρ, R, p⟩ =>
  ⟨F, ρ, R, p.bind fun x ρ1 F1 H1 e1 R1 p1 v rv => ⟨F1, ρ1, R1, p1.bind fun y ρ2 F2 H2 e2 R2 p2 w rw => op_done lk R2 (.cons (pdr_ext e2 rv) (.cons rw .nil)) p2⟩⟩
theorem pe_cmpO {op : CmpOp} {r : R2} (ho : OpR X (compareOp op) r) (lk : Lk c o (r2 r)) (ha : PE X a (tO c xf B W ma)) (hb : PE X b (tO c xf B W mb)) (hm : behindInMarks op b = false) :
    PE X (.Compare a [op] [b] pos) (tV c xf B W o.fresh (fun ρ => (ma ρ).to fun x ρ => (mb ρ).to fun y ρ => opD o [x, y] ρ)) := (pe_cmpR ho ha hb hm).imp fun σ H Q ⟨F, ρ, R, p⟩ =>
  ⟨F, ρ, R, p.bind fun x ρ1 F1 H1 e1 R1 p1 v rv => ⟨F1, ρ1, R1, p1.bind fun y ρ2 F2 H2 e2 R2 p2 w rw => op_done lk R2 (.cons (pdr_ext e2 rv) (.cons rw .nil)) p2⟩⟩
/-- a test's answer is a bool -/
theorem q_bool {σ : L2.St} {F : Addr → Prop} {H : Hp} {fr : Bool} {m : Out D} {Q : Bool → Hp → Prop} (h : Post c xf B W σ F H (fun d ρ' F' H' => ∃ b, d = .bl b ∧ Q b H') m) :
    Post c xf B W σ F H (fun d ρ' F' H' => ∀ v, Rs c B F' ρ' σ H' fr v d → ∃ k, v = .bl k ∧ Q k H') m := h.mono fun d ρ' F' H' _ _ ⟨k, e, q⟩ v r => by
  subst e
  unfold Rs at r
  rw [show (D.bl k).isMut = false from rfl, Bool.and_false, if_neg (by decide)] at r
  cases r
  exact ⟨k, rfl, q⟩
theorem pt_of {fr : Bool} {m : En → Out D} (h : PE X e (tV c xf B W fr m)) (hv : ∀ t, PE X e t → PT X e (tTest t)) : PT X e (tT c xf B W m) := (hv _ h).imp fun σ H Q ⟨F, ρ, R, p⟩ => ⟨F, ρ, R, q_bool p⟩
theorem pe_unO {op : UnaryOp} {r : V → Hp → VK → Prop} (ho : UnR X (unaryOp op) r) (lk : Lk c o (r1 r)) (ha : PE X a (tO c xf B W ma)) :
    PE X (.UnaryOp op a pos) (tV c xf B W o.fresh (fun ρ => (ma ρ).to fun x ρ => opD o [x] ρ)) := (pe_un ho ha).imp fun σ H Q ⟨F, ρ, R, p⟩ =>
  ⟨F, ρ, R, p.bind fun x ρ1 F1 H1 e1 R1 p1 v rv => op_done lk R1 (.cons rv .nil) p1⟩
theorem pe_ixO {r : R2} (hr : IxR X r) (lk : Lk c o (r2 r)) (ha : PE X a (tO c xf B W ma)) (hb : PE X b (tO c xf B W mb)) (hs : PlainIx b) :
    PE X (.Subscript a b pos) (tV c xf B W o.fresh (fun ρ => (ma ρ).to fun x ρ => (mb ρ).to fun y ρ => opD o [x, y] ρ)) := (pe_ix hr ha hb hs).imp fun σ H Q ⟨F, ρ, R, p⟩ =>
  ⟨F, ρ, R, p.bind fun x ρ1 F1 H1 e1 R1 p1 v rv => ⟨F1, ρ1, R1, p1.bind fun y ρ2 F2 H2 e2 R2 p2 w rw => op_done lk R2 (.cons (pdr_ext e2 rv) (.cons rw .nil)) p2⟩⟩
/-- a built-in function by its name -/
theorem pe_bfun {x : Str} {p pos : Pos} {id : String} {r : R1} {es : List Expr} {m : En → Out (List Pd)} (hc : CallR X (.builtin id) r) (lk : Lk c o r) (hg : Gl X x) (hm : X.mg x = none) (hv : bootBuiltins x = some (.builtin id)) (ha : PA X (e :: es) (tOs c xf B W m))
    (hn : x ≠ "__name__") (hdb : (x == ("__debug__" : Str)) = false)
    (he : starEach (e :: es) X.env = (false, eval e X.env) :: starEach es X.env) (hpl : (backTo pos (starEach es X.env)).any (·.1) = false) : PE X (.Call (.Name x p) (e :: es) [] pos) (tV c xf B W o.fresh (fun ρ => (m ρ).to fun ps ρ => opD o ps ρ)) :=
  (pe_callB hc hg hm hv ha hn hdb he hpl).imp fun σ H Q ⟨F, ρ, R, p⟩ => ⟨F, ρ, R, p.bind fun ps ρ1 F1 H1 e1 R1 p1 vs rv => op_done lk R1 rv p1⟩
theorem pe_bty {x : Str} {p pos : Pos} {id : String} {r : R1} {es : List Expr} {m : En → Out (List Pd)} (hc : CallR X (.type id) r) (lk : Lk c o r) (hg : Gl X x) (hm : X.mg x = none) (hv : bootBuiltins x = some (.type id)) (ha : PA X (e :: es) (tOs c xf B W m))
    (hn : x ≠ "__name__") (hdb : (x == ("__debug__" : Str)) = false)
    (he : starEach (e :: es) X.env = (false, eval e X.env) :: starEach es X.env) (hpl : (backTo pos (starEach es X.env)).any (·.1) = false) : PE X (.Call (.Name x p) (e :: es) [] pos) (tV c xf B W o.fresh (fun ρ => (m ρ).to fun ps ρ => opD o ps ρ)) :=
  (pe_callTy hc hg hm hv ha hn hdb he hpl).imp fun σ H Q ⟨F, ρ, R, p⟩ => ⟨F, ρ, R, p.bind fun ps ρ1 F1 H1 e1 R1 p1 vs rv => op_done lk R1 rv p1⟩
/-! ### lists of operands, of items -/
theorem pa_onil : PA X [] (tOs c xf B W (fun ρ => .ok [] ρ)) := pa_nil.imp fun σ H Q ⟨F, ρ, R, p⟩ => p.here R [] .nil
theorem pa_ocons {es : List Expr} {m : En → Out (List Pd)} (ha : PE X e (tO c xf B W ma)) (hr : PA X es (tOs c xf B W m)) (hs : starEach (e :: es) X.env = (false, eval e X.env) :: starEach es X.env) :
    PA X (e :: es) (tOs c xf B W (fun ρ => (ma ρ).to fun d ρ => (m ρ).to fun ds ρ => .ok (d :: ds) ρ)) := (pa_cons ha hr hs).imp fun σ H Q ⟨F, ρ, R, p⟩ =>
  ⟨F, ρ, R, p.bind fun x ρ1 F1 H1 e1 R1 p1 v rv => ⟨F1, ρ1, R1, p1.bind fun y ρ2 F2 H2 e2 R2 p2 w rw => p2.here R2 _ (.cons (pdr_ext e2 rv) rw)⟩⟩
theorem pa_vnil : PA X [] (tVs c xf B W (fun ρ => .ok [] ρ)) := pa_nil.imp fun σ H Q ⟨F, ρ, R, p⟩ => p.here R [] .nil
theorem pa_vcons {es : List Expr} {m : En → Out (List D)} {me : En → Out D} (ha : PE X e (tV c xf B W false me)) (hr : PA X es (tVs c xf B W m)) (hs : starEach (e :: es) X.env = (false, eval e X.env) :: starEach es X.env) :
    PA X (e :: es) (tVs c xf B W (fun ρ => (me ρ).to fun d ρ => (m ρ).to fun ds ρ => .ok (d :: ds) ρ)) := (pa_cons ha hr hs).imp fun σ H Q ⟨F, ρ, R, p⟩ =>
  ⟨F, ρ, R, p.bind fun x ρ1 F1 H1 e1 R1 p1 v rv => ⟨F1, ρ1, R1, p1.bind fun y ρ2 F2 H2 e2 R2 p2 w rw => p2.here R2 _ (.cons (rv.val.ext e2) rw)⟩⟩
/-- as many as are written -/
def Len (n : Nat) (m : En → Out (List D)) : Prop := ∀ ρ ds ρ', m ρ = .ok ds ρ' → ds.length = n
theorem pe_tupE {es : List Expr} {k : Nat} {m : En → Out (List D)} (h : PA X es (tVs c xf B W m)) (hl : ∀ ρ ds ρ', m ρ = .ok ds ρ' → ds.length ≤ sizeLine) :
    PE X (.Tuple es k pos) (tV c xf B W false (fun ρ => (m ρ).to fun ds ρ => .ok (.tup ds) ρ)) := (pe_tup h).imp fun σ H Q ⟨F, ρ, R, p⟩ => ⟨F, ρ, R, by
  cases q : m ρ with
  | ok ds ρ1 =>
    dsimp only at p
    rw [q] at p
    intro F1 H1 x R1 vs rv
    refine ⟨by rw [rv.length]; exact hl ρ ds ρ1 q, fun a ha => ?_⟩
    have al : Alloc F1 H1 (fun b => F1 b ∨ b = a) (upd H1 a (.tup vs)) := Alloc.pushF ha
    exact p _ _ (x.trans (al.ext R1.dom)) (R1.alloc al) _ (.tup (.inr rfl) upd_same (rv.ext (al.ext R1.dom)))
  | err e ρ1 => dsimp only at p; rw [q] at p; exact p
  | bad => dsimp only at p; rw [q] at p; exact p⟩
theorem pe_lstE {es : List Expr} {m : En → Out (List D)} (h : PA X es (tVs c xf B W m)) (hl : ∀ ρ ds ρ', m ρ = .ok ds ρ' → ds.length ≤ sizeLine) :
    PE X (.List es pos) (tV c xf B W true (fun ρ => (m ρ).to fun ds ρ => .ok (.lst ds) ρ)) := (pe_lst h).imp fun σ H Q ⟨F, ρ, R, p⟩ => ⟨F, ρ, R, by
  cases q : m ρ with
  | ok ds ρ1 =>
    dsimp only at p
    rw [q] at p
    intro F1 H1 x R1 vs rv
    refine ⟨by rw [rv.length]; exact hl ρ ds ρ1 q, fun a ha => ?_⟩
    have al : Alloc F1 H1 F1 (upd H1 a (.lst vs)) := Alloc.push ha
    exact p _ _ (x.trans (al.ext R1.dom)) (R1.alloc al) _ (rn_rs R1 al (show Rn c F1 H1 F1 (upd H1 a (.lst vs)) true (.ref a) (.lst ds) from ⟨a, rfl, not_F R1.dom ha, ha, .lst upd_same (rv.ext (al.ext R1.dom))⟩))
  | err e ρ1 => dsimp only at p; rw [q] at p; exact p
  | bad => dsimp only at p; rw [q] at p; exact p⟩
/-! ### names, constants -/
theorem pe_cstE {d : D} {v : V} (h : PE X e (tC v)) (r : ∀ F H, Rep c F H v d) (fr : Bool) (n : (fr && d.isMut) = false) : PE X e (tV c xf B W fr (fun ρ => .ok d ρ)) := h.imp fun σ H Q ⟨F, ρ, R, p⟩ => p.here R v (Rs.rep (r F H) n)
theorem pe_varE {i : Nat} (h : PE X e (tVar i)) : PE X e (tV c xf B W false (rdV i)) := h.imp fun σ H Q ⟨F, ρ, R, p⟩ => by
  unfold rdV at p
  cases q : ρ[i]? with
  | none => rw [q] at p; exact p.elim
  | some s =>
    rw [q] at p
    cases s with
    | no => exact p.elim
    | val d => obtain ⟨v, h1, h2⟩ := R.sl i _ q; exact ⟨v, h1, p.here R v h2⟩
    | own d =>
      obtain ⟨F', a, x, _, h1, _, R', r⟩ := R.frozen q
      exact ⟨_, h1, p.at x R' _ r⟩
    | io d => exact p.elim
/-! ### tests and truth -/
variable {mA mB : En → Out D} {rest : List Expr}
theorem pe_andE {ta : TE} (ha : PE X a (tV c xf B W false mA)) (hb : PE X (.BoolOp .And (b :: rest) pos) (tV c xf B W false mB)) :
    PE X (.BoolOp .And (a :: b :: rest) pos) (tV c xf B W false (fun ρ => (mA ρ).to fun d ρ => (match d with | .bl true => mB ρ | .bl false => .ok (.bl false) ρ | _ => .bad))) := (pe_and ha hb).imp fun σ H Q ⟨F, ρ, R, p⟩ =>
  ⟨F, ρ, R, p.bind fun d ρ1 F1 H1 x R1 p1 v r => by
    cases d with
    | bl k =>
      have r := r.val
      cases r
      refine ⟨k, rfl, ?_⟩
      cases k with
      | true => exact ⟨F1, ρ1, R1, p1⟩
      | false => exact p1.here R1 _ (.bl _)
    | _ => exact p1.elim⟩
theorem pe_orE (ha : PE X a (tV c xf B W false mA)) (hb : PE X (.BoolOp .Or (b :: rest) pos) (tV c xf B W false mB)) :
    PE X (.BoolOp .Or (a :: b :: rest) pos) (tV c xf B W false (fun ρ => (mA ρ).to fun d ρ => (match d with | .bl true => .ok (.bl true) ρ | .bl false => mB ρ | _ => .bad))) := (pe_or ha hb).imp fun σ H Q ⟨F, ρ, R, p⟩ =>
  ⟨F, ρ, R, p.bind fun d ρ1 F1 H1 x R1 p1 v r => by
    cases d with
    | bl k =>
      have r := r.val
      cases r
      refine ⟨k, rfl, ?_⟩
      cases k with
      | false => exact ⟨F1, ρ1, R1, p1⟩
      | true => exact p1.here R1 _ (.bl _)
    | _ => exact p1.elim⟩
theorem pe_notE (ha : PE X a (tV c xf B W false mA)) :
    PE X (.UnaryOp .Not a pos) (tV c xf B W false (fun ρ => (mA ρ).to fun d ρ => (match d with | .bl k => .ok (.bl !k) ρ | _ => .bad))) := (pe_not ha).imp fun σ H Q ⟨F, ρ, R, p⟩ =>
  ⟨F, ρ, R, p.bind fun d ρ1 F1 H1 x R1 p1 v r => by
    cases d with
    | bl k =>
      have r := r.val
      cases r
      exact ⟨k, rfl, p1.here R1 _ (.bl _)⟩
    | _ => exact p1.elim⟩
theorem pw_andE {mB : En → Out D} (ha : PT X a (tT c xf B W mA)) (hb : PW X (.BoolOp .And (b :: rest) pos) (tT c xf B W mB)) :
    PW X (.BoolOp .And (a :: b :: rest) pos) (tT c xf B W (fun ρ => (mA ρ).to fun d ρ => (match d with | .bl true => mB ρ | .bl false => .ok (.bl false) ρ | _ => .bad))) :=
  ⟨fun wh pins s σ H Q I ⟨F, ρ, R, p⟩ => (pw_and ha hb).run wh pins s σ H Q I ⟨F, ρ, R, p.bind fun d ρ1 F1 H1 x R1 p1 => by
    cases d with
    | bl k =>
      refine ⟨k, rfl, ?_⟩
      cases k with
      | true => exact ⟨F1, ρ1, R1, p1⟩
      | false => obtain ⟨k', e', q⟩ := p1.here R1; cases e'; exact q
    | _ => exact p1.elim⟩⟩
theorem pw_orE {mB : En → Out D} (ha : PT X a (tT c xf B W mA)) (hb : PW X (.BoolOp .Or (b :: rest) pos) (tT c xf B W mB)) :
    PW X (.BoolOp .Or (a :: b :: rest) pos) (tT c xf B W (fun ρ => (mA ρ).to fun d ρ => (match d with | .bl true => .ok (.bl true) ρ | .bl false => mB ρ | _ => .bad))) :=
  ⟨fun wh pins s σ H Q I ⟨F, ρ, R, p⟩ => (pw_or ha hb).run wh pins s σ H Q I ⟨F, ρ, R, p.bind fun d ρ1 F1 H1 x R1 p1 => by
    cases d with
    | bl k =>
      refine ⟨k, rfl, ?_⟩
      cases k with
      | false => exact ⟨F1, ρ1, R1, p1⟩
      | true => obtain ⟨k', e', q⟩ := p1.here R1; cases e'; exact q
    | _ => exact p1.elim⟩⟩
theorem pt_notE (ha : PT X a (tT c xf B W mA)) : PT X (.UnaryOp .Not a pos) (tT c xf B W (fun ρ => (mA ρ).to fun d ρ => (match d with | .bl k => .ok (.bl !k) ρ | _ => .bad))) := (pt_not ha).imp fun σ H Q ⟨F, ρ, R, p⟩ =>
  ⟨F, ρ, R, p.bind fun d ρ1 F1 H1 x R1 p1 => by
    cases d with
    | bl k => obtain ⟨k', e', q⟩ := p1.here R1; cases e'; exact ⟨k, rfl, q⟩
    | _ => exact p1.elim⟩
theorem pe_iteE {fr : Bool} {ec : Expr} {mc : En → Out D} (hc : PT X ec (tT c xf B W mc)) (ha : PE X a (tV c xf B W fr mA)) (hb : PE X b (tV c xf B W fr mB)) :
    PE X (.IfExp ec a b pos) (tV c xf B W fr (fun ρ => (mc ρ).to fun d ρ => (match d with | .bl true => mA ρ | .bl false => mB ρ | _ => .bad))) := (pe_ifExp hc ha hb).imp fun σ H Q ⟨F, ρ, R, p⟩ =>
  ⟨F, ρ, R, p.bind fun d ρ1 F1 H1 x R1 p1 => by
    cases d with
    | bl k =>
      refine ⟨k, rfl, ?_⟩
      cases k with
      | true => exact ⟨F1, ρ1, R1, p1⟩
      | false => exact ⟨F1, ρ1, R1, p1⟩
    | _ => exact p1.elim⟩
/-- a < b < c -/
theorem chain_read {σ : L2.St} {H : Hp} {Q : VK} {ρ : En} {F : Addr → Prop} {r r' : R2} (lk : Lk c o (r2 r)) (lk' : Lk c o' (r2 r')) (hm : o.fresh = true) (R : RSt c B F ρ σ H)
    (p : Post c xf B W σ F H (fun d ρ' F' H' => ∀ v, Rs c B F' ρ' σ H' o'.fresh v d → Q v H') ((ma ρ).to fun x ρ => (mb ρ).to fun y ρ => (opD o [x, y] ρ).to fun d ρ => (match d with
      | .bl true => (mc ρ).to fun z ρ => opD o' [y, z] ρ
      | .bl false => .ok (.bl false) ρ
      | _ => .bad))) : tChain r r' (tO c xf B W ma) (tO c xf B W mb) (tO c xf B W mc) σ H Q :=
  ⟨F, ρ, R, p.bind fun x ρ1 F1 H1 e1 R1 p1 v rv => ⟨F1, ρ1, R1, p1.bind fun y ρ2 F2 H2 e2 R2 p2 w rw => op_done lk R2 (.cons (pdr_ext e2 rv) (.cons rw .nil)) (p2.bind fun d ρ3 F3 H3 e3 R3 p3 u ru => by
    cases d with
    | bl k =>
      have hr : u = .bl k := by
        unfold Rs at ru
        rw [show (D.bl k).isMut = false from rfl, Bool.and_false, if_neg (by decide)] at ru
        cases ru
        rfl
      refine ⟨k, hr, ?_⟩
      cases k with
      | true => exact ⟨F3, ρ3, R3, p3.bind fun z ρ4 F4 H4 e4 R4 p4 t rt => op_done lk' R4 (.cons (pdr_ext e4 (pdr_ext e3 rw)) (.cons rt .nil)) p4⟩
      | false => exact p3.here R3 _ (Rs.rep (.bl _) (by simp [D.isMut]))
    | _ => exact p3.elim)⟩⟩
end
end VS
set_option Elab.async false
set_option linter.all false
set_option maxRecDepth 100000
/-! VsF: calls. -/
namespace VS
open PySem PySem.Spec PyProof.Rows L2

/-- the arguments as they lie; io: the place of the one that is changed -/
inductive Args (c : Cf) (F : Addr → Prop) (H : Hp) (io : Option Nat) : Nat → List V → List D → Prop
  | nil {n : Nat} : Args c F H io n [] []
  | val {n : Nat} {v : V} {vs : List V} {d : D} {ds : List D} : io ≠ some n → Rep c F H v d → Args c F H io (n + 1) vs ds → Args c F H io n (v :: vs) (d :: ds)
  | io {n : Nat} {a : Addr} {vs : List V} {d : D} {ds : List D} : io = some n → ¬ F a → Own c F H a d → Args c F H io (n + 1) vs ds → Args c F H io n (.ref a :: vs) (d :: ds)
theorem Args.length {c : Cf} {F : Addr → Prop} {H : Hp} {io : Option Nat} {n : Nat} {vs : List V} {ds : List D} (h : Args c F H io n vs ds) : vs.length = ds.length := by
  induction h with
  | nil => rfl
  | val _ _ _ ih => simp [ih]
  | io _ _ _ _ ih => simp [ih]
/-- what a call must leave -/
def CallPost (c : Cf) (xf : Xf) (io : Option Nat) (ro : Bool) (F : Addr → Prop) (H : Hp) (vs : List V) (Q : VK) (E : XK) : CR → Prop
  | .ok d => io = none ∧ ∀ F' H' v, Alloc F H F' H' → Rn c F H F' H' ro v d → Q v H'
  | .oki d x => ∃ j a, io = some j ∧ vs[j]? = some (.ref a) ∧ ∀ F' H' v, AllocBut a F H F' H' → ¬ F' a → Own c F' H' a x → Rn c F H F' H' ro v d → Q v H'
  | .err e => io = none ∧ ∀ F' H' cls dd, Alloc F H F' H' → ExOk xf e cls dd H' → E cls dd H'
  | .bad => False
/-- what a def keeps: it does what C says -/
def spF (c : Cf) (xf : Xf) (C : Nat → List D → CR) (io : Option Nat) (ro : Bool) (f : Nat) : Sp := fun vs H Q E =>
  ∃ F ds, (∀ a, F a → H a ≠ none) ∧ Args c F H io 0 vs ds ∧ CallPost c xf io ro F H vs Q E (C f ds)

section
variable {c : Cf} {xf : Xf} {B : Bs} {W : WX} {σ : L2.St} {F F' : Addr → Prop} {H H' : Hp} {ρ : En}
/-- the addresses of one's own objects in these slots -/
def Bor (ρ : En) (σ : L2.St) (is : List Nat) (b : Addr) : Prop := ∃ (i : Nat) (d : D), i ∈ is ∧ ρ[i]? = some (.own d) ∧ σ[i]? = some (some (.ref b))
theorem freezeAll_get {i : Nat} : ∀ {is : List Nat} {ρ : En}, i ∉ is → (freezeAll is ρ)[i]? = ρ[i]?
  | [], _, _ => rfl
  | j :: is, ρ, h => by
    unfold freezeAll
    have h1 : j ≠ i := fun z => h (z ▸ List.mem_cons_self)
    have h2 : i ∉ is := fun z => h (List.mem_cons_of_mem _ z)
    split
    · rw [freezeAll_get h2, List.getElem?_set_ne h1]
    · rw [freezeAll_get h2]
theorem freezeAll_val {i : Nat} {d : D} : ∀ {is : List Nat} {ρ : En}, ρ[i]? = some (.val d) → (freezeAll is ρ)[i]? = some (.val d)
  | [], _, h => h
  | j :: is, ρ, h => by
    unfold freezeAll
    split
    · rename_i d' e
      refine freezeAll_val ?_
      by_cases hj : j = i
      · subst hj; rw [e] at h; cases h
      · rw [List.getElem?_set_ne hj]; exact h
    · exact freezeAll_val h
theorem freezeAll_own {i : Nat} {d : D} : ∀ {is : List Nat} {ρ : En}, ρ[i]? = some (.own d) → i ∈ is → (freezeAll is ρ)[i]? = some (.val d)
  | [], _, _, h => nomatch h
  | j :: is, ρ, e, h => by
    unfold freezeAll
    by_cases hj : j = i
    · subst hj
      rw [e]
      refine freezeAll_val ?_
      rw [List.getElem?_set_self (List.getElem?_eq_some_iff.mp e).1]
    · have h2 : i ∈ is := (List.mem_cons.mp h).resolve_left fun z => hj z.symm
      split
      · exact freezeAll_own (by rw [List.getElem?_set_ne hj]; exact e) h2
      · exact freezeAll_own e h2
/-- all of one's own objects in these slots become values -/
theorem RSt.freezeAll : ∀ (is : List Nat) {ρ : En} {F : Addr → Prop}, RSt c B F ρ σ H → ∃ F', Ext F H F' H ∧ (∀ b, F' b ↔ F b ∨ Bor ρ σ is b) ∧ RSt c B F' (freezeAll is ρ) σ H
  | [], ρ, F, R => ⟨F, Ext.refl F H, fun b => ⟨.inl, fun h => h.elim id fun ⟨_, _, z, _⟩ => nomatch z⟩, R⟩
  | i :: is, ρ, F, R => by
    unfold VS.freezeAll
    split
    · rename_i d e
      obtain ⟨F1, a, x1, h1, h2, h3, R1, r1⟩ := R.frozen e
      obtain ⟨F2, x2, h4, R2⟩ := RSt.freezeAll is R1
      have hi : i < ρ.length := (List.getElem?_eq_some_iff.mp e).1
      have ra : Rep c F1 H (.ref a) d := r1
      refine ⟨F2, x1.trans x2, fun b => ⟨fun h => ?_, fun h => ?_⟩, R2⟩
      · rcases (h4 b).mp h with h | ⟨j, d', m, e', s'⟩
        · rcases h1 b h with h | h
          · exact .inl h
          · exact .inr ⟨i, d, List.mem_cons_self, e, h ▸ h2⟩
        · refine .inr ⟨j, d', List.mem_cons_of_mem _ m, ?_, s'⟩
          by_cases hj : i = j
          · subst hj; rw [List.getElem?_set_self hi] at e'; cases e'
          · rw [List.getElem?_set_ne hj] at e'; exact e'
      · rcases h with h | ⟨j, d', m, e', s'⟩
        · exact x2.sub b (x1.sub b h)
        · by_cases hj : i = j
          · subst hj
            rw [h2] at s'
            cases s'
            -- a is in F1
            have q := R1.sl i (.val d) (by rw [List.getElem?_set_self hi])
            have fa : F1 a := by
              obtain ⟨a', g1, g2, g3, g4⟩ := R.sl i _ e
              rw [h2] at g1; cases g1
              cases g4 with
              | lst g _ => cases ra with
                | lst f _ _ => exact f
              | dic g _ => cases ra with
                | dic f _ _ => exact f
              | set g _ _ => cases ra with
                | set f _ _ _ => exact f
            exact x2.sub _ fa
          · exact (h4 b).mpr (.inr ⟨j, d', (List.mem_cons.mp m).resolve_left fun z => hj z.symm, by rw [List.getElem?_set_ne hj]; exact e', s'⟩)
    · rename_i hne
      obtain ⟨F2, x2, h4, R2⟩ := RSt.freezeAll is R
      refine ⟨F2, x2, fun b => ⟨fun h => ?_, fun h => ?_⟩, R2⟩
      · rcases (h4 b).mp h with h | ⟨j, d', m, e', s'⟩
        · exact .inl h
        · exact .inr ⟨j, d', List.mem_cons_of_mem _ m, e', s'⟩
      · rcases h with h | ⟨j, d', m, e', s'⟩
        · exact (h4 b).mpr (.inl h)
        · refine (h4 b).mpr (.inr ⟨j, d', ?_, e', s'⟩)
          rcases List.mem_cons.mp m with z | m
          · subst z; exact absurd e' (hne _)
          · exact m
mutual
theorem Rep.less {Bd : Addr → Prop} (hB : ∀ b, Bd b → ∀ xs, H b ≠ some (.tup xs)) : ∀ {d : D} {v : V}, d.noMut = true → Rep c F H v d → Rep c (fun a => F a ∧ ¬ Bd a) H v d
  | .non, _, _, h => by cases h; exact .non
  | .bl b, _, _, h => by cases h; exact .bl b
  | .int i, _, _, h => by cases h; exact .int i
  | .str y, _, _, h => by cases h; exact .str y
  | .fn f, _, _, h => by cases h; exact .fn f
  | .tup ds, _, n, h => by
    cases h with
    | tup f e r => exact .tup ⟨f, fun z => hB _ z _ e⟩ e (Reps.less hB (by simpa [D.noMut] using n) r)
    | ktup k r => exact .ktup k (Reps.less hB (by simpa [D.noMut] using n) r)
  | .lst ds, _, n, h => by simp [D.noMut] at n
  | .frl ds, _, n, h => by simp [D.noMut] at n
  | .dic t kvs, _, n, h => by simp [D.noMut] at n
  | .set ds, _, n, h => by simp [D.noMut] at n
theorem Reps.less {Bd : Addr → Prop} (hB : ∀ b, Bd b → ∀ xs, H b ≠ some (.tup xs)) : ∀ {ds : List D} {vs : List V}, D.noMuts ds = true → Reps c F H vs ds → Reps c (fun a => F a ∧ ¬ Bd a) H vs ds
  | [], _, _, h => by cases h; exact .nil
  | d :: ds, _, n, h => by
    simp only [D.noMuts, Bool.and_eq_true] at n
    cases h with
    | cons r rs => exact .cons (Rep.less hB n.1 r) (Reps.less hB n.2 rs)
end
theorem noMut_isMut {d : D} (h : d.noMut = true) : d.isMut = false := by cases d <;> first | rfl | (simp [D.noMut] at h)
/-- the arguments of a call -/
theorem pd_arg {v : V} {p : Pd} {d : D} {is : List Nat} (R : RSt c B F ρ σ H) (F1 : Addr → Prop) (x : Ext F H F1 H) (hF : ∀ b, Bor ρ σ is b → F1 b) (hs : ∀ i, p = .inr i → i ∈ is) (hn : noIo ρ is = true) (h : PdR c F H σ v p) (e : Pd.get ρ p = some d) : Rep c F1 H v d := by
  cases p with
  | inl d' => cases e; exact Rep.ext x h
  | inr i =>
    have e : (match ρ[i]? with | some s => s.get? | none => none) = some d := e
    have hi := hs i rfl
    have nio : ∀ {is : List Nat}, noIo ρ is = true → i ∈ is → ∀ d, ρ[i]? ≠ some (.io d) := by
      intro is hn hi d z
      induction is with
      | nil => cases hi
      | cons j is ih =>
        simp only [noIo, Bool.and_eq_true] at hn
        rcases List.mem_cons.mp hi with q | q
        · subst q; rw [z] at hn; exact absurd hn.1 (by simp)
        · exact ih hn.2 q
    cases q : ρ[i]? with
    | none => rw [q] at e; cases e
    | some s =>
      rw [q] at e
      have h : σ[i]? = some (some v) := h
      have sl := R.sl i s q
      rw [h] at sl
      cases s with
      | no => cases e
      | val d' => cases e; obtain ⟨u, h1, h2⟩ := sl; cases h1; exact h2.ext x
      | own d' =>
        cases e
        obtain ⟨a, h1, h2, h3, h4⟩ := sl
        cases h1
        exact (h4.ext x rfl).rep (hF a ⟨i, _, hi, q, h⟩)
      | io d' => exact absurd q (nio hn hi d')
theorem slots_mem : ∀ {ps : List Pd} {i : Nat}, Sum.inr i ∈ ps → i ∈ Pds.slots ps
  | [], _, h => nomatch h
  | .inl d :: ps, i, h => by
    rcases List.mem_cons.mp h with h | h
    · cases h
    · exact slots_mem (ps := ps) h
  | .inr j :: ps, i, h => by
    rcases List.mem_cons.mp h with h | h
    · cases h; exact List.mem_cons_self
    · exact List.mem_cons_of_mem _ (slots_mem h)
theorem args_none {is : List Nat} (R : RSt c B F ρ σ H) (F1 : Addr → Prop) (x : Ext F H F1 H) (hF : ∀ b, Bor ρ σ is b → F1 b) (hn : noIo ρ is = true) : ∀ {vs : List V} {ps : List Pd} {ds : List D} {n : Nat}, (∀ i, Sum.inr i ∈ ps → i ∈ is) → PdRs c F H σ vs ps → Pds.get ρ ps = some ds → Args c F1 H none n vs ds
  | _, _, ds, n, _, .nil, e => by
    have : ds = [] := by simpa [Pds.get] using e.symm
    subst this; exact .nil
  | _, p :: ps, ds, n, hs, .cons r t, e => by
    simp only [Pds.get] at e
    split at e
    · rename_i d ds' e1 e2
      cases e
      exact .val (fun z => nomatch z) (pd_arg R F1 x hF (fun i z => hs i (z ▸ List.mem_cons_self)) hn r e1) (args_none R F1 x hF hn (fun i z => hs i (List.mem_cons_of_mem _ z)) t e2)
    · cases e
theorem args_io {is : List Nat} {i : Nat} {a : Addr} {s : Sl} {di : D} (R : RSt c B F ρ σ H) (F1 : Addr → Prop) (x : Ext F H F1 H) (hF : ∀ b, Bor ρ σ is b → F1 b) (hn : noIo ρ is = true) (es : ρ[i]? = some s) (ea : σ[i]? = some (some (.ref a))) (na : ¬ F1 a)
    (ed : s.get? = some di) (o : Own c F H a di) : ∀ {vs : List V} {ps : List Pd} {ds : List D} {n j : Nat}, ps[j]? = some (.inr i) → (∀ i, Sum.inr i ∈ ps.eraseIdx j → i ∈ is) → PdRs c F H σ vs ps → Pds.get ρ ps = some ds → Args c F1 H (some (n + j)) n vs ds ∧ vs[j]? = some (.ref a)
  | _, _, ds, n, j, hj, _, .nil, e => by simp at hj
  | _, p :: ps, ds, n, 0, hj, hs, .cons r t, e => by
    simp at hj
    subst hj
    simp only [Pds.get] at e
    split at e
    · rename_i d ds' e1 e2
      cases e
      have r : σ[i]? = some (some _) := r
      rw [ea] at r
      cases r
      have e1 : (match ρ[i]? with | some s => s.get? | none => none) = some d := e1
      rw [es] at e1
      have : d = di := Option.some.inj (e1.symm.trans ed)
      subst this
      have hs' : ∀ i, Sum.inr i ∈ ps → i ∈ is := fun i z => hs i (by simpa using z)
      have tl := args_none (n := n + 1) R F1 x hF hn hs' t e2
      have conv : ∀ {m : Nat} {vs : List V} {ds : List D}, n < m → Args c F1 H none m vs ds → Args c F1 H (some n) m vs ds := by
        intro m vs ds hm h
        induction h with
        | nil => exact .nil
        | val _ r _ ih => exact .val (fun z => by cases z; omega) r (ih (by omega))
        | io z _ _ _ _ => cases z
      exact ⟨.io rfl na (o.ext x rfl) (conv (by omega) tl), rfl⟩
    · cases e
  | _, p :: ps, ds, n, j + 1, hj, hs, .cons r t, e => by
    simp at hj
    simp only [Pds.get] at e
    split at e
    · rename_i d ds' e1 e2
      cases e
      obtain ⟨tl, ht⟩ := args_io (n := n + 1) (j := j) R F1 x hF hn es ea na ed o hj (fun i z => hs i (by simp only [List.eraseIdx_cons_succ]; exact List.mem_cons_of_mem _ z)) t e2
      refine ⟨.val (fun z => by have := Option.some.inj z; omega) (pd_arg R F1 x hF (fun i z => hs i (by simp only [List.eraseIdx_cons_succ]; exact z ▸ List.mem_cons_self)) hn r e1) (by rw [show n + (j + 1) = n + 1 + j by omega]; exact tl), by simpa using ht⟩
    · cases e
theorem Rn.rsF {fr : Bool} {v : V} {d : D} (R : RSt c B F ρ σ H) (x : Ext F H F' H) (hF : ∀ b, F' b → F b ∨ H b ≠ none) {F2 : Addr → Prop} {H2 : Hp} (h : Rn c F' H F2 H2 fr v d) : Rn c F H F2 H2 fr v d := by
  unfold Rn at h ⊢
  exact h
/-- THE CALL, in the state -/
theorem call_done {C : Nat → List D → CR} {f : Nat} {io : Option Nat} {ro : Bool} {vs : List V} {ps : List Pd} {Q : VK} (R : RSt c B F ρ σ H) (pr : PdRs c F H σ vs ps)
    (h : Post c xf B W σ F H (fun d ρ' F' H' => ∀ v, Rs c B F' ρ' σ H' ro v d → Q v H') (callD C f io ps ρ)) : spF c xf C io ro f vs H Q (WE W σ) := by
  unfold callD at h
  cases e1 : Pds.get ρ ps with
  | none => rw [e1] at h; exact h.elim
  | some ds =>
    rw [e1] at h
    cases io with
    | none =>
      dsimp only at h
      split at h
      · rename_i hn
        obtain ⟨F1, x1, hF1, R1⟩ := R.freezeAll (Pds.slots ps)
        have ar : Args c F1 H none 0 vs ds := args_none R F1 x1 (fun b hb => (hF1 b).mpr (.inr hb)) hn (fun i z => slots_mem z) pr e1
        refine ⟨F1, ds, R1.dom, ar, ?_⟩
        cases e2 : C f ds with
        | ok d =>
          rw [e2] at h
          refine ⟨rfl, fun F' H' v al rn => ?_⟩
          dsimp only at h
          by_cases hm : d.noMut = true
          · rw [if_pos hm] at h
            -- the lent objects are one's own again
            have hB : ∀ b, Bor ρ σ (Pds.slots ps) b → ∀ xs, H' b ≠ some (.tup xs) := fun b ⟨i, d', _, e', s'⟩ xs z => by
              obtain ⟨a, g1, g2, g3, g4⟩ := R.sl i _ e'
              rw [s'] at g1; cases g1
              obtain ⟨o, q⟩ := Option.ne_none_iff_exists'.mp g4.dom
              have q2 := al.same b o q
              rw [z] at q2; cases q2
              cases g4 with
              | lst g _ => rw [q] at g; cases g
              | dic g _ => rw [q] at g; cases g
              | set g _ _ => rw [q] at g; cases g
            have al2 : Alloc F H (fun a => F' a ∧ ¬ Bor ρ σ (Pds.slots ps) a) H' := ⟨fun a ha => ⟨al.sub a (x1.sub a ha), fun ⟨i, d', _, e', s'⟩ => by
              obtain ⟨b, g1, g2, g3, g4⟩ := R.sl i _ e'
              rw [s'] at g1; cases g1
              exact g2 ha⟩, fun a ⟨h1, h2⟩ => by
                rcases al.new a h1 with z | z
                · rcases (hF1 a).mp z with z | z
                  · exact .inl z
                  · exact absurd z h2
                · exact .inr z, fun a ⟨h1, h2⟩ => by
                rcases al.dom a h1 with z | z
                · rcases (hF1 a).mp z with z | z
                  · exact .inl z
                  · exact absurd z h2
                · exact .inr z, al.same⟩
            have nm := noMut_isMut hm
            have rp : Rep c F' H' v d := by
              unfold Rn at rn
              rw [nm, Bool.and_false, if_neg (by decide)] at rn
              exact rn
            exact h _ _ (al2.ext R.dom) (R.alloc al2) v (Rs.rep (Rep.less hB hm rp) (by rw [nm, Bool.and_false]))
          · rw [if_neg hm] at h
            exact h _ _ (x1.trans (al.ext R1.dom)) (R1.alloc al) v (rn_rs R1 al rn)
        | oki d x => rw [e2] at h; exact h.elim
        | err e =>
          rw [e2] at h
          exact ⟨rfl, fun F' H' cls dd al ex => h F' H' cls dd (x1.trans (al.ext R1.dom)) (R1.alloc al) ex⟩
        | bad => rw [e2] at h; exact h.elim
      · exact h.elim
    | some j =>
      dsimp only at h
      cases ej : ps[j]? with
      | none => rw [ej] at h; exact h.elim
      | some p =>
        rw [ej] at h
        cases p with
        | inl d => exact h.elim
        | inr i =>
          dsimp only at h
          split at h
          · rename_i hn
            simp only [Bool.and_eq_true, Bool.not_eq_true', List.contains_eq_mem, decide_eq_false_iff_not] at hn
            obtain ⟨hn, hni⟩ := hn
            obtain ⟨F1, x1, hF1, R1⟩ := R.freezeAll (Pds.slots (ps.eraseIdx j))
            cases es : ρ[i]? with
            | none => rw [es] at h; exact h.elim
            | some s =>
              have main : s.mine = true → ∀ (mk : D → Sl), (∀ x, mk x = s.put x) →
                  (∀ d x, C f ds = .oki d x → Post c xf B W σ F H (fun d ρ' F' H' => ∀ v, Rs c B F' ρ' σ H' ro v d → Q v H') (.ok d ((if d.noMut && x.inner then ρ else freezeAll (Pds.slots (ps.eraseIdx j)) ρ).set i (mk x)))) →
                  (∃ d x, C f ds = .oki d x) → spF c xf C (some j) ro f vs H Q (WE W σ) := by
                intro hmine mk hmk hk ⟨d, x, e2⟩
                have h := hk d x e2
                obtain ⟨a, di, g0, ga, gn, gm, go⟩ := R.ownAt es hmine
                have na : ¬ F1 a := fun z => by
                  rcases (hF1 a).mp z with z | ⟨i', d', m', e', s'⟩
                  · exact gn z
                  · by_cases hi : i = i'
                    · subst hi; exact hni m'
                    · exact R.apart i i' a s _ hi es e' hmine rfl ga s'
                obtain ⟨ar, hv⟩ := args_io (n := 0) R F1 x1 (fun b hb => (hF1 b).mpr (.inr hb)) hn es ga na g0 go ej (fun i z => slots_mem z) pr e1
                rw [Nat.zero_add] at ar
                refine ⟨F1, ds, R1.dom, ar, ?_⟩
                rw [e2]
                refine ⟨j, a, rfl, hv, fun F' H' v al na' ox rn => ?_⟩
                have es1 : (freezeAll (Pds.slots (ps.eraseIdx j)) ρ)[i]? = some s := by rw [freezeAll_get hni]; exact es
                by_cases hm : (d.noMut && x.inner) = true
                · rw [if_pos hm] at h
                  simp only [Bool.and_eq_true] at hm
                  have hB : ∀ b, Bor ρ σ (Pds.slots (ps.eraseIdx j)) b → ∀ xs, H' b ≠ some (.tup xs) := fun b ⟨i', d', m', e', s'⟩ xs z => by
                    have hii : i ≠ i' := fun q => hni (q ▸ m')
                    have hba : b ≠ a := fun q => R.apart i i' a s _ hii es e' hmine rfl ga (q ▸ s')
                    obtain ⟨b', g1, g2, g3, g4⟩ := R.sl i' _ e'
                    rw [s'] at g1; cases g1
                    obtain ⟨o, q⟩ := Option.ne_none_iff_exists'.mp g4.dom
                    have q2 := al.same b o hba q
                    rw [z] at q2; cases q2
                    cases g4 with
                    | lst g _ => rw [q] at g; cases g
                    | dic g _ => rw [q] at g; cases g
                    | set g _ _ => rw [q] at g; cases g
                  have al2 : AllocBut a F H (fun b => F' b ∧ ¬ Bor ρ σ (Pds.slots (ps.eraseIdx j)) b) H' := ⟨fun b hb => ⟨al.sub b (x1.sub b hb), fun ⟨i', d', _, e', s'⟩ => by
                    obtain ⟨b', g1, g2, g3, g4⟩ := R.sl i' _ e'
                    rw [s'] at g1; cases g1
                    exact g2 hb⟩, fun b ⟨h1, h2⟩ => by
                      rcases al.new b h1 with z | z
                      · rcases (hF1 b).mp z with z | z
                        · exact .inl z
                        · exact absurd z h2
                      · exact .inr z, fun b ⟨h1, h2⟩ => by
                      rcases al.dom b h1 with z | z
                      · rcases (hF1 b).mp z with z | z
                        · exact .inl z
                        · exact absurd z h2
                      · exact .inr z, al.same⟩
                  have ox2 : Own c (fun b => F' b ∧ ¬ Bor ρ σ (Pds.slots (ps.eraseIdx j)) b) H' a x := by
                    cases ox with
                    | lst g r => exact .lst g (Reps.less hB (by simpa [D.inner] using hm.2) r)
                    | dic g r => simp [D.inner] at hm
                    | set g r n => simp [D.inner] at hm
                  have nm := noMut_isMut hm.1
                  have rp : Rep c F' H' v d := by
                    unfold Rn at rn
                    rw [nm, Bool.and_false, if_neg (by decide)] at rn
                    exact rn
                  exact h _ _ (al2.ext R.dom gn) (R.change es hmine ga al2 (fun z => na' z.1) ox2 (hmk x)) v (Rs.rep (Rep.less hB hm.1 rp) (by rw [nm, Bool.and_false]))
                · rw [if_neg hm] at h
                  have R2 := R1.change es1 hmine ga al na' ox (hmk x)
                  refine h _ _ (x1.trans (al.ext R1.dom na)) R2 v ?_
                  unfold Rn at rn
                  unfold Rs
                  split at rn
                  · rename_i hfr
                    rw [if_pos hfr]
                    obtain ⟨b, rfl, nb, bn, ob⟩ := rn
                    refine ⟨b, rfl, nb, ?_, ob, fun k t ek mk' zk => ?_⟩
                    · cases q : B.H b with
                      | none => rfl
                      | some u => exact absurd bn (R1.live b (by rw [q]; simp))
                    · -- b is new: no slot held it
                      have back : ∃ t', (freezeAll (Pds.slots (ps.eraseIdx j)) ρ)[k]? = some t' ∧ t'.mine = true := by
                        by_cases hk : i = k
                        · subst hk; exact ⟨s, es1, hmine⟩
                        · rw [List.getElem?_set_ne hk] at ek; exact ⟨t, ek, mk'⟩
                      obtain ⟨t', z1, z2⟩ := back
                      obtain ⟨b', _, _, h2, _, _, h5⟩ := R1.ownAt z1 z2
                      rw [zk] at h2
                      cases h2
                      exact h5.dom bn
                  · rename_i hfr
                    rw [if_neg hfr]
                    exact rn
              cases s with
              | no => rw [es] at h; exact h.elim
              | val d => rw [es] at h; exact h.elim
              | own d0 =>
                rw [es] at h
                cases e2 : C f ds with
                | oki d x =>
                  rw [e2] at h
                  exact main rfl .own (fun _ => rfl) (fun d' x' e' => by rw [e2] at e'; cases e'; exact h) ⟨d, x, e2⟩
                | ok d => rw [e2] at h; exact h.elim
                | err e => rw [e2] at h; exact h.elim
                | bad => rw [e2] at h; exact h.elim
              | io d0 =>
                rw [es] at h
                cases e2 : C f ds with
                | oki d x =>
                  rw [e2] at h
                  exact main rfl .io (fun _ => rfl) (fun d' x' e' => by rw [e2] at e'; cases e'; exact h) ⟨d, x, e2⟩
                | ok d => rw [e2] at h; exact h.elim
                | err e => rw [e2] at h; exact h.elim
                | bad => rw [e2] at h; exact h.elim
          · exact h.elim
end
end VS
set_option Elab.async false
set_option linter.all false
set_option maxRecDepth 100000
/-! VsG: what is walked; targets; comprehensions. -/
namespace VS
open PySem PySem.Spec PyProof.Rows L2

/-- J walks ds, as long as F's objects stay -/
def WalkD (c : Cf) (F : Addr → Prop) (H : Hp) (J : L2.It) (ds : List D) : Prop :=
  ∃ Y : Nat → Hp → V → Hp → Prop, Walk J ds.length (fun H' => ∀ a, F a → H' a = H a) Y ∧
    ∀ i F1 H1 x H2, Ext F H F1 H1 → (∀ a, F1 a → H1 a ≠ none) → Y i H1 x H2 → ∃ d F2, ds[i]? = some d ∧ Alloc F1 H1 F2 H2 ∧ Rep c F2 H2 x d
section
variable (c : Cf) (xf : Xf) (B : Bs) (W : WX)
def tI (m : En → Out (List D)) : TI := fun σ H R => ∃ F ρ, RSt c B F ρ σ H ∧ Post c xf B W σ F H (fun ds ρ' F' H' => ∀ J, WalkD c F' H' J ds → R J H') (m ρ)
/-- slots but these stay -/
def Off (sl : List Nat) (σ σ' : L2.St) : Prop := σ'.length = σ.length ∧ ∀ j, j ∉ sl → σ'[j]? = σ[j]?
def PostB (σ : L2.St) (F : Addr → Prop) (H : Hp) (sl : List Nat) (Q : L2.St → Hp → Prop) : Out Unit → Prop
  | .ok _ ρ => ∀ F' σ' H', Ext F H F' H' → RSt c B F' ρ σ' H' → Off sl σ σ' → Q σ' H'
  | _ => False
def tB (sl : List Nat) (m : D → En → Out Unit) : TG := fun v σ H Q => ∃ F ρ d, RSt c B F ρ σ H ∧ Rep c F H v d ∧ PostB c B σ F H sl Q (m d ρ)
def tBs (sl : List Nat) (m : List D → En → Out Unit) : TGs := fun vs σ H Q => ∃ F ρ ds, RSt c B F ρ σ H ∧ Reps c F H vs ds ∧ PostB c B σ F H sl Q (m ds ρ)
end
mutual
def T.sl : T → List Nat
  | .n i => [i]
  | .t ts => Ts.sl ts
  | .ix _ _ => []
def Ts.sl : Ts → List Nat
  | .nil => []
  | .cons t r => T.sl t ++ Ts.sl r
end

section
variable {c : Cf} {xf : Xf} {B : Bs} {W : WX} {σ σ' : L2.St} {F F' : Addr → Prop} {H H' : Hp} {ρ ρ' : En} {X : Cx}
theorem Off.refl (sl : List Nat) (σ : L2.St) : Off sl σ σ := ⟨rfl, fun _ _ => rfl⟩
theorem Off.app {sl sl2 : List Nat} {σ2 : L2.St} (a : Off sl σ σ') (b : Off sl2 σ' σ2) : Off (sl ++ sl2) σ σ2 :=
  ⟨b.1.trans a.1, fun j hj => (b.2 j fun z => hj (List.mem_append_right _ z)).trans (a.2 j fun z => hj (List.mem_append_left _ z))⟩
theorem PostB.ext {sl : List Nat} {Q : L2.St → Hp → Prop} {m : Out Unit} (x : Ext F H F' H') (h : PostB c B σ F H sl Q m) : PostB c B σ F' H' sl Q m := by
  cases m with
  | ok a ρ => exact fun F2 σ2 H2 y R o => h F2 σ2 H2 (x.trans y) R o
  | err e ρ => exact h
  | bad => exact h
/-! ### walking -/
theorem walkD_list {a : Addr} {xs : List V} {ds : List D} (f : F a) (h : H a = some (.lst xs)) (r : Reps c F H xs ds) : WalkD c F H (Itl c.K a) ds := by
  refine ⟨YAt xs, ?_, fun i F1 H1 x H2 e dom y => ?_⟩
  · rw [← r.length]
    exact walk_list.mono (fun H' k => .inl (.inl ((k a f).trans h))) fun _ _ _ _ _ _ y => y
  · obtain ⟨rfl, y⟩ := y
    obtain ⟨d, h1, h2⟩ := r.getV y
    exact ⟨d, F1, h1, Alloc.refl, h2.ext e⟩
theorem walkD_tup {a : Addr} {xs : List V} {ds : List D} (f : (F a ∧ H a = some (.tup xs)) ∨ KTup c.K a xs) (r : Reps c F H xs ds) : WalkD c F H (Itt c.K a) ds := by
  refine ⟨YAt xs, ?_, fun i F1 H1 x H2 e dom y => ?_⟩
  · rw [← r.length]
    refine walk_tup.mono (fun H' k => ?_) fun _ _ _ _ _ _ y => y
    rcases f with ⟨f, h⟩ | f
    · exact .inl (.inl ((k a f).trans h))
    · exact .inr f
  · obtain ⟨rfl, y⟩ := y
    obtain ⟨d, h1, h2⟩ := r.getV y
    exact ⟨d, F1, h1, Alloc.refl, h2.ext e⟩
theorem rngD_length (a b : Int) : (rngD a b).length = (b - a).toNat := by unfold rngD; rw [List.length_map, List.length_range]
theorem walkD_range (lo hi : Int) : WalkD c F H (Itr lo (hi - lo).toNat) (rngD lo hi) := by
  refine ⟨fun i H x H' => i < (hi - lo).toNat ∧ H' = H ∧ x = .int (lo + i), ?_, fun i F1 H1 x H2 e dom y => ?_⟩
  · rw [rngD_length]
    exact ⟨fun _ _ hi _ => hi, fun _ _ => Nat.le_refl _, fun _ _ _ _ h _ y => ⟨h, y⟩⟩
  · obtain ⟨hi, rfl, rfl⟩ := y
    refine ⟨.int (lo + i), F1, ?_, Alloc.refl, .int _⟩
    unfold rngD
    rw [List.getElem?_map, List.getElem?_range hi] <;> rfl
theorem rng3D_length (a c : Int) : ∀ n, (rng3D a c n).length = n
  | 0 => rfl
  | n + 1 => by unfold rng3D; rw [List.length_cons, rng3D_length]
theorem rng3D_get (c : Int) : ∀ (n i : Nat) (a : Int), i < n → (rng3D a c n)[i]? = some (.int (a + (i : Nat) * c))
  | 0, i, _, h => by omega
  | n + 1, 0, a, _ => by unfold rng3D; simp
  | n + 1, i + 1, a, h => by
    unfold rng3D
    rw [List.getElem?_cons_succ, rng3D_get c n i (a + c) (by omega)]
    congr 2
    have : ((i + 1 : Nat) : Int) = (i : Int) + 1 := by omega
    rw [this, Int.add_mul, Int.one_mul]
    omega
theorem walkD_range3 (lo k : Int) (n : Nat) : WalkD c F H (Itc lo k n) (rng3D lo k n) := by
  refine ⟨fun i H x H' => i < n ∧ H' = H ∧ x = .int (lo + (i : Nat) * k), ?_, fun i F1 H1 x H2 e dom y => ?_⟩
  · rw [rng3D_length]
    exact ⟨fun _ _ hi _ => hi, fun _ _ => Nat.le_refl _, fun _ _ _ _ h _ y => ⟨h, y⟩⟩
  · obtain ⟨hi, rfl, rfl⟩ := y
    exact ⟨.int _, F1, rng3D_get k n i lo hi, Alloc.refl, .int _⟩
theorem zipD_length : ∀ xs ys : List D, (zipD xs ys).length = min xs.length ys.length
  | [], _ => by simp [zipD]
  | _ :: _, [] => by simp [zipD]
  | x :: xs, y :: ys => by simp only [zipD, List.length_cons, zipD_length xs ys]; omega
theorem zipD_get : ∀ {xs ys : List D} {i : Nat} {x y : D}, xs[i]? = some x → ys[i]? = some y → (zipD xs ys)[i]? = some (.tup [x, y])
  | [], _, _, _, _, h, _ => by simp at h
  | _ :: _, [], _, _, _, _, h => by simp at h
  | a :: xs, b :: ys, 0, x, y, h1, h2 => by simp at h1 h2; subst h1 h2; rfl
  | a :: xs, b :: ys, i + 1, x, y, h1, h2 => by
    have h1 : xs[i]? = some x := by simpa using h1
    have h2 : ys[i]? = some y := by simpa using h2
    show (zipD xs ys)[i]? = some (.tup [x, y])
    exact zipD_get (xs := xs) (ys := ys) (i := i) h1 h2
theorem pair_new {x y : V} {d e : D} {T : Addr} {F1 : Addr → Prop} {H1 : Hp} (dom : ∀ a, F1 a → H1 a ≠ none) (hn : H1 T = none) (r : Rep c F1 H1 x d) (s : Rep c F1 H1 y e) :
    ∃ F2, Alloc F1 H1 F2 (upd H1 T (.tup [x, y])) ∧ Rep c F2 (upd H1 T (.tup [x, y])) (.ref T) (.tup [d, e]) := by
  have al : Alloc F1 H1 (fun a => F1 a ∨ a = T) (upd H1 T (.tup [x, y])) := Alloc.pushF hn
  have e := al.ext dom
  exact ⟨_, al, .tup (.inr rfl) upd_same (.cons (r.ext e) (.cons (s.ext e) .nil))⟩
theorem walkD_pairs {J : L2.It} {xs ys : List V} {ds es : List D} {fx : Nat → Option V} {G : Hp → Prop} (hG : ∀ H', (∀ a, F a → H' a = H a) → G H') {n : Nat} (hn : n = (zipD ds es).length) (w : Walk J n G (YPair fx (fun i => ys[i]?)))
    (hfx : ∀ i v, i < n → fx i = some v → ∃ d, ds[i]? = some d ∧ Rep c F H v d) (ry : Reps c F H ys es) (hlt : ∀ i H1 x H2, YPair fx (fun i => ys[i]?) i H1 x H2 → i < n) : WalkD c F H J (zipD ds es) := by
  refine ⟨_, hn ▸ w.mono hG fun _ _ _ _ _ _ y => y, fun i F1 H1 x H2 e dom y => ?_⟩
  have hi := hlt i H1 x H2 y
  obtain ⟨T, v, u, rfl, hT, rfl, h1, h2⟩ := y
  obtain ⟨d, k1, r1⟩ := hfx i v hi h1
  obtain ⟨d', k2, r2⟩ := ry.getV h2
  obtain ⟨F2, al, r⟩ := pair_new dom hT (r1.ext e) (r2.ext e)
  exact ⟨.tup [d, d'], F2, zipD_get k1 k2, al, r⟩
theorem walkD_zipL {a b : Addr} {xs ys : List V} {ds es : List D} (fa : F a) (ha : H a = some (.lst xs)) (rx : Reps c F H xs ds) (fb : F b) (hb : H b = some (.lst ys)) (ry : Reps c F H ys es) : WalkD c F H (Itz c.K a b) (zipD ds es) := by
  have hn : min xs.length ys.length = (zipD ds es).length := by rw [zipD_length, rx.length, ry.length]
  refine walkD_pairs (G := fun H => SqL c.K H a xs ∧ SqL c.K H b ys) (xs := xs) (ys := ys) (fx := fun i => xs[i]?) (fun H' k => ⟨.inl (.inl ((k a fa).trans ha)), .inl (.inl ((k b fb).trans hb))⟩) hn (walk_zip rfl)
    (fun i v _ h => rx.getV h) ry fun i H1 x H2 ⟨_, v, u, _, _, _, h1, h2⟩ => ?_
  have l1 := (List.getElem?_eq_some_iff.mp h1).1
  have l2 := (List.getElem?_eq_some_iff.mp h2).1
  omega
theorem walk_zipT {K : PySem.W.Frag} {a b : Addr} {xs ys : List V} {n : Nat} (hn : n = min xs.length ys.length) : Walk (RZ.ItzT K a b) n (fun H => SqT K H a xs ∧ SqT K H b ys) (YPair (fun i => xs[i]?) (fun i => ys[i]?)) := by
  subst hn
  refine ⟨fun i _ hi q => ?_, fun _ q => ⟨xs, ys, q.1, q.2, by omega⟩, fun i H v H' _ q y => ?_⟩
  · have h1 : i < xs.length := by omega
    have h2 : i < ys.length := by omega
    exact ⟨xs, ys, xs[i], ys[i], q.1, q.2, by simp [h1], by simp [h2]⟩
  · obtain ⟨T, x, z, h1, h2, h3, h4, h5⟩ := y
    exact ⟨T, x, z, h1, h2, h3, h4 xs q.1, h5 ys q.2⟩
theorem tup_stays {a : Addr} {xs : List V} (f : (F a ∧ H a = some (.tup xs)) ∨ KTup c.K a xs) {H' : Hp} (k : ∀ a, F a → H' a = H a) : SqT c.K H' a xs := by
  rcases f with ⟨f, h⟩ | f
  · exact .inl (.inl ((k a f).trans h))
  · exact .inr f
theorem walkD_zipT {a b : Addr} {xs ys : List V} {ds es : List D} (fa : (F a ∧ H a = some (.tup xs)) ∨ KTup c.K a xs) (rx : Reps c F H xs ds) (fb : (F b ∧ H b = some (.tup ys)) ∨ KTup c.K b ys) (ry : Reps c F H ys es) : WalkD c F H (RZ.ItzT c.K a b) (zipD ds es) := by
  have hn : min xs.length ys.length = (zipD ds es).length := by rw [zipD_length, rx.length, ry.length]
  refine walkD_pairs (G := fun H => SqT c.K H a xs ∧ SqT c.K H b ys) (xs := xs) (ys := ys) (fx := fun i => xs[i]?) (fun H' k => ⟨tup_stays fa k, tup_stays fb k⟩) hn (walk_zipT rfl)
    (fun i v _ h => rx.getV h) ry fun i H1 x H2 ⟨_, v, u, _, _, _, h1, h2⟩ => ?_
  have l1 := (List.getElem?_eq_some_iff.mp h1).1
  have l2 := (List.getElem?_eq_some_iff.mp h2).1
  omega
theorem enmD_length : ∀ (n : Nat) (ds : List D), (enmD n ds).length = ds.length
  | _, [] => rfl
  | n, d :: ds => by unfold enmD; rw [List.length_cons, List.length_cons, enmD_length]
theorem enmD_get : ∀ {ds : List D} {n i : Nat} {d : D}, ds[i]? = some d → (enmD n ds)[i]? = some (.tup [.int ((n + i : Nat) : Int), d])
  | [], _, _, _, h => by simp at h
  | x :: ds, n, 0, d, h => by simp at h; subst h; rfl
  | x :: ds, n, i + 1, d, h => by
    simp at h
    unfold enmD
    rw [List.getElem?_cons_succ, enmD_get h]
    congr 4
    omega
theorem walkD_enm {a : Addr} {xs : List V} {ds : List D} (fa : F a) (ha : H a = some (.lst xs)) (rx : Reps c F H xs ds) : WalkD c F H (Ite c.K a) (enmD 0 ds) := by
  refine ⟨_, by rw [enmD_length, ← rx.length]; exact (walk_enum (K := c.K) (a := a) (xs := xs)).mono (fun H' k => .inl (.inl ((k a fa).trans ha))) fun _ _ _ _ _ _ y => y, fun i F1 H1 x H2 e dom y => ?_⟩
  obtain ⟨T, v, u, rfl, hT, rfl, h1, h2⟩ := y
  cases h1
  obtain ⟨d', k2, r2⟩ := rx.getV h2
  obtain ⟨F2, al, r⟩ := pair_new dom hT (.int (i : Nat)) (r2.ext e)
  exact ⟨_, F2, by rw [enmD_get k2, Nat.zero_add], al, r⟩
/-- a list or a tuple walked -/
def iSeq (K : PySem.W.Frag) (tl : TE) : TI := fun σ H R => tl σ H fun x H1 => ∃ a, x = .ref a ∧ (((∃ xs, SqL K H1 a xs) ∧ R (Itl K a) H1) ∨ ((∃ xs, SqT K H1 a xs) ∧ R (Itt K a) H1))
theorem pi_seq {tg l : Expr} {tl : TE} (hl : PE X l tl) : PI X tg l (iSeq X.K tl) := by
  refine ⟨fun pins s σ H R I h => ?_⟩
  refine thn (hl.run pins s σ H _ I h) fun v s1 ⟨x, H1, I1, r1, q1⟩ => ?_
  obtain ⟨a, e, q | q⟩ := q1
  · subst e
    cases r1
    obtain ⟨⟨xs, hq⟩, q⟩ := q
    obtain ⟨its, rv, p, hz⟩ := I1.list hq
    refine wpAny_pyIter_list p.isList ?_
    refine ⟨s1.heap.objs.size, [s1.heap.objs.size], _, _, H1, rfl, I1.kept (t' := s1.toks) fun b o e => Heap.get?_push_of_some _ e, turn_list a _, ⟨_, Heap.get?_push_size _ rfl, rfl, rfl⟩, fun b hb => ?_, q⟩
    have e : b = s1.heap.objs.size := by simpa using hb
    subst e
    exact I1.fpOk (Nat.le_refl _) (I1.hok.fresh (Nat.le_refl _))
  · subst e
    cases r1
    obtain ⟨⟨xs, hq⟩, q⟩ := q
    obtain ⟨its, rv, p, hz⟩ := I1.tuple hq
    refine wpAny_pyIter_tuple (show s1.heap.IsTuple a its.toArray from p) ?_
    refine ⟨s1.heap.objs.size, [s1.heap.objs.size], _, _, H1, rfl, I1.kept (t' := s1.toks) fun b o e => Heap.get?_push_of_some _ e, turn_tuple a _, ⟨_, Heap.get?_push_size _ rfl, rfl, rfl⟩, fun b hb => ?_, q⟩
    have e : b = s1.heap.objs.size := by simpa using hb
    subst e
    exact I1.fpOk (Nat.le_refl _) (I1.hok.fresh (Nat.le_refl _))
theorem Rep.tupAt {v : V} {ds : List D} (h : Rep c F H v (.tup ds)) : ∃ a xs, v = .ref a ∧ ((F a ∧ H a = some (.tup xs)) ∨ KTup c.K a xs) ∧ Reps c F H xs ds := by
  cases h with
  | tup f e r => exact ⟨_, _, rfl, .inl ⟨f, e⟩, r⟩
  | ktup k r => exact ⟨_, _, rfl, .inr k, r⟩
theorem Rep.lstAt {v : V} {ds : List D} (h : Rep c F H v (.lst ds)) : ∃ a xs, v = .ref a ∧ F a ∧ H a = some (.lst xs) ∧ Reps c F H xs ds := by
  cases h with
  | lst f e r => exact ⟨_, _, rfl, f, e, r⟩
theorem pi_e {tg l : Expr} {m : En → Out D} (hK : X.K = c.K) (hl : PE X l (tV c xf B W false m)) : PI X tg l (tI c xf B W (fun ρ => (m ρ).to fun d ρ => (match d with | .tup ds => .ok ds ρ | .lst ds => .ok ds ρ | _ => .bad))) := by
  have := pi_seq (tg := tg) hl
  rw [hK] at this
  exact this.imp fun σ H R ⟨F, ρ, R0, p⟩ => ⟨F, ρ, R0, p.bind fun d ρ1 F1 H1 e1 R1 p1 v r => by
    have r := r.val
    cases d with
    | tup ds =>
      obtain ⟨a, xs, rfl, f, rx⟩ := r.tupAt
      exact ⟨a, rfl, .inr ⟨⟨xs, tup_stays f fun _ _ => rfl⟩, p1.here R1 _ (walkD_tup f rx)⟩⟩
    | lst ds =>
      obtain ⟨a, xs, rfl, f, e, rx⟩ := r.lstAt
      exact ⟨a, rfl, .inl ⟨⟨xs, .inl (.inl e)⟩, p1.here R1 _ (walkD_list f e rx)⟩⟩
    | _ => exact p1.elim⟩
theorem rngOk_iff {a b : Int} (h : rngOk a b = true) : -(2 ^ 62) ≤ a ∧ a < 2 ^ 62 ∧ -(2 ^ 62) ≤ b ∧ b < 2 ^ 62 := by
  simp only [rngOk, Bool.and_eq_true, decide_eq_true_eq] at h
  exact ⟨h.1.1.1, h.1.1.2, h.1.2, h.2⟩
theorem pi_rng1 {tg a : Expr} {p pos : Pos} {m : En → Out D} (hg : Gl X "range") (hm : X.mg "range" = none) (ha : PE X a (tV c xf B W false m)) (hs : starEach [a] X.env = (false, eval a X.env) :: starEach [] X.env) :
    PI X tg (.Call (.Name "range" p) [a] [] pos) (tI c xf B W (fun ρ => (m ρ).to fun d ρ => (match d with | .int n => if rngOk 0 n then .ok (rngD 0 n) ρ else .bad | _ => .bad))) :=
  (pi_range1 hg hm (pa_cons ha pa_nil hs) hs).imp fun σ H R ⟨F, ρ, R0, p⟩ => ⟨F, ρ, R0, p.bind fun d ρ1 F1 H1 e1 R1 p1 v r => by
    have r := r.val
    cases d with
    | int n =>
      cases r
      by_cases hr : rngOk 0 n = true
      · rw [show (match (D.int n) with | .int n => if rngOk 0 n then Out.ok (rngD 0 n) ρ1 else .bad | _ => .bad) = Out.ok (rngD 0 n) ρ1 from if_pos hr] at p1
        have q := rngOk_iff hr
        have w := walkD_range (c := c) (F := F1) (H := H1) 0 n
        rw [show n - 0 = n by omega] at w
        exact ⟨n, rfl, q.2.2.1, q.2.2.2, p1.here R1 _ w⟩
      · rw [show (match (D.int n) with | .int n => if rngOk 0 n then Out.ok (rngD 0 n) ρ1 else .bad | _ => .bad) = Out.bad from if_neg hr] at p1
        exact p1.elim
    | _ => exact p1.elim⟩
theorem pi_rng2 {tg a b : Expr} {p pos : Pos} {m n : En → Out D} (hg : Gl X "range") (hm : X.mg "range" = none) (ha : PE X a (tV c xf B W false m)) (hb : PE X b (tV c xf B W false n))
    (hs : starEach [a, b] X.env = (false, eval a X.env) :: starEach [b] X.env) (hs2 : starEach [b] X.env = (false, eval b X.env) :: starEach [] X.env) :
    PI X tg (.Call (.Name "range" p) [a, b] [] pos) (tI c xf B W (fun ρ => (m ρ).to fun d ρ => (n ρ).to fun e ρ => (match d, e with | .int i, .int j => if rngOk i j then .ok (rngD i j) ρ else .bad | _, _ => .bad))) :=
  (pi_range2 hg hm (pa_cons ha (pa_cons hb pa_nil hs2) hs) (by rw [hs, hs2] <;> rfl) (by rw [hs2] <;> rfl)).imp fun σ H R ⟨F, ρ, R0, p⟩ => ⟨F, ρ, R0, p.bind fun d ρ1 F1 H1 e1 R1 p1 v r => ⟨F1, ρ1, R1, p1.bind fun e ρ2 F2 H2 e2 R2 p2 u s => by
    have r := (r.val).ext e2
    have s := s.val
    cases d with
    | int i =>
      cases e with
      | int j =>
        cases r
        cases s
        by_cases hr : rngOk i j = true
        · rw [show (match (D.int i), (D.int j) with | .int i, .int j => if rngOk i j then Out.ok (rngD i j) ρ2 else .bad | _, _ => .bad) = Out.ok (rngD i j) ρ2 from if_pos hr] at p2
          exact ⟨i, j, rfl, rngOk_iff hr, p2.here R2 _ (walkD_range i j)⟩
        · rw [show (match (D.int i), (D.int j) with | .int i, .int j => if rngOk i j then Out.ok (rngD i j) ρ2 else .bad | _, _ => .bad) = Out.bad from if_neg hr] at p2
          exact p2.elim
      | _ => exact p2.elim
    | _ => cases e <;> exact p2.elim⟩⟩
theorem walkD_enmT {a : Addr} {xs : List V} {ds : List D} (fa : (F a ∧ H a = some (.tup xs)) ∨ KTup c.K a xs) (rx : Reps c F H xs ds) : WalkD c F H (IteT c.K a) (enmD 0 ds) := by
  refine ⟨_, by rw [enmD_length, ← rx.length]; exact (walk_enumT (K := c.K) (a := a) (xs := xs)).mono (fun H' k => tup_stays fa k) fun _ _ _ _ _ _ y => y, fun i F1 H1 x H2 e dom y => ?_⟩
  obtain ⟨T, v, u, rfl, hT, rfl, h1, h2⟩ := y
  cases h1
  obtain ⟨d', k2, r2⟩ := rx.getV h2
  obtain ⟨F2, al, r⟩ := pair_new dom hT (.int (i : Nat)) (r2.ext e)
  exact ⟨_, F2, by rw [enmD_get k2, Nat.zero_add], al, r⟩
theorem pi_enmE {a : Expr} {elts : List Expr} {kk : Nat} {p pos tpos : Pos} {m : En → Out D} (hK : X.K = c.K) (hg : Gl X "enumerate") (hm : X.mg "enumerate" = none) (ha : PE X a (tV c xf B W false m)) (hs : starEach [a] X.env = (false, eval a X.env) :: starEach [] X.env) :
    PI X (.Tuple elts kk tpos) (.Call (.Name "enumerate" p) [a] [] pos) (tI c xf B W (fun ρ => (m ρ).to fun d ρ => (match d with | .lst ds => .ok (enmD 0 ds) ρ | .tup ds => .ok (enmD 0 ds) ρ | _ => .bad))) := by
  have := pi_enumA (elts := elts) (kk := kk) (tpos := tpos) (p := p) (pos := pos) hg hm (pa_cons ha pa_nil hs) hs
  rw [hK] at this
  exact this.imp fun σ H R ⟨F, ρ, R0, p⟩ => ⟨F, ρ, R0, p.bind fun d ρ1 F1 H1 e1 R1 p1 v r => by
    have r := r.val
    cases d with
    | lst ds =>
      obtain ⟨b, xs, rfl, f, e, rx⟩ := r.lstAt
      exact ⟨b, xs, rfl, .inl ⟨.inl (.inl e), p1.here R1 _ (walkD_enm f e rx)⟩⟩
    | tup ds =>
      obtain ⟨b, xs, rfl, f, rx⟩ := r.tupAt
      exact ⟨b, xs, rfl, .inr ⟨tup_stays f fun _ _ => rfl, p1.here R1 _ (walkD_enmT f rx)⟩⟩
    | _ => exact p1.elim⟩
theorem pi_zipE {a b : Expr} {elts : List Expr} {kk : Nat} {p pos tpos : Pos} {m n : En → Out D} (hK : X.K = c.K) (hg : Gl X "zip") (hm : X.mg "zip" = none) (ha : PE X a (tV c xf B W false m)) (hb : PE X b (tV c xf B W false n))
    (hs : starEach [a, b] X.env = (false, eval a X.env) :: starEach [b] X.env) (hs2 : starEach [b] X.env = (false, eval b X.env) :: starEach [] X.env) :
    PI X (.Tuple elts kk tpos) (.Call (.Name "zip" p) [a, b] [] pos) (tI c xf B W (fun ρ => (m ρ).to fun d ρ => (n ρ).to fun e ρ => (match d, e with | .tup xs, .tup ys => .ok (zipD xs ys) ρ | .lst xs, .lst ys => .ok (zipD xs ys) ρ | _, _ => .bad))) := by
  have := RZ.pi_zipA (elts := elts) (kk := kk) (tpos := tpos) (p := p) (pos := pos) hg hm (pa_cons ha (pa_cons hb pa_nil hs2) hs) hs (by rw [hs2] <;> rfl)
  rw [hK] at this
  exact this.imp fun σ H R ⟨F, ρ, R0, p⟩ => ⟨F, ρ, R0, p.bind fun d ρ1 F1 H1 e1 R1 p1 v r => ⟨F1, ρ1, R1, p1.bind fun e ρ2 F2 H2 e2 R2 p2 u s => by
    have r := (r.val).ext e2
    have s := s.val
    cases d with
    | tup ds =>
      cases e with
      | tup es =>
        obtain ⟨a, xs, rfl, f, rx⟩ := r.tupAt
        obtain ⟨b, ys, rfl, g, ry⟩ := s.tupAt
        exact ⟨a, b, xs, ys, rfl, .inr ⟨tup_stays f fun _ _ => rfl, tup_stays g fun _ _ => rfl, p2.here R2 _ (walkD_zipT f rx g ry)⟩⟩
      | _ => exact p2.elim
    | lst ds =>
      cases e with
      | lst es =>
        obtain ⟨a, xs, rfl, f, e, rx⟩ := r.lstAt
        obtain ⟨b, ys, rfl, g, e', ry⟩ := s.lstAt
        exact ⟨a, b, xs, ys, rfl, .inl ⟨.inl (.inl e), .inl (.inl e'), p2.here R2 _ (walkD_zipL f e rx g e' ry)⟩⟩
      | _ => exact p2.elim
    | _ => cases e <;> exact p2.elim⟩⟩
theorem pi_rng3 {tg a b k : Expr} {p pos : Pos} {m n o : En → Out D} (hg : Gl X "range") (hm : X.mg "range" = none) (ha : PE X a (tV c xf B W false m)) (hb : PE X b (tV c xf B W false n)) (hk : PE X k (tV c xf B W false o))
    (hs : starEach [a, b, k] X.env = (false, eval a X.env) :: starEach [b, k] X.env) (hs2 : starEach [b, k] X.env = (false, eval b X.env) :: starEach [k] X.env) (hs3 : starEach [k] X.env = (false, eval k X.env) :: starEach [] X.env)
    (hp : ∀ ta, PA X [a, b, k] ta → PI X tg (.Call (.Name "range" p) [a, b, k] [] pos) (iRng3 ta)) :
    PI X tg (.Call (.Name "range" p) [a, b, k] [] pos) (tI c xf B W (fun ρ => (m ρ).to fun d ρ => (n ρ).to fun e ρ => (o ρ).to fun s ρ => (match d, e, s with | .int i, .int j, .int (-1) => if rngOk i j then .ok (rng3D i (-1) (i - j).toNat) ρ else .bad | _, _, _ => .bad))) :=
  (hp _ (pa_cons ha (pa_cons hb (pa_cons hk pa_nil hs3) hs2) hs)).imp fun σ H R ⟨F, ρ, R0, p⟩ => ⟨F, ρ, R0, p.bind fun d ρ1 F1 H1 e1 R1 p1 v r => ⟨F1, ρ1, R1, p1.bind fun e ρ2 F2 H2 e2 R2 p2 u s => ⟨F2, ρ2, R2, p2.bind fun z ρ3 F3 H3 e3 R3 p3 y t => by
    have r := ((r.val).ext e2).ext e3
    have s := (s.val).ext e3
    have t := t.val
    split at p3
    · cases r
      cases s
      cases t
      split at p3
      · rename_i i j hr
        have q := rngOk_iff hr
        exact ⟨i, j, -1, (i - j).toNat, rfl, RgC.neg q.1 q.2.1 q.2.2.1 q.2.2.2, p3.here R3 _ (walkD_range3 _ _ _)⟩
      · exact p3.elim
    · exact p3.elim⟩⟩⟩
end
end VS
set_option Elab.async false
set_option linter.all false
set_option maxRecDepth 100000
/-! VsH: targets; comprehensions. -/
namespace VS
open PySem PySem.Spec PyProof.Rows L2

section
variable {c : Cf} {xf : Xf} {B : Bs} {W : WX} {σ σ' τ : L2.St} {F F' : Addr → Prop} {H H' : Hp} {ρ ρ' ρ0 : En} {X : Cx} {vs : List Nat}
/-! ### forgotten slots -/
theorem wipeE_length : ∀ (vs : List Nat), (wipeE ρ vs).length = ρ.length
  | [] => rfl
  | v :: vs => by unfold wipeE; rw [List.length_set, wipeE_length vs]
theorem wipeE_out {i : Nat} : ∀ {vs : List Nat}, i ∉ vs → (wipeE ρ vs)[i]? = ρ[i]?
  | [], _ => rfl
  | v :: vs, h => by
    unfold wipeE
    rw [List.getElem?_set_ne (fun z : v = i => h (z ▸ List.mem_cons_self)), wipeE_out fun z => h (List.mem_cons_of_mem _ z)]
theorem wipeE_in {i : Nat} {s : Sl} : ∀ {vs : List Nat}, i ∈ vs → (wipeE ρ vs)[i]? = some s → s = .no
  | [], h, _ => nomatch h
  | v :: vs, h, e => by
    unfold wipeE at e
    by_cases hv : v = i
    · subst hv
      by_cases hl : v < (wipeE ρ vs).length
      · rw [List.getElem?_set_self hl] at e; cases e; rfl
      · rw [List.getElem?_eq_none (by rw [List.length_set]; omega)] at e; cases e
    · rw [List.getElem?_set_ne hv] at e
      exact wipeE_in ((List.mem_cons.mp h).resolve_left fun z => hv z.symm) e
theorem noOwn_at {i : Nat} {s : Sl} : ∀ {vs : List Nat}, noOwn ρ vs = true → i ∈ vs → ρ[i]? = some s → s.mine = false
  | [], _, h, _ => nomatch h
  | v :: vs, hn, h, e => by
    simp only [noOwn, Bool.and_eq_true] at hn
    rcases List.mem_cons.mp h with z | z
    · subst z
      rw [e] at hn
      cases s <;> simp_all [Sl.mine]
    · exact noOwn_at hn.2 z e
theorem wipe_out {i : Nat} : ∀ {vs : List Nat}, i ∉ vs → (L2.wipe σ vs)[i]? = σ[i]?
  | [], _ => rfl
  | v :: vs, h => by
    unfold L2.wipe
    rw [List.getElem?_set_ne (fun z : v = i => h (z ▸ List.mem_cons_self)), wipe_out fun z => h (List.mem_cons_of_mem _ z)]
theorem wipe_in {i : Nat} : ∀ {vs : List Nat}, i ∈ vs → (L2.wipe σ vs)[i]? = if i < σ.length then some none else none
  | [], h => nomatch h
  | v :: vs, h => by
    unfold L2.wipe
    by_cases hv : v = i
    · subst hv
      by_cases hl : v < σ.length
      · rw [List.getElem?_set_self (by rw [wipe_length]; exact hl), if_pos hl]
      · rw [List.getElem?_eq_none (by rw [List.length_set, wipe_length]; omega), if_neg hl]
    · rw [List.getElem?_set_ne hv]
      exact wipe_in ((List.mem_cons.mp h).resolve_left fun z => hv z.symm)
theorem off_wipe {sl : List Nat} (h : Off sl (L2.wipe σ vs) σ') (hs : ∀ j ∈ sl, j ∈ vs) : L2.wipe σ' vs = L2.wipe σ vs := by
  have hl : σ'.length = σ.length := by rw [h.1, wipe_length]
  refine List.ext_getElem? fun j => ?_
  by_cases hj : j ∈ vs
  · rw [wipe_in hj, wipe_in hj, hl]
  · rw [wipe_out hj, h.2 j fun z => hj (hs j z)]
/-- the block's own slots forgotten -/
theorem RSt.wiped (R : RSt c B F ρ σ H) (hn : noOwn ρ vs = true) (hl : τ.length = σ.length) (ht : ∀ j, j ∉ vs → τ[j]? = σ[j]?) : RSt c B F (wipeE ρ vs) τ H := by
  have out : ∀ {i : Nat} {s : Sl}, (wipeE ρ vs)[i]? = some s → s ≠ .no → i ∉ vs ∧ ρ[i]? = some s := fun {i s} e hs => by
    by_cases hi : i ∈ vs
    · exact absurd (wipeE_in hi e) hs
    · rw [wipeE_out hi] at e; exact ⟨hi, e⟩
  have mn : ∀ {s : Sl}, s.mine = true → s ≠ .no := fun {s} h z => by subst z; cases h
  refine ⟨R.wf, fun a ha => ?_, R.live, R.frame, R.sub, R.new, R.dom, by rw [wipeE_length, hl, R.len], fun i s e => ?_, fun i j a s t hij e1 e2 m1 m2 e3 e4 => ?_⟩
  · obtain ⟨i, d, h1, h2⟩ := R.ioat a ha
    have hi : i ∉ vs := fun z => by have := noOwn_at hn z h1; cases this
    exact ⟨i, d, by rw [wipeE_out hi]; exact h1, by rw [ht i hi]; exact h2⟩
  · by_cases hs : s = .no
    · subst hs; trivial
    · obtain ⟨hi, e⟩ := out e hs
      rw [ht i hi]
      exact R.sl i s e
  · obtain ⟨hi, e1⟩ := out e1 (mn m1)
    obtain ⟨hj, e2⟩ := out e2 (mn m2)
    rw [ht i hi] at e3
    rw [ht j hj] at e4
    exact R.apart i j a s t hij e1 e2 m1 m2 e3 e4
theorem backE_length : ∀ (vs : List Nat), (backE ρ0 ρ vs).length = ρ.length
  | [] => rfl
  | v :: vs => by unfold backE; rw [List.length_set, backE_length vs]
theorem backE_out {i : Nat} : ∀ {vs : List Nat}, i ∉ vs → (backE ρ0 ρ vs)[i]? = ρ[i]?
  | [], _ => rfl
  | v :: vs, h => by
    unfold backE
    rw [List.getElem?_set_ne (fun z : v = i => h (z ▸ List.mem_cons_self)), backE_out fun z => h (List.mem_cons_of_mem _ z)]
theorem backE_in {i : Nat} {s : Sl} : ∀ {vs : List Nat}, i ∈ vs → (backE ρ0 ρ vs)[i]? = some s → s = .no ∨ ∃ d, s = .val d ∧ ρ0[i]? = some (.val d)
  | [], h, _ => nomatch h
  | v :: vs, h, e => by
    unfold backE at e
    by_cases hv : v = i
    · subst hv
      by_cases hl : v < (backE ρ0 ρ vs).length
      · rw [List.getElem?_set_self hl] at e
        have e := (Option.some.inj e).symm
        split at e
        · rename_i d q; exact .inr ⟨d, e, q⟩
        · exact .inl e
      · rw [List.getElem?_eq_none (by rw [List.length_set]; omega)] at e; cases e
    · rw [List.getElem?_set_ne hv] at e
      exact backE_in ((List.mem_cons.mp h).resolve_left fun z => hv z.symm) e
/-- back from the block -/
theorem RSt.back {F0 : Addr → Prop} {H0 : Hp} (R0 : RSt c B F0 ρ0 σ H0) (x : Ext F0 H0 F H) (R : RSt c B F ρ (L2.wipe σ vs) H) : RSt c B F (backE ρ0 ρ vs) σ H := by
  have out : ∀ {i : Nat} {s : Sl}, (backE ρ0 ρ vs)[i]? = some s → s.mine = true → i ∉ vs ∧ ρ[i]? = some s := fun {i s} e hs => by
    by_cases hi : i ∈ vs
    · rcases backE_in hi e with z | ⟨d, z, _⟩ <;> (subst z; cases hs)
    · rw [backE_out hi] at e; exact ⟨hi, e⟩
  refine ⟨R.wf, fun a ha => ?_, R.live, R.frame, R.sub, R.new, R.dom, by rw [backE_length, R.len, wipe_length], fun i s e => ?_, fun i j a s t hij e1 e2 m1 m2 e3 e4 => ?_⟩
  · obtain ⟨i, d, h1, h2⟩ := R.ioat a ha
    obtain ⟨h3, hi⟩ := wipe_some h2
    exact ⟨i, d, by rw [backE_out hi]; exact h1, h3⟩
  · by_cases hi : i ∈ vs
    · rcases backE_in hi e with z | ⟨d, z, q⟩
      · subst z; trivial
      · subst z
        obtain ⟨u, h1, h2⟩ := R0.sl i _ q
        exact ⟨u, h1, h2.ext x⟩
    · rw [backE_out hi] at e
      have := R.sl i s e
      rw [wipe_out hi] at this
      exact this
  · obtain ⟨hi, e1⟩ := out e1 m1
    obtain ⟨hj, e2⟩ := out e2 m2
    rw [← wipe_out hi] at e3
    rw [← wipe_out hj] at e4
    exact R.apart i j a s t hij e1 e2 m1 m2 e3 e4
/-- a new object that no slot holds changes -/
theorem RSt.side {p : Addr} {o : HO} (R : RSt c B F ρ σ H) (nF : ¬ F p) (nB : B.H p = none) (ns : ∀ (j : Nat) (s : Sl), ρ[j]? = some s → s.mine = true → σ[j]? ≠ some (some (.ref p))) : RSt c B F ρ σ (upd H p o) := by
  have xe : Ext F H F (upd H p o) := ⟨fun _ h => h, fun a h => upd_ne (fun z => nF (z ▸ h))⟩
  have ow : ∀ {a d}, a ≠ p → Own c F H a d → Own c F (upd H p o) a d := fun {a d} hb q => q.ext xe (upd_ne hb)
  refine ⟨R.wf, R.ioat, fun a ha => ?_, fun a u h1 h2 => ?_, R.sub, R.new, fun a ha => ?_, R.len, fun i s e => ?_, R.apart⟩
  · rw [upd_ne (fun z : a = p => ha (z ▸ nB))]; exact R.live a ha
  · rw [upd_ne (fun z : a = p => by rw [z, nB] at h1; cases h1)]; exact R.frame a u h1 h2
  · rw [upd_ne (fun z : a = p => nF (z ▸ ha))]; exact R.dom a ha
  · have q := R.sl i s e
    cases s with
    | no => trivial
    | val d => obtain ⟨u, h1, h2⟩ := q; exact ⟨u, h1, h2.ext xe⟩
    | own d =>
      obtain ⟨a, h1, h2, h3, h4⟩ := q
      exact ⟨a, h1, h2, h3, ow (fun z => ns i _ e rfl (z ▸ h1)) h4⟩
    | io d =>
      obtain ⟨a, h1, h2, h3, h4⟩ := q
      exact ⟨a, h1, h2, h3, ow (fun z => ns i _ e rfl (z ▸ h1)) h4⟩

/-! ### comprehensions -/
def WF0 : WX := fun _ _ _ _ => False
def tC (c : Cf) (xf : Xf) (B : Bs) (W : WX) (m : En → Out Bool) : TT := fun σ H Q => ∃ F ρ, RSt c B F ρ σ H ∧ Post c xf B W σ F H (fun k ρ' F' H' => Q k H') (m ρ)
def gX (c : Cf) (sl : List Nat) (m : D → En → Out Unit) : TG := fun v σ H Q => ∃ B, tB c B sl m v σ H Q
def ttX (c : Cf) (xf : Xf) (m : En → Out Bool) : TT := fun σ H Q => ∃ B, tC c xf B WF0 m σ H Q
def teX (c : Cf) (xf : Xf) (m : En → Out D) : TE := fun σ H Q => ∃ B, tV c xf B WF0 false m σ H Q
theorem _root_.L2.PG.ex {e : Expr} {sl : List Nat} {m : D → En → Out Unit} (h : ∀ B, PG X e (tB c B sl m)) : PG X e (gX c sl m) := ⟨fun pins s σ H v u Q I r ⟨B, q⟩ => (h B).run pins s σ H v u Q I r q⟩
theorem _root_.L2.PTs.ex {e : List Expr} {m : En → Out Bool} (h : ∀ B, PTs X e (tC c xf B WF0 m)) : PTs X e (ttX c xf m) := ⟨fun pins s σ H Q I ⟨B, q⟩ => (h B).run pins s σ H Q I q⟩
theorem _root_.L2.PE.ex {e : Expr} {m : En → Out D} (h : ∀ B, PE X e (tV c xf B WF0 false m)) : PE X e (teX c xf m) := ⟨fun pins s σ H Q I ⟨B, q⟩ => (h B).run pins s σ H Q I q⟩
theorem lineN_eq : lineN = sizeLine := by rw [sizeLine_eq]; rfl
def turnD (own : List Nat) (bt : D → En → Out Unit) (cs : En → Out Bool) (el : En → Out D) : D → En → Out (Option D) := fun d ρ => (bt d ρ).to fun _ ρ => (cs ρ).to fun k ρ =>
  if k then (el ρ).to fun y ρ => endT own (some y) ρ else endT own none ρ
theorem comp_read {m : En → Out (List D)} {own sl : List Nat} {bt : D → En → Out Unit} {cs : En → Out Bool} {el : En → Out D} {Q : VK} (hsl : ∀ j ∈ sl, j ∈ own)
    (h : tV c xf B W true (fun ρ => (m ρ).to fun ds ρ0 => compEnd own ρ0 (compLoop (turnD own bt cs el) ds (wipeE ρ0 own))) σ H Q) :
    tLc (tI c xf B W m) (gX c sl bt) (ttX c xf cs) (teX c xf el) own σ H Q := by
  obtain ⟨F, ρ, R, p⟩ := h
  refine ⟨F, ρ, R, p.bind fun ds ρ0 F1 H1 x1 R1 p1 J wd A hA => ?_⟩
  unfold compEnd at p1
  cases hl : compLoop (turnD own bt cs el) ds (wipeE ρ0 own) with
  | err e ρE => rw [hl] at p1; exact p1.elim
  | bad => rw [hl] at p1; exact p1.elim
  | ok ys ρE =>
    rw [hl] at p1
    dsimp only at p1
    split at p1
    · rename_i hc
      simp only [Bool.and_eq_true, decide_eq_true_eq] at hc
      obtain ⟨hlen, hno⟩ := hc
      obtain ⟨Y, w, hy⟩ := wd
      have nBA : B.H A = none := by
        cases q : B.H A with
        | none => rfl
        | some u => exact absurd hA (R1.live A (by rw [q]; simp))
      have Rw : RSt c B F1 (wipeE ρ0 own) (L2.wipe σ own) H1 := R1.wiped hno (wipe_length σ own) fun j hj => wipe_out hj
      refine lc_it w (fun i H' => ∃ F' ρ' acc ys1 ys2, Ext F1 H1 F' H' ∧ RSt c B F' ρ' (L2.wipe σ own) H' ∧ H' A = some (.lst acc) ∧ Reps c F' H' acc ys1 ∧ ¬ F' A ∧
        (∀ (j : Nat) (s : Sl), ρ'[j]? = some s → s.mine = true → (L2.wipe σ own)[j]? ≠ some (some (.ref A))) ∧ compLoop (turnD own bt cs el) (ds.drop i) ρ' = .ok ys2 ρE ∧ ys = ys1 ++ ys2) ?_ ?_ ?_ ?_
      · have al : Alloc F1 H1 F1 (upd H1 A (.lst [])) := Alloc.push hA
        refine ⟨F1, wipeE ρ0 own, [], [], ys, al.ext R1.dom, Rw.alloc al, upd_same, .nil, not_F R1.dom hA, fun j s e hm z => ?_, hl, rfl⟩
        obtain ⟨a, d, _, h2, _, _, h5⟩ := Rw.ownAt e hm
        rw [z] at h2; cases h2
        exact h5.dom hA
      · rintro i H' _ ⟨F', ρ', acc, ys1, ys2, x, _⟩
        exact x.keep
      · rintro i x H' H2 hi ⟨F', ρ', acc, ys1, ys2, xe, R', hAa, rA, nA, ns, hlo, hys⟩ hY
        obtain ⟨d, F2, hd, al, rx⟩ := hy i F' H' x H2 xe R'.dom hY
        have R2 := R'.alloc al
        have hA2 : H2 A = some (.lst acc) := al.same A _ hAa
        have nA2 : ¬ F2 A := fun z => (al.new A z).elim nA fun z => by rw [hAa] at z; cases z
        have R3 := R2.rebase
        have e2 := al.ext R'.dom
        have hdrop : ds.drop i = d :: ds.drop (i + 1) := by
          have := (List.getElem?_eq_some_iff.mp hd)
          rw [List.drop_eq_getElem_cons this.1, this.2]
        rw [hdrop] at hlo
        unfold compLoop at hlo
        have nio : ¬ (B.at F2 ρ' (L2.wipe σ own) H2).io A := fun ⟨j, s, h1, h2, h3⟩ => ns j s h1 h2 h3
        -- what holds at any later point of this turn
        have later : ∀ {F5 : Addr → Prop} {ρ5 : En} {σ5 : L2.St} {H5 : Hp}, RSt c (B.at F2 ρ' (L2.wipe σ own) H2) F5 ρ5 σ5 H5 → H5 A = some (.lst acc) ∧ ¬ F5 A ∧ ∀ (j : Nat) (s : Sl), ρ5[j]? = some s → s.mine = true → σ5[j]? ≠ some (some (.ref A)) := fun {F5 ρ5 σ5 H5} R5 => by
          have nmu : ¬ (B.at F2 ρ' (L2.wipe σ own) H2).mu A := fun z => z.elim (fun z => by rw [show (B.at F2 ρ' (L2.wipe σ own) H2).H A = H2 A from rfl, hA2] at z; cases z) fun z => nio z.1
          refine ⟨R5.frame A _ hA2 nio, fun z => (R5.new A z).elim nA2 nmu, fun j s e1 e2 e3 => ?_⟩
          rcases R5.mineMu e1 e2 e3 with z | z
          · exact nmu z
          · exact nio z.2
        refine ⟨B.at F2 ρ' (L2.wipe σ own) H2, F2, ρ', d, R3, rx, ?_⟩
        unfold turnD at hlo
        cases hb : bt d ρ' with
        | bad => rw [hb] at hlo; exact nomatch hlo
        | err e r => rw [hb] at hlo; exact nomatch hlo
        | ok u ρ1 =>
          rw [hb] at hlo
          intro F3 σ3 H3 x3 R4 off
          have hwp := off_wipe off hsl
          have h3l : (L2.wipe σ own).length = σ3.length := off.1.symm
          have h3o : ∀ j, j ∉ own → (L2.wipe σ own)[j]? = σ3[j]? := fun j hj => by rw [← hwp, wipe_out hj]
          refine ⟨hwp, B.at F2 ρ' (L2.wipe σ own) H2, F3, ρ1, R4, ?_⟩
          have hlo : (match (cs ρ1).to fun k ρ => if k then (el ρ).to fun y ρ => endT own (some y) ρ else endT own none ρ with
            | .ok none ρ' => compLoop (turnD own bt cs el) (ds.drop (i + 1)) ρ'
            | .ok (some y) ρ' => (match compLoop (turnD own bt cs el) (ds.drop (i + 1)) ρ' with
              | .ok ys ρ'' => .ok (y :: ys) ρ''
              | _ => .bad)
            | _ => .bad) = Out.ok ys2 ρE := hlo
          cases hcs : cs ρ1 with
          | bad => rw [hcs] at hlo; exact nomatch hlo
          | err e r => rw [hcs] at hlo; exact nomatch hlo
          | ok k ρ2 =>
            rw [hcs] at hlo
            intro F4 H4 x4 R5
            have hlo : (match (if k then (el ρ2).to fun y ρ => endT own (some y) ρ else endT own none ρ2) with
              | .ok none ρ' => compLoop (turnD own bt cs el) (ds.drop (i + 1)) ρ'
              | .ok (some y) ρ' => (match compLoop (turnD own bt cs el) (ds.drop (i + 1)) ρ' with
                | .ok ys ρ'' => .ok (y :: ys) ρ''
                | _ => .bad)
              | _ => .bad) = Out.ok ys2 ρE := hlo
            cases k with
            | false =>
              rw [if_neg (by decide)] at hlo
              dsimp only
              rw [if_neg (by decide)]
              unfold endT at hlo
              by_cases hn : noOwn ρ2 own = true
              · rw [if_pos hn] at hlo
                obtain ⟨l1, l2, l3⟩ := later R5
                have R6 := R2.unbase R5
                refine ⟨F4, wipeE ρ2 own, acc, ys1, ys2, xe.trans (e2.trans (x3.trans x4)), R6.wiped hn h3l h3o, l1, rA.ext (e2.trans (x3.trans x4)), l2, fun j s h1 h2 h3 => ?_, hlo, hys⟩
                by_cases hj : j ∈ own
                · have := wipeE_in hj h1; subst this; cases h2
                · rw [wipeE_out hj] at h1
                  rw [h3o j hj] at h3
                  exact l3 j s h1 h2 h3
              · rw [if_neg hn] at hlo; exact nomatch hlo
            | true =>
              rw [if_pos rfl] at hlo
              dsimp only
              rw [if_pos rfl]
              refine ⟨B.at F2 ρ' (L2.wipe σ own) H2, F4, ρ2, R5, ?_⟩
              cases hel : el ρ2 with
              | bad => rw [hel] at hlo; exact nomatch hlo
              | err e r => rw [hel] at hlo; exact nomatch hlo
              | ok y ρ3 =>
                rw [hel] at hlo
                have hlo : (match endT own (some y) ρ3 with
                  | .ok none ρ' => compLoop (turnD own bt cs el) (ds.drop (i + 1)) ρ'
                  | .ok (some y) ρ' => (match compLoop (turnD own bt cs el) (ds.drop (i + 1)) ρ' with
                    | .ok ys ρ'' => .ok (y :: ys) ρ''
                    | _ => .bad)
                  | _ => .bad) = Out.ok ys2 ρE := hlo
                intro F5 H5 x5 R6 v rv
                unfold endT at hlo
                by_cases hn : noOwn ρ3 own = true
                · rw [if_pos hn] at hlo
                  dsimp only at hlo
                  obtain ⟨l1, l2, l3⟩ := later R6
                  have R7 := R2.unbase R6
                  cases hl2 : compLoop (turnD own bt cs el) (ds.drop (i + 1)) (wipeE ρ3 own) with
                  | bad => rw [hl2] at hlo; exact nomatch hlo
                  | err e r => rw [hl2] at hlo; exact nomatch hlo
                  | ok ys3 ρ4 =>
                    rw [hl2] at hlo
                    cases hlo
                    have xside : Ext F5 H5 F5 (upd H5 A (.lst (acc ++ [v]))) := ⟨fun _ h => h, fun a h => upd_ne (fun z => l2 (z ▸ h))⟩
                    have R8 := (R7.side (o := .lst (acc ++ [v])) l2 nBA l3).wiped hn h3l h3o
                    have xall := (e2.trans (x3.trans x4)).trans (x5.trans xside)
                    refine ⟨acc, l1, ?_, F5, wipeE ρ3 own, acc ++ [v], ys1 ++ [y], ys3, xe.trans xall, R8, upd_same, (rA.ext xall).append (.cons (rv.val.ext xside) .nil), l2, fun j s h1 h2 h3 => ?_, hl2, by rw [hys]; simp⟩
                    · have q := rA.length
                      rw [q, ← lineN_eq]
                      rw [hys, List.length_append, List.length_cons] at hlen
                      omega
                    · by_cases hj : j ∈ own
                      · have := wipeE_in hj h1; subst this; cases h2
                      · rw [wipeE_out hj] at h1
                        rw [h3o j hj] at h3
                        exact l3 j s h1 h2 h3
                · rw [if_neg hn] at hlo; exact nomatch hlo
      · rintro H' ⟨F', ρ', acc, ys1, ys2, xe, R', hAa, rA, nA, ns, hlo, hys⟩
        rw [List.drop_length] at hlo
        unfold compLoop at hlo
        cases hlo
        rw [List.append_nil] at hys
        subst hys
        refine p1 F' H' xe (R1.back xe R') (.ref A) ?_
        unfold Rs
        rw [if_pos (show (true && (D.lst ys).isMut) = true from rfl)]
        refine ⟨A, rfl, nA, nBA, .lst hAa rA, fun j s h1 h2 h3 => ?_⟩
        by_cases hj : j ∈ own
        · rcases backE_in hj h1 with z | ⟨d, z, _⟩ <;> (subst z; cases h2)
        · rw [backE_out hj] at h1
          rw [← wipe_out (vs := own) hj] at h3
          exact ns j s h1 h2 h3
    · exact p1.elim
end
end VS
set_option Elab.async false
set_option linter.all false
set_option maxRecDepth 100000
/-! VsI: targets; statements. -/
namespace VS
open PySem PySem.Spec PyProof.Rows L2

section
variable {c : Cf} {xf : Xf} {B : Bs} {W : WX} {σ σ' τ : L2.St} {F F' : Addr → Prop} {H H' : Hp} {ρ ρ' ρ0 : En} {X : Cx} {vs : List Nat} {pos : Pos}
/-! ### targets -/
theorem setSl_ok {i : Nat} {s : Sl} {u : Unit} (h : setSl i s ρ = .ok u ρ') : i < ρ.length ∧ (∀ d, ρ[i]? ≠ some (.io d)) ∧ ρ' = ρ.set i s := by
  unfold setSl at h
  cases e : ρ[i]? with
  | none => rw [e] at h; cases h
  | some t =>
    rw [e] at h
    have hi := (List.getElem?_eq_some_iff.mp e).1
    cases t with
    | io d => cases h
    | no => cases h; exact ⟨hi, (fun d z => nomatch z), rfl⟩
    | val d => cases h; exact ⟨hi, (fun d z => nomatch z), rfl⟩
    | own d => cases h; exact ⟨hi, (fun d z => nomatch z), rfl⟩
theorem updSl_ok {i : Nat} {f : D → Option D} {u : Unit} (h : updSl i f ρ = .ok u ρ') : ∃ s d x, ρ[i]? = some s ∧ s.mine = true ∧ s.get? = some d ∧ f d = some x ∧ ρ' = ρ.set i (s.put x) := by
  unfold updSl at h
  cases e : ρ[i]? with
  | none => rw [e] at h; cases h
  | some t =>
    rw [e] at h
    cases t with
    | no => cases h
    | val d => cases h
    | own d =>
      dsimp only at h
      cases q : f d with
      | none => rw [q] at h; cases h
      | some x => rw [q] at h; cases h; exact ⟨_, d, x, rfl, rfl, rfl, q, rfl⟩
    | io d =>
      dsimp only at h
      cases q : f d with
      | none => rw [q] at h; cases h
      | some x => rw [q] at h; cases h; exact ⟨_, d, x, rfl, rfl, rfl, q, rfl⟩
theorem pg_nameD {i : Nat} {x : Str} (hN : X.N.Nodup) (hi : X.N[i]? = some x) (hx : Loc X.env.scope x) (hf : X.fn x = true ∨ X.env.scope.names.lookup x = some .local) : PG X (.Name x pos) (tB c B [i] (fun d ρ => setSl i (.val d) ρ)) :=
  (pg_name hN hi hx hf).imp fun v σ H Q ⟨F, ρ, d, R, r, p⟩ => by
    dsimp only at p
    cases e : setSl i (.val d) ρ with
    | ok u ρ1 =>
      rw [e] at p
      obtain ⟨h1, h2, rfl⟩ := setSl_ok e
      exact p F _ H (Ext.refl F H) (R.store (s := .val d) ⟨v, rfl, r⟩ (fun z => nomatch z) h1 h2) ⟨by rw [List.length_set], fun j hj => List.getElem?_set_ne fun z => hj (by rw [z]; exact List.mem_singleton_self _)⟩
    | err e' r' => rw [e] at p; exact p.elim
    | bad => rw [e] at p; exact p.elim
theorem _root_.L2.PGs.imp {es : List Expr} {t t' : TGs} (h : PGs X es t) (w : ∀ v σ H Q, t' v σ H Q → t v σ H Q) : PGs X es t' := ⟨fun pins s σ H v u Q I r q => h.run pins s σ H v u Q I r (w v σ H Q q)⟩
theorem pgs_nilD : PGs X [] (tBs c B [] (fun ds ρ => match ds with | [] => .ok () ρ | _ => .bad)) := pgs_nil.imp fun v σ H Q ⟨F, ρ, ds, R, r, p⟩ => by
  cases r with
  | nil => exact ⟨rfl, p F σ H (Ext.refl F H) R (Off.refl _ _)⟩
  | cons r rs => exact p.elim
theorem pgs_consD {e : Expr} {es : List Expr} {sl sls : List Nat} {m : D → En → Out Unit} {ms : List D → En → Out Unit} (h1 : PG X e (tB c B sl m)) (h2 : PGs X es (tBs c B sls ms))
    (hs : (assignEach (e :: es) X.env).map (·.2) = assign e X.env :: (assignEach es X.env).map (·.2)) :
    PGs X (e :: es) (tBs c B (sl ++ sls) (fun ds ρ => match ds with | d :: ds => (m d ρ).to fun _ ρ => ms ds ρ | [] => .bad)) := (pgs_cons h1 h2 hs).imp fun v σ H Q ⟨F, ρ, ds, R, r, p⟩ => by
  cases r with
  | nil => exact p.elim
  | @cons v1 vs1 d ds r rs =>
    refine ⟨v1, vs1, rfl, F, ρ, d, R, r, ?_⟩
    have p : PostB c B σ F H (sl ++ sls) Q ((m d ρ).to fun _ ρ => ms ds ρ) := p
    cases q : m d ρ with
    | ok u ρ1 =>
      rw [q] at p
      intro F1 σ1 H1 x1 R1 o1
      refine ⟨F1, ρ1, ds, R1, rs.ext x1, ?_⟩
      have p : PostB c B σ F H (sl ++ sls) Q (ms ds ρ1) := p
      cases q2 : ms ds ρ1 with
      | ok u2 ρ2 => rw [q2] at p; exact fun F2 σ2 H2 x2 R2 o2 => p F2 σ2 H2 (x1.trans x2) R2 (o1.app o2)
      | err e r => rw [q2] at p; exact p.elim
      | bad => rw [q2] at p; exact p.elim
    | err e r => rw [q] at p; exact p.elim
    | bad => rw [q] at p; exact p.elim
theorem pg_tupD {es : List Expr} {k : Nat} {sl : List Nat} {ms : List D → En → Out Unit} {n : Nat} (hK : X.K = c.K) (hc : X.calm = true) (h : PGs X es (tBs c B sl ms)) (hn : (assignEach es X.env).length = n) (hst : (assignEach es X.env).findIdx? (·.1) = none)
    (hl : ∀ ds ρ u ρ', ms ds ρ = .ok u ρ' → ds.length = n) : PG X (.Tuple es k pos) (tB c B sl (fun d ρ => match d with | .tup ds => ms ds ρ | _ => .bad)) := (pg_tup hc h hn hst).imp fun v σ H Q ⟨F, ρ, d, R, r, p⟩ => by
  cases d with
  | tup ds =>
    obtain ⟨a, xs, rfl, q, rs⟩ := r.seqT
    have p : PostB c B σ F H sl Q (ms ds ρ) := p
    refine ⟨a, xs, rfl, hK ▸ q, ?_, F, ρ, ds, R, rs, p⟩
    rw [rs.length]
    cases q2 : ms ds ρ with
    | ok u2 ρ2 => exact hl _ _ _ _ q2
    | err e r => rw [q2] at p; exact p.elim
    | bad => rw [q2] at p; exact p.elim
  | _ => exact p.elim
theorem pg_ixD {o i : Expr} {j : Nat} {m : En → Out D} (ho : PE X o (tVar j)) (hi : PE X i (tV c xf B W false m))
    (ha : ∀ v, assign (.Subscript o i pos) X.env v = (do
      let ov ← holding [v] (eval o X.env)
      let iv ← holding [v, ov] (eval i X.env)
      standAt pos
      holding [v, ov, iv] (setItem ov iv v)
      release [v, ov, iv] [])) : PG X (.Subscript o i pos) (tB c B [] (fun d ρ => if lstAt j ρ then (match m ρ with | .ok k ρ => updSl j (fun c => storeD c k d) ρ | _ => .bad) else .bad)) :=
  (pg_sub ho hi set_list ha).imp fun v σ H Q ⟨F, ρ, d, R, r, p⟩ => by
    dsimp only at p
    by_cases hl : lstAt j ρ = true
    · rw [if_pos hl] at p
      have key : ∃ a, σ[j]? = some (some (.ref a)) := by
        unfold lstAt at hl
        split at hl
        · rename_i ds e; obtain ⟨a, h1, _⟩ := R.sl j _ e; exact ⟨a, h1⟩
        · rename_i ds e; obtain ⟨a, h1, _⟩ := R.sl j _ e; exact ⟨a, h1⟩
        · cases hl
      obtain ⟨a, ha⟩ := key
      refine ⟨.ref a, ha, F, ρ, R, ?_⟩
      cases q : m ρ with
      | err e r => rw [q] at p; exact p.elim
      | bad => rw [q] at p; exact p.elim
      | ok k ρ1 =>
        rw [q] at p
        intro F1 H1 x1 R1 w rw_
        have rw_ := rw_.val
        have p : PostB c B σ F H [] Q (updSl j (fun c => storeD c k d) ρ1) := p
        cases q2 : updSl j (fun c => storeD c k d) ρ1 with
        | err e r => rw [q2] at p; exact p.elim
        | bad => rw [q2] at p; exact p.elim
        | ok u2 ρ2 =>
          rw [q2] at p
          obtain ⟨s, cd, x, e1, e2, e3, e4, rfl⟩ := updSl_ok q2
          obtain ⟨b, cd', g1, g2, g3, g4, g5⟩ := R1.ownAt e1 e2
          rw [ha] at g2
          cases g2
          rw [e3] at g1; cases g1
          unfold storeD at e4
          cases cd with
          | lst ds =>
            cases k with
            | int z =>
              cases g5 with
              | lst gh gr =>
                rename_i xs
                dsimp only at e4
                cases q3 : ixN ds.length z with
                | none => rw [q3] at e4; cases e4
                | some n =>
                  rw [q3] at e4
                  cases e4
                  cases rw_
                  refine ⟨a, xs, z, n, rfl, rfl, gh, by rw [gr.length]; exact q3, ?_⟩
                  have al : AllocBut a F1 H1 F1 (upd H1 a (.lst (xs.set n v))) := ⟨fun _ h => h, fun _ h => .inl h, fun _ h => .inl h, fun b o hb h => by rw [upd_ne hb]; exact h⟩
                  have xe := al.ext R1.dom g3
                  refine p F1 σ _ (x1.trans xe) (R1.change e1 e2 ha al g3 (.lst upd_same ((gr.set n (r.ext x1)).ext xe)) rfl) (Off.refl _ _)
            | _ => cases e4
          | _ => cases e4
    · rw [if_neg hl] at p; exact p.elim

/-! ### statements -/
/-- what is returned -/
def Rt (c : Cf) (B : Bs) (F : Addr → Prop) (H : Hp) (ro : Bool) (v : V) (d : D) : Prop := if ro && d.isMut then ∃ a, v = .ref a ∧ ¬ F a ∧ B.H a = none ∧ Own c F H a d else Rep c F H v d
variable (c xf B W) in
def PostS (ro : Bool) (D : Ends) (F : Addr → Prop) (H : Hp) : Out Fl → Prop
  | .ok .nx ρ => ∀ F' σ' H', Ext F H F' H' → RSt c B F' ρ σ' H' → D.nx σ' H'
  | .ok .bk ρ => ∀ F' σ' H', Ext F H F' H' → RSt c B F' ρ σ' H' → D.bk σ' H'
  | .ok .ct ρ => ∀ F' σ' H', Ext F H F' H' → RSt c B F' ρ σ' H' → D.ct σ' H'
  | .ok (.ret d) ρ => ∀ F' σ' H' v, Ext F H F' H' → RSt c B F' ρ σ' H' → Rt c B F' H' ro v d → D.rt v H'
  | .err e ρ => ∀ F' σ' H' cls dd, Ext F H F' H' → RSt c B F' ρ σ' H' → ExOk xf e cls dd H' → W cls dd σ' H'
  | .bad => False
variable (c xf B W) in
def tS (ro : Bool) (m : En → Out Fl) : TS := fun D σ H => ∃ F ρ, RSt c B F ρ σ H ∧ PostS c xf B W ro D F H (m ρ)
theorem PostS.ext {ro : Bool} {D : Ends} {m : Out Fl} (x : Ext F H F' H') (h : PostS c xf B W ro D F H m) : PostS c xf B W ro D F' H' m := by
  cases m with
  | ok f ρ =>
    cases f with
    | nx => exact fun F2 σ2 H2 y R => h F2 σ2 H2 (x.trans y) R
    | bk => exact fun F2 σ2 H2 y R => h F2 σ2 H2 (x.trans y) R
    | ct => exact fun F2 σ2 H2 y R => h F2 σ2 H2 (x.trans y) R
    | ret d => exact fun F2 σ2 H2 v y R => h F2 σ2 H2 v (x.trans y) R
  | err e ρ => exact fun F2 σ2 H2 cls dd y R => h F2 σ2 H2 cls dd (x.trans y) R
  | bad => exact h
theorem PostS.to {α : Type} {ro : Bool} {D : Ends} {m : Out α} {f : α → En → Out Fl} (h : PostS c xf B W ro D F H (m.to f)) : Post c xf B W σ F H (fun a ρ' F' H' => PostS c xf B W ro D F' H' (f a ρ')) m := by
  cases m with
  | ok a ρ => exact fun F2 H2 y R => PostS.ext y h
  | err e ρ => exact fun F2 H2 cls dd y R => h F2 σ H2 cls dd y R
  | bad => exact h
theorem PostS.bind {α : Type} {ro : Bool} {D : Ends} {k' : α → En → (Addr → Prop) → Hp → Prop} {m : Out α} {f : α → En → Out Fl} (h : PostS c xf B W ro D F H (m.to f))
    (q : ∀ a ρ F' H', Ext F H F' H' → RSt c B F' ρ σ H' → PostS c xf B W ro D F' H' (f a ρ) → k' a ρ F' H') : Post c xf B W σ F H k' m := h.to.mono q
variable {ro : Bool} {e : Expr}
/-- name = e -/
theorem name_read {i : Nat} {fr : Bool} {m : En → Out D} {D : Ends} (h : tS c xf B W ro (fun ρ => (m ρ).to fun d ρ => (match setSl i (mkSl fr d) ρ with | .ok _ ρ => .ok .nx ρ | _ => .bad)) D σ H) : tAsg (tV c xf B W fr m) (gName i) D σ H := by
  obtain ⟨F, ρ, R, p⟩ := h
  refine ⟨F, ρ, R, p.bind fun d ρ1 F1 H1 x1 R1 p1 v r => ?_⟩
  cases q : setSl i (mkSl fr d) ρ1 with
  | err e r => rw [q] at p1; exact p1.elim
  | bad => rw [q] at p1; exact p1.elim
  | ok u ρ2 =>
    rw [q] at p1
    obtain ⟨h1, h2, rfl⟩ := setSl_ok q
    refine p1 F1 _ H1 (Ext.refl F1 H1) (R1.store (s := mkSl fr d) ?_ ?_ h1 h2)
    · unfold Rs at r
      unfold mkSl
      split at r
      · rename_i hm
        rw [if_pos hm]
        obtain ⟨a, rfl, na, bn, o, ap⟩ := r
        exact ⟨a, rfl, na, .inl bn, o⟩
      · rename_i hm
        rw [if_neg hm]
        exact ⟨v, rfl, r⟩
    · intro hm a ha j t e1 e2 e3
      unfold Rs at r
      unfold mkSl at hm
      split at r
      · obtain ⟨a', rfl, na, bn, o, ap⟩ := r
        cases ha
        exact ap j t e1 e2 e3
      · rename_i hn
        rw [if_neg hn] at hm
        cases hm
/-- target = e -/
theorem ps_asgD {tg : Expr} {sl : List Nat} {m : En → Out D} {bt : D → En → Out Unit} (he : PE X e (tV c xf B W false m)) (hg : PG X tg (tB c B sl bt)) (hs : swapsWithSole [tg] e pos.line X.env = pure false) (hw : swappedStores [tg] e X.env = pure none)
    (h1 : (assignEach [tg] X.env).map (·.2) = [assign tg X.env]) : PS X (.Assign [tg] e pos) (tS c xf B W ro (fun ρ => (m ρ).to fun d ρ => (match bt d ρ with | .ok _ ρ => .ok .nx ρ | _ => .bad))) := (ps_asg he hg hs hw h1).imp fun D σ H ⟨F, ρ, R, p⟩ =>
  ⟨F, ρ, R, p.bind fun d ρ1 F1 H1 x1 R1 p1 v r => ⟨F1, ρ1, d, R1, r.val, by
    cases q : bt d ρ1 with
    | ok u ρ2 => rw [q] at p1; exact fun F2 σ2 H2 x2 R2 _ => p1 F2 σ2 H2 x2 R2
    | err e r => rw [q] at p1; exact p1.elim
    | bad => rw [q] at p1; exact p1.elim⟩⟩
theorem ps_exD {m : En → Out D} {fr : Bool} (he : PE X e (tV c xf B W fr m)) (hs : swapsWith e none pos.line X.env = pure false) : PS X (.Expr e pos) (tS c xf B W ro (fun ρ => (m ρ).to fun d ρ => .ok .nx ρ)) := (ps_expr he hs).imp fun D σ H ⟨F, ρ, R, p⟩ =>
  ⟨F, ρ, R, p.bind fun d ρ1 F1 H1 x1 R1 p1 v r => p1 F1 σ H1 (Ext.refl F1 H1) R1⟩
theorem ps_pasD : PS X (.Pass pos) (tS c xf B W ro (fun ρ => .ok .nx ρ)) := ps_pass.imp fun D σ H ⟨F, ρ, R, p⟩ => p F σ H (Ext.refl F H) R
theorem ps_docD {x j pos'} : PS X (.Expr (.Constant (.str x) j pos) pos') (tS c xf B W ro (fun ρ => .ok .nx ρ)) := ps_doc.imp fun D σ H ⟨F, ρ, R, p⟩ => p F σ H (Ext.refl F H) R
theorem ps_brkD : PS X (.Break pos) (tS c xf B W ro (fun ρ => .ok .bk ρ)) := ps_break.imp fun D σ H ⟨F, ρ, R, p⟩ => p F σ H (Ext.refl F H) R
theorem ps_cntD : PS X (.Continue pos) (tS c xf B W ro (fun ρ => .ok .ct ρ)) := ps_continue.imp fun D σ H ⟨F, ρ, R, p⟩ => p F σ H (Ext.refl F H) R
theorem Rt.rep {v : V} {d : D} (h : Rep c F H v d) (n : (ro && d.isMut) = false) : Rt c B F H ro v d := by unfold Rt; rw [n]; exact h
theorem ps_retnD : PS X (.Return none pos) (tS c xf B W ro (fun ρ => .ok (.ret .non) ρ)) := ps_retN.imp fun D σ H ⟨F, ρ, R, p⟩ => p F σ H .non (Ext.refl F H) R (Rt.rep .non (Bool.and_false _))
/-- return e, the answer frozen -/
theorem ps_retD {m : En → Out D} (he : PE X e (tV c xf B W false m)) : PS X (.Return (some e) pos) (tS c xf B W false (fun ρ => (m ρ).to fun d ρ => .ok (.ret d) ρ)) := (ps_ret he).imp fun D σ H ⟨F, ρ, R, p⟩ =>
  ⟨F, ρ, R, p.bind fun d ρ1 F1 H1 x1 R1 p1 v r => p1 F1 σ H1 v (Ext.refl F1 H1) R1 (Rt.rep r.val (Bool.false_and _))⟩
/-- return e, a changeable answer new -/
theorem ps_retO {m : En → Out D} {fr : Bool} (he : PE X e (tV c xf B W fr m)) : PS X (.Return (some e) pos) (tS c xf B W true (fun ρ => (m ρ).to fun d ρ => if d.isMut && !fr then .bad else .ok (.ret d) ρ)) := (ps_ret he).imp fun D σ H ⟨F, ρ, R, p⟩ =>
  ⟨F, ρ, R, p.bind fun d ρ1 F1 H1 x1 R1 p1 v r => by
    by_cases hm : (d.isMut && !fr) = true
    · rw [if_pos hm] at p1; exact p1.elim
    · rw [if_neg hm] at p1
      refine p1 F1 σ H1 v (Ext.refl F1 H1) R1 ?_
      unfold Rs at r
      unfold Rt
      cases hd : d.isMut with
      | false => rw [hd, Bool.and_false, if_neg (by decide)] at r; rw [if_neg (by decide)]; exact r
      | true =>
        rw [hd] at hm r
        cases fr with
        | false => exact absurd rfl hm
        | true =>
          rw [if_pos (Bool.and_self true)] at r
          rw [if_pos (Bool.and_self true)]
          obtain ⟨a, rfl, na, bn, o, ap⟩ := r
          exact ⟨a, rfl, na, bn, o⟩⟩
/-- return x, the object in the slot -/
theorem ps_retV {i : Nat} (hB : ∀ a, B.io a → B.ia = some a) (he : PE X e (tVar i)) : PS X (.Return (some e) pos) (tS c xf B W true (fun ρ => match ρ[i]? with
    | some (.own d) => .ok (.ret d) ρ
    | some (.val d) => if d.isMut then .bad else .ok (.ret d) ρ
    | _ => .bad)) := (ps_ret he).imp fun D σ H ⟨F, ρ, R, p⟩ => by
  dsimp only at p
  cases q : ρ[i]? with
  | none => rw [q] at p; exact p.elim
  | some s =>
    rw [q] at p
    cases s with
    | no => exact p.elim
    | io d => exact p.elim
    | val d =>
      obtain ⟨u, h1, h2⟩ := R.sl i _ q
      refine ⟨u, h1, ?_⟩
      dsimp only at p
      cases hd : d.isMut with
      | true => rw [if_pos hd] at p; exact p.elim
      | false => rw [if_neg (by rw [hd]; decide)] at p; exact p F σ H u (Ext.refl F H) R (Rt.rep h2 (by rw [hd, Bool.and_false]))
    | own d =>
      obtain ⟨a, h1, h2, h3, h4⟩ := R.sl i _ q
      refine ⟨.ref a, h1, p F σ H _ (Ext.refl F H) R ?_⟩
      unfold Rt
      rw [h4.mut, if_pos (Bool.and_self true)]
      refine ⟨a, rfl, h2, ?_, h4⟩
      rcases h3 with h3 | h3
      · exact h3
      · exact absurd (hB a h3.1) h3.2
theorem ps_ifD {cc : Expr} {a b : List Stmt} {mc : En → Out D} {ma mb : En → Out Fl} (hc : PT X cc (tT c xf B W mc)) (ha : PSs X a (tS c xf B W ro ma)) (hb : PSs X b (tS c xf B W ro mb)) :
    PS X (.If cc a b pos) (tS c xf B W ro (fun ρ => (mc ρ).to fun d ρ => (match d with | .bl true => ma ρ | .bl false => mb ρ | _ => .bad))) := (ps_if hc ha hb).imp fun D σ H ⟨F, ρ, R, p⟩ =>
  ⟨F, ρ, R, p.bind fun d ρ1 F1 H1 x1 R1 p1 => by
    cases d with
    | bl k =>
      refine ⟨k, rfl, ?_⟩
      cases k with
      | true => exact ⟨F1, ρ1, R1, p1⟩
      | false => exact ⟨F1, ρ1, R1, p1⟩
    | _ => exact p1.elim⟩
theorem pss_nilD : PSs X [] (tS c xf B W ro (fun ρ => .ok .nx ρ)) := pss_nil.imp fun D σ H ⟨F, ρ, R, p⟩ => p F σ H (Ext.refl F H) R
theorem pss_consD {st : Stmt} {rest : List Stmt} {m ms : En → Out Fl} (h1 : PS X st (tS c xf B W ro m)) (h2 : PSs X rest (tS c xf B W ro ms)) :
    PSs X (st :: rest) (tS c xf B W ro (fun ρ => (m ρ).to fun f ρ => (match f with | .nx => ms ρ | f => .ok f ρ))) := (pss_cons h1 h2).imp fun D σ H ⟨F, ρ, R, p⟩ => ⟨F, ρ, R, by
  dsimp only at p
  cases q : m ρ with
  | bad => rw [q] at p; exact p
  | err e r => rw [q] at p; exact p
  | ok f ρ1 =>
    rw [q] at p
    cases f with
    | nx => exact fun F1 σ1 H1 x1 R1 => ⟨F1, ρ1, R1, PostS.ext x1 p⟩
    | bk => exact p
    | ct => exact p
    | ret d => exact p⟩
/-! ### loops -/
theorem ps_forD {iter tg : Expr} {body : List Stmt} {mi : En → Out (List D)} {sl : List Nat} {bt : D → En → Out Unit} {mb : En → Out Fl} (hp : PassesOwn (model X.prog X.w) X.A X.env X.xe) (hc : X.calm = true) (hi : PI X tg iter (tI c xf B W mi)) (hg : PG X tg (tB c B sl bt)) (hb : PSs X body (tS c xf B W ro mb))
    (hs : ∀ x, foldedSetIterable iter X.env x = pure x) : PS X (.For tg iter body [] pos) (tS c xf B W ro (fun ρ => (mi ρ).to fun ds ρ => forLoop (fun d ρ => (match bt d ρ with | .ok _ ρ => mb ρ | _ => .bad)) ds ρ)) := (ps_for hp hc hi hg hb hs).imp fun D σ H ⟨F, ρ, R, p⟩ =>
  ⟨F, ρ, R, p.bind fun ds ρ1 F1 H1 x1 R1 p1 J wd => by
    obtain ⟨Y, w, hy⟩ := wd
    refine for_it w (fun i σ' H' => ∃ F' ρ', Ext F1 H1 F' H' ∧ RSt c B F' ρ' σ' H' ∧ PostS c xf B W ro D F' H' (forLoop (fun d ρ => (match bt d ρ with | .ok _ ρ => mb ρ | _ => .bad)) (ds.drop i) ρ')) ⟨F1, ρ1, Ext.refl _ _, R1, p1⟩ ?_ ?_ ?_
    · rintro i σ' H' _ ⟨F', ρ', x, _⟩
      exact x.keep
    · rintro i x σ' H' H2 hi ⟨F', ρ', xe, R', p'⟩ hY
      obtain ⟨d, F2, hd, al, rx⟩ := hy i F' H' x H2 xe R'.dom hY
      have R2 := R'.alloc al
      have e2 := al.ext R'.dom
      have hdrop : ds.drop i = d :: ds.drop (i + 1) := by
        have := (List.getElem?_eq_some_iff.mp hd)
        rw [List.drop_eq_getElem_cons this.1, this.2]
      rw [hdrop] at p'
      unfold forLoop at p'
      refine ⟨F2, ρ', d, R2, rx, ?_⟩
      cases hb : bt d ρ' with
      | bad => rw [hb] at p'; exact p'.elim
      | err e r => rw [hb] at p'; exact p'.elim
      | ok u ρ3 =>
        rw [hb] at p'
        dsimp only at p'
        intro F3 σ3 H3 x3 R3 _
        refine ⟨F3, ρ3, R3, ?_⟩
        cases hm : mb ρ3 with
        | bad => rw [hm] at p'; exact p'.elim
        | err e r => rw [hm] at p'; exact fun F4 σ4 H4 cls dd x4 R4 ex => p' F4 σ4 H4 cls dd ((e2.trans x3).trans x4) R4 ex
        | ok f ρ4 =>
          rw [hm] at p'
          cases f with
          | nx => exact fun F4 σ4 H4 x4 R4 => ⟨F4, ρ4, (xe.trans (e2.trans x3)).trans x4, R4, PostS.ext ((e2.trans x3).trans x4) p'⟩
          | ct => exact fun F4 σ4 H4 x4 R4 => ⟨F4, ρ4, (xe.trans (e2.trans x3)).trans x4, R4, PostS.ext ((e2.trans x3).trans x4) p'⟩
          | bk => exact fun F4 σ4 H4 x4 R4 => p' F4 σ4 H4 ((e2.trans x3).trans x4) R4
          | ret d => exact fun F4 σ4 H4 v x4 R4 => p' F4 σ4 H4 v ((e2.trans x3).trans x4) R4
    · rintro σ' H' ⟨F', ρ', xe, R', p'⟩
      rw [List.drop_length] at p'
      unfold forLoop at p'
      exact p' F' σ' H' (Ext.refl _ _) R'⟩
theorem ps_whlD {cc : Expr} {body : List Stmt} {mc : En → Out D} {mb : En → Out Fl} {n : Nat} (hp : PassesOwn (model X.prog X.w) X.A X.env X.xe) (hc : PT X cc (tT c xf B W mc)) (hb : PSs X body (tS c xf B W ro mb)) :
    PS X (.While cc body [] pos) (tS c xf B W ro (fun ρ => whlLoop mc mb n ρ)) := (ps_while hp hc hb).imp fun D σ H ⟨F, ρ, R, p⟩ => by
  refine ⟨fun m σ' H' => ∃ F' ρ', RSt c B F' ρ' σ' H' ∧ PostS c xf B W ro D F' H' (whlLoop mc mb m ρ'), ⟨n, F, ρ, R, p⟩, ?_⟩
  rintro m σ1 H1 ⟨F1, ρ1, R1, p1⟩
  refine ⟨F1, ρ1, R1, ?_⟩
  cases m with
  | zero => exact p1.elim
  | succ m =>
    unfold whlLoop at p1
    cases q : mc ρ1 with
    | bad => rw [q] at p1; exact p1.elim
    | err e r => rw [q] at p1; exact fun F2 H2 cls dd x2 R2 ex => p1 F2 σ1 H2 cls dd x2 R2 ex
    | ok d ρ2 =>
      rw [q] at p1
      cases d with
      | bl k =>
        intro F2 H2 x2 R2
        refine ⟨k, rfl, ?_⟩
        cases k with
        | false => exact p1 F2 σ1 H2 x2 R2
        | true =>
          rw [if_pos rfl]
          refine ⟨fun σ' H' => ∃ F' ρ', RSt c B F' ρ' σ' H' ∧ PostS c xf B W ro D F' H' (whlLoop mc mb m ρ'), fun σ' H' h => ⟨m, Nat.lt_succ_self m, h⟩, F2, ρ2, R2, ?_⟩
          dsimp only at p1
          cases q2 : mb ρ2 with
          | bad => rw [q2] at p1; exact p1.elim
          | err e r => rw [q2] at p1; exact fun F3 σ3 H3 cls dd x3 R3 ex => p1 F3 σ3 H3 cls dd (x2.trans x3) R3 ex
          | ok f ρ3 =>
            rw [q2] at p1
            cases f with
            | nx => exact fun F3 σ3 H3 x3 R3 => ⟨F3, ρ3, R3, PostS.ext (x2.trans x3) p1⟩
            | ct => exact fun F3 σ3 H3 x3 R3 => ⟨F3, ρ3, R3, PostS.ext (x2.trans x3) p1⟩
            | bk => exact fun F3 σ3 H3 x3 R3 => p1 F3 σ3 H3 (x2.trans x3) R3
            | ret d => exact fun F3 σ3 H3 v x3 R3 => p1 F3 σ3 H3 v (x2.trans x3) R3
      | _ => exact p1.elim
end
end VS
set_option Elab.async false
set_option linter.all false
set_option maxRecDepth 100000
/-! VsJ: methods, several names at once, comprehensions as expressions, raise. -/
namespace VS
open PySem PySem.Spec PyProof.Rows L2

set_option maxHeartbeats 4000000 in
/-- xs.extend(t), t a tuple, however it stands -/
theorem ext_tup (l b : Addr) (xa ya : Array Value) (n m : Nat) (od : Option Addr) (osl : Array (Option Value)) (z0 : ¬(!xa.isEmpty && Builtin.List.listTooLong (xa.size + ya.size)) = true) (z1 : xa.size ≤ sizeLine) (z2 : xa.size + ya.size ≤ sizeLine + 1) :
    Meets (Builtin.«list.extend» ⟨[.ref l, .ref b], []⟩) fun _ R s => s.heap.get? l = some ⟨.type "list", none, .seq xa n, #[]⟩ ∧ s.heap.get? b = some ⟨.type "tuple", od, .seq ya m, osl⟩ ∧
      R (.ok (.ret Value.none)) { s with heap := s.heap.update l (Obj.mapSeq fun x => x ++ ya), toks := s.toks } := by
  refine Meets.of_wp fun prog w A R s hyp => ?_
  obtain ⟨h1, h2, h3, h4, h5⟩ := s
  obtain ⟨gl, gb, hyp⟩ := hyp
  have k1 := AutoSeq1.idx_int
  have k2 := AutoSeq1.sub_tuple_tuple
  have k3 := AutoSeq1.sub_list_list
  have k4 := AutoSeq1.sub_tuple_list
  have k5 := AutoSeq1.sub_list_tuple
  have k6 : (xa ++ ya).size ≤ sizeLine + 1 := by rw [Array.size_append]; exact z2
  wp_walk using (wpAny_updateSeq gl rfl (hz := z1) (_hz' := k6)), AutoSeq1.wpAny_loadPart' gl, AutoSeq1.wpAny_loadPart' gb
  exact ⟨_, rfl, hyp⟩
/-- what xs.extend asks: a list or a tuple behind it -/
def rExt (K : PySem.W.Frag) : V → List V → Hp → VK → Prop := fun x vs H Q => ∃ l b xs zs, x = .ref l ∧ vs = [.ref b] ∧ H l = some (.lst xs) ∧ (H b = some (.lst zs) ∨ SqT K H b zs) ∧ xs.length + zs.length ≤ sizeLine ∧ Q .non (upd H l (.lst (xs ++ zs)))
theorem mt_ext {X : Cx} : MtM X "list.extend" (rExt X.K) := by
  intro pins s σ H x vs v us Q I rx rv h
  obtain ⟨l, b, xs, zs, rfl, rfl, hH, hB, hz, q⟩ := h
  rcases hB with hB | hB
  · exact mt_extend pins s σ H _ _ v us Q I rx rv ⟨l, b, xs, zs, rfl, rfl, hH, hB, hz, q⟩
  · cases rx
    obtain ⟨u, rfl, ru⟩ := rv.one
    cases ru
    obtain ⟨z, ia, n, r, hl, e⟩ := I.lstM hH
    obtain ⟨ib, r2, ⟨⟨oc, od, dt, osl⟩, e2, o1, m, o2⟩, hl2⟩ := I.tuple hB
    have o1 : oc = .type "tuple" := o1
    have o2 : dt = .seq ib.toArray m := o2
    subst o1
    subst o2
    have hlen := r2.length
    have hsz : ia.toArray.size + ib.toArray.size ≤ sizeLine := by rw [List.size_toArray, List.size_toArray]; omega
    have nl : ¬ (!ia.toArray.isEmpty && Builtin.List.listTooLong (ia.toArray.size + ib.toArray.size)) = true := by
      rw [notLongL hsz, Bool.and_false]
      decide
    have z3 : ia.toArray.size ≤ sizeLine := by rw [List.size_toArray]; omega
    refine call_meets F.slot_list_extend ⟨_, e, rfl⟩ F.entry_list_extend (F.args_list_extend_2 _ _) (ext_tup l b ia.toArray ib.toArray n m od osl nl z3 (by omega)) ⟨e, e2, ?_⟩
    exact ⟨.non, _, I.lset (its' := ia ++ ib) hH e (by simp) (r.append r2) (by rw [List.length_append]; omega), rfl, q⟩
section
variable {c : Cf} {xf : Xf} {B : Bs} {W : WX} {σ σ' τ : L2.St} {F F' : Addr → Prop} {H H' : Hp} {ρ ρ' ρ0 : En} {X : Cx} {vs : List Nat} {pos : Pos} {ro : Bool} {e : Expr}
/-! ### append, extend -/
theorem lstAt_ref {i : Nat} (R : RSt c B F ρ σ H) (h : lstAt i ρ = true) : ∃ a xs, σ[i]? = some (some (.ref a)) ∧ H a = some (.lst xs) := by
  unfold lstAt at h
  split at h
  · rename_i ds e
    obtain ⟨a, h1, _, _, h4⟩ := R.sl i _ e
    cases h4 with
    | lst g _ => exact ⟨a, _, h1, g⟩
  · rename_i ds e
    obtain ⟨a, h1, _, _, h4⟩ := R.sl i _ e
    cases h4 with
    | lst g _ => exact ⟨a, _, h1, g⟩
  · cases h
def rMe (K : PySem.W.Frag) : Me → V → List V → Hp → VK → Prop
  | .append => rAppend
  | .extend => rExt K
theorem me_read {i : Nat} {me : Me} {m : En → Out D} {D : Ends} (hK : X.K = c.K) (h : tS c xf B W ro (fun ρ => if lstAt i ρ then (m ρ).to fun d ρ => (match updSl i (fun c => appD me c d) ρ with | .ok _ ρ => .ok .nx ρ | _ => .bad) else .bad) D σ H) :
    tDrop (tBM X.K "list" (rMe X.K me) (tVar i) (tCons (tV c xf B W false m) tNil)) D σ H := by
  obtain ⟨F, ρ, R, p⟩ := h
  by_cases hl : lstAt i ρ = true
  · dsimp only at p
    rw [if_pos hl] at p
    obtain ⟨a, xs, ha, hx⟩ := lstAt_ref R hl
    refine ⟨.ref a, ha, .inl ⟨rfl, xs, .inl (.inl hx)⟩, F, ρ, R, p.bind fun d ρ1 F1 H1 x1 R1 p1 v r => ?_⟩
    cases q2 : updSl i (fun c => appD me c d) ρ1 with
    | err e r => rw [q2] at p1; exact p1.elim
    | bad => rw [q2] at p1; exact p1.elim
    | ok u2 ρ2 =>
      rw [q2] at p1
      obtain ⟨s, cd, x, e1, e2, e3, e4, rfl⟩ := updSl_ok q2
      obtain ⟨b, cd', g1, g2, g3, g4, g5⟩ := R1.ownAt e1 e2
      rw [ha] at g2
      cases g2
      rw [e3] at g1; cases g1
      have al : ∀ ys : List V, AllocBut a F1 H1 F1 (upd H1 a (.lst ys)) := fun ys => ⟨fun _ h => h, fun _ h => .inl h, fun _ h => .inl h, fun b o hb h => by rw [upd_ne hb]; exact h⟩
      have r := r.val
      cases me with
      | append =>
        cases cd with
        | lst ds =>
          simp only [appD] at e4
          split at e4
          · rename_i hz
            cases e4
            cases g5 with
            | lst gh gr =>
              rename_i ys
              refine ⟨a, ys, v, rfl, rfl, gh, by rw [gr.length, ← lineN_eq]; exact hz, ?_⟩
              have xe := (al (ys ++ [v])).ext R1.dom g3
              exact p1 F1 σ _ xe (R1.change e1 e2 ha (al _) g3 (.lst upd_same ((gr.append (.cons r .nil)).ext xe)) rfl)
          · cases e4
        | _ => simp [appD] at e4
      | extend =>
        cases cd with
        | lst ds =>
          cases d with
          | lst es =>
            simp only [appD] at e4
            split at e4
            · rename_i hz
              cases e4
              cases g5 with
              | lst gh gr =>
                rename_i ys
                obtain ⟨b, zs, rfl, gb, rb⟩ := r.seqL
                refine ⟨a, b, ys, zs, rfl, rfl, gh, .inl gb, by rw [gr.length, rb.length, ← lineN_eq]; exact hz, ?_⟩
                have xe := (al (ys ++ zs)).ext R1.dom g3
                exact p1 F1 σ _ xe (R1.change e1 e2 ha (al _) g3 (.lst upd_same ((gr.append rb).ext xe)) rfl)
            · cases e4
          | tup es =>
            simp only [appD] at e4
            split at e4
            · rename_i hz
              cases e4
              cases g5 with
              | lst gh gr =>
                rename_i ys
                obtain ⟨b, zs, rfl, gb, rb⟩ := r.seqT
                refine ⟨a, b, ys, zs, rfl, rfl, gh, .inr (by rw [hK]; exact gb), by rw [gr.length, rb.length, ← lineN_eq]; exact hz, ?_⟩
                have xe := (al (ys ++ zs)).ext R1.dom g3
                exact p1 F1 σ _ xe (R1.change e1 e2 ha (al _) g3 (.lst upd_same ((gr.append rb).ext xe)) rfl)
            · cases e4
          | _ => simp [appD] at e4
        | _ => simp [appD] at e4
  · dsimp only at p
    rw [if_neg hl] at p; exact p.elim
/-! ### several at once -/
inductive RsL (c : Cf) (B : Bs) (F : Addr → Prop) (ρ : En) (σ : L2.St) (H : Hp) : List V → List Sl → Prop
  | nil : RsL c B F ρ σ H [] []
  | cons {v : V} {vs : List V} {s : Sl} {ss : List Sl} : SlOk c B F H s (some (some v)) → (s.mine = true → ∀ a, v = .ref a → ∀ (j : Nat) (t : Sl), ρ[j]? = some t → t.mine = true → σ[j]? ≠ some (some (.ref a))) →
      (s.mine = true → ∀ (k : Nat) (w : V) (t : Sl), vs[k]? = some w → ss[k]? = some t → t.mine = true → v ≠ w) → RsL c B F ρ σ H vs ss → RsL c B F ρ σ H (v :: vs) (s :: ss)
def tP (c : Cf) (xf : Xf) (B : Bs) (W : WX) (m : En → Out (List Sl)) : TA := fun σ H Q => ∃ F ρ, RSt c B F ρ σ H ∧ Post c xf B W σ F H (fun ss ρ' F' H' => ∀ vs, RsL c B F' ρ' σ H' vs ss → Q vs H') (m ρ)
theorem RsL.back {vs : List V} {ss : List Sl} {F0 : Addr → Prop} {H0 : Hp} (R : RSt c B F0 ρ0 σ H0) (h : RsL c (B.at F0 ρ0 σ H0) F ρ σ H vs ss) : RsL c B F ρ σ H vs ss := by
  induction h with
  | nil => exact .nil
  | @cons v vs s ss h1 h2 h3 _ ih =>
    refine .cons ?_ h2 h3 ih
    cases s with
    | no => trivial
    | val d => exact h1
    | own d => obtain ⟨a, k1, k2, k3, k4⟩ := h1; exact ⟨a, k1, k2, R.muBack k3, k4⟩
    | io d => obtain ⟨a, k1, k2, k3, k4⟩ := h1; exact ⟨a, k1, k2, ⟨k3.1, (R.wf a k3.1).1⟩, k4⟩
theorem RsL.mu {vs : List V} {ss : List Sl} (h : RsL c B F ρ σ H vs ss) : ∀ {k : Nat} {a : Addr} {t : Sl}, vs[k]? = some (.ref a) → ss[k]? = some t → t.mine = true → B.mu a ∨ B.io a := by
  induction h with
  | nil => intro k a t h; simp at h
  | @cons v vs s ss h1 h2 h3 _ ih =>
    intro k a t e1 e2 m
    cases k with
    | zero =>
      simp at e1 e2
      subst e1 e2
      cases s with
      | no => cases m
      | val d => cases m
      | own d => obtain ⟨b, k1, k2, k3, k4⟩ := h1; cases k1; exact .inl k3
      | io d => obtain ⟨b, k1, k2, k3, k4⟩ := h1; cases k1; exact .inr k3.2
    | succ k => exact ih (k := k) (by simpa using e1) (by simpa using e2) m
theorem _root_.L2.PA.ex {es : List Expr} {m : En → Out (List Sl)} (h : ∀ B, PA X es (tP c xf B W m)) : PA X es (fun σ H Q => ∃ B, tP c xf B W m σ H Q) := ⟨fun pos pins s σ H Q I ⟨B, q⟩ => (h B).run pos pins s σ H Q I q⟩
theorem pa_pnil : PA X [] (tP c xf B W (fun ρ => .ok [] ρ)) := pa_nil.imp fun σ H Q ⟨F, ρ, R, p⟩ => p.here R [] .nil
theorem pa_pcons {es : List Expr} {m : En → Out (List Sl)} {me : En → Out D} {fr : Bool} (ha : PE X e (tV c xf B W fr me)) (hr : ∀ B, PA X es (tP c xf B W m)) (hs : starEach (e :: es) X.env = (false, eval e X.env) :: starEach es X.env) :
    PA X (e :: es) (tP c xf B W (fun ρ => (me ρ).to fun d ρ => (m ρ).to fun ss ρ => .ok (mkSl fr d :: ss) ρ)) := (pa_cons ha (PA.ex hr) hs).imp fun σ H Q ⟨F, ρ, R, p⟩ =>
  ⟨F, ρ, R, p.bind fun d ρ1 F1 H1 x1 R1 p1 v r => ⟨B.at F1 ρ1 σ H1, F1, ρ1, R1.rebase, by
    cases q : m ρ1 with
    | bad => rw [q] at p1; exact p1.elim
    | err e r => rw [q] at p1; exact fun F2 H2 cls dd x2 R2 ex => p1 F2 H2 cls dd x2 (R1.unbase R2) ex
    | ok ss ρ2 =>
      rw [q] at p1
      intro F2 H2 x2 R2 vs rs
      refine p1 F2 H2 x2 (R1.unbase R2) (v :: vs) ?_
      unfold Rs at r
      unfold mkSl
      split at r
      · rename_i hm
        rw [if_pos hm]
        obtain ⟨a, rfl, na, bn, o, ap⟩ := r
        obtain ⟨u, hu⟩ := Option.ne_none_iff_exists'.mp o.dom
        have nio : ¬ (B.at F1 ρ1 σ H1).io a := fun ⟨j, s, h1, h2, h3⟩ => ap j s h1 h2 h3
        have nmu : ¬ (B.at F1 ρ1 σ H1).mu a := fun z => z.elim (fun z => by rw [show (B.at F1 ρ1 σ H1).H a = H1 a from rfl, hu] at z; cases z) fun z => nio z.1
        have ha : H2 a = some u := R2.frame a u hu nio
        refine .cons ⟨a, rfl, fun z => (R2.new a z).elim na nmu, .inl bn, o.ext x2 (ha.trans hu.symm)⟩ (fun _ b hb j t h1 h2 h3 => ?_) (fun _ k w t h1 h2 h3 z => ?_) (rs.back R1)
        · cases hb
          rcases R2.mineMu h1 h2 h3 with z | z
          · exact nmu z
          · exact nio z.2
        · subst z
          rcases rs.mu h1 h2 h3 with z | z
          · exact nmu z
          · exact nio z
      · rename_i hm
        rw [if_neg hm]
        exact .cons ⟨v, rfl, r.ext x2⟩ (fun z => nomatch z) (fun z => nomatch z) (rs.back R1)⟩⟩
def setAllR : List Nat → List V → L2.St → L2.St
  | i :: is, v :: vs, σ => (setAllR is vs σ).set i (some v)
  | _, _, σ => σ
theorem RSt.storeAll {vs : List V} {ss : List Sl} (R : RSt c B F ρ σ H) (h : RsL c B F ρ σ H vs ss) : ∀ {is : List Nat} {ρ' : En} {u : Unit}, putAll is ss ρ = .ok u ρ' → RSt c B F ρ' (setAllR is vs σ) H ∧ (∀ (k : Nat) (t : Sl) (a : Addr), ρ'[k]? = some t → t.mine = true → (setAllR is vs σ)[k]? = some (some (.ref a)) →
    (∃ t' : Sl, ρ[k]? = some t' ∧ t'.mine = true ∧ σ[k]? = some (some (V.ref a))) ∨ ∃ (n : Nat) (t' : Sl), ss[n]? = some t' ∧ t'.mine = true ∧ vs[n]? = some (V.ref a)) := by
  induction h with
  | nil =>
    intro is ρ' u h
    cases is with
    | nil => cases h; exact ⟨R, fun k t a h1 h2 h3 => .inl ⟨t, h1, h2, h3⟩⟩
    | cons i is => cases h
  | @cons v vs s ss h1 h2 h3 _ ih =>
    intro is ρ' u h
    cases is with
    | nil => cases h
    | cons i is =>
      have h : ((putAll is ss ρ).to fun _ ρ => setSl i s ρ) = .ok u ρ' := h
      cases q : putAll is ss ρ with
      | bad => rw [q] at h; cases h
      | err e r => rw [q] at h; cases h
      | ok u2 ρ2 =>
        rw [q] at h
        obtain ⟨R2, ap2⟩ := ih q
        have h : setSl i s ρ2 = .ok u ρ' := h
        obtain ⟨k1, k2, rfl⟩ := setSl_ok h
        refine ⟨R2.store h1 (fun hm a ha j t e1 e2 e3 => ?_) k1 k2, fun k t a e1 e2 e3 => ?_⟩
        · rcases ap2 j t a e1 e2 e3 with ⟨t', z1, z2, z3⟩ | ⟨n, t', z1, z2, z3⟩
          · exact h2 hm a ha j t' z1 z2 z3
          · exact h3 hm n _ t' z3 z1 z2 ha
        · by_cases hk : i = k
          · subst hk
            rw [List.getElem?_set_self k1] at e1
            cases e1
            have e3 : ((setAllR is vs σ).set i (some v))[i]? = some (some (.ref a)) := e3
            rw [List.getElem?_set_self (by rw [← R2.len]; exact k1)] at e3
            exact .inr ⟨0, s, rfl, e2, congrArg id (Option.some.inj e3)⟩
          · rw [List.getElem?_set_ne hk] at e1
            have e3 : ((setAllR is vs σ).set i (some v))[k]? = some (some (.ref a)) := e3
            rw [List.getElem?_set_ne hk] at e3
            rcases ap2 k t a e1 e2 e3 with z | ⟨n, t', z1, z2, z3⟩
            · exact .inl z
            · exact .inr ⟨n + 1, t', z1, z2, z3⟩
theorem par_read {is : List Nat} {m : En → Out (List Sl)} {D : Ends} (h : tS c xf B W ro (fun ρ => (m ρ).to fun ss ρ => (match putAll is ss ρ with | .ok _ ρ => .ok .nx ρ | _ => .bad)) D σ H) :
    tP c xf B W m σ H (fun vs H1 => vs.length = is.length ∧ D.nx (setAllR is vs σ) H1) := by
  obtain ⟨F, ρ, R, p⟩ := h
  refine ⟨F, ρ, R, p.bind fun ss ρ1 F1 H1 x1 R1 p1 vs r => ?_⟩
  cases q : putAll is ss ρ1 with
  | bad => rw [q] at p1; exact p1.elim
  | err e r => rw [q] at p1; exact p1.elim
  | ok u ρ2 =>
    rw [q] at p1
    refine ⟨?_, p1 F1 _ H1 (Ext.refl F1 H1) (R1.storeAll r q).1⟩
    have l1 : vs.length = ss.length := by
      clear q p1
      induction r with
      | nil => rfl
      | cons _ _ _ _ ih => simp only [List.length_cons, ih]
    have l2 : ∀ {is : List Nat} {ss : List Sl} {ρ ρ' : En} {u : Unit}, putAll is ss ρ = .ok u ρ' → ss.length = is.length := by
      intro is
      induction is with
      | nil =>
        intro ss ρ ρ' u h
        cases ss with
        | nil => rfl
        | cons s ss => exact nomatch h
      | cons i is ih =>
        intro ss ρ ρ' u h
        cases ss with
        | nil => exact nomatch h
        | cons s ss =>
          have h : ((putAll is ss ρ).to fun _ ρ => setSl i s ρ) = .ok u ρ' := h
          cases q : putAll is ss ρ with
          | bad => rw [q] at h; cases h
          | err e r => rw [q] at h; cases h
          | ok u2 ρ2 => simp [ih q]
    rw [l1, l2 q]
theorem par2_read {i j : Nat} (hij : i ≠ j) {m : En → Out (List Sl)} {D : Ends} (h : tS c xf B W ro (fun ρ => (m ρ).to fun ss ρ => (match putAll [i, j] ss ρ with | .ok _ ρ => .ok .nx ρ | _ => .bad)) D σ H) : tPar i j (tP c xf B W m) D σ H := by
  obtain ⟨F, ρ, R, p⟩ := par_read h
  refine ⟨F, ρ, R, p.mono fun ss ρ1 F1 H1 _ _ k vs r => ?_⟩
  obtain ⟨hl, q⟩ := k vs r
  match vs, hl with
  | [v, w], _ => exact ⟨v, w, rfl, by rw [List.set_comm _ _ hij]; exact q⟩
theorem par3_read {i j l : Nat} (hij : i ≠ j) (hil : i ≠ l) (hjl : j ≠ l) {m : En → Out (List Sl)} {D : Ends} (h : tS c xf B W ro (fun ρ => (m ρ).to fun ss ρ => (match putAll [i, j, l] ss ρ with | .ok _ ρ => .ok .nx ρ | _ => .bad)) D σ H) : tPar3 i j l (tP c xf B W m) D σ H := by
  obtain ⟨F, ρ, R, p⟩ := par_read h
  refine ⟨F, ρ, R, p.mono fun ss ρ1 F1 H1 _ _ k vs r => ?_⟩
  obtain ⟨hl, q⟩ := k vs r
  match vs, hl with
  | [u, v, w], _ => exact ⟨u, v, w, rfl, by
      have q : D.nx (((σ.set l (some w)).set j (some v)).set i (some u)) H1 := q
      rw [List.set_comm _ _ (Ne.symm hjl), List.set_comm _ _ (Ne.symm hil), List.set_comm _ _ (Ne.symm hij)] at q
      exact q⟩
/-! ### tests of a comprehension -/
theorem pts_nilD : PTs X [] (tC c xf B W (fun ρ => .ok true ρ)) := ⟨fun pins s σ H Q I ⟨F, ρ, R, p⟩ => pts_nil.run pins s σ H Q I (p.here R)⟩
theorem pts_oneD {cc : Expr} {m : En → Out D} (h : PT X cc (tT c xf B W m)) : PTs X [cc] (tC c xf B W (fun ρ => (m ρ).to fun d ρ => (match d with | .bl true => .ok true ρ | .bl false => .ok false ρ | _ => .bad))) :=
  ⟨fun pins s σ H Q I ⟨F, ρ, R, p⟩ => (pts_one h).run pins s σ H Q I ⟨F, ρ, R, p.bind fun d ρ1 F1 H1 x1 R1 p1 => by
    cases d with
    | bl k =>
      refine ⟨k, rfl, ?_⟩
      cases k with
      | true => exact p1.here R1
      | false => exact p1.here R1
    | _ => exact p1.elim⟩⟩
/-! ### raise -/
theorem ps_rseD {x m : Str} {j k : Nat} {p p2 p3 : Pos} {C : Addr} {bmB : List Value} {Bn newId initId : String} (hc : X.calm = true) (tk : Takes X W) (Fb : ExcBaseFacts Bn newId initId bmB) (q : PySem.W.excIn X.K C bmB newId = true) (gC : X.mg x = some (.ref C)) (kC : PySem.W.keepIn X.K (.ref C) = true) (r : Raises X (.ref C)) (hg : Gl X x)
    (hdb : (x == ("__debug__" : Str)) = false) (hC : xf.cad k = C) : PS X (.Raise (some (.Call (.Name x p) [.Constant (.str m) j p2] [] p3)) none pos) (tS c xf B W ro (fun ρ => .err ⟨k, none⟩ ρ)) :=
  (ps_raise hc tk (pmk_own Fb q gC kC r hg hdb)).imp fun D σ H ⟨F, ρ, R, p⟩ => p F σ H _ none (Ext.refl F H) R ⟨by rw [hC], rfl⟩
end
end VS
set_option Elab.async false
set_option linter.all false
set_option maxRecDepth 100000
/-! VsK: the small language against the text: a check that computes. -/
namespace VS
open PySem PySem.Spec PyProof.Rows L2

/-- the module's names: constants, defs, exception classes -/
structure Tb where
  gv : List (Str × D)
  df : List (Str × Nat)
  cl : List (Str × Nat)
/-- where the text stands: the slots' names, the scope's names, which names may be stored -/
structure Sx where
  N : List Str
  sc : Scope
  fn : Str → Bool
def Sx.blk (S : Sx) (scope : Scope) : Sx := ⟨S.N, relS scope S.sc, fun x => scope.names.lookup x == some .cell⟩
def okN (x : Str) : Bool := !(x == ("__debug__" : Str)) && !(x == ("__classdict__" : Str)) && !(x == ("__name__" : Str))
def Sx.vis (S : Sx) (x : Str) : Bool := match S.sc.names.lookup x with
  | some .local => true
  | some .cell => true
  | some .free => true
  | _ => false
def Sx.loc (S : Sx) (x : Str) : Bool := match S.sc.names.lookup x with
  | some .local => true
  | some .cell => S.fn x
  | _ => false
def Sx.gl (S : Sx) (x : Str) : Bool := okN x && (match S.sc.names.lookup x with
  | some .globalImplicit => true
  | _ => false)
def Sx.at (S : Sx) (i : Nat) (x : Str) : Bool := match S.N[i]? with
  | some y => y == x
  | none => false
mutual
/-- the same constant -/
def D.sm : D → D → Bool
  | .non, e => (match e with | .non => true | _ => false)
  | .bl a, e => (match e with | .bl b => a == b | _ => false)
  | .int i, e => (match e with | .int j => i == j | _ => false)
  | .str x, e => (match e with | .str y => x == y | _ => false)
  | .tup ds, e => (match e with | .tup es => D.sms ds es | _ => false)
  | _, _ => false
def D.sms : List D → List D → Bool
  | [], es => (match es with | [] => true | _ => false)
  | d :: ds, es => (match es with | e :: es => D.sm d e && D.sms ds es | [] => false)
end
mutual
theorem sm_eq : ∀ {d e : D}, D.sm d e = true → d = e
  | .non, e, h => by cases e <;> simp_all [D.sm]
  | .bl a, e, h => by cases e <;> simp_all [D.sm]
  | .int i, e, h => by cases e <;> simp_all [D.sm]
  | .str x, e, h => by cases e <;> simp_all [D.sm]
  | .tup ds, e, h => by
    cases e with
    | tup es =>
      have h : D.sms ds es = true := h
      exact congrArg D.tup (sms_eq h)
    | _ => simp [D.sm] at h
  | .lst _, _, h => by simp [D.sm] at h
  | .dic _ _, _, h => by simp [D.sm] at h
  | .set _, _, h => by simp [D.sm] at h
  | .fn _, _, h => by simp [D.sm] at h
  | .frl _, _, h => by simp [D.sm] at h
theorem sms_eq : ∀ {ds es : List D}, D.sms ds es = true → ds = es
  | [], es, h => by cases es <;> simp_all [D.sms]
  | d :: ds, [], h => by simp [D.sms] at h
  | d :: ds, e :: es, h => by
    simp only [D.sms, Bool.and_eq_true] at h
    rw [sm_eq h.1, sms_eq h.2]
end
/-- a written constant -/
def mCst : D → Expr → Bool
  | .non, .Constant .none _ _ => true
  | .bl b, .Constant (.bool c) _ _ => b == c
  | .int i, .Constant (.int j) _ _ => i == j
  | .str x, .Constant (.str y) _ _ => x == y
  | _, _ => false
def tyOf : Str → Option Ty := fun x =>
  if x == ("int" : Str) then some .int else if x == ("bool" : Str) then some .bool else if x == ("str" : Str) then some .str else if x == ("tuple" : Str) then some .tuple else if x == ("list" : Str) then some .list else none
/-- a built-in that is called by its name -/
def fnName : Op → Option Str
  | .len => some "len" | .sum => some "sum" | .max1 => some "max" | .min1 => some "min" | .max2 => some "max" | .min2 => some "min" | .sorted => some "sorted" | .tuple => some "tuple" | .list => some "list"
  | .abs => some "abs" | .int => some "int" | .str => some "str" | .all => some "all" | .any => some "any"
  | _ => none
def isSlice : Expr → Bool
  | .Slice .. => true
  | _ => false
def binOf : Op → Option Operator
  | .add => some .Add | .sub => some .Sub | .mul => some .Mult | .fdiv => some .FloorDiv | .mod => some .Mod | .pow => some .Pow | .shl => some .LShift | _ => none
def cmpOf : Op → Option CmpOp
  | .eq => some .Eq | .ne => some .NotEq | .lt => some .Lt | .le => some .LtE | .gt => some .Gt | .ge => some .GtE | .isN => some .Is | .notN => some .IsNot | .inn => some .In | .nin => some .NotIn | .isB => some .Is | .notB => some .IsNot | _ => none
def isSet : Expr → Bool
  | .Set .. => true
  | _ => false
def isNone : Expr → Bool
  | .Constant .none _ _ => true
  | _ => false
/-- the operands as they are written -/
inductive Fm where
  | bin (o : Operator) (a b : Expr) | cmp (o : CmpOp) (a b : Expr) | neg (a : Expr) | ix (a b : Expr) | sl (a : Expr) (lo hi : Option Expr) | call (x : Str) (es : List Expr) | rev (a : Expr) | no
def fmOf : Expr → Fm
  | .BinOp a o b _ => .bin o a b
  | .Compare a [o] [b] _ => .cmp o a b
  | .UnaryOp .USub a _ => .neg a
  | .Subscript a (.Slice none none (some (.UnaryOp .USub (.Constant (.int 1) _ _) _)) _) _ => .rev a
  | .Subscript a (.Slice lo hi none _) _ => .sl a lo hi
  | .Subscript a b _ => .ix a b
  | .Call (.Name f _) es [] _ => .call f es
  | _ => .no
/-- the operands of an operation -/
def opForm (S : Sx) (o : Op) (ex : Expr) : Option (List Expr) := match fmOf ex with
  | .bin p a b => if binOf o = some p then some [a, b] else none
  | .cmp p a b => if cmpOf o = some p && !isSet b then (if (o = .isN || o = .notN) && !isNone b then none else some [a, b]) else none
  | .neg a => if o = .neg then some [a] else none
  | .rev a => if o = .rev then some [a] else none
  | .ix a b => if o = .idx && !isSlice b then some [a, b] else none
  | .sl a none none => if o = .slc false false then some [a] else none
  | .sl a (some l) none => if o = .slc true false then some [a, l] else none
  | .sl a none (some h) => if o = .slc false true then some [a, h] else none
  | .call f es => (match fnName o with
    | some x => if f == x && S.gl f && (es.length == o.ar) then some es else none
    | none => (match o, es with
      | .sset, [.Call (.Name g _) [a] [] _] => if f == ("sorted" : Str) && S.gl f && g == ("set" : Str) && S.gl g then some [a] else none
      | .rngL1, [.Call (.Name g _) [a] [] _] => if f == ("list" : Str) && S.gl f && g == ("range" : Str) && S.gl g then some [a] else none
      | .rngT1, [.Call (.Name g _) [a] [] _] => if f == ("tuple" : Str) && S.gl f && g == ("range" : Str) && S.gl g then some [a] else none
      | .rngL2, [.Call (.Name g _) [a, b] [] _] => if f == ("list" : Str) && S.gl f && g == ("range" : Str) && S.gl g then some [a, b] else none
      | .rngT2, [.Call (.Name g _) [a, b] [] _] => if f == ("tuple" : Str) && S.gl f && g == ("range" : Str) && S.gl g then some [a, b] else none
      | .isi t, [a, .Name y _] => if f == ("isinstance" : Str) && S.gl f && S.gl y && tyOf y = some t then some [a] else none
      | _, _ => none))
  | _ => none
/-- may stand in a chain -/
def Op.chs : Op → Bool
  | .eq => true | .ne => true | .lt => true | .le => true | .gt => true | .ge => true | _ => false
def tail : BoolOp → Expr → List Expr → Pos → Expr
  | _, y, [], _ => y
  | op, y, z :: r, p => .BoolOp op (y :: z :: r) p
def notStar : Expr → Bool
  | .Starred .. => false
  | _ => true
def Es.len : Es → Nat
  | .nil => 0
  | .cons _ r => r.len + 1
def Ts.len : Ts → Nat
  | .nil => 0
  | .cons _ r => r.len + 1
/-- the block of a comprehension -/
def blkOk (S : Sx) (scope : Scope) (own : List Nat) : Bool :=
  scope.kind == .function && scope.names.all (fun y => scope.names.lookup y.1 == some y.2) && own.all (fun i => decide (i < S.N.length)) &&
    scope.names.all (fun y => y.2 != .free || (S.sc.names.lookup y.1 == some .cell || S.sc.names.lookup y.1 == some .free)) &&
    scope.names.all (fun y => !(y.2 == .local || y.2 == .cell) || ((own.map fun i => S.N.getD i "").contains y.1 || !S.N.contains y.1))
def pkM (S : Sx) (i : Nat) : Expr → Bool
  | .Name x _ => S.at i x && S.vis x && okN x
  | _ => false
variable (P : List Fd) (G : Tb)
mutual
def mE (S : Sx) (ex : Expr) : E → Bool
  | .cst d => mCst d ex
  | .var i => (match ex with
    | .Name x _ => S.at i x && S.vis x && okN x
    | _ => false)
  | .pk _ => false
  | .glo x d => (match ex with
    | .Name y _ => x == y && S.gl x && !d.isMut && (match G.gv.lookup x with
      | some e => D.sm d e
      | none => false)
    | _ => false)
  | .fnv _ => false
  | .tup es => (match ex with
    | .Tuple xs _ _ => mEs S xs es && decide (es.len ≤ 1000)
    | _ => false)
  | .lst es => (match ex with
    | .List xs _ => mEs S xs es && decide (es.len ≤ 1000)
    | _ => false)
  | .op o es => (match opForm S o ex with
    | some xs => mOs S xs es
    | none => false)
  | .and a b => (match ex with
    | .BoolOp .And (x :: y :: r) p => mE S x a && mE S (tail .And y r p) b
    | _ => false)
  | .or a b => (match ex with
    | .BoolOp .Or (x :: y :: r) p => mE S x a && mE S (tail .Or y r p) b
    | _ => false)
  | .not a => (match ex with
    | .UnaryOp .Not x _ => mE S x a
    | _ => false)
  | .ite c a b => (match ex with
    | .IfExp x y z _ => mE S x c && mE S y a && mE S z b
    | _ => false)
  | .chn o1 o2 a b c => (match ex with
    | .Compare x [p1, p2] [y, z] _ => cmpOf o1 == some p1 && cmpOf o2 == some p2 && Op.chs o1 && Op.chs o2 && (match a with | .pk i => pkM S i x | _ => mE S x a) && (match b with | .pk i => pkM S i y | _ => mE S y b) && (match c with | .pk i => pkM S i z | _ => mE S z c)
    | _ => false)
  | .sl2 a l h => (match ex with
    | .Subscript x (.Slice (some y) (some z) none _) _ => (match a with | .pk i => pkM S i x | _ => mE S x a) && mE S y l && mE S z h
    | _ => false)
  | .call f io ro es => (match ex with
    | .Call (.Name x _) xs [] _ => S.gl x && (match G.df.lookup x with
      | some g => g == f
      | none => false) && (match P[f]? with
      | some fd => fd.io == io && fd.ro == ro && fd.np == es.len
      | none => false) && mOs S xs es
    | _ => false)
  | .comp e t it cs own => (match ex with
    | .ListComp elt [⟨tg, iter, ifs, 0⟩] scope _ => mIt S tg iter it && blkOk S scope own && mT (S.blk scope) tg t && mCs (S.blk scope) ifs cs && mE (S.blk scope) elt e && (T.sl t).all (fun i => own.contains i) && !isSet iter
    | _ => false)
  | .comp2 .. => false
def mOs (S : Sx) (xs : List Expr) : Es → Bool
  | .nil => (match xs with
    | [] => true
    | _ => false)
  | .cons e r => (match xs with
    | x :: xs => notStar x && (match e with | .pk i => pkM S i x | _ => mE S x e) && mOs S xs r
    | [] => false)
def mEs (S : Sx) (xs : List Expr) : Es → Bool
  | .nil => (match xs with
    | [] => true
    | _ => false)
  | .cons e r => (match xs with
    | x :: xs => notStar x && mE S x e && mEs S xs r
    | [] => false)
def mCs (S : Sx) (xs : List Expr) : Es → Bool
  | .nil => (match xs with
    | [] => true
    | _ => false)
  | .cons e r => (match xs, r with
    | [x], .nil => mE S x e
    | _, _ => false)
def mIt (S : Sx) (tg iter : Expr) : It → Bool
  | .e e => mE S iter e
  | .rng1 a => (match iter with
    | .Call (.Name f _) [x] [] _ => f == ("range" : Str) && S.gl f && notStar x && mE S x a
    | _ => false)
  | .rng2 a b => (match iter with
    | .Call (.Name f _) [x, y] [] _ => f == ("range" : Str) && S.gl f && notStar x && notStar y && mE S x a && mE S y b
    | _ => false)
  | .rng3 a b c => (match iter with
    | .Call (.Name f _) [x, y, z] [] _ => f == ("range" : Str) && S.gl f && notStar x && notStar y && notStar z && mE S x a && mE S y b && mE S z c
    | _ => false)
  | .zip a b => (match tg, iter with
    | .Tuple .., .Call (.Name f _) [x, y] [] _ => f == ("zip" : Str) && S.gl f && notStar x && notStar y && mE S x a && mE S y b
    | _, _ => false)
  | .enm a => (match tg, iter with
    | .Tuple .., .Call (.Name f _) [x] [] _ => f == ("enumerate" : Str) && S.gl f && notStar x && mE S x a
    | _, _ => false)
def mT (S : Sx) (tg : Expr) : T → Bool
  | .n i => (match tg with
    | .Name x _ => S.at i x && S.loc x
    | _ => false)
  | .t ts => (match tg with
    | .Tuple xs _ _ => mTs S xs ts
    | _ => false)
  | .ix i k => (match tg with
    | .Subscript (.Name x _) ie _ => S.at i x && S.vis x && okN x && !isSlice ie && mE S ie k
    | _ => false)
def mTs (S : Sx) (xs : List Expr) : Ts → Bool
  | .nil => (match xs with
    | [] => true
    | _ => false)
  | .cons t r => (match xs with
    | x :: xs => notStar x && mT S x t && mTs S xs r
    | [] => false)
end
end VS
set_option Elab.async false
set_option linter.all false
set_option maxRecDepth 100000
/-! VsW: set(xs) as a rule; sorted(set(xs)); x[::-1]; list(range(..)). -/
namespace VS
open PySem PySem.Spec PyProof.Rows L2

/-- set(xs) of ints: a new set -/
def rSetI (K : PySem.W.Frag) (w : World) : List V → Hp → VK → Prop := fun xs H Q => ∃ (l : Addr) (ns : List Int), xs = [.ref l] ∧ (SqL K H l (ns.map V.int) ∨ SqT K H l (ns.map V.int)) ∧ ns.length + 1 < scanBound ∧
  ∀ (p : Addr) (c : Nat), H p = none → c ≤ ns.length → Q (.ref p) (upd H p (SetO w p (fun j => decide (j ∈ ns)) c))
theorem cr_setI {X : Cx} (hc : X.calm = true) : CallR X (.type "set") (rSetI X.K X.w) := by
  intro pins s σ H xs us Q I r h
  obtain ⟨l, ns, rfl, hs, hb, q⟩ := h
  obtain ⟨u, rfl, ru⟩ := r.one
  cases ru
  have fin : ∀ (h' : Heap) (tk c : Nat), SetR X.w h' s.heap.objs.size (fun j => decide (j ∈ ns)) c → c ≤ ns.length → (∀ b o, s.heap.get? b = some o → h'.get? b = some o) → EP X pins σ Q (.ref s.heap.objs.size) { s with heap := h', toks := tk } :=
    fun h' tk c R hcn k => ⟨.ref _, _, I.laid (t' := tk) (fun b u e => k b u e) (Nat.le_refl _) (setO_new R), rfl, q _ c (I.hok.fresh (Nat.le_refl _)) hcn⟩
  rcases hs with hs | hs
  · obtain ⟨its, rv, pl, hz⟩ := I.list hs
    refine set_of_list ns (I.ok.hd hc) pl.isList (by simpa using intsAre_of rv) hb fun s₂ ⟨h', tk, c, e, R, hcn, k⟩ => ?_
    subst e
    exact fin h' tk c R hcn k
  · obtain ⟨its, rv, pt, hz⟩ := I.tuple hs
    exact call_set_tupI ns (I.ok.hd hc) (show s.heap.IsTuple l its.toArray from pt) (by simpa using intsAre_of rv) hb fin
/-! ### the members in order -/
theorem mem_insU {k x : Int} : ∀ {ys : List Int}, k ∈ insU x ys ↔ k = x ∨ k ∈ ys
  | [] => by simp [insU]
  | y :: ys => by
    unfold insU
    split
    · simp
    · split
      · rename_i h; subst h; simp
      · rw [List.mem_cons, mem_insU (ys := ys), List.mem_cons]
        constructor
        · rintro (h | h | h)
          · exact .inr (.inl h)
          · exact .inl h
          · exact .inr (.inr h)
        · rintro (h | h | h)
          · exact .inr (.inl h)
          · exact .inl h
          · exact .inr (.inr h)
theorem mem_setI {k : Int} : ∀ {xs : List Int}, k ∈ setI xs ↔ k ∈ xs
  | [] => Iff.rfl
  | x :: xs => by unfold setI; rw [mem_insU, mem_setI (xs := xs), List.mem_cons]
theorem insU_sorted {x : Int} : ∀ {ys : List Int}, ys.Pairwise (· < ·) → (insU x ys).Pairwise (· < ·)
  | [], _ => by simp [insU]
  | y :: ys, h => by
    unfold insU
    have h1 := List.pairwise_cons.mp h
    split
    · rename_i hx
      exact List.pairwise_cons.mpr ⟨fun z hz => by
        rcases List.mem_cons.mp hz with e | e
        · rw [e]; exact hx
        · have := h1.1 z e; omega, h⟩
    · split
      · exact h
      · refine List.pairwise_cons.mpr ⟨fun z hz => ?_, insU_sorted h1.2⟩
        rcases mem_insU.mp hz with e | e
        · omega
        · exact h1.1 z e
theorem setI_sorted : ∀ {xs : List Int}, (setI xs).Pairwise (· < ·)
  | [] => .nil
  | x :: xs => by unfold setI; exact insU_sorted setI_sorted
theorem lt_nodup {xs : List Int} (h : xs.Pairwise (· < ·)) : xs.Nodup := h.imp fun h e => by omega
theorem setI_uniq {ms ns : List Int} (h : ms.Pairwise (· < ·)) (e : ∀ k, k ∈ ms ↔ k ∈ ns) : ms = setI ns := by
  have hp : ms.Perm (setI ns) := (List.perm_ext_iff_of_nodup (lt_nodup h) (lt_nodup setI_sorted)).mpr fun k => (e k).trans mem_setI.symm
  exact sort_uniq hp (h.imp fun h => Int.le_of_lt h) (List.Perm.refl _) (setI_sorted.imp fun h => Int.le_of_lt h)
section
variable {c : Cf} {F : Addr → Prop} {H : Hp} {w : World}
theorem scan_big : 2000 < scanBound := by unfold scanBound; decide
theorem sset_core {l : Addr} {ns : List Int} {Q : VK} (dom : ∀ a, F a → H a ≠ none) (hs : SqL c.K H l (ns.map V.int) ∨ SqT c.K H l (ns.map V.int)) (h64 : ns.length < 64)
    (q : ∀ F' H' v, Alloc F H F' H' → Rn c F H F' H' true v (.lst ((setI ns).map D.int)) → Q v H') : rSetI c.K w [.ref l] H (fun x H2 => rSortedSet w [x] H2 Q) := by
  have hb := scan_big
  refine ⟨l, ns, rfl, hs, by omega, fun p k hp hk => ⟨p, _, k, rfl, upd_same, by omega, fun ms t hm1 hm2 _ ht => ?_⟩⟩
  have hne : t ≠ p := fun e => by rw [e, upd_same] at ht; cases ht
  have ht2 : H t = none := by rw [upd_ne hne] at ht; exact ht
  have e : ms = setI ns := setI_uniq hm1 fun k => by rw [hm2 k]; simp
  subst e
  have al1 : Alloc F H F (upd H p (SetO w p (fun j => decide (j ∈ ns)) k)) := Alloc.push hp
  have al : Alloc F H F (upd (upd H p (SetO w p (fun j => decide (j ∈ ns)) k)) t (.lst ((setI ns).map V.int))) :=
    ⟨fun _ h => h, fun _ h => .inl h, fun _ h => .inl h, fun b o e => by rw [upd_ne (ne_of_none (al1.same b o e) ht)]; exact al1.same b o e⟩
  refine q F _ _ al ?_
  unfold Rn
  rw [show (D.lst ((setI ns).map D.int)).isMut = true from rfl, if_pos (Bool.and_self true)]
  exact ⟨t, rfl, not_F dom ht2, ht2, .lst upd_same (Reps.of_ints _)⟩
theorem lk_sset {v : V} {d r : D} {Q : VK} (dom : ∀ a, F a → H a ≠ none) (h : Sh c F H v d) (e : sem .sset [d] = some r) (q : ∀ F' H' v, Alloc F H F' H' → Rn c F H F' H' true v r → Q v H') :
    rSetI c.K w [v] H (fun x H2 => rSortedSet w [x] H2 Q) := by
  cases d with
  | lst ds =>
    obtain ⟨a, xs, rfl, hx, rx⟩ := h.lst
    have e : (match D.ints ds with | some is => if is.length < 64 then some (D.lst ((setI is).map D.int)) else none | none => none) = some r := e
    cases hi : D.ints ds with
    | none => rw [hi] at e; cases e
    | some ns =>
      rw [hi] at e
      dsimp only at e
      split at e
      · rename_i h64
        cases e
        have := rx.ints hi
        subst this
        exact sset_core dom (.inl (.inl (.inl hx))) h64 q
      · cases e
  | tup ds =>
    obtain ⟨a, xs, rfl, hx, rx⟩ := h.tup
    have e : (match D.ints ds with | some is => if is.length < 64 then some (D.lst ((setI is).map D.int)) else none | none => none) = some r := e
    cases hi : D.ints ds with
    | none => rw [hi] at e; cases e
    | some ns =>
      rw [hi] at e
      dsimp only at e
      split at e
      · rename_i h64
        cases e
        have := rx.ints hi
        subst this
        exact sset_core dom (.inr hx) h64 q
      · cases e
  | _ => cases e
/-! ### x[::-1] -/
theorem Reps.rev {vs : List V} {ds : List D} (h : Reps c F H vs ds) : Reps c F H vs.reverse ds.reverse := by
  induction vs generalizing ds with
  | nil => cases h; exact .nil
  | cons v vs ih =>
    cases h with
    | cons r t => rw [List.reverse_cons, List.reverse_cons]; exact (ih t).append (.cons r .nil)
theorem lk_rev {v : V} {d r : D} {Q : VK} (dom : ∀ a, F a → H a ≠ none) (h : Sh c F H v d) (e : sem .rev [d] = some r) (q : ∀ F' H' v, Alloc F H F' H' → Rn c F H F' H' true v r → Q v H') : rRev c.K v H Q := by
  cases d with
  | lst ds =>
    cases e
    obtain ⟨a, xs, rfl, hx, rx⟩ := h.lst
    exact ⟨a, xs, rfl, .inl ⟨.inl (.inl hx), q_lst (o := .rev) dom rfl rx.rev q⟩⟩
  | tup ds =>
    cases e
    obtain ⟨a, xs, rfl, hx, rx⟩ := h.tup
    exact ⟨a, xs, rfl, .inr ⟨hx, q_tup (o := .rev) dom rx.rev q⟩⟩
  | _ => cases e
/-! ### is, of bools -/
theorem lk_isB : Lk c .isB (r2 rIsB) := lk2 rfl fun F H v w d1 d2 d Q dom h1 h2 e q => by
  cases d1 <;> cases d2 <;> first | (cases e; done) | skip
  rename_i a b
  cases e
  rw [h1.bl, h2.bl]
  exact ⟨a, b, rfl, rfl, by
    have : decide (a = b) = (a == b) := by cases a <;> cases b <;> rfl
    rw [this]; exact q_val (o := .isB) rfl (.bl _) q⟩
theorem lk_notB : Lk c .notB (r2 rNotB) := lk2 rfl fun F H v w d1 d2 d Q dom h1 h2 e q => by
  cases d1 <;> cases d2 <;> first | (cases e; done) | skip
  rename_i a b
  cases e
  rw [h1.bl, h2.bl]
  exact ⟨a, b, rfl, rfl, by
    have : (!decide (a = b)) = !(a == b) := by cases a <;> cases b <;> rfl
    rw [this]; exact q_val (o := .notB) rfl (.bl _) q⟩
end
end VS
set_option Elab.async false
set_option linter.all false
set_option maxRecDepth 100000
set_option maxHeartbeats 1000000
/-! VsL: the check is sound: operations. -/
namespace VS
open PySem PySem.Spec PyProof.Rows L2

/-- the built-in names that are known here -/
def bltN : List Str := ["len", "sum", "max", "min", "sorted", "tuple", "list", "abs", "int", "str", "all", "any", "range", "zip", "enumerate", "isinstance", "bool", "set"]
def bltB (x : Str) : Bool := bltN.contains x
/-- what the text's place gives -/
structure XOk (P : List Fd) (G : Tb) (c : Cf) (xf : Xf) (C : Nat → List D → CR) (n : Nat) (S : Sx) (X : Cx) : Prop where
  N : X.N = S.N
  nd : X.N.Nodup
  sc : X.env.scope = S.sc
  kind : X.env.scope.kind = .function
  fn : ∀ x, S.fn x = true → X.fn x = true
  K : X.K = c.K
  mg : X.mg = c.mg
  calm : X.calm = true
  room : Room n X.A
  gv : ∀ x d, G.gv.lookup x = some d → ∃ u v, X.mg x = some u ∧ RelV v u ∧ ∀ F H, Rep c F H v d
  df : ∀ x f fd, G.df.lookup x = some f → P[f]? = some fd → ∃ fdd ps, X.mg x = some (.ref (c.fad f)) ∧ PySem.W.keepIn X.K (.ref (c.fad f)) = true ∧ Binds X.K fdd ps [] ∧
    FnOk X.prog X.w X.K X.mg X.base (L2.CX X.prog X.w) n (c.fad f) fdd ps (spF c xf C fd.io fd.ro f)
  bn : ∀ x, bltB x = true → X.mg x = none

section
variable {P : List Fd} {G : Tb} {c : Cf} {xf : Xf} {C : Nat → List D → CR} {n : Nat} {S : Sx} {X : Cx} {B : Bs} {W : WX}
theorem XOk.at (k : XOk P G c xf C n S X) {i : Nat} {x : Str} (h : S.at i x = true) : X.N[i]? = some x := by
  rw [k.N]
  unfold Sx.at at h
  split at h
  · rename_i y e
    rw [e, eq_of_beq h]
  · cases h
theorem XOk.vis (k : XOk P G c xf C n S X) {x : Str} (h : S.vis x = true) : Vis X.env.scope x := by
  rw [k.sc]
  unfold Sx.vis at h
  split at h
  · rename_i e; exact .inl e
  · rename_i e; exact .inr (.inl e)
  · rename_i e; exact .inr (.inr e)
  · cases h
theorem XOk.loc (k : XOk P G c xf C n S X) {x : Str} (h : S.loc x = true) : Loc X.env.scope x ∧ (X.fn x = true ∨ X.env.scope.names.lookup x = some .local) := by
  rw [k.sc]
  unfold Sx.loc at h
  split at h
  · rename_i e; exact ⟨.inl e, .inr e⟩
  · rename_i e; exact ⟨.inr e, .inl (k.fn x h)⟩
  · cases h
theorem okN_of {x : Str} (h : okN x = true) : (x == ("__debug__" : Str)) = false ∧ (x == ("__classdict__" : Str)) = false ∧ x ≠ "__name__" := by
  unfold okN at h
  simp only [Bool.and_eq_true, Bool.not_eq_true'] at h
  exact ⟨h.1.1, h.1.2, fun z => by rw [z] at h; exact absurd h.2 (by decide)⟩
theorem XOk.gl (k : XOk P G c xf C n S X) {x : Str} (h : S.gl x = true) : Gl X x ∧ okN x = true := by
  unfold Sx.gl at h
  rw [Bool.and_eq_true] at h
  refine ⟨?_, h.1⟩
  show X.env.scope.names.lookup x = _
  rw [k.sc]
  have h := h.2
  split at h
  · rename_i e; exact e
  · cases h
/-! ### argument lists -/
theorem star_cons {x : Expr} {xs : List Expr} {env : Env} (h : notStar x = true) : starEach (x :: xs) env = (false, eval x env) :: starEach xs env := by
  cases x <;> first | rfl | (cases h)
theorem asg_cons {x : Expr} {xs : List Expr} {env : Env} (h : notStar x = true) : assignEach (x :: xs) env = (false, assign x env) :: assignEach xs env := by
  cases x <;> first | rfl | (cases h)
def allStar (xs : List Expr) : Bool := xs.all notStar
theorem star_all : ∀ {xs : List Expr} {env : Env} {pos : Pos}, allStar xs = true → (backTo pos (starEach xs env)).any (·.1) = false
  | [], _, _, _ => rfl
  | x :: xs, env, pos, h => by
    simp only [allStar, List.all_cons, Bool.and_eq_true] at h
    rw [star_cons h.1]
    show (false || (backTo pos (starEach xs env)).any (·.1)) = false
    rw [star_all h.2] <;> rfl
theorem to_assoc {α β γ : Type} {m : Out α} {f : α → En → Out β} {g : β → En → Out γ} : (m.to f).to g = m.to fun a ρ => (f a ρ).to g := by
  cases m <;> rfl
/-- operands that are understood -/
inductive OpsOk (X : Cx) (c : Cf) (xf : Xf) (B : Bs) (W : WX) : List Expr → (En → Out (List Pd)) → Prop
  | nil : OpsOk X c xf B W [] (fun ρ => .ok [] ρ)
  | cons {x : Expr} {xs : List Expr} {me : En → Out Pd} {ms : En → Out (List Pd)} : notStar x = true → PE X x (tO c xf B W me) → OpsOk X c xf B W xs ms → OpsOk X c xf B W (x :: xs) (fun ρ => (me ρ).to fun d ρ => (ms ρ).to fun ds ρ => .ok (d :: ds) ρ)
theorem OpsOk.star {xs : List Expr} {ms : En → Out (List Pd)} (h : OpsOk X c xf B W xs ms) : allStar xs = true := by
  induction h with
  | nil => rfl
  | cons h1 _ _ ih => simp only [allStar, List.all_cons, Bool.and_eq_true]; exact ⟨h1, ih⟩
theorem OpsOk.pa {xs : List Expr} {ms : En → Out (List Pd)} (h : OpsOk X c xf B W xs ms) : PA X xs (tOs c xf B W ms) := by
  induction h with
  | nil => exact pa_onil
  | cons h1 h2 _ ih => exact pa_ocons h2 ih (star_cons h1)
theorem OpsOk.one {x : Expr} {ms : En → Out (List Pd)} (h : OpsOk X c xf B W [x] ms) : ∃ m, PE X x (tO c xf B W m) ∧ ∀ (o : Op) ρ, ((ms ρ).to fun ps ρ => opD o ps ρ) = (m ρ).to fun a ρ => opD o [a] ρ := by
  cases h with
  | cons h1 h2 h3 =>
    cases h3
    refine ⟨_, h2, fun o ρ => ?_⟩
    rw [to_assoc] <;> rfl
theorem OpsOk.two {x y : Expr} {ms : En → Out (List Pd)} (h : OpsOk X c xf B W [x, y] ms) : ∃ m1 m2, PE X x (tO c xf B W m1) ∧ PE X y (tO c xf B W m2) ∧ ∀ (o : Op) ρ, ((ms ρ).to fun ps ρ => opD o ps ρ) = (m1 ρ).to fun a ρ => (m2 ρ).to fun b ρ => opD o [a, b] ρ := by
  cases h with
  | cons h1 h2 h3 =>
    cases h3 with
    | cons h4 h5 h6 =>
      cases h6
      refine ⟨_, _, h2, h5, fun o ρ => ?_⟩
      rw [to_assoc]
      congr 1
      funext a ρ1
      rw [to_assoc, to_assoc] <;> rfl
/-! ### an expression: as a value, as a test -/
structure Good (X : Cx) (c : Cf) (xf : Xf) (B : Bs) (W : WX) (ex : Expr) (fr : Bool) (m : En → Out D) : Prop where
  e : PE X ex (tV c xf B W fr m)
  t : PT X ex (tT c xf B W m)
theorem plain_pt {ex : Expr} {fr : Bool} {m : En → Out D} (h : PE X ex (tV c xf B W fr m)) (he : ∀ whole, isTrue ex X.env whole = (do let v ← whole; standAt ex.pos; holding [v] (truthy v))) : PT X ex (tT c xf B W m) :=
  (pt_val h he).imp fun σ H Q ⟨F, ρ, R, p⟩ => ⟨F, ρ, R, q_bool p⟩
/-- whose truth is asked of its value -/
def plainT : Expr → Bool
  | .UnaryOp .Not _ _ => false
  | .BoolOp .. => false
  | .IfExp .. => false
  | .Compare .. => false
  | _ => true
theorem isTrue_pl {ex : Expr} {env : Env} (h : plainT ex = true) (whole : Sem Value) : isTrue ex env whole = (do let v ← whole; standAt ex.pos; holding [v] (truthy v)) := by
  cases ex with
  | UnaryOp o a p => cases o <;> first | rfl | (cases h)
  | BoolOp => cases h
  | IfExp => cases h
  | Compare => cases h
  | _ => rfl
theorem Good.of {ex : Expr} {fr : Bool} {m : En → Out D} (h : PE X ex (tV c xf B W fr m)) (hp : plainT ex = true) : Good X c xf B W ex fr m := ⟨h, plain_pt h (isTrue_pl hp)⟩
theorem PE_congr {ex : Expr} {fr : Bool} {m m' : En → Out D} (e : ∀ ρ, m ρ = m' ρ) (h : PE X ex (tV c xf B W fr m)) : PE X ex (tV c xf B W fr m') := by
  have : m = m' := funext e
  rw [← this]; exact h
theorem Good.congr {ex : Expr} {fr : Bool} {m m' : En → Out D} (e : ∀ ρ, m ρ = m' ρ) (h : Good X c xf B W ex fr m) : Good X c xf B W ex fr m' := by
  have : m = m' := funext e
  rw [← this]; exact h
theorem pt_cmpO {a b : Expr} {pos : Pos} {ma mb : En → Out Pd} {o : Op} {op : CmpOp} {r : R2} (ho : OpR X (compareOp op) r) (lk : Lk c o (r2 r)) (ha : PE X a (tO c xf B W ma)) (hb : PE X b (tO c xf B W mb)) (hm : behindInMarks op b = false) :
    PT X (.Compare a [op] [b] pos) (tT c xf B W (fun ρ => (ma ρ).to fun x ρ => (mb ρ).to fun y ρ => opD o [x, y] ρ)) := (pt_cmpR ho ha hb hm).imp fun σ H Q ⟨F, ρ, R, p⟩ =>
  ⟨F, ρ, R, p.bind fun x ρ1 F1 H1 e1 R1 p1 v rv => ⟨F1, ρ1, R1, p1.bind fun y ρ2 F2 H2 e2 R2 p2 w rw => op_done lk R2 (.cons (pdr_ext e2 rv) (.cons rw .nil)) (q_bool p2)⟩⟩
theorem noSet {op : CmpOp} {b : Expr} (h : isSet b = false) : behindInMarks op b = false := by
  cases b <;> first | rfl | (cases h)
theorem good_cmp {a b : Expr} {pos : Pos} {o : Op} {op : CmpOp} {r : R2} {ms : En → Out (List Pd)} (ho : OpR X (compareOp op) r) (lk : Lk c o (r2 r)) (hb : isSet b = false) (h : OpsOk X c xf B W [a, b] ms) : Good X c xf B W (.Compare a [op] [b] pos) o.fresh (fun ρ => (ms ρ).to fun ps ρ => opD o ps ρ) := by
  obtain ⟨m1, m2, h1, h2, e⟩ := h.two
  exact Good.congr (fun ρ => (e o ρ).symm) ⟨pe_cmpO ho lk h1 h2 (noSet hb), pt_cmpO ho lk h1 h2 (noSet hb)⟩
theorem good_bin {a b : Expr} {pos : Pos} {o : Op} {op : Operator} {r : R2} {ms : En → Out (List Pd)} (ho : OpR X (binaryOp op) r) (lk : Lk c o (r2 r)) (h : OpsOk X c xf B W [a, b] ms) : Good X c xf B W (.BinOp a op b pos) o.fresh (fun ρ => (ms ρ).to fun ps ρ => opD o ps ρ) := by
  obtain ⟨m1, m2, h1, h2, e⟩ := h.two
  exact Good.congr (fun ρ => (e o ρ).symm) (.of (pe_bin ho lk h1 h2) rfl)
theorem plainIx {b : Expr} (h : isSlice b = false) : PlainIx b := by
  intro o i
  cases b <;> first | rfl | (cases h)
/-! ### slices -/
theorem sl_done {σ : L2.St} {F : Addr → Prop} {H : Hp} {ρ : En} {v : V} {ws : List V} {x : Pd} {ps : List Pd} {lo hi : Option Int} {o : Op} {Q : VK} (hf : o.fresh = true) (R : RSt c B F ρ σ H) (rv : PdRs c F H σ (v :: ws) (x :: ps))
    (hs : ∀ ds d, Shs c F H (v :: ws) ds → sem o ds = some d → ∃ a r, ds = a :: r ∧ semSlc a lo hi = some d)
    (p : Post c xf B W σ F H (fun d ρ' F' H' => ∀ v, Rs c B F' ρ' σ H' true v d → Q v H') (opD o (x :: ps) ρ)) : rSlAll c.K v lo hi H Q := by
  unfold opD at p
  cases e1 : Pds.get ρ (x :: ps) with
  | none => rw [e1] at p; exact p.elim
  | some ds =>
    rw [e1] at p
    dsimp only at p
    cases e2 : sem o ds with
    | none => rw [e2] at p; exact p.elim
    | some d =>
      rw [e2] at p
      have sh := pds_shs R rv e1
      obtain ⟨a, r, rfl, es⟩ := hs ds d sh e2
      cases sh with
      | cons sh t => exact lk_slc (o := o) hf R.dom sh es fun F' H' v al rn => p F' H' (al.ext R.dom) (R.alloc al) v (hf ▸ rn_rs R al rn)
theorem good_sl0 {a : Expr} {p2 pos : Pos} {ms : En → Out (List Pd)} (hK : X.K = c.K) (h : OpsOk X c xf B W [a] ms) : Good X c xf B W (.Subscript a (.Slice none none none p2) pos) true (fun ρ => (ms ρ).to fun ps ρ => opD (.slc false false) ps ρ) := by
  obtain ⟨m1, h1, e⟩ := h.one
  refine Good.congr (fun ρ => (e _ ρ).symm) (.of ?_ rfl)
  refine (pe_slice (sl_all (X := X)) h1 po_none po_none).imp fun σ H Q ⟨F, ρ, R, p⟩ => ⟨F, ρ, R, p.bind fun x ρ1 F1 H1 e1 R1 p1 v rv => ?_⟩
  refine hK ▸ sl_done (o := .slc false false) rfl R1 (.cons rv .nil) (fun ds d sh es => ?_) p1
  cases sh with
  | cons s t => cases t; exact ⟨_, _, rfl, es⟩
theorem part_int {σ : L2.St} {F : Addr → Prop} {H : Hp} {ρ : En} {v w : V} {x y : Pd} {o : Op} {k : D → En → (Addr → Prop) → Hp → Prop} (R : RSt c B F ρ σ H) (rv : PdRs c F H σ [v, w] [x, y])
    (hs : ∀ ds d, Shs c F H [v, w] ds → sem o ds = some d → ∃ a i, ds = [a, .int i]) (p : Post c xf B W σ F H k (opD o [x, y] ρ)) : ∃ i, w = .int i := by
  unfold opD at p
  cases e1 : Pds.get ρ [x, y] with
  | none => rw [e1] at p; exact p.elim
  | some ds =>
    rw [e1] at p
    dsimp only at p
    cases e2 : sem o ds with
    | none => rw [e2] at p; exact p.elim
    | some d =>
      have sh := pds_shs R rv e1
      obtain ⟨a, i, rfl⟩ := hs ds d sh e2
      cases sh with
      | cons s t =>
        cases t with
        | cons s t => exact ⟨i, s.int⟩
theorem sem_sl1 {ds : List D} {d : D} (h : sem (.slc true false) ds = some d) : ∃ a i, ds = [a, .int i] ∧ semSlc a (some i) none = some d := by
  unfold sem at h
  split at h <;> first | (rename_i e; cases e; exact ⟨_, _, rfl, h⟩) | (rename_i e; cases e) | cases h
theorem sem_slh {ds : List D} {d : D} (h : sem (.slc false true) ds = some d) : ∃ a i, ds = [a, .int i] ∧ semSlc a none (some i) = some d := by
  unfold sem at h
  split at h <;> first | (rename_i e; cases e; exact ⟨_, _, rfl, h⟩) | (rename_i e; cases e) | cases h
theorem good_sl1 {a l : Expr} {p2 pos : Pos} {ms : En → Out (List Pd)} (hK : X.K = c.K) (h : OpsOk X c xf B W [a, l] ms) : Good X c xf B W (.Subscript a (.Slice (some l) none none p2) pos) true (fun ρ => (ms ρ).to fun ps ρ => opD (.slc true false) ps ρ) := by
  obtain ⟨m1, m2, h1, h2, e⟩ := h.two
  refine Good.congr (fun ρ => (e _ ρ).symm) (.of ?_ rfl)
  refine (pe_slice (sl_all (X := X)) h1 (po_some h2) po_none).imp fun σ H Q ⟨F, ρ, R, p⟩ => ⟨F, ρ, R, p.bind fun x ρ1 F1 H1 e1 R1 p1 v rv => ⟨F1, ρ1, R1, p1.bind fun y ρ2 F2 H2 e2 R2 p2 w rw_ => ?_⟩⟩
  have rs : PdRs c F2 H2 σ [v, w] [x, y] := .cons (pdr_ext e2 rv) (.cons rw_ .nil)
  obtain ⟨i, rfl⟩ := part_int R2 rs (fun ds d sh es => by obtain ⟨a, i, e, _⟩ := sem_sl1 es; exact ⟨a, i, e⟩) p2
  refine ⟨i, rfl, hK ▸ sl_done (o := .slc true false) rfl R2 rs (fun ds d sh es => ?_) p2⟩
  obtain ⟨a, j, rfl, q⟩ := sem_sl1 es
  cases sh with
  | cons s t =>
    cases t with
    | cons s t =>
      have := s.int
      cases this
      exact ⟨a, _, rfl, q⟩
theorem good_slh {a l : Expr} {p2 pos : Pos} {ms : En → Out (List Pd)} (hK : X.K = c.K) (h : OpsOk X c xf B W [a, l] ms) : Good X c xf B W (.Subscript a (.Slice none (some l) none p2) pos) true (fun ρ => (ms ρ).to fun ps ρ => opD (.slc false true) ps ρ) := by
  obtain ⟨m1, m2, h1, h2, e⟩ := h.two
  refine Good.congr (fun ρ => (e _ ρ).symm) (.of ?_ rfl)
  refine (pe_slice (sl_all (X := X)) h1 po_none (po_some h2)).imp fun σ H Q ⟨F, ρ, R, p⟩ => ⟨F, ρ, R, p.bind fun x ρ1 F1 H1 e1 R1 p1 v rv => ⟨F1, ρ1, R1, p1.bind fun y ρ2 F2 H2 e2 R2 p2 w rw_ => ?_⟩⟩
  have rs : PdRs c F2 H2 σ [v, w] [x, y] := .cons (pdr_ext e2 rv) (.cons rw_ .nil)
  obtain ⟨i, rfl⟩ := part_int R2 rs (fun ds d sh es => by obtain ⟨a, i, e, _⟩ := sem_slh es; exact ⟨a, i, e⟩) p2
  refine ⟨i, rfl, hK ▸ sl_done (o := .slc false true) rfl R2 rs (fun ds d sh es => ?_) p2⟩
  obtain ⟨a, j, rfl, q⟩ := sem_slh es
  cases sh with
  | cons s t =>
    cases t with
    | cons s t =>
      have := s.int
      cases this
      exact ⟨a, _, rfl, q⟩
theorem good_sl2 {a l h : Expr} {p2 pos : Pos} {m1 : En → Out Pd} {ml mh : En → Out D} (hK : X.K = c.K) (h1 : PE X a (tO c xf B W m1)) (h2 : PE X l (tV c xf B W false ml)) (h3 : PE X h (tV c xf B W false mh)) :
    Good X c xf B W (.Subscript a (.Slice (some l) (some h) none p2) pos) true (fun ρ => (m1 ρ).to fun x ρ => (ml ρ).to fun d ρ => (match d with
      | .int i => (mh ρ).to fun e ρ => (match e with
        | .int j => opD (.slc true true) [x, .inl (.int i), .inl (.int j)] ρ
        | _ => .bad)
      | _ => .bad)) := by
  refine .of ?_ rfl
  refine (pe_slice (sl_all (X := X)) h1 (po_some h2) (po_some h3)).imp fun σ H Q ⟨F, ρ, R, p⟩ => ⟨F, ρ, R, p.bind fun x ρ1 F1 H1 e1 R1 p1 v rv => ⟨F1, ρ1, R1, p1.bind fun d ρ2 F2 H2 e2 R2 p2 w rw_ => ?_⟩⟩
  have rw_ := rw_.val
  cases d with
  | int i =>
    cases rw_
    refine ⟨i, rfl, F2, ρ2, R2, p2.bind fun e ρ3 F3 H3 e3 R3 p3 u ru => ?_⟩
    have ru := ru.val
    cases e with
    | int j =>
      cases ru
      have rs : PdRs c F3 H3 σ [v, .int i, .int j] [x, .inl (.int i), .inl (.int j)] := .cons (pdr_ext e3 (pdr_ext e2 rv)) (.cons (.int i) (.cons (.int j) .nil))
      refine ⟨j, rfl, hK ▸ sl_done (o := .slc true true) rfl R3 rs (fun ds d sh es => ?_) p3⟩
      cases sh with
      | cons s t =>
        cases t with
        | cons s2 t =>
          cases t with
          | cons s3 t =>
            cases t
            have q2 : ∀ {z : D}, Sh c F3 H3 (.int i) z → z = .int i := fun {z} q => by
              rcases q with q | ⟨a, q, _⟩
              · cases q; rfl
              · cases q
            have q3 : ∀ {z : D}, Sh c F3 H3 (.int j) z → z = .int j := fun {z} q => by
              rcases q with q | ⟨a, q, _⟩
              · cases q; rfl
              · cases q
            rw [q2 s2, q3 s3] at es
            exact ⟨_, _, rfl, es⟩
    | _ => exact p3.elim
  | _ => exact p2.elim
/-! ### unary minus, items, built-ins -/
theorem good_neg {a : Expr} {pos : Pos} {ms : En → Out (List Pd)} (h : OpsOk X c xf B W [a] ms) : Good X c xf B W (.UnaryOp .USub a pos) true (fun ρ => (ms ρ).to fun ps ρ => opD .neg ps ρ) := by
  obtain ⟨m1, h1, e⟩ := h.one
  exact Good.congr (fun ρ => (e _ ρ).symm) (.of (pe_unO un_neg lk_neg h1) rfl)
theorem good_ix {a b : Expr} {pos : Pos} {ms : En → Out (List Pd)} (hK : X.K = c.K) (hs : isSlice b = false) (h : OpsOk X c xf B W [a, b] ms) : Good X c xf B W (.Subscript a b pos) false (fun ρ => (ms ρ).to fun ps ρ => opD .idx ps ρ) := by
  obtain ⟨m1, m2, h1, h2, e⟩ := h.two
  exact Good.congr (fun ρ => (e _ ρ).symm) (.of (pe_ixO (hK ▸ ix_seq) lk_idx h1 h2 (plainIx hs)) rfl)
theorem good_fun {x : Str} {p pos : Pos} {id : String} {r : R1} {o : Op} {xs : List Expr} {ms : En → Out (List Pd)} (k : XOk P G c xf C n S X) (hx : S.gl x = true) (hv : bootBuiltins x = some (.builtin id)) (hbl : bltB x = true) (hc : CallR X (.builtin id) r) (lk : Lk c o r) (hn : xs ≠ []) (h : OpsOk X c xf B W xs ms) :
    Good X c xf B W (.Call (.Name x p) xs [] pos) o.fresh (fun ρ => (ms ρ).to fun ps ρ => opD o ps ρ) := by
  obtain ⟨g, ok⟩ := k.gl hx
  obtain ⟨o1, o2, o3⟩ := okN_of ok
  have st := h.star
  have pa := h.pa
  cases xs with
  | nil => exact absurd rfl hn
  | cons y ys =>
    simp only [allStar, List.all_cons, Bool.and_eq_true] at st
    exact .of (pe_bfun hc lk g (k.bn x hbl) hv pa o3 o1 (star_cons st.1) (star_all st.2)) rfl
theorem good_ty {x : Str} {p pos : Pos} {id : String} {r : R1} {o : Op} {xs : List Expr} {ms : En → Out (List Pd)} (k : XOk P G c xf C n S X) (hx : S.gl x = true) (hv : bootBuiltins x = some (.type id)) (hbl : bltB x = true) (hc : CallR X (.type id) r) (lk : Lk c o r) (hn : xs ≠ []) (h : OpsOk X c xf B W xs ms) :
    Good X c xf B W (.Call (.Name x p) xs [] pos) o.fresh (fun ρ => (ms ρ).to fun ps ρ => opD o ps ρ) := by
  obtain ⟨g, ok⟩ := k.gl hx
  obtain ⟨o1, o2, o3⟩ := okN_of ok
  have st := h.star
  have pa := h.pa
  cases xs with
  | nil => exact absurd rfl hn
  | cons y ys =>
    simp only [allStar, List.all_cons, Bool.and_eq_true] at st
    exact .of (pe_bty hc lk g (k.bn x hbl) hv pa o3 o1 (star_cons st.1) (star_all st.2)) rfl
/-- one operand, by what its value is -/
theorem un_done {σ : L2.St} {F : Addr → Prop} {H : Hp} {ρ : En} {o : Op} {rr : V → Hp → VK → Prop} {v : V} {x : Pd} {Q : VK} (ho : o.ar = 1)
    (lk : ∀ (F : Addr → Prop) (H : Hp) (v : V) (d r : D) (Q : VK), (∀ a, F a → H a ≠ none) → Sh c F H v d → sem o [d] = some r → (∀ F' H' v, Alloc F H F' H' → Rn c F H F' H' o.fresh v r → Q v H') → rr v H Q)
    (R : RSt c B F ρ σ H) (rv : PdR c F H σ v x) (p : Post c xf B W σ F H (fun d ρ' F' H' => ∀ v, Rs c B F' ρ' σ H' o.fresh v d → Q v H') (opD o [x] ρ)) : rr v H Q :=
  op_done (r := fun vs H Q => match vs with | [v] => rr v H Q | _ => False) (lk1 ho fun F H v d1 d Q dom h e q => lk F H v d1 d Q dom h e q) R (.cons rv .nil) p
theorem good_rev {a : Expr} {k : Nat} {p1 p2 p3 pos : Pos} {ms : En → Out (List Pd)} (hK : X.K = c.K) (h : OpsOk X c xf B W [a] ms) : Good X c xf B W (.Subscript a (.Slice none none (some (.UnaryOp .USub (.Constant (.int 1) k p1) p2)) p3) pos) true (fun ρ => (ms ρ).to fun ps ρ => opD .rev ps ρ) := by
  obtain ⟨m1, h1, e⟩ := h.one
  refine Good.congr (fun ρ => (e _ ρ).symm) (.of ?_ rfl)
  exact (pe_rev h1).imp fun σ H Q ⟨F, ρ, R, p⟩ => ⟨F, ρ, R, p.bind fun x ρ1 F1 H1 e1 R1 p1 v rv => hK ▸ un_done (o := .rev) rfl (fun F H v d r Q dom h e q => lk_rev dom h e q) R1 rv p1⟩
theorem b_sorted0 : bootBuiltins "sorted" = some (.builtin "sorted") := by decide +kernel
theorem b_set0 : bootBuiltins "set" = some (.type "set") := by decide +kernel
theorem good_sset {a : Expr} {p p2 q pos : Pos} {ms : En → Out (List Pd)} (k : XOk P G c xf C n S X) (hx : S.gl "sorted" = true) (hy : S.gl "set" = true) (h : OpsOk X c xf B W [a] ms) :
    Good X c xf B W (.Call (.Name "sorted" p) [.Call (.Name "set" p2) [a] [] q] [] pos) true (fun ρ => (ms ρ).to fun ps ρ => opD .sset ps ρ) := by
  obtain ⟨g, ok⟩ := k.gl hx
  obtain ⟨o1, o2, o3⟩ := okN_of ok
  obtain ⟨g2, ok2⟩ := k.gl hy
  obtain ⟨q1, q2, q3⟩ := okN_of ok2
  have st := h.star
  simp only [allStar, List.all_cons, Bool.and_eq_true] at st
  obtain ⟨m1, h1, e⟩ := h.one
  refine Good.congr (fun ρ => (e _ ρ).symm) (.of ?_ rfl)
  have inner := pe_callTy (p := p2) (pos := q) (cr_setI k.calm) g2 (k.bn _ (by decide +kernel)) b_set0 (pa_cons h1 pa_nil (star_cons st.1)) q3 q1 (star_cons st.1) rfl
  refine (pe_callB (p := p) (pos := pos) (cr_sortedSet k.calm) g (k.bn _ (by decide +kernel)) b_sorted0 (pa_cons inner pa_nil (star_cons rfl)) o3 o1 (star_cons rfl) rfl).imp fun σ H Q ⟨F, ρ, R, p⟩ =>
    ⟨F, ρ, R, p.bind fun x ρ1 F1 H1 e1 R1 p1 v rv => ?_⟩
  show rSetI X.K X.w [v] H1 (fun x H2 => rSortedSet X.w [x] H2 Q)
  rw [k.K]
  exact un_done (o := .sset) (rr := fun v H Q => rSetI c.K X.w [v] H (fun x H2 => rSortedSet X.w [x] H2 Q)) rfl (fun F H v d r Q dom h e q => lk_sset dom h e q) R1 rv p1
/-! ### list(range(..)), tuple(range(..)) -/
theorem rg_ok {a b : Int} (h : rngOk a b = true) (hz : (b - a).toNat ≤ lineN) : RgOk a b := by
  have q := rngOk_iff h
  refine ⟨q.1, q.2.1, q.2.2.1, q.2.2.2, ?_⟩
  have : lineN = 16777216 := rfl
  omega
theorem rg_reps {F : Addr → Prop} {H : Hp} (a b : Int) : Reps c F H (rgV a b) (rngD a b) := by
  have : ∀ l : List Nat, Reps c F H (l.map fun i => V.int (a + (i : Nat))) (l.map fun i => D.int (a + (i : Nat))) := fun l => by
    induction l with
    | nil => exact .nil
    | cons x l ih => exact .cons (.int _) ih
  exact this _
theorem good_rngL1 {a : Expr} {p p2 q pos : Pos} {ms : En → Out (List Pd)} (k : XOk P G c xf C n S X) (hx : S.gl "list" = true) (hy : S.gl "range" = true) (h : OpsOk X c xf B W [a] ms) :
    Good X c xf B W (.Call (.Name "list" p) [.Call (.Name "range" p2) [a] [] q] [] pos) true (fun ρ => (ms ρ).to fun ps ρ => opD .rngL1 ps ρ) := by
  obtain ⟨g, ok⟩ := k.gl hx
  obtain ⟨g2, ok2⟩ := k.gl hy
  have st := h.star
  simp only [allStar, List.all_cons, Bool.and_eq_true] at st
  obtain ⟨m1, h1, e⟩ := h.one
  refine Good.congr (fun ρ => (e _ ρ).symm) (.of ?_ rfl)
  refine (pe_listRg k.calm g (k.bn _ (by decide +kernel)) (prg_1 g2 (k.bn _ (by decide +kernel)) h1 (star_cons st.1)) (star_cons rfl)).imp fun σ H Q ⟨F, ρ, R, p⟩ => ⟨F, ρ, R, p.bind fun x ρ1 F1 H1 e1 R1 p1 v rv => ?_⟩
  refine un_done (o := .rngL1) (rr := fun v H Q => ∃ n, v = .int n ∧ (RgOk 0 n ∧ ∀ q, H q = none → Q (.ref q) (upd H q (.lst (rgV 0 n))))) rfl (fun F H v d r Q dom h e q => ?_) R1 rv p1
  cases d <;> first | (cases e; done) | skip
  rename_i i
  have e : (if rngOk 0 i && decide (i.toNat ≤ lineN) then some (D.lst (rngD 0 i)) else none) = some r := e
  split at e
  · rename_i hc
    simp only [Bool.and_eq_true, decide_eq_true_eq] at hc
    cases e
    exact ⟨i, h.int, rg_ok hc.1 (by rw [Int.sub_zero]; exact hc.2), q_lst (o := .rngL1) dom rfl (rg_reps 0 i) q⟩
  · cases e
theorem good_rngT1 {a : Expr} {p p2 q pos : Pos} {ms : En → Out (List Pd)} (k : XOk P G c xf C n S X) (hx : S.gl "tuple" = true) (hy : S.gl "range" = true) (h : OpsOk X c xf B W [a] ms) :
    Good X c xf B W (.Call (.Name "tuple" p) [.Call (.Name "range" p2) [a] [] q] [] pos) true (fun ρ => (ms ρ).to fun ps ρ => opD .rngT1 ps ρ) := by
  obtain ⟨g, ok⟩ := k.gl hx
  obtain ⟨g2, ok2⟩ := k.gl hy
  have st := h.star
  simp only [allStar, List.all_cons, Bool.and_eq_true] at st
  obtain ⟨m1, h1, e⟩ := h.one
  refine Good.congr (fun ρ => (e _ ρ).symm) (.of ?_ rfl)
  refine (pe_tupRg k.calm g (k.bn _ (by decide +kernel)) (prg_1 g2 (k.bn _ (by decide +kernel)) h1 (star_cons st.1)) (star_cons rfl)).imp fun σ H Q ⟨F, ρ, R, p⟩ => ⟨F, ρ, R, p.bind fun x ρ1 F1 H1 e1 R1 p1 v rv => ?_⟩
  refine un_done (o := .rngT1) (rr := fun v H Q => ∃ n, v = .int n ∧ (RgOk 0 n ∧ ∀ q, H q = none → Q (.ref q) (upd H q (.tup (rgV 0 n))))) rfl (fun F H v d r Q dom h e q => ?_) R1 rv p1
  cases d <;> first | (cases e; done) | skip
  rename_i i
  have e : (if rngOk 0 i && decide (i.toNat ≤ lineN) then some (D.tup (rngD 0 i)) else none) = some r := e
  split at e
  · rename_i hc
    simp only [Bool.and_eq_true, decide_eq_true_eq] at hc
    cases e
    exact ⟨i, h.int, rg_ok hc.1 (by rw [Int.sub_zero]; exact hc.2), q_tup (o := .rngT1) dom (rg_reps 0 i) q⟩
  · cases e
theorem rng2_lk {o : Op} {mk : List D → D} {mv : List V → HO} (hs : ∀ a b, sem o [a, b] = (match a, b with | .int i, .int j => if rngOk i j && decide ((j - i).toNat ≤ lineN) then some (mk (rngD i j)) else none | _, _ => none)) (har : o.ar = 2)
    (hq : ∀ (F : Addr → Prop) (H : Hp) (xs : List V) (ds : List D) (Q : VK), (∀ a, F a → H a ≠ none) → Reps c F H xs ds → (∀ F' H' v, Alloc F H F' H' → Rn c F H F' H' o.fresh v (mk ds) → Q v H') → ∀ p, H p = none → Q (.ref p) (upd H p (mv xs))) :
    Lk c o (r2 fun x y H Q => ∃ i j, x = .int i ∧ y = .int j ∧ RgOk i j ∧ ∀ q, H q = none → Q (.ref q) (upd H q (mv (rgV i j)))) := lk2 har fun F H v w d1 d2 d Q dom h1 h2 e q => by
  rw [hs] at e
  cases d1 <;> cases d2 <;> first | (cases e; done) | skip
  rename_i i j
  dsimp only at e
  split at e
  · rename_i hc
    simp only [Bool.and_eq_true, decide_eq_true_eq] at hc
    cases e
    exact ⟨i, j, h1.int, h2.int, rg_ok hc.1 hc.2, hq F H _ _ Q dom (rg_reps i j) q⟩
  · cases e
theorem good_rngL2 {a b : Expr} {p p2 q pos : Pos} {ms : En → Out (List Pd)} (k : XOk P G c xf C n S X) (hx : S.gl "list" = true) (hy : S.gl "range" = true) (h : OpsOk X c xf B W [a, b] ms) :
    Good X c xf B W (.Call (.Name "list" p) [.Call (.Name "range" p2) [a, b] [] q] [] pos) true (fun ρ => (ms ρ).to fun ps ρ => opD .rngL2 ps ρ) := by
  obtain ⟨g, ok⟩ := k.gl hx
  obtain ⟨g2, ok2⟩ := k.gl hy
  have st := h.star
  simp only [allStar, List.all_cons, Bool.and_eq_true] at st
  obtain ⟨m1, m2, h1, h2, e⟩ := h.two
  refine Good.congr (fun ρ => (e _ ρ).symm) (.of ?_ rfl)
  exact (pe_listRg k.calm g (k.bn _ (by decide +kernel)) (prg_2 g2 (k.bn _ (by decide +kernel)) h1 h2 (star_cons st.1) (star_cons st.2.1) (by rw [star_cons st.2.1] <;> rfl)) (star_cons rfl)).imp fun σ H Q ⟨F, ρ, R, p⟩ =>
    ⟨F, ρ, R, p.bind fun x ρ1 F1 H1 e1 R1 p1 v rv => ⟨F1, ρ1, R1, p1.bind fun y ρ2 F2 H2 e2 R2 p2 u ru =>
      op_done (rng2_lk (o := .rngL2) (mk := .lst) (mv := .lst) (fun a b => by cases a <;> cases b <;> rfl) rfl (fun F H xs ds Q dom r q => q_lst (o := .rngL2) dom rfl r q)) R2 (.cons (pdr_ext e2 rv) (.cons ru .nil)) p2⟩⟩
theorem good_rngT2 {a b : Expr} {p p2 q pos : Pos} {ms : En → Out (List Pd)} (k : XOk P G c xf C n S X) (hx : S.gl "tuple" = true) (hy : S.gl "range" = true) (h : OpsOk X c xf B W [a, b] ms) :
    Good X c xf B W (.Call (.Name "tuple" p) [.Call (.Name "range" p2) [a, b] [] q] [] pos) true (fun ρ => (ms ρ).to fun ps ρ => opD .rngT2 ps ρ) := by
  obtain ⟨g, ok⟩ := k.gl hx
  obtain ⟨g2, ok2⟩ := k.gl hy
  have st := h.star
  simp only [allStar, List.all_cons, Bool.and_eq_true] at st
  obtain ⟨m1, m2, h1, h2, e⟩ := h.two
  refine Good.congr (fun ρ => (e _ ρ).symm) (.of ?_ rfl)
  exact (pe_tupRg k.calm g (k.bn _ (by decide +kernel)) (prg_2 g2 (k.bn _ (by decide +kernel)) h1 h2 (star_cons st.1) (star_cons st.2.1) (by rw [star_cons st.2.1] <;> rfl)) (star_cons rfl)).imp fun σ H Q ⟨F, ρ, R, p⟩ =>
    ⟨F, ρ, R, p.bind fun x ρ1 F1 H1 e1 R1 p1 v rv => ⟨F1, ρ1, R1, p1.bind fun y ρ2 F2 H2 e2 R2 p2 u ru =>
      op_done (rng2_lk (o := .rngT2) (mk := .tup) (mv := .tup) (fun a b => by cases a <;> cases b <;> rfl) rfl (fun F H xs ds Q dom r q => q_tup (o := .rngT2) dom r q)) R2 (.cons (pdr_ext e2 rv) (.cons ru .nil)) p2⟩⟩
/-- isinstance(x, T) -/
theorem tyOf_boot {y : Str} {t : Ty} (h : tyOf y = some t) : bootBuiltins y = some (.type t.nm) := by
  unfold tyOf at h
  split at h
  · rename_i e; cases h; rw [eq_of_beq e]; decide +kernel
  · split at h
    · rename_i e; cases h; rw [eq_of_beq e]; decide +kernel
    · split at h
      · rename_i e; cases h; rw [eq_of_beq e]; decide +kernel
      · split at h
        · rename_i e; cases h; rw [eq_of_beq e]; decide +kernel
        · split at h
          · rename_i e; cases h; rw [eq_of_beq e]; decide +kernel
          · cases h
theorem tyOf_blt {y : Str} {t : Ty} (h : tyOf y = some t) : bltB y = true := by
  unfold tyOf at h
  split at h
  · rename_i e; rw [eq_of_beq e]; decide +kernel
  · split at h
    · rename_i e; rw [eq_of_beq e]; decide +kernel
    · split at h
      · rename_i e; rw [eq_of_beq e]; decide +kernel
      · split at h
        · rename_i e; rw [eq_of_beq e]; decide +kernel
        · split at h
          · rename_i e; rw [eq_of_beq e]; decide +kernel
          · cases h
theorem blt_isi : bltB "isinstance" = true := by decide +kernel
theorem boot_isi : bootBuiltins "isinstance" = some (.builtin "isinstance") := by decide +kernel
theorem good_isi {a : Expr} {x y : Str} {p py pos : Pos} {t : Ty} {ms : En → Out (List Pd)} (k : XOk P G c xf C n S X) (hx : S.gl x = true) (hxi : x = "isinstance") (hy : S.gl y = true) (ht : tyOf y = some t) (h : OpsOk X c xf B W [a] ms) :
    Good X c xf B W (.Call (.Name x p) [a, .Name y py] [] pos) true (fun ρ => (ms ρ).to fun ps ρ => opD (.isi t) ps ρ) := by
  obtain ⟨g, ok⟩ := k.gl hx
  obtain ⟨o1, o2, o3⟩ := okN_of ok
  obtain ⟨gy, oky⟩ := k.gl hy
  obtain ⟨q1, q2, q3⟩ := okN_of oky
  have st := h.star
  simp only [allStar, List.all_cons, Bool.and_eq_true] at st
  obtain ⟨m1, h1, e⟩ := h.one
  have hv : bootBuiltins x = some (.builtin "isinstance") := hxi ▸ boot_isi
  have hb := tyOf_boot ht
  refine Good.congr (fun ρ => (e _ ρ).symm) (.of ?_ rfl)
  have pn : PE X (.Name y py) (L2.tC (V.ty t.nm)) := pe_bltn gy (k.bn y (tyOf_blt ht)) hb rfl q3 q1
  refine (pe_callB call_isi g (k.bn x (hxi ▸ blt_isi)) hv (pa_cons h1 (pa_cons pn pa_nil (star_cons rfl)) (star_cons st.1)) o3 o1 (star_cons st.1) (by rw [star_cons rfl] <;> rfl)).imp fun σ H Q ⟨F, ρ, R, p⟩ =>
    ⟨F, ρ, R, p.bind fun x ρ1 F1 H1 e1 R1 p1 v rv => ?_⟩
  have q := op_done (lk_isi t) R1 (.cons rv .nil) p1
  obtain ⟨tn, b, ty, kb, q⟩ := (show rIsTyp c.K t.nm v H1 Q from q)
  exact ⟨v, .ty t.nm, .type tn, .type t.nm, b, rfl, .ty _, k.K ▸ ty, kit_ty kb, q⟩
end
end VS
set_option Elab.async false
set_option linter.all false
set_option maxRecDepth 100000
set_option maxHeartbeats 1000000
/-! VsM: the check is sound: expressions. -/
namespace VS
open PySem PySem.Spec PyProof.Rows L2

section
variable {P : List Fd} {G : Tb} {c : Cf} {xf : Xf} {C : Nat → List D → CR} {n : Nat} {S : Sx} {X : Cx} {B : Bs} {W : WX}
theorem fm_bin {ex : Expr} {o : Operator} {a b : Expr} (h : fmOf ex = .bin o a b) : ∃ p, ex = .BinOp a o b p := by
  unfold fmOf at h
  split at h <;> first | (cases h; exact ⟨_, rfl⟩) | cases h
theorem fm_cmp {ex : Expr} {o : CmpOp} {a b : Expr} (h : fmOf ex = .cmp o a b) : ∃ p, ex = .Compare a [o] [b] p := by
  unfold fmOf at h
  split at h <;> first | (cases h; exact ⟨_, rfl⟩) | cases h
theorem fm_neg {ex : Expr} {a : Expr} (h : fmOf ex = .neg a) : ∃ p, ex = .UnaryOp .USub a p := by
  unfold fmOf at h
  split at h <;> first | (cases h; exact ⟨_, rfl⟩) | cases h
theorem fm_rev {ex : Expr} {a : Expr} (h : fmOf ex = .rev a) : ∃ k p1 p2 p3 q, ex = .Subscript a (.Slice none none (some (.UnaryOp .USub (.Constant (.int 1) k p1) p2)) p3) q := by
  unfold fmOf at h
  split at h <;> first | (cases h; exact ⟨_, _, _, _, _, rfl⟩) | cases h
theorem fm_ix {ex : Expr} {a b : Expr} (h : fmOf ex = .ix a b) : ∃ p, ex = .Subscript a b p := by
  unfold fmOf at h
  split at h <;> first | (cases h; exact ⟨_, rfl⟩) | cases h
theorem fm_sl {ex : Expr} {a : Expr} {lo hi : Option Expr} (h : fmOf ex = .sl a lo hi) : ∃ p q, ex = .Subscript a (.Slice lo hi none p) q := by
  unfold fmOf at h
  split at h <;> first | (cases h; exact ⟨_, _, rfl⟩) | cases h
theorem fm_call {ex : Expr} {x : Str} {es : List Expr} (h : fmOf ex = .call x es) : ∃ p q, ex = .Call (.Name x p) es [] q := by
  unfold fmOf at h
  split at h <;> first | (cases h; exact ⟨_, _, rfl⟩) | cases h
theorem l_len : bltB "len" = true := by decide +kernel
theorem b_len : bootBuiltins "len" = some (.builtin "len") := by decide +kernel
theorem l_sum : bltB "sum" = true := by decide +kernel
theorem b_sum : bootBuiltins "sum" = some (.builtin "sum") := by decide +kernel
theorem l_max : bltB "max" = true := by decide +kernel
theorem b_max : bootBuiltins "max" = some (.builtin "max") := by decide +kernel
theorem l_min : bltB "min" = true := by decide +kernel
theorem b_min : bootBuiltins "min" = some (.builtin "min") := by decide +kernel
theorem l_sorted : bltB "sorted" = true := by decide +kernel
theorem b_sorted : bootBuiltins "sorted" = some (.builtin "sorted") := by decide +kernel
theorem l_tuple : bltB "tuple" = true := by decide +kernel
theorem b_tuple : bootBuiltins "tuple" = some (.type "tuple") := by decide +kernel
theorem l_list : bltB "list" = true := by decide +kernel
theorem b_list : bootBuiltins "list" = some (.type "list") := by decide +kernel
theorem l_abs : bltB "abs" = true := by decide +kernel
theorem b_abs : bootBuiltins "abs" = some (.builtin "abs") := by decide +kernel
theorem l_int : bltB "int" = true := by decide +kernel
theorem b_int : bootBuiltins "int" = some (.type "int") := by decide +kernel
theorem l_str : bltB "str" = true := by decide +kernel
theorem b_str : bootBuiltins "str" = some (.type "str") := by decide +kernel
theorem l_all : bltB "all" = true := by decide +kernel
theorem b_all : bootBuiltins "all" = some (.builtin "all") := by decide +kernel
theorem l_any : bltB "any" = true := by decide +kernel
theorem b_any : bootBuiltins "any" = some (.builtin "any") := by decide +kernel
theorem l_range : bltB "range" = true := by decide +kernel
theorem b_range : bootBuiltins "range" = some (.type "range") := by decide +kernel
theorem l_zip : bltB "zip" = true := by decide +kernel
theorem b_zip : bootBuiltins "zip" = some (.type "zip") := by decide +kernel
theorem l_enum : bltB "enumerate" = true := by decide +kernel
theorem b_enum : bootBuiltins "enumerate" = some (.type "enumerate") := by decide +kernel
theorem ne_of_ar {xs : List Expr} {k : Nat} (h : xs.length = k + 1) : xs ≠ [] := fun z => by rw [z] at h; cases h
theorem op_good {o : Op} {ex : Expr} {xs : List Expr} {ms : En → Out (List Pd)} (k : XOk P G c xf C n S X) (h : opForm S o ex = some xs) (hp : OpsOk X c xf B W xs ms) : Good X c xf B W ex o.fresh (fun ρ => (ms ρ).to fun ps ρ => opD o ps ρ) := by
  have hu : X.A.units + 65 < cLine := by have := k.room.un; omega
  have hu2 : X.A.units + 64 < cLine := by omega
  have hK := k.K
  unfold opForm at h
  cases f : fmOf ex with
  | bin p a b =>
    rw [f] at h
    obtain ⟨q, rfl⟩ := fm_bin f
    dsimp only at h
    split at h
    · rename_i e
      cases h
      cases o <;> simp only [binOf, Option.some.injEq, reduceCtorEq] at e <;> subst e
      · exact good_bin or_add (hK ▸ lk_add) hp
      · exact good_bin op_sub lk_sub hp
      · exact good_bin or_mul (hK ▸ lk_mul) hp
      · exact good_bin op_fdivN lk_fdiv hp
      · exact good_bin op_modN lk_mod hp
      · exact good_bin op_pow lk_pow hp
      · exact good_bin op_shl lk_shl hp
    · cases h
  | cmp p a b =>
    rw [f] at h
    obtain ⟨q, rfl⟩ := fm_cmp f
    dsimp only at h
    split at h
    · rename_i e
      simp only [Bool.and_eq_true, decide_eq_true_eq, Bool.not_eq_true'] at e
      obtain ⟨e, hs⟩ := e
      split at h
      · cases h
      · cases h
        cases o <;> simp only [cmpOf, Option.some.injEq, reduceCtorEq] at e <;> subst e
        · exact good_cmp (op_eqD hu2) (hK ▸ lk_eq) hs hp
        · exact good_cmp (op_neD hu2) (hK ▸ lk_ne) hs hp
        · exact good_cmp op_lt lk_lt hs hp
        · exact good_cmp op_le lk_le hs hp
        · exact good_cmp op_gt lk_gt hs hp
        · exact good_cmp op_ge lk_ge hs hp
        · exact good_cmp op_isN lk_isN hs hp
        · exact good_cmp op_notN lk_notN hs hp
        · exact good_cmp (or_in hu) (hK ▸ lk_inn) hs hp
        · exact good_cmp (or_nin hu) (hK ▸ lk_nin) hs hp
        · exact good_cmp op_isBl lk_isB hs hp
        · exact good_cmp op_notBl lk_notB hs hp
    · cases h
  | neg a =>
    rw [f] at h
    obtain ⟨q, rfl⟩ := fm_neg f
    dsimp only at h
    split at h
    · rename_i e; cases h; subst e; exact good_neg hp
    · cases h
  | rev a =>
    rw [f] at h
    obtain ⟨k0, p1, p2, p3, q, rfl⟩ := fm_rev f
    dsimp only at h
    split at h
    · rename_i e; cases h; subst e; exact good_rev hK hp
    · cases h
  | ix a b =>
    rw [f] at h
    obtain ⟨q, rfl⟩ := fm_ix f
    dsimp only at h
    split at h
    · rename_i e
      simp only [Bool.and_eq_true, decide_eq_true_eq, Bool.not_eq_true'] at e
      cases h
      obtain ⟨rfl, hs⟩ := e
      exact good_ix hK hs hp
    · cases h
  | sl a lo hi =>
    rw [f] at h
    obtain ⟨p, q, rfl⟩ := fm_sl f
    cases lo with
    | none =>
      cases hi with
      | none =>
        dsimp only at h
        split at h
        · rename_i e; cases h; subst e; exact good_sl0 hK hp
        · cases h
      | some z =>
        dsimp only at h
        split at h
        · rename_i e; cases h; subst e; exact good_slh hK hp
        · cases h
    | some y =>
      cases hi with
      | none =>
        dsimp only at h
        split at h
        · rename_i e; cases h; subst e; exact good_sl1 hK hp
        · cases h
      | some z => cases h
  | call x es =>
    rw [f] at h
    obtain ⟨p, q, rfl⟩ := fm_call f
    dsimp only at h
    cases fo : fnName o with
    | some y =>
      rw [fo] at h
      dsimp only at h
      split at h
      · rename_i e
        simp only [Bool.and_eq_true, beq_iff_eq] at e
        obtain ⟨⟨e1, e2⟩, e3⟩ := e
        cases h
        subst e1
        cases o <;> simp only [fnName, Option.some.injEq, reduceCtorEq] at fo <;> subst fo
        · exact good_fun k e2 b_len l_len call_len (hK ▸ lk_len) (ne_of_ar e3) hp
        · exact good_fun k e2 b_sum l_sum (cr_sum k.calm) (hK ▸ lk_sum) (ne_of_ar e3) hp
        · exact good_fun k e2 b_max l_max (cr_max k.calm) (hK ▸ lk_max1) (ne_of_ar e3) hp
        · exact good_fun k e2 b_min l_min (cr_min k.calm) (hK ▸ lk_min1) (ne_of_ar e3) hp
        · exact good_fun k e2 b_max l_max (call_max2 k.calm) lk_max2 (ne_of_ar e3) hp
        · exact good_fun k e2 b_min l_min (call_min2 k.calm) lk_min2 (ne_of_ar e3) hp
        · exact good_fun k e2 b_sorted l_sorted (CallR.or cr_sortedI cr_sortedT) (hK ▸ lk_sorted) (ne_of_ar e3) hp
        · exact good_ty k e2 b_tuple l_tuple call_tuple_of (hK ▸ lk_tuple) (ne_of_ar e3) hp
        · exact good_ty k e2 b_list l_list call_list_of (hK ▸ lk_list) (ne_of_ar e3) hp
        · exact good_fun k e2 b_abs l_abs call_abs lk_abs (ne_of_ar e3) hp
        · exact good_ty k e2 b_int l_int call_int1 lk_int (ne_of_ar e3) hp
        · exact good_ty k e2 b_str l_str call_str_int lk_str (ne_of_ar e3) hp
        · exact good_fun k e2 b_all l_all (cr_all k.calm) (hK ▸ lk_all) (ne_of_ar e3) hp
        · exact good_fun k e2 b_any l_any (cr_any k.calm) (hK ▸ lk_any) (ne_of_ar e3) hp
      · cases h
    | none =>
      rw [fo] at h
      dsimp only at h
      split at h
      · split at h
        · rename_i e
          simp only [Bool.and_eq_true, beq_iff_eq] at e
          obtain ⟨⟨⟨rfl, e2⟩, rfl⟩, e4⟩ := e
          cases h
          exact good_sset k e2 e4 hp
        · cases h
      · split at h
        · rename_i e
          simp only [Bool.and_eq_true, beq_iff_eq] at e
          obtain ⟨⟨⟨rfl, e2⟩, rfl⟩, e4⟩ := e
          cases h
          exact good_rngL1 k e2 e4 hp
        · cases h
      · split at h
        · rename_i e
          simp only [Bool.and_eq_true, beq_iff_eq] at e
          obtain ⟨⟨⟨rfl, e2⟩, rfl⟩, e4⟩ := e
          cases h
          exact good_rngT1 k e2 e4 hp
        · cases h
      · split at h
        · rename_i e
          simp only [Bool.and_eq_true, beq_iff_eq] at e
          obtain ⟨⟨⟨rfl, e2⟩, rfl⟩, e4⟩ := e
          cases h
          exact good_rngL2 k e2 e4 hp
        · cases h
      · split at h
        · rename_i e
          simp only [Bool.and_eq_true, beq_iff_eq] at e
          obtain ⟨⟨⟨rfl, e2⟩, rfl⟩, e4⟩ := e
          cases h
          exact good_rngT2 k e2 e4 hp
        · cases h
      · rename_i t a y py
        split at h
        · rename_i e
          simp only [Bool.and_eq_true, beq_iff_eq, decide_eq_true_eq] at e
          cases h
          exact good_isi k e.1.1.2 e.1.1.1 e.1.2 e.2 hp
        · cases h
      · cases h
  | no => rw [f] at h; cases h
end
end VS
set_option Elab.async false
set_option linter.all false
set_option maxRecDepth 100000
set_option maxHeartbeats 1000000
/-! VsN: the check is sound: expressions, all forms. -/
namespace VS
open PySem PySem.Spec PyProof.Rows L2

section
variable {P : List Fd} {G : Tb} {c : Cf} {xf : Xf} {C : Nat → List D → CR} {n : Nat} {S : Sx} {X : Cx} {B : Bs} {W : WX}
/-! ### calls -/
theorem pe_call0S {CX : CXT} {k : Nat} {f : Addr} {fd : FuncData} {ps : List Str} {sp : Sp} {E : L2.St → XK} {x : Str} {p pos : Pos} (F : FnOk X.prog X.w X.K X.mg X.base CX k f fd ps sp) (hr : Room k X.A) (hg : Gl X x) (hm : X.mg x = some (.ref f)) (hk : PySem.W.keepIn X.K (.ref f) = true) (hb : Binds X.K fd ps []) (hx : ∀ σ, PassesAt CX X σ (E σ))
    (hdb : (x == ("__debug__" : Str)) = false) : PE X (.Call (.Name x p) [] [] pos) (tCallS sp E tNil) := by
  refine ⟨fun pins s σ H Q I h => ?_⟩
  refine wpAny_Call_Name_kw (ld_glob I hg hm ?_ hdb)
  exact PySem.W.callWith_K0 I.kIn hk (run_fnS (us := []) F hr hb (hx σ) I .nil h)
theorem good_call {f : Nat} {fd : Fd} {x : Str} {p pos : Pos} {xs : List Expr} {ms : En → Out (List Pd)} (k : XOk P G c xf C n S X) (tk : Takes X W) (hx : S.gl x = true) (hf : G.df.lookup x = some f) (hP : P[f]? = some fd) (h : OpsOk X c xf B W xs ms) :
    Good X c xf B W (.Call (.Name x p) xs [] pos) fd.ro (fun ρ => (ms ρ).to fun ps ρ => callD C f fd.io ps ρ) := by
  obtain ⟨fdd, ps, hm, hk, hb, F⟩ := k.df x f fd hf hP
  obtain ⟨g, ok⟩ := k.gl hx
  obtain ⟨o1, o2, o3⟩ := okN_of ok
  have st := h.star
  have pa := h.pa
  refine .of ?_ rfl
  cases xs with
  | nil =>
    cases h
    exact (pe_call0S F k.room g hm hk hb (fun σ => passAt tk σ) o1).imp fun σ H Q ⟨F0, ρ, R, p⟩ => call_done R .nil p
  | cons y ys =>
    simp only [allStar, List.all_cons, Bool.and_eq_true] at st
    exact (pe_callS F k.room g hm hk hb (fun σ => passAt tk σ) pa o1 (star_cons st.1) (star_all st.2)).imp fun σ H Q ⟨F0, ρ, R, p⟩ => ⟨F0, ρ, R, p.bind fun ps ρ1 F1 H1 e1 R1 p1 vs rv => call_done R1 rv p1⟩
/-! ### chains -/
theorem cmp_rule {o : Op} {op : CmpOp} (k : XOk P G c xf C n S X) (h : cmpOf o = some op) (hc : o.chs = true) : ∃ r, OpR X (compareOp op) r ∧ Lk c o (r2 r) ∧ o.fresh = true ∧ op ≠ .In ∧ op ≠ .NotIn := by
  have hu2 : X.A.units + 64 < cLine := by have := k.room.un; omega
  have hK := k.K
  cases o <;> simp only [Op.chs, reduceCtorEq, Bool.false_eq_true] at hc <;> simp only [cmpOf, Option.some.injEq] at h <;> subst h
  · exact ⟨_, op_eqD hu2, hK ▸ lk_eq, rfl, by decide, by decide⟩
  · exact ⟨_, op_neD hu2, hK ▸ lk_ne, rfl, by decide, by decide⟩
  · exact ⟨_, op_lt, lk_lt, rfl, by decide, by decide⟩
  · exact ⟨_, op_le, lk_le, rfl, by decide, by decide⟩
  · exact ⟨_, op_gt, lk_gt, rfl, by decide, by decide⟩
  · exact ⟨_, op_ge, lk_ge, rfl, by decide, by decide⟩
theorem good_chn {a b d : Expr} {pos : Pos} {o1 o2 : Op} {p1 p2 : CmpOp} {ma mb mc : En → Out Pd} (k : XOk P G c xf C n S X) (h1 : cmpOf o1 = some p1) (h2 : cmpOf o2 = some p2) (c1 : o1.chs = true) (c2 : o2.chs = true) (ha : PE X a (tO c xf B W ma)) (hb : PE X b (tO c xf B W mb)) (hc : PE X d (tO c xf B W mc)) :
    Good X c xf B W (.Compare a [p1, p2] [b, d] pos) false (fun ρ => (ma ρ).to fun x ρ => (mb ρ).to fun y ρ => (opD o1 [x, y] ρ).to fun d ρ => (match d with
      | .bl true => (mc ρ).to fun z ρ => opD o2 [y, z] ρ
      | .bl false => .ok (.bl false) ρ
      | _ => .bad)) := by
  obtain ⟨r, ho, lk, fr, _, _⟩ := cmp_rule k h1 c1
  obtain ⟨r', ho', lk', fr', n1, n2⟩ := cmp_rule k h2 c2
  have hm : lastMarks [p1, p2] [b, d] = false := nobehind d n1 n2
  refine ⟨(pe_chain ho ho' ha hb hc hm).imp fun σ H Q ⟨F, ρ, R, p⟩ => chain_read lk lk' fr R (fr' ▸ p.frz), (pt_chain ho ho' ha hb hc hm).imp fun σ H Q ⟨F, ρ, R, p⟩ => chain_read lk lk' fr R (q_bool p)⟩
/-! ### choices -/
theorem pt_ite {ec a b : Expr} {pos : Pos} {mc ma mb : En → Out D} (hc : PT X ec (tT c xf B W mc)) (ha : PT X a (tT c xf B W ma)) (hb : PT X b (tT c xf B W mb)) :
    PT X (.IfExp ec a b pos) (tT c xf B W (fun ρ => (mc ρ).to fun d ρ => (match d with | .bl true => ma ρ | .bl false => mb ρ | _ => .bad))) := by
  refine ⟨fun pins s σ H Q I ⟨F, ρ, R, p⟩ => ?_⟩
  show wpAny _ _ (do if ← isTrue ec X.env (eval ec X.env) then isTrue a X.env (eval a X.env) else isTrue b X.env (eval b X.env)) _ _ _
  have p := p.bind (k' := fun d ρ1 F1 H1 => ∃ k, d = .bl k ∧ if k = true then tT c xf B W ma σ H1 Q else tT c xf B W mb σ H1 Q) fun d ρ1 F1 H1 x R1 p1 => by
    cases d with
    | bl k =>
      refine ⟨k, rfl, ?_⟩
      cases k with
      | true => exact ⟨F1, ρ1, R1, p1⟩
      | false => exact ⟨F1, ρ1, R1, p1⟩
    | _ => exact p1.elim
  refine wpAny_bind (thn (hc.run pins s σ H _ I ⟨F, ρ, R, p⟩) fun k s1 ⟨H1, I1, q1⟩ => ?_)
  cases k with
  | true => exact ha.run pins s1 σ H1 Q I1 q1
  | false => exact hb.run pins s1 σ H1 Q I1 q1
theorem PE_fr {ex : Expr} {fr fr' : Bool} {m : En → Out D} (h : PE X ex (tV c xf B W fr m)) (le : fr' = true → fr = true) : PE X ex (tV c xf B W fr' m) := by
  cases fr' with
  | true => rw [le rfl] at h; exact h
  | false => exact tV.frozen h
/-! ### and, or -/
theorem pw_of {op : BoolOp} {l : List Expr} {pos : Pos} {t : TT} (h : PT X (.BoolOp op l pos) t) : PW X (.BoolOp op l pos) t := ⟨fun wh pins s σ H Q I q => h.run pins s σ H Q I q⟩
theorem good_tail {op : BoolOp} {y : Expr} {r : List Expr} {pos : Pos} {fr : Bool} {m : En → Out D} (h : Good X c xf B W (tail op y r pos) fr m) : PE X (.BoolOp op (y :: r) pos) (tV c xf B W fr m) ∧ PW X (.BoolOp op (y :: r) pos) (tT c xf B W m) := by
  cases r with
  | nil =>
    cases op with
    | And => exact ⟨pe_one h.e, pw_and1 h.t⟩
    | Or => exact ⟨pe_one h.e, pw_or1 h.t⟩
  | cons z r => exact ⟨h.e, pw_of h.t⟩
/-! ### names -/
theorem good_var {i : Nat} {x : Str} {p : Pos} (k : XOk P G c xf C n S X) (h1 : S.at i x = true) (h2 : S.vis x = true) (h3 : okN x = true) : Good X c xf B W (.Name x p) false (rdV i) := by
  obtain ⟨o1, o2, _⟩ := okN_of h3
  exact .of (pe_varE (pe_var (k.at h1) (k.vis h2) o1 o2)) rfl
theorem pk_ok {i : Nat} {ex : Expr} (k : XOk P G c xf C n S X) (h : pkM S i ex = true) : PE X ex (tO c xf B W (pkD i)) := by
  cases ex with
  | Name x p =>
    have h : (S.at i x && S.vis x && okN x) = true := h
    simp only [Bool.and_eq_true] at h
    obtain ⟨o1, o2, _⟩ := okN_of h.2
    exact pe_opnd_var (pe_var (k.at h.1.1) (k.vis h.1.2) o1 o2)
  | _ => cases h
theorem good_cst {d : D} {ex : Expr} (h : mCst d ex = true) : Good X c xf B W ex false (fun ρ => .ok d ρ) := by
  unfold mCst at h
  split at h
  · exact .of (pe_cstE pe_non (fun _ _ => .non) false rfl) rfl
  · rw [eq_of_beq h]; exact .of (pe_cstE pe_bl (fun _ _ => .bl _) false rfl) rfl
  · rw [eq_of_beq h]; exact .of (pe_cstE pe_int (fun _ _ => .int _) false rfl) rfl
  · rw [eq_of_beq h]; exact .of (pe_cstE pe_str (fun _ _ => .str _) false rfl) rfl
  · cases h
theorem good_glo {d : D} {x : Str} {p : Pos} (k : XOk P G c xf C n S X) (hx : S.gl x = true) (hl : ∃ e, G.gv.lookup x = some e ∧ D.sm d e = true) : Good X c xf B W (.Name x p) false (fun ρ => .ok d ρ) := by
  obtain ⟨e, h1, h2⟩ := hl
  rw [sm_eq h2]
  obtain ⟨u, v, hm, r, rp⟩ := k.gv x e h1
  obtain ⟨g, ok⟩ := k.gl hx
  obtain ⟨o1, o2, o3⟩ := okN_of ok
  exact .of (pe_cstE (pe_glob g hm r o1) rp false rfl) rfl
/-! ### comprehensions -/
theorem blkOk_of {scope : Scope} {own : List Nat} (k : XOk P G c xf C n S X) (h : blkOk S scope own = true) : BlkOk X.N X.env.scope scope (own.map fun i => (S.N.getD i "", i)) := by
  unfold blkOk at h
  simp only [Bool.and_eq_true, List.all_eq_true, decide_eq_true_eq, beq_iff_eq, Bool.or_eq_true, bne_iff_ne, ne_eq, Bool.not_eq_true', Bool.or_eq_false_iff, beq_eq_false_iff_ne] at h
  obtain ⟨⟨⟨⟨h1, h2⟩, h3⟩, h4⟩, h5⟩ := h
  refine ⟨h1, h2, fun p hp => ?_, fun y hy e => ?_, fun y hy e => ?_⟩
  · obtain ⟨i, hi, rfl⟩ := List.mem_map.mp hp
    have := h3 i hi
    rw [k.N]
    simp [this]
  · rw [k.sc]
    rcases h4 y hy with z | z
    · exact absurd e z
    · exact z
  · rw [k.N]
    rcases h5 y hy with z | z
    · rcases e with e | e
      · exact absurd e z.1
      · exact absurd e z.2
    · rcases z with z | z
      · refine .inl ?_
        simp only [List.contains_eq_mem, decide_eq_true_eq] at z
        rw [List.map_map]
        exact z
      · refine .inr ?_
        simpa using z
theorem own_map {own : List Nat} {f : Nat → Str} : (own.map fun i => (f i, i)).map (·.2) = own := by
  rw [List.map_map]
  exact (List.map_congr_left fun _ _ => rfl).trans (List.map_id own)
theorem XOk.blk {scope : Scope} {s : Shared} {H : Hp} {A : Addr} {cl : List (Str × Addr)} {fp : List Addr} (k : XOk P G c xf C n S X) (hk : scope.kind = .function) : XOk P G c xf C n (S.blk scope) (X.blk s H scope (compEnvC scope cl A X.env) fp) :=
  ⟨k.N, k.nd, by show relS scope X.env.scope = relS scope S.sc; rw [k.sc], hk, fun x h => h, k.K, k.mg, k.calm, k.room, k.gv, k.df, k.bn⟩
theorem good_comp {elt tg iter : Expr} {ifs : List Expr} {scope : Scope} {own sl : List Nat} {pos : Pos} {mi : En → Out (List D)} {bt : D → En → Out Unit} {cs : En → Out Bool} {el : En → Out D} (k : XOk P G c xf C n S X) (ok : blkOk S scope own = true) (hsl : ∀ j ∈ sl, j ∈ own) (hset : isSet iter = false)
    (hi : PI X tg iter (tI c xf B W mi)) (hg : ∀ (X' : Cx) (B : Bs), XOk P G c xf C n (S.blk scope) X' → Takes X' WF0 → PG X' tg (tB c B sl bt)) (ht : ∀ (X' : Cx) (B : Bs), XOk P G c xf C n (S.blk scope) X' → Takes X' WF0 → PTs X' ifs (tC c xf B WF0 cs))
    (he : ∀ (X' : Cx) (B : Bs), XOk P G c xf C n (S.blk scope) X' → Takes X' WF0 → PE X' elt (tV c xf B WF0 false el)) :
    Good X c xf B W (.ListComp elt [⟨tg, iter, ifs, 0⟩] scope pos) true (fun ρ => (mi ρ).to fun ds ρ0 => compEnd own ρ0 (compLoop (turnD own bt cs el) ds (wipeE ρ0 own))) := by
  have bk := blkOk_of k ok
  have := pe_lc (elt := elt) (pos := pos) k.calm k.nd hi bk (fun s H A cl fp => PG.ex fun B => hg _ B (k.blk bk.kind) takes0) (fun s H A cl fp => PTs.ex fun B => ht _ B (k.blk bk.kind) takes0) (fun s H A cl fp => PE.ex fun B => he _ B (k.blk bk.kind) takes0)
    (fun x => by cases iter <;> first | rfl | (cases hset))
  rw [own_map] at this
  exact .of (this.imp fun σ H Q h => comp_read hsl h) rfl
end
end VS
set_option Elab.async false
set_option linter.all false
set_option maxRecDepth 100000
set_option maxHeartbeats 1000000
/-! VsO: the check is sound: all expressions, targets, walks. -/
namespace VS
open PySem PySem.Spec PyProof.Rows L2

section
variable {P : List Fd} {G : Tb} {c : Cf} {xf : Xf} {C : Nat → List D → CR} {n : Nat}
/-- written items -/
structure EsOk (X : Cx) (c : Cf) (xf : Xf) (B : Bs) (W : WX) (xs : List Expr) (k : Nat) (m : En → Out (List D)) : Prop where
  pa : PA X xs (tVs c xf B W m)
  star : allStar xs = true
  len : ∀ ρ ds ρ', m ρ = .ok ds ρ' → ds.length = k
structure TsOk (X : Cx) (c : Cf) (B : Bs) (xs : List Expr) (sl : List Nat) (k : Nat) (m : List D → En → Out Unit) : Prop where
  pg : PGs X xs (tBs c B sl m)
  len : (assignEach xs X.env).length = k
  star : (assignEach xs X.env).findIdx? (·.1) = none
  lens : ∀ ds ρ u ρ', m ds ρ = .ok u ρ' → ds.length = k
def sE_P (P : List Fd) (G : Tb) (c : Cf) (xf : Xf) (C : Nat → List D → CR) (n : Nat) (e : E) : Prop :=
  ∀ (S : Sx) (X : Cx) (B : Bs) (W : WX) (ex : Expr), XOk P G c xf C n S X → Takes X W → mE P G S ex e = true → Good X c xf B W ex e.fresh (fun ρ => denE C e ρ)
theorem small_le {a : Nat} (h : a ≤ 1000) : a ≤ sizeLine := by rw [sizeLine_eq]; omega
def opM (P : List Fd) (G : Tb) (S : Sx) (x : Expr) (e : E) : Bool := match e with
  | .pk i => pkM S i x
  | _ => mE P G S x e
def opN (C : Nat → List D → CR) (e : E) (ρ : En) : Out Pd := match e with
  | .pk i => pkD i ρ
  | _ => (denE C e ρ).to fun d ρ => .ok (.inl d) ρ
theorem opnd_ok {e : E} {S : Sx} {X : Cx} {B : Bs} {W : WX} {x : Expr} (ih : sE_P P G c xf C n e) (k : XOk P G c xf C n S X) (tk : Takes X W) (h : opM P G S x e = true) : PE X x (tO c xf B W (fun ρ => opN C e ρ)) := by
  cases e with
  | pk i => exact pk_ok k h
  | _ => exact pe_opnd_val (tV.frozen (ih S X B W x k tk h).e)
theorem asg_sub {o ie : Expr} {pos : Pos} {env : Env} (h : isSlice ie = false) (v : Value) : assign (.Subscript o ie pos) env v = (do
      let ov ← holding [v] (eval o env)
      let iv ← holding [v, ov] (eval ie env)
      standAt pos
      holding [v, ov, iv] (setItem ov iv v)
      release [v, ov, iv] []) := by
  cases ie <;> first | rfl | (cases h)
mutual
theorem sE : ∀ (e : E), sE_P P G c xf C n e
  | .cst d, S, X, B, W, ex, k, tk, h => by
    unfold mE at h
    exact (good_cst h).congr fun ρ => rfl
  | .var i, S, X, B, W, ex, k, tk, h => by
    unfold mE at h
    split at h
    · simp only [Bool.and_eq_true] at h
      exact (good_var k h.1.1 h.1.2 h.2).congr fun ρ => rfl
    · cases h
  | .pk i, S, X, B, W, ex, k, tk, h => by unfold mE at h; cases h
  | .glo x d, S, X, B, W, ex, k, tk, h => by
    unfold mE at h
    split at h
    · rename_i y p
      simp only [Bool.and_eq_true, beq_iff_eq] at h
      obtain ⟨⟨⟨rfl, h2⟩, h3⟩, h4⟩ := h
      refine (good_glo (d := d) (p := p) k h2 ?_).congr fun ρ => rfl
      split at h4
      · rename_i e he; exact ⟨e, he, h4⟩
      · cases h4
    · cases h
  | .fnv i, S, X, B, W, ex, k, tk, h => by unfold mE at h; cases h
  | .tup es, S, X, B, W, ex, k, tk, h => by
    unfold mE at h
    split at h
    · simp only [Bool.and_eq_true, decide_eq_true_eq] at h
      have q := sEs es S X B W _ k tk h.1
      refine (Good.of (pe_tupE q.pa fun ρ ds ρ' e => by rw [q.len _ _ _ e]; exact small_le h.2) rfl).congr fun ρ => rfl
    · cases h
  | .lst es, S, X, B, W, ex, k, tk, h => by
    unfold mE at h
    split at h
    · simp only [Bool.and_eq_true, decide_eq_true_eq] at h
      have q := sEs es S X B W _ k tk h.1
      refine (Good.of (pe_lstE q.pa fun ρ ds ρ' e => by rw [q.len _ _ _ e]; exact small_le h.2) rfl).congr fun ρ => rfl
    · cases h
  | .op o es, S, X, B, W, ex, k, tk, h => by
    unfold mE at h
    split at h
    · rename_i xs e
      refine (op_good k e (sOs es S X B W _ k tk h)).congr fun ρ => rfl
    · cases h
  | .and a b, S, X, B, W, ex, k, tk, h => by
    unfold mE at h
    split at h
    · simp only [Bool.and_eq_true] at h
      have qa := sE a S X B W _ k tk h.1
      have qb := good_tail (sE b S X B W _ k tk h.2)
      exact Good.congr (fun ρ => rfl) ⟨pe_andE (ta := fun _ _ _ => True) (tV.frozen qa.e) (tV.frozen qb.1), (pw_andE qa.t qb.2).pt⟩
    · cases h
  | .or a b, S, X, B, W, ex, k, tk, h => by
    unfold mE at h
    split at h
    · simp only [Bool.and_eq_true] at h
      have qa := sE a S X B W _ k tk h.1
      have qb := good_tail (sE b S X B W _ k tk h.2)
      exact Good.congr (fun ρ => rfl) ⟨pe_orE (tV.frozen qa.e) (tV.frozen qb.1), (pw_orE qa.t qb.2).pt⟩
    · cases h
  | .not a, S, X, B, W, ex, k, tk, h => by
    unfold mE at h
    split at h
    · have qa := sE a S X B W _ k tk h
      exact Good.congr (fun ρ => rfl) ⟨pe_notE (tV.frozen qa.e), pt_notE qa.t⟩
    · cases h
  | .ite d a b, S, X, B, W, ex, k, tk, h => by
    unfold mE at h
    split at h
    · simp only [Bool.and_eq_true] at h
      have qd := sE d S X B W _ k tk h.1.1
      have qa := sE a S X B W _ k tk h.1.2
      have qb := sE b S X B W _ k tk h.2
      have e1 : (E.ite d a b).fresh = true → a.fresh = true := fun z => by simp only [E.fresh, Bool.and_eq_true] at z; exact z.1
      have e2 : (E.ite d a b).fresh = true → b.fresh = true := fun z => by simp only [E.fresh, Bool.and_eq_true] at z; exact z.2
      exact Good.congr (fun ρ => rfl) ⟨pe_iteE qd.t (PE_fr qa.e e1) (PE_fr qb.e e2), pt_ite qd.t qa.t qb.t⟩
    · cases h
  | .chn o1 o2 a b d, S, X, B, W, ex, k, tk, h => by
    unfold mE at h
    split at h
    · simp only [Bool.and_eq_true, beq_iff_eq] at h
      obtain ⟨⟨⟨⟨⟨⟨h1, h2⟩, h3⟩, h4⟩, h5⟩, h6⟩, h7⟩ := h
      exact Good.congr (fun ρ => rfl) (good_chn k h1 h2 h3 h4 (opnd_ok (sE a) k tk h5) (opnd_ok (sE b) k tk h6) (opnd_ok (sE d) k tk h7))
    · cases h
  | .sl2 a l z, S, X, B, W, ex, k, tk, h => by
    unfold mE at h
    split at h
    · simp only [Bool.and_eq_true] at h
      obtain ⟨⟨h5, h6⟩, h7⟩ := h
      exact Good.congr (fun ρ => rfl) (good_sl2 k.K (opnd_ok (sE a) k tk h5) (tV.frozen (sE l S X B W _ k tk h6).e) (tV.frozen (sE z S X B W _ k tk h7).e))
    · cases h
  | .call f io ro es, S, X, B, W, ex, k, tk, h => by
    unfold mE at h
    split at h
    · simp only [Bool.and_eq_true] at h
      obtain ⟨⟨⟨h1, h2⟩, h3⟩, h4⟩ := h
      split at h2
      · rename_i g hg
        split at h3
        · rename_i fd hf
          simp only [Bool.and_eq_true, beq_iff_eq] at h3
          obtain ⟨⟨r1, r2⟩, r3⟩ := h3
          have h2 : g = f := by simpa using h2
          subst h2
          subst r1 r2
          exact Good.congr (fun ρ => rfl) (good_call k tk h1 hg hf (sOs es S X B W _ k tk h4))
        · cases h3
      · cases h2
    · cases h
  | .comp e t it cs own, S, X, B, W, ex, k, tk, h => by
    unfold mE at h
    split at h
    · simp only [Bool.and_eq_true, Bool.not_eq_true'] at h
      obtain ⟨⟨⟨⟨⟨⟨h1, h2⟩, h3⟩, h4⟩, h5⟩, h6⟩, h7⟩ := h
      refine Good.congr (fun ρ => rfl) (good_comp (sl := T.sl t) k h2 (fun j hj => by simpa using List.all_eq_true.mp h6 j hj) h7 (sIt it S X B W _ _ k tk h1) (fun X' B' k' tk' => sT t _ X' B' WF0 _ k' tk' h3)
        (fun X' B' k' tk' => sCs cs _ X' B' WF0 _ k' tk' h4) fun X' B' k' tk' => tV.frozen (sE e _ X' B' WF0 _ k' tk' h5).e)
    · cases h
  | .comp2 .., S, X, B, W, ex, k, tk, h => by unfold mE at h; cases h
theorem sOs : ∀ (es : Es) (S : Sx) (X : Cx) (B : Bs) (W : WX) (xs : List Expr), XOk P G c xf C n S X → Takes X W → mOs P G S xs es = true → OpsOk X c xf B W xs (fun ρ => denOs C es ρ)
  | .nil, S, X, B, W, xs, k, tk, h => by
    unfold mOs at h
    split at h
    · have : (fun ρ => denOs C .nil ρ) = (fun ρ => .ok [] ρ) := funext fun ρ => rfl
      rw [this]; exact .nil
    · cases h
  | .cons e r, S, X, B, W, xs, k, tk, h => by
    unfold mOs at h
    split at h
    · simp only [Bool.and_eq_true] at h
      have := OpsOk.cons h.1.1 (opnd_ok (B := B) (sE e) k tk h.1.2) (sOs r S X B W _ k tk h.2)
      have q : (fun ρ => denOs C (.cons e r) ρ) = (fun ρ => (match e with
        | .pk i => pkD i ρ
        | _ => (denE C e ρ).to fun d ρ => .ok (.inl d) ρ).to fun d ρ => (denOs C r ρ).to fun ds ρ => .ok (d :: ds) ρ) := funext fun ρ => rfl
      rw [q]; exact this
    · cases h
theorem sEs : ∀ (es : Es) (S : Sx) (X : Cx) (B : Bs) (W : WX) (xs : List Expr), XOk P G c xf C n S X → Takes X W → mEs P G S xs es = true → EsOk X c xf B W xs es.len (fun ρ => denEs C es ρ)
  | .nil, S, X, B, W, xs, k, tk, h => by
    unfold mEs at h
    split at h
    · have q : (fun ρ => denEs C .nil ρ) = (fun ρ => .ok [] ρ) := funext fun ρ => rfl
      rw [q]
      exact ⟨pa_vnil, rfl, fun ρ ds ρ' e => by cases e; rfl⟩
    · cases h
  | .cons e r, S, X, B, W, xs, k, tk, h => by
    unfold mEs at h
    split at h
    · simp only [Bool.and_eq_true] at h
      have qe := sE e S X B W _ k tk h.1.2
      have qr := sEs r S X B W _ k tk h.2
      have q : (fun ρ => denEs C (.cons e r) ρ) = (fun ρ => (denE C e ρ).to fun d ρ => (denEs C r ρ).to fun ds ρ => .ok (d :: ds) ρ) := funext fun ρ => rfl
      rw [q]
      refine ⟨pa_vcons (tV.frozen qe.e) qr.pa (star_cons h.1.1), by simp only [allStar, List.all_cons, Bool.and_eq_true]; exact ⟨h.1.1, qr.star⟩, fun ρ ds ρ' e' => ?_⟩
      cases e1 : denE C e ρ with
      | ok d ρ1 =>
        rw [e1] at e'
        have e' : ((denEs C r ρ1).to fun ds ρ => .ok (d :: ds) ρ) = Out.ok ds ρ' := e'
        cases e2 : denEs C r ρ1 with
        | ok ds2 ρ2 =>
          rw [e2] at e'
          cases e'
          rw [List.length_cons, qr.len _ _ _ e2, Es.len]
        | err e r => rw [e2] at e'; cases e'
        | bad => rw [e2] at e'; cases e'
      | err e r => rw [e1] at e'; cases e'
      | bad => rw [e1] at e'; cases e'
    · cases h
theorem sCs : ∀ (es : Es) (S : Sx) (X : Cx) (B : Bs) (W : WX) (xs : List Expr), XOk P G c xf C n S X → Takes X W → mCs P G S xs es = true → PTs X xs (tC c xf B W (fun ρ => denCs C es ρ))
  | .nil, S, X, B, W, xs, k, tk, h => by
    unfold mCs at h
    split at h
    · have q : (fun ρ => denCs C .nil ρ) = (fun ρ => .ok true ρ) := funext fun ρ => rfl
      rw [q]
      exact pts_nilD
    · cases h
  | .cons e r, S, X, B, W, xs, k, tk, h => by
    unfold mCs at h
    split at h
    · have qe := sE e S X B W _ k tk h
      have q : (fun ρ => denCs C (.cons e .nil) ρ) = (fun ρ => (denE C e ρ).to fun d ρ => (match d with | .bl true => .ok true ρ | .bl false => .ok false ρ | _ => .bad)) := funext fun ρ => rfl
      rw [q]
      exact pts_oneD qe.t
    · cases h
theorem sIt : ∀ (it : It) (S : Sx) (X : Cx) (B : Bs) (W : WX) (tg iter : Expr), XOk P G c xf C n S X → Takes X W → mIt P G S tg iter it = true → PI X tg iter (tI c xf B W (fun ρ => denIt C it ρ))
  | .e e, S, X, B, W, tg, iter, k, tk, h => by
    unfold mIt at h
    exact (pi_e k.K (tV.frozen (sE e S X B W _ k tk h).e)).imp fun σ H R ⟨F, ρ, q, p⟩ => ⟨F, ρ, q, p⟩
  | .rng1 a, S, X, B, W, tg, iter, k, tk, h => by
    unfold mIt at h
    split at h
    · simp only [Bool.and_eq_true, beq_iff_eq] at h
      obtain ⟨⟨⟨rfl, h2⟩, h3⟩, h4⟩ := h
      obtain ⟨g, ok⟩ := k.gl h2
      refine (pi_rng1 g (k.bn _ l_range) (tV.frozen (sE a S X B W _ k tk h4).e) (star_cons h3)).imp fun σ H R ⟨F, ρ, q, p⟩ => ⟨F, ρ, q, p⟩
    · cases h
  | .rng2 a b, S, X, B, W, tg, iter, k, tk, h => by
    unfold mIt at h
    split at h
    · simp only [Bool.and_eq_true, beq_iff_eq] at h
      obtain ⟨⟨⟨⟨⟨rfl, h2⟩, h3⟩, h3'⟩, h4⟩, h5⟩ := h
      obtain ⟨g, ok⟩ := k.gl h2
      refine (pi_rng2 g (k.bn _ l_range) (tV.frozen (sE a S X B W _ k tk h4).e) (tV.frozen (sE b S X B W _ k tk h5).e) (star_cons h3) (star_cons h3')).imp fun σ H R ⟨F, ρ, q, p⟩ => ⟨F, ρ, q, p⟩
    · cases h
  | .rng3 a b d, S, X, B, W, tg, iter, k, tk, h => by
    unfold mIt at h
    split at h
    · simp only [Bool.and_eq_true, beq_iff_eq] at h
      obtain ⟨⟨⟨⟨⟨⟨⟨rfl, h2⟩, h3⟩, h3'⟩, h3''⟩, h4⟩, h5⟩, h6⟩ := h
      obtain ⟨g, ok⟩ := k.gl h2
      have m := k.bn "range" l_range
      refine (pi_rng3 g m (tV.frozen (sE a S X B W _ k tk h4).e) (tV.frozen (sE b S X B W _ k tk h5).e) (tV.frozen (sE d S X B W _ k tk h6).e) (star_cons h3) (star_cons h3') (star_cons h3'')
        fun ta pa => pi_range3 g m pa (star_cons h3) (by rw [star_cons h3', star_cons h3''] <;> rfl)).imp fun σ H R ⟨F, ρ, q, p⟩ => ⟨F, ρ, q, p⟩
    · cases h
  | .zip a b, S, X, B, W, tg, iter, k, tk, h => by
    unfold mIt at h
    split at h
    · simp only [Bool.and_eq_true, beq_iff_eq] at h
      obtain ⟨⟨⟨⟨⟨rfl, h2⟩, h3⟩, h3'⟩, h4⟩, h5⟩ := h
      obtain ⟨g, ok⟩ := k.gl h2
      refine (pi_zipE k.K g (k.bn _ l_zip) (tV.frozen (sE a S X B W _ k tk h4).e) (tV.frozen (sE b S X B W _ k tk h5).e) (star_cons h3) (star_cons h3')).imp fun σ H R ⟨F, ρ, q, p⟩ => ⟨F, ρ, q, p⟩
    · cases h
  | .enm a, S, X, B, W, tg, iter, k, tk, h => by
    unfold mIt at h
    split at h
    · simp only [Bool.and_eq_true, beq_iff_eq] at h
      obtain ⟨⟨⟨rfl, h2⟩, h3⟩, h4⟩ := h
      obtain ⟨g, ok⟩ := k.gl h2
      refine (pi_enmE k.K g (k.bn _ l_enum) (tV.frozen (sE a S X B W _ k tk h4).e) (star_cons h3)).imp fun σ H R ⟨F, ρ, q, p⟩ => ⟨F, ρ, q, p⟩
    · cases h
theorem sT : ∀ (t : T) (S : Sx) (X : Cx) (B : Bs) (W : WX) (tg : Expr), XOk P G c xf C n S X → Takes X W → mT P G S tg t = true → PG X tg (tB c B (T.sl t) (fun d ρ => bindT C t d ρ))
  | .n i, S, X, B, W, tg, k, tk, h => by
    unfold mT at h
    split at h
    · simp only [Bool.and_eq_true] at h
      obtain ⟨l1, l2⟩ := k.loc h.2
      have q : (fun d ρ => bindT C (.n i) d ρ) = (fun d ρ => setSl i (.val d) ρ) := funext fun d => funext fun ρ => rfl
      rw [q, T.sl]
      exact pg_nameD k.nd (k.at h.1) l1 l2
    · cases h
  | .t ts, S, X, B, W, tg, k, tk, h => by
    unfold mT at h
    split at h
    · have r := sTs ts S X B W _ k tk h
      have q : (fun d ρ => bindT C (.t ts) d ρ) = (fun d ρ => match d with | .tup ds => bindTs C ts ds ρ | _ => .bad) := funext fun d => funext fun ρ => rfl
      rw [q, T.sl]
      exact pg_tupD k.K k.calm r.pg r.len r.star r.lens
    · cases h
  | .ix i e, S, X, B, W, tg, k, tk, h => by
    unfold mT at h
    split at h
    · simp only [Bool.and_eq_true, Bool.not_eq_true'] at h
      obtain ⟨⟨⟨⟨h1, h2⟩, h3⟩, h4⟩, h5⟩ := h
      obtain ⟨o1, o2, _⟩ := okN_of h3
      have q : (fun d ρ => bindT C (.ix i e) d ρ) = (fun d ρ => if lstAt i ρ then (match denE C e ρ with | .ok k ρ => updSl i (fun c => storeD c k d) ρ | _ => .bad) else .bad) := funext fun d => funext fun ρ => rfl
      rw [q, T.sl]
      exact pg_ixD (pe_var (k.at h1) (k.vis h2) o1 o2) (tV.frozen (sE e S X B W _ k tk h5).e) fun v => asg_sub h4 v
    · cases h
theorem sTs : ∀ (ts : Ts) (S : Sx) (X : Cx) (B : Bs) (W : WX) (xs : List Expr), XOk P G c xf C n S X → Takes X W → mTs P G S xs ts = true → TsOk X c B xs (Ts.sl ts) ts.len (fun ds ρ => bindTs C ts ds ρ)
  | .nil, S, X, B, W, xs, k, tk, h => by
    unfold mTs at h
    split at h
    · have q : (fun ds ρ => bindTs C .nil ds ρ) = (fun ds ρ => match ds with | [] => .ok () ρ | _ => .bad) := funext fun d => funext fun ρ => rfl
      rw [q, Ts.sl]
      exact ⟨pgs_nilD, rfl, rfl, fun ds ρ u ρ' e => by cases ds with
        | nil => rfl
        | cons => cases e⟩
    · cases h
  | .cons t r, S, X, B, W, xs, k, tk, h => by
    unfold mTs at h
    split at h
    · simp only [Bool.and_eq_true] at h
      have qt := sT t S X B W _ k tk h.1.2
      have qr := sTs r S X B W _ k tk h.2
      have q : (fun ds ρ => bindTs C (.cons t r) ds ρ) = (fun ds ρ => match ds with | d :: ds => (bindT C t d ρ).to fun _ ρ => bindTs C r ds ρ | [] => .bad) := funext fun d => funext fun ρ => rfl
      rw [q, Ts.sl]
      refine ⟨pgs_consD qt qr.pg (by rw [asg_cons h.1.1] <;> rfl), by rw [asg_cons h.1.1, List.length_cons, qr.len, Ts.len], by rw [asg_cons h.1.1, List.findIdx?_cons, qr.star] <;> rfl, fun ds ρ u ρ' e' => ?_⟩
      cases ds with
      | nil => cases e'
      | cons d ds =>
        have e' : ((bindT C t d ρ).to fun _ ρ => bindTs C r ds ρ) = .ok u ρ' := e'
        cases e1 : bindT C t d ρ with
        | ok u1 ρ1 =>
          rw [e1] at e'
          have e' : bindTs C r ds ρ1 = .ok u ρ' := e'
          rw [List.length_cons, qr.lens _ _ _ _ e', Ts.len]
        | err e r => rw [e1] at e'; cases e'
        | bad => rw [e1] at e'; cases e'
    · cases h
end
end
end VS
set_option Elab.async false
set_option linter.all false
set_option maxRecDepth 100000
set_option maxHeartbeats 1000000
/-! VsP: statements: the check, and that it is sound. -/
namespace VS
open PySem PySem.Spec PyProof.Rows L2

def isStarred : Expr → Bool
  | .Starred .. => true
  | _ => false
/-- which names are stored from the right -/
def swP (sc : Scope) (ts vs : List Expr) : Option (Option (List Str)) :=
  if !(ts.length == 2 || ts.length == 3) || vs.length != ts.length then some none
  else if vs.any isStarred then some none
  else
    let line := (ts.head?.map (·.pos.line)).getD 0
    let names := ts.filterMap fun
      | .Name id pos => if sc.names.lookup id == some .local && pos.line == line then some id else none
      | _ => none
    if names.length != ts.length || names.eraseDups.length != names.length then some none
    else if vs.all (foldedForSure 8) then some none
    else if vs.all (constantsAlone 8) then none
    else some (some names)
theorem swP_ok {env : Env} {sc : Scope} {ts vs : List Expr} {k k2 : Nat} {p p2 : Pos} {r : Option (List Str)} (hs : env.scope = sc) (hb : env.blockKind = .function) (h : swP sc ts vs = some r) : swappedStores [.Tuple ts k p] (.Tuple vs k2 p2) env = pure r := by
  subst hs
  unfold swP at h
  unfold swappedStores
  simp only [hb]
  show (if (!(ts.length == 2 || ts.length == 3) || vs.length != ts.length || (ScopeKind.function != ScopeKind.function)) = true then pure none else _) = _
  rw [show (ScopeKind.function != ScopeKind.function) = false from rfl, Bool.or_false]
  by_cases h1 : (!(ts.length == 2 || ts.length == 3) || vs.length != ts.length) = true
  · rw [if_pos h1] at h
    rw [if_pos h1]
    cases h; rfl
  · rw [if_neg h1] at h
    rw [if_neg h1]
    by_cases h2 : vs.any isStarred = true
    · rw [if_pos h2] at h
      refine (if_pos h2).trans ?_
      cases h; rfl
    · rw [if_neg h2] at h
      refine (if_neg h2).trans ?_
      dsimp only at h
      split at h
      · rename_i h3
        refine (if_pos h3).trans ?_
        cases h; rfl
      · rename_i h3
        refine (if_neg h3).trans ?_
        split at h
        · rename_i h4
          refine (if_pos h4).trans ?_
          cases h; rfl
        · rename_i h4
          refine (if_neg h4).trans ?_
          split at h
          · cases h
          · rename_i h5
            refine (if_neg h5).trans ?_
            cases h; rfl
def asgSw (sc : Scope) (tg v : Expr) : Bool := match tg with
  | .Tuple ts _ _ => (match v with
    | .Tuple vs _ _ => (match swP sc ts vs with
      | some none => true
      | _ => false)
    | _ => true)
  | .List .. => false
  | _ => true
theorem asgSw_ok {env : Env} {sc : Scope} {tg v : Expr} (hs : env.scope = sc) (hb : env.blockKind = .function) (h : asgSw sc tg v = true) : swappedStores [tg] v env = pure none := by
  cases tg with
  | Tuple ts k p =>
    cases v with
    | Tuple vs k2 p2 =>
      have h : (match swP sc ts vs with | some none => true | _ => false) = true := h
      split at h
      · rename_i e; exact swP_ok hs hb e
      · cases h
    | _ => rfl
  | List => cases h
  | _ => rfl
/-- is the store done within the comprehension -/
def compSw (sc : Scope) (x : Str) (px : Pos) : Expr → Bool
  | .ListComp _ _ s p => sc.names.lookup x == some .local && px.line == p.line && !(s.names.any fun (n, k) => n == x && (k == .local || k == .cell))
  | .SetComp _ _ s p => sc.names.lookup x == some .local && px.line == p.line && !(s.names.any fun (n, k) => n == x && (k == .local || k == .cell))
  | .DictComp _ _ _ s p => sc.names.lookup x == some .local && px.line == p.line && !(s.names.any fun (n, k) => n == x && (k == .local || k == .cell))
  | _ => false
theorem compSw_ok {env : Env} {sc : Scope} {x : Str} {px : Pos} {l : Nat} (hs : env.scope = sc) (hb : env.blockKind = .function) (v : Expr) : swapsWith v (some (.Name x px)) l env = pure (compSw sc x px v) := by
  subst hs
  cases v <;> first
    | rfl
    | (unfold swapsWith
       simp only [hb, Env.kindOf]
       show pure (_ && _ && _ && _) = pure _
       rfl)
theorem noComp_other {v : Expr} {tg : Expr} {l : Nat} {env : Env} (h : (match tg with | .Name .. => false | _ => true) = true) : swapsWith v (some tg) l env = pure false := by
  cases tg with
  | Name => cases h
  | _ => cases v <;> rfl
def isComp : Expr → Bool
  | .ListComp .. => true
  | .SetComp .. => true
  | .DictComp .. => true
  | _ => false
theorem noComp_drop {v : Expr} {l : Nat} {env : Env} (h : isComp v = false) : swapsWith v none l env = pure false := by
  cases v <;> first | rfl | cases h
end VS
set_option Elab.async false
set_option linter.all false
set_option maxRecDepth 100000
set_option maxHeartbeats 1000000
/-! VsQ: statements. -/
namespace VS
open PySem PySem.Spec PyProof.Rows L2

def isCompE : E → Bool
  | .comp .. => true
  | _ => false
def Me.nm : Me → Str
  | .append => "append"
  | .extend => "extend"
section
variable (P : List Fd) (G : Tb) (ro : Bool)
mutual
def mS (S : Sx) (st : Stmt) : VS.S → Bool
  | .asg t e => (match st with
    | .Assign [tg] v _ => (match t with
      | .n i => (match tg with
        | .Name x px => S.at i x && S.loc x && mE P G S v e && (!compSw S.sc x px v || isCompE e)
        | _ => false)
      | t => mT P G S tg t && mE P G S v e && asgSw S.sc tg v && (match tg with | .Name .. => false | _ => true))
    | _ => false)
  | .par is es => (match st with
    | .Assign [.Tuple [.Name x _, .Name y _] _ _] (.Tuple vs _ _) _ => (match is, vs with
      | [i, j], [_, _] => S.at i x && S.at j y && decide (i ≠ j) && mEs P G S vs es
      | _, _ => false)
    | .Assign [.Tuple [.Name x _, .Name y _, .Name z _] _ _] (.Tuple vs _ _) _ => (match is, vs with
      | [i, j, l], [_, _, _] => S.at i x && S.at j y && S.at l z && decide (i ≠ j) && decide (i ≠ l) && decide (j ≠ l) && mEs P G S vs es
      | _, _ => false)
    | _ => false) && (match st with
    | .Assign [.Tuple ts _ _] (.Tuple vs _ _) _ => decide (swP S.sc ts vs = some (some (ts.filterMap fun e => match e with | .Name x _ => some x | _ => none)))
    | _ => false)
  | .meth me i e => (match st with
    | .Expr (.Call (.Attribute (.Name x _) m ap) [a] [] cp) _ => m == me.nm && S.at i x && S.vis x && okN x && notStar a && (ap.endLine == cp.line) && mE P G S a e
    | _ => false)
  | .ex e => (match st with
    | .Expr v _ => !isComp v && mE P G S v e
    | _ => false)
  | .iff c a b => (match st with
    | .If x as bs _ => mE P G S x c && mSs S as a && mSs S bs b
    | _ => false)
  | .forr t it b => (match st with
    | .For tg iter body [] _ => mIt P G S tg iter it && mT P G S tg t && mSs S body b && !isSet iter
    | _ => false)
  | .whl c b => (match st with
    | .While x body [] _ => mE P G S x c && mSs S body b
    | _ => false)
  | .ret e => (match st with
    | .Return (some v) _ => mE P G S v e
    | _ => false)
  | .retn => (match st with
    | .Return none _ => true
    | _ => false)
  | .rse k e => (match st, e with
    | .Raise (some (.Call (.Name x _) [.Constant (.str _) _ _] [] _)) none _, none => S.gl x && (match G.cl.lookup x with
      | some j => j == k
      | none => false)
    | _, _ => false)
  | .pas => (match st with
    | .Pass _ => true
    | .Expr (.Constant (.str _) _ _) _ => true
    | _ => false)
  | .brk => (match st with
    | .Break _ => true
    | _ => false)
  | .cnt => (match st with
    | .Continue _ => true
    | _ => false)
  | .bad => true
def mSs (S : Sx) (sts : List Stmt) : Ss → Bool
  | .nil => (match sts with
    | [] => true
    | _ => false)
  | .cons s r => (match sts with
    | st :: sts => mS S st s && mSs S sts r
    | [] => false)
end
end
/-- what statements want beside -/
structure YOk (G : Tb) (xf : Xf) (X : Cx) (B : Bs) (W : WX) : Prop where
  tk : Takes X W
  hp : PassesOwn (model X.prog X.w) X.A X.env X.xe
  hB : ∀ a, B.io a → B.ia = some a
  cl : ∀ x k, G.cl.lookup x = some k → ∃ bmB Bn newId initId, ExcBaseFacts Bn newId initId bmB ∧ PySem.W.excIn X.K (xf.cad k) bmB newId = true ∧ X.mg x = some (.ref (xf.cad k)) ∧ PySem.W.keepIn X.K (.ref (xf.cad k)) = true ∧ Raises X (.ref (xf.cad k))
section
variable {P : List Fd} {G : Tb} {c : Cf} {xf : Xf} {C : Nat → List D → CR} {n : Nat} {S : Sx} {X : Cx} {B : Bs} {W : WX} {ro : Bool}
theorem blockK (k : XOk P G c xf C n S X) : X.env.blockKind = .function := by
  unfold Env.blockKind
  rw [k.kind] <;> rfl
theorem sPar (k : XOk P G c xf C n S X) (tk : Takes X W) : ∀ (es : Es) (B : Bs) (xs : List Expr), mEs P G S xs es = true → PA X xs (tP c xf B W (fun ρ => denPar C es ρ))
  | .nil, B, xs, h => by
    unfold mEs at h
    split at h
    · exact pa_pnil
    · cases h
  | .cons e r, B, xs, h => by
    unfold mEs at h
    split at h
    · simp only [Bool.and_eq_true] at h
      have qe := sE e S X B W _ k tk h.1.2
      exact pa_pcons qe.e (fun B => sPar k tk r B _ h.2) (star_cons h.1.1)
    · cases h
theorem PS_congr {st : Stmt} {m m' : En → Out Fl} (e : ∀ ρ, m ρ = m' ρ) (h : PS X st (tS c xf B W ro m)) : PS X st (tS c xf B W ro m') := by
  have : m = m' := funext e
  rw [← this]; exact h
theorem PSs_congr {st : List Stmt} {m m' : En → Out Fl} (e : ∀ ρ, m ρ = m' ρ) (h : PSs X st (tS c xf B W ro m)) : PSs X st (tS c xf B W ro m') := by
  have : m = m' := funext e
  rw [← this]; exact h
theorem mT_star {tg : Expr} {t : T} (h : mT P G S tg t = true) : notStar tg = true := by
  cases t <;> unfold mT at h <;> split at h <;> first | rfl | cases h
theorem few_ok {a : Expr} {env : Env} {cp : Pos} (h : notStar a = true) : ((backTo cp (starEach [a] env)).all (fun x => !x.1) && (backToKw cp (keywordEach [] env)).all (fun x => x.1.isSome)
      && decide ([a].length + ([] : List Keyword).length + (if ([] : List Keyword).isEmpty then 0 else 1) < 30)) = true := by
  rw [star_cons h] <;> rfl
theorem s_name {i : Nat} {x : Str} {px pos : Pos} {v : Expr} {e : E} (k : XOk P G c xf C n S X) (y : YOk G xf X B W) (h1 : S.at i x = true) (h2 : S.loc x = true) (h3 : mE P G S v e = true) (h4 : (!compSw S.sc x px v || isCompE e) = true) :
    PS X (.Assign [.Name x px] v pos) (tS c xf B W ro (fun ρ => denS C ro (.asg (.n i) e) ρ)) := by
  obtain ⟨l1, l2⟩ := k.loc h2
  have hsw := compSw_ok (x := x) (px := px) (l := pos.line) k.sc (blockK k) v
  by_cases hc : compSw S.sc x px v = true
  · rw [hc] at h4 hsw
    cases e <;> try (cases h4)
    rename_i e t it cs own
    have h3' := h3
    unfold mE at h3
    split at h3
    · rename_i elt tg iter ifs scope p
      simp only [Bool.and_eq_true, Bool.not_eq_true'] at h3
      obtain ⟨⟨⟨⟨⟨⟨a1, a2⟩, a3⟩, a4⟩, a5⟩, a6⟩, a7⟩ := h3
      have bk := blkOk_of k a2
      have hl : X.env.scope.names.lookup x = some .local := by
        rw [k.sc]
        simp only [compSw, Bool.and_eq_true, beq_iff_eq] at hc
        exact hc.1.1
      have := ps_setLc (pos := p) (spos := pos) (py := px) k.calm k.nd (k.at h1) hl hsw (sIt it S X B W _ _ k y.tk a1) bk (fun s H A cl fp => PG.ex fun B => sT t _ _ B WF0 _ (k.blk bk.kind) takes0 a3) (fun s H A cl fp => PTs.ex fun B => sCs cs _ _ B WF0 _ (k.blk bk.kind) takes0 a4)
        (fun s H A cl fp => PE.ex fun B => tV.frozen (sE e _ _ B WF0 _ (k.blk bk.kind) takes0 a5).e) (fun x => by cases iter <;> first | rfl | (cases a7))
      rw [own_map] at this
      exact this.imp fun D σ H h => comp_read (fun j hj => by simpa using List.all_eq_true.mp a6 j hj) (name_read h)
    · cases h3
  · have hc : compSw S.sc x px v = false := by simpa using hc
    rw [hc] at hsw
    exact (ps_set k.nd (k.at h1) l1 (sE e S X B W _ k y.tk h3).e hsw l2).imp fun D σ H h => name_read h
/-- stored from the right: all are locals -/
theorem fm_len {α β : Type} (f : α → Option β) : ∀ (l : List α), (l.filterMap f).length = l.length → ∀ x ∈ l, (f x).isSome = true
  | [], _, _, h => nomatch h
  | a :: l, e, x, h => by
    rw [List.filterMap_cons] at e
    have hle := List.length_filterMap_le f l
    cases q : f a with
    | none => rw [q] at e; simp only [List.length_cons] at e; omega
    | some b =>
      rw [q] at e
      simp only [List.length_cons] at e
      rcases List.mem_cons.mp h with z | z
      · subst z; rw [q] <;> rfl
      · exact fm_len f l (by omega) x z
theorem swP_loc {ts vs : List Expr} {r : List Str} (k : XOk P G c xf C n S X) (h : swP S.sc ts vs = some (some r)) (i : Nat) {x : Str} {p : Pos} (hi : ts[i]? = some (.Name x p)) : X.env.scope.names.lookup x = some .local := by
  rw [k.sc]
  unfold swP at h
  split at h
  · cases h
  · split at h
    · cases h
    · dsimp only at h
      split at h
      · cases h
      · rename_i h3
        simp only [Bool.or_eq_true, bne_iff_ne, ne_eq, not_or, Decidable.not_not] at h3
        have := fm_len _ ts h3.1 (.Name x p) (List.mem_of_getElem? hi)
        dsimp only at this
        split at this
        · rename_i z
          simp only [Bool.and_eq_true, beq_iff_eq] at z
          exact z.1
        · cases this
mutual
theorem sS : ∀ (s : VS.S) (st : Stmt), XOk P G c xf C n S X → YOk G xf X B W → mS P G S st s = true → PS X st (tS c xf B W ro (fun ρ => denS C ro s ρ))
  | .asg t e, st, k, y, h => by
    unfold mS at h
    split at h
    · split at h
      · split at h
        · simp only [Bool.and_eq_true] at h
          exact s_name k y h.1.1.1 h.1.1.2 h.1.2 h.2
        · cases h
      · rename_i hne
        simp only [Bool.and_eq_true] at h
        obtain ⟨⟨⟨a1, a2⟩, a3⟩, a4⟩ := h
        refine PS_congr ?_ (ps_asgD (tV.frozen (sE e S X B W _ k y.tk a2).e) (sT t S X B W _ k y.tk a1) (noComp_other a4) (asgSw_ok k.sc (blockK k) a3) ?_)
        · intro ρ
          cases t with
          | n i => exact absurd rfl (hne i)
          | t ts => rfl
          | ix i z => rfl
        · rw [asg_cons (mT_star a1)] <;> rfl
    · cases h
  | .par is es, st, k, y, h => by
    unfold mS at h
    rw [Bool.and_eq_true] at h
    obtain ⟨h, hw⟩ := h
    have hb := blockK k
    split at h
    · split at h
      · rename_i a b
        simp only [Bool.and_eq_true, decide_eq_true_eq] at h hw
        obtain ⟨⟨⟨h1, h2⟩, h3⟩, h4⟩ := h
        have hl := hw
        exact (ps_par k.calm k.nd (k.at h1) (k.at h2) h3 (swP_loc k hw 0 rfl) (swP_loc k hw 1 rfl) (sPar k y.tk es B _ h4) (swP_ok k.sc hb hw) rfl).imp fun D σ H q => par2_read h3 q
      · cases h
    · split at h
      · simp only [Bool.and_eq_true, decide_eq_true_eq] at h hw
        obtain ⟨⟨⟨⟨⟨⟨h1, h2⟩, h3⟩, n1⟩, n2⟩, n3⟩, h4⟩ := h
        exact (ps_par3 k.calm k.nd (k.at h1) (k.at h2) (k.at h3) n1 n2 n3 (swP_loc k hw 0 rfl) (swP_loc k hw 1 rfl) (swP_loc k hw 2 rfl) (sPar k y.tk es B _ h4) (swP_ok k.sc hb hw) rfl).imp fun D σ H q => par3_read n1 n2 n3 q
      · cases h
    · cases h
  | .meth me i e, st, k, y, h => by
    unfold mS at h
    split at h
    · simp only [Bool.and_eq_true, beq_iff_eq] at h
      obtain ⟨⟨⟨⟨⟨⟨rfl, h1⟩, h2⟩, h3⟩, h4⟩, h5⟩, h6⟩ := h
      obtain ⟨o1, o2, _⟩ := okN_of h3
      have pv : ∀ p, PE X (.Name _ p) (tVar i) := fun p => pe_var (k.at h1) (k.vis h2) o1 o2
      have pa := pa_cons (tV.frozen (sE e S X B W _ k y.tk h6).e) pa_nil (star_cons h4)
      have hf := fun cp : Pos => few_ok (env := X.env) (cp := cp) h4
      cases me with
      | append =>
        refine (ps_expr (pe_bm PySem.F.plainAttrs_list PySem.F.slot_list_append PySem.F.type_list_append mt_append (pv _) pa rfl (hf _) (by rw [h5]; exact beq_self_eq_true _) (star_cons h4) rfl) rfl).imp fun D σ H q => me_read (me := .append) k.K q
      | extend =>
        refine (ps_expr (pe_bm PySem.F.plainAttrs_list PySem.F.slot_list_extend PySem.F.type_list_extend mt_ext (pv _) pa rfl (hf _) (by rw [h5]; exact beq_self_eq_true _) (star_cons h4) rfl) rfl).imp fun D σ H q => me_read (me := .extend) k.K q
    · cases h
  | .ex e, st, k, y, h => by
    unfold mS at h
    split at h
    · simp only [Bool.and_eq_true, Bool.not_eq_true'] at h
      exact ps_exD (sE e S X B W _ k y.tk h.2).e (noComp_drop h.1)
    · cases h
  | .iff d a b, st, k, y, h => by
    unfold mS at h
    split at h
    · simp only [Bool.and_eq_true] at h
      exact ps_ifD (sE d S X B W _ k y.tk h.1.1).t (sSs a _ k y h.1.2) (sSs b _ k y h.2)
    · cases h
  | .forr t it b, st, k, y, h => by
    unfold mS at h
    split at h
    · simp only [Bool.and_eq_true, Bool.not_eq_true'] at h
      obtain ⟨⟨⟨a1, a2⟩, a3⟩, a4⟩ := h
      rename_i tg iter body p
      exact ps_forD y.hp k.calm (sIt it S X B W _ _ k y.tk a1) (sT t S X B W _ k y.tk a2) (sSs b _ k y a3) (fun x => by cases iter <;> first | rfl | (cases a4))
    · cases h
  | .whl d b, st, k, y, h => by
    unfold mS at h
    split at h
    · simp only [Bool.and_eq_true] at h
      exact ps_whlD y.hp (sE d S X B W _ k y.tk h.1).t (sSs b _ k y h.2)
    · cases h
  | .ret e, st, k, y, h => by
    unfold mS at h
    split at h
    · have q := sE e S X B W _ k y.tk h
      cases ro with
      | false => exact ps_retD (tV.frozen q.e)
      | true =>
        cases e with
        | var i =>
          unfold mE at h
          split at h
          · simp only [Bool.and_eq_true] at h
            obtain ⟨o1, o2, _⟩ := okN_of h.2
            exact ps_retV y.hB (pe_var (k.at h.1.1) (k.vis h.1.2) o1 o2)
          · cases h
        | _ => exact PS_congr (fun ρ => rfl) (ps_retO q.e)
    · cases h
  | .retn, st, k, y, h => by
    unfold mS at h
    split at h
    · exact ps_retnD
    · cases h
  | .rse j e, st, k, y, h => by
    unfold mS at h
    split at h
    · simp only [Bool.and_eq_true] at h
      obtain ⟨h1, h2⟩ := h
      split at h2
      · rename_i z hz
        have h2 : z = j := by simpa using h2
        subst h2
        obtain ⟨bmB, Bn, newId, initId, Fb, q1, q2, q3, q4⟩ := y.cl _ _ hz
        obtain ⟨g, ok⟩ := k.gl h1
        obtain ⟨o1, o2, _⟩ := okN_of ok
        exact ps_rseD k.calm y.tk Fb q1 q2 q3 q4 g o1 rfl
      · cases h2
    · cases h
  | .pas, st, k, y, h => by
    unfold mS at h
    split at h
    · exact ps_pasD
    · exact ps_docD
    · cases h
  | .brk, st, k, y, h => by
    unfold mS at h
    split at h
    · exact ps_brkD
    · cases h
  | .cnt, st, k, y, h => by
    unfold mS at h
    split at h
    · exact ps_cntD
    · cases h
  | .bad, st, k, y, h => ⟨fun _ _ _ _ _ _ ⟨_, _, _, p⟩ => (show False from p).elim⟩
theorem sSs : ∀ (ss : Ss) (sts : List Stmt), XOk P G c xf C n S X → YOk G xf X B W → mSs P G S sts ss = true → PSs X sts (tS c xf B W ro (fun ρ => denSs C ro ss ρ))
  | .nil, sts, k, y, h => by
    unfold mSs at h
    split at h
    · exact pss_nilD
    · cases h
  | .cons s r, sts, k, y, h => by
    unfold mSs at h
    split at h
    · simp only [Bool.and_eq_true] at h
      exact PSs_congr (fun ρ => rfl) (pss_consD (sS s _ k y h.1) (sSs r _ k y h.2))
    · cases h
end
end
end VS
set_option Elab.async false
set_option linter.all false
set_option maxRecDepth 100000
set_option maxHeartbeats 1000000
/-! VsS: defs; the whole program. -/
namespace VS
open PySem PySem.Spec PyProof.Rows L2

/-- a def of the text is the def of the small language -/
def mD (P : List Fd) (G : Tb) (N : List Str) (st : Stmt) (fd : Fd) : Bool :=
  mSs P G ⟨N, defScope st, fun _ => true⟩ (defBody st) fd.body && N.length == fd.nl && decide N.Nodup && decide (fd.np ≤ fd.nl) && (match fd.io with
    | some j => decide (j < fd.np)
    | none => true) && (defScope st).kind == .function && !(defScope st).isCoroutine && !(defScope st).isGenerator &&
    (N.take fd.np).all (fun x => (defScope st).names.lookup x == some .local || (defScope st).names.lookup x == some .cell) && (defScope st).names.all (fun y => y.2 != .free)
section
variable {c : Cf} {xf : Xf} {F : Addr → Prop} {H : Hp}
theorem Args.at {io : Option Nat} {n : Nat} {vs : List V} {ds : List D} (h : Args c F H io n vs ds) : ∀ {i : Nat} {d : D}, ds[i]? = some d → ∃ v, vs[i]? = some v ∧ (if io = some (n + i) then ∃ a, v = .ref a ∧ ¬ F a ∧ Own c F H a d else Rep c F H v d) := by
  induction h with
  | nil => intro i d h; simp at h
  | @val n v vs d ds h1 h2 _ ih =>
    intro i d' e
    cases i with
    | zero =>
      simp at e
      subst e
      exact ⟨v, rfl, by rw [Nat.add_zero, if_neg h1]; exact h2⟩
    | succ i =>
      obtain ⟨w, k1, k2⟩ := ih (i := i) (by simpa using e)
      exact ⟨w, by simpa using k1, by rw [show n + (i + 1) = n + 1 + i by omega]; exact k2⟩
  | @io n a vs d ds h1 h2 h3 _ ih =>
    intro i d' e
    cases i with
    | zero =>
      simp at e
      subst e
      exact ⟨_, rfl, by rw [Nat.add_zero, if_pos h1]; exact ⟨a, rfl, h2, h3⟩⟩
    | succ i =>
      obtain ⟨w, k1, k2⟩ := ih (i := i) (by simpa using e)
      exact ⟨w, by simpa using k1, by rw [show n + (i + 1) = n + 1 + i by omega]; exact k2⟩
def ioAddr (io : Option Nat) (vs : List V) : Option Addr := match io with
  | none => none
  | some j => (match vs[j]? with
    | some (.ref a) => some a
    | _ => none)
def base (F : Addr → Prop) (H : Hp) (io : Option Nat) (vs : List V) : Bs := ⟨H, F, fun a => ioAddr io vs = some a, ioAddr io vs⟩
theorem startE_get {fd : Fd} {ds : List D} {i : Nat} {s : Sl} (h : (startE fd ds)[i]? = some s) : i < fd.nl ∧ s = (match ds[i]? with
    | some d => if fd.io = some i then Sl.io d else .val d
    | none => .no) := by
  unfold startE at h
  rw [List.getElem?_map] at h
  by_cases hi : i < fd.nl
  · rw [List.getElem?_range hi] at h
    exact ⟨hi, (Option.some.inj h).symm⟩
  · rw [List.getElem?_eq_none (by simpa using hi)] at h
    cases h
theorem start_get {N : List Str} {vs : List V} {i : Nat} {v : V} (h : vs[i]? = some v) : (L2.start N vs)[i]? = some (some v) := by
  unfold L2.start
  rw [List.getElem?_append_left (by rw [List.length_map]; exact (List.getElem?_eq_some_iff.mp h).1), List.getElem?_map, h] <;> rfl
theorem start_st {fd : Fd} {N : List Str} {vs : List V} {ds : List D} (dom : ∀ a, F a → H a ≠ none) (ar : Args c F H fd.io 0 vs ds) (hN : N.length = fd.nl) (hl : ds.length = fd.np) (hp : fd.np ≤ fd.nl) (hio : ∀ j, fd.io = some j → j < fd.np) :
    RSt c (base F H fd.io vs) F (startE fd ds) (L2.start N vs) H := by
  have hv := ar.length
  -- the changed one
  have ioat : ∀ a, ioAddr fd.io vs = some a → ∃ j d, fd.io = some j ∧ ds[j]? = some d ∧ vs[j]? = some (.ref a) ∧ ¬ F a ∧ Own c F H a d := fun a ha => by
    cases e : fd.io with
    | none => rw [e] at ha; cases ha
    | some j =>
      have hj : j < ds.length := by rw [hl]; exact hio j e
      obtain ⟨v, k1, k2⟩ := ar.at (i := j) (d := ds[j]) (by rw [List.getElem?_eq_getElem hj])
      rw [e, Nat.zero_add, if_pos rfl] at k2
      obtain ⟨b, rfl, n1, o⟩ := k2
      rw [e] at ha
      unfold ioAddr at ha
      dsimp only at ha
      rw [k1] at ha
      cases ha
      exact ⟨j, ds[j], rfl, by rw [List.getElem?_eq_getElem hj], k1, n1, o⟩
  have sl : ∀ (i : Nat) (s : Sl), (startE fd ds)[i]? = some s → SlOk c (base F H fd.io vs) F H s (L2.start N vs)[i]? := fun i s e => by
    obtain ⟨hi, rfl⟩ := startE_get e
    cases q : ds[i]? with
    | none => trivial
    | some d =>
      obtain ⟨v, k1, k2⟩ := ar.at q
      rw [Nat.zero_add] at k2
      rw [start_get k1]
      by_cases hq : fd.io = some i
      · rw [if_pos hq] at k2
        obtain ⟨a, rfl, n1, o⟩ := k2
        have : ioAddr fd.io vs = some a := by
          unfold ioAddr
          rw [hq]
          dsimp only
          rw [k1]
        simp only [if_pos hq]
        exact ⟨a, rfl, n1, ⟨this, this⟩, o⟩
      · rw [if_neg hq] at k2
        simp only [if_neg hq]
        exact ⟨v, rfl, k2⟩
  have mine : ∀ (i : Nat) (s : Sl), (startE fd ds)[i]? = some s → s.mine = true → fd.io = some i := fun i s e m => by
    obtain ⟨hi, rfl⟩ := startE_get e
    cases q : ds[i]? with
    | none => rw [q] at m; cases m
    | some d =>
      rw [q] at m
      dsimp only at m
      by_cases hq : fd.io = some i
      · exact hq
      · rw [if_neg hq] at m; cases m
  refine ⟨fun a ha => ⟨ha, ?_⟩, fun a ha => ?_, fun _ h => h, fun _ _ h _ => h, fun _ h => h, fun _ h => .inl h, dom, ?_, sl, fun i j a s t hij e1 e2 m1 m2 _ _ => ?_⟩
  · obtain ⟨_, _, _, _, _, _, o⟩ := ioat a ha
    exact o.dom
  · obtain ⟨j, d, h1, h2, h3, _, _⟩ := ioat a ha
    refine ⟨j, d, ?_, start_get h3⟩
    have hj : j < fd.nl := Nat.lt_of_lt_of_le (hio j h1) hp
    unfold startE
    rw [List.getElem?_map, List.getElem?_range hj]
    simp only [Option.map_some, h2, if_pos h1]
  · unfold startE L2.start
    simp only [List.length_map, List.length_range, List.length_append, List.length_replicate]
    omega
  · have a1 := mine i s e1 m1
    have a2 := mine j t e2 m2
    rw [a1] at a2
    exact hij (Option.some.inj a2)
theorem base_mu {io : Option Nat} {vs : List V} {a : Addr} (h : (base F H io vs).mu a) : H a = none := by
  rcases h with h | h
  · exact h
  · exact absurd h.1 h.2
theorem rt_rn {io : Option Nat} {vs : List V} {F' : Addr → Prop} {H' : Hp} {ro : Bool} {v : V} {d : D} (h : Rt c (base F H io vs) F' H' ro v d) : Rn c F H F' H' ro v d := by
  unfold Rt at h
  unfold Rn
  split at h
  · rename_i hm
    rw [if_pos hm]
    obtain ⟨a, e, n1, n2, o⟩ := h
    exact ⟨a, e, n1, n2, o⟩
  · rename_i hm
    rw [if_neg hm]
    exact h
/-- back from the body: the def's end -/
theorem end_post {fd : Fd} {vs : List V} {m : Out Fl} {Q : VK} {E : XK} (h : CallPost c xf fd.io fd.ro F H vs Q E (outE fd.io m)) :
    PostS c xf (base F H fd.io vs) (fun cls d _ H => E cls d H) fd.ro { nx := fun _ H' => Q .non H', rt := Q } F H m := by
  have al : ∀ {F' : Addr → Prop} {H' : Hp} {ρ : En} {σ : L2.St}, fd.io = none → RSt c (base F H fd.io vs) F' ρ σ H' → Alloc F H F' H' := fun {F' H' ρ σ} e R => by
    rw [e] at R
    exact ⟨R.sub, fun a h => (R.new a h).elim .inl fun z => .inr (base_mu z), fun a h => .inr (R.dom a h), fun a o h => R.frame a o h (fun z => nomatch z)⟩
  -- what is left by a value
  have fin : ∀ {F' : Addr → Prop} {H' : Hp} {ρ : En} {σ : L2.St} {d : D} {v : V}, CallPost c xf fd.io fd.ro F H vs Q E (endE fd.io d ρ) → RSt c (base F H fd.io vs) F' ρ σ H' → Rn c F H F' H' fd.ro v d → Q v H' := fun {F' H' ρ σ d v} h R rn => by
    cases e : fd.io with
    | none =>
      rw [e] at h
      exact h.2 F' H' v (al e R) rn
    | some j =>
      rw [e] at h
      unfold endE at h
      dsimp only at h
      cases q : ρ[j]? with
      | none => rw [q] at h; exact h.elim
      | some s =>
        rw [q] at h
        cases s with
        | io x =>
          obtain ⟨j', a, e1, e2, k⟩ := h
          cases e1
          obtain ⟨b, s1, s2, s3, s4⟩ := R.sl j _ q
          have hb : ioAddr fd.io vs = some b := s3.1
          have : b = a := by
            unfold ioAddr at hb
            rw [e] at hb
            dsimp only at hb
            rw [e2] at hb
            cases hb; rfl
          subst this
          refine k F' H' v ⟨R.sub, fun a h => (R.new a h).elim .inl fun z => .inr (base_mu z), fun a h => .inr (R.dom a h), fun a o hne h => R.frame a o h (fun z => ?_)⟩ s2 s4 rn
          have z : ioAddr fd.io vs = some a := z
          rw [hb] at z
          cases z
          exact hne rfl
        | no => exact h.elim
        | val d => exact h.elim
        | own d => exact h.elim
  cases m with
  | bad => exact h.elim
  | err e ρ =>
    cases ei : fd.io with
    | none =>
      rw [ei] at h
      intro F' σ' H' cls dd x R ex
      exact h.2 F' H' cls dd (al ei (by rw [ei]; exact R)) ex
    | some j => rw [ei] at h; exact h.elim
  | ok f ρ =>
    cases f with
    | nx => exact fun F' σ' H' x R => fin h R (by unfold Rn; rw [show (D.non).isMut = false from rfl, Bool.and_false, if_neg (by decide)]; exact .non)
    | bk => exact h.elim
    | ct => exact h.elim
    | ret d => exact fun F' σ' H' v x R rt => fin h R (rt_rn rt)
end

/-- the program's facts -/
structure PrOk (P : List Fd) (G : Tb) (c : Cf) (xf : Xf) : Prop where
  gv : ∀ x d, G.gv.lookup x = some d → ∃ u v, c.mg x = some u ∧ RelV v u ∧ ∀ F H, Rep c F H v d
  nm : ∀ x f, G.df.lookup x = some f → c.mg x = some (.ref (c.fad f))
  df : ∀ f fd, P[f]? = some fd → ∃ x qual st N fdd, Fun c.K x qual st (c.fad f) fdd ∧ mD P G N st fd = true ∧ Binds c.K fdd (N.take fd.np) []
  bn : ∀ x, bltB x = true → c.mg x = none
  cl : ∀ x k, G.cl.lookup x = some k → ∃ bmB Bn newId initId, ExcBaseFacts Bn newId initId bmB ∧ PySem.W.excIn c.K (xf.cad k) bmB newId = true ∧ c.mg x = some (.ref (xf.cad k)) ∧ PySem.W.keepIn c.K (.ref (xf.cad k)) = true ∧
    PySem.W.subIn c.K (.ref (xf.cad k)) (.type "BaseException") = some true ∧ PySem.W.typeIn c.K (.ref (xf.cad k)) = some (.type "type")
section
variable {P : List Fd} {G : Tb} {c : Cf} {xf : Xf} {prog : Program} {w : World} {hb : Heap}
theorem spF_len {C : Nat → List D → CR} {io : Option Nat} {ro : Bool} {f k : Nat} (h : ∀ ds, C f ds ≠ .bad → ds.length = k) : ∀ vs H Q E, spF c xf C io ro f vs H Q E → vs.length = k := fun vs H Q E ⟨F, ds, dom, ar, p⟩ => by
  rw [ar.length]
  exact h ds fun z => by rw [z] at p; exact p.elim
/-- what all defs keep -/
def AllOk (P : List Fd) (c : Cf) (xf : Xf) (prog : Program) (w : World) (hb : Heap) (n : Nat) : Prop := ∀ (f : Nat) (fd : Fd), P[f]? = some fd → ∃ fdd ps, PySem.W.keepIn c.K (.ref (c.fad f)) = true ∧ Binds c.K fdd ps [] ∧ FnOk prog w c.K c.mg hb (L2.CX prog w) n (c.fad f) fdd ps (spF c xf (run P n) fd.io fd.ro f)
/-- one def, one level more -/
theorem pr_step (h : PrOk P G c xf) {n f : Nat} {fd : Fd} {x qual : Str} {st : Stmt} {N : List Str} {fdd : FuncData} (ih : AllOk P c xf prog w hb n) (hf : P[f]? = some fd) (F : Fun c.K x qual st (c.fad f) fdd) (hm : mD P G N st fd = true) :
    FnOk prog w c.K c.mg hb (L2.CX prog w) (n + 1) (c.fad f) fdd (N.take fd.np) (spF c xf (run P (n + 1)) fd.io fd.ro f) := by
  unfold mD at hm
  simp only [Bool.and_eq_true, beq_iff_eq, decide_eq_true_eq, Bool.not_eq_true', List.all_eq_true, Bool.or_eq_true, bne_iff_ne, ne_eq] at hm
  obtain ⟨⟨⟨⟨⟨⟨⟨⟨⟨m1, m2⟩, m3⟩, m4⟩, m5⟩, m6⟩, m7⟩, m8⟩, m9⟩, m10⟩ := hm
  have hio : ∀ j, fd.io = some j → j < fd.np := fun j e => by rw [e] at m5; simpa using m5
  have hlen : (N.take fd.np).length = fd.np := by rw [List.length_take]; omega
  have sc : FnScope N (N.take fd.np) (defScope st) := ⟨m6, m7, m8, m3, by rw [hlen], m9, m10⟩
  have runE : ∀ ds, run P (n + 1) f ds = if ds.length = fd.np then outE fd.io (denSs (run P n) fd.ro fd.body (startE fd ds)) else .bad := fun ds => by
    rw [run, hf]
  have len : ∀ vs H Q E, spF c xf (run P (n + 1)) fd.io fd.ro f vs H Q E → vs.length = (N.take fd.np).length := fun vs H Q E z => by
    rw [hlen]
    refine spF_len (fun ds hd => ?_) vs H Q E z
    rw [runE] at hd
    split at hd
    · assumption
    · exact absurd rfl hd
  refine F.okX sc len fun cdv A outer s H vs Q E hr hsp => ?_
  obtain ⟨F0, ds, dom, ar, cp⟩ := hsp
  rw [runE] at cp
  have hds : ds.length = fd.np := by
    split at cp
    · assumption
    · exact cp.elim
  rw [if_pos hds] at cp
  refine ⟨tS c xf (base F0 H fd.io vs) (fun cls d _ H => E cls d H) fd.ro (fun ρ => denSs (run P n) fd.ro fd.body ρ), ?_, F0, startE fd ds, start_st dom ar m2 hds m4 hio, end_post cp⟩
  have k : XOk P G c xf (run P n) n ⟨N, defScope st, fun _ => true⟩ (cxOf (L2.CX prog w) prog w c.K c.mg hb N qual (defScope st) (c.fad f) cdv A outer s H E) :=
    ⟨rfl, m3, rfl, m6, fun _ _ => rfl, rfl, rfl, rfl, hr, h.gv, fun x f fd hx hfd => by
      obtain ⟨fdd, ps, k1, k2, k3⟩ := ih f fd hfd
      exact ⟨fdd, ps, h.nm x f hx, k1, k2, k3⟩, h.bn⟩
  refine sSs fd.body _ k ⟨takes_of rfl rfl rfl rfl, passes_of rfl, fun a z => z, fun x k hk => ?_⟩ m1
  obtain ⟨bmB, Bn, newId, initId, q1, q2, q3, q4, q5, q6⟩ := h.cl x k hk
  exact ⟨bmB, Bn, newId, initId, q1, q2, q3, q4, raises_own q5 q6⟩
/-- THE LAYER'S THEOREM: what the small program computes, the defs do -/
theorem pr_ok (h : PrOk P G c xf) : ∀ n, AllOk P c xf prog w hb n
  | 0, f, fd, hf => by
    obtain ⟨x, qual, st, N, fdd, F, hm, hbd⟩ := h.df f fd hf
    exact ⟨fdd, _, F.kp, hbd, fun vs H Q E z => by obtain ⟨_, _, _, _, p⟩ := z; exact p.elim, fun A outer s H args us vs Q E _ _ _ _ z => by obtain ⟨_, _, _, _, p⟩ := z; exact p.elim⟩
  | n + 1, f, fd, hf => by
    obtain ⟨x, qual, st, N, fdd, F, hm, hbd⟩ := h.df f fd hf
    exact ⟨fdd, N.take fd.np, F.kp, hbd, pr_step h (pr_ok h n) hf F hm⟩
end
end VS
set_option Elab.async false
set_option linter.all false
set_option maxRecDepth 100000
set_option maxHeartbeats 1000000
/-! VsZ: from the head's facts to the layer's theorem; the end of a law. -/
namespace VS
open PySem PySem.Spec PyProof.Rows L2

theorem fun_of {K : PySem.W.Frag} {x q : Str} {st : Stmt} {f : Addr} {fd : FuncData} (F : FunD K x q (defArgs st) (defBody st) (defScope st) [] [] f fd) : Fun K x q st f fd := by
  obtain ⟨oc, od, dV, kV, doc, pm, an, cdv, ct, osl, e, lk, hcd, hD, _⟩ := F.ex
  rcases hD with ⟨_, rfl⟩ | ⟨z, _⟩
  · exact ⟨⟨oc, od, kV, doc, pm, an, cdv, ct, osl, e, lk, hcd⟩, F.kp⟩
  · exact absurd rfl z
/-- the names of a program: its defs, int constants, exception classes -/
structure Nms where
  fns : List Str
  nums : List (Str × Int)
  exs : List Str
  tups : List (Str × List Int)
def mkD (prog : Program) (x : Str) (i : Nat) : He.DefD := ⟨(x, none), x, x, defArgs (prog.main.body.getD i (.Pass ⟨0, 0, 0, 0⟩)), defBody (prog.main.body.getD i (.Pass ⟨0, 0, 0, 0⟩)), defScope (prog.main.body.getD i (.Pass ⟨0, 0, 0, 0⟩)), [], []⟩
def Nms.fa (m : Nms) : List He.Fa := (m.fns ++ (m.exs ++ m.tups.map (·.1))).map .glo ++ (bltN.map .free ++ (m.nums.map (fun p => .int p.1 p.2) ++ m.exs.map .exc))
def Nms.fn (m : Nms) (prog : Program) (tops : List Nat) : List He.DefD := List.zipWith (mkD prog) m.fns tops
def Nms.tb (m : Nms) : Tb := ⟨m.nums.map (fun p => (p.1, .int p.2)) ++ m.tups.map (fun p => (p.1, .tup (p.2.map D.int))), m.fns.zipIdx, m.exs.zipIdx⟩
/-- the tuples of ints among the module's names -/
def Nms.ex (m : Nms) : PySem.W.Frag → Bool := fun K => m.tups.all fun p => He.tupB K p.1 (p.2.map He.Dv.int)
def Nms.cf (m : Nms) (K : PySem.W.Frag) (mg : Str → Option Value) : Cf := ⟨K, mg, fun f => He.fAd K (m.fns.getD f "", none)⟩
def Nms.xf (m : Nms) (K : PySem.W.Frag) : Xf := ⟨fun k => He.ga K (m.exs.getD k ""), fun _ => none⟩
theorem lookup_zipIdx {x : Str} {f : Nat} {l : List Str} (h : l.zipIdx.lookup x = some f) : l[f]? = some x := by
  have := PySem.mem_of_lookup h
  have := List.mem_zipIdx this
  rw [List.getElem?_eq_some_iff]
  have h1 := this.2.1
  have h2 := this.2.2
  simp at h1 h2
  exact ⟨h1, h2.symm⟩
/-- what is checked of a law's program -/
def allD (P : List Fd) (m : Nms) (prog : Program) (ns : List (List Str)) (tops : List Nat) : Bool := (List.range P.length).all fun f => match P[f]?, ns[f]?, tops[f]?, m.fns[f]? with
  | some fd, some N, some t, some _ => mD P m.tb N (prog.main.body.getD t (.Pass ⟨0, 0, 0, 0⟩)) fd
  | _, _, _, _ => false
theorem pr_of {P : List Fd} {m : Nms} {prog : Program} {ns : List (List Str)} {tops : List Nat} {K : PySem.W.Frag} {mg : Str → Option Value} {h : Heap} (hD : allD P m prog ns tops = true)
    (hb : ∀ (f : Nat) (fd : Fd) (N : List Str) (t : Nat) (x : Str), P[f]? = some fd → ns[f]? = some N → tops[f]? = some t → m.fns[f]? = some x → ∀ (kV doc pm : Value) (an : Option Addr) (cdv ct : Value) (us : List Value), us.length = (N.take fd.np).length →
      bindArgs (PySem.W.fnOf x x (defArgs (prog.main.body.getD t (.Pass ⟨0, 0, 0, 0⟩))) (defBody (prog.main.body.getD t (.Pass ⟨0, 0, 0, 0⟩))) (defScope (prog.main.body.getD t (.Pass ⟨0, 0, 0, 0⟩))) .none kV doc pm an cdv ct) ⟨us, []⟩ = pure ((N.take fd.np).zip us))
    (X : K.In h) (G : h.Ns mainGlobals mg) (c : He.SaysD m.fa (m.fn prog tops) K) (cx : m.ex K = true) : PrOk P m.tb (m.cf K mg) (m.xf K) := by
  have glo : ∀ x ∈ m.fns ++ (m.exs ++ m.tups.map (·.1)), mg x = some (.ref (He.ga K x)) := fun x hx => He.glo_ok X G (c.facts (List.mem_append_left _ (List.mem_map.mpr ⟨x, hx, rfl⟩)))
  refine ⟨fun x d hd => ?_, fun x f hf => ?_, fun f fd hf => ?_, fun x hx => ?_, fun x k hk => ?_⟩
  · have hm : (x, d) ∈ m.nums.map (fun p => ((p.1, D.int p.2) : Str × D)) ++ m.tups.map (fun p => ((p.1, D.tup (p.2.map D.int)) : Str × D)) := PySem.mem_of_lookup hd
    rcases List.mem_append.mp hm with hm | hm
    rotate_left
    · obtain ⟨p, hp, e⟩ := List.mem_map.mp hm
      cases e
      have hb := List.all_eq_true.mp cx p hp
      have hq : SqT K (fun _ => none) (He.ga K p.1) ((p.2.map He.Dv.int).map (He.Dv.v K)) := He.tupB_ok hb (fun _ => none)
      have e2 : (p.2.map He.Dv.int).map (He.Dv.v K) = p.2.map V.int := by rw [List.map_map] <;> rfl
      rw [e2] at hq
      have hk : KTup K (He.ga K p.1) (p.2.map V.int) := by
        rcases hq with (z | z) | z
        · cases z
        · first | (cases z; done) | (obtain ⟨_, z⟩ := z; cases z)
        · exact z
      refine ⟨.ref (He.ga K p.1), .ref (He.ga K p.1), glo p.1 (List.mem_append_right _ (List.mem_append_right _ (List.mem_map.mpr ⟨p, hp, rfl⟩))), rfl, fun F H => .ktup hk (Reps.of_ints p.2)⟩
    obtain ⟨p, hp, e⟩ := List.mem_map.mp hm
    cases e
    obtain ⟨t, ht⟩ := He.int_ok X G (x := p.1) (i := p.2) (c.facts (List.mem_append_right _ (List.mem_append_right _ (List.mem_append_left _ (List.mem_map.mpr ⟨p, hp, rfl⟩)))))
    exact ⟨_, .int p.2, ht, ⟨t, rfl⟩, fun _ _ => .int _⟩
  · have hi : m.fns[f]? = some x := lookup_zipIdx hf
    have := glo x (List.mem_append_left _ (List.mem_of_getElem? hi))
    show mg x = some (.ref (He.fAd K (m.fns.getD f "", none)))
    rw [List.getD_eq_getElem?_getD, hi]
    exact this
  · have hl : f < P.length := (List.getElem?_eq_some_iff.mp hf).1
    have hq := List.all_eq_true.mp hD f (List.mem_range.mpr hl)
    split at hq
    · rename_i dd fd' N t x e1 e2 e3 e4
      rw [hf] at e1
      cases e1
      have hfn : (m.fn prog tops)[f]? = some (mkD prog x t) := by
        unfold Nms.fn
        rw [List.getElem?_zipWith, e4, e3]
      obtain ⟨fdd, F⟩ := c.def_ f hfn
      have F' : FunD K x x (defArgs (prog.main.body.getD t (.Pass ⟨0, 0, 0, 0⟩))) (defBody (prog.main.body.getD t (.Pass ⟨0, 0, 0, 0⟩))) (defScope (prog.main.body.getD t (.Pass ⟨0, 0, 0, 0⟩))) [] [] (He.fAd K (x, none)) fdd := F
      have F2 := fun_of F'
      refine ⟨x, x, prog.main.body.getD t (.Pass ⟨0, 0, 0, 0⟩), N, fdd, ?_, hq, F2.binds fun kV doc pm an cdv ct us hl => hb f fd N t x hf e2 e3 e4 kV doc pm an cdv ct us hl⟩
      have eg : m.fns.getD f "" = x := by rw [List.getD_eq_getElem?_getD, e4] <;> rfl
      show Fun K x x _ (He.fAd K (m.fns.getD f "", none)) fdd
      rw [eg]
      exact F2
    · cases hq
  · have hx : x ∈ bltN := by simpa [bltB] using hx
    exact He.free_ok X G (c.facts (List.mem_append_right _ (List.mem_append_left _ (List.mem_map.mpr ⟨x, hx, rfl⟩))))
  · have hi : m.exs[k]? = some x := lookup_zipIdx hk
    have hx := List.mem_of_getElem? hi
    have q := He.exc_ok (c.facts (List.mem_append_right _ (List.mem_append_right _ (List.mem_append_right _ (List.mem_map.mpr ⟨x, hx, rfl⟩)))))
    have e : (m.xf K).cad k = He.ga K x := by
      show He.ga K (m.exs.getD k "") = _
      rw [List.getD_eq_getElem?_getD, hi] <;> rfl
    refine ⟨He.veBase, "ValueError", "ValueError.__new__", _, PySem.F.excBase_ValueError, ?_⟩
    rw [e]
    exact ⟨q.1, glo x (List.mem_append_right _ (List.mem_append_left _ hx)), q.2.1, q.2.2.1, q.2.2.2⟩
/-- one def of the program, by its place -/
theorem def_of {P : List Fd} {m : Nms} {prog : Program} {ns : List (List Str)} {tops : List Nat} {K : PySem.W.Frag} {mg : Str → Option Value} {f : Nat} {fd : Fd} {N : List Str} {t : Nat} {x : Str} (hD : allD P m prog ns tops = true) (c : He.SaysD m.fa (m.fn prog tops) K)
    (e1 : P[f]? = some fd) (e2 : ns[f]? = some N) (e3 : tops[f]? = some t) (e4 : m.fns[f]? = some x) :
    ∃ fdd, Fun K x x (prog.main.body.getD t (.Pass ⟨0, 0, 0, 0⟩)) ((m.cf K mg).fad f) fdd ∧ mD P m.tb N (prog.main.body.getD t (.Pass ⟨0, 0, 0, 0⟩)) fd = true := by
  have hl : f < P.length := (List.getElem?_eq_some_iff.mp e1).1
  have hq := List.all_eq_true.mp hD f (List.mem_range.mpr hl)
  rw [e1, e2, e3, e4] at hq
  have hfn : (m.fn prog tops)[f]? = some (mkD prog x t) := by
    unfold Nms.fn
    rw [List.getElem?_zipWith, e4, e3]
  obtain ⟨fdd, F⟩ := c.def_ f hfn
  have F' : FunD K x x (defArgs (prog.main.body.getD t (.Pass ⟨0, 0, 0, 0⟩))) (defBody (prog.main.body.getD t (.Pass ⟨0, 0, 0, 0⟩))) (defScope (prog.main.body.getD t (.Pass ⟨0, 0, 0, 0⟩))) [] [] (He.fAd K (x, none)) fdd := F
  have eg : m.fns.getD f "" = x := by rw [List.getD_eq_getElem?_getD, e4] <;> rfl
  refine ⟨fdd, ?_, hq⟩
  show Fun K x x _ (He.fAd K (m.fns.getD f "", none)) fdd
  rw [eg]
  exact fun_of F'
/-- nothing is let out -/
theorem quiet {P : Program} {w : World} {K : PySem.W.Frag} {mg : Str → Option Value} {base : Heap} {k : Nat} {f : Addr} {fd : FuncData} {ps : List Str} {sp : Sp} (F : FnOk P w K mg base (L2.CX P w) k f fd ps sp) : FnOk P w K mg base CX0 k f fd ps (fun vs H Q _ => sp vs H Q fun _ _ _ => False) :=
  ⟨fun vs H Q E h => F.len _ _ _ _ h, fun A outer s H args us vs Q E hr e0 hb hv h => codeAny_mono (F.run A outer s H args us vs Q _ hr e0 hb hv h) fun r s' hq => by
    cases r with
    | ok fl =>
      cases fl with
      | ret u => exact hq
      | next => exact hq
      | brk => exact hq
      | cont => exact hq
    | error e =>
      obtain ⟨_, _, _, _, _, _, _, _, _, _, _, _, z⟩ := hq
      exact z.elim⟩
theorem only_seq {K : PySem.W.Frag} {H : Hp} {a : Addr} {xs : List V} (hO : Only H) (h : SqL K H a xs) : (∃ o, H a = some (.frz o (.lst xs))) ∨ KLst K a xs := by
  rcases h with (h | h) | h
  · rcases hO a with z | ⟨o, ys, z⟩
    · rw [z] at h; cases h
    · rw [z] at h; cases h
  · exact .inl h
  · exact .inr h
/-- A LAW'S END: what the small program says of the law at every script -/
theorem law_end {P : List Fd} {m : Nms} {prog : Program} {ns : List (List Str)} {tops : List Nat} {K : PySem.W.Frag} {mg : Str → Option Value} {h : Heap} {w : World} {n k li t : Nat} {fd : Fd} {N : List Str} {p : Str} {fa : Addr} (hD : allD P m prog ns tops = true)
    (hb : ∀ (f : Nat) (fd : Fd) (N : List Str) (t : Nat) (x : Str), P[f]? = some fd → ns[f]? = some N → tops[f]? = some t → m.fns[f]? = some x → ∀ (kV doc pm : Value) (an : Option Addr) (cdv ct : Value) (us : List Value), us.length = (N.take fd.np).length →
      bindArgs (PySem.W.fnOf x x (defArgs (prog.main.body.getD t (.Pass ⟨0, 0, 0, 0⟩))) (defBody (prog.main.body.getD t (.Pass ⟨0, 0, 0, 0⟩))) (defScope (prog.main.body.getD t (.Pass ⟨0, 0, 0, 0⟩))) .none kV doc pm an cdv ct) ⟨us, []⟩ = pure ((N.take fd.np).zip us))
    (X : K.In h) (G : h.Ns mainGlobals mg) (cc : He.SaysX m.fa (m.fn prog tops) [] [] m.ex w h K) (hmg : mg "law" = some (.ref fa)) (e1 : P[li]? = some fd) (e2 : ns[li]? = some N) (e3 : tops[li]? = some t) (e4 : m.fns[li]? = some "law") (hN : N.take fd.np = [p]) (hio : fd.io = none)
    (sem : ∀ xs : List Int, xs.length ≤ n → run P (k + 1) li [.frl (xs.map D.int)] = .ok (.bl true)) :
    ∃ (K : PySem.W.Frag) (fd : FuncData) (sp : Sp), K.In h ∧ (∀ (s : Shared) (u : Value), BindsTo s fd ⟨[u], []⟩ [(p, u)]) ∧
        (∀ (H : Hp) (a : Addr) (ns : List Int), ns.length ≤ n → Only H → SqL K H a (ns.map V.int) → sp [.ref a] H (fun v _ => v = .bl true) fun _ _ _ => False) ∧
        ∀ base : Heap, K.In base → base.Ns mainGlobals mg → FnOk prog w K mg base CX0 (k + 1) fa fd [p] sp := by
  have c := cc.t.d
  have pr := pr_of hD hb X G c cc.more
  obtain ⟨fdd, F, hm⟩ := def_of (mg := mg) hD c e1 e2 e3 e4
  have hfa : mg "law" = some (.ref ((m.cf K mg).fad li)) := by
    have q := He.glo_ok X G (x := "law") (c.facts (List.mem_append_left _ (List.mem_map.mpr ⟨"law", List.mem_append_left _ (List.mem_of_getElem? e4), rfl⟩)))
    rw [q]
    show some (Value.ref (He.ga K "law")) = some (.ref (He.fAd K (m.fns.getD li "", none)))
    have eg : m.fns.getD li "" = "law" := by rw [List.getD_eq_getElem?_getD, e4] <;> rfl
    rw [eg] <;> rfl
  have ea : fa = (m.cf K mg).fad li := by
    rw [hmg] at hfa
    exact Value.ref.inj (Option.some.inj hfa)
  subst ea
  refine ⟨K, fdd, fun vs H Q _ => spF (m.cf K mg) (m.xf K) (run P (k + 1)) fd.io fd.ro li vs H Q fun _ _ _ => False, X, fun s u => ?_, fun H a xs hl hO hs => ?_, fun base hK hG => ?_⟩
  · obtain ⟨oc, od, kV, doc, pm, an, cdv, ct, osl, e, _, _⟩ := F.ex
    have q := hb li fd N t "law" e1 e2 e3 e4 kV doc pm an cdv ct [u] (by rw [hN] <;> rfl)
    rw [hN] at q
    rw [e]
    exact .of_eq q
  · have go : ∀ F : Addr → Prop, (∀ b, F b → H b ≠ none) → Rep (m.cf K mg) F H (.ref a) (.frl (xs.map D.int)) → spF (m.cf K mg) (m.xf K) (run P (k + 1)) fd.io fd.ro li [.ref a] H (fun v _ => v = .bl true) (fun _ _ _ => False) := fun F dom r => by
      refine ⟨F, [.frl (xs.map D.int)], dom, .val (by rw [hio]; exact fun z => nomatch z) r .nil, ?_⟩
      rw [sem xs hl]
      refine ⟨hio, fun F' H' v al rn => ?_⟩
      unfold Rn at rn
      rw [show (D.bl true).isMut = false from rfl, Bool.and_false, if_neg (by decide)] at rn
      cases rn
      rfl
    rcases only_seq hO hs with ⟨o, z⟩ | z
    · exact go (fun b => b = a) (fun b e => by rw [e, z]; simp) (.frl rfl z (Reps.of_ints xs))
    · exact go (fun _ => False) (fun _ e => e.elim) (.klst z (Reps.of_ints xs))
  · have st := pr_step (prog := prog) (w := w) (hb := base) pr (pr_ok pr k) e1 F hm
    rw [hN] at st
    exact quiet st
end VS
set_option Elab.async false
set_option linter.all false
set_option maxRecDepth 100000
namespace LW
open PySem PySem.Spec PyProof.Rows L2 VS
abbrev prog : Program := PySem.Challenge.pw_walkstrides_k82_whole_growing_shapes
abbrev i_is_integer : Nat := 0
abbrev i_is_number : Nat := 1
abbrev i_need_number : Nat := 2
abbrev i_is_tuple_of : Nat := 3
abbrev i_number_in : Nat := 4
abbrev i_breaks_in : Nat := 5
abbrev i_short_in : Nat := 6
abbrev i_fits_form : Nat := 7
abbrev i_fits_size : Nat := 8
abbrev i_fits_growing_shape : Nat := 9
abbrev i_fits_growing : Nat := 10
abbrev i_lean : Nat := 11
abbrev i_added : Nat := 12
abbrev i_scaled : Nat := 13
abbrev i_sized : Nat := 14
abbrev i_value_of : Nat := 15
abbrev i_size_form : Nat := 16
abbrev i_size_at : Nat := 17
abbrev i_product_of : Nat := 18
abbrev i_walk_in : Nat := 19
abbrev i_sign_at : Nat := 20
abbrev i_gaps_of : Nat := 21
abbrev i_changes_in : Nat := 22
abbrev i_turns_in : Nat := 23
abbrev i_roots_in : Nat := 24
abbrev i_let_form : Nat := 25
abbrev i_need_growing : Nat := 26
abbrev i_need_growing_shape : Nat := 27
abbrev i_need_value : Nat := 28
abbrev i_is_growing : Nat := 29
abbrev i_gap_of : Nat := 30
abbrev i_general_in : Nat := 31
abbrev i_odd_in : Nat := 32
abbrev i_short_walk : Nat := 33
abbrev i_gaps_between : Nat := 34
abbrev i_alike_in : Nat := 35
abbrev i_need_both : Nat := 36
abbrev i_alike_values : Nat := 37
abbrev i_breaks_of : Nat := 38
abbrev i_sees_at : Nat := 39
abbrev i_meeting_values : Nat := 40
abbrev i_seen_in : Nat := 41
abbrev i_generally_in : Nat := 42
abbrev i_need_seen : Nat := 43
abbrev i_seen_at : Nat := 44
abbrev i_seen_values : Nat := 45
abbrev i_seen_generally : Nat := 46
abbrev i__law_cup : Nat := 47
abbrev i__law_roll : Nat := 48
abbrev i__law_some : Nat := 49
abbrev i__law_sort : Nat := 50
abbrev i__law_like : Nat := 51
abbrev i__law_number : Nat := 52
abbrev i__law_sizes : Nat := 53
abbrev i__law_short : Nat := 54
abbrev i__law_breaks : Nat := 55
abbrev i__law_shapes : Nat := 56
abbrev i__law_value : Nat := 57
abbrev i__law_power : Nat := 58
abbrev i__law_lean : Nat := 59
abbrev i__law_form : Nat := 60
abbrev i__law_times : Nat := 61
abbrev i__law_growing : Nat := 62
abbrev i__law_at : Nat := 63
abbrev i__law_mixed : Nat := 64
abbrev i__law_shape_for : Nat := 65
abbrev i__law_sees : Nat := 66
abbrev i__law_seen_right : Nat := 67
abbrev i__law_written_right : Nat := 68
abbrev i_law : Nat := 69
def f_is_integer : Fd :=
  ⟨1, 1, none, false, (.cons (.ret (.and (.op (.isi .int) (.cons (.pk 0) .nil)) (.not (.op (.isi .bool) (.cons (.pk 0) .nil))))) .nil)⟩
def f_is_number : Fd :=
  ⟨3, 3, none, false, (.cons (.ret (.and (.call i_is_integer none false (.cons (.pk 0) .nil)) (.chn .le .le (.pk 1) (.pk 0) (.pk 2)))) .nil)⟩
def f_need_number : Fd :=
  ⟨3, 3, none, false, (.cons (.iff (.not (.call i_is_number none false (.cons (.pk 0) (.cons (.pk 1) (.cons (.pk 2) .nil))))) (.cons (.rse 1 none) .nil) .nil) .nil)⟩
def f_is_tuple_of : Fd :=
  ⟨3, 3, none, false, (.cons (.ret (.and (.op (.isi .tuple) (.cons (.pk 0) .nil)) (.chn .le .le (.pk 1) (.op .len (.cons (.pk 0) .nil)) (.pk 2)))) .nil)⟩
def f_number_in : Fd :=
  ⟨1, 3, none, false, (.cons (.asg (.n 1) (.cst (.int (1)))) (.cons (.forr (.n 2) (.e (.var 0)) (.cons (.asg (.n 1) (.op .mul (.cons (.pk 1) (.cons (.pk 2) .nil)))) .nil)) (.cons (.ret (.var 1)) .nil)))⟩
def f_breaks_in : Fd :=
  ⟨1, 4, none, false, (.cons (.par [2, 3] (.cons (.lst .nil) (.cons (.cst (.int (1))) .nil))) (.cons (.forr (.n 1) (.e (.op (.slc false true) (.cons (.pk 0) (.cons (.op .neg (.cons (.cst (.int (1))) .nil)) .nil)))) (.cons (.asg (.n 3) (.op .mul (.cons (.pk 3) (.cons (.pk 1) .nil)))) (.cons (.meth .append 2 (.var 3)) .nil))) (.cons (.ret (.op .tuple (.cons (.pk 2) .nil))) .nil)))⟩
def f_short_in : Fd :=
  ⟨1, 4, none, false, (.cons (.asg (.n 1) (.lst .nil)) (.cons (.forr (.t (.cons (.n 2) (.cons (.n 3) .nil))) (.e (.var 0)) (.cons (.iff (.and (.op .gt (.cons (.pk 2) (.cons (.cst (.int (1))) .nil))) (.and (.op .ne (.cons (.pk 1) (.cons (.lst .nil) .nil))) (.op .eq (.cons (.pk 3) (.cons (.op .mul (.cons (.op .idx (.cons (.op .idx (.cons (.pk 1) (.cons (.op .neg (.cons (.cst (.int (1))) .nil)) .nil))) (.cons (.cst (.int (0))) .nil))) (.cons (.op .idx (.cons (.op .idx (.cons (.pk 1) (.cons (.op .neg (.cons (.cst (.int (1))) .nil)) .nil))) (.cons (.cst (.int (1))) .nil))) .nil))) .nil))))) (.cons (.asg (.ix 1 (.op .neg (.cons (.cst (.int (1))) .nil))) (.tup (.cons (.op .mul (.cons (.op .idx (.cons (.op .idx (.cons (.pk 1) (.cons (.op .neg (.cons (.cst (.int (1))) .nil)) .nil))) (.cons (.cst (.int (0))) .nil))) (.cons (.pk 2) .nil))) (.cons (.op .idx (.cons (.op .idx (.cons (.pk 1) (.cons (.op .neg (.cons (.cst (.int (1))) .nil)) .nil))) (.cons (.cst (.int (1))) .nil))) .nil)))) .nil) (.cons (.iff (.op .gt (.cons (.pk 2) (.cons (.cst (.int (1))) .nil))) (.cons (.meth .append 1 (.tup (.cons (.var 2) (.cons (.var 3) .nil)))) .nil) .nil) .nil)) .nil)) (.cons (.ret (.op .tuple (.cons (.pk 1) .nil))) .nil)))⟩
def f_fits_form : Fd :=
  ⟨1, 2, none, false, (.cons (.iff (.or (.not (.call i_is_tuple_of none false (.cons (.pk 0) (.cons (.cst (.int (0))) (.cons (.glo "MOST_FORM" (.int (4))) .nil))))) (.not (.op .all (.cons (.comp (.call i_is_integer none false (.cons (.pk 1) .nil)) (.n 1) (.e (.var 0)) .nil [1]) .nil)))) (.cons (.ret (.cst (.bl false))) .nil) .nil) (.cons (.ret (.or (.op .eq (.cons (.pk 0) (.cons (.tup .nil) .nil))) (.op .ne (.cons (.op .idx (.cons (.pk 0) (.cons (.op .neg (.cons (.cst (.int (1))) .nil)) .nil))) (.cons (.cst (.int (0))) .nil))))) .nil))⟩
def f_fits_size : Fd :=
  ⟨1, 1, none, false, (.cons (.ret (.and (.call i_is_tuple_of none false (.cons (.pk 0) (.cons (.cst (.int (2))) (.cons (.cst (.int (2))) .nil)))) (.and (.call i_is_number none false (.cons (.op .idx (.cons (.pk 0) (.cons (.cst (.int (0))) .nil))) (.cons (.cst (.int (1))) (.cons (.glo "MOST_PLACES" (.int (5000))) .nil)))) (.call i_is_number none false (.cons (.op .idx (.cons (.pk 0) (.cons (.cst (.int (1))) .nil))) (.cons (.cst (.int (0))) (.cons (.cst (.int (1))) .nil))))))) .nil)⟩
def f_fits_growing_shape : Fd :=
  ⟨1, 3, none, false, (.cons (.iff (.or (.not (.call i_is_tuple_of none false (.cons (.pk 0) (.cons (.cst (.int (0))) (.cons (.glo "MOST_PAIRS" (.int (16))) .nil))))) (.not (.op .all (.cons (.comp (.call i_fits_size none false (.cons (.pk 1) .nil)) (.n 1) (.e (.var 0)) .nil [1]) .nil)))) (.cons (.ret (.cst (.bl false))) .nil) .nil) (.cons (.ret (.and (.op .le (.cons (.op .sum (.cons (.comp (.op .idx (.cons (.pk 2) (.cons (.cst (.int (1))) .nil))) (.n 2) (.e (.var 0)) .nil [2]) .nil)) (.cons (.cst (.int (1))) .nil))) (.op .le (.cons (.call i_number_in none false (.cons (.comp (.op .idx (.cons (.pk 2) (.cons (.cst (.int (0))) .nil))) (.n 2) (.e (.var 0)) .nil [2]) .nil)) (.cons (.glo "MOST_PLACES" (.int (5000))) .nil))))) .nil))⟩
def f_fits_growing : Fd :=
  ⟨1, 4, none, false, (.cons (.iff (.or (.not (.call i_is_tuple_of none false (.cons (.pk 0) (.cons (.cst (.int (2))) (.cons (.cst (.int (2))) .nil))))) (.or (.not (.call i_fits_form none false (.cons (.op .idx (.cons (.pk 0) (.cons (.cst (.int (0))) .nil))) .nil))) (.not (.call i_is_tuple_of none false (.cons (.op .idx (.cons (.pk 0) (.cons (.cst (.int (1))) .nil))) (.cons (.cst (.int (0))) (.cons (.glo "MOST_PAIRS" (.int (16))) .nil))))))) (.cons (.ret (.cst (.bl false))) .nil) .nil) (.cons (.iff (.not (.op .all (.cons (.comp (.and (.call i_is_tuple_of none false (.cons (.pk 1) (.cons (.cst (.int (2))) (.cons (.cst (.int (2))) .nil)))) (.call i_fits_form none false (.cons (.op .idx (.cons (.pk 1) (.cons (.cst (.int (1))) .nil))) .nil))) (.n 1) (.e (.op .idx (.cons (.pk 0) (.cons (.cst (.int (1))) .nil)))) .nil [1]) .nil))) (.cons (.ret (.cst (.bl false))) .nil) .nil) (.cons (.ret (.call i_fits_growing_shape none false (.cons (.op .tuple (.cons (.comp (.var 2) (.t (.cons (.n 2) (.cons (.n 3) .nil))) (.e (.op .idx (.cons (.pk 0) (.cons (.cst (.int (1))) .nil)))) .nil [2, 3]) .nil)) .nil))) .nil)))⟩
def f_lean : Fd :=
  ⟨1, 2, none, false, (.cons (.asg (.n 1) (.op .len (.cons (.pk 0) .nil))) (.cons (.whl (.and (.op .gt (.cons (.pk 1) (.cons (.cst (.int (0))) .nil))) (.op .eq (.cons (.op .idx (.cons (.pk 0) (.cons (.op .sub (.cons (.pk 1) (.cons (.cst (.int (1))) .nil))) .nil))) (.cons (.cst (.int (0))) .nil)))) (.cons (.asg (.n 1) (.op .sub (.cons (.pk 1) (.cons (.cst (.int (1))) .nil)))) .nil)) (.cons (.ret (.op .tuple (.cons (.op (.slc false true) (.cons (.pk 0) (.cons (.pk 1) .nil))) .nil))) .nil)))⟩
def f_added : Fd :=
  ⟨2, 7, none, false, (.cons (.asg (.n 2) (.op .max2 (.cons (.op .len (.cons (.pk 0) .nil)) (.cons (.op .len (.cons (.pk 1) .nil)) .nil)))) (.cons (.par [3, 4] (.cons (.op .add (.cons (.pk 0) (.cons (.op .mul (.cons (.tup (.cons (.cst (.int (0))) .nil)) (.cons (.op .sub (.cons (.pk 2) (.cons (.op .len (.cons (.pk 0) .nil)) .nil))) .nil))) .nil))) (.cons (.op .add (.cons (.pk 1) (.cons (.op .mul (.cons (.tup (.cons (.cst (.int (0))) .nil)) (.cons (.op .sub (.cons (.pk 2) (.cons (.op .len (.cons (.pk 1) .nil)) .nil))) .nil))) .nil))) .nil))) (.cons (.ret (.call i_lean none false (.cons (.comp (.op .add (.cons (.pk 5) (.cons (.pk 6) .nil))) (.t (.cons (.n 5) (.cons (.n 6) .nil))) (.zip (.var 3) (.var 4)) .nil [5, 6]) .nil))) .nil)))⟩
def f_scaled : Fd :=
  ⟨2, 3, none, false, (.cons (.ret (.call i_lean none false (.cons (.comp (.op .mul (.cons (.pk 2) (.cons (.pk 1) .nil))) (.n 2) (.e (.var 0)) .nil [2]) .nil))) .nil)⟩
def f_sized : Fd :=
  ⟨2, 3, none, false, (.cons (.asg (.n 2) (.call i_scaled none false (.cons (.pk 0) (.cons (.op .idx (.cons (.pk 1) (.cons (.cst (.int (0))) .nil))) .nil)))) (.cons (.ret (.ite (.and (.op .eq (.cons (.op .idx (.cons (.pk 1) (.cons (.cst (.int (1))) .nil))) (.cons (.cst (.int (1))) .nil))) (.op .ne (.cons (.pk 2) (.cons (.tup .nil) .nil)))) (.op .add (.cons (.tup (.cons (.cst (.int (0))) .nil)) (.cons (.pk 2) .nil))) (.var 2))) .nil))⟩
def f_value_of : Fd :=
  ⟨2, 4, none, false, (.cons (.asg (.n 2) (.cst (.int (0)))) (.cons (.forr (.n 3) (.e (.op .rev (.cons (.pk 0) .nil))) (.cons (.asg (.n 2) (.op .add (.cons (.op .mul (.cons (.pk 2) (.cons (.pk 1) .nil))) (.cons (.pk 3) .nil)))) .nil)) (.cons (.ret (.var 2)) .nil)))⟩
def f_size_form : Fd :=
  ⟨1, 1, none, false, (.cons (.ret (.ite (.op .eq (.cons (.op .idx (.cons (.pk 0) (.cons (.cst (.int (1))) .nil))) (.cons (.cst (.int (0))) .nil))) (.tup (.cons (.op .idx (.cons (.pk 0) (.cons (.cst (.int (0))) .nil))) .nil)) (.tup (.cons (.cst (.int (0))) (.cons (.op .idx (.cons (.pk 0) (.cons (.cst (.int (0))) .nil))) .nil))))) .nil)⟩
def f_size_at : Fd :=
  ⟨2, 2, none, false, (.cons (.ret (.ite (.op .eq (.cons (.op .idx (.cons (.pk 0) (.cons (.cst (.int (1))) .nil))) (.cons (.cst (.int (1))) .nil))) (.op .mul (.cons (.op .idx (.cons (.pk 0) (.cons (.cst (.int (0))) .nil))) (.cons (.pk 1) .nil))) (.op .idx (.cons (.pk 0) (.cons (.cst (.int (0))) .nil))))) .nil)⟩
def f_product_of : Fd :=
  ⟨1, 2, none, false, (.cons (.ret (.tup (.cons (.call i_number_in none false (.cons (.comp (.op .idx (.cons (.pk 1) (.cons (.cst (.int (0))) .nil))) (.n 1) (.e (.var 0)) .nil [1]) .nil)) (.cons (.op .sum (.cons (.comp (.op .idx (.cons (.pk 1) (.cons (.cst (.int (1))) .nil))) (.n 1) (.e (.var 0)) .nil [1]) .nil)) .nil)))) .nil)⟩
def f_walk_in : Fd :=
  ⟨2, 6, none, false, (.cons (.asg (.t (.cons (.n 2) (.cons (.n 3) .nil))) (.var 0)) (.cons (.ret (.tup (.cons (.call i_value_of none false (.cons (.pk 2) (.cons (.pk 1) .nil))) (.cons (.op .tuple (.cons (.comp (.tup (.cons (.call i_size_at none false (.cons (.pk 4) (.cons (.pk 1) .nil))) (.cons (.call i_value_of none false (.cons (.pk 5) (.cons (.pk 1) .nil))) .nil))) (.t (.cons (.n 4) (.cons (.n 5) .nil))) (.e (.var 3)) .nil [4, 5]) .nil)) .nil)))) .nil))⟩
def f_sign_at : Fd :=
  ⟨2, 3, none, false, (.cons (.asg (.n 2) (.call i_value_of none false (.cons (.pk 0) (.cons (.pk 1) .nil)))) (.cons (.ret (.ite (.op .lt (.cons (.pk 2) (.cons (.cst (.int (0))) .nil))) (.op .neg (.cons (.cst (.int (1))) .nil)) (.ite (.op .gt (.cons (.pk 2) (.cons (.cst (.int (0))) .nil))) (.cst (.int (1))) (.cst (.int (0)))))) .nil))⟩
def f_gaps_of : Fd :=
  ⟨1, 4, none, false, (.cons (.asg (.t (.cons (.n 2) (.cons (.n 3) .nil))) (.tup (.cons (.tup .nil) (.cons (.tup (.cons (.cst (.int (1))) .nil)) .nil)))) (.cons (.forr (.n 1) (.e (.var 0)) (.cons (.asg (.n 2) (.call i_added none false (.cons (.pk 2) (.cons (.call i_scaled none false (.cons (.pk 3) (.cons (.pk 1) .nil))) .nil)))) (.cons (.asg (.n 3) (.call i_added none false (.cons (.pk 3) (.cons (.op .add (.cons (.tup (.cons (.cst (.int (0))) .nil)) (.cons (.pk 3) .nil))) .nil)))) .nil))) (.cons (.ret (.call i_added none false (.cons (.pk 2) (.cons (.call i_scaled none false (.cons (.pk 0) (.cons (.op .neg (.cons (.cst (.int (1))) .nil)) .nil))) .nil)))) .nil)))⟩
def f_changes_in : Fd :=
  ⟨3, 8, none, true, (.cons (.par [3, 4] (.cons (.lst .nil) (.cons (.var 1) .nil))) (.cons (.whl (.op .ne (.cons (.call i_sign_at none false (.cons (.pk 0) (.cons (.pk 4) .nil))) (.cons (.call i_sign_at none false (.cons (.pk 0) (.cons (.pk 2) .nil))) .nil))) (.cons (.par [5, 6] (.cons (.var 4) (.cons (.var 2) .nil))) (.cons (.whl (.op .gt (.cons (.op .sub (.cons (.pk 6) (.cons (.pk 5) .nil))) (.cons (.cst (.int (1))) .nil))) (.cons (.asg (.n 7) (.op .fdiv (.cons (.op .add (.cons (.pk 5) (.cons (.pk 6) .nil))) (.cons (.cst (.int (2))) .nil)))) (.cons (.asg (.t (.cons (.n 5) (.cons (.n 6) .nil))) (.ite (.op .eq (.cons (.call i_sign_at none false (.cons (.pk 0) (.cons (.pk 7) .nil))) (.cons (.call i_sign_at none false (.cons (.pk 0) (.cons (.pk 4) .nil))) .nil))) (.tup (.cons (.var 7) (.cons (.var 6) .nil))) (.tup (.cons (.var 5) (.cons (.var 7) .nil))))) .nil))) (.cons (.meth .append 3 (.var 5)) (.cons (.asg (.n 4) (.var 6)) .nil))))) (.cons (.ret (.var 3)) .nil)))⟩
def f_turns_in : Fd :=
  ⟨2, 7, none, true, (.cons (.iff (.op .lt (.cons (.op .len (.cons (.pk 0) .nil)) (.cons (.cst (.int (2))) .nil))) (.cons (.ret (.lst .nil)) .nil) .nil) (.cons (.asg (.n 2) (.op .add (.cons (.lst (.cons (.cst (.int (1))) .nil)) (.cons (.comp (.op .add (.cons (.pk 6) (.cons (.cst (.int (1))) .nil))) (.n 6) (.e (.call i_turns_in none true (.cons (.call i_gaps_of none false (.cons (.pk 0) .nil)) (.cons (.pk 1) .nil)))) .nil [6]) .nil)))) (.cons (.asg (.n 3) (.lst .nil)) (.cons (.forr (.t (.cons (.n 4) (.cons (.n 5) .nil))) (.zip (.var 2) (.op .add (.cons (.op (.slc true false) (.cons (.pk 2) (.cons (.cst (.int (1))) .nil))) (.cons (.lst (.cons (.var 1) .nil)) .nil)))) (.cons (.meth .extend 3 (.call i_changes_in none true (.cons (.pk 0) (.cons (.pk 4) (.cons (.pk 5) .nil))))) .nil)) (.cons (.ret (.var 3)) .nil)))))⟩
def f_roots_in : Fd :=
  ⟨1, 6, none, false, (.cons (.asg (.n 1) (.op .add (.cons (.cst (.int (3))) (.cons (.op .max1 (.cons (.comp (.op .abs (.cons (.pk 5) .nil)) (.n 5) (.e (.var 0)) .nil [5]) .nil)) .nil)))) (.cons (.asg (.n 2) (.lst .nil)) (.cons (.forr (.n 3) (.e (.op .add (.cons (.lst (.cons (.cst (.int (0))) .nil)) (.cons (.call i_turns_in none true (.cons (.pk 0) (.cons (.pk 1) .nil))) .nil)))) (.cons (.asg (.n 4) (.op .add (.cons (.pk 3) (.cons (.cst (.int (1))) .nil)))) (.cons (.whl (.op .eq (.cons (.call i_value_of none false (.cons (.pk 0) (.cons (.pk 4) .nil))) (.cons (.cst (.int (0))) .nil))) (.cons (.meth .append 2 (.var 4)) (.cons (.asg (.n 4) (.op .add (.cons (.pk 4) (.cons (.cst (.int (1))) .nil)))) .nil))) .nil))) (.cons (.ret (.op .tuple (.cons (.pk 2) .nil))) .nil))))⟩
def f_let_form : Fd :=
  ⟨1, 1, none, false, (.cons (.iff (.op .gt (.cons (.op .len (.cons (.pk 0) .nil)) (.cons (.glo "MOST_FORM" (.int (4))) .nil))) (.cons .bad .nil) .nil) (.cons (.ret (.var 0)) .nil))⟩
def f_need_growing : Fd :=
  ⟨1, 1, none, false, (.cons (.iff (.not (.call i_fits_growing none false (.cons (.pk 0) .nil))) (.cons (.rse 2 none) .nil) .nil) .nil)⟩
def f_need_growing_shape : Fd :=
  ⟨1, 1, none, false, (.cons (.iff (.not (.call i_fits_growing_shape none false (.cons (.pk 0) .nil))) (.cons (.rse 3 none) .nil) .nil) .nil)⟩
def f_need_value : Fd :=
  ⟨1, 1, none, false, (.cons (.ex (.call i_need_number none false (.cons (.pk 0) (.cons (.cst (.int (1))) (.cons (.glo "MOST_VALUE" (.int (1000000000))) .nil))))) .nil)⟩
def f_is_growing : Fd :=
  ⟨1, 1, none, false, (.cons (.ret (.call i_fits_growing none false (.cons (.pk 0) .nil))) .nil)⟩
def f_gap_of : Fd :=
  ⟨2, 2, none, false, (.cons (.ret (.call i_added none false (.cons (.op .idx (.cons (.pk 1) (.cons (.cst (.int (1))) .nil))) (.cons (.call i_scaled none false (.cons (.call i_sized none false (.cons (.op .idx (.cons (.pk 0) (.cons (.cst (.int (1))) .nil))) (.cons (.op .idx (.cons (.pk 0) (.cons (.cst (.int (0))) .nil))) .nil))) (.cons (.op .neg (.cons (.cst (.int (1))) .nil)) .nil))) .nil)))) .nil)⟩
def f_general_in : Fd :=
  ⟨1, 7, none, false, (.cons (.asg (.n 1) (.comp (.var 5) (.n 5) (.e (.op .idx (.cons (.pk 0) (.cons (.cst (.int (1))) .nil)))) (.cons (.op .ne (.cons (.op .idx (.cons (.pk 5) (.cons (.cst (.int (0))) .nil))) (.cons (.glo "PLAIN" (.tup [.int (1), .int (0)])) .nil))) .nil) [5])) (.cons (.asg (.n 2) (.comp (.var 3) (.n 3) (.rng1 (.op .sub (.cons (.op .len (.cons (.pk 1) .nil)) (.cons (.cst (.int (1))) .nil)))) (.cons (.op .eq (.cons (.call i_gap_of none false (.cons (.op .idx (.cons (.pk 1) (.cons (.pk 3) .nil))) (.cons (.op .idx (.cons (.pk 1) (.cons (.op .add (.cons (.pk 3) (.cons (.cst (.int (1))) .nil))) .nil))) .nil))) (.cons (.tup .nil) .nil))) .nil) [3])) (.cons (.whl (.op .ne (.cons (.pk 2) (.cons (.lst .nil) .nil))) (.cons (.asg (.n 3) (.op .idx (.cons (.pk 2) (.cons (.cst (.int (0))) .nil)))) (.cons (.asg (.n 4) (.tup (.cons (.call i_product_of none false (.cons (.lst (.cons (.op .idx (.cons (.op .idx (.cons (.pk 1) (.cons (.pk 3) .nil))) (.cons (.cst (.int (0))) .nil))) (.cons (.op .idx (.cons (.op .idx (.cons (.pk 1) (.cons (.op .add (.cons (.pk 3) (.cons (.cst (.int (1))) .nil))) .nil))) (.cons (.cst (.int (0))) .nil))) .nil))) .nil)) (.cons (.op .idx (.cons (.op .idx (.cons (.pk 1) (.cons (.pk 3) .nil))) (.cons (.cst (.int (1))) .nil))) .nil)))) (.cons (.asg (.n 1) (.op .add (.cons (.op .add (.cons (.op (.slc false true) (.cons (.pk 1) (.cons (.pk 3) .nil))) (.cons (.lst (.cons (.var 4) .nil)) .nil))) (.cons (.op (.slc true false) (.cons (.pk 1) (.cons (.op .add (.cons (.pk 3) (.cons (.cst (.int (2))) .nil))) .nil))) .nil)))) (.cons (.asg (.n 2) (.comp (.var 6) (.n 6) (.rng1 (.op .sub (.cons (.op .len (.cons (.pk 1) .nil)) (.cons (.cst (.int (1))) .nil)))) (.cons (.op .eq (.cons (.call i_gap_of none false (.cons (.op .idx (.cons (.pk 1) (.cons (.pk 6) .nil))) (.cons (.op .idx (.cons (.pk 1) (.cons (.op .add (.cons (.pk 6) (.cons (.cst (.int (1))) .nil))) .nil))) .nil))) (.cons (.tup .nil) .nil))) .nil) [6])) .nil))))) (.cons (.ret (.tup (.cons (.op .idx (.cons (.pk 0) (.cons (.cst (.int (0))) .nil))) (.cons (.op .tuple (.cons (.pk 1) .nil)) .nil)))) .nil))))⟩
def f_odd_in : Fd :=
  ⟨1, 7, none, false, (.cons (.asg (.n 1) (.op .idx (.cons (.call i_general_in none false (.cons (.pk 0) .nil)) (.cons (.cst (.int (1))) .nil)))) (.cons (.asg (.n 2) (.comp (.cst (.int (1))) (.t (.cons (.n 5) (.cons (.n 6) .nil))) (.e (.var 1)) (.cons (.op .eq (.cons (.pk 5) (.cons (.tup (.cons (.cst (.int (1))) (.cons (.cst (.int (1))) .nil))) .nil))) .nil) [5, 6])) (.cons (.forr (.t (.cons (.n 3) (.cons (.n 4) .nil))) (.zip (.var 1) (.op (.slc true false) (.cons (.pk 1) (.cons (.cst (.int (1))) .nil)))) (.cons (.meth .extend 2 (.call i_roots_in none false (.cons (.call i_gap_of none false (.cons (.pk 3) (.cons (.pk 4) .nil))) .nil))) .nil)) (.cons (.ret (.op .tuple (.cons (.op .sset (.cons (.pk 2) .nil)) .nil))) .nil))))⟩
def f_short_walk : Fd :=
  ⟨2, 4, none, false, (.cons (.asg (.t (.cons (.n 2) (.cons (.n 3) .nil))) (.call i_walk_in none false (.cons (.pk 0) (.cons (.pk 1) .nil)))) (.cons (.ret (.tup (.cons (.var 2) (.cons (.call i_short_in none false (.cons (.pk 3) .nil)) .nil)))) .nil))⟩
def f_gaps_between : Fd :=
  ⟨2, 8, none, true, (.cons (.asg (.n 2) (.lst (.cons (.call i_added none false (.cons (.op .idx (.cons (.pk 0) (.cons (.cst (.int (0))) .nil))) (.cons (.call i_scaled none false (.cons (.op .idx (.cons (.pk 1) (.cons (.cst (.int (0))) .nil))) (.cons (.op .neg (.cons (.cst (.int (1))) .nil)) .nil))) .nil))) .nil))) (.cons (.forr (.t (.cons (.t (.cons (.n 3) (.cons (.n 4) .nil))) (.cons (.t (.cons (.n 5) (.cons (.n 6) .nil))) .nil))) (.zip (.op .idx (.cons (.pk 0) (.cons (.cst (.int (1))) .nil))) (.op .idx (.cons (.pk 1) (.cons (.cst (.int (1))) .nil)))) (.cons (.meth .append 2 (.call i_added none false (.cons (.call i_size_form none false (.cons (.pk 3) .nil)) (.cons (.call i_scaled none false (.cons (.call i_size_form none false (.cons (.pk 5) .nil)) (.cons (.op .neg (.cons (.cst (.int (1))) .nil)) .nil))) .nil)))) (.cons (.meth .append 2 (.call i_added none false (.cons (.pk 4) (.cons (.call i_scaled none false (.cons (.pk 6) (.cons (.op .neg (.cons (.cst (.int (1))) .nil)) .nil))) .nil)))) .nil))) (.cons (.ret (.comp (.var 7) (.n 7) (.e (.var 2)) (.cons (.op .ne (.cons (.pk 7) (.cons (.tup .nil) .nil))) .nil) [7])) .nil)))⟩
def f_alike_in : Fd :=
  ⟨2, 6, none, false, (.cons (.par [3, 4] (.cons (.call i_general_in none false (.cons (.pk 0) .nil)) (.cons (.call i_general_in none false (.cons (.pk 1) .nil)) .nil))) (.cons (.iff (.op .eq (.cons (.pk 3) (.cons (.pk 4) .nil))) (.cons (.ret (.tup (.cons (.cst (.bl true)) (.cons (.tup .nil) .nil)))) .nil) .nil) (.cons (.asg (.n 2) (.op .add (.cons (.call i_odd_in none false (.cons (.pk 0) .nil)) (.cons (.call i_odd_in none false (.cons (.pk 1) .nil)) .nil)))) (.cons (.iff (.op .eq (.cons (.op .len (.cons (.op .idx (.cons (.pk 3) (.cons (.cst (.int (1))) .nil))) .nil)) (.cons (.op .len (.cons (.op .idx (.cons (.pk 4) (.cons (.cst (.int (1))) .nil))) .nil)) .nil))) (.cons (.asg (.n 2) (.op .add (.cons (.pk 2) (.cons (.call i_roots_in none false (.cons (.op .idx (.cons (.call i_gaps_between none true (.cons (.pk 3) (.cons (.pk 4) .nil))) (.cons (.cst (.int (0))) .nil))) .nil)) .nil)))) .nil) .nil) (.cons (.ret (.tup (.cons (.cst (.bl false)) (.cons (.op .tuple (.cons (.comp (.var 5) (.n 5) (.e (.op .sset (.cons (.pk 2) .nil))) (.cons (.op .eq (.cons (.call i_short_walk none false (.cons (.pk 0) (.cons (.pk 5) .nil))) (.cons (.call i_short_walk none false (.cons (.pk 1) (.cons (.pk 5) .nil))) .nil))) .nil) [5]) .nil)) .nil)))) .nil)))))⟩
def f_need_both : Fd :=
  ⟨2, 2, none, false, (.cons (.ex (.call i_need_growing none false (.cons (.pk 0) .nil))) (.cons (.ex (.call i_need_growing none false (.cons (.pk 1) .nil))) .nil))⟩
def f_alike_values : Fd :=
  ⟨2, 2, none, false, (.cons (.ex (.call i_need_both none false (.cons (.pk 0) (.cons (.pk 1) .nil)))) (.cons (.ret (.call i_alike_in none false (.cons (.pk 0) (.cons (.pk 1) .nil)))) .nil))⟩
def f_breaks_of : Fd :=
  ⟨1, 2, none, true, (.cons (.ret (.comp (.call i_product_of none false (.cons (.op (.slc false true) (.cons (.pk 0) (.cons (.pk 1) .nil))) .nil)) (.n 1) (.rng2 (.cst (.int (1))) (.op .len (.cons (.pk 0) .nil))) .nil [1])) .nil)⟩
def f_sees_at : Fd :=
  ⟨3, 8, none, false, (.cons (.asg (.n 3) (.call i_breaks_in none false (.cons (.comp (.var 5) (.t (.cons (.n 5) (.cons (.n 7) .nil))) (.e (.op .idx (.cons (.call i_short_walk none false (.cons (.pk 0) (.cons (.pk 2) .nil))) (.cons (.cst (.int (1))) .nil)))) .nil [5, 7]) .nil))) (.cons (.asg (.n 4) (.call i_breaks_in none false (.cons (.comp (.call i_size_at none false (.cons (.pk 5) (.cons (.pk 2) .nil))) (.n 5) (.e (.var 1)) .nil [5]) .nil))) (.cons (.ret (.op .all (.cons (.comp (.op .inn (.cons (.pk 6) (.cons (.pk 4) .nil))) (.n 6) (.e (.var 3)) .nil [6]) .nil))) .nil)))⟩
def f_meeting_values : Fd :=
  ⟨2, 6, none, true, (.cons (.asg (.t (.cons (.t (.cons (.n 2) (.cons (.n 3) .nil))) (.cons (.t (.cons (.n 4) (.cons (.n 5) .nil))) .nil))) (.ite (.op .gt (.cons (.op .idx (.cons (.pk 0) (.cons (.cst (.int (1))) .nil))) (.cons (.op .idx (.cons (.pk 1) (.cons (.cst (.int (1))) .nil))) .nil))) (.tup (.cons (.var 0) (.cons (.var 1) .nil))) (.tup (.cons (.var 1) (.cons (.var 0) .nil))))) (.cons (.ret (.ite (.and (.op .ne (.cons (.pk 3) (.cons (.pk 5) .nil))) (.op .eq (.cons (.op .mod (.cons (.pk 4) (.cons (.pk 2) .nil))) (.cons (.cst (.int (0))) .nil)))) (.lst (.cons (.op .fdiv (.cons (.pk 4) (.cons (.pk 2) .nil))) .nil)) (.lst .nil))) .nil))⟩
def f_seen_in : Fd :=
  ⟨2, 10, none, false, (.cons (.asg (.t (.cons (.n 4) (.cons (.n 5) .nil))) (.tup (.cons (.call i_breaks_of none true (.cons (.comp (.var 8) (.t (.cons (.n 8) (.cons (.n 9) .nil))) (.e (.op .idx (.cons (.call i_general_in none false (.cons (.pk 0) .nil)) (.cons (.cst (.int (1))) .nil)))) .nil [8, 9]) .nil)) (.cons (.call i_breaks_of none true (.cons (.pk 1) .nil)) .nil)))) (.cons (.iff (.op .all (.cons (.comp (.op .inn (.cons (.pk 3) (.cons (.pk 5) .nil))) (.n 3) (.e (.var 4)) .nil [3]) .nil)) (.cons (.ret (.tup (.cons (.cst (.bl true)) (.cons (.tup .nil) .nil)))) .nil) .nil) (.cons (.asg (.n 2) (.op .list (.cons (.call i_odd_in none false (.cons (.pk 0) .nil)) .nil))) (.cons (.forr (.n 3) (.e (.var 4)) (.cons (.forr (.n 6) (.e (.var 5)) (.cons (.meth .extend 2 (.call i_meeting_values none true (.cons (.pk 3) (.cons (.pk 6) .nil)))) .nil)) .nil)) (.cons (.ret (.tup (.cons (.cst (.bl false)) (.cons (.op .tuple (.cons (.comp (.var 7) (.n 7) (.e (.op .sset (.cons (.pk 2) .nil))) (.cons (.call i_sees_at none false (.cons (.pk 0) (.cons (.pk 1) (.cons (.pk 7) .nil)))) .nil) [7]) .nil)) .nil)))) .nil)))))⟩
def f_generally_in : Fd :=
  ⟨2, 10, none, false, (.cons (.asg (.t (.cons (.n 3) (.cons (.n 4) .nil))) (.call i_general_in none false (.cons (.pk 0) .nil))) (.cons (.par [5, 6] (.cons (.lst .nil) (.cons (.op .list (.cons (.pk 4) .nil)) .nil))) (.cons (.par [7, 8, 9] (.cons (.glo "PLAIN" (.tup [.int (1), .int (0)])) (.cons (.tup .nil) (.cons (.glo "PLAIN" (.tup [.int (1), .int (0)])) .nil)))) (.cons (.forr (.n 2) (.e (.var 1)) (.cons (.iff (.op .eq (.cons (.pk 2) (.cons (.glo "PLAIN" (.tup [.int (1), .int (0)])) .nil))) (.cons (.meth .append 5 (.tup (.cons (.var 2) (.cons (.tup .nil) .nil)))) .nil) (.cons (.iff (.op .eq (.cons (.pk 9) (.cons (.pk 7) .nil))) (.cons (.asg (.t (.cons (.t (.cons (.n 7) (.cons (.n 8) .nil))) (.cons (.n 6) (.cons (.n 9) .nil)))) (.tup (.cons (.op .idx (.cons (.pk 6) (.cons (.cst (.int (0))) .nil))) (.cons (.op (.slc true false) (.cons (.pk 6) (.cons (.cst (.int (1))) .nil))) (.cons (.glo "PLAIN" (.tup [.int (1), .int (0)])) .nil))))) .nil) .nil) (.cons (.meth .append 5 (.tup (.cons (.var 2) (.cons (.call i_let_form none false (.cons (.pk 8) .nil)) .nil)))) (.cons (.par [9, 8] (.cons (.call i_product_of none false (.cons (.lst (.cons (.var 9) (.cons (.var 2) .nil))) .nil)) (.cons (.call i_sized none false (.cons (.pk 8) (.cons (.pk 2) .nil))) .nil))) .nil)))) .nil)) (.cons (.ret (.tup (.cons (.var 3) (.cons (.op .tuple (.cons (.pk 5) .nil)) .nil)))) .nil)))))⟩
def f_need_seen : Fd :=
  ⟨2, 4, none, false, (.cons (.ex (.call i_need_growing none false (.cons (.pk 0) .nil))) (.cons (.ex (.call i_need_growing_shape none false (.cons (.pk 1) .nil))) (.cons (.iff (.op .ne (.cons (.call i_product_of none false (.cons (.pk 1) .nil)) (.cons (.call i_product_of none false (.cons (.comp (.var 2) (.t (.cons (.n 2) (.cons (.n 3) .nil))) (.e (.op .idx (.cons (.pk 0) (.cons (.cst (.int (1))) .nil)))) .nil [2, 3]) .nil)) .nil))) (.cons (.rse 3 none) .nil) .nil) .nil)))⟩
def f_seen_at : Fd :=
  ⟨3, 3, none, false, (.cons (.ex (.call i_need_seen none false (.cons (.pk 0) (.cons (.pk 1) .nil)))) (.cons (.ex (.call i_need_value none false (.cons (.pk 2) .nil))) (.cons (.ret (.call i_sees_at none false (.cons (.pk 0) (.cons (.pk 1) (.cons (.pk 2) .nil))))) .nil)))⟩
def f_seen_values : Fd :=
  ⟨2, 2, none, false, (.cons (.ex (.call i_need_seen none false (.cons (.pk 0) (.cons (.pk 1) .nil)))) (.cons (.ret (.call i_seen_in none false (.cons (.pk 0) (.cons (.pk 1) .nil)))) .nil))⟩
def f_seen_generally : Fd :=
  ⟨2, 2, none, false, (.cons (.ex (.call i_need_seen none false (.cons (.pk 0) (.cons (.pk 1) .nil)))) (.cons (.ret (.ite (.op .idx (.cons (.call i_seen_in none false (.cons (.pk 0) (.cons (.pk 1) .nil))) (.cons (.cst (.int (0))) .nil))) (.call i_generally_in none false (.cons (.pk 0) (.cons (.pk 1) .nil))) (.cst (.non)))) .nil))⟩
def f__law_cup : Fd :=
  ⟨1, 2, none, true, (.cons (.asg (.n 1) (.op .abs (.cons (.op .idx (.cons (.op .add (.cons (.op .list (.cons (.pk 0) .nil)) (.cons (.lst (.cons (.cst (.int (0))) .nil)) .nil))) (.cons (.cst (.int (0))) .nil))) .nil))) (.cons (.ret (.lst (.cons (.ite (.op .ge (.cons (.pk 1) (.cons (.op .pow (.cons (.cst (.int (10))) (.cons (.cst (.int (18))) .nil))) .nil))) (.op .fdiv (.cons (.pk 1) (.cons (.cst (.int (83))) .nil))) (.cst (.int (0)))) (.cons (.op .add (.cons (.op .mod (.cons (.op .int (.cons (.op .add (.cons (.op .mul (.cons (.pk 1) (.cons (.cst (.int (311))) .nil))) (.cons (.cst (.int (11861))) .nil))) .nil)) (.cons (.cst (.int (2077503221))) .nil))) (.cons (.cst (.int (181))) .nil))) .nil)))) .nil))⟩
def f__law_roll : Fd :=
  ⟨2, 4, some 0, false, (.cons (.iff (.op .gt (.cons (.op .idx (.cons (.pk 0) (.cons (.cst (.int (0))) .nil))) (.cons (.cst (.int (0))) .nil))) (.cons (.asg (.n 3) (.op .mod (.cons (.op .int (.cons (.op .idx (.cons (.pk 0) (.cons (.cst (.int (0))) .nil))) .nil)) (.cons (.pk 1) .nil)))) (.cons (.asg (.ix 0 (.cst (.int (0)))) (.op .fdiv (.cons (.op .idx (.cons (.pk 0) (.cons (.cst (.int (0))) .nil))) (.cons (.pk 1) .nil)))) (.cons (.ret (.var 3)) .nil))) .nil) (.cons (.asg (.ix 0 (.cst (.int (1)))) (.op .mod (.cons (.op .int (.cons (.op .add (.cons (.op .mul (.cons (.op .idx (.cons (.pk 0) (.cons (.cst (.int (1))) .nil))) (.cons (.cst (.int (30983))) .nil))) (.cons (.cst (.int (8039))) .nil))) .nil)) (.cons (.cst (.int (2147483549))) .nil)))) (.cons (.asg (.n 2) (.op .mod (.cons (.op .int (.cons (.op .mul (.cons (.op .idx (.cons (.pk 0) (.cons (.cst (.int (1))) .nil))) (.cons (.op .add (.cons (.op .idx (.cons (.pk 0) (.cons (.cst (.int (1))) .nil))) (.cons (.cst (.int (241))) .nil))) .nil))) .nil)) (.cons (.cst (.int (2147483563))) .nil)))) (.cons (.ret (.op .mod (.cons (.op .int (.cons (.op .fdiv (.cons (.pk 2) (.cons (.cst (.int (839))) .nil))) .nil)) (.cons (.pk 1) .nil)))) .nil))))⟩
def f__law_some : Fd :=
  ⟨2, 2, some 0, false, (.cons (.ret (.op .idx (.cons (.pk 1) (.cons (.call i__law_roll (some 0) false (.cons (.pk 0) (.cons (.op .len (.cons (.pk 1) .nil)) .nil))) .nil)))) .nil)⟩
def f__law_sort : Fd :=
  ⟨1, 1, none, false, (.cons (.iff (.or (.op .isN (.cons (.pk 0) (.cons (.cst (.non)) .nil))) (.op (.isi .bool) (.cons (.pk 0) .nil))) (.cons (.ret (.ite (.op .isN (.cons (.pk 0) (.cons (.cst (.non)) .nil))) (.cst (.int (0))) (.cst (.int (1))))) .nil) .nil) (.cons (.iff (.or (.op (.isi .int) (.cons (.pk 0) .nil)) (.op (.isi .str) (.cons (.pk 0) .nil))) (.cons (.ret (.ite (.op (.isi .int) (.cons (.pk 0) .nil)) (.cst (.int (2))) (.cst (.int (3))))) .nil) .nil) (.cons (.ret (.ite (.op (.isi .tuple) (.cons (.pk 0) .nil)) (.cst (.int (4))) (.ite (.op (.isi .list) (.cons (.pk 0) .nil)) (.cst (.int (5))) (.cst (.int (6)))))) .nil)))⟩
def f__law_like : Fd :=
  ⟨2, 5, none, false, (.cons (.asg (.n 2) (.call i__law_sort none false (.cons (.pk 1) .nil))) (.cons (.iff (.or (.op .ne (.cons (.call i__law_sort none false (.cons (.pk 0) .nil)) (.cons (.pk 2) .nil))) (.op .eq (.cons (.pk 2) (.cons (.cst (.int (6))) .nil)))) (.cons (.ret (.cst (.bl false))) .nil) .nil) (.cons (.iff (.op .inn (.cons (.pk 2) (.cons (.tup (.cons (.cst (.int (4))) (.cons (.cst (.int (5))) .nil))) .nil))) (.cons (.ret (.and (.op .eq (.cons (.op .len (.cons (.pk 0) .nil)) (.cons (.op .len (.cons (.pk 1) .nil)) .nil))) (.op .eq (.cons (.comp (.cst (.int (1))) (.t (.cons (.n 3) (.cons (.n 4) .nil))) (.zip (.var 0) (.var 1)) (.cons (.not (.call i__law_like none false (.cons (.pk 3) (.cons (.pk 4) .nil)))) .nil) [3, 4]) (.cons (.lst .nil) .nil))))) .nil) .nil) (.cons (.ret (.op .eq (.cons (.pk 0) (.cons (.pk 1) .nil)))) .nil))))⟩
def f__law_number : Fd :=
  ⟨1, 3, none, false, (.cons (.asg (.n 1) (.cst (.int (1)))) (.cons (.forr (.n 2) (.e (.var 0)) (.cons (.asg (.n 1) (.op .mul (.cons (.pk 1) (.cons (.pk 2) .nil)))) .nil)) (.cons (.ret (.var 1)) .nil)))⟩
def f__law_sizes : Fd :=
  ⟨2, 5, some 0, false, (.cons (.asg (.n 2) (.lst .nil)) (.cons (.forr (.n 3) (.rng1 (.call i__law_some (some 0) false (.cons (.pk 0) (.cons (.lst (.cons (.cst (.int (0))) (.cons (.cst (.int (1))) (.cons (.cst (.int (2))) (.cons (.cst (.int (2))) (.cons (.cst (.int (3))) (.cons (.cst (.int (3))) (.cons (.cst (.int (4))) (.cons (.cst (.int (5))) .nil))))))))) .nil)))) (.cons (.asg (.n 4) (.call i__law_some (some 0) false (.cons (.pk 0) (.cons (.lst (.cons (.cst (.int (1))) (.cons (.cst (.int (2))) (.cons (.cst (.int (2))) (.cons (.cst (.int (2))) (.cons (.cst (.int (3))) (.cons (.cst (.int (3))) (.cons (.cst (.int (4))) (.cons (.cst (.int (5))) (.cons (.cst (.int (6))) .nil)))))))))) .nil)))) (.cons (.iff (.op .le (.cons (.op .mul (.cons (.call i__law_number none false (.cons (.pk 2) .nil)) (.cons (.pk 4) .nil))) (.cons (.pk 1) .nil))) (.cons (.meth .append 2 (.var 4)) .nil) .nil) .nil))) (.cons (.ret (.op .tuple (.cons (.pk 2) .nil))) .nil)))⟩
def f__law_short : Fd :=
  ⟨1, 6, none, false, (.cons (.asg (.n 1) (.comp (.var 4) (.n 4) (.e (.var 0)) (.cons (.op .gt (.cons (.op .idx (.cons (.pk 4) (.cons (.cst (.int (0))) .nil))) (.cons (.cst (.int (1))) .nil))) .nil) [4])) (.cons (.forr (.n 2) (.rng1 (.op .len (.cons (.pk 0) .nil))) (.cons (.asg (.n 3) (.comp (.var 5) (.n 5) (.rng1 (.op .sub (.cons (.op .len (.cons (.pk 1) .nil)) (.cons (.cst (.int (1))) .nil)))) (.cons (.op .eq (.cons (.op .idx (.cons (.op .idx (.cons (.pk 1) (.cons (.op .add (.cons (.pk 5) (.cons (.cst (.int (1))) .nil))) .nil))) (.cons (.cst (.int (1))) .nil))) (.cons (.op .mul (.cons (.op .idx (.cons (.op .idx (.cons (.pk 1) (.cons (.pk 5) .nil))) (.cons (.cst (.int (0))) .nil))) (.cons (.op .idx (.cons (.op .idx (.cons (.pk 1) (.cons (.pk 5) .nil))) (.cons (.cst (.int (1))) .nil))) .nil))) .nil))) .nil) [5])) (.cons (.iff (.op .ne (.cons (.pk 3) (.cons (.lst .nil) .nil))) (.cons (.asg (.n 5) (.op .idx (.cons (.pk 3) (.cons (.cst (.int (0))) .nil)))) (.cons (.asg (.n 1) (.op .add (.cons (.op .add (.cons (.op (.slc false true) (.cons (.pk 1) (.cons (.pk 5) .nil))) (.cons (.lst (.cons (.tup (.cons (.op .mul (.cons (.op .idx (.cons (.op .idx (.cons (.pk 1) (.cons (.pk 5) .nil))) (.cons (.cst (.int (0))) .nil))) (.cons (.op .idx (.cons (.op .idx (.cons (.pk 1) (.cons (.op .add (.cons (.pk 5) (.cons (.cst (.int (1))) .nil))) .nil))) (.cons (.cst (.int (0))) .nil))) .nil))) (.cons (.op .idx (.cons (.op .idx (.cons (.pk 1) (.cons (.pk 5) .nil))) (.cons (.cst (.int (1))) .nil))) .nil))) .nil)) .nil))) (.cons (.op (.slc true false) (.cons (.pk 1) (.cons (.op .add (.cons (.pk 5) (.cons (.cst (.int (2))) .nil))) .nil))) .nil)))) .nil)) .nil) .nil))) (.cons (.ret (.op .tuple (.cons (.pk 1) .nil))) .nil)))⟩
def f__law_breaks : Fd :=
  ⟨1, 2, none, false, (.cons (.ret (.op .tuple (.cons (.comp (.call i__law_number none false (.cons (.op (.slc false true) (.cons (.pk 0) (.cons (.op .add (.cons (.pk 1) (.cons (.cst (.int (1))) .nil))) .nil))) .nil)) (.n 1) (.rng1 (.op .sub (.cons (.op .len (.cons (.pk 0) .nil)) (.cons (.cst (.int (1))) .nil)))) .nil [1]) .nil))) .nil)⟩
def f__law_shapes : Fd :=
  ⟨1, 8, none, true, (.cons (.par [2, 3] (.cons (.lst .nil) (.cons (.lst (.cons (.tup (.cons (.tup .nil) (.cons (.var 0) .nil))) .nil)) .nil))) (.cons (.forr (.n 1) (.rng1 (.cst (.int (13)))) (.cons (.asg (.n 2) (.op .add (.cons (.pk 2) (.cons (.comp (.var 5) (.t (.cons (.n 5) (.cons (.n 6) .nil))) (.e (.var 3)) (.cons (.op .eq (.cons (.pk 6) (.cons (.cst (.int (1))) .nil))) .nil) [5, 6]) .nil)))) (.cons (.asg (.n 4) (.lst .nil)) (.cons (.forr (.t (.cons (.n 5) (.cons (.n 6) .nil))) (.e (.var 3)) (.cons (.asg (.n 4) (.op .add (.cons (.pk 4) (.cons (.comp (.tup (.cons (.op .add (.cons (.pk 5) (.cons (.tup (.cons (.var 7) .nil)) .nil))) (.cons (.op .fdiv (.cons (.pk 6) (.cons (.pk 7) .nil))) .nil))) (.n 7) (.rng2 (.cst (.int (2))) (.op .add (.cons (.pk 6) (.cons (.cst (.int (1))) .nil)))) (.cons (.op .eq (.cons (.op .mod (.cons (.op .int (.cons (.pk 6) .nil)) (.cons (.pk 7) .nil))) (.cons (.cst (.int (0))) .nil))) .nil) [7]) .nil)))) .nil)) (.cons (.asg (.n 3) (.var 4)) .nil))))) (.cons (.ret (.op .sorted (.cons (.pk 2) .nil))) .nil)))⟩
def f__law_value : Fd :=
  ⟨2, 4, none, false, (.cons (.ret (.op .sum (.cons (.comp (.op .mul (.cons (.pk 3) (.cons (.call i__law_power none false (.cons (.pk 1) (.cons (.pk 2) .nil))) .nil))) (.t (.cons (.n 2) (.cons (.n 3) .nil))) (.enm (.var 0)) .nil [2, 3]) .nil))) .nil)⟩
def f__law_power : Fd :=
  ⟨2, 4, none, false, (.cons (.asg (.n 2) (.cst (.int (1)))) (.cons (.forr (.n 3) (.rng1 (.var 1)) (.cons (.asg (.n 2) (.op .mul (.cons (.pk 2) (.cons (.pk 0) .nil)))) .nil)) (.cons (.ret (.var 2)) .nil)))⟩
def f__law_lean : Fd :=
  ⟨1, 4, none, false, (.cons (.asg (.n 1) (.op .len (.cons (.comp (.cst (.int (1))) (.n 2) (.rng1 (.op .len (.cons (.pk 0) .nil))) (.cons (.op .ne (.cons (.comp (.var 3) (.n 3) (.e (.op (.slc true false) (.cons (.pk 0) (.cons (.pk 2) .nil)))) (.cons (.op .ne (.cons (.pk 3) (.cons (.cst (.int (0))) .nil))) .nil) [3]) (.cons (.lst .nil) .nil))) .nil) [2]) .nil))) (.cons (.ret (.op .tuple (.cons (.op (.slc false true) (.cons (.pk 0) (.cons (.pk 1) .nil))) .nil))) .nil))⟩
def f__law_form : Fd :=
  ⟨2, 3, some 0, false, (.cons (.ret (.call i__law_lean none false (.cons (.comp (.call i__law_some (some 0) false (.cons (.pk 0) (.cons (.lst (.cons (.cst (.int (0))) (.cons (.cst (.int (1))) (.cons (.cst (.int (1))) (.cons (.op .neg (.cons (.cst (.int (1))) .nil)) (.cons (.cst (.int (2))) (.cons (.cst (.int (3))) (.cons (.op .neg (.cons (.cst (.int (2))) .nil)) (.cons (.cst (.int (4))) (.cons (.cst (.int (6))) (.cons (.cst (.int (12))) (.cons (.op .neg (.cons (.cst (.int (5))) .nil)) .nil)))))))))))) .nil))) (.n 2) (.rng1 (.call i__law_roll (some 0) false (.cons (.pk 0) (.cons (.op .add (.cons (.pk 1) (.cons (.cst (.int (1))) .nil))) .nil)))) .nil [2]) .nil))) .nil)⟩
def f__law_times : Fd :=
  ⟨2, 3, none, false, (.cons (.ret (.op .tuple (.cons (.comp (.op .mul (.cons (.pk 2) (.cons (.op .idx (.cons (.pk 1) (.cons (.cst (.int (0))) .nil))) .nil))) (.n 2) (.e (.ite (.and (.op .eq (.cons (.op .idx (.cons (.pk 1) (.cons (.cst (.int (1))) .nil))) (.cons (.cst (.int (1))) .nil))) (.op .ne (.cons (.pk 0) (.cons (.tup .nil) .nil)))) (.op .add (.cons (.tup (.cons (.cst (.int (0))) .nil)) (.cons (.pk 0) .nil))) (.var 0))) .nil [2]) .nil))) .nil)⟩
def f__law_growing : Fd :=
  ⟨2, 8, some 0, false, (.cons (.asg (.n 2) (.comp (.tup (.cons (.var 4) (.cons (.cst (.int (0))) .nil))) (.n 4) (.e (.call i__law_sizes (some 0) false (.cons (.pk 0) (.cons (.pk 1) .nil)))) .nil [4])) (.cons (.iff (.and (.op .ne (.cons (.pk 2) (.cons (.lst .nil) .nil))) (.op .gt (.cons (.call i__law_roll (some 0) false (.cons (.pk 0) (.cons (.cst (.int (5))) .nil))) (.cons (.cst (.int (0))) .nil)))) (.cons (.asg (.n 5) (.call i__law_roll (some 0) false (.cons (.pk 0) (.cons (.op .len (.cons (.pk 2) .nil)) .nil)))) (.cons (.asg (.ix 2 (.var 5)) (.tup (.cons (.op .idx (.cons (.op .idx (.cons (.pk 2) (.cons (.pk 5) .nil))) (.cons (.cst (.int (0))) .nil))) (.cons (.cst (.int (1))) .nil)))) .nil)) .nil) (.cons (.asg (.n 3) (.lst .nil)) (.cons (.forr (.n 4) (.e (.var 2)) (.cons (.asg (.n 6) (.call i__law_form (some 0) false (.cons (.pk 0) (.cons (.cst (.int (2))) .nil)))) (.cons (.iff (.and (.op .ne (.cons (.pk 3) (.cons (.lst .nil) .nil))) (.op .eq (.cons (.call i__law_roll (some 0) false (.cons (.pk 0) (.cons (.cst (.int (2))) .nil))) (.cons (.cst (.int (0))) .nil)))) (.cons (.asg (.n 7) (.call i__law_times none false (.cons (.op .idx (.cons (.op .idx (.cons (.pk 3) (.cons (.op .neg (.cons (.cst (.int (1))) .nil)) .nil))) (.cons (.cst (.int (1))) .nil))) (.cons (.op .idx (.cons (.op .idx (.cons (.pk 3) (.cons (.op .neg (.cons (.cst (.int (1))) .nil)) .nil))) (.cons (.cst (.int (0))) .nil))) .nil)))) (.cons (.asg (.n 6) (.ite (.op .lt (.cons (.op .len (.cons (.pk 7) .nil)) (.cons (.cst (.int (4))) .nil))) (.var 7) (.var 6))) .nil)) .nil) (.cons (.meth .append 3 (.tup (.cons (.var 4) (.cons (.var 6) .nil)))) .nil)))) (.cons (.ret (.tup (.cons (.call i__law_form (some 0) false (.cons (.pk 0) (.cons (.cst (.int (2))) .nil))) (.cons (.op .tuple (.cons (.pk 3) .nil)) .nil)))) .nil)))))⟩
def f__law_at : Fd :=
  ⟨2, 5, none, false, (.cons (.asg (.n 2) (.comp (.tup (.cons (.ite (.op .eq (.cons (.op .idx (.cons (.pk 3) (.cons (.cst (.int (1))) .nil))) (.cons (.cst (.int (1))) .nil))) (.op .mul (.cons (.op .idx (.cons (.pk 3) (.cons (.cst (.int (0))) .nil))) (.cons (.pk 1) .nil))) (.op .idx (.cons (.pk 3) (.cons (.cst (.int (0))) .nil)))) (.cons (.call i__law_value none false (.cons (.pk 4) (.cons (.pk 1) .nil))) .nil))) (.t (.cons (.n 3) (.cons (.n 4) .nil))) (.e (.op .idx (.cons (.pk 0) (.cons (.cst (.int (1))) .nil)))) .nil [3, 4])) (.cons (.ret (.tup (.cons (.call i__law_value none false (.cons (.op .idx (.cons (.pk 0) (.cons (.cst (.int (0))) .nil))) (.cons (.pk 1) .nil))) (.cons (.op .tuple (.cons (.pk 2) .nil)) .nil)))) .nil))⟩
def f__law_mixed : Fd :=
  ⟨2, 6, some 0, true, (.cons (.par [3, 4] (.cons (.op .list (.cons (.pk 1) .nil)) (.cons (.lst .nil) .nil))) (.cons (.forr (.n 2) (.rng1 (.op .len (.cons (.pk 1) .nil))) (.cons (.asg (.n 5) (.call i__law_roll (some 0) false (.cons (.pk 0) (.cons (.op .len (.cons (.pk 3) .nil)) .nil)))) (.cons (.par [4, 3] (.cons (.op .add (.cons (.pk 4) (.cons (.lst (.cons (.op .idx (.cons (.pk 3) (.cons (.pk 5) .nil))) .nil)) .nil))) (.cons (.op .add (.cons (.op (.slc false true) (.cons (.pk 3) (.cons (.pk 5) .nil))) (.cons (.op (.slc true false) (.cons (.pk 3) (.cons (.op .add (.cons (.pk 5) (.cons (.cst (.int (1))) .nil))) .nil))) .nil))) .nil))) .nil))) (.cons (.ret (.var 4)) .nil)))⟩
def f__law_shape_for : Fd :=
  ⟨2, 13, some 0, false, (.cons (.asg (.n 2) (.comp (.var 8) (.t (.cons (.n 8) (.cons (.n 11) .nil))) (.e (.op .idx (.cons (.pk 1) (.cons (.cst (.int (1))) .nil)))) .nil [8, 11])) (.cons (.par [3, 4] (.cons (.call i__law_number none false (.cons (.comp (.op .idx (.cons (.pk 8) (.cons (.cst (.int (0))) .nil))) (.n 8) (.e (.var 2)) .nil [8]) .nil)) (.cons (.op .sum (.cons (.comp (.op .idx (.cons (.pk 8) (.cons (.cst (.int (1))) .nil))) (.n 8) (.e (.var 2)) .nil [8]) .nil)) .nil))) (.cons (.par [5, 6] (.cons (.call i__law_roll (some 0) false (.cons (.pk 0) (.cons (.cst (.int (4))) .nil))) (.cons (.lst .nil) .nil))) (.cons (.iff (.op .eq (.cons (.pk 5) (.cons (.cst (.int (0))) .nil))) (.cons (.asg (.n 6) (.comp (.tup (.cons (.var 8) (.cons (.cst (.int (0))) .nil))) (.n 8) (.e (.call i__law_some (some 0) false (.cons (.pk 0) (.cons (.call i__law_shapes none true (.cons (.pk 3) .nil)) .nil)))) .nil [8])) (.cons (.asg (.n 7) (.call i__law_roll (some 0) false (.cons (.pk 0) (.cons (.op .add (.cons (.op .len (.cons (.pk 6) .nil)) (.cons (.cst (.int (1))) .nil))) .nil)))) (.cons (.asg (.n 6) (.op .add (.cons (.op .add (.cons (.op (.slc false true) (.cons (.pk 6) (.cons (.pk 7) .nil))) (.cons (.lst (.cons (.tup (.cons (.cst (.int (1))) (.cons (.var 4) .nil))) .nil)) .nil))) (.cons (.op (.slc true false) (.cons (.pk 6) (.cons (.pk 7) .nil))) .nil)))) .nil))) .nil) (.cons (.iff (.op .eq (.cons (.pk 5) (.cons (.cst (.int (1))) .nil))) (.cons (.asg (.n 6) (.call i__law_mixed (some 0) true (.cons (.pk 0) (.cons (.pk 2) .nil)))) .nil) .nil) (.cons (.iff (.op .gt (.cons (.pk 5) (.cons (.cst (.int (1))) .nil))) (.cons (.forr (.n 8) (.e (.var 2)) (.cons (.asg (.n 10) (.comp (.tup (.cons (.var 12) (.cons (.cst (.int (0))) .nil))) (.n 12) (.e (.call i__law_some (some 0) false (.cons (.pk 0) (.cons (.call i__law_shapes none true (.cons (.op .idx (.cons (.pk 8) (.cons (.cst (.int (0))) .nil))) .nil)) .nil)))) .nil [12])) (.cons (.asg (.n 7) (.call i__law_roll (some 0) false (.cons (.pk 0) (.cons (.op .add (.cons (.op .len (.cons (.pk 10) .nil)) (.cons (.cst (.int (1))) .nil))) .nil)))) (.cons (.asg (.n 6) (.op .add (.cons (.pk 6) (.cons (.ite (.op .eq (.cons (.op .idx (.cons (.pk 8) (.cons (.cst (.int (1))) .nil))) (.cons (.cst (.int (0))) .nil))) (.var 10) (.op .add (.cons (.op .add (.cons (.op (.slc false true) (.cons (.pk 10) (.cons (.pk 7) .nil))) (.cons (.lst (.cons (.tup (.cons (.cst (.int (1))) (.cons (.cst (.int (1))) .nil))) .nil)) .nil))) (.cons (.op (.slc true false) (.cons (.pk 10) (.cons (.pk 7) .nil))) .nil)))) .nil)))) .nil)))) .nil) .nil) (.cons (.iff (.and (.op .gt (.cons (.op .len (.cons (.pk 6) .nil)) (.cons (.cst (.int (1))) .nil))) (.op .eq (.cons (.call i__law_roll (some 0) false (.cons (.pk 0) (.cons (.cst (.int (3))) .nil))) (.cons (.cst (.int (0))) .nil)))) (.cons (.asg (.n 7) (.call i__law_roll (some 0) false (.cons (.pk 0) (.cons (.op .sub (.cons (.op .len (.cons (.pk 6) .nil)) (.cons (.cst (.int (1))) .nil))) .nil)))) (.cons (.asg (.n 9) (.tup (.cons (.op .mul (.cons (.op .idx (.cons (.op .idx (.cons (.pk 6) (.cons (.pk 7) .nil))) (.cons (.cst (.int (0))) .nil))) (.cons (.op .idx (.cons (.op .idx (.cons (.pk 6) (.cons (.op .add (.cons (.pk 7) (.cons (.cst (.int (1))) .nil))) .nil))) (.cons (.cst (.int (0))) .nil))) .nil))) (.cons (.op .add (.cons (.op .idx (.cons (.op .idx (.cons (.pk 6) (.cons (.pk 7) .nil))) (.cons (.cst (.int (1))) .nil))) (.cons (.op .idx (.cons (.op .idx (.cons (.pk 6) (.cons (.op .add (.cons (.pk 7) (.cons (.cst (.int (1))) .nil))) .nil))) (.cons (.cst (.int (1))) .nil))) .nil))) .nil)))) (.cons (.asg (.n 6) (.op .add (.cons (.op .add (.cons (.op (.slc false true) (.cons (.pk 6) (.cons (.pk 7) .nil))) (.cons (.lst (.cons (.var 9) .nil)) .nil))) (.cons (.op (.slc true false) (.cons (.pk 6) (.cons (.op .add (.cons (.pk 7) (.cons (.cst (.int (2))) .nil))) .nil))) .nil)))) .nil))) .nil) (.cons (.ret (.op .tuple (.cons (.pk 6) .nil))) .nil))))))))⟩
def f__law_sees : Fd :=
  ⟨3, 8, none, false, (.cons (.asg (.n 3) (.comp (.ite (.op .eq (.cons (.op .idx (.cons (.pk 5) (.cons (.cst (.int (1))) .nil))) (.cons (.cst (.int (1))) .nil))) (.op .mul (.cons (.op .idx (.cons (.pk 5) (.cons (.cst (.int (0))) .nil))) (.cons (.pk 2) .nil))) (.op .idx (.cons (.pk 5) (.cons (.cst (.int (0))) .nil)))) (.n 5) (.e (.var 1)) .nil [5])) (.cons (.asg (.n 4) (.call i__law_short none false (.cons (.op .idx (.cons (.call i__law_at none false (.cons (.pk 0) (.cons (.pk 2) .nil))) (.cons (.cst (.int (1))) .nil))) .nil))) (.cons (.ret (.op .eq (.cons (.comp (.var 6) (.n 6) (.e (.call i__law_breaks none false (.cons (.comp (.var 5) (.t (.cons (.n 5) (.cons (.n 7) .nil))) (.e (.var 4)) .nil [5, 7]) .nil))) (.cons (.op .nin (.cons (.pk 6) (.cons (.call i__law_breaks none false (.cons (.pk 3) .nil)) .nil))) .nil) [6]) (.cons (.lst .nil) .nil)))) .nil)))⟩
def f__law_seen_right : Fd :=
  ⟨3, 10, some 0, false, (.cons (.asg (.t (.cons (.n 5) (.cons (.n 6) .nil))) (.call i_seen_values none false (.cons (.pk 1) (.cons (.pk 2) .nil)))) (.cons (.iff (.or (.op .ne (.cons (.call i__law_sort none false (.cons (.pk 5) .nil)) (.cons (.cst (.int (1))) .nil))) (.or (.op .ne (.cons (.op .list (.cons (.pk 6) .nil)) (.cons (.op .sset (.cons (.pk 6) .nil)) .nil))) (.op .ne (.cons (.comp (.var 3) (.n 3) (.e (.var 6)) (.cons (.op .lt (.cons (.pk 3) (.cons (.cst (.int (1))) .nil))) .nil) [3]) (.cons (.lst .nil) .nil))))) (.cons (.ret (.cst (.bl false))) .nil) .nil) (.cons (.forr (.n 3) (.e (.op .add (.cons (.op .add (.cons (.op .rngL2 (.cons (.cst (.int (1))) (.cons (.cst (.int (64))) .nil))) (.cons (.op .list (.cons (.pk 6) .nil)) .nil))) (.cons (.lst (.cons (.op .add (.cons (.cst (.int (97))) (.cons (.call i__law_roll (some 0) false (.cons (.pk 0) (.cons (.cst (.int (1000))) .nil))) .nil))) (.cons (.op .add (.cons (.op .pow (.cons (.cst (.int (10))) (.cons (.cst (.int (8))) .nil))) (.cons (.call i__law_roll (some 0) false (.cons (.pk 0) (.cons (.cst (.int (1000))) .nil))) .nil))) .nil))) .nil)))) (.cons (.asg (.n 7) (.call i__law_sees none false (.cons (.pk 1) (.cons (.pk 2) (.cons (.pk 3) .nil))))) (.cons (.iff (.not (.call i__law_like none false (.cons (.lst (.cons (.ite (.op .lt (.cons (.pk 3) (.cons (.op .pow (.cons (.cst (.int (10))) (.cons (.cst (.int (9))) .nil))) .nil))) (.call i_seen_at none false (.cons (.pk 1) (.cons (.pk 2) (.cons (.pk 3) .nil)))) (.var 7)) (.cons (.op .ne (.cons (.pk 5) (.cons (.op .inn (.cons (.pk 3) (.cons (.pk 6) .nil))) .nil))) .nil))) (.cons (.lst (.cons (.var 7) (.cons (.var 7) .nil))) .nil)))) (.cons (.ret (.cst (.bl false))) .nil) .nil) .nil))) (.cons (.asg (.n 4) (.call i_seen_generally none false (.cons (.pk 1) (.cons (.pk 2) .nil)))) (.cons (.iff (.not (.var 5)) (.cons (.ret (.op .isN (.cons (.pk 4) (.cons (.cst (.non)) .nil)))) .nil) .nil) (.cons (.iff (.or (.op .notB (.cons (.call i_is_growing none false (.cons (.pk 4) .nil)) (.cons (.cst (.bl true)) .nil))) (.or (.op .ne (.cons (.comp (.var 8) (.t (.cons (.n 8) (.cons (.n 9) .nil))) (.e (.op .idx (.cons (.pk 4) (.cons (.cst (.int (1))) .nil)))) .nil [8, 9]) (.cons (.op .list (.cons (.pk 2) .nil)) .nil))) (.op .ne (.cons (.op .idx (.cons (.pk 4) (.cons (.cst (.int (0))) .nil))) (.cons (.op .idx (.cons (.pk 1) (.cons (.cst (.int (0))) .nil))) .nil))))) (.cons (.ret (.cst (.bl false))) .nil) .nil) (.cons (.ret (.and (.op .eq (.cons (.comp (.var 9) (.t (.cons (.n 8) (.cons (.n 9) .nil))) (.e (.op .idx (.cons (.pk 4) (.cons (.cst (.int (1))) .nil)))) (.cons (.and (.op .eq (.cons (.pk 8) (.cons (.tup (.cons (.cst (.int (1))) (.cons (.cst (.int (0))) .nil))) .nil))) (.op .ne (.cons (.pk 9) (.cons (.tup .nil) .nil)))) .nil) [8, 9]) (.cons (.lst .nil) .nil))) (.call i__law_like none false (.cons (.call i_alike_values none false (.cons (.pk 1) (.cons (.pk 4) .nil))) (.cons (.tup (.cons (.cst (.bl true)) (.cons (.tup .nil) .nil))) .nil))))) .nil)))))))⟩
def f__law_written_right : Fd :=
  ⟨0, 6, none, false, (.cons (.asg (.t (.cons (.n 4) (.cons (.n 5) .nil))) (.tup (.cons (.tup (.cons (.tup .nil) (.cons (.tup (.cons (.tup (.cons (.tup (.cons (.cst (.int (1))) (.cons (.cst (.int (1))) .nil))) (.cons (.tup (.cons (.cst (.int (1))) .nil)) .nil))) (.cons (.tup (.cons (.tup (.cons (.cst (.int (3))) (.cons (.cst (.int (0))) .nil))) (.cons (.tup (.cons (.cst (.int (0))) (.cons (.cst (.int (1))) .nil))) .nil))) .nil))) .nil))) (.cons (.tup (.cons (.tup .nil) (.cons (.tup (.cons (.tup (.cons (.tup (.cons (.cst (.int (1))) (.cons (.cst (.int (1))) .nil))) (.cons (.tup (.cons (.cst (.int (1))) .nil)) .nil))) (.cons (.tup (.cons (.tup (.cons (.cst (.int (3))) (.cons (.cst (.int (0))) .nil))) (.cons (.tup (.cons (.cst (.int (4))) .nil)) .nil))) .nil))) .nil))) .nil)))) (.cons (.asg (.n 0) (.lst (.cons (.call i_seen_values none false (.cons (.pk 5) (.cons (.tup (.cons (.tup (.cons (.cst (.int (1))) (.cons (.cst (.int (1))) .nil))) (.cons (.tup (.cons (.cst (.int (3))) (.cons (.cst (.int (0))) .nil))) .nil))) .nil))) (.cons (.call i_seen_values none false (.cons (.pk 5) (.cons (.tup (.cons (.tup (.cons (.cst (.int (3))) (.cons (.cst (.int (0))) .nil))) (.cons (.tup (.cons (.cst (.int (1))) (.cons (.cst (.int (1))) .nil))) .nil))) .nil))) (.cons (.call i_seen_values none false (.cons (.pk 5) (.cons (.tup (.cons (.tup (.cons (.cst (.int (1))) (.cons (.cst (.int (0))) .nil))) (.cons (.tup (.cons (.cst (.int (3))) (.cons (.cst (.int (1))) .nil))) .nil))) .nil))) (.cons (.call i_seen_values none false (.cons (.pk 4) (.cons (.tup (.cons (.tup (.cons (.cst (.int (3))) (.cons (.cst (.int (0))) .nil))) (.cons (.tup (.cons (.cst (.int (1))) (.cons (.cst (.int (1))) .nil))) .nil))) .nil))) .nil)))))) (.cons (.asg (.n 1) (.lst (.cons (.tup (.cons (.cst (.bl true)) (.cons (.tup .nil) .nil))) (.cons (.tup (.cons (.cst (.bl false)) (.cons (.tup (.cons (.cst (.int (1))) (.cons (.cst (.int (3))) (.cons (.cst (.int (4))) .nil)))) .nil))) (.cons (.tup (.cons (.cst (.bl false)) (.cons (.tup (.cons (.cst (.int (1))) (.cons (.cst (.int (4))) .nil))) .nil))) (.cons (.tup (.cons (.cst (.bl true)) (.cons (.tup .nil) .nil))) .nil)))))) (.cons (.asg (.n 0) (.op .add (.cons (.pk 0) (.cons (.lst (.cons (.call i_seen_at none false (.cons (.pk 5) (.cons (.tup (.cons (.tup (.cons (.cst (.int (3))) (.cons (.cst (.int (0))) .nil))) (.cons (.tup (.cons (.cst (.int (1))) (.cons (.cst (.int (1))) .nil))) .nil))) (.cons (.cst (.int (3))) .nil)))) (.cons (.call i_seen_at none false (.cons (.pk 5) (.cons (.tup (.cons (.tup (.cons (.cst (.int (3))) (.cons (.cst (.int (0))) .nil))) (.cons (.tup (.cons (.cst (.int (1))) (.cons (.cst (.int (1))) .nil))) .nil))) (.cons (.cst (.int (2))) .nil)))) (.cons (.call i_seen_generally none false (.cons (.pk 4) (.cons (.tup (.cons (.tup (.cons (.cst (.int (3))) (.cons (.cst (.int (0))) .nil))) (.cons (.tup (.cons (.cst (.int (1))) (.cons (.cst (.int (0))) .nil))) (.cons (.tup (.cons (.cst (.int (1))) (.cons (.cst (.int (1))) .nil))) .nil)))) .nil))) .nil)))) .nil)))) (.cons (.asg (.n 1) (.op .add (.cons (.pk 1) (.cons (.lst (.cons (.cst (.bl true)) (.cons (.cst (.bl false)) (.cons (.tup (.cons (.tup .nil) (.cons (.tup (.cons (.tup (.cons (.tup (.cons (.cst (.int (3))) (.cons (.cst (.int (0))) .nil))) (.cons (.tup (.cons (.cst (.int (1))) .nil)) .nil))) (.cons (.tup (.cons (.tup (.cons (.cst (.int (1))) (.cons (.cst (.int (0))) .nil))) (.cons (.tup .nil) .nil))) (.cons (.tup (.cons (.tup (.cons (.cst (.int (1))) (.cons (.cst (.int (1))) .nil))) (.cons (.tup (.cons (.cst (.int (3))) .nil)) .nil))) .nil)))) .nil))) .nil)))) .nil)))) (.cons (.asg (.n 0) (.op .add (.cons (.pk 0) (.cons (.lst (.cons (.call i_seen_generally none false (.cons (.pk 5) (.cons (.tup (.cons (.tup (.cons (.cst (.int (3))) (.cons (.cst (.int (0))) .nil))) (.cons (.tup (.cons (.cst (.int (1))) (.cons (.cst (.int (1))) .nil))) .nil))) .nil))) (.cons (.op .eq (.cons (.call i_seen_generally none false (.cons (.pk 5) (.cons (.tup (.cons (.tup (.cons (.cst (.int (1))) (.cons (.cst (.int (1))) .nil))) (.cons (.tup (.cons (.cst (.int (3))) (.cons (.cst (.int (0))) .nil))) .nil))) .nil))) (.cons (.pk 5) .nil))) (.cons (.call i_seen_values none false (.cons (.tup (.cons (.tup (.cons (.cst (.int (5))) .nil)) (.cons (.tup .nil) .nil))) (.cons (.tup .nil) .nil))) (.cons (.call i_seen_generally none false (.cons (.tup (.cons (.tup (.cons (.cst (.int (5))) .nil)) (.cons (.tup .nil) .nil))) (.cons (.tup (.cons (.tup (.cons (.cst (.int (1))) (.cons (.cst (.int (0))) .nil))) .nil)) .nil))) .nil))))) .nil)))) (.cons (.asg (.n 1) (.op .add (.cons (.pk 1) (.cons (.lst (.cons (.cst (.non)) (.cons (.cst (.bl true)) (.cons (.tup (.cons (.cst (.bl true)) (.cons (.tup .nil) .nil))) (.cons (.tup (.cons (.tup (.cons (.cst (.int (5))) .nil)) (.cons (.tup (.cons (.tup (.cons (.tup (.cons (.cst (.int (1))) (.cons (.cst (.int (0))) .nil))) (.cons (.tup .nil) .nil))) .nil)) .nil))) .nil))))) .nil)))) (.cons (.asg (.n 2) (.tup (.cons (.tup (.cons (.cst (.int (0))) (.cons (.cst (.int (1))) .nil))) (.cons (.tup (.cons (.tup (.cons (.tup (.cons (.cst (.int (2))) (.cons (.cst (.int (1))) .nil))) (.cons (.tup (.cons (.cst (.int (1))) .nil)) .nil))) (.cons (.tup (.cons (.tup (.cons (.cst (.int (6))) (.cons (.cst (.int (0))) .nil))) (.cons (.tup (.cons (.cst (.int (7))) .nil)) .nil))) .nil))) .nil)))) (.cons (.asg (.n 0) (.op .add (.cons (.pk 0) (.cons (.lst (.cons (.call i_seen_values none false (.cons (.pk 2) (.cons (.tup (.cons (.tup (.cons (.cst (.int (4))) (.cons (.cst (.int (0))) .nil))) (.cons (.tup (.cons (.cst (.int (1))) (.cons (.cst (.int (1))) .nil))) (.cons (.tup (.cons (.cst (.int (3))) (.cons (.cst (.int (0))) .nil))) .nil)))) .nil))) (.cons (.call i_seen_values none false (.cons (.pk 2) (.cons (.tup (.cons (.tup (.cons (.cst (.int (2))) (.cons (.cst (.int (0))) .nil))) (.cons (.tup (.cons (.cst (.int (1))) (.cons (.cst (.int (1))) .nil))) (.cons (.tup (.cons (.cst (.int (6))) (.cons (.cst (.int (0))) .nil))) .nil)))) .nil))) (.cons (.call i_seen_generally none false (.cons (.pk 2) (.cons (.tup (.cons (.tup (.cons (.cst (.int (2))) (.cons (.cst (.int (0))) .nil))) (.cons (.tup (.cons (.cst (.int (1))) (.cons (.cst (.int (1))) .nil))) (.cons (.tup (.cons (.cst (.int (3))) (.cons (.cst (.int (0))) .nil))) (.cons (.tup (.cons (.cst (.int (2))) (.cons (.cst (.int (0))) .nil))) .nil))))) .nil))) .nil)))) .nil)))) (.cons (.asg (.n 1) (.op .add (.cons (.pk 1) (.cons (.lst (.cons (.tup (.cons (.cst (.bl false)) (.cons (.tup (.cons (.cst (.int (2))) .nil)) .nil))) (.cons (.tup (.cons (.cst (.bl true)) (.cons (.tup .nil) .nil))) (.cons (.tup (.cons (.tup (.cons (.cst (.int (0))) (.cons (.cst (.int (1))) .nil))) (.cons (.tup (.cons (.tup (.cons (.tup (.cons (.cst (.int (2))) (.cons (.cst (.int (0))) .nil))) (.cons (.tup (.cons (.cst (.int (1))) .nil)) .nil))) (.cons (.tup (.cons (.tup (.cons (.cst (.int (1))) (.cons (.cst (.int (1))) .nil))) (.cons (.tup (.cons (.cst (.int (2))) .nil)) .nil))) (.cons (.tup (.cons (.tup (.cons (.cst (.int (3))) (.cons (.cst (.int (0))) .nil))) (.cons (.tup (.cons (.cst (.int (7))) .nil)) .nil))) (.cons (.tup (.cons (.tup (.cons (.cst (.int (2))) (.cons (.cst (.int (0))) .nil))) (.cons (.tup (.cons (.cst (.int (21))) .nil)) .nil))) .nil))))) .nil))) .nil)))) .nil)))) (.cons (.asg (.n 3) (.tup (.cons (.tup .nil) (.cons (.tup (.cons (.tup (.cons (.tup (.cons (.cst (.int (6))) (.cons (.cst (.int (0))) .nil))) (.cons (.tup (.cons (.cst (.int (2))) .nil)) .nil))) (.cons (.tup (.cons (.tup (.cons (.cst (.int (1))) (.cons (.cst (.int (1))) .nil))) (.cons (.tup (.cons (.cst (.int (0))) (.cons (.cst (.int (5))) .nil))) .nil))) .nil))) .nil)))) (.cons (.asg (.n 0) (.op .add (.cons (.pk 0) (.cons (.lst (.cons (.call i_seen_values none false (.cons (.pk 3) (.cons (.tup (.cons (.tup (.cons (.cst (.int (1))) (.cons (.cst (.int (1))) .nil))) (.cons (.tup (.cons (.cst (.int (6))) (.cons (.cst (.int (0))) .nil))) .nil))) .nil))) (.cons (.call i_seen_values none false (.cons (.pk 3) (.cons (.tup (.cons (.tup (.cons (.cst (.int (3))) (.cons (.cst (.int (1))) .nil))) (.cons (.tup (.cons (.cst (.int (2))) (.cons (.cst (.int (0))) .nil))) .nil))) .nil))) (.cons (.call i_seen_generally none false (.cons (.pk 3) (.cons (.tup (.cons (.tup (.cons (.cst (.int (2))) (.cons (.cst (.int (0))) .nil))) (.cons (.tup (.cons (.cst (.int (3))) (.cons (.cst (.int (0))) .nil))) (.cons (.tup (.cons (.cst (.int (1))) (.cons (.cst (.int (1))) .nil))) .nil)))) .nil))) .nil)))) .nil)))) (.cons (.ret (.call i__law_like none false (.cons (.pk 0) (.cons (.op .add (.cons (.pk 1) (.cons (.lst (.cons (.tup (.cons (.cst (.bl false)) (.cons (.tup (.cons (.cst (.int (1))) (.cons (.cst (.int (6))) .nil))) .nil))) (.cons (.tup (.cons (.cst (.bl false)) (.cons (.tup (.cons (.cst (.int (1))) (.cons (.cst (.int (2))) .nil))) .nil))) (.cons (.tup (.cons (.tup .nil) (.cons (.tup (.cons (.tup (.cons (.tup (.cons (.cst (.int (2))) (.cons (.cst (.int (0))) .nil))) (.cons (.tup (.cons (.cst (.int (2))) .nil)) .nil))) (.cons (.tup (.cons (.tup (.cons (.cst (.int (3))) (.cons (.cst (.int (0))) .nil))) (.cons (.tup (.cons (.cst (.int (4))) .nil)) .nil))) (.cons (.tup (.cons (.tup (.cons (.cst (.int (1))) (.cons (.cst (.int (1))) .nil))) (.cons (.tup (.cons (.cst (.int (0))) (.cons (.cst (.int (5))) .nil))) .nil))) .nil)))) .nil))) .nil)))) .nil))) .nil)))) .nil)))))))))))))⟩
def f_law : Fd :=
  ⟨1, 4, none, false, (.cons (.asg (.n 1) (.call i__law_cup none true (.cons (.pk 0) .nil))) (.cons (.iff (.not (.call i__law_written_right none false .nil)) (.cons (.ret (.cst (.bl false))) .nil) .nil) (.cons (.forr (.n 2) (.rng1 (.cst (.int (20)))) (.cons (.asg (.n 3) (.call i__law_growing (some 0) false (.cons (.pk 1) (.cons (.cst (.int (48))) .nil)))) (.cons (.iff (.not (.call i__law_seen_right (some 0) false (.cons (.pk 1) (.cons (.pk 3) (.cons (.call i__law_shape_for (some 0) false (.cons (.pk 1) (.cons (.pk 3) .nil))) .nil))))) (.cons (.ret (.cst (.bl false))) .nil) .nil) .nil))) (.cons (.ret (.cst (.bl true))) .nil))))⟩
def P_0 : List Fd := [f_is_integer, f_is_number, f_need_number, f_is_tuple_of, f_number_in, f_breaks_in, f_short_in, f_fits_form, f_fits_size, f_fits_growing_shape, f_fits_growing, f_lean, f_added, f_scaled, f_sized, f_value_of, f_size_form, f_size_at, f_product_of, f_walk_in, f_sign_at, f_gaps_of, f_changes_in, f_turns_in, f_roots_in]
def P_1 : List Fd := [f_let_form, f_need_growing, f_need_growing_shape, f_need_value, f_is_growing, f_gap_of, f_general_in, f_odd_in, f_short_walk, f_gaps_between, f_alike_in, f_need_both, f_alike_values, f_breaks_of, f_sees_at, f_meeting_values, f_seen_in, f_generally_in, f_need_seen, f_seen_at, f_seen_values, f_seen_generally, f__law_cup, f__law_roll, f__law_some]
def P_2 : List Fd := [f__law_sort, f__law_like, f__law_number, f__law_sizes, f__law_short, f__law_breaks, f__law_shapes, f__law_value, f__law_power, f__law_lean, f__law_form, f__law_times, f__law_growing, f__law_at, f__law_mixed, f__law_shape_for, f__law_sees, f__law_seen_right, f__law_written_right, f_law]
def P : List Fd := P_0 ++ P_1 ++ P_2
def n0 : List Str := ["value"]
def n1 : List Str := ["value", "low", "high"]
def n2 : List Str := ["value", "low", "high"]
def n3 : List Str := ["value", "low", "high"]
def n4 : List Str := ["sizes", "found", "size"]
def n5 : List Str := ["sizes", "size", "found", "product"]
def n6 : List Str := ["pairs", "found", "size", "step"]
def n7 : List Str := ["value", "own"]
def n8 : List Str := ["value"]
def n9 : List Str := ["value", "own", "size"]
def n10 : List Str := ["value", "pair", "size", "step"]
def n11 : List Str := ["row", "most"]
def n12 : List Str := ["one", "other", "most", "first", "second", "own", "far"]
def n13 : List Str := ["form", "number", "own"]
def n14 : List Str := ["form", "size", "found"]
def n15 : List Str := ["form", "m", "found", "own"]
def n16 : List Str := ["size"]
def n17 : List Str := ["size", "m"]
def n18 : List Str := ["sizes", "size"]
def n19 : List Str := ["growing", "m", "begin", "pairs", "size", "step"]
def n20 : List Str := ["form", "m", "found"]
def n21 : List Str := ["form", "own", "found", "line"]
def n22 : List Str := ["form", "low", "high", "found", "here", "same", "other", "middle"]
def n23 : List Str := ["form", "high", "begins", "found", "low", "far", "own"]
def n24 : List Str := ["form", "high", "found", "low", "here", "own"]
def n25 : List Str := ["form"]
def n26 : List Str := ["value"]
def n27 : List Str := ["value"]
def n28 : List Str := ["value"]
def n29 : List Str := ["value"]
def n30 : List Str := ["one", "other"]
def n31 : List Str := ["growing", "pairs", "spots", "at", "both", "pair", "spot"]
def n32 : List Str := ["growing", "pairs", "found", "one", "other", "size", "step"]
def n33 : List Str := ["growing", "m", "begin", "pairs"]
def n34 : List Str := ["one", "other", "found", "size", "step", "far", "more", "own"]
def n35 : List Str := ["one", "other", "spots", "first", "second", "m"]
def n36 : List Str := ["one", "other"]
def n37 : List Str := ["one", "other"]
def n38 : List Str := ["sizes", "at"]
def n39 : List Str := ["growing", "shape", "m", "own", "far", "size", "break_at", "step"]
def n40 : List Str := ["one", "other", "first", "grows", "second", "more"]
def n41 : List Str := ["growing", "shape", "spots", "one", "own", "far", "other", "m", "size", "step"]
def n42 : List Str := ["growing", "shape", "own", "begin", "pairs", "found", "left", "size", "step", "gone"]
def n43 : List Str := ["growing", "shape", "size", "step"]
def n44 : List Str := ["growing", "shape", "m"]
def n45 : List Str := ["growing", "shape"]
def n46 : List Str := ["growing", "shape"]
def n47 : List Str := ["script", "cell"]
def n48 : List Str := ["cup", "many", "deep", "found"]
def n49 : List Str := ["cup", "things"]
def n50 : List Str := ["value"]
def n51 : List Str := ["one", "other", "sort", "first", "second"]
def n52 : List Str := ["sizes", "found", "size"]
def n53 : List Str := ["cup", "most", "found", "turn", "size"]
def n54 : List Str := ["pairs", "found", "turn", "spots", "pair", "at"]
def n55 : List Str := ["sizes", "at"]
def n56 : List Str := ["number", "turn", "found", "rows", "longer", "sizes", "left", "size"]
def n57 : List Str := ["form", "m", "at", "own"]
def n58 : List Str := ["number", "times", "found", "turn"]
def n59 : List Str := ["row", "most", "at", "own"]
def n60 : List Str := ["cup", "most", "at"]
def n61 : List Str := ["form", "size", "own"]
def n62 : List Str := ["cup", "most", "sizes", "pairs", "size", "at", "step", "further"]
def n63 : List Str := ["growing", "m", "pairs", "size", "step"]
def n64 : List Str := ["cup", "things", "turn", "left", "found", "at"]
def n65 : List Str := ["cup", "growing", "sizes", "many", "grows", "kind", "found", "at", "size", "both", "row", "step", "own"]
def n66 : List Str := ["growing", "shape", "m", "sizes", "short", "size", "own", "step"]
def n67 : List Str := ["cup", "growing", "shape", "m", "found", "general", "others", "due", "size", "step"]
def n68 : List Str := ["told", "due", "c", "d", "a", "b"]
def n69 : List Str := ["script", "cup", "turn", "growing"]
def ns_0 : List (List Str) := [n0, n1, n2, n3, n4, n5, n6, n7, n8, n9, n10, n11, n12, n13, n14, n15, n16, n17, n18, n19, n20, n21, n22, n23, n24]
def ns_1 : List (List Str) := [n25, n26, n27, n28, n29, n30, n31, n32, n33, n34, n35, n36, n37, n38, n39, n40, n41, n42, n43, n44, n45, n46, n47, n48, n49]
def ns_2 : List (List Str) := [n50, n51, n52, n53, n54, n55, n56, n57, n58, n59, n60, n61, n62, n63, n64, n65, n66, n67, n68, n69]
def ns : List (List Str) := ns_0 ++ ns_1 ++ ns_2
def tops_0 : List Nat := [7, 8, 9, 10, 14, 15, 16, 21, 22, 23, 24, 25, 26, 27, 28, 29, 30, 31, 32, 33, 34, 35, 36, 37, 38]
def tops_1 : List Nat := [39, 40, 41, 42, 43, 45, 46, 47, 48, 49, 50, 51, 52, 54, 55, 56, 57, 58, 59, 60, 61, 62, 64, 65, 66]
def tops_2 : List Nat := [67, 68, 69, 70, 71, 72, 73, 74, 75, 76, 77, 78, 79, 80, 81, 82, 83, 84, 85, 86]
def tops : List Nat := tops_0 ++ tops_1 ++ tops_2
def fnames_0 : List Str := ["is_integer", "is_number", "need_number", "is_tuple_of", "number_in", "breaks_in", "short_in", "fits_form", "fits_size", "fits_growing_shape", "fits_growing", "lean", "added", "scaled", "sized", "value_of", "size_form", "size_at", "product_of", "walk_in", "sign_at", "gaps_of", "changes_in", "turns_in", "roots_in"]
def fnames_1 : List Str := ["let_form", "need_growing", "need_growing_shape", "need_value", "is_growing", "gap_of", "general_in", "odd_in", "short_walk", "gaps_between", "alike_in", "need_both", "alike_values", "breaks_of", "sees_at", "meeting_values", "seen_in", "generally_in", "need_seen", "seen_at", "seen_values", "seen_generally", "_law_cup", "_law_roll", "_law_some"]
def fnames_2 : List Str := ["_law_sort", "_law_like", "_law_number", "_law_sizes", "_law_short", "_law_breaks", "_law_shapes", "_law_value", "_law_power", "_law_lean", "_law_form", "_law_times", "_law_growing", "_law_at", "_law_mixed", "_law_shape_for", "_law_sees", "_law_seen_right", "_law_written_right", "law"]
def fnames : List Str := fnames_0 ++ fnames_1 ++ fnames_2
def nums_0 : List (Str × Int) := [("MOST_PAIRS", 16), ("MOST_PLACES", 5000), ("MOST_FORM", 4), ("MOST_VALUE", 1000000000)]
def nums : List (Str × Int) := nums_0
def exs_0 : List Str := ["StrideError", "InvalidNumber", "InvalidWalk", "InvalidShape"]
def exs : List Str := exs_0
def tups_0 : List (Str × List Int) := [("PLAIN", [1, 0])]
def tups : List (Str × List Int) := tups_0
def loose_0 : List Str := ["StrideError", "InvalidNumber", "InvalidWalk", "InvalidShape", "TooMany", "is_integer", "is_number", "need_number", "is_tuple_of", "MOST_PAIRS", "MOST_PLACES", "number_in", "breaks_in", "short_in", "MOST_FORM", "MOST_VALUE", "PLAIN", "fits_form", "fits_size", "fits_growing_shape", "fits_growing", "lean", "added", "scaled", "sized"]
def loose_1 : List Str := ["value_of", "size_form", "size_at", "product_of", "walk_in", "sign_at", "gaps_of", "changes_in", "turns_in", "roots_in", "let_form", "need_growing", "need_growing_shape", "need_value", "is_growing", "gap_of", "general_in", "odd_in", "short_walk", "gaps_between", "alike_in", "need_both", "alike_values", "breaks_of", "sees_at"]
def loose_2 : List Str := ["meeting_values", "seen_in", "generally_in", "need_seen", "seen_at", "seen_values", "seen_generally", "_law_cup", "_law_roll", "_law_some", "_law_sort", "_law_like", "_law_number", "_law_sizes", "_law_short", "_law_breaks", "_law_shapes", "_law_value", "_law_power", "_law_lean", "_law_form", "_law_times", "_law_growing", "_law_at", "_law_mixed"]
def loose_3 : List Str := ["_law_shape_for", "_law_sees", "_law_seen_right", "_law_written_right"]
def loose : List Str := loose_0 ++ loose_1 ++ loose_2 ++ loose_3
def nm : Nms := ⟨fnames, nums, exs, tups⟩
end LW
set_option Elab.async false
set_option linter.all false
set_option maxRecDepth 100000
set_option maxHeartbeats 0
namespace LW
open PySem PySem.Spec PyProof.Rows L2 VS
theorem chk : allD P nm prog ns tops = true := by decide +kernel
theorem b0 (kV doc pm : Value) (an : Option Addr) (cdv ct : Value) (us : List Value) (hl : us.length = (n0.take 1).length) :
    bindArgs (PySem.W.fnOf "is_integer" "is_integer" (defArgs (prog.main.body.getD 7 (.Pass ⟨0, 0, 0, 0⟩))) (defBody (prog.main.body.getD 7 (.Pass ⟨0, 0, 0, 0⟩))) (defScope (prog.main.body.getD 7 (.Pass ⟨0, 0, 0, 0⟩))) .none kV doc pm an cdv ct) ⟨us, []⟩ = pure ((n0.take 1).zip us) :=
  match us, hl with
  | [_], _ => rfl
theorem b1 (kV doc pm : Value) (an : Option Addr) (cdv ct : Value) (us : List Value) (hl : us.length = (n1.take 3).length) :
    bindArgs (PySem.W.fnOf "is_number" "is_number" (defArgs (prog.main.body.getD 8 (.Pass ⟨0, 0, 0, 0⟩))) (defBody (prog.main.body.getD 8 (.Pass ⟨0, 0, 0, 0⟩))) (defScope (prog.main.body.getD 8 (.Pass ⟨0, 0, 0, 0⟩))) .none kV doc pm an cdv ct) ⟨us, []⟩ = pure ((n1.take 3).zip us) :=
  match us, hl with
  | [_, _, _], _ => rfl
theorem b2 (kV doc pm : Value) (an : Option Addr) (cdv ct : Value) (us : List Value) (hl : us.length = (n2.take 3).length) :
    bindArgs (PySem.W.fnOf "need_number" "need_number" (defArgs (prog.main.body.getD 9 (.Pass ⟨0, 0, 0, 0⟩))) (defBody (prog.main.body.getD 9 (.Pass ⟨0, 0, 0, 0⟩))) (defScope (prog.main.body.getD 9 (.Pass ⟨0, 0, 0, 0⟩))) .none kV doc pm an cdv ct) ⟨us, []⟩ = pure ((n2.take 3).zip us) :=
  match us, hl with
  | [_, _, _], _ => rfl
theorem b3 (kV doc pm : Value) (an : Option Addr) (cdv ct : Value) (us : List Value) (hl : us.length = (n3.take 3).length) :
    bindArgs (PySem.W.fnOf "is_tuple_of" "is_tuple_of" (defArgs (prog.main.body.getD 10 (.Pass ⟨0, 0, 0, 0⟩))) (defBody (prog.main.body.getD 10 (.Pass ⟨0, 0, 0, 0⟩))) (defScope (prog.main.body.getD 10 (.Pass ⟨0, 0, 0, 0⟩))) .none kV doc pm an cdv ct) ⟨us, []⟩ = pure ((n3.take 3).zip us) :=
  match us, hl with
  | [_, _, _], _ => rfl
theorem b4 (kV doc pm : Value) (an : Option Addr) (cdv ct : Value) (us : List Value) (hl : us.length = (n4.take 1).length) :
    bindArgs (PySem.W.fnOf "number_in" "number_in" (defArgs (prog.main.body.getD 14 (.Pass ⟨0, 0, 0, 0⟩))) (defBody (prog.main.body.getD 14 (.Pass ⟨0, 0, 0, 0⟩))) (defScope (prog.main.body.getD 14 (.Pass ⟨0, 0, 0, 0⟩))) .none kV doc pm an cdv ct) ⟨us, []⟩ = pure ((n4.take 1).zip us) :=
  match us, hl with
  | [_], _ => rfl
theorem b5 (kV doc pm : Value) (an : Option Addr) (cdv ct : Value) (us : List Value) (hl : us.length = (n5.take 1).length) :
    bindArgs (PySem.W.fnOf "breaks_in" "breaks_in" (defArgs (prog.main.body.getD 15 (.Pass ⟨0, 0, 0, 0⟩))) (defBody (prog.main.body.getD 15 (.Pass ⟨0, 0, 0, 0⟩))) (defScope (prog.main.body.getD 15 (.Pass ⟨0, 0, 0, 0⟩))) .none kV doc pm an cdv ct) ⟨us, []⟩ = pure ((n5.take 1).zip us) :=
  match us, hl with
  | [_], _ => rfl
theorem b6 (kV doc pm : Value) (an : Option Addr) (cdv ct : Value) (us : List Value) (hl : us.length = (n6.take 1).length) :
    bindArgs (PySem.W.fnOf "short_in" "short_in" (defArgs (prog.main.body.getD 16 (.Pass ⟨0, 0, 0, 0⟩))) (defBody (prog.main.body.getD 16 (.Pass ⟨0, 0, 0, 0⟩))) (defScope (prog.main.body.getD 16 (.Pass ⟨0, 0, 0, 0⟩))) .none kV doc pm an cdv ct) ⟨us, []⟩ = pure ((n6.take 1).zip us) :=
  match us, hl with
  | [_], _ => rfl
theorem b7 (kV doc pm : Value) (an : Option Addr) (cdv ct : Value) (us : List Value) (hl : us.length = (n7.take 1).length) :
    bindArgs (PySem.W.fnOf "fits_form" "fits_form" (defArgs (prog.main.body.getD 21 (.Pass ⟨0, 0, 0, 0⟩))) (defBody (prog.main.body.getD 21 (.Pass ⟨0, 0, 0, 0⟩))) (defScope (prog.main.body.getD 21 (.Pass ⟨0, 0, 0, 0⟩))) .none kV doc pm an cdv ct) ⟨us, []⟩ = pure ((n7.take 1).zip us) :=
  match us, hl with
  | [_], _ => rfl
theorem b8 (kV doc pm : Value) (an : Option Addr) (cdv ct : Value) (us : List Value) (hl : us.length = (n8.take 1).length) :
    bindArgs (PySem.W.fnOf "fits_size" "fits_size" (defArgs (prog.main.body.getD 22 (.Pass ⟨0, 0, 0, 0⟩))) (defBody (prog.main.body.getD 22 (.Pass ⟨0, 0, 0, 0⟩))) (defScope (prog.main.body.getD 22 (.Pass ⟨0, 0, 0, 0⟩))) .none kV doc pm an cdv ct) ⟨us, []⟩ = pure ((n8.take 1).zip us) :=
  match us, hl with
  | [_], _ => rfl
theorem b9 (kV doc pm : Value) (an : Option Addr) (cdv ct : Value) (us : List Value) (hl : us.length = (n9.take 1).length) :
    bindArgs (PySem.W.fnOf "fits_growing_shape" "fits_growing_shape" (defArgs (prog.main.body.getD 23 (.Pass ⟨0, 0, 0, 0⟩))) (defBody (prog.main.body.getD 23 (.Pass ⟨0, 0, 0, 0⟩))) (defScope (prog.main.body.getD 23 (.Pass ⟨0, 0, 0, 0⟩))) .none kV doc pm an cdv ct) ⟨us, []⟩ = pure ((n9.take 1).zip us) :=
  match us, hl with
  | [_], _ => rfl
theorem b10 (kV doc pm : Value) (an : Option Addr) (cdv ct : Value) (us : List Value) (hl : us.length = (n10.take 1).length) :
    bindArgs (PySem.W.fnOf "fits_growing" "fits_growing" (defArgs (prog.main.body.getD 24 (.Pass ⟨0, 0, 0, 0⟩))) (defBody (prog.main.body.getD 24 (.Pass ⟨0, 0, 0, 0⟩))) (defScope (prog.main.body.getD 24 (.Pass ⟨0, 0, 0, 0⟩))) .none kV doc pm an cdv ct) ⟨us, []⟩ = pure ((n10.take 1).zip us) :=
  match us, hl with
  | [_], _ => rfl
theorem b11 (kV doc pm : Value) (an : Option Addr) (cdv ct : Value) (us : List Value) (hl : us.length = (n11.take 1).length) :
    bindArgs (PySem.W.fnOf "lean" "lean" (defArgs (prog.main.body.getD 25 (.Pass ⟨0, 0, 0, 0⟩))) (defBody (prog.main.body.getD 25 (.Pass ⟨0, 0, 0, 0⟩))) (defScope (prog.main.body.getD 25 (.Pass ⟨0, 0, 0, 0⟩))) .none kV doc pm an cdv ct) ⟨us, []⟩ = pure ((n11.take 1).zip us) :=
  match us, hl with
  | [_], _ => rfl
theorem b12 (kV doc pm : Value) (an : Option Addr) (cdv ct : Value) (us : List Value) (hl : us.length = (n12.take 2).length) :
    bindArgs (PySem.W.fnOf "added" "added" (defArgs (prog.main.body.getD 26 (.Pass ⟨0, 0, 0, 0⟩))) (defBody (prog.main.body.getD 26 (.Pass ⟨0, 0, 0, 0⟩))) (defScope (prog.main.body.getD 26 (.Pass ⟨0, 0, 0, 0⟩))) .none kV doc pm an cdv ct) ⟨us, []⟩ = pure ((n12.take 2).zip us) :=
  match us, hl with
  | [_, _], _ => rfl
theorem b13 (kV doc pm : Value) (an : Option Addr) (cdv ct : Value) (us : List Value) (hl : us.length = (n13.take 2).length) :
    bindArgs (PySem.W.fnOf "scaled" "scaled" (defArgs (prog.main.body.getD 27 (.Pass ⟨0, 0, 0, 0⟩))) (defBody (prog.main.body.getD 27 (.Pass ⟨0, 0, 0, 0⟩))) (defScope (prog.main.body.getD 27 (.Pass ⟨0, 0, 0, 0⟩))) .none kV doc pm an cdv ct) ⟨us, []⟩ = pure ((n13.take 2).zip us) :=
  match us, hl with
  | [_, _], _ => rfl
theorem b14 (kV doc pm : Value) (an : Option Addr) (cdv ct : Value) (us : List Value) (hl : us.length = (n14.take 2).length) :
    bindArgs (PySem.W.fnOf "sized" "sized" (defArgs (prog.main.body.getD 28 (.Pass ⟨0, 0, 0, 0⟩))) (defBody (prog.main.body.getD 28 (.Pass ⟨0, 0, 0, 0⟩))) (defScope (prog.main.body.getD 28 (.Pass ⟨0, 0, 0, 0⟩))) .none kV doc pm an cdv ct) ⟨us, []⟩ = pure ((n14.take 2).zip us) :=
  match us, hl with
  | [_, _], _ => rfl
theorem b15 (kV doc pm : Value) (an : Option Addr) (cdv ct : Value) (us : List Value) (hl : us.length = (n15.take 2).length) :
    bindArgs (PySem.W.fnOf "value_of" "value_of" (defArgs (prog.main.body.getD 29 (.Pass ⟨0, 0, 0, 0⟩))) (defBody (prog.main.body.getD 29 (.Pass ⟨0, 0, 0, 0⟩))) (defScope (prog.main.body.getD 29 (.Pass ⟨0, 0, 0, 0⟩))) .none kV doc pm an cdv ct) ⟨us, []⟩ = pure ((n15.take 2).zip us) :=
  match us, hl with
  | [_, _], _ => rfl
theorem b16 (kV doc pm : Value) (an : Option Addr) (cdv ct : Value) (us : List Value) (hl : us.length = (n16.take 1).length) :
    bindArgs (PySem.W.fnOf "size_form" "size_form" (defArgs (prog.main.body.getD 30 (.Pass ⟨0, 0, 0, 0⟩))) (defBody (prog.main.body.getD 30 (.Pass ⟨0, 0, 0, 0⟩))) (defScope (prog.main.body.getD 30 (.Pass ⟨0, 0, 0, 0⟩))) .none kV doc pm an cdv ct) ⟨us, []⟩ = pure ((n16.take 1).zip us) :=
  match us, hl with
  | [_], _ => rfl
theorem b17 (kV doc pm : Value) (an : Option Addr) (cdv ct : Value) (us : List Value) (hl : us.length = (n17.take 2).length) :
    bindArgs (PySem.W.fnOf "size_at" "size_at" (defArgs (prog.main.body.getD 31 (.Pass ⟨0, 0, 0, 0⟩))) (defBody (prog.main.body.getD 31 (.Pass ⟨0, 0, 0, 0⟩))) (defScope (prog.main.body.getD 31 (.Pass ⟨0, 0, 0, 0⟩))) .none kV doc pm an cdv ct) ⟨us, []⟩ = pure ((n17.take 2).zip us) :=
  match us, hl with
  | [_, _], _ => rfl
theorem b18 (kV doc pm : Value) (an : Option Addr) (cdv ct : Value) (us : List Value) (hl : us.length = (n18.take 1).length) :
    bindArgs (PySem.W.fnOf "product_of" "product_of" (defArgs (prog.main.body.getD 32 (.Pass ⟨0, 0, 0, 0⟩))) (defBody (prog.main.body.getD 32 (.Pass ⟨0, 0, 0, 0⟩))) (defScope (prog.main.body.getD 32 (.Pass ⟨0, 0, 0, 0⟩))) .none kV doc pm an cdv ct) ⟨us, []⟩ = pure ((n18.take 1).zip us) :=
  match us, hl with
  | [_], _ => rfl
theorem b19 (kV doc pm : Value) (an : Option Addr) (cdv ct : Value) (us : List Value) (hl : us.length = (n19.take 2).length) :
    bindArgs (PySem.W.fnOf "walk_in" "walk_in" (defArgs (prog.main.body.getD 33 (.Pass ⟨0, 0, 0, 0⟩))) (defBody (prog.main.body.getD 33 (.Pass ⟨0, 0, 0, 0⟩))) (defScope (prog.main.body.getD 33 (.Pass ⟨0, 0, 0, 0⟩))) .none kV doc pm an cdv ct) ⟨us, []⟩ = pure ((n19.take 2).zip us) :=
  match us, hl with
  | [_, _], _ => rfl
theorem b20 (kV doc pm : Value) (an : Option Addr) (cdv ct : Value) (us : List Value) (hl : us.length = (n20.take 2).length) :
    bindArgs (PySem.W.fnOf "sign_at" "sign_at" (defArgs (prog.main.body.getD 34 (.Pass ⟨0, 0, 0, 0⟩))) (defBody (prog.main.body.getD 34 (.Pass ⟨0, 0, 0, 0⟩))) (defScope (prog.main.body.getD 34 (.Pass ⟨0, 0, 0, 0⟩))) .none kV doc pm an cdv ct) ⟨us, []⟩ = pure ((n20.take 2).zip us) :=
  match us, hl with
  | [_, _], _ => rfl
theorem b21 (kV doc pm : Value) (an : Option Addr) (cdv ct : Value) (us : List Value) (hl : us.length = (n21.take 1).length) :
    bindArgs (PySem.W.fnOf "gaps_of" "gaps_of" (defArgs (prog.main.body.getD 35 (.Pass ⟨0, 0, 0, 0⟩))) (defBody (prog.main.body.getD 35 (.Pass ⟨0, 0, 0, 0⟩))) (defScope (prog.main.body.getD 35 (.Pass ⟨0, 0, 0, 0⟩))) .none kV doc pm an cdv ct) ⟨us, []⟩ = pure ((n21.take 1).zip us) :=
  match us, hl with
  | [_], _ => rfl
theorem b22 (kV doc pm : Value) (an : Option Addr) (cdv ct : Value) (us : List Value) (hl : us.length = (n22.take 3).length) :
    bindArgs (PySem.W.fnOf "changes_in" "changes_in" (defArgs (prog.main.body.getD 36 (.Pass ⟨0, 0, 0, 0⟩))) (defBody (prog.main.body.getD 36 (.Pass ⟨0, 0, 0, 0⟩))) (defScope (prog.main.body.getD 36 (.Pass ⟨0, 0, 0, 0⟩))) .none kV doc pm an cdv ct) ⟨us, []⟩ = pure ((n22.take 3).zip us) :=
  match us, hl with
  | [_, _, _], _ => rfl
theorem b23 (kV doc pm : Value) (an : Option Addr) (cdv ct : Value) (us : List Value) (hl : us.length = (n23.take 2).length) :
    bindArgs (PySem.W.fnOf "turns_in" "turns_in" (defArgs (prog.main.body.getD 37 (.Pass ⟨0, 0, 0, 0⟩))) (defBody (prog.main.body.getD 37 (.Pass ⟨0, 0, 0, 0⟩))) (defScope (prog.main.body.getD 37 (.Pass ⟨0, 0, 0, 0⟩))) .none kV doc pm an cdv ct) ⟨us, []⟩ = pure ((n23.take 2).zip us) :=
  match us, hl with
  | [_, _], _ => rfl
theorem b24 (kV doc pm : Value) (an : Option Addr) (cdv ct : Value) (us : List Value) (hl : us.length = (n24.take 1).length) :
    bindArgs (PySem.W.fnOf "roots_in" "roots_in" (defArgs (prog.main.body.getD 38 (.Pass ⟨0, 0, 0, 0⟩))) (defBody (prog.main.body.getD 38 (.Pass ⟨0, 0, 0, 0⟩))) (defScope (prog.main.body.getD 38 (.Pass ⟨0, 0, 0, 0⟩))) .none kV doc pm an cdv ct) ⟨us, []⟩ = pure ((n24.take 1).zip us) :=
  match us, hl with
  | [_], _ => rfl
theorem b25 (kV doc pm : Value) (an : Option Addr) (cdv ct : Value) (us : List Value) (hl : us.length = (n25.take 1).length) :
    bindArgs (PySem.W.fnOf "let_form" "let_form" (defArgs (prog.main.body.getD 39 (.Pass ⟨0, 0, 0, 0⟩))) (defBody (prog.main.body.getD 39 (.Pass ⟨0, 0, 0, 0⟩))) (defScope (prog.main.body.getD 39 (.Pass ⟨0, 0, 0, 0⟩))) .none kV doc pm an cdv ct) ⟨us, []⟩ = pure ((n25.take 1).zip us) :=
  match us, hl with
  | [_], _ => rfl
theorem b26 (kV doc pm : Value) (an : Option Addr) (cdv ct : Value) (us : List Value) (hl : us.length = (n26.take 1).length) :
    bindArgs (PySem.W.fnOf "need_growing" "need_growing" (defArgs (prog.main.body.getD 40 (.Pass ⟨0, 0, 0, 0⟩))) (defBody (prog.main.body.getD 40 (.Pass ⟨0, 0, 0, 0⟩))) (defScope (prog.main.body.getD 40 (.Pass ⟨0, 0, 0, 0⟩))) .none kV doc pm an cdv ct) ⟨us, []⟩ = pure ((n26.take 1).zip us) :=
  match us, hl with
  | [_], _ => rfl
theorem b27 (kV doc pm : Value) (an : Option Addr) (cdv ct : Value) (us : List Value) (hl : us.length = (n27.take 1).length) :
    bindArgs (PySem.W.fnOf "need_growing_shape" "need_growing_shape" (defArgs (prog.main.body.getD 41 (.Pass ⟨0, 0, 0, 0⟩))) (defBody (prog.main.body.getD 41 (.Pass ⟨0, 0, 0, 0⟩))) (defScope (prog.main.body.getD 41 (.Pass ⟨0, 0, 0, 0⟩))) .none kV doc pm an cdv ct) ⟨us, []⟩ = pure ((n27.take 1).zip us) :=
  match us, hl with
  | [_], _ => rfl
theorem b28 (kV doc pm : Value) (an : Option Addr) (cdv ct : Value) (us : List Value) (hl : us.length = (n28.take 1).length) :
    bindArgs (PySem.W.fnOf "need_value" "need_value" (defArgs (prog.main.body.getD 42 (.Pass ⟨0, 0, 0, 0⟩))) (defBody (prog.main.body.getD 42 (.Pass ⟨0, 0, 0, 0⟩))) (defScope (prog.main.body.getD 42 (.Pass ⟨0, 0, 0, 0⟩))) .none kV doc pm an cdv ct) ⟨us, []⟩ = pure ((n28.take 1).zip us) :=
  match us, hl with
  | [_], _ => rfl
theorem b29 (kV doc pm : Value) (an : Option Addr) (cdv ct : Value) (us : List Value) (hl : us.length = (n29.take 1).length) :
    bindArgs (PySem.W.fnOf "is_growing" "is_growing" (defArgs (prog.main.body.getD 43 (.Pass ⟨0, 0, 0, 0⟩))) (defBody (prog.main.body.getD 43 (.Pass ⟨0, 0, 0, 0⟩))) (defScope (prog.main.body.getD 43 (.Pass ⟨0, 0, 0, 0⟩))) .none kV doc pm an cdv ct) ⟨us, []⟩ = pure ((n29.take 1).zip us) :=
  match us, hl with
  | [_], _ => rfl
theorem b30 (kV doc pm : Value) (an : Option Addr) (cdv ct : Value) (us : List Value) (hl : us.length = (n30.take 2).length) :
    bindArgs (PySem.W.fnOf "gap_of" "gap_of" (defArgs (prog.main.body.getD 45 (.Pass ⟨0, 0, 0, 0⟩))) (defBody (prog.main.body.getD 45 (.Pass ⟨0, 0, 0, 0⟩))) (defScope (prog.main.body.getD 45 (.Pass ⟨0, 0, 0, 0⟩))) .none kV doc pm an cdv ct) ⟨us, []⟩ = pure ((n30.take 2).zip us) :=
  match us, hl with
  | [_, _], _ => rfl
theorem b31 (kV doc pm : Value) (an : Option Addr) (cdv ct : Value) (us : List Value) (hl : us.length = (n31.take 1).length) :
    bindArgs (PySem.W.fnOf "general_in" "general_in" (defArgs (prog.main.body.getD 46 (.Pass ⟨0, 0, 0, 0⟩))) (defBody (prog.main.body.getD 46 (.Pass ⟨0, 0, 0, 0⟩))) (defScope (prog.main.body.getD 46 (.Pass ⟨0, 0, 0, 0⟩))) .none kV doc pm an cdv ct) ⟨us, []⟩ = pure ((n31.take 1).zip us) :=
  match us, hl with
  | [_], _ => rfl
theorem b32 (kV doc pm : Value) (an : Option Addr) (cdv ct : Value) (us : List Value) (hl : us.length = (n32.take 1).length) :
    bindArgs (PySem.W.fnOf "odd_in" "odd_in" (defArgs (prog.main.body.getD 47 (.Pass ⟨0, 0, 0, 0⟩))) (defBody (prog.main.body.getD 47 (.Pass ⟨0, 0, 0, 0⟩))) (defScope (prog.main.body.getD 47 (.Pass ⟨0, 0, 0, 0⟩))) .none kV doc pm an cdv ct) ⟨us, []⟩ = pure ((n32.take 1).zip us) :=
  match us, hl with
  | [_], _ => rfl
theorem b33 (kV doc pm : Value) (an : Option Addr) (cdv ct : Value) (us : List Value) (hl : us.length = (n33.take 2).length) :
    bindArgs (PySem.W.fnOf "short_walk" "short_walk" (defArgs (prog.main.body.getD 48 (.Pass ⟨0, 0, 0, 0⟩))) (defBody (prog.main.body.getD 48 (.Pass ⟨0, 0, 0, 0⟩))) (defScope (prog.main.body.getD 48 (.Pass ⟨0, 0, 0, 0⟩))) .none kV doc pm an cdv ct) ⟨us, []⟩ = pure ((n33.take 2).zip us) :=
  match us, hl with
  | [_, _], _ => rfl
theorem b34 (kV doc pm : Value) (an : Option Addr) (cdv ct : Value) (us : List Value) (hl : us.length = (n34.take 2).length) :
    bindArgs (PySem.W.fnOf "gaps_between" "gaps_between" (defArgs (prog.main.body.getD 49 (.Pass ⟨0, 0, 0, 0⟩))) (defBody (prog.main.body.getD 49 (.Pass ⟨0, 0, 0, 0⟩))) (defScope (prog.main.body.getD 49 (.Pass ⟨0, 0, 0, 0⟩))) .none kV doc pm an cdv ct) ⟨us, []⟩ = pure ((n34.take 2).zip us) :=
  match us, hl with
  | [_, _], _ => rfl
theorem b35 (kV doc pm : Value) (an : Option Addr) (cdv ct : Value) (us : List Value) (hl : us.length = (n35.take 2).length) :
    bindArgs (PySem.W.fnOf "alike_in" "alike_in" (defArgs (prog.main.body.getD 50 (.Pass ⟨0, 0, 0, 0⟩))) (defBody (prog.main.body.getD 50 (.Pass ⟨0, 0, 0, 0⟩))) (defScope (prog.main.body.getD 50 (.Pass ⟨0, 0, 0, 0⟩))) .none kV doc pm an cdv ct) ⟨us, []⟩ = pure ((n35.take 2).zip us) :=
  match us, hl with
  | [_, _], _ => rfl
theorem b36 (kV doc pm : Value) (an : Option Addr) (cdv ct : Value) (us : List Value) (hl : us.length = (n36.take 2).length) :
    bindArgs (PySem.W.fnOf "need_both" "need_both" (defArgs (prog.main.body.getD 51 (.Pass ⟨0, 0, 0, 0⟩))) (defBody (prog.main.body.getD 51 (.Pass ⟨0, 0, 0, 0⟩))) (defScope (prog.main.body.getD 51 (.Pass ⟨0, 0, 0, 0⟩))) .none kV doc pm an cdv ct) ⟨us, []⟩ = pure ((n36.take 2).zip us) :=
  match us, hl with
  | [_, _], _ => rfl
theorem b37 (kV doc pm : Value) (an : Option Addr) (cdv ct : Value) (us : List Value) (hl : us.length = (n37.take 2).length) :
    bindArgs (PySem.W.fnOf "alike_values" "alike_values" (defArgs (prog.main.body.getD 52 (.Pass ⟨0, 0, 0, 0⟩))) (defBody (prog.main.body.getD 52 (.Pass ⟨0, 0, 0, 0⟩))) (defScope (prog.main.body.getD 52 (.Pass ⟨0, 0, 0, 0⟩))) .none kV doc pm an cdv ct) ⟨us, []⟩ = pure ((n37.take 2).zip us) :=
  match us, hl with
  | [_, _], _ => rfl
theorem b38 (kV doc pm : Value) (an : Option Addr) (cdv ct : Value) (us : List Value) (hl : us.length = (n38.take 1).length) :
    bindArgs (PySem.W.fnOf "breaks_of" "breaks_of" (defArgs (prog.main.body.getD 54 (.Pass ⟨0, 0, 0, 0⟩))) (defBody (prog.main.body.getD 54 (.Pass ⟨0, 0, 0, 0⟩))) (defScope (prog.main.body.getD 54 (.Pass ⟨0, 0, 0, 0⟩))) .none kV doc pm an cdv ct) ⟨us, []⟩ = pure ((n38.take 1).zip us) :=
  match us, hl with
  | [_], _ => rfl
theorem b39 (kV doc pm : Value) (an : Option Addr) (cdv ct : Value) (us : List Value) (hl : us.length = (n39.take 3).length) :
    bindArgs (PySem.W.fnOf "sees_at" "sees_at" (defArgs (prog.main.body.getD 55 (.Pass ⟨0, 0, 0, 0⟩))) (defBody (prog.main.body.getD 55 (.Pass ⟨0, 0, 0, 0⟩))) (defScope (prog.main.body.getD 55 (.Pass ⟨0, 0, 0, 0⟩))) .none kV doc pm an cdv ct) ⟨us, []⟩ = pure ((n39.take 3).zip us) :=
  match us, hl with
  | [_, _, _], _ => rfl
theorem b40 (kV doc pm : Value) (an : Option Addr) (cdv ct : Value) (us : List Value) (hl : us.length = (n40.take 2).length) :
    bindArgs (PySem.W.fnOf "meeting_values" "meeting_values" (defArgs (prog.main.body.getD 56 (.Pass ⟨0, 0, 0, 0⟩))) (defBody (prog.main.body.getD 56 (.Pass ⟨0, 0, 0, 0⟩))) (defScope (prog.main.body.getD 56 (.Pass ⟨0, 0, 0, 0⟩))) .none kV doc pm an cdv ct) ⟨us, []⟩ = pure ((n40.take 2).zip us) :=
  match us, hl with
  | [_, _], _ => rfl
theorem b41 (kV doc pm : Value) (an : Option Addr) (cdv ct : Value) (us : List Value) (hl : us.length = (n41.take 2).length) :
    bindArgs (PySem.W.fnOf "seen_in" "seen_in" (defArgs (prog.main.body.getD 57 (.Pass ⟨0, 0, 0, 0⟩))) (defBody (prog.main.body.getD 57 (.Pass ⟨0, 0, 0, 0⟩))) (defScope (prog.main.body.getD 57 (.Pass ⟨0, 0, 0, 0⟩))) .none kV doc pm an cdv ct) ⟨us, []⟩ = pure ((n41.take 2).zip us) :=
  match us, hl with
  | [_, _], _ => rfl
theorem b42 (kV doc pm : Value) (an : Option Addr) (cdv ct : Value) (us : List Value) (hl : us.length = (n42.take 2).length) :
    bindArgs (PySem.W.fnOf "generally_in" "generally_in" (defArgs (prog.main.body.getD 58 (.Pass ⟨0, 0, 0, 0⟩))) (defBody (prog.main.body.getD 58 (.Pass ⟨0, 0, 0, 0⟩))) (defScope (prog.main.body.getD 58 (.Pass ⟨0, 0, 0, 0⟩))) .none kV doc pm an cdv ct) ⟨us, []⟩ = pure ((n42.take 2).zip us) :=
  match us, hl with
  | [_, _], _ => rfl
theorem b43 (kV doc pm : Value) (an : Option Addr) (cdv ct : Value) (us : List Value) (hl : us.length = (n43.take 2).length) :
    bindArgs (PySem.W.fnOf "need_seen" "need_seen" (defArgs (prog.main.body.getD 59 (.Pass ⟨0, 0, 0, 0⟩))) (defBody (prog.main.body.getD 59 (.Pass ⟨0, 0, 0, 0⟩))) (defScope (prog.main.body.getD 59 (.Pass ⟨0, 0, 0, 0⟩))) .none kV doc pm an cdv ct) ⟨us, []⟩ = pure ((n43.take 2).zip us) :=
  match us, hl with
  | [_, _], _ => rfl
theorem b44 (kV doc pm : Value) (an : Option Addr) (cdv ct : Value) (us : List Value) (hl : us.length = (n44.take 3).length) :
    bindArgs (PySem.W.fnOf "seen_at" "seen_at" (defArgs (prog.main.body.getD 60 (.Pass ⟨0, 0, 0, 0⟩))) (defBody (prog.main.body.getD 60 (.Pass ⟨0, 0, 0, 0⟩))) (defScope (prog.main.body.getD 60 (.Pass ⟨0, 0, 0, 0⟩))) .none kV doc pm an cdv ct) ⟨us, []⟩ = pure ((n44.take 3).zip us) :=
  match us, hl with
  | [_, _, _], _ => rfl
theorem b45 (kV doc pm : Value) (an : Option Addr) (cdv ct : Value) (us : List Value) (hl : us.length = (n45.take 2).length) :
    bindArgs (PySem.W.fnOf "seen_values" "seen_values" (defArgs (prog.main.body.getD 61 (.Pass ⟨0, 0, 0, 0⟩))) (defBody (prog.main.body.getD 61 (.Pass ⟨0, 0, 0, 0⟩))) (defScope (prog.main.body.getD 61 (.Pass ⟨0, 0, 0, 0⟩))) .none kV doc pm an cdv ct) ⟨us, []⟩ = pure ((n45.take 2).zip us) :=
  match us, hl with
  | [_, _], _ => rfl
theorem b46 (kV doc pm : Value) (an : Option Addr) (cdv ct : Value) (us : List Value) (hl : us.length = (n46.take 2).length) :
    bindArgs (PySem.W.fnOf "seen_generally" "seen_generally" (defArgs (prog.main.body.getD 62 (.Pass ⟨0, 0, 0, 0⟩))) (defBody (prog.main.body.getD 62 (.Pass ⟨0, 0, 0, 0⟩))) (defScope (prog.main.body.getD 62 (.Pass ⟨0, 0, 0, 0⟩))) .none kV doc pm an cdv ct) ⟨us, []⟩ = pure ((n46.take 2).zip us) :=
  match us, hl with
  | [_, _], _ => rfl
theorem b47 (kV doc pm : Value) (an : Option Addr) (cdv ct : Value) (us : List Value) (hl : us.length = (n47.take 1).length) :
    bindArgs (PySem.W.fnOf "_law_cup" "_law_cup" (defArgs (prog.main.body.getD 64 (.Pass ⟨0, 0, 0, 0⟩))) (defBody (prog.main.body.getD 64 (.Pass ⟨0, 0, 0, 0⟩))) (defScope (prog.main.body.getD 64 (.Pass ⟨0, 0, 0, 0⟩))) .none kV doc pm an cdv ct) ⟨us, []⟩ = pure ((n47.take 1).zip us) :=
  match us, hl with
  | [_], _ => rfl
theorem b48 (kV doc pm : Value) (an : Option Addr) (cdv ct : Value) (us : List Value) (hl : us.length = (n48.take 2).length) :
    bindArgs (PySem.W.fnOf "_law_roll" "_law_roll" (defArgs (prog.main.body.getD 65 (.Pass ⟨0, 0, 0, 0⟩))) (defBody (prog.main.body.getD 65 (.Pass ⟨0, 0, 0, 0⟩))) (defScope (prog.main.body.getD 65 (.Pass ⟨0, 0, 0, 0⟩))) .none kV doc pm an cdv ct) ⟨us, []⟩ = pure ((n48.take 2).zip us) :=
  match us, hl with
  | [_, _], _ => rfl
theorem b49 (kV doc pm : Value) (an : Option Addr) (cdv ct : Value) (us : List Value) (hl : us.length = (n49.take 2).length) :
    bindArgs (PySem.W.fnOf "_law_some" "_law_some" (defArgs (prog.main.body.getD 66 (.Pass ⟨0, 0, 0, 0⟩))) (defBody (prog.main.body.getD 66 (.Pass ⟨0, 0, 0, 0⟩))) (defScope (prog.main.body.getD 66 (.Pass ⟨0, 0, 0, 0⟩))) .none kV doc pm an cdv ct) ⟨us, []⟩ = pure ((n49.take 2).zip us) :=
  match us, hl with
  | [_, _], _ => rfl
theorem b50 (kV doc pm : Value) (an : Option Addr) (cdv ct : Value) (us : List Value) (hl : us.length = (n50.take 1).length) :
    bindArgs (PySem.W.fnOf "_law_sort" "_law_sort" (defArgs (prog.main.body.getD 67 (.Pass ⟨0, 0, 0, 0⟩))) (defBody (prog.main.body.getD 67 (.Pass ⟨0, 0, 0, 0⟩))) (defScope (prog.main.body.getD 67 (.Pass ⟨0, 0, 0, 0⟩))) .none kV doc pm an cdv ct) ⟨us, []⟩ = pure ((n50.take 1).zip us) :=
  match us, hl with
  | [_], _ => rfl
theorem b51 (kV doc pm : Value) (an : Option Addr) (cdv ct : Value) (us : List Value) (hl : us.length = (n51.take 2).length) :
    bindArgs (PySem.W.fnOf "_law_like" "_law_like" (defArgs (prog.main.body.getD 68 (.Pass ⟨0, 0, 0, 0⟩))) (defBody (prog.main.body.getD 68 (.Pass ⟨0, 0, 0, 0⟩))) (defScope (prog.main.body.getD 68 (.Pass ⟨0, 0, 0, 0⟩))) .none kV doc pm an cdv ct) ⟨us, []⟩ = pure ((n51.take 2).zip us) :=
  match us, hl with
  | [_, _], _ => rfl
theorem b52 (kV doc pm : Value) (an : Option Addr) (cdv ct : Value) (us : List Value) (hl : us.length = (n52.take 1).length) :
    bindArgs (PySem.W.fnOf "_law_number" "_law_number" (defArgs (prog.main.body.getD 69 (.Pass ⟨0, 0, 0, 0⟩))) (defBody (prog.main.body.getD 69 (.Pass ⟨0, 0, 0, 0⟩))) (defScope (prog.main.body.getD 69 (.Pass ⟨0, 0, 0, 0⟩))) .none kV doc pm an cdv ct) ⟨us, []⟩ = pure ((n52.take 1).zip us) :=
  match us, hl with
  | [_], _ => rfl
theorem b53 (kV doc pm : Value) (an : Option Addr) (cdv ct : Value) (us : List Value) (hl : us.length = (n53.take 2).length) :
    bindArgs (PySem.W.fnOf "_law_sizes" "_law_sizes" (defArgs (prog.main.body.getD 70 (.Pass ⟨0, 0, 0, 0⟩))) (defBody (prog.main.body.getD 70 (.Pass ⟨0, 0, 0, 0⟩))) (defScope (prog.main.body.getD 70 (.Pass ⟨0, 0, 0, 0⟩))) .none kV doc pm an cdv ct) ⟨us, []⟩ = pure ((n53.take 2).zip us) :=
  match us, hl with
  | [_, _], _ => rfl
theorem b54 (kV doc pm : Value) (an : Option Addr) (cdv ct : Value) (us : List Value) (hl : us.length = (n54.take 1).length) :
    bindArgs (PySem.W.fnOf "_law_short" "_law_short" (defArgs (prog.main.body.getD 71 (.Pass ⟨0, 0, 0, 0⟩))) (defBody (prog.main.body.getD 71 (.Pass ⟨0, 0, 0, 0⟩))) (defScope (prog.main.body.getD 71 (.Pass ⟨0, 0, 0, 0⟩))) .none kV doc pm an cdv ct) ⟨us, []⟩ = pure ((n54.take 1).zip us) :=
  match us, hl with
  | [_], _ => rfl
theorem b55 (kV doc pm : Value) (an : Option Addr) (cdv ct : Value) (us : List Value) (hl : us.length = (n55.take 1).length) :
    bindArgs (PySem.W.fnOf "_law_breaks" "_law_breaks" (defArgs (prog.main.body.getD 72 (.Pass ⟨0, 0, 0, 0⟩))) (defBody (prog.main.body.getD 72 (.Pass ⟨0, 0, 0, 0⟩))) (defScope (prog.main.body.getD 72 (.Pass ⟨0, 0, 0, 0⟩))) .none kV doc pm an cdv ct) ⟨us, []⟩ = pure ((n55.take 1).zip us) :=
  match us, hl with
  | [_], _ => rfl
theorem b56 (kV doc pm : Value) (an : Option Addr) (cdv ct : Value) (us : List Value) (hl : us.length = (n56.take 1).length) :
    bindArgs (PySem.W.fnOf "_law_shapes" "_law_shapes" (defArgs (prog.main.body.getD 73 (.Pass ⟨0, 0, 0, 0⟩))) (defBody (prog.main.body.getD 73 (.Pass ⟨0, 0, 0, 0⟩))) (defScope (prog.main.body.getD 73 (.Pass ⟨0, 0, 0, 0⟩))) .none kV doc pm an cdv ct) ⟨us, []⟩ = pure ((n56.take 1).zip us) :=
  match us, hl with
  | [_], _ => rfl
theorem b57 (kV doc pm : Value) (an : Option Addr) (cdv ct : Value) (us : List Value) (hl : us.length = (n57.take 2).length) :
    bindArgs (PySem.W.fnOf "_law_value" "_law_value" (defArgs (prog.main.body.getD 74 (.Pass ⟨0, 0, 0, 0⟩))) (defBody (prog.main.body.getD 74 (.Pass ⟨0, 0, 0, 0⟩))) (defScope (prog.main.body.getD 74 (.Pass ⟨0, 0, 0, 0⟩))) .none kV doc pm an cdv ct) ⟨us, []⟩ = pure ((n57.take 2).zip us) :=
  match us, hl with
  | [_, _], _ => rfl
theorem b58 (kV doc pm : Value) (an : Option Addr) (cdv ct : Value) (us : List Value) (hl : us.length = (n58.take 2).length) :
    bindArgs (PySem.W.fnOf "_law_power" "_law_power" (defArgs (prog.main.body.getD 75 (.Pass ⟨0, 0, 0, 0⟩))) (defBody (prog.main.body.getD 75 (.Pass ⟨0, 0, 0, 0⟩))) (defScope (prog.main.body.getD 75 (.Pass ⟨0, 0, 0, 0⟩))) .none kV doc pm an cdv ct) ⟨us, []⟩ = pure ((n58.take 2).zip us) :=
  match us, hl with
  | [_, _], _ => rfl
theorem b59 (kV doc pm : Value) (an : Option Addr) (cdv ct : Value) (us : List Value) (hl : us.length = (n59.take 1).length) :
    bindArgs (PySem.W.fnOf "_law_lean" "_law_lean" (defArgs (prog.main.body.getD 76 (.Pass ⟨0, 0, 0, 0⟩))) (defBody (prog.main.body.getD 76 (.Pass ⟨0, 0, 0, 0⟩))) (defScope (prog.main.body.getD 76 (.Pass ⟨0, 0, 0, 0⟩))) .none kV doc pm an cdv ct) ⟨us, []⟩ = pure ((n59.take 1).zip us) :=
  match us, hl with
  | [_], _ => rfl
theorem b60 (kV doc pm : Value) (an : Option Addr) (cdv ct : Value) (us : List Value) (hl : us.length = (n60.take 2).length) :
    bindArgs (PySem.W.fnOf "_law_form" "_law_form" (defArgs (prog.main.body.getD 77 (.Pass ⟨0, 0, 0, 0⟩))) (defBody (prog.main.body.getD 77 (.Pass ⟨0, 0, 0, 0⟩))) (defScope (prog.main.body.getD 77 (.Pass ⟨0, 0, 0, 0⟩))) .none kV doc pm an cdv ct) ⟨us, []⟩ = pure ((n60.take 2).zip us) :=
  match us, hl with
  | [_, _], _ => rfl
theorem b61 (kV doc pm : Value) (an : Option Addr) (cdv ct : Value) (us : List Value) (hl : us.length = (n61.take 2).length) :
    bindArgs (PySem.W.fnOf "_law_times" "_law_times" (defArgs (prog.main.body.getD 78 (.Pass ⟨0, 0, 0, 0⟩))) (defBody (prog.main.body.getD 78 (.Pass ⟨0, 0, 0, 0⟩))) (defScope (prog.main.body.getD 78 (.Pass ⟨0, 0, 0, 0⟩))) .none kV doc pm an cdv ct) ⟨us, []⟩ = pure ((n61.take 2).zip us) :=
  match us, hl with
  | [_, _], _ => rfl
theorem b62 (kV doc pm : Value) (an : Option Addr) (cdv ct : Value) (us : List Value) (hl : us.length = (n62.take 2).length) :
    bindArgs (PySem.W.fnOf "_law_growing" "_law_growing" (defArgs (prog.main.body.getD 79 (.Pass ⟨0, 0, 0, 0⟩))) (defBody (prog.main.body.getD 79 (.Pass ⟨0, 0, 0, 0⟩))) (defScope (prog.main.body.getD 79 (.Pass ⟨0, 0, 0, 0⟩))) .none kV doc pm an cdv ct) ⟨us, []⟩ = pure ((n62.take 2).zip us) :=
  match us, hl with
  | [_, _], _ => rfl
theorem b63 (kV doc pm : Value) (an : Option Addr) (cdv ct : Value) (us : List Value) (hl : us.length = (n63.take 2).length) :
    bindArgs (PySem.W.fnOf "_law_at" "_law_at" (defArgs (prog.main.body.getD 80 (.Pass ⟨0, 0, 0, 0⟩))) (defBody (prog.main.body.getD 80 (.Pass ⟨0, 0, 0, 0⟩))) (defScope (prog.main.body.getD 80 (.Pass ⟨0, 0, 0, 0⟩))) .none kV doc pm an cdv ct) ⟨us, []⟩ = pure ((n63.take 2).zip us) :=
  match us, hl with
  | [_, _], _ => rfl
theorem b64 (kV doc pm : Value) (an : Option Addr) (cdv ct : Value) (us : List Value) (hl : us.length = (n64.take 2).length) :
    bindArgs (PySem.W.fnOf "_law_mixed" "_law_mixed" (defArgs (prog.main.body.getD 81 (.Pass ⟨0, 0, 0, 0⟩))) (defBody (prog.main.body.getD 81 (.Pass ⟨0, 0, 0, 0⟩))) (defScope (prog.main.body.getD 81 (.Pass ⟨0, 0, 0, 0⟩))) .none kV doc pm an cdv ct) ⟨us, []⟩ = pure ((n64.take 2).zip us) :=
  match us, hl with
  | [_, _], _ => rfl
theorem b65 (kV doc pm : Value) (an : Option Addr) (cdv ct : Value) (us : List Value) (hl : us.length = (n65.take 2).length) :
    bindArgs (PySem.W.fnOf "_law_shape_for" "_law_shape_for" (defArgs (prog.main.body.getD 82 (.Pass ⟨0, 0, 0, 0⟩))) (defBody (prog.main.body.getD 82 (.Pass ⟨0, 0, 0, 0⟩))) (defScope (prog.main.body.getD 82 (.Pass ⟨0, 0, 0, 0⟩))) .none kV doc pm an cdv ct) ⟨us, []⟩ = pure ((n65.take 2).zip us) :=
  match us, hl with
  | [_, _], _ => rfl
theorem b66 (kV doc pm : Value) (an : Option Addr) (cdv ct : Value) (us : List Value) (hl : us.length = (n66.take 3).length) :
    bindArgs (PySem.W.fnOf "_law_sees" "_law_sees" (defArgs (prog.main.body.getD 83 (.Pass ⟨0, 0, 0, 0⟩))) (defBody (prog.main.body.getD 83 (.Pass ⟨0, 0, 0, 0⟩))) (defScope (prog.main.body.getD 83 (.Pass ⟨0, 0, 0, 0⟩))) .none kV doc pm an cdv ct) ⟨us, []⟩ = pure ((n66.take 3).zip us) :=
  match us, hl with
  | [_, _, _], _ => rfl
theorem b67 (kV doc pm : Value) (an : Option Addr) (cdv ct : Value) (us : List Value) (hl : us.length = (n67.take 3).length) :
    bindArgs (PySem.W.fnOf "_law_seen_right" "_law_seen_right" (defArgs (prog.main.body.getD 84 (.Pass ⟨0, 0, 0, 0⟩))) (defBody (prog.main.body.getD 84 (.Pass ⟨0, 0, 0, 0⟩))) (defScope (prog.main.body.getD 84 (.Pass ⟨0, 0, 0, 0⟩))) .none kV doc pm an cdv ct) ⟨us, []⟩ = pure ((n67.take 3).zip us) :=
  match us, hl with
  | [_, _, _], _ => rfl
theorem b68 (kV doc pm : Value) (an : Option Addr) (cdv ct : Value) (us : List Value) (hl : us.length = (n68.take 0).length) :
    bindArgs (PySem.W.fnOf "_law_written_right" "_law_written_right" (defArgs (prog.main.body.getD 85 (.Pass ⟨0, 0, 0, 0⟩))) (defBody (prog.main.body.getD 85 (.Pass ⟨0, 0, 0, 0⟩))) (defScope (prog.main.body.getD 85 (.Pass ⟨0, 0, 0, 0⟩))) .none kV doc pm an cdv ct) ⟨us, []⟩ = pure ((n68.take 0).zip us) :=
  match us, hl with
  | [], _ => rfl
theorem b69 (kV doc pm : Value) (an : Option Addr) (cdv ct : Value) (us : List Value) (hl : us.length = (n69.take 1).length) :
    bindArgs (PySem.W.fnOf "law" "law" (defArgs (prog.main.body.getD 86 (.Pass ⟨0, 0, 0, 0⟩))) (defBody (prog.main.body.getD 86 (.Pass ⟨0, 0, 0, 0⟩))) (defScope (prog.main.body.getD 86 (.Pass ⟨0, 0, 0, 0⟩))) .none kV doc pm an cdv ct) ⟨us, []⟩ = pure ((n69.take 1).zip us) :=
  match us, hl with
  | [_], _ => rfl
theorem hb : ∀ (f : Nat) (fd : Fd) (N : List Str) (t : Nat) (x : Str), P[f]? = some fd → ns[f]? = some N → tops[f]? = some t → nm.fns[f]? = some x → ∀ (kV doc pm : Value) (an : Option Addr) (cdv ct : Value) (us : List Value), us.length = (N.take fd.np).length →
      bindArgs (PySem.W.fnOf x x (defArgs (prog.main.body.getD t (.Pass ⟨0, 0, 0, 0⟩))) (defBody (prog.main.body.getD t (.Pass ⟨0, 0, 0, 0⟩))) (defScope (prog.main.body.getD t (.Pass ⟨0, 0, 0, 0⟩))) .none kV doc pm an cdv ct) ⟨us, []⟩ = pure ((N.take fd.np).zip us)
  | 0, _, _, _, _, e1, e2, e3, e4 => by cases e1; cases e2; cases e3; cases e4; exact b0
  | 1, _, _, _, _, e1, e2, e3, e4 => by cases e1; cases e2; cases e3; cases e4; exact b1
  | 2, _, _, _, _, e1, e2, e3, e4 => by cases e1; cases e2; cases e3; cases e4; exact b2
  | 3, _, _, _, _, e1, e2, e3, e4 => by cases e1; cases e2; cases e3; cases e4; exact b3
  | 4, _, _, _, _, e1, e2, e3, e4 => by cases e1; cases e2; cases e3; cases e4; exact b4
  | 5, _, _, _, _, e1, e2, e3, e4 => by cases e1; cases e2; cases e3; cases e4; exact b5
  | 6, _, _, _, _, e1, e2, e3, e4 => by cases e1; cases e2; cases e3; cases e4; exact b6
  | 7, _, _, _, _, e1, e2, e3, e4 => by cases e1; cases e2; cases e3; cases e4; exact b7
  | 8, _, _, _, _, e1, e2, e3, e4 => by cases e1; cases e2; cases e3; cases e4; exact b8
  | 9, _, _, _, _, e1, e2, e3, e4 => by cases e1; cases e2; cases e3; cases e4; exact b9
  | 10, _, _, _, _, e1, e2, e3, e4 => by cases e1; cases e2; cases e3; cases e4; exact b10
  | 11, _, _, _, _, e1, e2, e3, e4 => by cases e1; cases e2; cases e3; cases e4; exact b11
  | 12, _, _, _, _, e1, e2, e3, e4 => by cases e1; cases e2; cases e3; cases e4; exact b12
  | 13, _, _, _, _, e1, e2, e3, e4 => by cases e1; cases e2; cases e3; cases e4; exact b13
  | 14, _, _, _, _, e1, e2, e3, e4 => by cases e1; cases e2; cases e3; cases e4; exact b14
  | 15, _, _, _, _, e1, e2, e3, e4 => by cases e1; cases e2; cases e3; cases e4; exact b15
  | 16, _, _, _, _, e1, e2, e3, e4 => by cases e1; cases e2; cases e3; cases e4; exact b16
  | 17, _, _, _, _, e1, e2, e3, e4 => by cases e1; cases e2; cases e3; cases e4; exact b17
  | 18, _, _, _, _, e1, e2, e3, e4 => by cases e1; cases e2; cases e3; cases e4; exact b18
  | 19, _, _, _, _, e1, e2, e3, e4 => by cases e1; cases e2; cases e3; cases e4; exact b19
  | 20, _, _, _, _, e1, e2, e3, e4 => by cases e1; cases e2; cases e3; cases e4; exact b20
  | 21, _, _, _, _, e1, e2, e3, e4 => by cases e1; cases e2; cases e3; cases e4; exact b21
  | 22, _, _, _, _, e1, e2, e3, e4 => by cases e1; cases e2; cases e3; cases e4; exact b22
  | 23, _, _, _, _, e1, e2, e3, e4 => by cases e1; cases e2; cases e3; cases e4; exact b23
  | 24, _, _, _, _, e1, e2, e3, e4 => by cases e1; cases e2; cases e3; cases e4; exact b24
  | 25, _, _, _, _, e1, e2, e3, e4 => by cases e1; cases e2; cases e3; cases e4; exact b25
  | 26, _, _, _, _, e1, e2, e3, e4 => by cases e1; cases e2; cases e3; cases e4; exact b26
  | 27, _, _, _, _, e1, e2, e3, e4 => by cases e1; cases e2; cases e3; cases e4; exact b27
  | 28, _, _, _, _, e1, e2, e3, e4 => by cases e1; cases e2; cases e3; cases e4; exact b28
  | 29, _, _, _, _, e1, e2, e3, e4 => by cases e1; cases e2; cases e3; cases e4; exact b29
  | 30, _, _, _, _, e1, e2, e3, e4 => by cases e1; cases e2; cases e3; cases e4; exact b30
  | 31, _, _, _, _, e1, e2, e3, e4 => by cases e1; cases e2; cases e3; cases e4; exact b31
  | 32, _, _, _, _, e1, e2, e3, e4 => by cases e1; cases e2; cases e3; cases e4; exact b32
  | 33, _, _, _, _, e1, e2, e3, e4 => by cases e1; cases e2; cases e3; cases e4; exact b33
  | 34, _, _, _, _, e1, e2, e3, e4 => by cases e1; cases e2; cases e3; cases e4; exact b34
  | 35, _, _, _, _, e1, e2, e3, e4 => by cases e1; cases e2; cases e3; cases e4; exact b35
  | 36, _, _, _, _, e1, e2, e3, e4 => by cases e1; cases e2; cases e3; cases e4; exact b36
  | 37, _, _, _, _, e1, e2, e3, e4 => by cases e1; cases e2; cases e3; cases e4; exact b37
  | 38, _, _, _, _, e1, e2, e3, e4 => by cases e1; cases e2; cases e3; cases e4; exact b38
  | 39, _, _, _, _, e1, e2, e3, e4 => by cases e1; cases e2; cases e3; cases e4; exact b39
  | 40, _, _, _, _, e1, e2, e3, e4 => by cases e1; cases e2; cases e3; cases e4; exact b40
  | 41, _, _, _, _, e1, e2, e3, e4 => by cases e1; cases e2; cases e3; cases e4; exact b41
  | 42, _, _, _, _, e1, e2, e3, e4 => by cases e1; cases e2; cases e3; cases e4; exact b42
  | 43, _, _, _, _, e1, e2, e3, e4 => by cases e1; cases e2; cases e3; cases e4; exact b43
  | 44, _, _, _, _, e1, e2, e3, e4 => by cases e1; cases e2; cases e3; cases e4; exact b44
  | 45, _, _, _, _, e1, e2, e3, e4 => by cases e1; cases e2; cases e3; cases e4; exact b45
  | 46, _, _, _, _, e1, e2, e3, e4 => by cases e1; cases e2; cases e3; cases e4; exact b46
  | 47, _, _, _, _, e1, e2, e3, e4 => by cases e1; cases e2; cases e3; cases e4; exact b47
  | 48, _, _, _, _, e1, e2, e3, e4 => by cases e1; cases e2; cases e3; cases e4; exact b48
  | 49, _, _, _, _, e1, e2, e3, e4 => by cases e1; cases e2; cases e3; cases e4; exact b49
  | 50, _, _, _, _, e1, e2, e3, e4 => by cases e1; cases e2; cases e3; cases e4; exact b50
  | 51, _, _, _, _, e1, e2, e3, e4 => by cases e1; cases e2; cases e3; cases e4; exact b51
  | 52, _, _, _, _, e1, e2, e3, e4 => by cases e1; cases e2; cases e3; cases e4; exact b52
  | 53, _, _, _, _, e1, e2, e3, e4 => by cases e1; cases e2; cases e3; cases e4; exact b53
  | 54, _, _, _, _, e1, e2, e3, e4 => by cases e1; cases e2; cases e3; cases e4; exact b54
  | 55, _, _, _, _, e1, e2, e3, e4 => by cases e1; cases e2; cases e3; cases e4; exact b55
  | 56, _, _, _, _, e1, e2, e3, e4 => by cases e1; cases e2; cases e3; cases e4; exact b56
  | 57, _, _, _, _, e1, e2, e3, e4 => by cases e1; cases e2; cases e3; cases e4; exact b57
  | 58, _, _, _, _, e1, e2, e3, e4 => by cases e1; cases e2; cases e3; cases e4; exact b58
  | 59, _, _, _, _, e1, e2, e3, e4 => by cases e1; cases e2; cases e3; cases e4; exact b59
  | 60, _, _, _, _, e1, e2, e3, e4 => by cases e1; cases e2; cases e3; cases e4; exact b60
  | 61, _, _, _, _, e1, e2, e3, e4 => by cases e1; cases e2; cases e3; cases e4; exact b61
  | 62, _, _, _, _, e1, e2, e3, e4 => by cases e1; cases e2; cases e3; cases e4; exact b62
  | 63, _, _, _, _, e1, e2, e3, e4 => by cases e1; cases e2; cases e3; cases e4; exact b63
  | 64, _, _, _, _, e1, e2, e3, e4 => by cases e1; cases e2; cases e3; cases e4; exact b64
  | 65, _, _, _, _, e1, e2, e3, e4 => by cases e1; cases e2; cases e3; cases e4; exact b65
  | 66, _, _, _, _, e1, e2, e3, e4 => by cases e1; cases e2; cases e3; cases e4; exact b66
  | 67, _, _, _, _, e1, e2, e3, e4 => by cases e1; cases e2; cases e3; cases e4; exact b67
  | 68, _, _, _, _, e1, e2, e3, e4 => by cases e1; cases e2; cases e3; cases e4; exact b68
  | 69, _, _, _, _, e1, e2, e3, e4 => by cases e1; cases e2; cases e3; cases e4; exact b69
  | f + 70, _, _, _, _, e1, _, _, _ => by
    have hl := (List.getElem?_eq_some_iff.mp e1).1
    rw [show P.length = 70 from rfl] at hl
    exact absurd hl (Nat.not_lt.mpr (Nat.le_add_left _ f))
end LW
set_option Elab.async false
set_option linter.all false
set_option maxRecDepth 100000
set_option maxHeartbeats 0
namespace LW
open PySem PySem.Spec PyProof.Rows L2 VS
abbrev hk : PySem.W.Hook := He.hookX 4 nm.fa (nm.fn prog tops) [] [] nm.ex
def ob (s : PySem.W.SharedT) : He.AlX := He.obsX 4 nm.fa (nm.fn prog tops) [] [] nm.ex (HandSHeadRun.getT s)
theorem ob_eq (s : PySem.W.SharedT) : ob s = hk.obs s.abs := He.obsX_eq (HandSHeadRun.getT_eq s)
theorem hrun (w : World) : HandSHeadRun.RunEq (PySem.W.OpenLaw.row PySem.Challenge.rw_walkstrides_k82_whole_growing_shapes) (PySem.W.view (PySem.W.OpenLaw.row PySem.Challenge.rw_walkstrides_k82_whole_growing_shapes).prog [86]) hk ob 5000 loose w := by
  intro os
  kernel_rfl
end LW
set_option Elab.async false
set_option linter.all false
set_option maxRecDepth 100000
/-! VsY: plain lemmas about the evaluator: comprehensions, loops. -/
namespace VS
theorem comp_map {body : D → En → Out (Option D)} {ρ : En} {g : D → D} : ∀ {ds : List D}, (∀ d ∈ ds, body d ρ = .ok (some (g d)) ρ) → compLoop body ds ρ = .ok (ds.map g) ρ
  | [], _ => rfl
  | d :: ds, h => by
    unfold compLoop
    rw [h d List.mem_cons_self]
    dsimp only
    rw [comp_map fun e he => h e (List.mem_cons_of_mem _ he)] <;> rfl
theorem comp_filter {body : D → En → Out (Option D)} {ρ : En} {g : D → D} {p : D → Bool} : ∀ {ds : List D}, (∀ d ∈ ds, body d ρ = .ok (if p d then some (g d) else none) ρ) → compLoop body ds ρ = .ok ((ds.filter p).map g) ρ
  | [], _ => rfl
  | d :: ds, h => by
    unfold compLoop
    rw [h d List.mem_cons_self, List.filter_cons]
    have ih := comp_filter (body := body) (ρ := ρ) (g := g) (p := p) (ds := ds) fun e he => h e (List.mem_cons_of_mem _ he)
    by_cases hp : p d = true
    · rw [if_pos hp, if_pos hp]
      dsimp only
      rw [ih] <;> rfl
    · rw [if_neg hp, if_neg hp]
      exact ih
/-- a for whose body never ends it: a fold of the environment -/
theorem for_fold {body : D → En → Out Fl} {g : En → D → En} : ∀ {ds : List D} {ρ : En} (I : En → Prop), I ρ → (∀ d ∈ ds, ∀ ρ, I ρ → body d ρ = .ok .nx (g ρ d) ∧ I (g ρ d)) → forLoop body ds ρ = .ok .nx (ds.foldl g ρ)
  | [], _, _, _, _ => rfl
  | d :: ds, ρ, I, hI, h => by
    unfold forLoop
    obtain ⟨e, hI2⟩ := h d List.mem_cons_self ρ hI
    rw [e]
    exact for_fold I hI2 fun e he => h e (List.mem_cons_of_mem _ he)
/-- one turn of a while -/
theorem whl_step {c : En → Out D} {body : En → Out Fl} {n : Nat} {ρ ρ1 ρ2 : En} (h1 : c ρ = .ok (.bl true) ρ1) (h2 : body ρ1 = .ok .nx ρ2) : whlLoop c body (n + 1) ρ = whlLoop c body n ρ2 := by
  conv => lhs; unfold whlLoop
  rw [h1]
  dsimp only
  rw [h2]
theorem whl_end {c : En → Out D} {body : En → Out Fl} {n : Nat} {ρ ρ1 : En} (h1 : c ρ = .ok (.bl false) ρ1) : whlLoop c body (n + 1) ρ = .ok .nx ρ1 := by
  conv => lhs; unfold whlLoop
  rw [h1]
end VS
set_option Elab.async false
set_option linter.all false
set_option maxRecDepth 100000
/-! VsT: rules for showing what the evaluator gives: sequencing, loops, comprehensions. -/
namespace VT
open VS
/-- what is wanted of an outcome -/
def W {α : Type} (Q : α → Prop) (m : α) : Prop := Q m
theorem W_congr {α : Type} {Q : α → Prop} {m m' : α} (h : m = m') : W Q m = W Q m' := by rw [h]
theorem Out.to_congr {α β : Type} {m m' : Out α} {f : α → En → Out β} (h : m = m') : m.to f = m'.to f := by rw [h]
theorem to_ok {α β : Type} (a : α) (ρ : En) (f : α → En → Out β) : (Out.ok a ρ).to f = f a ρ := rfl
theorem to_err {α β : Type} (e : Ex) (ρ : En) (f : α → En → Out β) : (Out.err e ρ : Out α).to f = .err e ρ := rfl
theorem to_bad {α β : Type} (f : α → En → Out β) : (Out.bad : Out α).to f = .bad := rfl
def thK {α β γ : Type} (f : α → En → Out β) (g : β → En → Out γ) : α → En → Out γ := fun a ρ => (f a ρ).to g
theorem thK_ap {α β γ : Type} (f : α → En → Out β) (g : β → En → Out γ) (a : α) (ρ : En) : thK f g a ρ = (f a ρ).to g := rfl
theorem to_to {α β γ : Type} (m : Out α) (f : α → En → Out β) (g : β → En → Out γ) : (m.to f).to g = m.to (thK f g) := by cases m <;> rfl
theorem to_ite {α β : Type} (c : Prop) [Decidable c] (a b : Out α) (f : α → En → Out β) : (if c then a else b).to f = if c then a.to f else b.to f := by split <;> rfl
/-- a slot whose content is not asked -/
def jk : Option D → Sl
  | none => .no
  | some d => .val d
def slOk : Option Sl → Bool
  | some (.io _) => false
  | some _ => true
  | none => false
theorem slOk_jk (o : Option D) : slOk (some (jk o)) = true := by cases o <;> rfl
theorem slOk_val (d : D) : slOk (some (.val d)) = true := rfl
theorem slOk_own (d : D) : slOk (some (.own d)) = true := rfl
theorem slOk_no : slOk (some .no) = true := rfl
theorem slOk_io (d : D) : slOk (some (.io d)) = false := rfl
theorem setSl_eq (i : Nat) (s : Sl) (ρ : En) : setSl i s ρ = if slOk ρ[i]? = true then .ok () (ρ.set i s) else .bad := by
  unfold setSl
  cases ρ[i]? with
  | none => rfl
  | some x => cases x <;> rfl

section
variable (C : Nat → List D → CR)
def bindK (ro : Bool) (b : Ss) : Out Unit → Out Fl := fun m => (match m with
      | .ok _ ρ => denSs C ro b ρ
      | _ => .bad)
def bindN : Out Unit → Out Fl := fun m => (match m with
      | .ok _ ρ => .ok .nx ρ
      | _ => .bad)
/-- a loop's body -/
def forB (ro : Bool) (t : T) (b : Ss) : D → En → Out Fl := fun d ρ => bindK C ro b (bindT C t d ρ)
def compC3 (own : List Nat) : D → En → Out (Option D) := fun y ρ => endT own (some y) ρ
def compC2 (e : E) (own : List Nat) : Bool → En → Out (Option D) := fun k ρ => if k = true then (denE C e ρ).to (compC3 own) else endT own none ρ
def compC1 (e : E) (cs : Es) (own : List Nat) : Unit → En → Out (Option D) := fun _ ρ => (denCs C cs ρ).to (compC2 C e own)
def compB (e : E) (t : T) (cs : Es) (own : List Nat) : D → En → Out (Option D) := fun d ρ => (bindT C t d ρ).to (compC1 C e cs own)
def whlB (ro : Bool) (b : Ss) : En → Out Fl := fun ρ => denSs C ro b ρ
def whlC (c : E) : En → Out D := fun ρ => denE C c ρ
/-- continuations by what they are given -/
def iffK (ro : Bool) (a b : Ss) : D → En → Out Fl := fun d ρ => (match d with
    | .bl true => denSs C ro a ρ
    | .bl false => denSs C ro b ρ
    | _ => .bad)
def seqK (ro : Bool) (r : Ss) : Fl → En → Out Fl := fun f ρ => (match f with
    | .nx => denSs C ro r ρ
    | f => .ok f ρ)
def asgK (t : T) (fr : Bool) : D → En → Out Fl := fun d ρ => (match t with
    | .n i => bindN (setSl i (mkSl fr d) ρ)
    | t => bindN (bindT C t d ρ))
def andK (b : E) : D → En → Out D := fun d ρ => (match d with
    | .bl true => denE C b ρ
    | .bl false => .ok (.bl false) ρ
    | _ => .bad)
def orK (b : E) : D → En → Out D := fun d ρ => (match d with
    | .bl true => .ok (.bl true) ρ
    | .bl false => denE C b ρ
    | _ => .bad)
def iteK (a b : E) : D → En → Out D := fun d ρ => (match d with
    | .bl true => denE C a ρ
    | .bl false => denE C b ρ
    | _ => .bad)
def notK : D → En → Out D := fun d ρ => (match d with
    | .bl k => .ok (.bl !k) ρ
    | _ => .bad)
/-- an operand -/
def inlK : D → En → Out Pd := fun d ρ => .ok (.inl d) ρ
def denO : E → En → Out Pd := fun e ρ => (match e with
    | .pk i => pkD i ρ
    | _ => (denE C e ρ).to inlK)
def compK (own : List Nat) (body : D → En → Out (Option D)) : List D → En → Out D := fun ds ρ0 => compEnd own ρ0 (compLoop body ds (wipeE ρ0 own))
def forK (body : D → En → Out Fl) : List D → En → Out Fl := fun ds ρ => forLoop body ds ρ
def itK : D → En → Out (List D) := fun d ρ => (match d with
    | .tup ds => .ok ds ρ
    | .lst ds => .ok ds ρ
    | _ => .bad)
def enmK : D → En → Out (List D) := fun d ρ => (match d with
    | .lst ds => .ok (enmD 0 ds) ρ
    | .tup ds => .ok (enmD 0 ds) ρ
    | _ => .bad)
def rng1K : D → En → Out (List D) := fun d ρ => (match d with
    | .int n => if rngOk 0 n then .ok (rngD 0 n) ρ else .bad
    | _ => .bad)
def rng2K : D → D → En → Out (List D) := fun d e ρ => (match d, e with
    | .int i, .int j => if rngOk i j then .ok (rngD i j) ρ else .bad
    | _, _ => .bad)
def rng2J (b : E) : D → En → Out (List D) := fun d ρ => (denE C b ρ).to (rng2K d)
def zipK : D → D → En → Out (List D) := fun d e ρ => (match d, e with
    | .tup xs, .tup ys => .ok (zipD xs ys) ρ
    | .lst xs, .lst ys => .ok (zipD xs ys) ρ
    | _, _ => .bad)
def zipJ (b : E) : D → En → Out (List D) := fun d ρ => (denE C b ρ).to (zipK d)
def csK (r : Es) : D → En → Out Bool := fun d ρ => (match d with
    | .bl true => denCs C r ρ
    | .bl false => .ok false ρ
    | _ => .bad)
def chnE (o2 : Op) (y : Pd) : Pd → En → Out D := fun z ρ => opD o2 [y, z] ρ
def chnK (o2 : Op) (c : E) (y : Pd) : D → En → Out D := fun d ρ => (match d with
    | .bl true => (denO C c ρ).to (chnE o2 y)
    | .bl false => .ok (.bl false) ρ
    | _ => .bad)
def chnJ (o1 o2 : Op) (c : E) (x : Pd) : Pd → En → Out D := fun y ρ => (opD o1 [x, y] ρ).to (chnK C o2 c y)
def chnI (o1 o2 : Op) (b c : E) : Pd → En → Out D := fun x ρ => (denO C b ρ).to (chnJ C o1 o2 c x)
def sl2K (x : Pd) : D → D → En → Out D := fun d e ρ => (match d, e with
      | .int i, .int j => opD (.slc true true) [x, .inl (.int i), .inl (.int j)] ρ
      | _, _ => .bad)
def sl1K (x : Pd) (h : E) : D → En → Out D := fun d ρ => (match d with
    | .int i => (denE C h ρ).to (sl2K x (.int i))
    | _ => .bad)
def sl0K (l h : E) : Pd → En → Out D := fun x ρ => (denE C l ρ).to (sl1K C x h)
def methK (m : Me) (i : Nat) : D → En → Out Fl := fun d ρ => bindN (updSl i (fun c => appD m c d) ρ)
def parK (is : List Nat) : List Sl → En → Out Fl := fun ss ρ => bindN (putAll is ss ρ)
def consS (s : Sl) : List Sl → En → Out (List Sl) := fun ss ρ => .ok (s :: ss) ρ
def parJ (fr : Bool) (r : Es) : D → En → Out (List Sl) := fun d ρ => (denPar C r ρ).to (consS (mkSl fr d))
def setK (i : Nat) (s : Sl) : Unit → En → Out Unit := fun _ ρ => setSl i s ρ
def exK : D → En → Out Fl := fun _ ρ => .ok .nx ρ
def retK0 : D → En → Out Fl := fun d ρ => .ok (.ret d) ρ
def tupK : List D → En → Out D := fun ds ρ => .ok (.tup ds) ρ
def lstK : List D → En → Out D := fun ds ρ => .ok (.lst ds) ρ
def consD (d : D) : List D → En → Out (List D) := fun ds ρ => .ok (d :: ds) ρ
def esJ (r : Es) : D → En → Out (List D) := fun d ρ => (denEs C r ρ).to (consD d)
def consP (d : Pd) : List Pd → En → Out (List Pd) := fun ds ρ => .ok (d :: ds) ρ
def osJ (r : Es) : Pd → En → Out (List Pd) := fun d ρ => (denOs C r ρ).to (consP d)
def bTJ (r : Ts) (ds : List D) : Unit → En → Out Unit := fun _ ρ => bindTs C r ds ρ
def ixJ (i : Nat) (d : D) : Out D → Out Unit := fun m => (match m with
      | .ok k ρ => updSl i (fun c => storeD c k d) ρ
      | _ => .bad)
def callB (ps : List Pd) (ρ : En) : CR → Out D := fun r => (match r with
      | .ok d => .ok d (if d.noMut = true then ρ else freezeAll (Pds.slots ps) ρ)
      | .err e => .err e (freezeAll (Pds.slots ps) ρ)
      | _ => .bad)
def callA (f : Nat) (ps : List Pd) (ρ : En) : Option (List D) → Out D := fun o => (match o with
  | none => .bad
  | some ds => if noIo ρ (Pds.slots ps) = true then callB ps ρ (C f ds) else .bad)
def callJ (ps : List Pd) (j i : Nat) (ρ : En) : Option Sl → CR → Out D := fun s r => (match s, r with
        | some (.own _), .oki d x => .ok d ((if (d.noMut && x.inner) = true then ρ else freezeAll (Pds.slots (ps.eraseIdx j)) ρ).set i (.own x))
        | some (.io _), .oki d x => .ok d ((if (d.noMut && x.inner) = true then ρ else freezeAll (Pds.slots (ps.eraseIdx j)) ρ).set i (.io x))
        | _, _ => .bad)
def callI (f j : Nat) (ps : List Pd) (ρ : En) : Option (List D) → Option Pd → Out D := fun o p => (match o, p with
  | some ds, some (.inr i) => if (noIo ρ (Pds.slots (ps.eraseIdx j)) && !(Pds.slots (ps.eraseIdx j)).contains i) = true then callJ ps j i ρ ρ[i]? (C f ds) else .bad
  | _, _ => .bad)
variable {C : Nat → List D → CR} {ρ : En} {ro : Bool}
theorem dSs_nil : denSs C ro .nil ρ = .ok .nx ρ := by simp only [denSs]
theorem dSs_cons {s : S} {r : Ss} : denSs C ro (.cons s r) ρ = (denS C ro s ρ).to (seqK C ro r) := by first | (simp only [denSs]; done) | (simp only [denSs]; rfl)
theorem seqK_nx {r : Ss} : seqK C ro r .nx ρ = denSs C ro r ρ := rfl
theorem seqK_ret {r : Ss} {d : D} : seqK C ro r (.ret d) ρ = .ok (.ret d) ρ := rfl
theorem seqK_bk {r : Ss} : seqK C ro r .bk ρ = .ok .bk ρ := rfl
theorem seqK_ct {r : Ss} : seqK C ro r .ct ρ = .ok .ct ρ := rfl
theorem bindK_ok {b : Ss} {u : Unit} : bindK C ro b (.ok u ρ) = denSs C ro b ρ := rfl
theorem bindN_ok {u : Unit} : bindN (.ok u ρ) = .ok .nx ρ := rfl
theorem forB_ap {t : T} {b : Ss} {d : D} : forB C ro t b d ρ = bindK C ro b (bindT C t d ρ) := rfl
theorem compB_ap {e : E} {t : T} {cs : Es} {own : List Nat} {d : D} : compB C e t cs own d ρ = (bindT C t d ρ).to (compC1 C e cs own) := rfl
theorem compC1_ap {e : E} {cs : Es} {own : List Nat} {u : Unit} : compC1 C e cs own u ρ = (denCs C cs ρ).to (compC2 C e own) := rfl
theorem compC2_ap {e : E} {own : List Nat} {k : Bool} : compC2 C e own k ρ = if k = true then (denE C e ρ).to (compC3 own) else endT own none ρ := rfl
theorem compC3_ap {own : List Nat} {y : D} : compC3 own y ρ = endT own (some y) ρ := rfl
theorem whlB_ap {b : Ss} : whlB C ro b ρ = denSs C ro b ρ := rfl
theorem whlC_ap {c : E} : whlC C c ρ = denE C c ρ := rfl
/-! statements -/
theorem dS_asg {t : T} {e : E} : denS C ro (.asg t e) ρ = (denE C e ρ).to (asgK C t e.fresh) := by first | (simp only [denS]; done) | (simp only [denS]; rfl)
theorem asgK_n {i : Nat} {fr : Bool} {d : D} : asgK C (.n i) fr d ρ = bindN (setSl i (mkSl fr d) ρ) := rfl
theorem asgK_t {ts : Ts} {fr : Bool} {d : D} : asgK C (.t ts) fr d ρ = bindN (bindT C (.t ts) d ρ) := rfl
theorem asgK_ix {i : Nat} {k : E} {fr : Bool} {d : D} : asgK C (.ix i k) fr d ρ = bindN (bindT C (.ix i k) d ρ) := rfl
theorem dS_par {is : List Nat} {es : Es} : denS C ro (.par is es) ρ = (denPar C es ρ).to (parK is) := by first | (simp only [denS]; done) | (simp only [denS]; rfl)
theorem parK_ap {is : List Nat} {ss : List Sl} : parK is ss ρ = bindN (putAll is ss ρ) := rfl
theorem dPar_nil : denPar C .nil ρ = .ok [] ρ := rfl
theorem dPar_cons {e : E} {r : Es} : denPar C (.cons e r) ρ = (denE C e ρ).to (parJ C e.fresh r) := rfl
theorem parJ_ap {fr : Bool} {r : Es} {d : D} : parJ C fr r d ρ = (denPar C r ρ).to (consS (mkSl fr d)) := rfl
theorem consS_ap {s : Sl} {ss : List Sl} : consS s ss ρ = .ok (s :: ss) ρ := rfl
theorem put_nil : putAll [] [] ρ = .ok () ρ := rfl
theorem put_cons {i : Nat} {is : List Nat} {s : Sl} {ss : List Sl} : putAll (i :: is) (s :: ss) ρ = (putAll is ss ρ).to (setK i s) := rfl
theorem setK_ap {i : Nat} {s : Sl} {u : Unit} : setK i s u ρ = setSl i s ρ := rfl
theorem dS_meth {m : Me} {i : Nat} {e : E} : denS C ro (.meth m i e) ρ = if lstAt i ρ = true then (denE C e ρ).to (methK m i) else .bad := by first | (simp only [denS]; done) | (simp only [denS]; rfl)
theorem methK_ap {m : Me} {i : Nat} {d : D} : methK m i d ρ = bindN (updSl i (fun c => appD m c d) ρ) := rfl
theorem dS_ex {e : E} : denS C ro (.ex e) ρ = (denE C e ρ).to exK := by first | (simp only [denS]; done) | (simp only [denS]; rfl)
theorem exK_ap {d : D} : exK d ρ = .ok .nx ρ := rfl
theorem dS_iff {c : E} {a b : Ss} : denS C ro (.iff c a b) ρ = (denE C c ρ).to (iffK C ro a b) := by first | (simp only [denS]; done) | (simp only [denS]; rfl)
theorem iffK_bl {a b : Ss} {c : Bool} : iffK C ro a b (.bl c) ρ = if c = true then denSs C ro a ρ else denSs C ro b ρ := by cases c <;> rfl
theorem dS_for {t : T} {it : It} {b : Ss} : denS C ro (.forr t it b) ρ = (denIt C it ρ).to (forK (forB C ro t b)) := by first | (simp only [denS]; done) | (simp only [denS]; rfl)
theorem dS_whl {c : E} {b : Ss} : denS C ro (.whl c b) ρ = whlLoop (whlC C c) (whlB C ro b) WF ρ := by first | (simp only [denS]; done) | (simp only [denS]; rfl)
theorem dS_ret0 {e : E} : denS C false (.ret e) ρ = (denE C e ρ).to retK0 := by first | (simp only [denS]; done) | (simp only [denS]; rfl)
theorem retK0_ap {d : D} : retK0 d ρ = .ok (.ret d) ρ := rfl
theorem dS_ret1 {e : E} : denS C true (.ret e) ρ = retO C e ρ := by first | (simp only [denS]; done) | (simp only [denS]; rfl)
theorem dS_retn : denS C ro .retn ρ = .ok (.ret .non) ρ := by simp only [denS]
theorem dS_rse0 {c : Nat} : denS C ro (.rse c none) ρ = .err ⟨c, none⟩ ρ := by simp only [denS]
theorem dS_pas : denS C ro .pas ρ = .ok .nx ρ := by simp only [denS]
theorem dS_brk : denS C ro .brk ρ = .ok .bk ρ := by simp only [denS]
theorem dS_cnt : denS C ro .cnt ρ = .ok .ct ρ := by simp only [denS]
theorem dS_bad : denS C ro .bad ρ = .bad := by simp only [denS]
/-! expressions -/
theorem dE_cst {d : D} : denE C (.cst d) ρ = .ok d ρ := by simp only [denE]
theorem dE_var {i : Nat} : denE C (.var i) ρ = rdV i ρ := by simp only [denE]
theorem dE_glo {x : PySem.Str} {d : D} : denE C (.glo x d) ρ = .ok d ρ := by simp only [denE]
theorem dE_fnv {i : Nat} : denE C (.fnv i) ρ = .ok (.fn i) ρ := by simp only [denE]
theorem dE_tup {es : Es} : denE C (.tup es) ρ = (denEs C es ρ).to tupK := by first | (simp only [denE]; done) | (simp only [denE]; rfl)
theorem tupK_ap {ds : List D} : tupK ds ρ = .ok (.tup ds) ρ := rfl
theorem dE_lst {es : Es} : denE C (.lst es) ρ = (denEs C es ρ).to lstK := by first | (simp only [denE]; done) | (simp only [denE]; rfl)
theorem lstK_ap {ds : List D} : lstK ds ρ = .ok (.lst ds) ρ := rfl
theorem dE_op {o : Op} {es : Es} : denE C (.op o es) ρ = (denOs C es ρ).to (opD o) := by first | (simp only [denE]; done) | (simp only [denE]; rfl)
theorem dE_and {a b : E} : denE C (.and a b) ρ = (denE C a ρ).to (andK C b) := by first | (simp only [denE]; done) | (simp only [denE]; rfl)
theorem andK_bl {b : E} {c : Bool} : andK C b (.bl c) ρ = if c = true then denE C b ρ else .ok (.bl false) ρ := by cases c <;> rfl
theorem dE_or {a b : E} : denE C (.or a b) ρ = (denE C a ρ).to (orK C b) := by first | (simp only [denE]; done) | (simp only [denE]; rfl)
theorem orK_bl {b : E} {c : Bool} : orK C b (.bl c) ρ = if c = true then .ok (.bl true) ρ else denE C b ρ := by cases c <;> rfl
theorem dE_not {a : E} : denE C (.not a) ρ = (denE C a ρ).to notK := by first | (simp only [denE]; done) | (simp only [denE]; rfl)
theorem notK_bl {c : Bool} : notK (.bl c) ρ = .ok (.bl !c) ρ := rfl
theorem dE_ite {c a b : E} : denE C (.ite c a b) ρ = (denE C c ρ).to (iteK C a b) := by first | (simp only [denE]; done) | (simp only [denE]; rfl)
theorem iteK_bl {a b : E} {c : Bool} : iteK C a b (.bl c) ρ = if c = true then denE C a ρ else denE C b ρ := by cases c <;> rfl
theorem dE_chn {o1 o2 : Op} {a b c : E} : denE C (.chn o1 o2 a b c) ρ = (denO C a ρ).to (chnI C o1 o2 b c) := by first | (simp only [denE]; done) | (simp only [denE]; rfl)
theorem chnI_ap {o1 o2 : Op} {b c : E} {x : Pd} : chnI C o1 o2 b c x ρ = (denO C b ρ).to (chnJ C o1 o2 c x) := rfl
theorem chnJ_ap {o1 o2 : Op} {c : E} {x y : Pd} : chnJ C o1 o2 c x y ρ = (opD o1 [x, y] ρ).to (chnK C o2 c y) := rfl
theorem chnK_bl {o2 : Op} {c : E} {y : Pd} {k : Bool} : chnK C o2 c y (.bl k) ρ = if k = true then (denO C c ρ).to (chnE o2 y) else .ok (.bl false) ρ := by cases k <;> rfl
theorem chnE_ap {o2 : Op} {y z : Pd} : chnE o2 y z ρ = opD o2 [y, z] ρ := rfl
theorem dE_sl2 {a l h : E} : denE C (.sl2 a l h) ρ = (denO C a ρ).to (sl0K C l h) := by
  simp only [denE]
  show (denO C a ρ).to _ = _
  congr 1
  funext x ρ
  show (denE C l ρ).to _ = (denE C l ρ).to (sl1K C x h)
  congr 1
  funext d ρ
  cases d <;> first | rfl | (
  show (denE C h ρ).to _ = (denE C h ρ).to (sl2K x (.int _))
  congr 1
  funext e ρ
  cases e <;> rfl)
theorem sl0K_ap {l h : E} {x : Pd} : sl0K C l h x ρ = (denE C l ρ).to (sl1K C x h) := rfl
theorem sl1K_int {x : Pd} {h : E} {i : Int} : sl1K C x h (.int i) ρ = (denE C h ρ).to (sl2K x (.int i)) := rfl
theorem sl2K_int {x : Pd} {i j : Int} : sl2K x (.int i) (.int j) ρ = opD (.slc true true) [x, .inl (.int i), .inl (.int j)] ρ := rfl
theorem dE_call {f : Nat} {io : Option Nat} {r : Bool} {es : Es} : denE C (.call f io r es) ρ = (denOs C es ρ).to (callD C f io) := by first | (simp only [denE]; done) | (simp only [denE]; rfl)
theorem dE_comp {e : E} {t : T} {it : It} {cs : Es} {own : List Nat} : denE C (.comp e t it cs own) ρ = (denIt C it ρ).to (compK own (compB C e t cs own)) := by first | (simp only [denE]; done) | (simp only [denE]; rfl)
theorem compK_ap {own : List Nat} {body : D → En → Out (Option D)} {ds : List D} : compK own body ds ρ = compEnd own ρ (compLoop body ds (wipeE ρ own)) := rfl
theorem forK_ap {body : D → En → Out Fl} {ds : List D} : forK body ds ρ = forLoop body ds ρ := rfl
theorem dEs_nil : denEs C .nil ρ = .ok [] ρ := by simp only [denEs]
theorem dEs_cons {e : E} {r : Es} : denEs C (.cons e r) ρ = (denE C e ρ).to (esJ C r) := by first | (simp only [denEs]; done) | (simp only [denEs]; rfl)
theorem esJ_ap {r : Es} {d : D} : esJ C r d ρ = (denEs C r ρ).to (consD d) := rfl
theorem consD_ap {d : D} {ds : List D} : consD d ds ρ = .ok (d :: ds) ρ := rfl
theorem dOs_nil : denOs C .nil ρ = .ok [] ρ := by simp only [denOs]
theorem dOs_cons {e : E} {r : Es} : denOs C (.cons e r) ρ = (denO C e ρ).to (osJ C r) := by first | (simp only [denOs]; done) | (simp only [denOs]; rfl)
theorem osJ_ap {r : Es} {d : Pd} : osJ C r d ρ = (denOs C r ρ).to (consP d) := rfl
theorem consP_ap {d : Pd} {ds : List Pd} : consP d ds ρ = .ok (d :: ds) ρ := rfl
theorem dCs_nil : denCs C .nil ρ = .ok true ρ := by simp only [denCs]
theorem dCs_cons {e : E} {r : Es} : denCs C (.cons e r) ρ = (denE C e ρ).to (csK C r) := by first | (simp only [denCs]; done) | (simp only [denCs]; rfl)
theorem csK_bl {r : Es} {c : Bool} : csK C r (.bl c) ρ = if c = true then denCs C r ρ else .ok false ρ := by cases c <;> rfl
theorem dI_e {e : E} : denIt C (.e e) ρ = (denE C e ρ).to itK := by first | (simp only [denIt]; done) | (simp only [denIt]; rfl)
theorem dI_r1 {e : E} : denIt C (.rng1 e) ρ = (denE C e ρ).to rng1K := by first | (simp only [denIt]; done) | (simp only [denIt]; rfl)
theorem dI_r2 {a b : E} : denIt C (.rng2 a b) ρ = (denE C a ρ).to (rng2J C b) := by first | (simp only [denIt]; done) | (simp only [denIt]; rfl)
theorem rng2J_ap {b : E} {d : D} : rng2J C b d ρ = (denE C b ρ).to (rng2K d) := rfl
theorem dI_zip {a b : E} : denIt C (.zip a b) ρ = (denE C a ρ).to (zipJ C b) := by first | (simp only [denIt]; done) | (simp only [denIt]; rfl)
theorem zipJ_ap {b : E} {d : D} : zipJ C b d ρ = (denE C b ρ).to (zipK d) := rfl
theorem dI_enm {e : E} : denIt C (.enm e) ρ = (denE C e ρ).to enmK := by first | (simp only [denIt]; done) | (simp only [denIt]; rfl)
theorem itK_tup {ds : List D} : itK (.tup ds) ρ = .ok ds ρ := rfl
theorem itK_lst {ds : List D} : itK (.lst ds) ρ = .ok ds ρ := rfl
theorem enmK_tup {ds : List D} : enmK (.tup ds) ρ = .ok (enmD 0 ds) ρ := rfl
theorem enmK_lst {ds : List D} : enmK (.lst ds) ρ = .ok (enmD 0 ds) ρ := rfl
theorem rng1K_int {n : Int} : rng1K (.int n) ρ = if rngOk 0 n = true then .ok (rngD 0 n) ρ else .bad := rfl
theorem rng2K_int {i n : Int} : rng2K (.int i) (.int n) ρ = if rngOk i n = true then .ok (rngD i n) ρ else .bad := rfl
theorem zipK_tup {xs ys : List D} : zipK (.tup xs) (.tup ys) ρ = .ok (zipD xs ys) ρ := rfl
theorem zipK_lst {xs ys : List D} : zipK (.lst xs) (.lst ys) ρ = .ok (zipD xs ys) ρ := rfl
theorem bT_n {i : Nat} {d : D} : bindT C (.n i) d ρ = setSl i (.val d) ρ := by simp only [bindT]
theorem bT_t {ts : Ts} {ds : List D} : bindT C (.t ts) (.tup ds) ρ = bindTs C ts ds ρ := by simp only [bindT]
theorem bTs_nil : bindTs C .nil [] ρ = .ok () ρ := by simp only [bindTs]
theorem bTs_cons {t : T} {r : Ts} {d : D} {ds : List D} : bindTs C (.cons t r) (d :: ds) ρ = (bindT C t d ρ).to (bTJ C r ds) := by first | (simp only [bindTs]; done) | (simp only [bindTs]; rfl)
theorem bTJ_ap {r : Ts} {ds : List D} {u : Unit} : bTJ C r ds u ρ = bindTs C r ds ρ := rfl
theorem bT_ix {i : Nat} {k : E} {d : D} : bindT C (.ix i k) d ρ = if lstAt i ρ = true then ixJ i d (denE C k ρ) else .bad := by first | (simp only [bindT]; done) | (simp only [bindT]; rfl)
theorem ixJ_ok {i : Nat} {d k : D} : ixJ i d (.ok k ρ) = updSl i (fun c => storeD c k d) ρ := rfl
theorem dO_pk {i : Nat} : denO C (.pk i) ρ = pkD i ρ := rfl
theorem inlK_ap {d : D} : inlK d ρ = .ok (.inl d) ρ := rfl
theorem dO_cst {d : D} : denO C (.cst d) ρ = (denE C (.cst d) ρ).to inlK := rfl
theorem dO_var {d : Nat} : denO C (.var d) ρ = (denE C (.var d) ρ).to inlK := rfl
theorem dO_glo {x : PySem.Str} {d : D} : denO C (.glo x d) ρ = (denE C (.glo x d) ρ).to inlK := rfl
theorem dO_fnv {d : Nat} : denO C (.fnv d) ρ = (denE C (.fnv d) ρ).to inlK := rfl
theorem dO_tup {d : Es} : denO C (.tup d) ρ = (denE C (.tup d) ρ).to inlK := rfl
theorem dO_lst {d : Es} : denO C (.lst d) ρ = (denE C (.lst d) ρ).to inlK := rfl
theorem dO_op {o : Op} {d : Es} : denO C (.op o d) ρ = (denE C (.op o d) ρ).to inlK := rfl
theorem dO_and {a b : E} : denO C (.and a b) ρ = (denE C (.and a b) ρ).to inlK := rfl
theorem dO_or {a b : E} : denO C (.or a b) ρ = (denE C (.or a b) ρ).to inlK := rfl
theorem dO_not {a : E} : denO C (.not a) ρ = (denE C (.not a) ρ).to inlK := rfl
theorem dO_ite {a b c : E} : denO C (.ite c a b) ρ = (denE C (.ite c a b) ρ).to inlK := rfl
theorem dO_chn {o1 o2 : Op} {a b c : E} : denO C (.chn o1 o2 a b c) ρ = (denE C (.chn o1 o2 a b c) ρ).to inlK := rfl
theorem dO_sl2 {a b c : E} : denO C (.sl2 a b c) ρ = (denE C (.sl2 a b c) ρ).to inlK := rfl
theorem dO_call {f : Nat} {io : Option Nat} {r : Bool} {es : Es} : denO C (.call f io r es) ρ = (denE C (.call f io r es) ρ).to inlK := rfl
theorem dO_comp {e : E} {t : T} {it : It} {cs : Es} {own : List Nat} : denO C (.comp e t it cs own) ρ = (denE C (.comp e t it cs own) ρ).to inlK := rfl
def opR (ρ : En) : Option D → Out D := fun o => (match o with
    | some d => .ok d ρ
    | none => .bad)
def opK (o : Op) (ρ : En) : Option (List D) → Out D := fun ds => (match ds with
  | some ds => opR ρ (sem o ds)
  | none => .bad)
theorem opD_ap {o : Op} {ps : List Pd} : opD o ps ρ = opK o ρ (Pds.get ρ ps) := by
  unfold opD opK opR
  cases Pds.get ρ ps <;> rfl
theorem opK_some {o : Op} {ds : List D} : opK o ρ (some ds) = opR ρ (sem o ds) := rfl
theorem opR_some {d : D} : opR ρ (some d) = .ok d ρ := rfl
def rdK (i : Nat) (ρ : En) : Option Sl → Out D := fun s => (match s with
  | some (.val d) => .ok d ρ
  | some (.own d) => .ok d (ρ.set i (.val d))
  | _ => .bad)
theorem rdV_ap {i : Nat} : rdV i ρ = rdK i ρ ρ[i]? := rfl
theorem rdK_val {i : Nat} {d : D} : rdK i ρ (some (.val d)) = .ok d ρ := rfl
theorem rdK_own {i : Nat} {d : D} : rdK i ρ (some (.own d)) = .ok d (ρ.set i (.val d)) := rfl
def pkK (i : Nat) (ρ : En) : Option Sl → Out Pd := fun s => (match s with
  | some .no => .bad
  | some _ => .ok (.inr i) ρ
  | none => .bad)
theorem pkD_ap {i : Nat} : pkD i ρ = pkK i ρ ρ[i]? := rfl
theorem pkK_val {i : Nat} {d : D} : pkK i ρ (some (.val d)) = .ok (.inr i) ρ := rfl
theorem pkK_own {i : Nat} {d : D} : pkK i ρ (some (.own d)) = .ok (.inr i) ρ := rfl
theorem pkK_io {i : Nat} {d : D} : pkK i ρ (some (.io d)) = .ok (.inr i) ρ := rfl
def gCons : Option D → Option (List D) → Option (List D) := fun a b => (match a, b with
  | some d, some ds => some (d :: ds)
  | _, _ => none)
theorem g_nil : Pds.get ρ [] = some [] := rfl
theorem g_cons {p : Pd} {ps : List Pd} : Pds.get ρ (p :: ps) = gCons (Pd.get ρ p) (Pds.get ρ ps) := rfl
theorem gCons_some {d : D} {ds : List D} : gCons (some d) (some ds) = some (d :: ds) := rfl
theorem g_inl {d : D} : Pd.get ρ (.inl d) = some d := rfl
def gSl : Option Sl → Option D := fun s => (match s with
    | some s => s.get?
    | none => none)
theorem g_inr {i : Nat} : Pd.get ρ (.inr i) = gSl ρ[i]? := rfl
theorem sg_val {d : D} : gSl (some (.val d)) = some d := rfl
theorem sg_own {d : D} : gSl (some (.own d)) = some d := rfl
theorem sg_io {d : D} : gSl (some (.io d)) = some d := rfl
theorem mk_f {d : D} : mkSl false d = .val d := rfl
theorem mk_t {d : D} : mkSl true d = if d.isMut = true then .own d else .val d := by unfold mkSl; simp
theorem sl_nil : Pds.slots [] = [] := rfl
theorem sl_inl {d : D} {ps : List Pd} : Pds.slots (.inl d :: ps) = Pds.slots ps := rfl
theorem sl_inr {i : Nat} {ps : List Pd} : Pds.slots (.inr i :: ps) = i :: Pds.slots ps := rfl
theorem fz_nil : freezeAll [] ρ = ρ := rfl
def fzK (i : Nat) (ρ : En) : Option Sl → En := fun s => (match s with
    | some (.own d) => ρ.set i (.val d)
    | _ => ρ)
theorem fz_cons {i : Nat} {is : List Nat} : freezeAll (i :: is) ρ = freezeAll is (fzK i ρ ρ[i]?) := by
  show (match ρ[i]? with
    | some (.own d) => freezeAll is (ρ.set i (.val d))
    | _ => freezeAll is ρ) = _
  unfold fzK
  split <;> rfl
theorem fzK_own {i : Nat} {d : D} : fzK i ρ (some (.own d)) = ρ.set i (.val d) := rfl
theorem fzK_val {i : Nat} {d : D} : fzK i ρ (some (.val d)) = ρ := rfl
theorem fzK_io {i : Nat} {d : D} : fzK i ρ (some (.io d)) = ρ := rfl
def nioK : Option Sl → Bool := fun s => (match s with
    | some (.io _) => false
    | _ => true)
theorem nio_nil : noIo ρ [] = true := rfl
theorem nio_cons {i : Nat} {is : List Nat} : noIo ρ (i :: is) = (nioK ρ[i]? && noIo ρ is) := rfl
theorem nioK_val {d : D} : nioK (some (.val d)) = true := rfl
theorem nioK_own {d : D} : nioK (some (.own d)) = true := rfl
theorem nioK_no : nioK (some .no) = true := rfl
theorem nioK_io {d : D} : nioK (some (.io d)) = false := rfl
theorem callD_no {f : Nat} {ps : List Pd} : callD C f none ps ρ = callA C f ps ρ (Pds.get ρ ps) := by
  unfold callD callA
  cases Pds.get ρ ps with
  | none => rfl
  | some ds =>
    dsimp only
    by_cases h : noIo ρ (Pds.slots ps) = true
    · rw [if_pos h, if_pos h]
      cases C f ds <;> rfl
    · rw [if_neg h, if_neg h]
theorem callA_some {f : Nat} {ps : List Pd} {ds : List D} : callA C f ps ρ (some ds) = if noIo ρ (Pds.slots ps) = true then callB ps ρ (C f ds) else .bad := rfl
theorem callB_ok {ps : List Pd} {d : D} : callB ps ρ (.ok d) = .ok d (if d.noMut = true then ρ else freezeAll (Pds.slots ps) ρ) := rfl
theorem callB_err {ps : List Pd} {e : Ex} : callB ps ρ (.err e) = .err e (freezeAll (Pds.slots ps) ρ) := rfl
theorem callD_io {f j : Nat} {ps : List Pd} : callD C f (some j) ps ρ = callI C f j ps ρ (Pds.get ρ ps) ps[j]? := by
  unfold callD callI
  cases Pds.get ρ ps with
  | none => rfl
  | some ds =>
    dsimp only
    cases ps[j]? with
    | none => rfl
    | some p =>
      cases p with
      | inl d => rfl
      | inr i =>
        dsimp only
        split
        · unfold callJ
          cases ρ[i]? with
          | none => rfl
          | some s => cases s <;> cases C f ds <;> rfl
        · rfl
theorem callI_some {f j i : Nat} {ps : List Pd} {ds : List D} : callI C f j ps ρ (some ds) (some (.inr i)) = if (noIo ρ (Pds.slots (ps.eraseIdx j)) && !(Pds.slots (ps.eraseIdx j)).contains i) = true then callJ ps j i ρ ρ[i]? (C f ds) else .bad := rfl
theorem callJ_own {j i : Nat} {ps : List Pd} {y d x : D} : callJ ps j i ρ (some (.own y)) (.oki d x) = .ok d ((if (d.noMut && x.inner) = true then ρ else freezeAll (Pds.slots (ps.eraseIdx j)) ρ).set i (.own x)) := rfl
theorem callJ_io {j i : Nat} {ps : List Pd} {y d x : D} : callJ ps j i ρ (some (.io y)) (.oki d x) = .ok d ((if (d.noMut && x.inner) = true then ρ else freezeAll (Pds.slots (ps.eraseIdx j)) ρ).set i (.io x)) := rfl
end
/-! what operations give -/
theorem s_addi (i j : Int) : sem .add [.int i, .int j] = some (.int (i + j)) := rfl
theorem s_addt (xs ys : List D) : sem .add [.tup xs, .tup ys] = if xs.length + ys.length ≤ lineN then some (.tup (xs ++ ys)) else none := rfl
theorem s_addl (xs ys : List D) : sem .add [.lst xs, .lst ys] = if xs.length + ys.length ≤ lineN then some (.lst (xs ++ ys)) else none := rfl
theorem s_addib (i : Int) (b : Bool) : sem .add [.int i, .bl b] = some (.int (i + if b then 1 else 0)) := rfl
theorem s_sub (i j : Int) : sem .sub [.int i, .int j] = some (.int (i - j)) := rfl
theorem s_mul (i j : Int) : sem .mul [.int i, .int j] = if mulOk i j = true then some (.int (i * j)) else none := rfl
theorem s_mult (xs : List D) (k : Int) : sem .mul [.tup xs, .int k] = if (decide (-9223372036854775808 ≤ k) && decide (k < 9223372036854775808) && decide (xs.length * k.toNat ≤ lineN)) = true then some (.tup (List.replicate k.toNat xs).flatten) else none := rfl
theorem s_mull (xs : List D) (k : Int) : sem .mul [.lst xs, .int k] = if (decide (-9223372036854775808 ≤ k) && decide (k < 9223372036854775808) && decide (xs.length * k.toNat ≤ lineN)) = true then some (.lst (List.replicate k.toNat xs).flatten) else none := rfl
theorem s_fdiv (i j : Int) : sem .fdiv [.int i, .int j] = if (decide (j ≠ 0) && decide (j.natAbs < 1073741824)) = true then some (.int (i.fdiv j)) else none := rfl
theorem s_mod (i j : Int) : sem .mod [.int i, .int j] = if j = 0 then none else some (.int (i.fmod j)) := rfl
theorem s_pow (i j : Int) : sem .pow [.int i, .int j] = if (decide (0 ≤ j) && decide (j ≤ 1000000) && decide (i.natAbs < 18446744073709551616)) = true then some (.int (i ^ j.toNat)) else none := rfl
theorem s_shl (i j : Int) : sem .shl [.int i, .int j] = if (decide (0 ≤ j) && decide (j ≤ 1000000) && decide (i.natAbs < 18446744073709551616)) = true then some (.int (i * 2 ^ j.toNat)) else none := rfl
theorem s_neg (i : Int) : sem .neg [.int i] = some (.int (-i)) := rfl
theorem s_eq (a b : D) : sem .eq [a, b] = if (D.fine a 64 && D.fine b 64) = true then some (.bl (D.eqv a b)) else none := rfl
theorem s_ne (a b : D) : sem .ne [a, b] = if (D.fine a 64 && D.fine b 64) = true then some (.bl (!D.eqv a b)) else none := rfl
theorem s_lt (i j : Int) : sem .lt [.int i, .int j] = some (.bl (decide (i < j))) := rfl
theorem s_le (i j : Int) : sem .le [.int i, .int j] = some (.bl (decide (i ≤ j))) := rfl
theorem s_gt (i j : Int) : sem .gt [.int i, .int j] = some (.bl (decide (j < i))) := rfl
theorem s_ge (i j : Int) : sem .ge [.int i, .int j] = some (.bl (decide (j ≤ i))) := rfl
theorem s_isN (a : D) : sem .isN [a, .non] = some (.bl a.isNon) := rfl
theorem s_notN (a : D) : sem .notN [a, .non] = some (.bl !a.isNon) := rfl
theorem s_inn (a b : D) : sem .inn [a, b] = (semIn a b).map D.bl := rfl
theorem s_nin (a b : D) : sem .nin [a, b] = (semIn a b).map fun k => D.bl !k := rfl
theorem s_int (d : D) (ds : List D) : semIn d (.tup ds) = if (D.fine d 63 && D.fines ds 63) = true then some (ds.any fun z => D.eqv z d) else none := rfl
theorem s_inl (d : D) (ds : List D) : semIn d (.lst ds) = if (D.fine d 63 && D.fines ds 63) = true then some (ds.any fun z => D.eqv z d) else none := rfl
theorem s_idxt (xs : List D) (i : Int) : sem .idx [.tup xs, .int i] = ixD xs i := rfl
theorem s_idxl (xs : List D) (i : Int) : sem .idx [.lst xs, .int i] = ixD xs i := rfl
theorem s_slct (xs : List D) : sem (.slc false false) [.tup xs] = some (.tup (cutD xs none none)) := rfl
theorem s_slcl (xs : List D) : sem (.slc false false) [.lst xs] = some (.lst (cutD xs none none)) := rfl
theorem s_slct0 (xs : List D) (i : Int) : sem (.slc true false) [.tup xs, .int i] = some (.tup (cutD xs (some i) none)) := rfl
theorem s_slcl0 (xs : List D) (i : Int) : sem (.slc true false) [.lst xs, .int i] = some (.lst (cutD xs (some i) none)) := rfl
theorem s_slct1 (xs : List D) (i : Int) : sem (.slc false true) [.tup xs, .int i] = some (.tup (cutD xs none (some i))) := rfl
theorem s_slcl1 (xs : List D) (i : Int) : sem (.slc false true) [.lst xs, .int i] = some (.lst (cutD xs none (some i))) := rfl
theorem s_slct2 (xs : List D) (i j : Int) : sem (.slc true true) [.tup xs, .int i, .int j] = some (.tup (cutD xs (some i) (some j))) := rfl
theorem s_slcl2 (xs : List D) (i j : Int) : sem (.slc true true) [.lst xs, .int i, .int j] = some (.lst (cutD xs (some i) (some j))) := rfl
theorem s_lent (xs : List D) : sem .len [.tup xs] = some (.int xs.length) := rfl
theorem s_lenl (xs : List D) : sem .len [.lst xs] = some (.int xs.length) := rfl
theorem s_lenf (xs : List D) : sem .len [.frl xs] = some (.int xs.length) := rfl
theorem s_sum (xs : List D) : sem .sum [.lst xs] = (D.ints xs).map fun is => .int is.sum := rfl
theorem ints_map : ∀ is : List Int, D.ints (is.map D.int) = some is
  | [] => rfl
  | i :: is => by
    show (match D.ints (is.map D.int) with | some js => some (i :: js) | none => none) = _
    rw [ints_map is]
theorem bls_map : ∀ bs : List Bool, D.bls (bs.map D.bl) = some bs
  | [] => rfl
  | i :: is => by
    show (match D.bls (is.map D.bl) with | some js => some (i :: js) | none => none) = _
    rw [bls_map is]
theorem s_sumi (is : List Int) : sem .sum [.lst (is.map D.int)] = some (.int is.sum) := by rw [s_sum, ints_map] <;> rfl
theorem s_max1 (i : Int) (is : List Int) : sem .max1 [.lst ((i :: is).map D.int)] = some (.int (maxI is i)) := by
  show (match D.ints ((i :: is).map D.int) with | some (i :: is) => some (D.int (maxI is i)) | _ => none) = _
  rw [ints_map]
theorem s_min1 (i : Int) (is : List Int) : sem .min1 [.lst ((i :: is).map D.int)] = some (.int (minI is i)) := by
  show (match D.ints ((i :: is).map D.int) with | some (i :: is) => some (D.int (minI is i)) | _ => none) = _
  rw [ints_map]
theorem s_max2 (i j : Int) : sem .max2 [.int i, .int j] = some (.int (if j > i then j else i)) := rfl
theorem s_min2 (i j : Int) : sem .min2 [.int i, .int j] = some (.int (if j < i then j else i)) := rfl
theorem s_sorted (is : List Int) : sem .sorted [.lst (is.map D.int)] = some (.lst ((sortI is).map D.int)) := by
  show semSort _ = _
  unfold semSort
  rw [ints_map] <;> rfl
theorem ints_tup (t : List D) (ts : List D) : D.ints (.tup t :: ts) = none := rfl
theorem tints_map : ∀ ts : List (List Int), D.tints (ts.map fun t => .tup (t.map D.int)) = some ts
  | [] => rfl
  | t :: ts => by
    rw [List.map_cons]
    unfold D.tints
    rw [ints_map]
    dsimp only
    rw [tints_map ts] <;> rfl
theorem s_sortT (ts : List (List Int)) (h : ts ≠ []) (hn : ts.length < 2 ∨ ∀ t ∈ ts, t ≠ []) : sem .sorted [.lst (ts.map fun t => .tup (t.map D.int))] = some (.lst ((sortT ts).map fun t => .tup (t.map D.int))) := by
  show semSort _ = _
  unfold semSort
  cases ts with
  | nil => exact absurd rfl h
  | cons t r =>
    rw [show D.ints ((t :: r).map fun t => D.tup (t.map D.int)) = none from rfl]
    dsimp only
    rw [tints_map]
    dsimp only
    rw [if_pos]
    rw [Bool.or_eq_true, decide_eq_true_eq, List.all_eq_true]
    rcases hn with hn | hn
    · exact .inl hn
    · refine .inr fun x hx => ?_
      have := hn x hx
      cases x <;> simp_all
theorem s_tupt (xs : List D) : sem .tuple [.tup xs] = some (.tup xs) := rfl
theorem s_tupl (xs : List D) : sem .tuple [.lst xs] = some (.tup xs) := rfl
theorem s_lstt (xs : List D) : sem .list [.tup xs] = some (.lst xs) := rfl
theorem s_lstl (xs : List D) : sem .list [.lst xs] = some (.lst xs) := rfl
theorem s_lstf (xs : List D) : sem .list [.frl xs] = some (.lst xs) := rfl
theorem s_abs (i : Int) : sem .abs [.int i] = some (.int (if i < 0 then -i else i)) := rfl
theorem s_inti (i : Int) : sem .int [.int i] = some (.int i) := rfl
theorem s_intb (b : Bool) : sem .int [.bl b] = some (.int (if b then 1 else 0)) := rfl
theorem s_all (bs : List Bool) : sem .all [.lst (bs.map D.bl)] = some (.bl (bs.all id)) := by
  show (D.bls (bs.map D.bl)).map _ = _
  rw [bls_map] <;> rfl
theorem s_any (bs : List Bool) : sem .any [.lst (bs.map D.bl)] = some (.bl (bs.any id)) := by
  show (D.bls (bs.map D.bl)).map _ = _
  rw [bls_map] <;> rfl
theorem s_isi (t : Ty) (a : D) : sem (.isi t) [a] = (isTy t a).map D.bl := rfl
theorem s_revt (xs : List D) : sem .rev [.tup xs] = some (.tup xs.reverse) := rfl
theorem s_revl (xs : List D) : sem .rev [.lst xs] = some (.lst xs.reverse) := rfl
theorem s_isB (a b : Bool) : sem .isB [.bl a, .bl b] = some (.bl (a == b)) := rfl
theorem s_notB (a b : Bool) : sem .notB [.bl a, .bl b] = some (.bl !(a == b)) := rfl
theorem s_ssetl (is : List Int) : sem .sset [.lst (is.map D.int)] = if is.length < 64 then some (.lst ((setI is).map D.int)) else none := by
  show (match D.ints (is.map D.int) with | some is => if is.length < 64 then some (D.lst ((setI is).map D.int)) else none | none => none) = _
  rw [ints_map]
theorem s_ssett (is : List Int) : sem .sset [.tup (is.map D.int)] = if is.length < 64 then some (.lst ((setI is).map D.int)) else none := by
  show (match D.ints (is.map D.int) with | some is => if is.length < 64 then some (D.lst ((setI is).map D.int)) else none | none => none) = _
  rw [ints_map]
theorem s_rngL1 (n : Int) : sem .rngL1 [.int n] = if (rngOk 0 n && decide (n.toNat ≤ lineN)) = true then some (.lst (rngD 0 n)) else none := rfl
theorem s_rngL2 (a n : Int) : sem .rngL2 [.int a, .int n] = if (rngOk a n && decide ((n - a).toNat ≤ lineN)) = true then some (.lst (rngD a n)) else none := rfl
theorem s_rngT1 (n : Int) : sem .rngT1 [.int n] = if (rngOk 0 n && decide (n.toNat ≤ lineN)) = true then some (.tup (rngD 0 n)) else none := rfl
theorem s_rngT2 (a n : Int) : sem .rngT2 [.int a, .int n] = if (rngOk a n && decide ((n - a).toNat ≤ lineN)) = true then some (.tup (rngD a n)) else none := rfl
theorem ty_int (t : Ty) (i : Int) : isTy t (.int i) = some (decide (t = .int)) := rfl
theorem ty_bl (t : Ty) (i : Bool) : isTy t (.bl i) = some (decide (t = .int) || decide (t = .bool)) := rfl
theorem ty_non (t : Ty) : isTy t .non = some false := rfl
theorem ty_str (t : Ty) (i : PySem.Str) : isTy t (.str i) = some (decide (t = .str)) := rfl
theorem ty_tup (t : Ty) (i : List D) : isTy t (.tup i) = some (decide (t = .tuple)) := rfl
theorem ty_lst (t : Ty) (i : List D) : isTy t (.lst i) = some (decide (t = .list)) := rfl
/-! comparing -/
theorem f_non (n : Nat) : D.fine .non n = true := by simp only [D.fine]
theorem f_bl (b : Bool) (n : Nat) : D.fine (.bl b) n = true := by simp only [D.fine]
theorem f_int (i : Int) (n : Nat) : D.fine (.int i) n = true := by simp only [D.fine]
theorem f_tup (ds : List D) (n : Nat) : D.fine (.tup ds) (n + 1) = D.fines ds n := by simp only [D.fine]
theorem f_lst (ds : List D) (n : Nat) : D.fine (.lst ds) (n + 1) = D.fines ds n := by simp only [D.fine]
theorem f_nil (n : Nat) : D.fines [] n = true := by simp only [D.fines]
theorem f_cons (d : D) (ds : List D) (n : Nat) : D.fines (d :: ds) n = (D.fine d n && D.fines ds n) := by simp only [D.fines]
theorem fines_map {α : Type} {enc : α → D} {n : Nat} (h : ∀ a, D.fine (enc a) n = true) : ∀ l : List α, D.fines (l.map enc) n = true
  | [] => f_nil n
  | a :: l => by rw [List.map_cons, f_cons, h a, fines_map h l] <;> rfl
theorem fines_ints (is : List Int) (n : Nat) : D.fines (is.map D.int) n = true := fines_map (fun i => f_int i n) is
theorem e_non (d : D) : D.eqv .non d = (match d with | .non => true | _ => false) := by first | (simp only [D.eqv]; done) | (simp only [D.eqv]; rfl)
theorem e_bl (a b : Bool) : D.eqv (.bl a) (.bl b) = (a == b) := by simp only [D.eqv]
theorem e_int (i j : Int) : D.eqv (.int i) (.int j) = (i == j) := by simp only [D.eqv]
theorem e_tup (ds es : List D) : D.eqv (.tup ds) (.tup es) = D.eqvs ds es := by simp only [D.eqv]
theorem e_lst (ds es : List D) : D.eqv (.lst ds) (.lst es) = D.eqvs ds es := by simp only [D.eqv]
theorem e_nil (es : List D) : D.eqvs [] es = es.isEmpty := by cases es <;> simp only [D.eqvs] <;> rfl
theorem e_nc (d : D) (ds : List D) : D.eqvs (d :: ds) [] = false := by simp only [D.eqvs]
theorem e_cons (d e : D) (ds es : List D) : D.eqvs (d :: ds) (e :: es) = (D.eqv d e && D.eqvs ds es) := by simp only [D.eqvs]
/-- an encoding that tells values apart -/
def Tells {α : Type} (enc : α → D) : Prop := ∀ a b, D.eqv (enc a) (enc b) = true ↔ a = b
theorem tells_int : Tells D.int := fun a b => by rw [e_int]; exact beq_iff_eq
theorem tells_bl : Tells D.bl := fun a b => by rw [e_bl]; exact beq_iff_eq
theorem eqvs_map {α : Type} {enc : α → D} (h : Tells enc) : ∀ a b : List α, D.eqvs (a.map enc) (b.map enc) = true ↔ a = b
  | [], [] => by simp [e_nil]
  | [], y :: b => by simp [e_nil]
  | x :: a, [] => by simp [e_nc]
  | x :: a, y :: b => by
    rw [List.map_cons, List.map_cons, e_cons, Bool.and_eq_true, h x y, eqvs_map h a b]
    constructor
    · rintro ⟨rfl, rfl⟩; rfl
    · intro z; injection z with z1 z2; exact ⟨z1, z2⟩
theorem tells_tup {α : Type} {enc : α → D} (h : Tells enc) : Tells fun l : List α => D.tup (l.map enc) := fun a b => by rw [e_tup]; exact eqvs_map h a b
theorem tells_lst {α : Type} {enc : α → D} (h : Tells enc) : Tells fun l : List α => D.lst (l.map enc) := fun a b => by rw [e_lst]; exact eqvs_map h a b
theorem tells_pair {α β : Type} {ea : α → D} {eb : β → D} (ha : Tells ea) (hb : Tells eb) : Tells fun p : α × β => D.tup [ea p.1, eb p.2] := fun a b => by
  rw [e_tup, e_cons, e_cons, e_nil, Bool.and_eq_true, Bool.and_eq_true, ha, hb]
  constructor
  · rintro ⟨h1, h2, _⟩; exact Prod.ext h1 h2
  · rintro rfl; exact ⟨rfl, rfl, rfl⟩
theorem Tells.beq {α : Type} [DecidableEq α] {enc : α → D} (h : Tells enc) (a b : α) : D.eqv (enc a) (enc b) = decide (a = b) := by
  by_cases z : a = b
  · rw [decide_eq_true z]; exact (h a b).mpr z
  · rw [decide_eq_false z]
    cases q : D.eqv (enc a) (enc b) with
    | false => rfl
    | true => exact absurd ((h a b).mp q) z
/-! changeable? -/
theorem m_non : D.isMut .non = false := rfl
theorem m_bl (b : Bool) : D.isMut (.bl b) = false := rfl
theorem m_int (b : Int) : D.isMut (.int b) = false := rfl
theorem m_str (b : PySem.Str) : D.isMut (.str b) = false := rfl
theorem m_tup (b : List D) : D.isMut (.tup b) = false := rfl
theorem m_lst (b : List D) : D.isMut (.lst b) = true := rfl
theorem m_fn (b : Nat) : D.isMut (.fn b) = false := rfl
theorem nm_non : D.noMut .non = true := by simp only [D.noMut]
theorem nm_bl (b : Bool) : D.noMut (.bl b) = true := by simp only [D.noMut]
theorem nm_int (b : Int) : D.noMut (.int b) = true := by simp only [D.noMut]
theorem nm_str (b : PySem.Str) : D.noMut (.str b) = true := by simp only [D.noMut]
theorem nm_tup (b : List D) : D.noMut (.tup b) = D.noMuts b := by simp only [D.noMut]
theorem nm_lst (b : List D) : D.noMut (.lst b) = false := by simp only [D.noMut]
theorem nms_nil : D.noMuts [] = true := by simp only [D.noMuts]
theorem nms_cons (d : D) (ds : List D) : D.noMuts (d :: ds) = (d.noMut && D.noMuts ds) := by simp only [D.noMuts]
theorem nms_map {α : Type} {enc : α → D} (h : ∀ a, D.noMut (enc a) = true) : ∀ l : List α, D.noMuts (l.map enc) = true
  | [] => nms_nil
  | a :: l => by rw [List.map_cons, nms_cons, h a, nms_map h l] <;> rfl
theorem nms_ints (is : List Int) : D.noMuts (is.map D.int) = true := nms_map (fun i => nm_int i) is
theorem inner_lst (ds : List D) : D.inner (.lst ds) = D.noMuts ds := rfl
/-! fresh? -/
theorem fr_lst (es : Es) : E.fresh (.lst es) = true := rfl
theorem fr_op (o : Op) (es : Es) : E.fresh (.op o es) = o.fresh := rfl
theorem fr_sl2 (a b c : E) : E.fresh (.sl2 a b c) = true := rfl
theorem fr_comp (e : E) (t : T) (it : It) (cs : Es) (own : List Nat) : E.fresh (.comp e t it cs own) = true := rfl
theorem fr_call (f : Nat) (io : Option Nat) (ro : Bool) (es : Es) : E.fresh (.call f io ro es) = ro := rfl
theorem fr_ite (c a b : E) : E.fresh (.ite c a b) = (a.fresh && b.fresh) := rfl
theorem fr_cst (d : D) : E.fresh (.cst d) = false := rfl
theorem fr_var (d : Nat) : E.fresh (.var d) = false := rfl
theorem fr_glo (x : PySem.Str) (d : D) : E.fresh (.glo x d) = false := rfl
theorem fr_tup (es : Es) : E.fresh (.tup es) = false := rfl
theorem fr_and (a b : E) : E.fresh (.and a b) = false := rfl
theorem fr_or (a b : E) : E.fresh (.or a b) = false := rfl
theorem fr_not (a : E) : E.fresh (.not a) = false := rfl
theorem fr_chn (o p : Op) (a b c : E) : E.fresh (.chn o p a b c) = false := rfl
end VT
set_option Elab.async false
set_option linter.all false
set_option maxRecDepth 100000
/-! VsTa: the rest of the rules; loops. -/
namespace VT
open VS
section
variable {C : Nat → List D → CR} {ρ : En} {ro : Bool}
def rvK (ρ : En) : Option Sl → Out Fl := fun s => (match s with
    | some (.own d) => .ok (.ret d) ρ
    | some (.val d) => if d.isMut = true then .bad else .ok (.ret d) ρ
    | _ => .bad)
theorem rO_var {i : Nat} : retO C (.var i) ρ = rvK ρ ρ[i]? := rfl
theorem rvK_own {d : D} : rvK ρ (some (.own d)) = .ok (.ret d) ρ := rfl
theorem rvK_val {d : D} : rvK ρ (some (.val d)) = if d.isMut = true then .bad else .ok (.ret d) ρ := rfl
def retK (fr : Bool) : D → En → Out Fl := fun d ρ => if (d.isMut && !fr) = true then .bad else .ok (.ret d) ρ
theorem retK_ap {fr : Bool} {d : D} : retK fr d ρ = if (d.isMut && !fr) = true then .bad else .ok (.ret d) ρ := rfl
theorem rO_cst {d : D} : retO C (.cst d) ρ = (denE C (.cst d) ρ).to (retK (E.fresh (.cst d))) := rfl
theorem rO_glo {x : PySem.Str} {d : D} : retO C (.glo x d) ρ = (denE C (.glo x d) ρ).to (retK (E.fresh (.glo x d))) := rfl
theorem rO_tup {d : Es} : retO C (.tup d) ρ = (denE C (.tup d) ρ).to (retK (E.fresh (.tup d))) := rfl
theorem rO_lst {d : Es} : retO C (.lst d) ρ = (denE C (.lst d) ρ).to (retK (E.fresh (.lst d))) := rfl
theorem rO_op {o : Op} {d : Es} : retO C (.op o d) ρ = (denE C (.op o d) ρ).to (retK (E.fresh (.op o d))) := rfl
theorem rO_ite {a b c : E} : retO C (.ite c a b) ρ = (denE C (.ite c a b) ρ).to (retK (E.fresh (.ite c a b))) := rfl
theorem rO_sl2 {a b c : E} : retO C (.sl2 a b c) ρ = (denE C (.sl2 a b c) ρ).to (retK (E.fresh (.sl2 a b c))) := rfl
theorem rO_call {f : Nat} {io : Option Nat} {r : Bool} {es : Es} : retO C (.call f io r es) ρ = (denE C (.call f io r es) ρ).to (retK (E.fresh (.call f io r es))) := rfl
theorem rO_comp {e : E} {t : T} {it : It} {cs : Es} {own : List Nat} : retO C (.comp e t it cs own) ρ = (denE C (.comp e t it cs own) ρ).to (retK (E.fresh (.comp e t it cs own))) := rfl
end
def updR (s : D → Sl) (i : Nat) (ρ : En) : Option D → Out Unit := fun o => (match o with
    | some c' => .ok () (ρ.set i (s c'))
    | none => .bad)
def updK (i : Nat) (f : D → Option D) (ρ : En) : Option Sl → Out Unit := fun s => (match s with
  | some (.own c) => updR .own i ρ (f c)
  | some (.io c) => updR .io i ρ (f c)
  | _ => .bad)
theorem upd_ap {i : Nat} {f : D → Option D} {ρ : En} : updSl i f ρ = updK i f ρ ρ[i]? := by
  unfold updSl updK updR
  cases ρ[i]? with
  | none => rfl
  | some s => cases s <;> rfl
theorem updK_own {i : Nat} {f : D → Option D} {ρ : En} {c : D} : updK i f ρ (some (.own c)) = updR .own i ρ (f c) := rfl
theorem updK_io {i : Nat} {f : D → Option D} {ρ : En} {c : D} : updK i f ρ (some (.io c)) = updR .io i ρ (f c) := rfl
theorem updR_some {s : D → Sl} {i : Nat} {ρ : En} {c : D} : updR s i ρ (some c) = .ok () (ρ.set i (s c)) := rfl
theorem app_ap (xs : List D) (d : D) : appD .append (.lst xs) d = if xs.length < lineN then some (.lst (xs ++ [d])) else none := rfl
theorem app_et (xs ys : List D) : appD .extend (.lst xs) (.tup ys) = if xs.length + ys.length ≤ lineN then some (.lst (xs ++ ys)) else none := rfl
theorem app_ex (xs ys : List D) : appD .extend (.lst xs) (.lst ys) = if xs.length + ys.length ≤ lineN then some (.lst (xs ++ ys)) else none := rfl
def stoK (xs : List D) (d : D) : Option Nat → Option D := fun o => (match o with
    | some j => some (.lst (xs.set j d))
    | none => none)
theorem sto_ap (xs : List D) (i : Int) (d : D) : storeD (.lst xs) (.int i) d = stoK xs d (L2.ixN xs.length i) := rfl
theorem stoK_some (xs : List D) (j : Nat) (d : D) : stoK xs d (some j) = some (.lst (xs.set j d)) := rfl
def latK : Option Sl → Bool := fun s => (match s with
  | some (.own (.lst _)) => true
  | some (.io (.lst _)) => true
  | _ => false)
theorem lat_ap {i : Nat} {ρ : En} : lstAt i ρ = latK ρ[i]? := rfl
theorem latK_own (xs : List D) : latK (some (.own (.lst xs))) = true := rfl
theorem latK_io (xs : List D) : latK (some (.io (.lst xs))) = true := rfl
theorem wipe_nil {ρ : En} : wipeE ρ [] = ρ := rfl
theorem wipe_cons {ρ : En} {i : Nat} {is : List Nat} : wipeE ρ (i :: is) = (wipeE ρ is).set i .no := rfl
def bkS : Option Sl → Sl
  | some (.val d) => .val d
  | _ => .no
theorem back_nil {ρ0 ρ : En} : backE ρ0 ρ [] = ρ := rfl
theorem back_cons {ρ0 ρ : En} {i : Nat} {is : List Nat} : backE ρ0 ρ (i :: is) = (backE ρ0 ρ is).set i (bkS ρ0[i]?) := rfl
theorem bk_val (d : D) : bkS (some (.val d)) = .val d := rfl
theorem bk_no : bkS (some .no) = .no := rfl
theorem bk_jk (o : Option D) : bkS (some (jk o)) = jk o := by cases o <;> rfl
def nowS : Option Sl → Bool
  | some (.own _) => false
  | some (.io _) => false
  | none => false
  | _ => true
theorem now_val (d : D) : nowS (some (.val d)) = true := rfl
theorem now_no : nowS (some .no) = true := rfl
theorem now_jk (o : Option D) : nowS (some (jk o)) = true := by cases o <;> rfl
theorem now_nil {ρ : En} : noOwn ρ [] = true := rfl
theorem now_cons {ρ : En} {i : Nat} {is : List Nat} : noOwn ρ (i :: is) = (nowS ρ[i]? && noOwn ρ is) := rfl
theorem endT_ap {own : List Nat} {y : Option D} {ρ : En} : endT own y ρ = if noOwn ρ own = true then .ok y (wipeE ρ own) else .bad := rfl
theorem end_no {d : D} {ρ : En} : endE none d ρ = .ok d := rfl
def endK (d : D) : Option Sl → CR := fun s => (match s with
    | some (.io x) => .oki d x
    | _ => .bad)
theorem end_io {j : Nat} {d : D} {ρ : En} : endE (some j) d ρ = endK d ρ[j]? := rfl
theorem endK_io {d x : D} : endK d (some (.io x)) = .oki d x := rfl
theorem out_ret {io : Option Nat} {d : D} {ρ : En} : outE io (.ok (.ret d) ρ) = endE io d ρ := rfl
theorem out_nx {io : Option Nat} {ρ : En} : outE io (.ok .nx ρ) = endE io .non ρ := rfl
theorem out_err {e : Ex} {ρ : En} : outE none (.err e ρ) = .err e := rfl
theorem ofr_idx : Op.fresh .idx = false := rfl
theorem cn_nil (i : Nat) : ([] : List Nat).contains i = false := rfl
theorem cn_cons (i j : Nat) (l : List Nat) : (j :: l).contains i = (i == j || l.contains i) := List.contains_cons
theorem s_multn (xs : List D) (k : Nat) (h : xs.length * k ≤ lineN) (h0 : xs.length ≠ 0) : sem .mul [.tup xs, .int (k : Int)] = some (.tup (List.replicate k xs).flatten) := by
  have h1 : k ≤ lineN := Nat.le_trans (Nat.le_mul_of_pos_left k (by omega)) h
  rw [s_mult, if_pos]
  · rfl
  · unfold lineN at h1
    rw [decide_eq_true (by omega), decide_eq_true (by omega), decide_eq_true (by rw [Int.toNat_natCast]; exact h)] <;> rfl
theorem s_mulln (xs : List D) (k : Nat) (h : xs.length * k ≤ lineN) (h0 : xs.length ≠ 0) : sem .mul [.lst xs, .int (k : Int)] = some (.lst (List.replicate k xs).flatten) := by
  have h1 : k ≤ lineN := Nat.le_trans (Nat.le_mul_of_pos_left k (by omega)) h
  rw [s_mull, if_pos]
  · rfl
  · unfold lineN at h1
    rw [decide_eq_true (by omega), decide_eq_true (by omega), decide_eq_true (by rw [Int.toNat_natCast]; exact h)] <;> rfl
/-! loops -/
def stE : Option Nat → Nat → List D → En
  | _, 0, _ => []
  | io, n + 1, [] => .no :: stE io n []
  | none, n + 1, d :: ds => .val d :: stE none n ds
  | some 0, n + 1, d :: ds => .io d :: stE none n ds
  | some (j + 1), n + 1, d :: ds => .val d :: stE (some j) n ds
theorem stE_nil (io : Option Nat) : ∀ n : Nat, stE io n [] = List.replicate n .no
  | 0 => rfl
  | n + 1 => by rw [stE, stE_nil io n, List.replicate_succ]
theorem stE_map : ∀ (n : Nat) (io : Option Nat) (ds : List D), stE io n ds = (List.range n).map (fun j => (match ds[j]? with
  | some d => if io = some j then .io d else .val d
  | none => .no : Sl))
  | 0, io, ds => by cases ds <;> cases io <;> rfl
  | n + 1, io, [] => by
    rw [stE, stE_map n io [], List.range_succ_eq_map, List.map_cons, List.map_map]
    rfl
  | n + 1, none, d :: ds => by
    rw [stE, stE_map n none ds, List.range_succ_eq_map, List.map_cons, List.map_map]
    rfl
  | n + 1, some 0, d :: ds => by
    rw [stE, stE_map n none ds, List.range_succ_eq_map, List.map_cons, List.map_map]
    first | rfl | (congr 1
                   refine List.map_congr_left fun j _ => ?_
                   show _ = (match ds[j]? with
                     | some d => if some 0 = some (j + 1) then Sl.io d else Sl.val d
                     | none => Sl.no)
                   cases ds[j]? <;> simp)
  | n + 1, some (i + 1), d :: ds => by
    rw [stE, stE_map n (some i) ds, List.range_succ_eq_map, List.map_cons, List.map_map]
    refine congr (congrArg List.cons ?_) (List.map_congr_left fun j _ => ?_)
    · simp
    show _ = (match ds[j]? with
      | some d => if some (i + 1) = some (j + 1) then Sl.io d else Sl.val d
      | none => Sl.no)
    cases ds[j]? <;> simp
theorem startE_st (fd : Fd) (ds : List D) : startE fd ds = stE fd.io fd.nl ds := by
  rw [stE_map]
  unfold startE
  refine List.map_congr_left fun j _ => ?_
  cases ds[j]? <;> rfl
theorem st_z (io : Option Nat) (ds : List D) : stE io 0 ds = [] := by cases ds <;> cases io <;> rfl
theorem st_n (io : Option Nat) (n : Nat) : stE io (n + 1) [] = .no :: stE io n [] := by cases io <;> rfl
theorem st_c (n : Nat) (d : D) (ds : List D) : stE none (n + 1) (d :: ds) = .val d :: stE none n ds := rfl
theorem st_c0 (n : Nat) (d : D) (ds : List D) : stE (some 0) (n + 1) (d :: ds) = .io d :: stE none n ds := rfl
theorem st_cs (j n : Nat) (d : D) (ds : List D) : stE (some (j + 1)) (n + 1) (d :: ds) = .val d :: stE (some j) n ds := rfl
theorem W_run {P : List Fd} {f n np nl : Nat} {io : Option Nat} {ro : Bool} {body : Ss} {ds : List D} {Q : CR → Prop} (h : P[f]? = some ⟨np, nl, io, ro, body⟩) (hl : ds.length = np) 
    (hw : W (fun m => Q (outE io m)) (denSs (run P n) ro body (stE io nl ds))) : Q (run P (n + 1) f ds) := by
  unfold run
  rw [h]
  dsimp only
  rw [if_pos hl, startE_st]
  exact hw
theorem W_runE {P : List Fd} {f n np nl : Nat} {io : Option Nat} {ro : Bool} {body : Ss} {ds : List D} {r : CR} (h : P[f]? = some ⟨np, nl, io, ro, body⟩) (hl : ds.length = np)
    (hw : W (fun m => outE io m = r) (denSs (run P n) ro body (stE io nl ds))) : run P (n + 1) f ds = r := W_run (Q := (· = r)) h hl hw
theorem W_eq {β γ : Type} (f : β → γ) (m : β) (r : γ) : W (fun m => f m = r) m = (f m = r) := rfl
theorem for_ex {α : Type} {enc : α → D} {body : D → En → Out Fl} (I : List α → En → Prop) : ∀ (l pre : List α) (ρ : En), I pre ρ →
    (∀ (p : List α) (a : α) (post : List α), pre ++ l = p ++ a :: post → ∀ ρ, I p ρ → ∃ ρ', (body (enc a) ρ = .ok .nx ρ' ∨ body (enc a) ρ = .ok .ct ρ') ∧ I (p ++ [a]) ρ') → ∃ ρ', forLoop body (l.map enc) ρ = .ok .nx ρ' ∧ I (pre ++ l) ρ'
  | [], pre, ρ, h0, _ => ⟨ρ, rfl, by rw [List.append_nil]; exact h0⟩
  | a :: l, pre, ρ, h0, hs => by
    obtain ⟨ρ1, e, h1⟩ := hs pre a l rfl ρ h0
    obtain ⟨ρ2, e2, h2⟩ := for_ex I l (pre ++ [a]) ρ1 h1 (fun p b post hp => hs p b post (by rw [← hp]; simp))
    refine ⟨ρ2, ?_, by rw [List.append_assoc] at h2; exact h2⟩
    show forLoop body (enc a :: l.map enc) ρ = _
    unfold forLoop
    rcases e with e | e <;> (rw [e]; exact e2)
/-- what a turn is to show -/
def LQ {α : Type} (I : List α → En → Prop) (p : List α) (a : α) : Out Fl → Prop := fun m => ∃ ρ', (m = .ok .nx ρ' ∨ m = .ok .ct ρ') ∧ I (p ++ [a]) ρ'
theorem LQ_nx {α : Type} {I : List α → En → Prop} {p : List α} {a : α} {ρ : En} (h : I (p ++ [a]) ρ) : W (LQ I p a) (.ok .nx ρ) := ⟨ρ, .inl rfl, h⟩
theorem LQ_ct {α : Type} {I : List α → En → Prop} {p : List α} {a : α} {ρ : En} (h : I (p ++ [a]) ρ) : W (LQ I p a) (.ok .ct ρ) := ⟨ρ, .inr rfl, h⟩
/-- .. of a loop that may end early -/
def LR {α β : Type} (Q : Out β → Prop) (k : Fl → En → Out β) (I : List α → En → Prop) (p : List α) (a : α) : Out Fl → Prop := fun m => (∃ ρ', (m = .ok .nx ρ' ∨ m = .ok .ct ρ') ∧ I (p ++ [a]) ρ') ∨ (∃ d ρ', m = .ok (.ret d) ρ' ∧ W Q (k (.ret d) ρ')) ∨ (∃ e ρ', m = .err e ρ' ∧ W Q (.err e ρ' : Out β)) ∨ (∃ ρ', m = .ok .bk ρ' ∧ W Q (k .nx ρ'))
theorem LR_nx {α β : Type} {Q : Out β → Prop} {k : Fl → En → Out β} {I : List α → En → Prop} {p : List α} {a : α} {ρ : En} (h : I (p ++ [a]) ρ) : W (LR Q k I p a) (.ok .nx ρ) := .inl ⟨ρ, .inl rfl, h⟩
theorem LR_ct {α β : Type} {Q : Out β → Prop} {k : Fl → En → Out β} {I : List α → En → Prop} {p : List α} {a : α} {ρ : En} (h : I (p ++ [a]) ρ) : W (LR Q k I p a) (.ok .ct ρ) := .inl ⟨ρ, .inr rfl, h⟩
theorem LR_ret {α β : Type} {Q : Out β → Prop} {k : Fl → En → Out β} {I : List α → En → Prop} {p : List α} {a : α} {d : D} {ρ : En} (h : W Q (k (.ret d) ρ)) : W (LR Q k I p a) (.ok (.ret d) ρ) := .inr (.inl ⟨d, ρ, rfl, h⟩)
theorem LR_err {α β : Type} {Q : Out β → Prop} {k : Fl → En → Out β} {I : List α → En → Prop} {p : List α} {a : α} {e : Ex} {ρ : En} (h : W Q (.err e ρ : Out β)) : W (LR Q k I p a) (.err e ρ) := .inr (.inr (.inl ⟨e, ρ, rfl, h⟩))
theorem LR_bk {α β : Type} {Q : Out β → Prop} {k : Fl → En → Out β} {I : List α → En → Prop} {p : List α} {a : α} {ρ : En} (h : W Q (k .nx ρ)) : W (LR Q k I p a) (.ok .bk ρ) := .inr (.inr (.inr ⟨ρ, rfl, h⟩))
/-- .. of a while -/
def WQ (I : Nat → En → Prop) (n : Nat) : Out Fl → Prop := fun r => ∃ ρ2 m, (r = .ok .nx ρ2 ∨ r = .ok .ct ρ2) ∧ m < n ∧ I m ρ2
theorem WQ_nx {I : Nat → En → Prop} {n : Nat} {ρ : En} (m : Nat) (h1 : m < n) (h : I m ρ) : W (WQ I n) (.ok .nx ρ) := ⟨ρ, m, .inl rfl, h1, h⟩
/-- .. of a comprehension's turn -/
def CQ {α γ : Type} (eo : γ → D) (I : List α → List γ → En → Prop) (p : List α) (a : α) (o : List γ) : Out (Option D) → Prop := fun m => ∃ ρ', (∃ y, m = .ok (some (eo y)) ρ' ∧ I (p ++ [a]) (o ++ [y]) ρ') ∨ (m = .ok none ρ' ∧ I (p ++ [a]) o ρ')
theorem CQ_some {α γ : Type} {eo : γ → D} {I : List α → List γ → En → Prop} {p : List α} {a : α} {o : List γ} {ρ : En} (y : γ) (h : I (p ++ [a]) (o ++ [y]) ρ) : W (CQ eo I p a o) (.ok (some (eo y)) ρ) := ⟨ρ, .inl ⟨y, rfl, h⟩⟩
theorem CQ_none {α γ : Type} {eo : γ → D} {I : List α → List γ → En → Prop} {p : List α} {a : α} {o : List γ} {ρ : En} (h : I (p ++ [a]) o ρ) : W (CQ eo I p a o) (.ok none ρ) := ⟨ρ, .inr ⟨rfl, h⟩⟩
/-- a for that comes to its end -/
theorem W_for {α β : Type} {Q : Out β → Prop} {l : List α} {enc : α → D} {body : D → En → Out Fl} {k : Fl → En → Out β} {ρ : En} (I : List α → En → Prop) (h0 : I [] ρ)
    (hs : ∀ (p : List α) (a : α) (post : List α), l = p ++ a :: post → ∀ ρ, I p ρ → W (LQ I p a) (body (enc a) ρ))
    (hk : ∀ ρ', I l ρ' → W Q (k .nx ρ')) : W Q ((forLoop body (l.map enc) ρ).to k) := by
  obtain ⟨ρ', e, h⟩ := for_ex I l [] ρ h0 hs
  rw [e]
  exact hk ρ' h
theorem for_exR {α : Type} {enc : α → D} {body : D → En → Out Fl} {β : Type} {k : Fl → En → Out β} {Q : Out β → Prop} (I : List α → En → Prop) : ∀ (l pre : List α) (ρ : En), I pre ρ →
    (∀ (p : List α) (a : α) (post : List α), pre ++ l = p ++ a :: post → ∀ ρ, I p ρ → (∃ ρ', (body (enc a) ρ = .ok .nx ρ' ∨ body (enc a) ρ = .ok .ct ρ') ∧ I (p ++ [a]) ρ') ∨ (∃ d ρ', body (enc a) ρ = .ok (.ret d) ρ' ∧ W Q (k (.ret d) ρ')) ∨ (∃ e ρ', body (enc a) ρ = .err e ρ' ∧ W Q (.err e ρ' : Out β)) ∨ (∃ ρ', body (enc a) ρ = .ok .bk ρ' ∧ W Q (k .nx ρ'))) →
    (∀ ρ', I (pre ++ l) ρ' → W Q (k .nx ρ')) → W Q ((forLoop body (l.map enc) ρ).to k)
  | [], pre, ρ, h0, _, hk => hk ρ (by rw [List.append_nil]; exact h0)
  | a :: l, pre, ρ, h0, hs, hk => by
    show W Q ((forLoop body (enc a :: l.map enc) ρ).to k)
    unfold forLoop
    rcases hs pre a l rfl ρ h0 with ⟨ρ1, e, h1⟩ | ⟨d, ρ1, e, h1⟩ | ⟨d, ρ1, e, h1⟩ | ⟨ρ1, e, h1⟩
    · have := for_exR (β := β) (k := k) (Q := Q) I l (pre ++ [a]) ρ1 h1 (fun p b post hp => hs p b post (by rw [← hp]; simp)) (fun ρ' h => hk ρ' (by rw [List.append_assoc] at h; exact h))
      rcases e with e | e <;> (rw [e]; exact this)
    · rw [e]; exact h1
    · rw [e]; exact h1
    · rw [e]; exact h1
/-- a for that may end early -/
theorem W_forR {α β : Type} {Q : Out β → Prop} {l : List α} {enc : α → D} {body : D → En → Out Fl} {k : Fl → En → Out β} {ρ : En} (I : List α → En → Prop) (h0 : I [] ρ)
    (hs : ∀ (p : List α) (a : α) (post : List α), l = p ++ a :: post → ∀ ρ, I p ρ → W (LR Q k I p a) (body (enc a) ρ))
    (hk : ∀ ρ', I l ρ' → W Q (k .nx ρ')) : W Q ((forLoop body (l.map enc) ρ).to k) := for_exR I l [] ρ h0 hs hk
/-- a while: a measure that falls -/
theorem whl_ex {c : En → Out D} {body : En → Out Fl} (I : Nat → En → Prop) : ∀ (n fuel : Nat) (ρ : En), I n ρ → n < fuel →
    (∀ n ρ, I n ρ → (∃ ρ1, c ρ = .ok (.bl false) ρ1 ∧ I n ρ1) ∨ (∃ ρ1 ρ2 m, c ρ = .ok (.bl true) ρ1 ∧ (body ρ1 = .ok .nx ρ2 ∨ body ρ1 = .ok .ct ρ2) ∧ m < n ∧ I m ρ2)) →
    ∃ m ρ1 ρ', c ρ1 = .ok (.bl false) ρ' ∧ whlLoop c body fuel ρ = .ok .nx ρ' ∧ I m ρ'
  | n, 0, _, _, h, _ => absurd h (Nat.not_lt_zero _)
  | n, fuel + 1, ρ, h0, hf, hs => by
    rcases hs n ρ h0 with ⟨ρ1, e, h1⟩ | ⟨ρ1, ρ2, m, e, e2, hm, h1⟩
    · refine ⟨n, ρ, ρ1, e, ?_, h1⟩
      unfold whlLoop
      rw [e]
    · obtain ⟨m', r, r', q1, q2, q3⟩ := whl_ex I m fuel ρ2 h1 (by omega) hs
      refine ⟨m', r, r', q1, ?_, q3⟩
      unfold whlLoop
      rw [e]
      dsimp only
      rcases e2 with e2 | e2 <;> (rw [e2]; exact q2)
/-- a while whose test changes nothing; I: the measure, the slots -/
theorem W_whl {β : Type} {Q : Out β → Prop} {c : En → Out D} {body : En → Out Fl} {k : Fl → En → Out β} {ρ : En} (I : Nat → En → Prop) (n : Nat) (hn : n < WF) (h0 : I n ρ)
    (hs : ∀ n ρ, I n ρ → (c ρ = .ok (.bl false) ρ ∧ W Q (k .nx ρ)) ∨ (c ρ = .ok (.bl true) ρ ∧ W (WQ I n) (body ρ))) :
    W Q ((whlLoop c body WF ρ).to k) := by
  have key : ∀ (fuel n : Nat) (ρ : En), I n ρ → n < fuel → W Q ((whlLoop c body fuel ρ).to k) := by
    intro fuel
    induction fuel with
    | zero => intro n ρ _ h; exact absurd h (Nat.not_lt_zero _)
    | succ fuel ih =>
      intro n ρ h0 hf
      unfold whlLoop
      rcases hs n ρ h0 with ⟨e, h1⟩ | ⟨e, ρ2, m, e2, hm, h1⟩
      · rw [e]; exact h1
      · rw [e]
        dsimp only
        rcases e2 with e2 | e2 <;> (rw [e2]; exact ih m ρ2 h1 (by omega))
  exact key WF n ρ h0 hn
theorem comp_eqL {α : Type} {enc : α → D} {body : D → En → Out (Option D)} {ρ : En} {g : α → Option D} : ∀ (l : List α), (∀ a ∈ l, body (enc a) ρ = .ok (g a) ρ) → compLoop body (l.map enc) ρ = .ok (l.filterMap g) ρ
  | [], _ => rfl
  | a :: l, h => by
    show compLoop body (enc a :: l.map enc) ρ = _
    unfold compLoop
    rw [h a List.mem_cons_self, List.filterMap_cons]
    have ih := comp_eqL (g := g) l fun b hb => h b (List.mem_cons_of_mem _ hb)
    cases g a with
    | none => exact ih
    | some y => dsimp only; rw [ih]
/-- a comprehension that only reads -/
theorem W_comp {α β : Type} {Q : Out β → Prop} {l : List α} {enc : α → D} {body : D → En → Out (Option D)} {k : D → En → Out β} {ρ ρw : En} {own : List Nat} (g : α → Option D)
    (hg : ∀ a ∈ l, body (enc a) ρw = .ok (g a) ρw) (hl : (l.filterMap g).length ≤ lineN) (ho : noOwn ρ own = true) (hk : W Q (k (.lst (l.filterMap g)) (backE ρ ρw own))) :
    W Q ((compEnd own ρ (compLoop body (l.map enc) ρw)).to k) := by
  rw [comp_eqL l hg]
  unfold compEnd
  dsimp only
  rw [if_pos (by rw [ho, decide_eq_true hl]; rfl)]
  exact hk
/-- one that takes every item -/
theorem W_map {α β : Type} {Q : Out β → Prop} {l : List α} {enc : α → D} {body : D → En → Out (Option D)} {k : D → En → Out β} {ρ ρw : En} {own : List Nat} (g : α → D)
    (hg : ∀ a ∈ l, body (enc a) ρw = .ok (some (g a)) ρw) (hl : l.length ≤ lineN) (ho : noOwn ρ own = true) (hk : W Q (k (.lst (l.map g)) (backE ρ ρw own))) :
    W Q ((compEnd own ρ (compLoop body (l.map enc) ρw)).to k) := by
  have e : ∀ l : List α, l.filterMap (fun a => some (g a)) = l.map g := fun l => by
    induction l with
    | nil => rfl
    | cons a l ih => rw [List.filterMap_cons, List.map_cons, ih]
  refine W_comp (fun a => some (g a)) hg ?_ ho ?_ <;> rw [e]
  · rw [List.length_map]; exact hl
  · exact hk
/-- one with a test -/
theorem W_filter {α β : Type} {Q : Out β → Prop} {l : List α} {enc : α → D} {body : D → En → Out (Option D)} {k : D → En → Out β} {ρ ρw : En} {own : List Nat} (p : α → Bool) (g : α → D)
    (hg : ∀ a ∈ l, body (enc a) ρw = .ok (if p a = true then some (g a) else none) ρw) (hl : l.length ≤ lineN) (ho : noOwn ρ own = true) (hk : W Q (k (.lst ((l.filter p).map g)) (backE ρ ρw own))) :
    W Q ((compEnd own ρ (compLoop body (l.map enc) ρw)).to k) := by
  have e : ∀ l : List α, l.filterMap (fun a => if p a = true then some (g a) else none) = (l.filter p).map g := fun l => by
    induction l with
    | nil => rfl
    | cons a l ih =>
      rw [List.filterMap_cons, List.filter_cons, ih]
      by_cases h : p a = true
      · rw [if_pos h, if_pos h] <;> rfl
      · rw [if_neg h, if_neg h]
  refine W_comp (fun a => if p a = true then some (g a) else none) hg ?_ ho ?_ <;> rw [e]
  · rw [List.length_map]; exact Nat.le_trans (List.length_filter_le _ _) hl
  · exact hk
theorem W_filterE {α β : Type} {Q : Out β → Prop} {ds : List D} {l : List α} {enc : α → D} {body : D → En → Out (Option D)} {k : D → En → Out β} {ρ ρw : En} {own : List Nat} (p : α → Bool) (g : α → D) (he : ds = l.map enc)
    (hg : ∀ a ∈ l, body (enc a) ρw = .ok (if p a = true then some (g a) else none) ρw) (hl : l.length ≤ lineN) (ho : noOwn ρ own = true) (hk : W Q (k (.lst ((l.filter p).map g)) (backE ρ ρw own))) :
    W Q ((compEnd own ρ (compLoop body ds ρw)).to k) := he ▸ W_filter p g hg hl ho hk
/-- a comprehension that changes slots on its way -/
theorem comp_ex {α γ : Type} {enc : α → D} {eo : γ → D} {body : D → En → Out (Option D)} (I : List α → List γ → En → Prop) : ∀ (l pre : List α) (out : List γ) (ρ : En), I pre out ρ →
    (∀ (p : List α) (a : α) (post : List α), pre ++ l = p ++ a :: post → ∀ o ρ, I p o ρ → ∃ ρ', (∃ y, body (enc a) ρ = .ok (some (eo y)) ρ' ∧ I (p ++ [a]) (o ++ [y]) ρ') ∨ (body (enc a) ρ = .ok none ρ' ∧ I (p ++ [a]) o ρ')) →
    ∃ ys ρ', compLoop body (l.map enc) ρ = .ok (ys.map eo) ρ' ∧ I (pre ++ l) (out ++ ys) ρ'
  | [], pre, out, ρ, h0, _ => ⟨[], ρ, rfl, by rw [List.append_nil, List.append_nil]; exact h0⟩
  | a :: l, pre, out, ρ, h0, hs => by
    obtain ⟨ρ1, h⟩ := hs pre a l rfl out ρ h0
    rcases h with ⟨y, e, h1⟩ | ⟨e, h1⟩
    · obtain ⟨ys, ρ2, e2, h2⟩ := comp_ex I l (pre ++ [a]) (out ++ [y]) ρ1 h1 (fun p b post hp => hs p b post (by rw [← hp]; simp))
      refine ⟨y :: ys, ρ2, ?_, by simpa using h2⟩
      show compLoop body (enc a :: l.map enc) ρ = _
      unfold compLoop
      rw [e]
      dsimp only
      rw [e2] <;> rfl
    · obtain ⟨ys, ρ2, e2, h2⟩ := comp_ex I l (pre ++ [a]) out ρ1 h1 (fun p b post hp => hs p b post (by rw [← hp]; simp))
      refine ⟨ys, ρ2, ?_, by simpa using h2⟩
      show compLoop body (enc a :: l.map enc) ρ = _
      unfold compLoop
      rw [e]
      exact e2
theorem W_compI {α β γ : Type} {Q : Out β → Prop} {l : List α} {enc : α → D} {eo : γ → D} {body : D → En → Out (Option D)} {k : D → En → Out β} {ρ ρw : En} {own : List Nat} (I : List α → List γ → En → Prop) (h0 : I [] [] ρw)
    (hs : ∀ (p : List α) (a : α) (post : List α), l = p ++ a :: post → ∀ o ρ, I p o ρ → W (CQ eo I p a o) (body (enc a) ρ))
    (hl : ∀ (ys : List γ) (ρ' : En), I l ys ρ' → ys.length ≤ lineN) (ho : noOwn ρ own = true) (hk : ∀ ys ρ', I l ys ρ' → W Q (k (.lst (ys.map eo)) (backE ρ ρ' own))) :
    W Q ((compEnd own ρ (compLoop body (l.map enc) ρw)).to k) := by
  obtain ⟨ys, ρ', e, h⟩ := comp_ex I l [] [] ρw h0 hs
  rw [List.nil_append, List.nil_append] at h
  rw [e]
  unfold compEnd
  dsimp only
  rw [if_pos (by rw [ho, List.length_map, decide_eq_true (hl ys ρ' h)]; rfl)]
  exact hk ys ρ' h
/-! what is walked -/
theorem rngD_map (a b : Int) : rngD a b = ((List.range (b - a).toNat).map fun i : Nat => a + (i : Int)).map D.int := by
  unfold rngD
  rw [List.map_map] <;> rfl
theorem enmD_map : ∀ (n : Nat) (ds : List D), enmD n ds = (ds.zipIdx n).map fun p => D.tup [.int (p.2 : Nat), p.1]
  | _, [] => rfl
  | n, d :: ds => by
    rw [enmD, List.zipIdx_cons, List.map_cons, enmD_map (n + 1) ds]
theorem zipD_map : ∀ (xs ys : List D), zipD xs ys = (xs.zip ys).map fun p => D.tup [p.1, p.2]
  | [], ys => by cases ys <;> rfl
  | x :: xs, [] => rfl
  | x :: xs, y :: ys => by rw [zipD, List.zip_cons_cons, List.map_cons, zipD_map xs ys]
theorem zipD_enc {α β : Type} {ea : α → D} {eb : β → D} : ∀ (xs : List α) (ys : List β), zipD (xs.map ea) (ys.map eb) = (xs.zip ys).map fun p => D.tup [ea p.1, eb p.2]
  | [], ys => by cases ys <;> rfl
  | x :: xs, [] => rfl
  | x :: xs, y :: ys => by
    show zipD (ea x :: xs.map ea) (eb y :: ys.map eb) = _
    rw [zipD, List.zip_cons_cons, List.map_cons, zipD_enc xs ys]
theorem enmD_enc {α : Type} {ea : α → D} : ∀ (n : Nat) (xs : List α), enmD n (xs.map ea) = (xs.zipIdx n).map fun p => D.tup [.int (p.2 : Nat), ea p.1]
  | _, [] => rfl
  | n, d :: ds => by
    show enmD n (ea d :: ds.map ea) = _
    rw [enmD, List.zipIdx_cons, List.map_cons, enmD_enc (n + 1) ds]
theorem ofr_add : Op.fresh .add = true := rfl
theorem ofr_sub : Op.fresh .sub = true := rfl
theorem ofr_mul : Op.fresh .mul = true := rfl
theorem ofr_fdiv : Op.fresh .fdiv = true := rfl
theorem ofr_mod : Op.fresh .mod = true := rfl
theorem ofr_pow : Op.fresh .pow = true := rfl
theorem ofr_shl : Op.fresh .shl = true := rfl
theorem ofr_neg : Op.fresh .neg = true := rfl
theorem ofr_eq : Op.fresh .eq = true := rfl
theorem ofr_ne : Op.fresh .ne = true := rfl
theorem ofr_lt : Op.fresh .lt = true := rfl
theorem ofr_le : Op.fresh .le = true := rfl
theorem ofr_gt : Op.fresh .gt = true := rfl
theorem ofr_ge : Op.fresh .ge = true := rfl
theorem ofr_isN : Op.fresh .isN = true := rfl
theorem ofr_notN : Op.fresh .notN = true := rfl
theorem ofr_inn : Op.fresh .inn = true := rfl
theorem ofr_nin : Op.fresh .nin = true := rfl
theorem ofr_len : Op.fresh .len = true := rfl
theorem ofr_sum : Op.fresh .sum = true := rfl
theorem ofr_max1 : Op.fresh .max1 = true := rfl
theorem ofr_min1 : Op.fresh .min1 = true := rfl
theorem ofr_max2 : Op.fresh .max2 = true := rfl
theorem ofr_min2 : Op.fresh .min2 = true := rfl
theorem ofr_sorted : Op.fresh .sorted = true := rfl
theorem ofr_tuple : Op.fresh .tuple = true := rfl
theorem ofr_list : Op.fresh .list = true := rfl
theorem ofr_abs : Op.fresh .abs = true := rfl
theorem ofr_int : Op.fresh .int = true := rfl
theorem ofr_str : Op.fresh .str = true := rfl
theorem ofr_all : Op.fresh .all = true := rfl
theorem ofr_any : Op.fresh .any = true := rfl
theorem ofr_rngL1 : Op.fresh .rngL1 = true := rfl
theorem ofr_rngL2 : Op.fresh .rngL2 = true := rfl
theorem ofr_rngT1 : Op.fresh .rngT1 = true := rfl
theorem ofr_rngT2 : Op.fresh .rngT2 = true := rfl
theorem ofr_rev : Op.fresh .rev = true := rfl
theorem ofr_isB : Op.fresh .isB = true := rfl
theorem ofr_notB : Op.fresh .notB = true := rfl
theorem ofr_sset : Op.fresh .sset = true := rfl
theorem ofr_lset : Op.fresh .lset = true := rfl
theorem ofr_slc (a b : Bool) : Op.fresh (.slc a b) = true := rfl
theorem ofr_isi (t : Ty) : Op.fresh (.isi t) = true := rfl
/-! small facts -/
theorem mulOk_l {i j : Int} (h : i.natAbs < 18446744073709551616) : mulOk i j = true := by simp [mulOk, h]
theorem mulOk_r {i j : Int} (h : j.natAbs < 18446744073709551616) : mulOk i j = true := by simp [mulOk, h]
theorem rngOk_of {a b : Int} (h1 : -4611686018427387904 ≤ a) (h2 : a < 4611686018427387904) (h3 : -4611686018427387904 ≤ b) (h4 : b < 4611686018427387904) : rngOk a b = true := by simp [rngOk, h1, h2, h3, h4]
theorem cut_take (xs : List D) {k : Nat} (h : k ≤ xs.length) : cutD xs none (some (k : Int)) = xs.take k := by
  unfold cutD
  rw [HT.sIx_none, HT.sIx_nat, List.drop_zero, Nat.min_eq_left h, Nat.sub_zero]
theorem cut_drop (xs : List D) (k : Nat) : cutD xs (some (k : Int)) none = xs.drop k := by
  unfold cutD
  rw [HT.sIx_none, HT.sIx_nat]
  rcases Nat.le_total k xs.length with h | h
  · rw [Nat.min_eq_left h]
    exact List.take_of_length_le (by rw [List.length_drop]; exact Nat.le_refl _)
  · rw [Nat.min_eq_right h, List.drop_of_length_le (Nat.le_refl _), List.drop_of_length_le h]
    exact List.take_nil
theorem cut_all (xs : List D) : cutD xs none none = xs := by
  unfold cutD
  rw [HT.sIx_none, HT.sIx_none, List.drop_zero, Nat.sub_zero]
  exact List.take_length
def vs0 := And.intro @to_ok (And.intro @to_err (And.intro @to_bad (And.intro @thK_ap (And.intro @to_to (And.intro @slOk_jk (And.intro @slOk_val (And.intro @slOk_own (And.intro @slOk_no (And.intro @slOk_io (And.intro @dSs_nil (And.intro @dSs_cons (And.intro @seqK_nx (And.intro @seqK_ret (And.intro @seqK_bk (And.intro @seqK_ct (And.intro @bindK_ok (And.intro @bindN_ok (And.intro @forB_ap (@compB_ap)))))))))))))))))))
def vs1 := And.intro @compC1_ap (And.intro @compC2_ap (And.intro @compC3_ap (And.intro @whlB_ap (And.intro @whlC_ap (And.intro @dS_asg (And.intro @asgK_n (And.intro @asgK_t (And.intro @asgK_ix (And.intro @dS_par (And.intro @parK_ap (And.intro @dPar_nil (And.intro @dPar_cons (And.intro @parJ_ap (And.intro @consS_ap (And.intro @put_nil (And.intro @put_cons (And.intro @setK_ap (And.intro @dS_meth (@methK_ap)))))))))))))))))))
def vs2 := And.intro @dS_ex (And.intro @exK_ap (And.intro @dS_iff (And.intro @iffK_bl (And.intro @dS_for (And.intro @dS_whl (And.intro @dS_ret0 (And.intro @retK0_ap (And.intro @dS_ret1 (And.intro @dS_retn (And.intro @dS_rse0 (And.intro @dS_pas (And.intro @dS_brk (And.intro @dS_cnt (And.intro @dS_bad (And.intro @dE_cst (And.intro @dE_var (And.intro @dE_glo (And.intro @dE_fnv (@dE_tup)))))))))))))))))))
def vs3 := And.intro @tupK_ap (And.intro @dE_lst (And.intro @lstK_ap (And.intro @dE_op (And.intro @dE_and (And.intro @andK_bl (And.intro @dE_or (And.intro @orK_bl (And.intro @dE_not (And.intro @notK_bl (And.intro @dE_ite (And.intro @iteK_bl (And.intro @dE_chn (And.intro @chnI_ap (And.intro @chnJ_ap (And.intro @chnK_bl (And.intro @chnE_ap (And.intro @dE_sl2 (And.intro @sl0K_ap (@sl1K_int)))))))))))))))))))
def vs4 := And.intro @sl2K_int (And.intro @dE_call (And.intro @dE_comp (And.intro @compK_ap (And.intro @forK_ap (And.intro @dEs_nil (And.intro @dEs_cons (And.intro @esJ_ap (And.intro @consD_ap (And.intro @dOs_nil (And.intro @dOs_cons (And.intro @osJ_ap (And.intro @consP_ap (And.intro @dCs_nil (And.intro @dCs_cons (And.intro @csK_bl (And.intro @dI_e (And.intro @dI_r1 (And.intro @dI_r2 (@rng2J_ap)))))))))))))))))))
def vs5 := And.intro @dI_zip (And.intro @zipJ_ap (And.intro @dI_enm (And.intro @itK_tup (And.intro @itK_lst (And.intro @enmK_tup (And.intro @enmK_lst (And.intro @rng1K_int (And.intro @rng2K_int (And.intro @zipK_tup (And.intro @zipK_lst (And.intro @bT_n (And.intro @bT_t (And.intro @bTs_nil (And.intro @bTs_cons (And.intro @bTJ_ap (And.intro @bT_ix (And.intro @ixJ_ok (And.intro @dO_pk (@inlK_ap)))))))))))))))))))
def vs6 := And.intro @dO_cst (And.intro @dO_var (And.intro @dO_glo (And.intro @dO_fnv (And.intro @dO_tup (And.intro @dO_lst (And.intro @dO_op (And.intro @dO_and (And.intro @dO_or (And.intro @dO_not (And.intro @dO_ite (And.intro @dO_chn (And.intro @dO_sl2 (And.intro @dO_call (And.intro @dO_comp (And.intro @opD_ap (And.intro @opK_some (And.intro @opR_some (And.intro @rdV_ap (@rdK_val)))))))))))))))))))
def vs7 := And.intro @rdK_own (And.intro @pkD_ap (And.intro @pkK_val (And.intro @pkK_own (And.intro @pkK_io (And.intro @g_nil (And.intro @g_cons (And.intro @gCons_some (And.intro @g_inl (And.intro @g_inr (And.intro @sg_val (And.intro @sg_own (And.intro @sg_io (And.intro @mk_f (And.intro @mk_t (And.intro @sl_nil (And.intro @sl_inl (And.intro @sl_inr (And.intro @fz_nil (@fz_cons)))))))))))))))))))
def vs8 := And.intro @fzK_own (And.intro @fzK_val (And.intro @fzK_io (And.intro @nio_nil (And.intro @nio_cons (And.intro @nioK_val (And.intro @nioK_own (And.intro @nioK_no (And.intro @nioK_io (And.intro @callD_no (And.intro @callA_some (And.intro @callB_ok (And.intro @callB_err (And.intro @callD_io (And.intro @callI_some (And.intro @callJ_own (And.intro @callJ_io (And.intro @s_addi (And.intro @s_addt (@s_addl)))))))))))))))))))
def vs9 := And.intro @s_addib (And.intro @s_sub (And.intro @s_mul (And.intro @s_fdiv (And.intro @s_mod (And.intro @s_neg (And.intro @s_eq (And.intro @s_ne (And.intro @s_lt (And.intro @s_le (And.intro @s_gt (And.intro @s_ge (And.intro @s_isN (And.intro @s_notN (And.intro @s_inn (And.intro @s_nin (And.intro @s_int (And.intro @s_inl (And.intro @s_idxt (@s_idxl)))))))))))))))))))
def vs10 := And.intro @s_slct (And.intro @s_slcl (And.intro @s_slct0 (And.intro @s_slcl0 (And.intro @s_slct1 (And.intro @s_slcl1 (And.intro @s_slct2 (And.intro @s_slcl2 (And.intro @s_lent (And.intro @s_lenl (And.intro @s_lenf (And.intro @s_sumi (And.intro @s_max1 (And.intro @s_min1 (And.intro @s_max2 (And.intro @s_min2 (And.intro @s_sorted (And.intro @s_tupt (And.intro @s_tupl (@s_lstt)))))))))))))))))))
def vs11 := And.intro @s_lstl (And.intro @s_lstf (And.intro @s_abs (And.intro @s_inti (And.intro @s_intb (And.intro @s_all (And.intro @s_any (And.intro @s_isi (And.intro @s_revt (And.intro @s_revl (And.intro @s_isB (And.intro @s_notB (And.intro @s_ssetl (And.intro @s_ssett (And.intro @s_rngL1 (And.intro @s_rngL2 (And.intro @s_rngT1 (And.intro @s_rngT2 (And.intro @ty_int (@ty_bl)))))))))))))))))))
def vs12 := And.intro @ty_non (And.intro @ty_str (And.intro @ty_tup (And.intro @ty_lst (And.intro @f_non (And.intro @f_bl (And.intro @f_int (And.intro @f_tup (And.intro @f_lst (And.intro @f_nil (And.intro @f_cons (And.intro @e_bl (And.intro @e_int (And.intro @e_tup (And.intro @e_lst (And.intro @e_nil (And.intro @e_nc (And.intro @e_cons (And.intro @m_non (@m_bl)))))))))))))))))))
def vs13 := And.intro @m_int (And.intro @m_str (And.intro @m_tup (And.intro @m_lst (And.intro @m_fn (And.intro @nm_non (And.intro @nm_bl (And.intro @nm_int (And.intro @nm_str (And.intro @nm_tup (And.intro @nm_lst (And.intro @nms_nil (And.intro @nms_cons (And.intro @inner_lst (And.intro @fr_lst (And.intro @fr_op (And.intro @fr_sl2 (And.intro @fr_comp (And.intro @fr_call (@fr_ite)))))))))))))))))))
def vs14 := And.intro @fr_cst (And.intro @fr_var (And.intro @fr_glo (And.intro @fr_tup (And.intro @fr_and (And.intro @fr_or (And.intro @fr_not (And.intro @fr_chn (And.intro @st_z (And.intro @st_n (And.intro @st_c (And.intro @st_c0 (And.intro @st_cs (And.intro @rO_var (And.intro @rvK_own (And.intro @rvK_val (And.intro @retK_ap (And.intro @rO_cst (And.intro @rO_glo (@rO_tup)))))))))))))))))))
def vs15 := And.intro @rO_lst (And.intro @rO_op (And.intro @rO_ite (And.intro @rO_sl2 (And.intro @rO_call (And.intro @rO_comp (And.intro @upd_ap (And.intro @updK_own (And.intro @updK_io (And.intro @updR_some (And.intro @app_ap (And.intro @app_ex (And.intro @app_et (And.intro @sto_ap (And.intro @stoK_some (And.intro @lat_ap (And.intro @latK_own (And.intro @latK_io (And.intro @wipe_nil (@wipe_cons)))))))))))))))))))
def vs16 := And.intro @back_nil (And.intro @back_cons (And.intro @bk_val (And.intro @bk_no (And.intro @bk_jk (And.intro @now_val (And.intro @now_no (And.intro @now_jk (And.intro @now_nil (And.intro @now_cons (And.intro @endT_ap (And.intro @end_no (And.intro @end_io (And.intro @endK_io (And.intro @out_ret (And.intro @out_nx (And.intro @out_err (And.intro @ofr_idx (And.intro @ofr_slc (@ofr_isi)))))))))))))))))))
def vs17 := And.intro @ofr_add (And.intro @ofr_sub (And.intro @ofr_mul (And.intro @ofr_fdiv (And.intro @ofr_mod (And.intro @ofr_pow (And.intro @ofr_shl (And.intro @ofr_neg (And.intro @ofr_eq (And.intro @ofr_ne (And.intro @ofr_lt (And.intro @ofr_le (And.intro @ofr_gt (And.intro @ofr_ge (And.intro @ofr_isN (And.intro @ofr_notN (And.intro @ofr_inn (And.intro @ofr_nin (And.intro @ofr_len (@ofr_sum)))))))))))))))))))
def vs18 := And.intro @ofr_max1 (And.intro @ofr_min1 (And.intro @ofr_max2 (And.intro @ofr_min2 (And.intro @ofr_sorted (And.intro @ofr_tuple (And.intro @ofr_list (And.intro @ofr_abs (And.intro @ofr_int (And.intro @ofr_str (And.intro @ofr_all (And.intro @ofr_any (And.intro @ofr_rngL1 (And.intro @ofr_rngL2 (And.intro @ofr_rngT1 (And.intro @ofr_rngT2 (And.intro @ofr_rev (And.intro @ofr_isB (And.intro @ofr_notB (@ofr_sset)))))))))))))))))))
def vs19 := And.intro @ofr_lset (And.intro @setSl_eq (And.intro (@List.getElem?_cons_zero Sl) (And.intro (@List.getElem?_cons_zero Pd) (And.intro (@List.getElem?_cons_succ Sl) (And.intro (@List.getElem?_cons_succ Pd) (And.intro (@List.set_cons_zero Sl) (And.intro (@List.set_cons_succ Sl) (And.intro @Bool.and_true (And.intro @Bool.true_and (And.intro @Bool.and_false (And.intro @Bool.false_and (And.intro @Bool.and_self (And.intro @Bool.or_true (And.intro @Bool.true_or (And.intro @Bool.or_false (And.intro @Bool.false_or (And.intro @Bool.not_true (And.intro @Bool.not_false (@Bool.and_eq_true)))))))))))))))))))
def vs20 := And.intro @Bool.or_eq_true (And.intro @decide_eq_true_eq (And.intro (@beq_iff_eq Int _ _) (And.intro (@beq_iff_eq Bool _ _) (And.intro (@eq_self Bool) (And.intro (@eq_self Int) (And.intro (@eq_self Nat) (And.intro (@beq_self_eq_true Int _ _) (And.intro (@beq_self_eq_true Bool _ _) (And.intro @and_true (And.intro @true_and (And.intro @and_self (And.intro @or_true (And.intro @true_or (And.intro @or_false (And.intro @false_or (And.intro @and_false (And.intro @false_and (And.intro @not_true_eq_false (@not_false_eq_true)))))))))))))))))))
def vs21 := And.intro @Bool.false_eq_true (And.intro @Bool.true_eq_false (And.intro @decide_true (And.intro @decide_false (And.intro (@Option.map_some Bool D) (And.intro (@List.length_cons D) (And.intro (@List.length_nil D) (And.intro (@List.eraseIdx_cons_zero Pd) (And.intro (@List.eraseIdx_cons_succ Pd) (And.intro @Bool.not_eq_true' (And.intro @Bool.not_eq_false' (And.intro @cn_nil (@cn_cons))))))))))))
def vstep := And.intro vs0 (And.intro vs1 (And.intro vs2 (And.intro vs3 (And.intro vs4 (And.intro vs5 (And.intro vs6 (And.intro vs7 (And.intro vs8 (And.intro vs9 (And.intro vs10 (And.intro vs11 (And.intro vs12 (And.intro vs13 (And.intro vs14 (And.intro vs15 (And.intro vs16 (And.intro vs17 (And.intro vs18 (And.intro vs19 (And.intro vs20 (vs21)))))))))))))))))))))
end VT
set_option Elab.async false
set_option linter.all false
set_option maxRecDepth 100000
/-! VsTb: items by place, cups of draws, kinds; what all laws share. -/
namespace VT
open VS
def tlSs : Nat → Ss → Ss
  | 0, s => s
  | n + 1, .cons _ r => tlSs n r
  | _ + 1, .nil => .nil
theorem ix0 (a : D) (l : List D) : ixD (a :: l) 0 = some a := L2.atI_nat (j := 0) rfl
theorem ix1 (a b : D) (l : List D) : ixD (a :: b :: l) 1 = some b := L2.atI_nat (j := 1) rfl
theorem ix2 (a b c : D) (l : List D) : ixD (a :: b :: c :: l) 2 = some c := L2.atI_nat (j := 2) rfl
theorem ix3 (a b c d : D) (l : List D) : ixD (a :: b :: c :: d :: l) 3 = some d := L2.atI_nat (j := 3) rfl
theorem ixn {l : List D} {k : Nat} {v : D} (h : l[k]? = some v) : ixD l (k : Int) = some v := L2.atI_nat h
theorem ixl (l : List D) (v : D) : ixD (l ++ [v]) (-1) = some v := L2.atI_last l v
theorem ixz {l : List D} {i : Int} {v : D} (h0 : 0 ≤ i) (h : l[i.toNat]? = some v) : ixD l i = some v := by
  have := ixn h
  rwa [Int.toNat_of_nonneg h0] at this
theorem ixm {α : Type} {enc : α → D} {l : List α} {i : Int} (h0 : 0 ≤ i) (h1 : i < l.length) : ∃ a, l[i.toNat]? = some a ∧ ixD (l.map enc) i = some (enc a) := by
  have h : i.toNat < l.length := by omega
  refine ⟨l[i.toNat], List.getElem?_eq_getElem h, ixz h0 ?_⟩
  rw [List.getElem?_map, List.getElem?_eq_getElem h] <;> rfl
theorem ixN2_0 : L2.ixN (0 + 1 + 1) 0 = some 0 := rfl
theorem ixN2_1 : L2.ixN (0 + 1 + 1) 1 = some 1 := rfl
/-- a cup of draws -/
structure Cup where
  a : Int
  b : Int
  a0 : 0 ≤ a
  b0 : 0 ≤ b
  b1 : b < 4294967296
def Cup.D (c : Cup) : D := .lst [.int c.a, .int c.b]
theorem Cup.inner (c : Cup) : D.inner c.D = true := by
  unfold Cup.D
  rw [inner_lst, nms_cons, nms_cons, nms_nil, nm_int, nm_int] <;> rfl
theorem Cup.noMut (c : Cup) : c.D.noMut = false := by
  unfold Cup.D
  rw [nm_lst]
theorem Cup.isMut (c : Cup) : c.D.isMut = true := rfl
def D.isInt : VS.D → Bool
  | .int _ => true
  | _ => false
def numB (d : VS.D) (lo hi : Int) : Bool := match d with
  | .int i => decide (lo ≤ i) && decide (i ≤ hi)
  | _ => false
def tupB (d : VS.D) (lo hi : Int) : Bool := match d with
  | .tup xs => decide (lo ≤ (xs.length : Int)) && decide ((xs.length : Int) ≤ hi)
  | _ => false
/-- values of which isinstance may be asked -/
def D.ask : VS.D → Bool
  | .non => true
  | .bl _ => true
  | .int _ => true
  | .str _ => true
  | .tup _ => true
  | .lst _ => true
  | _ => false
def sortD : VS.D → Int
  | .non => 0
  | .bl _ => 1
  | .int _ => 2
  | .str _ => 3
  | .tup _ => 4
  | .lst _ => 5
  | _ => 6
mutual
/-- plain, so deep: nones, bools, ints, tuples, lists -/
def D.pl : Nat → VS.D → Bool
  | _, .non => true
  | _, .bl _ => true
  | _, .int _ => true
  | n, .tup ds => (match n with
    | 0 => false
    | n + 1 => D.pls n ds && decide (ds.length ≤ lineN))
  | n, .lst ds => (match n with
    | 0 => false
    | n + 1 => D.pls n ds && decide (ds.length ≤ lineN))
  | _, _ => false
def D.pls : Nat → List VS.D → Bool
  | _, [] => true
  | n, d :: ds => D.pl n d && D.pls n ds
end
theorem pl_non (n : Nat) : D.pl n .non = true := by simp only [D.pl]
theorem pl_bl (n : Nat) (b : Bool) : D.pl n (.bl b) = true := by simp only [D.pl]
theorem pl_int (n : Nat) (b : Int) : D.pl n (.int b) = true := by simp only [D.pl]
theorem pl_tup (n : Nat) (ds : List VS.D) : D.pl (n + 1) (.tup ds) = (D.pls n ds && decide (ds.length ≤ lineN)) := by simp only [D.pl]
theorem pl_lst (n : Nat) (ds : List VS.D) : D.pl (n + 1) (.lst ds) = (D.pls n ds && decide (ds.length ≤ lineN)) := by simp only [D.pl]
theorem pls_nil (n : Nat) : D.pls n [] = true := by simp only [D.pls]
theorem pls_cons (n : Nat) (d : VS.D) (ds : List VS.D) : D.pls n (d :: ds) = (D.pl n d && D.pls n ds) := by simp only [D.pls]
theorem pls_mem {n : Nat} : ∀ {ds : List VS.D}, D.pls n ds = true → ∀ d ∈ ds, D.pl n d = true
  | [], _, _, h => nomatch h
  | e :: ds, h, d, hd => by
    rw [pls_cons, Bool.and_eq_true] at h
    rcases List.mem_cons.mp hd with rfl | hd
    · exact h.1
    · exact pls_mem h.2 d hd
theorem pls_map {α : Type} {enc : α → VS.D} {n : Nat} (h : ∀ a, D.pl n (enc a) = true) : ∀ l : List α, D.pls n (l.map enc) = true
  | [] => pls_nil n
  | a :: l => by rw [List.map_cons, pls_cons, h a, pls_map h l] <;> rfl
theorem pls_mapM {α : Type} {enc : α → VS.D} {n : Nat} : ∀ l : List α, (∀ a ∈ l, D.pl n (enc a) = true) → D.pls n (l.map enc) = true
  | [], _ => pls_nil n
  | a :: l, h => by rw [List.map_cons, pls_cons, h a List.mem_cons_self, pls_mapM l fun b hb => h b (List.mem_cons_of_mem _ hb)] <;> rfl
theorem pl_fine : ∀ (n : Nat) (d : VS.D), D.pl n d = true → n < 60 → ∀ (m : Nat), n ≤ m → D.fine d m = true := by
  have key : ∀ (n : Nat), (∀ d, D.pl n d = true → ∀ m, n ≤ m → D.fine d m = true) ∧ (∀ ds, D.pls n ds = true → ∀ m, n ≤ m → D.fines ds m = true) := by
    intro n
    induction n with
    | zero =>
      have h1 : ∀ d, D.pl 0 d = true → ∀ m, 0 ≤ m → D.fine d m = true := fun d h m _ => by
        cases d <;> first | exact f_non m | exact f_bl _ m | exact f_int _ m | (simp only [D.pl] at h; cases h)
      refine ⟨h1, fun ds => ?_⟩
      induction ds with
      | nil => intro _ m _; exact f_nil m
      | cons d ds ih =>
        intro h m hm
        rw [pls_cons, Bool.and_eq_true] at h
        rw [f_cons, h1 d h.1 m hm, ih h.2 m hm] <;> rfl
    | succ n ih =>
      have h1 : ∀ d, D.pl (n + 1) d = true → ∀ m, n + 1 ≤ m → D.fine d m = true := fun d h m hm => by
        obtain ⟨k, rfl⟩ : ∃ k, m = k + 1 := ⟨m - 1, by omega⟩
        cases d with
        | non => exact f_non _
        | bl b => exact f_bl _ _
        | int i => exact f_int _ _
        | tup ds =>
          rw [pl_tup, Bool.and_eq_true] at h
          rw [f_tup]; exact ih.2 ds h.1 k (by omega)
        | lst ds =>
          rw [pl_lst, Bool.and_eq_true] at h
          rw [f_lst]; exact ih.2 ds h.1 k (by omega)
        | str x => simp only [D.pl] at h; cases h
        | dic a b => simp only [D.pl] at h; cases h
        | set x => simp only [D.pl] at h; cases h
        | fn x => simp only [D.pl] at h; cases h
        | frl x => simp only [D.pl] at h; cases h
      refine ⟨h1, fun ds => ?_⟩
      induction ds with
      | nil => intro _ m _; exact f_nil m
      | cons d ds ihd =>
        intro h m hm
        rw [pls_cons, Bool.and_eq_true] at h
        rw [f_cons, h1 d h.1 m hm, ihd h.2 m hm] <;> rfl
  exact fun n d h _ m hm => (key n).1 d h m hm
end VT
set_option Elab.async false
set_option linter.all false
/-! K80M: forms as polynomials; plain. -/
namespace K80
/-- the value of a form, low coefficient first -/
def ev : List Int → Int → Int
  | [], _ => 0
  | c :: cs, m => c + m * ev cs m
def sgn (x : Int) : Int := if x < 0 then -1 else if 0 < x then 1 else 0
theorem horner (m : Int) : ∀ (cs : List Int), cs.reverse.foldl (fun a c => a * m + c) 0 = ev cs m
  | [] => rfl
  | c :: cs => by
    rw [List.reverse_cons, List.foldl_append, horner m cs]
    show ev cs m * m + c = c + m * ev cs m
    rw [Int.mul_comm, Int.add_comm]
theorem ev_append (m : Int) : ∀ (a b : List Int), ev (a ++ b) m = ev a m + m ^ a.length * ev b m
  | [], b => by simp [ev]
  | c :: a, b => by
    rw [List.cons_append]
    show c + m * ev (a ++ b) m = c + m * ev a m + m ^ (a.length + 1) * ev b m
    rw [ev_append m a b, Int.pow_succ, Int.mul_add, Int.add_assoc]
    congr 2
    rw [Int.mul_comm (m ^ a.length) m, Int.mul_assoc]
theorem ev_zeros (m : Int) : ∀ n : Nat, ev (List.replicate n 0) m = 0
  | 0 => rfl
  | n + 1 => by
    rw [List.replicate_succ]
    show 0 + m * ev (List.replicate n 0) m = 0
    rw [ev_zeros m n, Int.mul_zero, Int.add_zero]
theorem ev_scale (k m : Int) : ∀ cs : List Int, ev (cs.map (· * k)) m = ev cs m * k
  | [] => by simp [ev]
  | c :: cs => by
    show c * k + m * ev (cs.map (· * k)) m = (c + m * ev cs m) * k
    rw [ev_scale k m cs, Int.add_mul, Int.mul_assoc]
theorem ev_zip (m : Int) : ∀ (a b : List Int), a.length = b.length → ev (List.zipWith (· + ·) a b) m = ev a m + ev b m
  | [], [], _ => rfl
  | [], _ :: _, h => by simp at h
  | _ :: _, [], h => by simp at h
  | x :: a, y :: b, h => by
    show x + y + m * ev (List.zipWith (· + ·) a b) m = x + m * ev a m + (y + m * ev b m)
    rw [ev_zip m a b (by simpa using h), Int.mul_add]
    omega
/-- monotone between, the same sign at both ends: that sign all over -/
theorem sgn_mid {f : Int → Int} {a q b : Int} (h : (f a ≤ f q ∧ f q ≤ f b) ∨ (f b ≤ f q ∧ f q ≤ f a)) (e : sgn (f a) = sgn (f b)) : sgn (f q) = sgn (f a) := by
  unfold sgn at e ⊢
  rcases h with ⟨h1, h2⟩ | ⟨h1, h2⟩ <;> repeat' split at e <;> repeat' split <;> first | rfl | omega | (simp at e; done)
end K80
namespace K80
/-- the places in [lo, lo + n) at which the sign changes -/
def turns (f : Int → Int) (lo : Int) : Nat → List Int
  | 0 => []
  | n + 1 => if sgn (f lo) = sgn (f (lo + 1)) then turns f (lo + 1) n else lo :: turns f (lo + 1) n
theorem turns_add (f : Int → Int) : ∀ (n k : Nat) (lo : Int), turns f lo (n + k) = turns f lo n ++ turns f (lo + n) k
  | 0, k, lo => by simp [turns]
  | n + 1, k, lo => by
    have e : n + 1 + k = (n + k) + 1 := by omega
    rw [e, turns, turns, turns_add f n k (lo + 1)]
    have e2 : lo + 1 + (n : Int) = lo + ((n + 1 : Nat) : Int) := by omega
    rw [e2]
    split <;> simp
theorem turns_none {f : Int → Int} : ∀ {n : Nat} {lo : Int}, (∀ q, lo ≤ q → q < lo + n → sgn (f q) = sgn (f (q + 1))) → turns f lo n = []
  | 0, _, _ => rfl
  | n + 1, lo, h => by
    rw [turns, if_pos (h lo (by omega) (by omega))]
    exact turns_none fun q h1 h2 => h q (by omega) (by omega)
theorem mem_turns {f : Int → Int} {p : Int} : ∀ {n : Nat} {lo : Int}, p ∈ turns f lo n ↔ lo ≤ p ∧ p < lo + n ∧ sgn (f p) ≠ sgn (f (p + 1))
  | 0, lo => by simp [turns]; omega
  | n + 1, lo => by
    rw [turns]
    split
    · rename_i h
      rw [mem_turns (n := n)]
      constructor
      · rintro ⟨a, b, c⟩; exact ⟨by omega, by omega, c⟩
      · rintro ⟨a, b, c⟩
        refine ⟨?_, by omega, c⟩
        rcases Int.lt_or_eq_of_le a with z | z
        · omega
        · subst z; exact absurd h c
    · rename_i h
      rw [List.mem_cons, mem_turns (n := n)]
      constructor
      · rintro (rfl | ⟨a, b, c⟩)
        · exact ⟨by omega, by omega, h⟩
        · exact ⟨by omega, by omega, c⟩
      · rintro ⟨a, b, c⟩
        rcases Int.lt_or_eq_of_le a with z | z
        · exact .inr ⟨by omega, by omega, c⟩
        · exact .inl z.symm
end K80
namespace K80
/-- up to q the sign stays, behind it another one stands -/
theorem turns_first {f : Int → Int} {here q : Int} {n : Nat} (h0 : here ≤ q) (h1 : q < here + n) (hs : ∀ p, here ≤ p → p ≤ q → sgn (f p) = sgn (f here)) (hq : sgn (f (q + 1)) ≠ sgn (f here)) :
    turns f here n = q :: turns f (q + 1) (n - (q + 1 - here).toNat) := by
  obtain ⟨a, ha⟩ : ∃ a : Nat, q = here + a := ⟨(q - here).toNat, by omega⟩
  subst ha
  obtain ⟨k, hk⟩ : ∃ k : Nat, n = a + (k + 1) := ⟨n - a - 1, by omega⟩
  subst hk
  rw [turns_add, turns_none (n := a) (lo := here), List.nil_append, turns, if_neg]
  · have e : a + (k + 1) - (here + (a : Int) + 1 - here).toNat = k := by omega
    rw [e]
  · rw [hs (here + a) (by omega) (by omega)]
    exact fun z => hq z.symm
  · intro p h2 h3
    rw [hs p h2 (by omega), hs (p + 1) (by omega) (by omega)]
/-- rising (or falling) all the way -/
def Mono (f : Int → Int) (lo hi : Int) : Prop := (∀ p, lo ≤ p → p < hi → f p ≤ f (p + 1)) ∨ (∀ p, lo ≤ p → p < hi → f (p + 1) ≤ f p)
theorem up_le {f : Int → Int} {lo hi : Int} (h : ∀ p, lo ≤ p → p < hi → f p ≤ f (p + 1)) : ∀ (n : Nat) (a : Int), lo ≤ a → a + n ≤ hi → f a ≤ f (a + n)
  | 0, a, _, _ => by simp
  | n + 1, a, h1, h2 => by
    have i := up_le h n a h1 (by omega)
    have j := h (a + n) (by omega) (by omega)
    have e : a + ((n + 1 : Nat) : Int) = a + n + 1 := by omega
    rw [e]
    omega
theorem down_le {f : Int → Int} {lo hi : Int} (h : ∀ p, lo ≤ p → p < hi → f (p + 1) ≤ f p) : ∀ (n : Nat) (a : Int), lo ≤ a → a + n ≤ hi → f (a + n) ≤ f a
  | 0, a, _, _ => by simp
  | n + 1, a, h1, h2 => by
    have i := down_le h n a h1 (by omega)
    have j := h (a + n) (by omega) (by omega)
    have e : a + ((n + 1 : Nat) : Int) = a + n + 1 := by omega
    rw [e]
    omega
theorem Mono.mid {f : Int → Int} {lo hi a q b : Int} (h : Mono f lo hi) (h0 : lo ≤ a) (h1 : a ≤ q) (h2 : q ≤ b) (h3 : b ≤ hi) (e : sgn (f a) = sgn (f b)) : sgn (f q) = sgn (f a) := by
  refine sgn_mid ?_ e
  obtain ⟨x, hx⟩ : ∃ x : Nat, q = a + x := ⟨(q - a).toNat, by omega⟩
  obtain ⟨y, hy⟩ : ∃ y : Nat, b = q + y := ⟨(b - q).toNat, by omega⟩
  subst hy
  subst hx
  rcases h with h | h
  · exact .inl ⟨up_le h x a h0 (by omega), up_le h y (a + x) (by omega) (by omega)⟩
  · exact .inr ⟨down_le h y (a + x) (by omega) (by omega), down_le h x a h0 (by omega)⟩
end K80
set_option Elab.async false
set_option linter.all false
/-! K80N: lean, added, gaps; plain. -/
namespace K80
/-- how many stay when the zeros at the end are cut -/
def trim (is : List Int) : Nat → Nat
  | 0 => 0
  | m + 1 => if is.getD m 0 = 0 then trim is m else m + 1
theorem trim_le (is : List Int) : ∀ m, trim is m ≤ m
  | 0 => Nat.le_refl _
  | m + 1 => by
    unfold trim
    split
    · exact Nat.le_succ_of_le (trim_le is m)
    · exact Nat.le_refl _
theorem trim_zero (is : List Int) : ∀ m i, trim is m ≤ i → i < m → is.getD i 0 = 0
  | 0, i, _, h => absurd h (Nat.not_lt_zero _)
  | m + 1, i, h1, h2 => by
    unfold trim at h1
    split at h1
    · rename_i z
      rcases Nat.lt_or_eq_of_le (Nat.le_of_lt_succ h2) with h | h
      · exact trim_zero is m i h1 h
      · rw [h]; exact z
    · omega
theorem trim_last (is : List Int) : ∀ m k, trim is m = k + 1 → is.getD k 0 ≠ 0
  | 0, k, h => by simp [trim] at h
  | m + 1, k, h => by
    unfold trim at h
    split at h
    · exact trim_last is m k h
    · rename_i z
      have : m = k := by omega
      rw [← this]; exact z
def lean0 (is : List Int) : List Int := is.take (trim is is.length)
def IsLean (l : List Int) : Prop := ∀ k, l.length = k + 1 → l.getD k 0 ≠ 0
def co (l : List Int) (i : Nat) : Int := l.getD i 0
theorem co_big {l : List Int} {i : Nat} (h : l.length ≤ i) : co l i = 0 := by
  unfold co
  rw [List.getD_eq_getElem?_getD, List.getElem?_eq_none h] <;> rfl
theorem lean0_len (l : List Int) : (lean0 l).length = trim l l.length := by
  unfold lean0
  rw [List.length_take]
  exact Nat.min_eq_left (trim_le _ _)
theorem lean0_le (l : List Int) : (lean0 l).length ≤ l.length := by
  rw [lean0_len]; exact trim_le _ _
theorem co_lean0 (l : List Int) (i : Nat) : co (lean0 l) i = co l i := by
  by_cases h : i < trim l l.length
  · unfold co lean0
    rw [List.getD_eq_getElem?_getD, List.getD_eq_getElem?_getD, List.getElem?_take_of_lt h]
  · rw [co_big (by rw [lean0_len]; omega)]
    by_cases h2 : i < l.length
    · exact (trim_zero l l.length i (by omega) h2).symm
    · exact (co_big (by omega)).symm
theorem lean0_lean (l : List Int) : IsLean (lean0 l) := by
  intro k h
  have := co_lean0 l k
  unfold co at this
  rw [this]
  rw [lean0_len] at h
  exact trim_last l l.length k h
theorem mem_lean0 {l : List Int} {c : Int} (h : c ∈ lean0 l) : c ∈ l := List.mem_of_mem_take h
/-- lists of the same coefficients -/
theorem ev_co0 : ∀ {a : List Int}, (∀ i, co a i = 0) → ∀ m, ev a m = 0
  | [], _, _ => rfl
  | x :: a, h, m => by
    have h0 : x = 0 := h 0
    have := ev_co0 (a := a) (fun i => h (i + 1)) m
    show x + m * ev a m = 0
    rw [this, h0]; simp
theorem ev_co : ∀ {a b : List Int}, (∀ i, co a i = co b i) → ∀ m, ev a m = ev b m
  | [], b, h, m => (ev_co0 (fun i => (h i).symm) m).symm
  | x :: a, [], h, m => ev_co0 (a := x :: a) (fun i => h i) m
  | x :: a, y :: b, h, m => by
    have h0 : x = y := h 0
    have := ev_co (a := a) (b := b) (fun i => h (i + 1)) m
    show x + m * ev a m = y + m * ev b m
    rw [this, h0]
theorem ev_lean0 (l : List Int) (m : Int) : ev (lean0 l) m = ev l m := ev_co (co_lean0 l) m
theorem lean_eq {a b : List Int} (ha : IsLean a) (hb : IsLean b) (h : ∀ i, co a i = co b i) : a = b := by
  have hl : a.length = b.length := by
    rcases Nat.lt_trichotomy a.length b.length with z | z | z
    · obtain ⟨k, hk⟩ : ∃ k, b.length = k + 1 := ⟨b.length - 1, by omega⟩
      exact absurd ((h k).symm.trans (co_big (by omega))) (hb k hk)
    · exact z
    · obtain ⟨k, hk⟩ : ∃ k, a.length = k + 1 := ⟨a.length - 1, by omega⟩
      exact absurd ((h k).trans (co_big (by omega))) (ha k hk)
  refine List.ext_getElem hl fun i h1 h2 => ?_
  have := h i
  unfold co at this
  rw [List.getD_eq_getElem?_getD, List.getD_eq_getElem?_getD, List.getElem?_eq_getElem h1, List.getElem?_eq_getElem h2] at this
  exact this
theorem lean_len {a : List Int} (ha : IsLean a) {n : Nat} (h : ∀ i, n ≤ i → co a i = 0) : a.length ≤ n := by
  rcases Nat.lt_or_ge n a.length with z | z
  · obtain ⟨k, hk⟩ : ∃ k, a.length = k + 1 := ⟨a.length - 1, by omega⟩
    exact absurd (h k (by omega)) (ha k hk)
  · exact z
/-- two rows, filled up, added -/
def padL (a b : List Int) : List Int := a ++ List.replicate (max a.length b.length - a.length) 0
def addF (a b : List Int) : List Int := lean0 (List.zipWith (· + ·) (padL a b) (b ++ List.replicate (max a.length b.length - b.length) 0))
def sclF (a : List Int) (k : Int) : List Int := lean0 (a.map (· * k))
theorem co_pad (a : List Int) (n i : Nat) : co (a ++ List.replicate n 0) i = co a i := by
  unfold co
  rw [List.getD_eq_getElem?_getD, List.getD_eq_getElem?_getD]
  by_cases h : i < a.length
  · rw [List.getElem?_append_left h]
  · rw [List.getElem?_append_right (by omega), List.getElem?_replicate, List.getElem?_eq_none (by omega : a.length ≤ i)]
    split <;> rfl
theorem co_zip : ∀ {a b : List Int}, a.length = b.length → ∀ i, co (List.zipWith (· + ·) a b) i = co a i + co b i
  | [], [], _, i => by simp [co]
  | [], _ :: _, h, _ => by simp at h
  | _ :: _, [], h, _ => by simp at h
  | x :: a, y :: b, _, 0 => rfl
  | x :: a, y :: b, h, i + 1 => co_zip (a := a) (b := b) (by simpa using h) i
theorem co_addF (a b : List Int) (i : Nat) : co (addF a b) i = co a i + co b i := by
  unfold addF
  rw [co_lean0, co_zip, co_pad]
  · unfold padL; rw [co_pad]
  · unfold padL
    simp only [List.length_append, List.length_replicate]
    omega
theorem co_map (k : Int) : ∀ (a : List Int) (i : Nat), co (a.map (· * k)) i = co a i * k
  | [], i => by simp [co]
  | x :: a, 0 => rfl
  | x :: a, i + 1 => co_map k a i
theorem co_sclF (a : List Int) (k : Int) (i : Nat) : co (sclF a k) i = co a i * k := by
  unfold sclF
  rw [co_lean0, co_map]
theorem ev_addF (a b : List Int) (m : Int) : ev (addF a b) m = ev a m + ev b m := by
  unfold addF
  rw [ev_lean0, ev_zip]
  · rw [ev_co (co_pad b _) m]
    unfold padL
    rw [ev_co (co_pad a _) m]
  · unfold padL
    simp only [List.length_append, List.length_replicate]
    omega
theorem ev_sclF (a : List Int) (k m : Int) : ev (sclF a k) m = ev a m * k := by
  unfold sclF
  rw [ev_lean0, ev_scale]
theorem addF_lean (a b : List Int) : IsLean (addF a b) := lean0_lean _
theorem addF_len (a b : List Int) : (addF a b).length ≤ max a.length b.length := by
  refine Nat.le_trans (lean0_le _) ?_
  unfold padL
  simp only [List.length_zipWith, List.length_append, List.length_replicate]
  omega
theorem sclF_len (a : List Int) (k : Int) : (sclF a k).length ≤ a.length := by
  refine Nat.le_trans (lean0_le _) ?_
  simp
/-- gaps -/
def gapStep (p : List Int × List Int) (own : Int) : List Int × List Int := (addF p.1 (sclF p.2 own), addF p.2 (0 :: p.2))
def gapsF (f : List Int) : List Int := addF (f.foldl gapStep ([], [1])).1 (sclF f (-1))
theorem gap_fold (m : Int) : ∀ (f : List Int) (p : List Int × List Int), ev (f.foldl gapStep p).1 m = ev p.1 m + ev p.2 m * ev f (m + 1)
  | [], p => by simp [ev]
  | c :: f, p => by
    rw [List.foldl_cons, gap_fold m f]
    show ev (addF p.1 (sclF p.2 c)) m + ev (addF p.2 (0 :: p.2)) m * ev f (m + 1) = _
    rw [ev_addF, ev_sclF, ev_addF]
    show ev p.1 m + ev p.2 m * c + (ev p.2 m + (0 + m * ev p.2 m)) * ev f (m + 1) = ev p.1 m + ev p.2 m * (c + (m + 1) * ev f (m + 1))
    generalize ev p.1 m = A
    generalize ev p.2 m = B
    generalize ev f (m + 1) = X
    rw [Int.zero_add, Int.add_mul, Int.mul_add, Int.add_mul, Int.mul_add, Int.one_mul, Int.mul_assoc m B X, Int.mul_left_comm B m X]
    omega
theorem ev_gapsF (f : List Int) (m : Int) : ev (gapsF f) m = ev f (m + 1) - ev f m := by
  unfold gapsF
  rw [ev_addF, gap_fold, ev_sclF]
  show 0 + (1 + m * 0) * ev f (m + 1) + ev f m * -1 = _
  omega
theorem gap_co : ∀ (f : List Int) (p : List Int × List Int) (k : Nat), (∀ i, k < i → co p.2 i = 0) → co p.2 k = 1 → (∀ i, k ≤ i → co p.1 i = 0) → 
    ∀ i, k + f.length ≤ i + 1 → co (f.foldl gapStep p).1 i = if k ≤ i then co f (i - k) else co p.1 i
  | [], p, k, h1, h2, h3, i, hi => by
    show co p.1 i = _
    split
    · rename_i h
      rw [h3 i h]; simp [co]
    · rfl
  | c :: f, p, k, h1, h2, h3, i, hi => by
    rw [List.length_cons] at hi
    have hki : k ≤ i := by omega
    have q1 : ∀ j, k + 1 < j → co (addF p.2 (0 :: p.2)) j = 0 := fun j hj => by
      obtain ⟨j, rfl⟩ : ∃ x, j = x + 1 := ⟨j - 1, by omega⟩
      rw [co_addF, h1 _ (by omega)]
      show 0 + co p.2 j = 0
      rw [h1 j (by omega)] <;> rfl
    have q2 : co (addF p.2 (0 :: p.2)) (k + 1) = 1 := by
      rw [co_addF, h1 _ (by omega)]
      show 0 + co p.2 k = 1
      rw [h2] <;> rfl
    have q3 : ∀ j, k + 1 ≤ j → co (addF p.1 (sclF p.2 c)) j = 0 := fun j hj => by
      rw [co_addF, co_sclF, h3 j (by omega), h1 j (by omega)]; simp
    have ih := gap_co f (gapStep p c) (k + 1) q1 q2 q3 i (by omega)
    rw [List.foldl_cons, ih, if_pos hki]
    by_cases z : k + 1 ≤ i
    · rw [if_pos z]
      obtain ⟨d, hd⟩ : ∃ d, i - k = d + 1 := ⟨i - k - 1, by omega⟩
      rw [hd, show i - (k + 1) = d by omega] <;> rfl
    · rw [if_neg z]
      have : i = k := by omega
      subst this
      show co (addF p.1 (sclF p.2 c)) i = _
      rw [co_addF, co_sclF, h3 i (Nat.le_refl _), h2, Nat.sub_self]
      show 0 + 1 * c = c
      omega
theorem gapsF_lean (f : List Int) : IsLean (gapsF f) := addF_lean _ _
theorem gapsF_len {f : List Int} : (gapsF f).length ≤ f.length - 1 := by
  refine lean_len (gapsF_lean f) fun i hi => ?_
  unfold gapsF
  rw [co_addF, co_sclF, gap_co f ([], [1]) 0 (fun j hj => by obtain ⟨j, rfl⟩ : ∃ x, j = x + 1 := ⟨j - 1, by omega⟩; simp [co]) rfl (fun j _ => by simp [co]) i (by omega), if_pos (Nat.zero_le _), Nat.sub_zero]
  omega
/-- bits -/
def Lt (k : Nat) (x : Int) : Prop := x.natAbs < 2 ^ k
theorem Lt.zero (k : Nat) : Lt k 0 := by unfold Lt; exact Nat.pow_pos (by decide)
theorem Lt.add' {a b : Nat} {i j : Int} (h1 : Lt a i) (h2 : Lt b j) : Lt (max a b + 1) (i + j) := by
  unfold Lt at *
  have h3 : 2 ^ a ≤ 2 ^ (max a b) := Nat.pow_le_pow_right (by decide) (by omega)
  have h4 : 2 ^ b ≤ 2 ^ (max a b) := Nat.pow_le_pow_right (by decide) (by omega)
  have h5 := Int.natAbs_add_le i j
  rw [Nat.pow_succ]
  omega
theorem Lt.mul {a b : Nat} {i j : Int} (h1 : Lt a i) (h2 : Lt b j) : Lt (a + b) (i * j) := by
  unfold Lt at *
  rw [Int.natAbs_mul, Nat.pow_add]
  exact Nat.mul_lt_mul'' h1 h2
theorem Lt.mono {a b : Nat} {i : Int} (h : Lt a i) (hab : a ≤ b) : Lt b i := Nat.lt_of_lt_of_le h (Nat.pow_le_pow_right (by decide) hab)
def Bd (k : Nat) (l : List Int) : Prop := ∀ c ∈ l, Lt k c
theorem Bd.co {k : Nat} {l : List Int} (h : Bd k l) (i : Nat) : Lt k (co l i) := by
  unfold K80.co
  rw [List.getD_eq_getElem?_getD]
  by_cases z : i < l.length
  · rw [List.getElem?_eq_getElem z]; exact h _ (List.getElem_mem z)
  · rw [List.getElem?_eq_none (by omega)]; exact Lt.zero k
theorem Bd.of_co {k : Nat} {l : List Int} (h : ∀ i, Lt k (K80.co l i)) : Bd k l := fun c hc => by
  obtain ⟨i, hi, rfl⟩ := List.getElem_of_mem hc
  have := h i
  unfold K80.co at this
  rw [List.getD_eq_getElem?_getD, List.getElem?_eq_getElem hi] at this
  exact this
theorem Bd.mono {a b : Nat} {l : List Int} (h : Bd a l) (hab : a ≤ b) : Bd b l := fun c hc => (h c hc).mono hab
theorem Bd.addF {a b : Nat} {x y : List Int} (h1 : Bd a x) (h2 : Bd b y) : Bd (max a b + 1) (addF x y) := Bd.of_co fun i => by
  rw [co_addF]; exact (h1.co i).add' (h2.co i)
theorem Bd.sclF {a b : Nat} {x : List Int} {k : Int} (h1 : Bd a x) (h2 : Lt b k) : Bd (a + b) (sclF x k) := Bd.of_co fun i => by
  rw [co_sclF]; exact (h1.co i).mul h2
theorem Bd.cons0 {a : Nat} {x : List Int} (h : Bd a x) : Bd a (0 :: x) := fun c hc => by
  rcases List.mem_cons.mp hc with rfl | h2
  · exact Lt.zero a
  · exact h c h2
end K80
set_option Elab.async false
set_option linter.all false
/-! K80O: turns by the turns of the gaps; roots behind turns; bounds; plain. -/
namespace K80
/-- bits of gaps -/
theorem gap_bits {e : Nat} : ∀ (f : List Int) (p : List Int × List Int) (a b : Nat), Bd e f → Bd a p.1 → Bd b p.2 → e + b ≤ a → Bd (a + 2 * f.length) (f.foldl gapStep p).1
  | [], p, a, b, _, h1, _, _ => h1
  | c :: f, p, a, b, h, h1, h2, h3 => by
    have hc := h c List.mem_cons_self
    have := gap_bits f (gapStep p c) (a + 2) (b + 1) (fun x hx => h x (List.mem_cons_of_mem _ hx)) (Bd.mono (h1.addF (h2.sclF hc)) (by omega)) (Bd.mono (h2.addF h2.cons0) (by omega)) (by omega)
    rw [List.foldl_cons, List.length_cons]
    exact this.mono (by omega)
theorem Bd.gapsF {e : Nat} {f : List Int} (h : Bd e f) (hl : f.length ≤ 6) : Bd (e + 16) (gapsF f) := by
  have h1 : Bd 1 [1] := fun c hc => by
    rw [List.mem_singleton.mp hc]; unfold Lt; decide
  have := gap_bits f ([], [1]) (e + 1) 1 h (fun c hc => nomatch hc) h1 (Nat.le_refl _)
  unfold K80.gapsF
  exact Bd.mono (this.addF (h.sclF (b := 1) (by unfold Lt; decide))) (by omega)
/-- the first turn, the rest -/
theorem turns_cons {f : Int → Int} {t : Int} {ts : List Int} : ∀ {n : Nat} {b : Int}, turns f b n = t :: ts → b ≤ t ∧ t < b + n ∧ (∀ p, b ≤ p → p ≤ t → sgn (f p) = sgn (f b)) ∧ sgn (f (t + 1)) ≠ sgn (f t) ∧ ts = turns f (t + 1) (b + n - (t + 1)).toNat
  | 0, b, h => by simp [turns] at h
  | n + 1, b, h => by
    rw [turns] at h
    split at h
    · rename_i e
      obtain ⟨h1, h2, h3, h4, h5⟩ := turns_cons h
      refine ⟨by omega, by omega, fun p p1 p2 => ?_, h4, ?_⟩
      · rcases Int.lt_or_eq_of_le p1 with z | z
        · rw [h3 p (by omega) p2, e]
        · rw [z]
      · rw [h5]
        congr 2
        omega
    · rename_i e
      injection h with h1 h2
      subst h1
      refine ⟨Int.le_refl _, by omega, fun p p1 p2 => by rw [show p = b by omega], fun z => e z.symm, ?_⟩
      rw [← h2]
      congr 1
      omega
theorem turns_nil {f : Int → Int} : ∀ {n : Nat} {b : Int}, turns f b n = [] → ∀ p, b ≤ p → p ≤ b + n → sgn (f p) = sgn (f b)
  | 0, b, _, p, h1, h2 => by rw [show p = b by omega]
  | n + 1, b, h, p, h1, h2 => by
    rw [turns] at h
    split at h
    · rename_i e
      rcases Int.lt_or_eq_of_le h1 with z | z
      · rw [turns_nil h p (by omega) (by omega), e]
      · rw [z]
    · exact absurd h (by simp)
/-- where the gap's sign stays, the form is monotone -/
theorem mono_of {f g : Int → Int} (hg : ∀ m, g m = f (m + 1) - f m) {b t : Int} (h : ∀ p, b ≤ p → p < t → sgn (g p) = sgn (g b)) : Mono f b t := by
  by_cases z : 0 ≤ g b
  · refine .inl fun p h1 h2 => ?_
    have e := h p h1 h2
    have := hg p
    have : 0 ≤ g p := by
      unfold sgn at e
      repeat' split at e <;> omega
    omega
  · refine .inr fun p h1 h2 => ?_
    have e := h p h1 h2
    have := hg p
    have : g p ≤ 0 := by
      unfold sgn at e
      repeat' split at e <;> omega
    omega
theorem turns_split (f : Int → Int) {b t : Int} {n : Nat} (h1 : b ≤ t) (h2 : t ≤ b + n) : turns f b n = turns f b (t - b).toNat ++ turns f t (b + n - t).toNat := by
  have e : n = (t - b).toNat + (b + n - t).toNat := by omega
  conv => lhs; rw [e]
  rw [turns_add]
  congr 2
  omega
/-- the zeros of [lo, lo + n) -/
def zs (f : Int → Int) (lo : Int) : Nat → List Int
  | 0 => []
  | n + 1 => if f lo = 0 then lo :: zs f (lo + 1) n else zs f (lo + 1) n
theorem zs_add (f : Int → Int) : ∀ (n k : Nat) (lo : Int), zs f lo (n + k) = zs f lo n ++ zs f (lo + n) k
  | 0, k, lo => by simp [zs]
  | n + 1, k, lo => by
    have e : n + 1 + k = (n + k) + 1 := by omega
    rw [e, zs, zs, zs_add f n k (lo + 1)]
    have e2 : lo + 1 + (n : Int) = lo + ((n + 1 : Nat) : Int) := by omega
    rw [e2]
    split <;> simp
theorem zs_split (f : Int → Int) {b t : Int} {n : Nat} (h1 : b ≤ t) (h2 : t ≤ b + n) : zs f b n = zs f b (t - b).toNat ++ zs f t (b + n - t).toNat := by
  have e : n = (t - b).toNat + (b + n - t).toNat := by omega
  conv => lhs; rw [e]
  rw [zs_add]
  congr 2
  omega
theorem zs_none {f : Int → Int} : ∀ {n : Nat} {lo : Int}, (∀ q, lo ≤ q → q < lo + n → f q ≠ 0) → zs f lo n = []
  | 0, _, _ => rfl
  | n + 1, lo, h => by
    rw [zs, if_neg (h lo (by omega) (by omega))]
    exact zs_none fun q h1 h2 => h q (by omega) (by omega)
theorem mem_zs {f : Int → Int} {p : Int} : ∀ {n : Nat} {lo : Int}, p ∈ zs f lo n ↔ lo ≤ p ∧ p < lo + n ∧ f p = 0
  | 0, lo => by simp [zs]; omega
  | n + 1, lo => by
    rw [zs]
    split
    · rename_i h
      rw [List.mem_cons, mem_zs (n := n)]
      constructor
      · rintro (rfl | ⟨a, b, c⟩)
        · exact ⟨by omega, by omega, h⟩
        · exact ⟨by omega, by omega, c⟩
      · rintro ⟨a, b, c⟩
        rcases Int.lt_or_eq_of_le a with z | z
        · exact .inr ⟨by omega, by omega, c⟩
        · exact .inl z.symm
    · rename_i h
      rw [mem_zs (n := n)]
      constructor
      · rintro ⟨a, b, c⟩; exact ⟨by omega, by omega, c⟩
      · rintro ⟨a, b, c⟩
        refine ⟨?_, by omega, c⟩
        rcases Int.lt_or_eq_of_le a with z | z
        · omega
        · subst z; exact absurd c h
theorem zs_sorted (f : Int → Int) : ∀ (n : Nat) (lo : Int), (zs f lo n).Pairwise (· < ·)
  | 0, lo => by simp [zs]
  | n + 1, lo => by
    rw [zs]
    split
    · refine List.pairwise_cons.mpr ⟨fun q hq => ?_, zs_sorted f n (lo + 1)⟩
      have := mem_zs.mp hq
      omega
    · exact zs_sorted f n (lo + 1)
theorem sorted_eq : ∀ {a b : List Int}, a.Pairwise (· < ·) → b.Pairwise (· < ·) → (∀ x, x ∈ a ↔ x ∈ b) → a = b
  | [], [], _, _, _ => rfl
  | [], y :: b, _, _, h => nomatch (h y).mpr List.mem_cons_self
  | x :: a, [], _, _, h => nomatch (h x).mp List.mem_cons_self
  | x :: a, y :: b, ha, hb, h => by
    obtain ⟨a1, a2⟩ := List.pairwise_cons.mp ha
    obtain ⟨b1, b2⟩ := List.pairwise_cons.mp hb
    have e : x = y := by
      rcases List.mem_cons.mp ((h x).mp List.mem_cons_self) with z | z
      · exact z
      · rcases List.mem_cons.mp ((h y).mpr List.mem_cons_self) with w | w
        · exact w.symm
        · have := a1 y w
          have := b1 x z
          omega
    subst e
    rw [sorted_eq a2 b2 fun z => ?_]
    constructor
    · intro hz
      rcases List.mem_cons.mp ((h z).mp (List.mem_cons_of_mem _ hz)) with w | w
      · have := a1 z hz; omega
      · exact w
    · intro hz
      rcases List.mem_cons.mp ((h z).mpr (List.mem_cons_of_mem _ hz)) with w | w
      · have := b1 z hz; omega
      · exact w
/-- Cauchy: far out there is no root -/
theorem cauchy {m H : Int} (hm : H + 2 ≤ m) : ∀ {f : List Int}, IsLean f → f ≠ [] → (∀ c ∈ f, c.natAbs ≤ H) → 1 ≤ (ev f m).natAbs
  | [], _, h, _ => absurd rfl h
  | [c], hl, _, hc => by
    have h1 := hl 0 rfl
    have : c ≠ 0 := h1
    show 1 ≤ (c + m * 0).natAbs
    omega
  | c :: d :: f, hl, _, hc => by
    have ih := cauchy hm (f := d :: f) (fun k hk => hl (k + 1) (by rw [List.length_cons]; omega)) (by simp) (fun x hx => hc x (List.mem_cons_of_mem _ hx))
    have h1 := hc c List.mem_cons_self
    show 1 ≤ (c + m * ev (d :: f) m).natAbs
    generalize ev (d :: f) m = X at ih
    have h3 : m.natAbs ≤ (m * X).natAbs := by
      rw [Int.natAbs_mul]
      exact Nat.le_mul_of_pos_right _ (by omega)
    omega
/-- no run of roots as long as the form -/
theorem no_run {m : Int} : ∀ (n : Nat) (f : List Int) (b : Int), f.length ≤ n → ev f m ≠ 0 → ¬ ∀ i : Nat, i < n → ev f (b + i) = 0
  | 0, f, b, hl, hm, _ => by
    have : f = [] := List.eq_nil_of_length_eq_zero (by omega)
    rw [this] at hm; exact hm rfl
  | n + 1, f, b, hl, hm, h => by
    have hg : ∀ i : Nat, i < n → ev (gapsF f) (b + i) = 0 := fun i hi => by
      rw [ev_gapsF, h i (by omega)]
      have := h (i + 1) (by omega)
      rw [show b + ((i + 1 : Nat) : Int) = b + i + 1 by omega] at this
      rw [this] <;> rfl
    by_cases z : ∃ q, ev (gapsF f) q ≠ 0
    · obtain ⟨q, hq⟩ := z
      exact no_run (m := q) n (gapsF f) b (Nat.le_trans gapsF_len (by omega)) hq hg
    · have hz : ∀ q, ev f (q + 1) = ev f q := fun q => by
        have e := ev_gapsF f q
        rw [Classical.byContradiction fun w => z ⟨q, w⟩] at e
        omega
      have up : ∀ k : Nat, ∀ q, ev f (q + k) = ev f q := fun k => by
        induction k with
        | zero => intro q; simp
        | succ k ih =>
          intro q
          rw [show q + ((k + 1 : Nat) : Int) = q + k + 1 by omega, hz, ih]
      have h0 := h 0 (by omega)
      have h0 : ev f b = 0 := by simpa using h0
      apply hm
      rcases Int.le_total b m with w | w
      · have := up (m - b).toNat b
        rw [show b + ((m - b).toNat : Int) = m by omega] at this
        rw [this, h0]
      · have := up (b - m).toNat m
        rw [show m + ((b - m).toNat : Int) = b by omega] at this
        rw [← this, h0]
end K80
set_option Elab.async false
set_option linter.all false
/-! K80Q: stretches between turns; plain. -/
namespace K80
theorem sgn_mono {x y : Int} (h : x ≤ y) : sgn x ≤ sgn y := by
  unfold sgn
  repeat' split <;> omega
theorem sgn_rng (x : Int) : -1 ≤ sgn x ∧ sgn x ≤ 1 := by
  unfold sgn
  repeat' split <;> omega
theorem turns_up {f : Int → Int} {hi : Int} : ∀ (n : Nat) (lo : Int), (∀ p, lo ≤ p → p < lo + n → f p ≤ f (p + 1)) → ((turns f lo n).length : Int) ≤ sgn (f (lo + n)) - sgn (f lo)
  | 0, lo, _ => by simp [turns]
  | n + 1, lo, h => by
    have ih := turns_up (hi := hi) n (lo + 1) fun p h1 h2 => h p (by omega) (by omega)
    have e : lo + 1 + (n : Int) = lo + ((n + 1 : Nat) : Int) := by omega
    rw [e] at ih
    have := sgn_mono (h lo (by omega) (by omega))
    rw [turns]
    split
    · omega
    · rw [List.length_cons]; omega
theorem turns_down {f : Int → Int} {hi : Int} : ∀ (n : Nat) (lo : Int), (∀ p, lo ≤ p → p < lo + n → f (p + 1) ≤ f p) → ((turns f lo n).length : Int) ≤ sgn (f lo) - sgn (f (lo + n))
  | 0, lo, _ => by simp [turns]
  | n + 1, lo, h => by
    have ih := turns_down (hi := hi) n (lo + 1) fun p h1 h2 => h p (by omega) (by omega)
    have e : lo + 1 + (n : Int) = lo + ((n + 1 : Nat) : Int) := by omega
    rw [e] at ih
    have := sgn_mono (h lo (by omega) (by omega))
    rw [turns]
    split
    · omega
    · rw [List.length_cons]; omega
theorem Mono.two {f : Int → Int} {lo hi : Int} (h : Mono f lo hi) (hl : lo ≤ hi) : (turns f lo (hi - lo).toNat).length ≤ 2 := by
  have r1 := sgn_rng (f lo)
  have e : lo + ((hi - lo).toNat : Int) = hi := by omega
  rcases h with h | h
  · have := turns_up (hi := hi) (hi - lo).toNat lo fun p h1 h2 => h p h1 (by omega)
    have r2 := sgn_rng (f (lo + ((hi - lo).toNat : Int)))
    omega
  · have := turns_down (hi := hi) (hi - lo).toNat lo fun p h1 h2 => h p h1 (by omega)
    have r2 := sgn_rng (f (lo + ((hi - lo).toNat : Int)))
    omega
/-- the stretches between the gaps' turns -/
def segs (b high : Int) (ts : List Int) : List (Int × Int) := (b :: ts.map (· + 1)).zip (ts.map (· + 1) ++ [high])
theorem segs_len (b high : Int) (ts : List Int) : (segs b high ts).length = ts.length + 1 := by
  unfold segs
  simp
theorem segs_ok {f g : Int → Int} (hg : ∀ m, g m = f (m + 1) - f m) (high : Int) : ∀ (ts : List Int) (b : Int), b ≤ high → ts = turns g b (high - b).toNat →
    (∀ q ∈ segs b high ts, b ≤ q.1 ∧ q.1 ≤ q.2 ∧ q.2 ≤ high ∧ Mono f q.1 q.2) ∧ (segs b high ts).flatMap (fun q => turns f q.1 (q.2 - q.1).toNat) = turns f b (high - b).toNat
  | [], b, hb, ht => by
    have hn := turns_nil ht.symm
    constructor
    · intro q hq
      have : q = (b, high) := by simpa [segs] using hq
      subst this
      exact ⟨Int.le_refl _, hb, Int.le_refl _, mono_of hg fun p h1 h2 => hn p h1 (by omega)⟩
    · simp [segs]
  | t :: ts, b, hb, ht => by
    obtain ⟨h1, h2, h3, h4, h5⟩ := turns_cons ht.symm
    have hh : t + 1 ≤ high := by omega
    have e : b + ((high - b).toNat : Int) - (t + 1) = high - (t + 1) := by omega
    rw [e] at h5
    obtain ⟨i1, i2⟩ := segs_ok hg high ts (t + 1) hh h5
    have es : segs b high (t :: ts) = (b, t + 1) :: segs (t + 1) high ts := rfl
    rw [es]
    constructor
    · intro q hq
      rcases List.mem_cons.mp hq with rfl | hq
      · exact ⟨Int.le_refl _, by show b ≤ t + 1; omega, hh, mono_of hg fun p p1 p2 => h3 p p1 (by omega)⟩
      · obtain ⟨a1, a2, a3, a4⟩ := i1 q hq
        exact ⟨by omega, a2, a3, a4⟩
    · rw [List.flatMap_cons, i2]
      have := turns_split f (b := b) (t := t + 1) (n := (high - b).toNat) (by omega) (by omega)
      rw [this]
      congr 2
      omega
theorem segs_count {f g : Int → Int} (hg : ∀ m, g m = f (m + 1) - f m) {high b : Int} (hb : b ≤ high) : (turns f b (high - b).toNat).length ≤ 2 * ((turns g b (high - b).toNat).length + 1) := by
  obtain ⟨h1, h2⟩ := segs_ok hg high _ b hb rfl
  rw [← h2, ← segs_len b high]
  generalize segs b high (turns g b (high - b).toNat) = l at h1
  induction l with
  | nil => simp
  | cons q l ih =>
    rw [List.flatMap_cons, List.length_append, List.length_cons]
    have := ih fun x hx => h1 x (List.mem_cons_of_mem _ hx)
    obtain ⟨a1, a2, a3, a4⟩ := h1 q List.mem_cons_self
    have := a4.two a2
    omega
theorem turns_const {f : List Int} (h : f.length < 2) (b : Int) (n : Nat) : turns (ev f) b n = [] := by
  refine turns_none fun q _ _ => ?_
  match f, h with
  | [], _ => rfl
  | [c], _ => simp [ev]
theorem turns_count : ∀ (L : Nat) (f : List Int), f.length ≤ L + 1 → ∀ (high : Int), 1 ≤ high → (turns (ev f) 1 (high - 1).toNat).length ≤ 2 ^ (L + 1) - 2
  | 0, f, hl, high, _ => by rw [turns_const (by omega)]; simp
  | L + 1, f, hl, high, hh => by
    have := turns_count L (gapsF f) (Nat.le_trans gapsF_len (by omega)) high hh
    have := segs_count (ev_gapsF f) hh
    have : 2 ≤ 2 ^ (L + 1) := Nat.le_self_pow (by omega) 2
    rw [Nat.pow_succ 2 (L + 1)]
    omega
end K80
set_option Elab.async false
set_option linter.all false
/-! K80R: runs of roots; plain. -/
namespace K80
theorem first_non {f : Int → Int} {b : Int} : ∀ n : Nat, ¬ (∀ i : Nat, i < n → f (b + i) = 0) → ∃ r, r < n ∧ (∀ i : Nat, i < r → f (b + i) = 0) ∧ f (b + r) ≠ 0
  | 0, h => absurd (fun i hi => absurd hi (Nat.not_lt_zero _)) h
  | n + 1, h => by
    by_cases z : ∀ i : Nat, i < n → f (b + i) = 0
    · refine ⟨n, Nat.lt_succ_self n, z, fun w => h fun i hi => ?_⟩
      rcases Nat.lt_or_eq_of_le (Nat.le_of_lt_succ hi) with q | q
      · exact z i q
      · rw [q]; exact w
    · obtain ⟨r, h1, h2⟩ := first_non n z
      exact ⟨r, by omega, h2⟩
def upL (b : Int) (r : Nat) : List Int := (List.range r).map fun i : Nat => b + (i : Int)
theorem upL_succ (b : Int) (r : Nat) : upL b (r + 1) = upL b r ++ [b + (r : Int)] := by
  unfold upL
  rw [List.range_succ, List.map_append] <;> rfl
theorem upL_cons (b : Int) (r : Nat) : upL b (r + 1) = b :: upL (b + 1) r := by
  unfold upL
  rw [List.range_succ_eq_map, List.map_cons, List.map_map]
  congr 1
  · simp
  · refine List.map_congr_left fun i _ => ?_
    show b + ((i + 1 : Nat) : Int) = b + 1 + (i : Int)
    omega
theorem zs_all {f : Int → Int} : ∀ (n : Nat) (lo : Int), (∀ i : Nat, i < n → f (lo + i) = 0) → zs f lo n = upL lo n
  | 0, _, _ => rfl
  | n + 1, lo, h => by
    have h0 := h 0 (by omega)
    rw [zs, if_pos (by simpa using h0), upL_cons, zs_all n (lo + 1) fun i hi => by
      have := h (i + 1) (by omega)
      rw [show lo + ((i + 1 : Nat) : Int) = lo + 1 + (i : Int) by omega] at this
      exact this]
structure Run (f : Int → Int) (b : Int) (r : Nat) : Prop where
  zero : ∀ i : Nat, i < r → f (b + i) = 0
  non : f (b + r) ≠ 0
theorem Run.eq {f : Int → Int} {b : Int} {r s : Nat} (h : Run f b r) (k : Run f b s) : r = s := by
  rcases Nat.lt_trichotomy r s with z | z | z
  · exact absurd (k.zero r z) h.non
  · exact z
  · exact absurd (h.zero s z) k.non
theorem sgn_zero {x : Int} : sgn x = 0 ↔ x = 0 := by
  unfold sgn
  repeat' split <;> omega
theorem runs_ok {f : Int → Int} (run : Int → Nat) (hr : ∀ b, Run f b (run b)) {high : Int} (hh : f high ≠ 0) : ∀ (ts : List Int) (b : Int), b ≤ high → ts = turns f b (high - b).toNat →
    upL b (run b) ++ ts.flatMap (fun t => upL (t + 1) (run (t + 1))) = zs f b (high - b).toNat
  | [], b, hb, ht => by
    have hn := turns_nil ht.symm
    have e : b + ((high - b).toNat : Int) = high := by omega
    have nz : ∀ q, b ≤ q → q ≤ high → f q ≠ 0 := fun q h1 h2 w => by
      have a1 := hn q h1 (by omega)
      have a2 := hn high hb (by omega)
      rw [← a2, sgn_zero.mpr w] at a1
      exact hh (sgn_zero.mp a1.symm)
    have r0 : run b = 0 := (hr b).eq ⟨fun i hi => absurd hi (Nat.not_lt_zero _), by simpa using nz b (Int.le_refl _) hb⟩
    rw [r0, zs_none fun q h1 h2 => nz q h1 (by omega)]
    rfl
  | t :: ts, b, hb, ht => by
    obtain ⟨h1, h2, h3, h4, h5⟩ := turns_cons ht.symm
    have e : b + ((high - b).toNat : Int) - (t + 1) = high - (t + 1) := by omega
    rw [e] at h5
    have ih := runs_ok run hr hh ts (t + 1) (by omega) h5
    have sp := zs_split f (b := b) (t := t + 1) (n := (high - b).toNat) (by omega) (by omega)
    rw [e] at sp
    rw [List.flatMap_cons, sp, ← ih]
    congr 1
    by_cases z : f b = 0
    · have az : ∀ q, b ≤ q → q ≤ t → f q = 0 := fun q q1 q2 => by
        have := h3 q q1 q2
        rw [sgn_zero.mpr z] at this
        exact sgn_zero.mp this
      have nz : f (t + 1) ≠ 0 := fun w => h4 (by rw [sgn_zero.mpr w, sgn_zero.mpr (az t h1 (Int.le_refl _))])
      have r0 : run b = (t + 1 - b).toNat := (hr b).eq ⟨fun i hi => az _ (by omega) (by omega), by
        rw [show b + ((t + 1 - b).toNat : Int) = t + 1 by omega]; exact nz⟩
      rw [r0, zs_all _ _ fun i hi => az _ (by omega) (by omega)]
    · have nz : ∀ q, b ≤ q → q ≤ t → f q ≠ 0 := fun q q1 q2 w => by
        have := h3 q q1 q2
        rw [sgn_zero.mpr w] at this
        exact z (sgn_zero.mp this.symm)
      have r0 : run b = 0 := (hr b).eq ⟨fun i hi => absurd hi (Nat.not_lt_zero _), by simpa using z⟩
      rw [r0, zs_none fun q q1 q2 => nz q q1 (by omega)]
      rfl
/-- the largest of absolute values -/
def mxF : List Int → Int → Int
  | [], m => m
  | x :: xs, m => mxF xs (if m < x then x else m)
theorem mxF_ge : ∀ (l : List Int) (m : Int), m ≤ mxF l m ∧ ∀ x ∈ l, x ≤ mxF l m
  | [], m => ⟨Int.le_refl _, fun _ h => nomatch h⟩
  | x :: xs, m => by
    obtain ⟨h1, h2⟩ := mxF_ge xs (if m < x then x else m)
    have h3 : mxF (x :: xs) m = mxF xs (if m < x then x else m) := rfl
    rw [h3]
    have h4 : m ≤ (if m < x then x else m) ∧ x ≤ (if m < x then x else m) := by split <;> omega
    refine ⟨Int.le_trans h4.1 h1, fun y hy => ?_⟩
    rcases List.mem_cons.mp hy with rfl | hy
    · exact Int.le_trans h4.2 h1
    · exact h2 y hy
theorem mxF_lt {B : Int} : ∀ (l : List Int) (m : Int), m < B → (∀ x ∈ l, x < B) → mxF l m < B
  | [], m, h, _ => h
  | x :: xs, m, h, hx => by
    refine mxF_lt xs _ ?_ fun y hy => hx y (List.mem_cons_of_mem _ hy)
    have := hx x List.mem_cons_self
    split <;> assumption
def absI (c : Int) : Int := if c < 0 then -c else c
def hiF : List Int → Int
  | [] => 3
  | c :: cs => 3 + mxF (cs.map absI) (absI c)
theorem absI_nat (c : Int) : absI c = (c.natAbs : Int) := by
  unfold absI
  split <;> omega
theorem hiF_ge {f : List Int} {c : Int} (h : c ∈ f) : (c.natAbs : Int) + 3 ≤ hiF f := by
  cases f with
  | nil => nomatch h
  | cons x xs =>
    obtain ⟨h1, h2⟩ := mxF_ge (xs.map absI) (absI x)
    rw [← absI_nat]
    simp only [hiF]
    rcases List.mem_cons.mp h with rfl | h
    · omega
    · have := h2 _ (List.mem_map.mpr ⟨c, h, rfl⟩)
      omega
theorem hiF_three (f : List Int) : 3 ≤ hiF f := by
  cases f with
  | nil => exact Int.le_refl _
  | cons x xs =>
    have := hiF_ge (f := x :: xs) (c := x) List.mem_cons_self
    omega
theorem hiF_lt {e : Nat} {f : List Int} (h : Bd e f) : hiF f < 2 ^ e + 3 := by
  have p : (0 : Int) < 2 ^ e := by
    have : 0 < 2 ^ e := Nat.pow_pos (by decide : 0 < 2)
    exact_mod_cast this
  cases f with
  | nil => simp only [hiF]; omega
  | cons x xs =>
    have key : ∀ c ∈ x :: xs, absI c < 2 ^ e := fun c hc => by
      have := h c hc
      unfold Lt at this
      rw [absI_nat]
      exact_mod_cast this
    have := mxF_lt (B := 2 ^ e) (xs.map absI) (absI x) (key x List.mem_cons_self) fun y hy => by
      obtain ⟨c, hc, rfl⟩ := List.mem_map.mp hy
      exact key c (List.mem_cons_of_mem _ hc)
    simp only [hiF]
    omega
/-- all roots -/
def rootsF (f : List Int) : List Int := zs (ev f) 1 (hiF f - 1).toNat
theorem far_non {f : List Int} (hl : IsLean f) (h0 : f ≠ []) {m : Int} (hm : hiF f - 1 ≤ m) : ev f m ≠ 0 := by
  have := cauchy (m := m) (H := hiF f - 3) (by omega) hl h0 fun c hc => by have := hiF_ge hc; omega
  intro z
  rw [z] at this
  simp at this
theorem mem_rootsF {f : List Int} (hl : IsLean f) (h0 : f ≠ []) {p : Int} : p ∈ rootsF f ↔ 1 ≤ p ∧ ev f p = 0 := by
  unfold rootsF
  rw [mem_zs]
  have h3 := hiF_three f
  constructor
  · rintro ⟨a, b, c⟩; exact ⟨a, c⟩
  · rintro ⟨a, c⟩
    refine ⟨a, ?_, c⟩
    rcases Int.lt_or_le p (1 + ((hiF f - 1).toNat : Int)) with z | z
    · exact z
    · exact absurd c (far_non hl h0 (by omega))
theorem rootsF_sorted (f : List Int) : (rootsF f).Pairwise (· < ·) := zs_sorted _ _ _
end K80
set_option Elab.async false
set_option linter.all false
/-! K80S: products of roots; how many roots; plain. -/
namespace K80
def prodStep (f : List Int) (r : Int) : List Int := List.zipWith (· + ·) (0 :: f) (f.map (· * -r) ++ [0])
theorem prodStep_len (f : List Int) (r : Int) : (prodStep f r).length = f.length + 1 := by
  unfold prodStep; simp
theorem ev_prodStep (f : List Int) (r m : Int) : ev (prodStep f r) m = (m - r) * ev f m := by
  unfold prodStep
  rw [ev_zip m _ _ (by simp), ev_append, ev_scale]
  show 0 + m * ev f m + (ev f m * -r + m ^ (f.map (· * -r)).length * (0 + m * 0)) = _
  rw [Int.sub_mul, Int.mul_zero, Int.add_zero, Int.mul_zero, Int.add_zero, Int.zero_add, Int.mul_neg, Int.mul_comm r]
  omega
theorem prodStep_lean {f : List Int} (hl : IsLean f) (h0 : f ≠ []) (r : Int) : IsLean (prodStep f r) := by
  intro k hk
  rw [prodStep_len] at hk
  have hk : f.length = k := by omega
  obtain ⟨j, hj⟩ : ∃ j, f.length = j + 1 := ⟨f.length - 1, by have := List.length_pos_iff.mpr h0; omega⟩
  have := co_zip (a := 0 :: f) (b := f.map (· * -r) ++ [0]) (by simp) k
  have h1 : co (0 :: f) k = f.getD j 0 := by
    rw [show k = j + 1 by omega] <;> rfl
  have h2 : co (f.map (· * -r) ++ [0]) k = 0 := by
    unfold co
    rw [List.getD_eq_getElem?_getD, List.getElem?_append_right (by simp; omega)]
    have : k - (f.map (· * -r)).length = 0 := by simp; omega
    rw [this] <;> rfl
  rw [h1, h2] at this
  show co (prodStep f r) k ≠ 0
  unfold prodStep
  rw [this, Int.add_zero]
  exact hl j hj
theorem Bd.prodStep {a b : Nat} {f : List Int} {r : Int} (h : Bd a f) (hr : Lt b r) : Bd (a + b + 1) (prodStep f r) := Bd.of_co fun i => by
  unfold K80.prodStep
  rw [co_zip (by simp) i]
  have h1 : Lt a (K80.co (0 :: f) i) := h.cons0.co i
  have hr' : Lt b (-r) := by unfold Lt at *; rwa [Int.natAbs_neg]
  have h2 : Lt (a + b) (K80.co (f.map (· * -r) ++ [0]) i) := by
    have : Bd (a + b) (f.map (· * -r) ++ [0]) := fun c hc => by
      rcases List.mem_append.mp hc with h3 | h3
      · obtain ⟨x, hx, rfl⟩ := List.mem_map.mp h3
        exact (h x hx).mul hr'
      · rw [List.mem_singleton.mp h3]; exact Lt.zero _
    exact this.co i
  exact Lt.mono (h1.add' h2) (by omega)
theorem ev_prod (m : Int) : ∀ (roots f : List Int), ev (roots.foldl prodStep f) m = (roots.map (m - ·)).foldl (· * ·) 1 * ev f m
  | [], f => by simp
  | r :: rs, f => by
    rw [List.foldl_cons, ev_prod m rs, ev_prodStep, List.map_cons, List.foldl_cons, Int.one_mul]
    have : ∀ (l : List Int) (a : Int), l.foldl (· * ·) a = a * l.foldl (· * ·) 1 := by
      intro l
      induction l with
      | nil => intro a; simp
      | cons x l ih => intro a; rw [List.foldl_cons, List.foldl_cons, ih (a * x), ih (1 * x), Int.one_mul, Int.mul_assoc]
    rw [this _ (m - r), ← Int.mul_assoc, Int.mul_comm (m - r)]
theorem prod_zero : ∀ (l : List Int), l.foldl (· * ·) 1 = 0 ↔ 0 ∈ l
  | [] => by simp
  | x :: l => by
    have : ∀ (l : List Int) (a : Int), l.foldl (· * ·) a = a * l.foldl (· * ·) 1 := by
      intro l
      induction l with
      | nil => intro a; simp
      | cons x l ih => intro a; rw [List.foldl_cons, List.foldl_cons, ih (a * x), ih (1 * x), Int.one_mul, Int.mul_assoc]
    rw [List.foldl_cons, Int.one_mul, this, Int.mul_eq_zero, prod_zero l, List.mem_cons]
    constructor
    · rintro (h | h)
      · exact .inl h.symm
      · exact .inr h
    · rintro (h | h)
      · exact .inl h.symm
      · exact .inr h
theorem zero_prod {roots f : List Int} {m : Int} (hf : ev f m ≠ 0) : ev (roots.foldl prodStep f) m = 0 ↔ m ∈ roots := by
  rw [ev_prod, Int.mul_eq_zero, prod_zero]
  constructor
  · rintro (h | h)
    · obtain ⟨r, hr, e⟩ := List.mem_map.mp h
      have : m = r := by omega
      rw [this]; exact hr
    · exact absurd h hf
  · intro h
    exact .inl (List.mem_map.mpr ⟨m, h, by omega⟩)
/-- the quotient by m - r -/
def quo (r : Int) : List Int → List Int
  | [] => []
  | _ :: cs => (match cs with
    | [] => []
    | d :: ds => ev (d :: ds) r :: quo r cs)
theorem quo_len (r : Int) : ∀ f : List Int, (quo r f).length = f.length - 1
  | [] => rfl
  | [c] => rfl
  | c :: d :: cs => by
    show (quo r (d :: cs)).length + 1 = _
    rw [quo_len r (d :: cs)] <;> simp
theorem ev_quo (r m : Int) : ∀ f : List Int, ev f m = (m - r) * ev (quo r f) m + ev f r
  | [] => by simp [ev, quo]
  | [c] => by simp [ev, quo]
  | c :: d :: cs => by
    have ih := ev_quo r m (d :: cs)
    show c + m * ev (d :: cs) m = (m - r) * (ev (d :: cs) r + m * ev (quo r (d :: cs)) m) + (c + r * ev (d :: cs) r)
    generalize ev (d :: cs) m = A at *
    generalize ev (d :: cs) r = B at *
    generalize ev (quo r (d :: cs)) m = C at *
    subst ih
    rw [Int.mul_add, Int.mul_add, Int.sub_mul, Int.sub_mul, Int.sub_mul, Int.mul_sub, Int.mul_left_comm r m C]
    omega
theorem few_roots {m0 : Int} : ∀ (L f : List Int), L.Pairwise (· < ·) → (∀ r ∈ L, ev f r = 0) → ev f m0 ≠ 0 → L.length ≤ f.length - 1
  | [], f, _, _, _ => Nat.zero_le _
  | r :: L, f, hs, hr, hm => by
    obtain ⟨h1, h2⟩ := List.pairwise_cons.mp hs
    have r0 := hr r List.mem_cons_self
    have hq : ∀ m, ev f m = (m - r) * ev (quo r f) m := fun m => by rw [ev_quo r m f, r0, Int.add_zero]
    have ih := few_roots (m0 := m0) L (quo r f) h2 (fun x hx => by
      have := hr x (List.mem_cons_of_mem _ hx)
      rw [hq] at this
      rcases Int.mul_eq_zero.mp this with h | h
      · have := h1 x hx; omega
      · exact h) (fun h => hm (by rw [hq, h, Int.mul_zero]))
    rw [quo_len] at ih
    rw [List.length_cons]
    have : 2 ≤ f.length := by
      match f with
      | [] => exact absurd rfl hm
      | [c] =>
        have : c = 0 := by simpa [ev] using r0
        subst this
        exact absurd (by simp [ev]) hm
      | _ :: _ :: _ => simp
    omega
theorem rootsF_deg {f : List Int} (hl : IsLean f) (h0 : f ≠ []) : (rootsF f).length ≤ f.length - 1 :=
  few_roots (m0 := hiF f - 1) (rootsF f) f (rootsF_sorted f) (fun r hr => ((mem_rootsF hl h0).mp hr).2) (far_non hl h0 (Int.le_refl _))
theorem rootsF_len {f : List Int} (hl : IsLean f) (h0 : f ≠ []) (h4 : f.length ≤ 5) : (rootsF f).length ≤ 4 := by
  have := rootsF_deg hl h0
  omega
theorem rootsF_lt {e : Nat} {f : List Int} (hb : Bd e f) {p : Int} (h : p ∈ rootsF f) : Lt (e + 3) p := by
  have h1 := mem_zs.mp h
  have h2 := hiF_lt hb
  have h3 := hiF_three f
  unfold Lt
  have p0 : 0 < 2 ^ e := Nat.pow_pos (by decide : 0 < 2)
  have : ((p.natAbs : Nat) : Int) < ((2 ^ (e + 3) : Nat) : Int) := by
    rw [Nat.pow_add]
    have h4 : ((2 ^ e : Nat) : Int) = 2 ^ e := by exact_mod_cast rfl
    have : ((2 ^ e * 2 ^ 3 : Nat) : Int) = 2 ^ e * 8 := by
      rw [Int.natCast_mul, h4] <;> rfl
    rw [this]
    have : (1 : Int) ≤ 2 ^ e := by exact_mod_cast p0
    omega
  exact_mod_cast this
end K80
set_option Elab.async false
set_option linter.all false
/-! K81A: joining neighbours, again and again; plain. -/
namespace K81
section
variable {α : Type} (mg : α → α → Bool) (jn : α → α → α)
/-- the first two neighbours that go on, joined -/
def step1 : List α → Option (List α)
  | p :: q :: l => if mg p q = true then some (jn p q :: l) else (step1 (q :: l)).map (p :: ·)
  | _ => none
def norm : Nat → List α → List α
  | 0, l => l
  | n + 1, l => (match step1 mg jn l with
    | none => l
    | some l' => norm n l')
/-- no two neighbours go on -/
def Nrm : List α → Prop
  | p :: q :: l => mg p q = false ∧ Nrm (q :: l)
  | _ => True
variable {mg jn}
theorem step1_none : ∀ {l : List α}, step1 mg jn l = none ↔ Nrm mg l
  | [] => by simp [step1, Nrm]
  | [_] => by simp [step1, Nrm]
  | p :: q :: l => by
    rw [step1, Nrm]
    by_cases h : mg p q = true
    · rw [if_pos h, h]; simp
    · have h' : mg p q = false := by simpa using h
      rw [if_neg h, h', Option.map_eq_none_iff, step1_none (l := q :: l)]
      simp
theorem step1_len : ∀ {l l' : List α}, step1 mg jn l = some l' → l.length = l'.length + 1
  | [], l', h => by simp [step1] at h
  | [_], l', h => by simp [step1] at h
  | p :: q :: l, l', h => by
    rw [step1] at h
    split at h
    · cases h; simp
    · obtain ⟨m, hm, rfl⟩ := Option.map_eq_some_iff.mp h
      have := step1_len hm
      simp at this ⊢
      omega
theorem norm_nrm : ∀ (n : Nat) (l : List α), l.length ≤ n → Nrm mg (norm mg jn n l)
  | 0, l, h => by
    have : l = [] := List.eq_nil_of_length_eq_zero (by omega)
    subst this
    exact trivial
  | n + 1, l, h => by
    rw [norm]
    split
    · rename_i e; exact step1_none.mp e
    · rename_i l' e
      have := step1_len e
      exact norm_nrm n l' (by omega)
theorem norm_of {n : Nat} {l : List α} (h : Nrm mg l) : norm mg jn n l = l := by
  cases n with
  | zero => rfl
  | succ n => rw [norm, step1_none.mpr h]
/-- what every joining keeps, the end keeps -/
theorem norm_ind {T : List α → Prop} (hT : ∀ x p q y, mg p q = true → T (x ++ p :: q :: y) → T (x ++ jn p q :: y)) : ∀ (n : Nat) (l : List α), T l → T (norm mg jn n l)
  | 0, l, h => h
  | n + 1, l, h => by
    rw [norm]
    split
    · exact h
    · rename_i l' e
      have key : ∀ (x l l' : List α), step1 mg jn l = some l' → T (x ++ l) → T (x ++ l') := by
        intro x l
        induction l generalizing x with
        | nil => intro l' e; simp [step1] at e
        | cons p l ih =>
          intro l' e hx
          cases l with
          | nil => simp [step1] at e
          | cons q l =>
            rw [step1] at e
            split at e
            · rename_i hm
              cases e
              exact hT x p q l hm hx
            · obtain ⟨m, hm, rfl⟩ := Option.map_eq_some_iff.mp e
              have := ih (x ++ [p]) m hm (by simpa using hx)
              simpa using this
      exact norm_ind hT n l' (key [] l l' e h)
/-- the spots -/
def spotB (mg : α → α → Bool) (l : List α) (i : Nat) : Bool := match l[i]?, l[i + 1]? with
  | some p, some q => mg p q
  | _, _ => false
theorem spotB_some {mg : α → α → Bool} {l : List α} {i : Nat} {p q : α} (h1 : l[i]? = some p) (h2 : l[i + 1]? = some q) : spotB mg l i = mg p q := by
  unfold spotB
  rw [h1, h2]
def spots (mg : α → α → Bool) (l : List α) : List Nat := (List.range (l.length - 1)).filter (spotB mg l)
theorem spots_cons (p q : α) (l : List α) : spots mg (p :: q :: l) = if mg p q = true then 0 :: (spots mg (q :: l)).map (· + 1) else (spots mg (q :: l)).map (· + 1) := by
  unfold spots
  have e : (p :: q :: l).length - 1 = ((q :: l).length - 1) + 1 := by simp
  rw [e, List.range_succ_eq_map, List.filter_cons, List.filter_map]
  have e2 : (spotB mg (p :: q :: l) ∘ Nat.succ) = spotB mg (q :: l) := by
    funext i
    rfl
  rw [e2]
  show (if mg p q = true then _ else _) = _
  rfl
theorem spots_nil : ∀ {l : List α}, spots mg l = [] ↔ step1 mg jn l = none
  | [] => by simp [spots, step1]
  | [_] => by simp [spots, step1]
  | p :: q :: l => by
    rw [spots_cons, step1]
    split
    · simp
    · rw [List.map_eq_nil_iff, Option.map_eq_none_iff]
      exact spots_nil (l := q :: l)
theorem spots_some : ∀ {l : List α} {i : Nat} {is : List Nat}, spots mg l = i :: is → ∃ p q, l[i]? = some p ∧ l[i + 1]? = some q ∧ step1 mg jn l = some (l.take i ++ [jn p q] ++ l.drop (i + 2))
  | [], i, is, h => by simp [spots] at h
  | [_], i, is, h => by simp [spots] at h
  | p :: q :: l, i, is, h => by
    rw [spots_cons] at h
    rw [step1]
    split at h
    · rename_i hm
      cases h
      exact ⟨p, q, rfl, rfl, by rw [if_pos hm]; rfl⟩
    · rename_i hm
      rw [if_neg hm]
      cases hs : spots mg (q :: l) with
      | nil => rw [hs] at h; simp at h
      | cons j js =>
        rw [hs] at h
        simp only [List.map_cons, List.cons.injEq] at h
        obtain ⟨rfl, rfl⟩ := h
        obtain ⟨a, b, h1, h2, h3⟩ := spots_some hs
        refine ⟨a, b, h1, h2, ?_⟩
        rw [h3]
        rfl
end
/-! ### pairs of a size and a step -/
abbrev Pr := Int × Int
def mgV (p q : Pr) : Bool := q.2 == p.1 * p.2
def jnV (p q : Pr) : Pr := (p.1 * q.1, p.2)
def grpC (p : Pr) : List Pr → List Pr
  | [] => [p]
  | q :: r => if mgV p q = true then jnV p q :: r else p :: q :: r
def grp : List Pr → List Pr
  | [] => []
  | p :: l => grpC p (grp l)
theorem grp_join (p q : Pr) (h : mgV p q = true) : ∀ (x y : List Pr), grp (x ++ p :: q :: y) = grp (x ++ jnV p q :: y)
  | z :: x, y => by
    rw [List.cons_append, List.cons_append, grp, grp, grp_join p q h x y]
  | [], y => by
    rw [List.nil_append, List.nil_append, grp, grp, grp]
    have hq : q.2 = p.1 * p.2 := by simpa [mgV] using h
    cases grp y with
    | nil =>
      show grpC p [q] = [jnV p q]
      rw [grpC, if_pos h]
    | cons r l =>
      rw [grpC, grpC]
      by_cases h1 : mgV q r = true
      · have h2 : mgV (jnV p q) r = true := by
          simp only [mgV, jnV, beq_iff_eq] at *
          rw [h1, hq, ← Int.mul_assoc, Int.mul_comm q.1]
        have h3 : mgV p (jnV q r) = true := by simpa [mgV, jnV] using hq
        rw [if_pos h1, if_pos h2, grpC, if_pos h3]
        simp only [jnV, Int.mul_assoc]
      · have h2 : ¬ mgV (jnV p q) r = true := by
          simp only [mgV, jnV, beq_iff_eq] at *
          rw [hq, ← Int.mul_assoc, Int.mul_comm q.1] at h1
          exact h1
        rw [if_neg h1, if_neg h2, grpC, if_pos h]
theorem grp_nrm : ∀ {l : List Pr}, Nrm mgV l → grp l = l
  | [], _ => rfl
  | [p], _ => rfl
  | p :: q :: l, h => by
    rw [Nrm] at h
    rw [grp, grp_nrm h.2, grpC, if_neg (by rw [h.1]; simp)]
theorem norm_grp (n : Nat) (l : List Pr) (h : l.length ≤ n) : norm mgV jnV n l = grp l := by
  have h1 := norm_ind (mg := mgV) (jn := jnV) (T := fun x => grp x = grp l) (fun x p q y hm hx => by rw [← grp_join p q hm x y]; exact hx) n l rfl
  rw [← h1, grp_nrm (norm_nrm n l h)]
/-- sizes of 1 struck, neighbours joined -/
def big (p : Pr) : Bool := decide (1 < p.1)
def shV (l : List Pr) : List Pr := grp (l.filter big)
theorem sh_join {p q : Pr} (h : mgV p q = true) (h1 : 1 ≤ p.1) (h2 : 1 ≤ q.1) (x y : List Pr) : shV (x ++ p :: q :: y) = shV (x ++ jnV p q :: y) := by
  unfold shV
  rw [List.filter_append, List.filter_append, List.filter_cons, List.filter_cons, List.filter_cons]
  have hq : q.2 = p.1 * p.2 := by simpa [mgV] using h
  by_cases a : 1 < p.1
  · by_cases b : 1 < q.1
    · have c : 1 < p.1 * q.1 := by
        have : 1 * 2 ≤ p.1 * q.1 := Int.mul_le_mul (by omega) (by omega) (by decide) (by omega)
        omega
      rw [if_pos (by simpa [big] using a), if_pos (by simpa [big] using b), if_pos (show big (jnV p q) = true from decide_eq_true c)]
      exact grp_join p q h _ _
    · have b1 : q.1 = 1 := by omega
      have c : 1 < p.1 * q.1 := by rw [b1]; omega
      rw [if_pos (by simpa [big] using a), if_neg (by simpa [big] using b), if_pos (show big (jnV p q) = true from decide_eq_true c)]
      have : jnV p q = p := by unfold jnV; rw [b1, Int.mul_one]
      rw [this]
  · have a1 : p.1 = 1 := by omega
    have e : jnV p q = q := by
      unfold jnV
      refine Prod.ext ?_ ?_
      · show p.1 * q.1 = q.1
        rw [a1, Int.one_mul]
      · show p.2 = q.2
        rw [hq, a1, Int.one_mul]
    rw [if_neg (by simpa [big] using a), e]
theorem sh_one {p : Pr} (h : p.1 = 1) (x y : List Pr) : shV (x ++ p :: y) = shV (x ++ y) := by
  unfold shV
  rw [List.filter_append, List.filter_cons, if_neg (by simp [big, h]), List.filter_append]
theorem sh_self {l : List Pr} (h1 : ∀ p ∈ l, 1 < p.1) (h2 : Nrm mgV l) : shV l = l := by
  unfold shV
  rw [List.filter_eq_self.mpr fun p hp => by simpa [big] using h1 p hp, grp_nrm h2]
/-- the program's way: one after the other -/
def sIn (acc : List Pr) (p : Pr) : List Pr := if 1 < p.1 then (match acc.getLast? with
    | some q => if mgV q p = true then acc.dropLast ++ [jnV q p] else acc ++ [p]
    | none => acc ++ [p]) else acc
theorem nrm_snoc : ∀ {l : List Pr} {p : Pr}, Nrm mgV l → (∀ q, l.getLast? = some q → mgV q p = false) → Nrm mgV (l ++ [p])
  | [], p, _, _ => trivial
  | [q], p, _, h => ⟨h q rfl, trivial⟩
  | q :: r :: l, p, hn, h => by
    rw [Nrm] at hn
    exact ⟨hn.1, nrm_snoc (l := r :: l) hn.2 fun z hz => h z (by rw [List.getLast?_cons_cons]; exact hz)⟩
theorem nrm_last : ∀ {l : List Pr} {q q' : Pr}, q.2 = q'.2 → Nrm mgV (l ++ [q]) → Nrm mgV (l ++ [q'])
  | [], _, _, _, _ => trivial
  | [r], q, q', e, h => by
    have : mgV r q = false := h.1
    refine ⟨?_, trivial⟩
    unfold mgV at *
    rw [← e]; exact this
  | r :: s :: l, q, q', e, h => ⟨h.1, nrm_last (l := s :: l) e h.2⟩
theorem sIn_fold : ∀ (l acc : List Pr), Nrm mgV acc → Nrm mgV (l.foldl sIn acc) ∧ grp (l.foldl sIn acc) = grp (acc ++ l.filter big)
  | [], acc, h => ⟨h, by simp⟩
  | p :: l, acc, h => by
    rw [List.foldl_cons, List.filter_cons]
    by_cases a : 1 < p.1
    · rw [if_pos (by simpa [big] using a)]
      cases hl : acc.getLast? with
      | none =>
        have e : sIn acc p = acc ++ [p] := by unfold sIn; rw [if_pos a, hl]
        rw [e]
        have := sIn_fold l (acc ++ [p]) (nrm_snoc h fun q hq => by rw [hl] at hq; cases hq)
        exact ⟨this.1, by rw [this.2]; simp⟩
      | some q =>
        obtain ⟨acc', rfl⟩ : ∃ acc', acc = acc' ++ [q] := by
          obtain ⟨ys, hys⟩ := List.getLast?_eq_some_iff.mp hl
          exact ⟨ys, hys⟩
        by_cases m : mgV q p = true
        · have e : sIn (acc' ++ [q]) p = acc' ++ [jnV q p] := by
            unfold sIn
            rw [if_pos a, hl]
            dsimp only
            rw [if_pos m, List.dropLast_concat]
          rw [e]
          have := sIn_fold l (acc' ++ [jnV q p]) (nrm_last (q := q) rfl h)
          refine ⟨this.1, ?_⟩
          rw [this.2, List.append_assoc, List.append_assoc]
          exact (grp_join q p m acc' _).symm
        · have e : sIn (acc' ++ [q]) p = acc' ++ [q] ++ [p] := by
            unfold sIn
            rw [if_pos a, hl]
            dsimp only
            rw [if_neg m]
          rw [e]
          have := sIn_fold l (acc' ++ [q] ++ [p]) (nrm_snoc h fun z hz => by
            rw [hl] at hz
            cases hz
            simpa using m)
          exact ⟨this.1, by rw [this.2]; simp⟩
    · rw [if_neg (by simpa [big] using a)]
      have e : sIn acc p = acc := by unfold sIn; rw [if_neg a]
      rw [e]
      exact sIn_fold l acc h
theorem sIn_sh (l : List Pr) : l.foldl sIn [] = shV l := by
  obtain ⟨h1, h2⟩ := sIn_fold l [] trivial
  rw [← grp_nrm h1, h2] <;> rfl
end K81
set_option Elab.async false
set_option linter.all false
/-! K81B: growing walks: general joining, at a value; plain. -/
namespace K81
open K80
abbrev GP := (Int × Int) × List Int
def sizeAt (s : Int × Int) (m : Int) : Int := if s.2 = 1 then s.1 * m else s.1
/-- a form times a growing size -/
def sizedF (f : List Int) (s : Int × Int) : List Int := if s.2 = 1 ∧ sclF f s.1 ≠ [] then 0 :: sclF f s.1 else sclF f s.1
theorem ev_sizedF (f : List Int) (s : Int × Int) (m : Int) : ev (sizedF f s) m = sizeAt s m * ev f m := by
  have h := ev_sclF f s.1 m
  unfold sizedF sizeAt
  by_cases h1 : s.2 = 1
  · rw [if_pos h1]
    by_cases h2 : sclF f s.1 = []
    · rw [if_neg (by simp [h2])]
      rw [h2] at h ⊢
      have h : 0 = ev f m * s.1 := h
      rw [Int.mul_right_comm, Int.mul_comm s.1, ← h, Int.zero_mul] <;> rfl
    · rw [if_pos ⟨h1, h2⟩]
      show 0 + m * ev (sclF f s.1) m = _
      rw [h, Int.zero_add, Int.mul_comm (s.1) m, Int.mul_assoc, Int.mul_comm s.1]
  · rw [if_neg h1, if_neg (by simp [h1]), h, Int.mul_comm]
theorem sizedF_len (f : List Int) (s : Int × Int) : (sizedF f s).length ≤ f.length + 1 := by
  have := sclF_len f s.1
  unfold sizedF
  split
  · rw [List.length_cons]; omega
  · omega
theorem sclF_lean (f : List Int) (k : Int) : IsLean (sclF f k) := lean0_lean _
theorem lean_cons {c : Int} {f : List Int} (h : IsLean f) (h0 : f ≠ []) : IsLean (c :: f) := fun k hk => by
  obtain ⟨j, rfl⟩ : ∃ j, k = j + 1 := ⟨k - 1, by
    have := List.length_pos_iff.mpr h0
    rw [List.length_cons] at hk
    omega⟩
  exact h j (by rw [List.length_cons] at hk; omega)
theorem sizedF_lean (f : List Int) (s : Int × Int) : IsLean (sizedF f s) := by
  unfold sizedF
  split
  · rename_i h; exact lean_cons (sclF_lean f s.1) h.2
  · exact sclF_lean f s.1
/-- the gap between where a pair ends and where the next begins -/
def gapF (p q : GP) : List Int := addF q.2 (sclF (sizedF p.2 p.1) (-1))
theorem ev_gapF (p q : GP) (m : Int) : ev (gapF p q) m = ev q.2 m - sizeAt p.1 m * ev p.2 m := by
  unfold gapF
  rw [ev_addF, ev_sclF, ev_sizedF]
  omega
theorem gapF_lean (p q : GP) : IsLean (gapF p q) := addF_lean _ _
theorem gapF_len {p q : GP} {k : Nat} (h1 : p.2.length ≤ k) (h2 : q.2.length ≤ k) : (gapF p q).length ≤ k + 1 := by
  refine Nat.le_trans (addF_len _ _) ?_
  have := sclF_len (sizedF p.2 p.1) (-1)
  have := sizedF_len p.2 p.1
  omega
def mgG (p q : GP) : Bool := decide (gapF p q = [])
def jnG (p q : GP) : GP := ((p.1.1 * q.1.1, p.1.2 + q.1.2), p.2)
def plainB (p : GP) : Bool := !decide (p.1 = (1, 0))
/-- the general short form's pairs -/
def genP (l : List GP) : List GP := norm mgG jnG (l.filter plainB).length (l.filter plainB)
def atV (l : List GP) (m : Int) : List Pr := l.map fun p => (sizeAt p.1 m, ev p.2 m)
theorem atV_app (x y : List GP) (m : Int) : atV (x ++ y) m = atV x m ++ atV y m := List.map_append
/-- what holds of pairs all along -/
structure Gd (b : Nat) (most : Int) (l : List GP) : Prop where
  ok : ∀ p ∈ l, 1 ≤ p.1.1 ∧ 0 ≤ p.1.2 ∧ p.1.2 ≤ 1 ∧ IsLean p.2 ∧ p.2.length ≤ 4 ∧ Bd b p.2
  sum : (l.map (·.1.2)).sum ≤ 1
  prod : (l.map (·.1.1)).foldl (· * ·) 1 ≤ most
theorem foldl_mul (l : List Int) : ∀ a : Int, l.foldl (· * ·) a = a * l.foldl (· * ·) 1 := by
  induction l with
  | nil => intro a; simp
  | cons x l ih => intro a; rw [List.foldl_cons, List.foldl_cons, ih (a * x), ih (1 * x), Int.one_mul, Int.mul_assoc]
theorem prod_app2 (x y : List Int) : (x ++ y).foldl (· * ·) 1 = x.foldl (· * ·) 1 * y.foldl (· * ·) 1 := by
  rw [List.foldl_append, foldl_mul]
theorem prod_pos1 : ∀ (l : List Int), (∀ x ∈ l, 1 ≤ x) → 1 ≤ l.foldl (· * ·) 1
  | [], _ => Int.le_refl _
  | x :: l, h => by
    rw [List.foldl_cons, Int.one_mul, foldl_mul]
    have h1 := h x List.mem_cons_self
    have h2 := prod_pos1 l fun y hy => h y (List.mem_cons_of_mem _ hy)
    exact Int.le_trans (by decide) (Int.mul_le_mul h1 h2 (by decide) (by omega))
theorem prod_ge : ∀ (l : List Int), (∀ x ∈ l, 1 ≤ x) → ∀ x ∈ l, x ≤ l.foldl (· * ·) 1
  | [], _, _, h => nomatch h
  | y :: l, h, x, hx => by
    rw [List.foldl_cons, Int.one_mul, foldl_mul]
    have h1 := h y List.mem_cons_self
    have h2 := prod_pos1 l fun z hz => h z (List.mem_cons_of_mem _ hz)
    rcases List.mem_cons.mp hx with rfl | hx
    · have := Int.mul_le_mul (Int.le_refl x) h2 (by decide) (by omega)
      omega
    · have h3 := prod_ge l (fun z hz => h z (List.mem_cons_of_mem _ hz)) x hx
      have := Int.mul_le_mul h1 h3 (by have := h x (List.mem_cons_of_mem _ hx); omega) (by omega)
      omega
theorem sum_nn : ∀ l : List Int, (∀ x ∈ l, 0 ≤ x) → 0 ≤ l.sum ∧ ∀ x ∈ l, x ≤ l.sum
  | [], _ => ⟨Int.le_refl _, fun _ h => nomatch h⟩
  | y :: l, h => by
    obtain ⟨h1, h2⟩ := sum_nn l fun x hx => h x (List.mem_cons_of_mem _ hx)
    have h3 := h y List.mem_cons_self
    rw [List.sum_cons]
    refine ⟨by omega, fun x hx => ?_⟩
    rcases List.mem_cons.mp hx with rfl | hx
    · omega
    · have := h2 x hx; omega
theorem Gd.join {b : Nat} {most : Int} {x y : List GP} {p q : GP} (h : Gd b most (x ++ p :: q :: y)) : Gd b most (x ++ jnG p q :: y) := by
  have hp := h.ok p (by simp)
  have hq := h.ok q (by simp)
  have es : ((x ++ p :: q :: y).map (·.1.2)).sum = ((x ++ jnG p q :: y).map (·.1.2)).sum := by
    simp only [List.map_append, List.map_cons, List.sum_append, List.sum_cons, jnG]
    omega
  have ep : ((x ++ p :: q :: y).map (·.1.1)).foldl (· * ·) 1 = ((x ++ jnG p q :: y).map (·.1.1)).foldl (· * ·) 1 := by
    rw [List.map_append, List.map_append, prod_app2, prod_app2, List.map_cons, List.map_cons, List.map_cons, List.foldl_cons, List.foldl_cons, List.foldl_cons]
    congr 1
    rw [Int.one_mul, Int.one_mul] <;> rfl
  have hsum := (sum_nn ((x ++ p :: q :: y).map (·.1.2)) fun z hz => by
    obtain ⟨r, hr, rfl⟩ := List.mem_map.mp hz
    exact (h.ok r hr).2.1)
  refine ⟨fun r hr => ?_, es ▸ h.sum, ep ▸ h.prod⟩
  rcases List.mem_append.mp hr with h1 | h1
  · exact h.ok r (List.mem_append_left _ h1)
  · rcases List.mem_cons.mp h1 with rfl | h1
    · refine ⟨?_, by show 0 ≤ p.1.2 + q.1.2; omega, ?_, hp.2.2.2⟩
      · show 1 ≤ p.1.1 * q.1.1
        have := Int.mul_le_mul hp.1 hq.1 (by decide) (by omega)
        omega
      · have h2 := h.sum
        show p.1.2 + q.1.2 ≤ 1
        have h3 : 0 ≤ (x.map (·.1.2)).sum := (sum_nn _ fun z hz => by
          obtain ⟨r, hr, rfl⟩ := List.mem_map.mp hz
          exact (h.ok r (List.mem_append_left _ hr)).2.1).1
        have h4 : 0 ≤ (y.map (·.1.2)).sum := (sum_nn _ fun z hz => by
          obtain ⟨r, hr, rfl⟩ := List.mem_map.mp hz
          exact (h.ok r (by simp [hr])).2.1).1
        simp only [List.map_append, List.map_cons, List.sum_append, List.sum_cons] at h2
        omega
    · exact h.ok r (by simp [h1])
theorem sizeAt_pos {s : Int × Int} {m : Int} (h1 : 1 ≤ s.1) (hm : 1 ≤ m) : 1 ≤ sizeAt s m := by
  unfold sizeAt
  split
  · have := Int.mul_le_mul h1 hm (by decide) (by omega)
    omega
  · exact h1
theorem sizeAt_mul {s t : Int × Int} {m : Int} (h1 : 0 ≤ s.2) (h2 : 0 ≤ t.2) (h3 : s.2 + t.2 ≤ 1) : sizeAt (s.1 * t.1, s.2 + t.2) m = sizeAt s m * sizeAt t m := by
  unfold sizeAt
  dsimp only
  by_cases a : s.2 = 1
  · have b : t.2 = 0 := by omega
    rw [if_pos (by omega), if_pos a, if_neg (by omega), Int.mul_right_comm]
  · by_cases b : t.2 = 1
    · rw [if_pos (by omega), if_neg a, if_pos b, Int.mul_assoc]
    · rw [if_neg (by omega), if_neg a, if_neg b]
/-- a general joining is one at every value -/
theorem at_join {b : Nat} {most m : Int} (hm : 1 ≤ m) {x y : List GP} {p q : GP} (hg : mgG p q = true) (h : Gd b most (x ++ p :: q :: y)) : shV (atV (x ++ p :: q :: y) m) = shV (atV (x ++ jnG p q :: y) m) := by
  have hp := h.ok p (by simp)
  have hq := h.ok q (by simp)
  have hj := h.join.ok (jnG p q) (by simp)
  rw [atV_app, atV_app]
  have e0 : gapF p q = [] := of_decide_eq_true hg
  have e1 := ev_gapF p q m
  rw [e0] at e1
  have e1 : 0 = ev q.2 m - sizeAt p.1 m * ev p.2 m := e1
  have e2 : mgV (sizeAt p.1 m, ev p.2 m) (sizeAt q.1 m, ev q.2 m) = true := by
    unfold mgV
    simp only [beq_iff_eq]
    omega
  have := sh_join e2 (sizeAt_pos hp.1 hm) (sizeAt_pos hq.1 hm) (atV x m) (atV y m)
  show shV (atV x m ++ (sizeAt p.1 m, ev p.2 m) :: (sizeAt q.1 m, ev q.2 m) :: atV y m) = shV (atV x m ++ (sizeAt (jnG p q).1 m, ev (jnG p q).2 m) :: atV y m)
  rw [this]
  have e3 : sizeAt (jnG p q).1 m = sizeAt p.1 m * sizeAt q.1 m := sizeAt_mul hp.2.1 hq.2.1 hj.2.2.1
  rw [e3] <;> rfl
theorem at_plain (l : List GP) (m : Int) : shV (atV (l.filter plainB) m) = shV (atV l m) := by
  have key : ∀ (x l : List GP), shV (atV (x ++ l.filter plainB) m) = shV (atV (x ++ l) m) := by
    intro x l
    induction l generalizing x with
    | nil => rfl
    | cons p l ih =>
      rw [List.filter_cons]
      split
      · have := ih (x ++ [p])
        rw [List.append_assoc, List.append_assoc] at this
        exact this
      · rename_i h
        have hp : p.1 = (1, 0) := by simpa [plainB] using h
        rw [ih x, atV_app, atV_app]
        show shV (atV x m ++ atV l m) = shV (atV x m ++ (sizeAt p.1 m, ev p.2 m) :: atV l m)
        rw [sh_one]
        rw [hp]
        unfold sizeAt
        rfl
  have := key [] l
  simpa using this
theorem Gd.filter {b : Nat} {most : Int} {l : List GP} (h : Gd b most l) : Gd b most (l.filter plainB) := by
  refine ⟨fun p hp => h.ok p (List.mem_filter.mp hp).1, ?_, ?_⟩
  · have key : ∀ l : List GP, (∀ p ∈ l, 0 ≤ p.1.2) → ((l.filter plainB).map (·.1.2)).sum = (l.map (·.1.2)).sum := fun l => by
      induction l with
      | nil => intro _; rfl
      | cons p l ih =>
        intro hl
        rw [List.filter_cons]
        split
        · rw [List.map_cons, List.map_cons, List.sum_cons, List.sum_cons, ih fun q hq => hl q (List.mem_cons_of_mem _ hq)]
        · rename_i h
          have hp : p.1 = (1, 0) := by simpa [plainB] using h
          rw [List.map_cons, List.sum_cons, ih fun q hq => hl q (List.mem_cons_of_mem _ hq), hp]
          simp
    rw [key l fun p hp => (h.ok p hp).2.1]
    exact h.sum
  · have key : ∀ l : List GP, ((l.filter plainB).map (·.1.1)).foldl (· * ·) 1 = (l.map (·.1.1)).foldl (· * ·) 1 := fun l => by
      induction l with
      | nil => rfl
      | cons p l ih =>
        rw [List.filter_cons]
        split
        · rw [List.map_cons, List.map_cons, List.foldl_cons, List.foldl_cons, foldl_mul, ih, ← foldl_mul]
        · rename_i h
          have hp : p.1 = (1, 0) := by simpa [plainB] using h
          rw [List.map_cons, List.foldl_cons, ih, hp] <;> rfl
    rw [key l]
    exact h.prod
theorem jn_plain {b : Nat} {most : Int} {x y : List GP} {p q : GP} (h : Gd b most (x ++ p :: q :: y)) (hp : plainB p = true) : plainB (jnG p q) = true := by
  have h1 := h.ok p (by simp)
  have h2 := h.ok q (by simp)
  have hp : ¬ p.1 = (1, 0) := by simpa [plainB] using hp
  have : ¬ (jnG p q).1 = (1, 0) := fun w => by
    have w1 : p.1.1 * q.1.1 = 1 := congrArg Prod.fst w
    have w2 : p.1.2 + q.1.2 = 0 := congrArg Prod.snd w
    apply hp
    refine Prod.ext ?_ (by show p.1.2 = 0; omega)
    show p.1.1 = 1
    have := Int.mul_le_mul (Int.le_refl p.1.1) h2.1 (by decide) (by omega)
    omega
  unfold plainB
  simpa using this
/-- what the general short form is -/
theorem genP_ok {b : Nat} {most : Int} {l : List GP} (h : Gd b most l) : Gd b most (genP l) ∧ Nrm mgG (genP l) ∧ (∀ p ∈ genP l, plainB p = true) ∧ (genP l).length ≤ l.length ∧ ∀ m, 1 ≤ m → shV (atV (genP l) m) = shV (atV l m) := by
  have hN : Nrm mgG (genP l) := norm_nrm _ _ (Nat.le_refl _)
  have := norm_ind (mg := mgG) (jn := jnG) (T := fun x => Gd b most x ∧ (∀ p ∈ x, plainB p = true) ∧ x.length ≤ l.length ∧ ∀ m, 1 ≤ m → shV (atV x m) = shV (atV l m)) (fun x p q y hm hx => by
    obtain ⟨h1, h2, h3, h4⟩ := hx
    refine ⟨h1.join, fun r hr => ?_, by simp at h3 ⊢; omega, fun m h5 => by rw [← at_join h5 hm h1]; exact h4 m h5⟩
    rcases List.mem_append.mp hr with w | w
    · exact h2 r (List.mem_append_left _ w)
    · rcases List.mem_cons.mp w with rfl | w
      · exact jn_plain h1 (h2 p (by simp))
      · exact h2 r (by simp [w])) (l.filter plainB).length (l.filter plainB) ⟨h.filter, fun p hp => (List.mem_filter.mp hp).2, List.length_filter_le _ _, fun m _ => at_plain l m⟩
  exact ⟨this.1, hN, this.2⟩
theorem genP_self {l : List GP} (h1 : Nrm mgG l) (h2 : ∀ p ∈ l, plainB p = true) : genP l = l := by
  have e : l.filter plainB = l := List.filter_eq_self.mpr h2
  unfold genP
  rw [e, norm_of h1]
end K81
set_option Elab.async false
set_option linter.all false
/-! K81C: odd values, likeness; plain. -/
namespace K81
open K80
theorem nrm_zip {α : Type} {mg : α → α → Bool} : ∀ {l : List α}, Nrm mg l ↔ ∀ pq ∈ l.zip l.tail, mg pq.1 pq.2 = false
  | [] => by simp [Nrm]
  | [_] => by simp [Nrm]
  | p :: q :: l => by
    rw [Nrm, nrm_zip (l := q :: l)]
    show (mg p q = false ∧ ∀ pq ∈ (q :: l).zip l, mg pq.1 pq.2 = false) ↔ ∀ pq ∈ (p, q) :: (q :: l).zip l, mg pq.1 pq.2 = false
    constructor
    · rintro ⟨h1, h2⟩ pq hpq
      rcases List.mem_cons.mp hpq with rfl | h
      · exact h1
      · exact h2 pq h
    · intro h
      exact ⟨h (p, q) List.mem_cons_self, fun pq hpq => h pq (List.mem_cons_of_mem _ hpq)⟩
theorem zip_mem {α : Type} {l : List α} {p q : α} (h : (p, q) ∈ l.zip l.tail) : p ∈ l ∧ q ∈ l := by
  have := List.of_mem_zip h
  exact ⟨this.1, List.mem_of_mem_tail this.2⟩
def oddS (l : List GP) : List Int := ((l.filter fun p => decide (p.1 = (1, 1))).map fun _ => 1) ++ (l.zip l.tail).flatMap fun pq => rootsF (gapF pq.1 pq.2)
def shortV (l : List Pr) : Prop := (∀ p ∈ l, p.1 ≠ 1) ∧ Nrm mgV l
theorem gap_ne {l : List GP} (h : Nrm mgG l) {p q : GP} (hm : (p, q) ∈ l.zip l.tail) : gapF p q ≠ [] := by
  have := nrm_zip.mp h (p, q) hm
  intro w
  simp [mgG, w] at this
theorem mem_oddS {l : List GP} (h : Nrm mgG l) {m : Int} : m ∈ oddS l ↔ (m = 1 ∧ ∃ p ∈ l, p.1 = (1, 1)) ∨ ∃ p q, (p, q) ∈ l.zip l.tail ∧ 1 ≤ m ∧ ev (gapF p q) m = 0 := by
  unfold oddS
  rw [List.mem_append, List.mem_map, List.mem_flatMap]
  constructor
  · rintro (⟨p, hp, rfl⟩ | ⟨⟨p, q⟩, hpq, hm⟩)
    · obtain ⟨h1, h2⟩ := List.mem_filter.mp hp
      exact .inl ⟨rfl, p, h1, by simpa using h2⟩
    · exact .inr ⟨p, q, hpq, (mem_rootsF (gapF_lean p q) (gap_ne h hpq)).mp hm⟩
  · rintro (⟨rfl, p, hp, e⟩ | ⟨p, q, hpq, hm⟩)
    · exact .inl ⟨p, List.mem_filter.mpr ⟨hp, by simpa using e⟩, rfl⟩
    · exact .inr ⟨(p, q), hpq, (mem_rootsF (gapF_lean p q) (gap_ne h hpq)).mpr hm⟩
theorem odd_pos {l : List GP} (h : Nrm mgG l) {m : Int} (hm : m ∈ oddS l) : 1 ≤ m := by
  rcases (mem_oddS h).mp hm with ⟨rfl, _⟩ | ⟨_, _, _, h1, _⟩
  · exact Int.le_refl _
  · exact h1
theorem zip_map_tail {α β : Type} (f : α → β) (l : List α) : (l.map f).zip (l.map f).tail = (l.zip l.tail).map fun p => (f p.1, f p.2) := by
  rw [← List.map_tail, List.zip_map] <;> rfl
theorem odd_iff {b : Nat} {most m : Int} {l : List GP} (hd : Gd b most l) (h : Nrm mgG l) (hp : ∀ p ∈ l, plainB p = true) (hm : 1 ≤ m) : m ∈ oddS l ↔ ¬ shortV (atV l m) := by
  have e1 : Nrm mgV (atV l m) ↔ ∀ p q, (p, q) ∈ l.zip l.tail → ev (gapF p q) m ≠ 0 := by
    rw [nrm_zip]
    unfold atV
    rw [zip_map_tail]
    constructor
    · intro z p q hpq w
      have := z _ (List.mem_map.mpr ⟨(p, q), hpq, rfl⟩)
      rw [ev_gapF] at w
      simp only [mgV, beq_eq_false_iff_ne, ne_eq] at this
      omega
    · intro z pq hpq
      obtain ⟨⟨p, q⟩, hpq', rfl⟩ := List.mem_map.mp hpq
      have := z p q hpq'
      rw [ev_gapF] at this
      simp only [mgV, beq_eq_false_iff_ne, ne_eq]
      omega
  have e2 : (∀ p ∈ atV l m, p.1 ≠ 1) ↔ ¬ (m = 1 ∧ ∃ p ∈ l, p.1 = (1, 1)) := by
    unfold atV
    constructor
    · rintro z ⟨rfl, p, hpl, e⟩
      refine z _ (List.mem_map.mpr ⟨p, hpl, rfl⟩) ?_
      show sizeAt p.1 1 = 1
      rw [e]; rfl
    · intro z x hx w
      obtain ⟨p, hpl, rfl⟩ := List.mem_map.mp hx
      have w : sizeAt p.1 m = 1 := w
      have hk := hd.ok p hpl
      have hpb : ¬ p.1 = (1, 0) := by simpa [plainB] using hp p hpl
      unfold sizeAt at w
      split at w
      · rename_i h2
        have h3 : m = 1 := by
          have := Int.mul_le_mul hk.1 (Int.le_refl m) (by omega) (by omega)
          omega
        subst h3
        exact z ⟨rfl, p, hpl, Prod.ext (by show p.1.1 = 1; omega) h2⟩
      · apply hpb
        exact Prod.ext w (by show p.1.2 = 0; omega)
  rw [mem_oddS h]
  unfold shortV
  rw [e1, e2]
  constructor
  · rintro (h1 | ⟨p, q, h1, h2, h3⟩) ⟨h4, h5⟩
    · exact h4 h1
    · exact h5 p q h1 h3
  · intro z
    by_cases h1 : m = 1 ∧ ∃ p ∈ l, p.1 = (1, 1)
    · exact .inl h1
    · refine .inr (Classical.byContradiction fun w => z ⟨h1, fun p q hpq h3 => w ⟨p, q, hpq, hm, h3⟩⟩)
theorem short_self {b : Nat} {most m : Int} {l : List GP} (hd : Gd b most l) (hm : 1 ≤ m) (h : shortV (atV l m)) : shV (atV l m) = atV l m := by
  refine sh_self (fun p hp => ?_) h.2
  have h1 := h.1 p hp
  obtain ⟨q, hq, rfl⟩ := List.mem_map.mp hp
  have := sizeAt_pos (m := m) (hd.ok q hq).1 hm
  show 1 < sizeAt q.1 m
  have h1 : sizeAt q.1 m ≠ 1 := h1
  omega
/-! ### likeness -/
def sizeForm (s : Int × Int) : List Int := if s.2 = 0 then [s.1] else [0, s.1]
theorem ev_sizeForm {s : Int × Int} (h0 : 0 ≤ s.2) (h1 : s.2 ≤ 1) (m : Int) : ev (sizeForm s) m = sizeAt s m := by
  unfold sizeForm sizeAt
  by_cases h : s.2 = 0
  · rw [if_pos h, if_neg (by omega)]; simp [ev]
  · rw [if_neg h, if_pos (by omega)]; simp [ev, Int.mul_comm]
theorem sizeForm_lean {s : Int × Int} (h : 1 ≤ s.1) : IsLean (sizeForm s) := by
  unfold sizeForm
  split
  · intro k hk
    have : k = 0 := by simpa using hk.symm
    subst this
    show s.1 ≠ 0
    omega
  · intro k hk
    have : k = 1 := by simpa using hk.symm
    subst this
    show s.1 ≠ 0
    omega
theorem sizeForm_inj {s t : Int × Int} (hs : 0 ≤ s.2 ∧ s.2 ≤ 1) (ht : 0 ≤ t.2 ∧ t.2 ≤ 1) (h : sizeForm s = sizeForm t) : s = t := by
  unfold sizeForm at h
  split at h <;> split at h <;> rename_i a b
  · exact Prod.ext (by simpa using h) (by omega)
  · simp at h
  · simp at h
  · exact Prod.ext (by simpa using h) (by omega)
def dif (f g : List Int) : List Int := addF f (sclF g (-1))
theorem ev_dif (f g : List Int) (m : Int) : ev (dif f g) m = ev f m - ev g m := by
  unfold dif
  rw [ev_addF, ev_sclF]
  omega
theorem co_dif (f g : List Int) (i : Nat) : co (dif f g) i = co f i - co g i := by
  unfold dif
  rw [co_addF, co_sclF]
  omega
theorem dif_nil {f g : List Int} (hf : IsLean f) (hg : IsLean g) (h : dif f g = []) : f = g := lean_eq hf hg fun i => by
  have := co_dif f g i
  rw [h] at this
  have : (0 : Int) = co f i - co g i := by simpa [co] using this
  omega
theorem dif_lean (f g : List Int) : IsLean (dif f g) := addF_lean _ _
theorem dif_len {f g : List Int} {k : Nat} (h1 : f.length ≤ k) (h2 : g.length ≤ k) : (dif f g).length ≤ k := by
  refine Nat.le_trans (addF_len _ _) ?_
  have := sclF_len g (-1)
  omega
/-- all gaps between two growing walks -/
def gapsA (one other : List Int × List GP) : List (List Int) := dif one.1 other.1 :: (one.2.zip other.2).flatMap fun pq => [dif (sizeForm pq.1.1) (sizeForm pq.2.1), dif pq.1.2 pq.2.2]
def gapsB (one other : List Int × List GP) : List (List Int) := (gapsA one other).filter fun f => decide (f ≠ [])
theorem gapsA_nil {b c : Nat} {ma mb : Int} {one other : List Int × List GP} (h1 : Gd b ma one.2) (h2 : Gd c mb other.2) (hb : IsLean one.1) (hc : IsLean other.1) (hl : one.2.length = other.2.length) (h : ∀ f ∈ gapsA one other, f = []) : one = other := by
  obtain ⟨b1, l1⟩ := one
  obtain ⟨b2, l2⟩ := other
  unfold gapsA at h
  have e1 : b1 = b2 := dif_nil hb hc (h _ List.mem_cons_self)
  subst e1
  have key : ∀ (l1 l2 : List GP), l1.length = l2.length → (∀ p ∈ l1, 0 ≤ p.1.2 ∧ p.1.2 ≤ 1 ∧ IsLean p.2 ∧ 1 ≤ p.1.1) → (∀ p ∈ l2, 0 ≤ p.1.2 ∧ p.1.2 ≤ 1 ∧ IsLean p.2 ∧ 1 ≤ p.1.1) → (∀ f ∈ (l1.zip l2).flatMap fun pq => [dif (sizeForm pq.1.1) (sizeForm pq.2.1), dif pq.1.2 pq.2.2], f = []) → l1 = l2 := fun l1 => by
    induction l1 with
    | nil => intro l2 hl _ _ _; exact (List.eq_nil_of_length_eq_zero (by simpa using hl.symm)).symm
    | cons p l1 ih =>
      intro l2 hl hp hq hf
      cases l2 with
      | nil => simp at hl
      | cons q l2 =>
        rw [List.zip_cons_cons, List.flatMap_cons] at hf
        have f1 := hf (dif (sizeForm p.1) (sizeForm q.1)) (by simp)
        have f2 := hf (dif p.2 q.2) (by simp)
        have p0 := hp p List.mem_cons_self
        have q0 := hq q List.mem_cons_self
        have e1 : p.1 = q.1 := sizeForm_inj ⟨p0.1, p0.2.1⟩ ⟨q0.1, q0.2.1⟩ (dif_nil (sizeForm_lean p0.2.2.2) (sizeForm_lean q0.2.2.2) f1)
        have e2 : p.2 = q.2 := dif_nil p0.2.2.1 q0.2.2.1 f2
        rw [Prod.ext e1 e2, ih l2 (by simpa using hl) (fun x hx => hp x (List.mem_cons_of_mem _ hx)) (fun x hx => hq x (List.mem_cons_of_mem _ hx)) fun f hf' => hf f (List.mem_append_right _ hf')]
  rw [key l1 l2 hl (fun p hp => ⟨(h1.ok p hp).2.1, (h1.ok p hp).2.2.1, (h1.ok p hp).2.2.2.1, (h1.ok p hp).1⟩) (fun p hp => ⟨(h2.ok p hp).2.1, (h2.ok p hp).2.2.1, (h2.ok p hp).2.2.2.1, (h2.ok p hp).1⟩) fun f hf => h f (List.mem_cons_of_mem _ hf)]
theorem gapsA_zero {b c : Nat} {ma mb m : Int} {one other : List Int × List GP} (h1 : Gd b ma one.2) (h2 : Gd c mb other.2) (e1 : ev one.1 m = ev other.1 m) (e2 : atV one.2 m = atV other.2 m) : ∀ f ∈ gapsA one other, ev f m = 0 := by
  intro f hf
  unfold gapsA at hf
  rcases List.mem_cons.mp hf with rfl | hf
  · rw [ev_dif, e1]; omega
  · obtain ⟨⟨p, q⟩, hpq, hf⟩ := List.mem_flatMap.mp hf
    have key : ∀ (l1 l2 : List GP), atV l1 m = atV l2 m → ∀ p q, (p, q) ∈ l1.zip l2 → sizeAt p.1 m = sizeAt q.1 m ∧ ev p.2 m = ev q.2 m := fun l1 => by
      induction l1 with
      | nil => intro l2 _ p q h; simp at h
      | cons x l1 ih =>
        intro l2 e p q h
        cases l2 with
        | nil => simp at h
        | cons y l2 =>
          unfold atV at e
          rw [List.map_cons, List.map_cons] at e
          injection e with e3 e4
          rw [List.zip_cons_cons] at h
          rcases List.mem_cons.mp h with h | h
          · cases h
            exact ⟨congrArg Prod.fst e3, congrArg Prod.snd e3⟩
          · exact ih l2 e4 p q h
    obtain ⟨k1, k2⟩ := key _ _ e2 p q hpq
    have hz := List.of_mem_zip hpq
    have p0 := h1.ok p hz.1
    have q0 := h2.ok q hz.2
    simp only [List.mem_cons, List.not_mem_nil, or_false] at hf
    rcases hf with rfl | rfl
    · rw [ev_dif, ev_sizeForm p0.2.1 p0.2.2.1, ev_sizeForm q0.2.1 q0.2.2.1, k1]; omega
    · rw [ev_dif, k2]; omega
theorem gapsA_lean {one other : List Int × List GP} {f : List Int} (hf : f ∈ gapsA one other) : IsLean f := by
  unfold gapsA at hf
  rcases List.mem_cons.mp hf with rfl | hf
  · exact dif_lean _ _
  · obtain ⟨⟨p, q⟩, _, hf⟩ := List.mem_flatMap.mp hf
    simp only [List.mem_cons, List.not_mem_nil, or_false] at hf
    rcases hf with rfl | rfl <;> exact dif_lean _ _
theorem gapsB_ne {b c : Nat} {ma mb : Int} {one other : List Int × List GP} (h1 : Gd b ma one.2) (h2 : Gd c mb other.2) (hb : IsLean one.1) (hc : IsLean other.1) (hl : one.2.length = other.2.length) (hne : one ≠ other) : gapsB one other ≠ [] := by
  intro w
  refine hne (gapsA_nil h1 h2 hb hc hl fun f hf => Classical.byContradiction fun z => ?_)
  have : f ∈ gapsB one other := List.mem_filter.mpr ⟨hf, by simpa using z⟩
  rw [w] at this
  nomatch this
/-- the spots where two may be alike -/
def spotsA (one other : List Int × List GP) : List Int := oddS one.2 ++ oddS other.2 ++ (if one.2.length = other.2.length then (match gapsB one other with
  | f :: _ => rootsF f
  | [] => []) else [])
theorem alike_spot {b c : Nat} {ma mb m : Int} {one other : List Int × List GP} (hm : 1 ≤ m) (h1 : Gd b ma one.2) (h2 : Gd c mb other.2) (hb : IsLean one.1) (hc : IsLean other.1) (n1 : Nrm mgG one.2) (n2 : Nrm mgG other.2) (p1 : ∀ p ∈ one.2, plainB p = true) (p2 : ∀ p ∈ other.2, plainB p = true)
    (hne : one ≠ other) (e1 : ev one.1 m = ev other.1 m) (e2 : shV (atV one.2 m) = shV (atV other.2 m)) : m ∈ spotsA one other := by
  unfold spotsA
  rw [List.mem_append, List.mem_append]
  by_cases o1 : m ∈ oddS one.2
  · exact .inl (.inl o1)
  · by_cases o2 : m ∈ oddS other.2
    · exact .inl (.inr o2)
    · right
      have s1 : shortV (atV one.2 m) := Classical.byContradiction fun w => o1 ((odd_iff h1 n1 p1 hm).mpr w)
      have s2 : shortV (atV other.2 m) := Classical.byContradiction fun w => o2 ((odd_iff h2 n2 p2 hm).mpr w)
      rw [short_self h1 hm s1, short_self h2 hm s2] at e2
      have hl : one.2.length = other.2.length := by
        have := congrArg List.length e2
        simpa [atV] using this
      rw [if_pos hl]
      have z := gapsA_zero h1 h2 e1 e2
      have ne := gapsB_ne h1 h2 hb hc hl hne
      cases q : gapsB one other with
      | nil => exact absurd q ne
      | cons f fs =>
        have hf : f ∈ gapsB one other := by rw [q]; exact List.mem_cons_self
        obtain ⟨hf1, hf2⟩ := List.mem_filter.mp hf
        exact (mem_rootsF (gapsA_lean hf1) (by simpa using hf2)).mpr ⟨hm, z f hf1⟩
/-- the same the other way round -/
theorem dif_swap (f g : List Int) (i : Nat) : co (dif g f) i = -co (dif f g) i := by
  rw [co_dif, co_dif]; omega
theorem dif_swap_nil {f g : List Int} : dif g f = [] ↔ dif f g = [] := by
  have key : ∀ f g : List Int, dif f g = [] → dif g f = [] := fun f g h => by
    refine lean_eq (dif_lean _ _) (fun k hk => by simp at hk) fun i => ?_
    rw [dif_swap f g, h]; simp [co]
  exact ⟨key g f, key f g⟩
theorem roots_swap {f g : List Int} (h : dif f g ≠ []) : rootsF (dif g f) = rootsF (dif f g) := by
  have h' : dif g f ≠ [] := fun w => h (dif_swap_nil.mp w)
  refine sorted_eq (rootsF_sorted _) (rootsF_sorted _) fun x => ?_
  rw [mem_rootsF (dif_lean _ _) h', mem_rootsF (dif_lean _ _) h, ev_dif, ev_dif]
  constructor
  · rintro ⟨a, b⟩; exact ⟨a, by omega⟩
  · rintro ⟨a, b⟩; exact ⟨a, by omega⟩
def headRoots : List (List Int) → List Int
  | f :: _ => rootsF f
  | [] => []
theorem head_swap : ∀ (l : List (List Int × List Int)), headRoots ((l.map fun p => dif p.2 p.1).filter fun f => decide (f ≠ [])) = headRoots ((l.map fun p => dif p.1 p.2).filter fun f => decide (f ≠ []))
  | [] => rfl
  | (f, g) :: l => by
    rw [List.map_cons, List.map_cons, List.filter_cons, List.filter_cons]
    by_cases h : dif f g = []
    · have h' := dif_swap_nil.mpr h
      rw [if_neg (by simp [h']), if_neg (by simp [h])]
      exact head_swap l
    · have h' : dif g f ≠ [] := fun w => h (dif_swap_nil.mp w)
      rw [if_pos (by simp [h']), if_pos (by simp [h])]
      exact roots_swap h
def prsA (one other : List Int × List GP) : List (List Int × List Int) := (one.1, other.1) :: (one.2.zip other.2).flatMap fun pq => [(sizeForm pq.1.1, sizeForm pq.2.1), (pq.1.2, pq.2.2)]
theorem gapsA_prs (one other : List Int × List GP) : gapsA one other = (prsA one other).map fun p => dif p.1 p.2 := by
  unfold gapsA prsA
  rw [List.map_cons, List.map_flatMap] <;> rfl
theorem prs_swap (one other : List Int × List GP) : prsA other one = (prsA one other).map fun p => (p.2, p.1) := by
  unfold prsA
  rw [List.map_cons, List.map_flatMap]
  congr 1
  have key : ∀ (l1 l2 : List GP), (l2.zip l1).flatMap (fun pq => [(sizeForm pq.1.1, sizeForm pq.2.1), (pq.1.2, pq.2.2)]) = (l1.zip l2).flatMap (fun pq => [(sizeForm pq.1.1, sizeForm pq.2.1), (pq.1.2, pq.2.2)].map fun p => (p.2, p.1)) := fun l1 => by
    induction l1 with
    | nil => intro l2; cases l2 <;> rfl
    | cons x l1 ih =>
      intro l2
      cases l2 with
      | nil => rfl
      | cons y l2 =>
        rw [List.zip_cons_cons, List.zip_cons_cons, List.flatMap_cons, List.flatMap_cons, ih l2] <;> rfl
  exact key _ _
theorem gapsB_swap (one other : List Int × List GP) : headRoots (gapsB other one) = headRoots (gapsB one other) := by
  unfold gapsB
  rw [gapsA_prs, gapsA_prs, prs_swap, List.map_map]
  exact head_swap (prsA one other)
theorem mem_spots_swap (one other : List Int × List GP) (m : Int) : m ∈ spotsA other one ↔ m ∈ spotsA one other := by
  have e : ∀ a b : List Int × List GP, spotsA a b = oddS a.2 ++ oddS b.2 ++ (if a.2.length = b.2.length then headRoots (gapsB a b) else []) := fun a b => by
    unfold spotsA headRoots
    rfl
  rw [e, e, gapsB_swap one other]
  simp only [List.mem_append]
  by_cases h : one.2.length = other.2.length
  · rw [if_pos h, if_pos h.symm]
    constructor
    · rintro ((h | h) | h)
      · exact .inl (.inr h)
      · exact .inl (.inl h)
      · exact .inr h
    · rintro ((h | h) | h)
      · exact .inl (.inr h)
      · exact .inl (.inl h)
      · exact .inr h
  · rw [if_neg h, if_neg fun w => h w.symm]
    constructor
    · rintro ((h | h) | h)
      · exact .inl (.inr h)
      · exact .inl (.inl h)
      · exact .inr h
    · rintro ((h | h) | h)
      · exact .inl (.inr h)
      · exact .inl (.inl h)
      · exact .inr h
end K81
set_option Elab.async false
set_option linter.all false
set_option maxRecDepth 100000
/-! LwP1: k80's defs, plain: value_of, sign_at. -/
namespace LW
open PySem VS VT K80
theorem _root_.K80.Lt.log {k : Nat} {x : Int} (h : Lt k x) : x.natAbs.log2 ≤ k := by
  by_cases z : x.natAbs = 0
  · rw [z]; exact Nat.zero_le _
  · exact Nat.le_of_lt ((Nat.log2_lt z).mpr h)
theorem mulOk_of {a b : Nat} {i j : Int} (h1 : Lt a i) (h2 : Lt b j) (h : a + b < 1000000) : mulOk i j = true := by
  have := h1.log
  have := h2.log
  unfold mulOk
  rw [Bool.or_eq_true]
  right
  exact decide_eq_true (by omega)
theorem _root_.K80.Lt.add {a b : Nat} {i j : Int} (h1 : Lt a i) (h2 : Lt b j) : Lt (a + b + 1) (i + j) := by
  unfold Lt at *
  have h3 : 2 ^ a ≤ 2 ^ (a + b) := Nat.pow_le_pow_right (by decide) (by omega)
  have h4 : 2 ^ b ≤ 2 ^ (a + b) := Nat.pow_le_pow_right (by decide) (by omega)
  have h5 := Int.natAbs_add_le i j
  rw [Nat.pow_succ]
  omega
theorem Lt.mono {a b : Nat} {i : Int} (h : Lt a i) (hab : a ≤ b) : Lt b i := Nat.lt_of_lt_of_le h (Nat.pow_le_pow_right (by decide) hab)
def bV (C : Nat → List D → CR) : D → En → Out Fl := fun d ρ => (match bindT C (.n 3) d ρ with
      | .ok _ ρ => denSs C false (.cons (.asg (.n 2) (.op .add (.cons (.op .mul (.cons (.pk 2) (.cons (.pk 1) .nil))) (.cons (.pk 3) .nil)))) .nil) ρ
      | _ => .bad)
theorem lV (C : Nat → List D → CR) (f : D) (m : Int) (a : Nat) (hm : Lt a m) : ∀ (cs : List Int) (acc : Int) (x : Sl) (k : Nat), (∀ c ∈ cs, Lt a c) → Lt k acc → k + (cs.length + 1) * (2 * a + 2) < 900000 → (∀ d, x ≠ .io d) →
    ∃ y, forLoop (bV C) (cs.map D.int) [.val f, .val (.int m), .val (.int acc), x] = .ok .nx [.val f, .val (.int m), .val (.int (cs.foldl (fun a c => a * m + c) acc)), y]
  | [], acc, x, k, _, _, _, _ => ⟨x, rfl⟩
  | c :: cs, acc, x, k, hc, hk, hz, hx => by
    have hc0 := hc c List.mem_cons_self
    rw [List.length_cons, Nat.add_mul, Nat.one_mul] at hz
    have hmul := mulOk_of hk hm (by omega)
    obtain ⟨y, hy⟩ := lV C f m a hm cs (acc * m + c) (.val (.int c)) (k + a + a + 1) (fun z h => hc z (List.mem_cons_of_mem _ h)) ((hk.mul hm).add hc0) (by omega) (fun d z => nomatch z)
    refine ⟨y, ?_⟩
    have e : bV C (.int c) [.val f, .val (.int m), .val (.int acc), x] = .ok .nx [.val f, .val (.int m), .val (.int (acc * m + c)), .val (.int c)] := by
      cases x with
      | io d => exact absurd rfl (hx d)
      | _ => simp [bV, bindT, setSl, denSs, denS, denE, denOs, pkD, Out.to, opD, Pds.get, Pd.get, Sl.get?, sem, semMul, semAdd, hmul, mkSl, E.fresh, Op.fresh, D.isMut]
    show forLoop (bV C) (D.int c :: cs.map D.int) _ = _
    unfold forLoop
    rw [e]
    exact hy
def tupI (cs : List Int) : D := .tup (cs.map D.int)
theorem t12 (n a : Nat) (cs : List Int) (m : Int) (hm : Lt a m) (hc : ∀ c ∈ cs, Lt a c) (hz : (cs.length + 1) * (2 * a + 2) < 900000) : run P (n + 1) i_value_of [tupI cs, .int m] = .ok (.int (ev cs m)) := by
  obtain ⟨y, hy⟩ := lV (run P n) (tupI cs) m a hm cs.reverse 0 .no 0 (fun c h => hc c (List.mem_reverse.mp h)) (by simp [Lt]) (by rw [List.length_reverse]; omega) (fun d z => nomatch z)
  rw [List.map_reverse, horner] at hy
  show outE none ((forLoop (bV (run P n)) (cs.map D.int).reverse [.val (tupI cs), .val (.int m), .val (.int 0), .no]).to fun f ρ => _) = _
  rw [hy]
  rfl
end LW
namespace LW
open PySem VS VT K80
theorem t16 (n a : Nat) (cs : List Int) (m : Int) (hm : Lt a m) (hc : ∀ c ∈ cs, Lt a c) (hz : (cs.length + 1) * (2 * a + 2) < 900000) : run P (n + 2) i_sign_at [tupI cs, .int m] = .ok (.int (sgn (ev cs m))) := by
  have h := t12 n a cs m hm hc hz
  show outE none (denSs (run P (n + 1)) false f_sign_at.body [.val (tupI cs), .val (.int m), .no]) = _
  have h1 : ∀ b : Bool, (if b = true then D.bl true else .bl false) = .bl b := fun b => by cases b <;> rfl
  by_cases p1 : ev cs m < 0
  · simp [f_sign_at, denSs, denS, denE, denOs, pkD, Out.to, callD, noIo, Pds.slots, Pds.get, Pd.get, Sl.get?, h, opD, sem, semII, setSl, mkSl, E.fresh, D.isMut, D.noMut, outE, endE, sgn, p1]
  · by_cases p2 : 0 < ev cs m
    · simp [f_sign_at, denSs, denS, denE, denOs, pkD, Out.to, callD, noIo, Pds.slots, Pds.get, Pd.get, Sl.get?, h, opD, sem, semII, setSl, mkSl, E.fresh, D.isMut, D.noMut, outE, endE, sgn, p1, p2]
    · simp [f_sign_at, denSs, denS, denE, denOs, pkD, Out.to, callD, noIo, Pds.slots, Pds.get, Pd.get, Sl.get?, h, opD, sem, semII, setSl, mkSl, E.fresh, D.isMut, D.noMut, outE, endE, sgn, p1, p2]
end LW
set_option Elab.async false
set_option linter.all false
set_option maxRecDepth 100000
/-! LwP2: k80: changes_in. -/
namespace LW
open PySem VS VT K80
def cI : E := (.op .gt (.cons (.op .sub (.cons (.pk 6) (.cons (.pk 5) .nil))) (.cons (.cst (.int (1))) .nil)))
def bI : Ss := (.cons (.asg (.n 7) (.op .fdiv (.cons (.op .add (.cons (.pk 5) (.cons (.pk 6) .nil))) (.cons (.cst (.int (2))) .nil)))) (.cons (.asg (.t (.cons (.n 5) (.cons (.n 6) .nil))) (.ite (.op .eq (.cons (.call i_sign_at none false (.cons (.pk 0) (.cons (.pk 7) .nil))) (.cons (.call i_sign_at none false (.cons (.pk 0) (.cons (.pk 4) .nil))) .nil))) (.tup (.cons (.var 7) (.cons (.var 6) .nil))) (.tup (.cons (.var 5) (.cons (.var 7) .nil))))) .nil))
section
variable {C : Nat → List D → CR} {cs : List Int} {a b : D} {fs : List D} {here : Int} {g : Int → Int}
/-- the sign is asked where it is known -/
def SgnOk (C : Nat → List D → CR) (cs : List Int) (g : Int → Int) (lo hi : Int) : Prop := ∀ q, lo ≤ q → q ≤ hi → C i_sign_at [tupI cs, .int q] = .ok (.int (g q))
def en (cs : List Int) (a b : D) (fs : List D) (here same other : Int) (x : Sl) : En := [.val (tupI cs), .val a, .val b, .own (.lst fs), .val (.int here), .val (.int same), .val (.int other), x]
theorem cI_ok (same other : Int) (x : Sl) : denE C cI (en cs a b fs here same other x) = .ok (.bl (decide (1 < other - same))) (en cs a b fs here same other x) := by
  simp [cI, en, denE, denOs, pkD, Out.to, opD, Pds.get, Pd.get, Sl.get?, sem, semII]
theorem bI_ok {lo hi same other : Int} {x : Sl} (hx : x = .no ∨ ∃ d, x = .val d) (h : SgnOk C cs g lo hi) (h1 : lo ≤ same) (h2 : other ≤ hi) (h3 : 1 < other - same) (h4 : lo ≤ here) (h5 : here ≤ hi) :
    denSs C true bI (en cs a b fs here same other x) = .ok .nx (if g ((same + other).fdiv 2) = g here then en cs a b fs here ((same + other).fdiv 2) other (.val (.int ((same + other).fdiv 2))) else en cs a b fs here same ((same + other).fdiv 2) (.val (.int ((same + other).fdiv 2)))) := by
  have e2 : (same + other).fdiv 2 = (same + other) / 2 := Int.fdiv_eq_ediv_of_nonneg _ (by decide)
  have m1 : lo ≤ (same + other).fdiv 2 := by rw [e2]; omega
  have m2 : (same + other).fdiv 2 ≤ hi := by rw [e2]; omega
  have c1 := h _ m1 m2
  have c2 := h _ h4 h5
  by_cases q : g ((same + other).fdiv 2) = g here
  · rcases hx with rfl | ⟨d, rfl⟩ <;>
      simp [bI, en, denSs, denS, denE, denEs, denOs, pkD, rdV, Out.to, opD, Pds.get, Pd.get, Sl.get?, sem, semII, semAdd, setSl, mkSl, E.fresh, Op.fresh, D.isMut, D.noMut, callD, noIo, Pds.slots, c1, c2, D.fine, D.eqv, q, bindT, bindTs]
  · have qb : (g ((same + other).fdiv 2) == g here) = false := by simpa using q
    rcases hx with rfl | ⟨d, rfl⟩ <;>
      simp [bI, en, denSs, denS, denE, denEs, denOs, pkD, rdV, Out.to, opD, Pds.get, Pd.get, Sl.get?, sem, semII, semAdd, setSl, mkSl, E.fresh, Op.fresh, D.isMut, D.noMut, callD, noIo, Pds.slots, c1, c2, D.fine, D.eqv, q, qb, bindT, bindTs]
def plainS (x : Sl) : Prop := x = .no ∨ ∃ d, x = .val d
theorem bis {lo hi : Int} (h : SgnOk C cs g lo hi) (h4 : lo ≤ here) (h5 : here ≤ hi) : ∀ (k : Nat) (same other : Int) (x : Sl) (fuel : Nat), other - same ≤ 2 ^ k → k + 1 ≤ fuel → lo ≤ same → same < other → other ≤ hi → g same = g here → g other ≠ g here → plainS x →
    ∃ q x', same ≤ q ∧ q < other ∧ g q = g here ∧ g (q + 1) ≠ g here ∧ plainS x' ∧ whlLoop (fun ρ => denE C cI ρ) (fun ρ => denSs C true bI ρ) fuel (en cs a b fs here same other x) = .ok .nx (en cs a b fs here q (q + 1) x') := by
  intro k
  induction k with
  | zero =>
    intro same other x fuel hk hf h1 h2 h3 e1 e2 hx
    obtain ⟨n, rfl⟩ : ∃ n, fuel = n + 1 := ⟨fuel - 1, by omega⟩
    have eo : other = same + 1 := by simp at hk; omega
    subst eo
    refine ⟨same, x, Int.le_refl _, by omega, e1, e2, hx, whl_end ?_⟩
    rw [cI_ok, show decide (1 < same + 1 - same) = false from decide_eq_false (by omega)]
  | succ k ih =>
    intro same other x fuel hk hf h1 h2 h3 e1 e2 hx
    obtain ⟨n, rfl⟩ : ∃ n, fuel = n + 1 := ⟨fuel - 1, by omega⟩
    by_cases hg : 1 < other - same
    · have e3 : (same + other).fdiv 2 = (same + other) / 2 := Int.fdiv_eq_ediv_of_nonneg _ (by decide)
      have ec : denE C cI (en cs a b fs here same other x) = .ok (.bl true) (en cs a b fs here same other x) := by rw [cI_ok, decide_eq_true hg]
      have hp : (2 : Int) ^ (k + 1) = 2 ^ k * 2 := Int.pow_succ 2 k
      have eb := bI_ok (C := C) (a := a) (b := b) (fs := fs) hx h h1 h3 hg h4 h5
      by_cases q : g ((same + other).fdiv 2) = g here
      · rw [if_pos q] at eb
        obtain ⟨r, x', r1, r2, r3, r4, r5, r6⟩ := ih ((same + other).fdiv 2) other (.val (.int ((same + other).fdiv 2))) n (by rw [e3]; omega) (by omega) (by rw [e3]; omega) (by rw [e3]; omega) h3 q e2 (.inr ⟨_, rfl⟩)
        exact ⟨r, x', by rw [e3] at r1; omega, r2, r3, r4, r5, (whl_step ec eb).trans r6⟩
      · rw [if_neg q] at eb
        obtain ⟨r, x', r1, r2, r3, r4, r5, r6⟩ := ih same ((same + other).fdiv 2) (.val (.int ((same + other).fdiv 2))) n (by rw [e3]; omega) (by omega) h1 (by rw [e3]; omega) (by rw [e3]; omega) e1 q (.inr ⟨_, rfl⟩)
        exact ⟨r, x', r1, by rw [e3] at r2; omega, r3, r4, r5, (whl_step ec eb).trans r6⟩
    · have eo : other = same + 1 := by omega
      subst eo
      refine ⟨same, x, Int.le_refl _, by omega, e1, e2, hx, whl_end ?_⟩
      rw [cI_ok, show decide (1 < same + 1 - same) = false from decide_eq_false (by omega)]
end
end LW
namespace LW
open PySem VS VT K80
def cO : E := (.op .ne (.cons (.call i_sign_at none false (.cons (.pk 0) (.cons (.pk 4) .nil))) (.cons (.call i_sign_at none false (.cons (.pk 0) (.cons (.pk 2) .nil))) .nil)))
def bO : Ss := (.cons (.par [5, 6] (.cons (.var 4) (.cons (.var 2) .nil))) (.cons (.whl cI bI) (.cons (.meth .append 3 (.var 5)) (.cons (.asg (.n 4) (.var 6)) .nil))))
section
variable {C : Nat → List D → CR} {cs : List Int} {g : Int → Int}
def eo (cs : List Int) (a : D) (high : Int) (fs : List D) (here : Int) (s o x : Sl) : En := [.val (tupI cs), .val a, .val (.int high), .own (.lst fs), .val (.int here), s, o, x]
theorem cO_ok {lo hi here high : Int} {a : D} {fs : List D} {s o x : Sl} (h : SgnOk C cs g lo hi) (h1 : lo ≤ here) (h2 : here ≤ hi) (h3 : lo ≤ high) (h4 : high ≤ hi) : denE C cO (eo cs a high fs here s o x) = .ok (.bl (!(g here == g high))) (eo cs a high fs here s o x) := by
  have c1 := h _ h1 h2
  have c2 := h _ h3 h4
  simp [cO, eo, denE, denOs, pkD, Out.to, opD, Pds.get, Pd.get, Sl.get?, sem, callD, noIo, Pds.slots, c1, c2, D.noMut, D.fine, D.eqv]
theorem bO_ok {k : Nat} (hkk : k + 1 ≤ WF) {lo hi here high : Int} {a : D} {fs : List D} {s o x : Sl} (h : SgnOk C cs g lo hi) (h1 : lo ≤ here) (h2 : here < high) (h4 : high ≤ hi) (hk : high - here ≤ 2 ^ k) (hne : g high ≠ g here) (hs : plainS s) (ho : plainS o) (hx : plainS x) (hl : fs.length < lineN) :
    ∃ q x', here ≤ q ∧ q < high ∧ g q = g here ∧ g (q + 1) ≠ g here ∧ plainS x' ∧ denSs C true bO (eo cs a high fs here s o x) = .ok .nx (eo cs a high (fs ++ [.int q]) (q + 1) (.val (.int q)) (.val (.int (q + 1))) x') := by
  obtain ⟨q, x', r1, r2, r3, r4, r5, r6⟩ := bis (C := C) (cs := cs) (a := a) (b := .int high) (fs := fs) (here := here) h h1 (by omega) k here high x WF hk hkk h1 h2 h4 rfl hne hx
  refine ⟨q, x', r1, r2, r3, r4, r5, ?_⟩
  have step : denSs C true bO (eo cs a high fs here s o x) = ((whlLoop (fun ρ => denE C cI ρ) (fun ρ => denSs C true bI ρ) WF (en cs a (.int high) fs here here high x)).to fun f ρ => (match f with
      | .nx => denSs C true (.cons (.meth .append 3 (.var 5)) (.cons (.asg (.n 4) (.var 6)) .nil)) ρ
      | f => .ok f ρ)) := by
    rcases hs with rfl | ⟨ds, rfl⟩ <;> rcases ho with rfl | ⟨dO, rfl⟩ <;> rfl
  rw [step, r6]
  rcases hx with _ | _ <;> simp [en, eo, denSs, denS, denE, rdV, Out.to, setSl, mkSl, E.fresh, D.isMut, lstAt, updSl, appD, hl]
end
end LW
namespace LW
open PySem VS VT K80
theorem sgn_le {x y : Int} (h : x ≤ y) : sgn x ≤ sgn y := by
  unfold sgn
  repeat' split <;> omega
theorem sgn_between {f : Int → Int} {lo hi a q b : Int} (h : Mono f lo hi) (h0 : lo ≤ a) (h1 : a ≤ q) (h2 : q ≤ b) (h3 : b ≤ hi) (hne : sgn (f q) ≠ sgn (f a)) : (sgn (f b) - sgn (f q)).natAbs < (sgn (f b) - sgn (f a)).natAbs := by
  obtain ⟨x, hx⟩ : ∃ x : Nat, q = a + x := ⟨(q - a).toNat, by omega⟩
  obtain ⟨y, hy⟩ : ∃ y : Nat, b = q + y := ⟨(b - q).toNat, by omega⟩
  subst hy
  subst hx
  rcases h with h | h
  · have u1 := sgn_le (up_le h x a h0 (by omega))
    have u2 := sgn_le (up_le h y (a + x) (by omega) (by omega))
    omega
  · have u1 := sgn_le (down_le h x a h0 (by omega))
    have u2 := sgn_le (down_le h y (a + x) (by omega) (by omega))
    omega
section
variable {C : Nat → List D → CR} {cs : List Int} {f : Int → Int}
theorem outer {k : Nat} (hkk : k + 1 ≤ WF) {low high : Int} {a : D} (h : SgnOk C cs (fun q => sgn (f q)) low high) (hm : Mono f low high) (hk : high - low ≤ 2 ^ k) : ∀ (d fuel : Nat) (here : Int) (fs : List Int) (s o x : Sl), (sgn (f high) - sgn (f here)).natAbs ≤ d → d + 1 ≤ fuel → low ≤ here → here ≤ high →
    plainS s → plainS o → plainS x → fs.length + d < lineN → ∃ here' s' o' x', whlLoop (fun ρ => denE C cO ρ) (fun ρ => denSs C true bO ρ) fuel (eo cs a high (fs.map D.int) here s o x) = .ok .nx (eo cs a high ((fs ++ turns f here (high - here).toNat).map D.int) here' s' o' x') := by
  intro d
  induction d with
  | zero =>
    intro fuel here fs s o x hd hf h1 h2 hs ho hx hl
    obtain ⟨n, rfl⟩ : ∃ n, fuel = n + 1 := ⟨fuel - 1, by omega⟩
    have e : sgn (f here) = sgn (f high) := by omega
    have tn : turns f here (high - here).toNat = [] := turns_none fun q q1 q2 => by
      rw [hm.mid h1 q1 (by omega : q ≤ high) (Int.le_refl _) e, hm.mid h1 (by omega : here ≤ q + 1) (by omega : q + 1 ≤ high) (Int.le_refl _) e]
    refine ⟨here, s, o, x, ?_⟩
    rw [tn, List.append_nil]
    refine whl_end ?_
    rw [cO_ok h h1 h2 (by omega) (Int.le_refl _)]
    simp [e]
  | succ d ih =>
    intro fuel here fs s o x hd hf h1 h2 hs ho hx hl
    obtain ⟨n, rfl⟩ : ∃ n, fuel = n + 1 := ⟨fuel - 1, by omega⟩
    by_cases e : sgn (f here) = sgn (f high)
    · have tn : turns f here (high - here).toNat = [] := turns_none fun q q1 q2 => by
        rw [hm.mid h1 q1 (by omega : q ≤ high) (Int.le_refl _) e, hm.mid h1 (by omega : here ≤ q + 1) (by omega : q + 1 ≤ high) (Int.le_refl _) e]
      refine ⟨here, s, o, x, ?_⟩
      rw [tn, List.append_nil]
      refine whl_end ?_
      rw [cO_ok h h1 h2 (by omega) (Int.le_refl _)]
      simp [e]
    · have hlt : here < high := by
        rcases Int.lt_or_eq_of_le h2 with z | z
        · exact z
        · exact absurd (by rw [z]) e
      obtain ⟨q, x', r1, r2, r3, r4, r5, r6⟩ := bO_ok (C := C) (cs := cs) (g := fun q => sgn (f q)) hkk (a := a) (fs := fs.map D.int) h h1 hlt (Int.le_refl _) (by omega) (fun z => e z.symm) hs ho hx (by rw [List.length_map]; omega)
      have ec : denE C cO (eo cs a high (fs.map D.int) here s o x) = .ok (.bl true) (eo cs a high (fs.map D.int) here s o x) := by
        rw [cO_ok h h1 h2 (by omega) (Int.le_refl _)]
        simp [e]
      have tf := turns_first (f := f) (n := (high - here).toNat) r1 (by omega) (fun p p1 p2 => hm.mid h1 p1 p2 (by omega) r3.symm) r4
      have hb := sgn_between hm h1 (by omega : here ≤ q + 1) (by omega : q + 1 ≤ high) (Int.le_refl _) r4
      obtain ⟨h', s', o', x2, r7⟩ := ih n (q + 1) (fs ++ [q]) (.val (.int q)) (.val (.int (q + 1))) x' (by omega) (by omega) (by omega) (by omega) (.inr ⟨_, rfl⟩) (.inr ⟨_, rfl⟩) r5 (by rw [List.length_append, List.length_singleton]; omega)
      refine ⟨h', s', o', x2, (whl_step ec r6).trans ?_⟩
      rw [show fs.map D.int ++ [D.int q] = (fs ++ [q]).map D.int by simp, r7, tf]
      have e2 : (high - here).toNat - (q + 1 - here).toNat = (high - (q + 1)).toNat := by omega
      rw [e2, List.append_assoc] <;> rfl
end
end LW
namespace LW
open PySem VS VT K80
/-- changes_in -/
theorem t18 {n k e : Nat} (hkk : k + 1 ≤ WF) {cs : List Int} {low high : Int} (hlh : low ≤ high) (hm : Mono (fun q => ev cs q) low high) (hk : high - low ≤ 2 ^ k) (hq : ∀ q, low ≤ q → q ≤ high → Lt e q) (hc : ∀ c ∈ cs, Lt e c) (hz : (cs.length + 1) * (2 * e + 2) < 900000) :
    run P (n + 3) i_changes_in [tupI cs, .int low, .int high] = .ok (.lst ((turns (fun q => ev cs q) low (high - low).toNat).map D.int)) := by
  have hs : SgnOk (run P (n + 2)) cs (fun q => sgn (ev cs q)) low high := fun q h1 h2 => t16 n e cs q (hq q h1 h2) hc hz
  have hd : (sgn (ev cs high) - sgn (ev cs low)).natAbs ≤ 2 := by
    unfold sgn
    repeat' split <;> omega
  obtain ⟨h', s', o', x', r⟩ := outer (C := run P (n + 2)) (cs := cs) (f := fun q => ev cs q) hkk (a := .int low) hs hm hk 2 WF low [] .no .no .no hd (by unfold WF; omega) (Int.le_refl _) hlh (.inl rfl) (.inl rfl) (.inl rfl) (by unfold lineN; decide)
  show outE none ((whlLoop (fun ρ => denE (run P (n + 2)) cO ρ) (fun ρ => denSs (run P (n + 2)) true bO ρ) WF (eo cs (.int low) high [] low .no .no .no)).to fun f ρ => (match f with
      | .nx => denSs (run P (n + 2)) true (.cons (.ret (.var 3)) .nil) ρ
      | f => .ok f ρ)) = _
  rw [show ([] : List D) = ([] : List Int).map D.int from rfl, r, List.nil_append]
  rfl
end LW
set_option Elab.async false
set_option linter.all false
set_option maxRecDepth 100000
/-! LwP3: k80: lean, scaled, added. -/
namespace LW
open PySem VS VT K80
def cL : E := (.and (.op .gt (.cons (.pk 1) (.cons (.cst (.int (0))) .nil))) (.op .eq (.cons (.op .idx (.cons (.pk 0) (.cons (.op .sub (.cons (.pk 1) (.cons (.cst (.int (1))) .nil))) .nil))) (.cons (.cst (.int (0))) .nil))))
def bL : Ss := (.cons (.asg (.n 1) (.op .sub (.cons (.pk 1) (.cons (.cst (.int (1))) .nil)))) .nil)
theorem lL (C : Nat → List D → CR) (is : List Int) : ∀ (m fuel : Nat), m ≤ is.length → m + 1 ≤ fuel →
    whlLoop (fun ρ => denE C cL ρ) (fun ρ => denSs C false bL ρ) fuel [.val (.lst (is.map D.int)), .val (.int m)] = .ok .nx [.val (.lst (is.map D.int)), .val (.int (trim is m : Nat))]
  | 0, fuel, _, hf => by
    obtain ⟨n, rfl⟩ : ∃ n, fuel = n + 1 := ⟨fuel - 1, by omega⟩
    exact whl_end rfl
  | m + 1, fuel, hm, hf => by
    obtain ⟨n, rfl⟩ : ∃ n, fuel = n + 1 := ⟨fuel - 1, by omega⟩
    have hat : ixD (is.map D.int) (((m + 1 : Nat) : Int) - 1) = some (.int (is.getD m 0)) := by
      have e : ((m + 1 : Nat) : Int) - 1 = (m : Nat) := by omega
      rw [e]
      refine L2.atI_nat ?_
      rw [List.getElem?_map, List.getElem?_eq_getElem (by omega), List.getD_eq_getElem?_getD, List.getElem?_eq_getElem (by omega)] <;> rfl
    have hc : denE C cL [.val (.lst (is.map D.int)), .val (.int ((m + 1 : Nat) : Int))] = .ok (.bl (is.getD m 0 == 0)) [.val (.lst (is.map D.int)), .val (.int ((m + 1 : Nat) : Int))] := by
      have hp : (0 : Int) < ((m + 1 : Nat) : Int) := by omega
      simp only [cL, denE, denOs, pkD, Out.to, opD, Pds.get, Pd.get, Sl.get?, sem, semII, hp, hat, List.getElem?_cons_zero, List.getElem?_cons_succ, decide_true, D.fine, D.eqv, Bool.and_self, if_true]
    unfold trim
    by_cases z : is.getD m 0 = 0
    · rw [if_pos z]
      have hc : denE C cL [.val (.lst (is.map D.int)), .val (.int ((m + 1 : Nat) : Int))] = .ok (.bl true) [.val (.lst (is.map D.int)), .val (.int ((m + 1 : Nat) : Int))] := by rw [hc, z] <;> rfl
      have hb : denSs C false bL [.val (.lst (is.map D.int)), .val (.int ((m + 1 : Nat) : Int))] = .ok .nx [.val (.lst (is.map D.int)), .val (.int (m : Nat))] := by
        have e : ((m + 1 : Nat) : Int) - 1 = (m : Nat) := by omega
        show Out.ok Fl.nx [Sl.val (.lst (is.map D.int)), Sl.val (.int (((m + 1 : Nat) : Int) - 1))] = _
        rw [e]
      exact (whl_step hc hb).trans (lL C is m n (by omega) (by omega))
    · rw [if_neg z]
      refine whl_end ?_
      rw [hc]
      have : (is.getD m 0 == 0) = false := by simpa using z
      rw [this]
end LW
namespace LW
open PySem VS VT K80
theorem cutD_take (xs : List D) (k : Nat) (h : k ≤ xs.length) : cutD xs none (some (k : Int)) = xs.take k := by
  unfold cutD
  rw [HT.sIx_none, HT.sIx_nat, List.drop_zero, Nat.min_eq_left h, Nat.sub_zero]
/-- lean -/
theorem t9 (n : Nat) (is : List Int) (hl : is.length < 1000000) : run P (n + 1) i_lean [.lst (is.map D.int)] = .ok (tupI (lean0 is)) := by
  have r := lL (run P n) is is.length WF (Nat.le_refl _) (by unfold WF; omega)
  show outE none ((whlLoop (fun ρ => denE (run P n) cL ρ) (fun ρ => denSs (run P n) false bL ρ) WF [.val (.lst (is.map D.int)), .val (.int ((is.map D.int).length : Nat))]).to fun f ρ => (match f with
      | .nx => denSs (run P n) false (.cons (.ret (.op .tuple (.cons (.op (.slc false true) (.cons (.pk 0) (.cons (.pk 1) .nil))) .nil))) .nil) ρ
      | f => .ok f ρ)) = _
  rw [List.length_map, r]
  show outE none (.ok (.ret (.tup (cutD (is.map D.int) none (some ((trim is is.length : Nat) : Int))))) _) = _
  rw [cutD_take _ _ (by rw [List.length_map]; exact trim_le is is.length), ← List.map_take]
  rfl
end LW
namespace LW
open PySem VS VT K80
/-- f of an int -/
def onI (f : Int → D) : D → D
  | .int i => f i
  | _ => .non
theorem map_onI (f : Int → D) (cs : List Int) : (cs.map D.int).map (onI f) = cs.map f := by
  rw [List.map_map] <;> rfl
def turnDD (C : Nat → List D → CR) : D → En → Out (Option D) := fun d ρ => (bindT C (.n 2) d ρ).to fun _ ρ => (denCs C .nil ρ).to fun k ρ =>
      if k then (denE C (.op .mul (.cons (.pk 2) (.cons (.pk 1) .nil))) ρ).to fun y ρ => endT [2] (some y) ρ else endT [2] none ρ
/-- scaled -/
theorem t11 {n a b : Nat} {cs : List Int} {k : Int} (hc : ∀ c ∈ cs, Lt a c) (hk : Lt b k) (hab : a + b < 1000000) (hl : cs.length < 1000000) : run P (n + 2) i_scaled [tupI cs, .int k] = .ok (tupI (lean0 (cs.map (· * k)))) := by
  have r := t9 n (cs.map (· * k)) (by rw [List.length_map]; exact hl)
  have lp : compLoop (turnDD (run P (n + 1))) (cs.map D.int) [.val (tupI cs), .val (.int k), .no] = .ok ((cs.map D.int).map (onI fun i => .int (i * k))) [.val (tupI cs), .val (.int k), .no] := by
    refine comp_map fun d hd => ?_
    obtain ⟨c, hcm, rfl⟩ := List.mem_map.mp hd
    have hm := mulOk_of (hc c hcm) hk hab
    simp [turnDD, bindT, setSl, Out.to, denCs, denE, denOs, pkD, opD, Pds.get, Pd.get, Sl.get?, sem, semMul, hm, endT, noOwn, wipeE, onI]
  rw [map_onI] at lp
  have cp : denE (run P (n + 1)) (.comp (.op .mul (.cons (.pk 2) (.cons (.pk 1) .nil))) (.n 2) (.e (.var 0)) .nil [2]) [.val (tupI cs), .val (.int k), .no] = .ok (.lst (cs.map fun i => .int (i * k))) [.val (tupI cs), .val (.int k), .no] := by
    show compEnd [2] [.val (tupI cs), .val (.int k), .no] (compLoop (turnDD (run P (n + 1))) (cs.map D.int) [.val (tupI cs), .val (.int k), .no]) = _
    rw [lp]
    have hz : cs.length ≤ lineN := by unfold lineN; omega
    simp [compEnd, noOwn, backE, hz]
  rw [List.map_map] at r
  have r : run P (n + 1) i_lean [.lst (cs.map fun i => .int (i * k))] = .ok (tupI (lean0 (cs.map (· * k)))) := r
  show outE none (denSs (run P (n + 1)) false f_scaled.body [.val (tupI cs), .val (.int k), .no]) = _
  simp only [f_scaled, denSs, denS, denE, denOs] at cp ⊢
  rw [cp]
  simp [Out.to, callD, Pds.get, Pd.get, noIo, Pds.slots, r, outE, endE, freezeAll]
end LW
set_option Elab.async false
set_option linter.all false
set_option maxRecDepth 100000
/-! LwP4: k80: added, gaps_of. -/
namespace LW
open PySem VS VT K80
theorem rep_one {α : Type} {enc : α → D} (a : α) : ∀ n : Nat, (List.replicate n [enc a]).flatten = (List.replicate n a).map enc
  | 0 => rfl
  | n + 1 => by rw [List.replicate_succ, List.flatten_cons, rep_one a n] <;> rfl
theorem mx (a b : Nat) : (if (b : Int) > (a : Int) then (b : Int) else (a : Int)) = ((max a b : Nat) : Int) := by
  split <;> omega
theorem zw (x y : List Int) : ((x.zip y).map fun p => D.int (p.1 + p.2)) = (List.zipWith (· + ·) x y).map D.int := by
  rw [List.zip, List.map_zipWith, List.map_zipWith]
/-- added -/
theorem t10 {n : Nat} {x y : List Int} (hx : x.length < 100000) (hy : y.length < 100000) : run P (n + 2) i_added [tupI x, tupI y] = .ok (tupI (addF x y)) := by
  refine W_runE rfl rfl ?_
  have e2 : ((max x.length y.length : Nat) : Int) - (x.length : Int) = ((max x.length y.length - x.length : Nat) : Int) := by omega
  have e3 : ((max x.length y.length : Nat) : Int) - (y.length : Int) = ((max x.length y.length - y.length : Nat) : Int) := by omega
  have q5 := s_multn [D.int 0] (max x.length y.length - x.length) (by unfold lineN; simp; omega) (by simp)
  have q6 := s_multn [D.int 0] (max x.length y.length - y.length) (by unfold lineN; simp; omega) (by simp)
  have q7 : x.length + (max x.length y.length - x.length) ≤ lineN := by unfold lineN; omega
  have q8 : y.length + (max x.length y.length - y.length) ≤ lineN := by unfold lineN; omega
  simp only [vstep, ↓reduceIte, tupI, List.length_map, mx, e2, e3, q5, q6, rep_one, List.length_replicate, q7, q8, ← List.map_append, zipD_enc]
  refine W_map (g := fun p => D.int (p.1 + p.2)) ?_ ?_ (by rfl) ?_
  · intro p _
    simp only [vstep, ↓reduceIte]
  · rw [List.length_zip, List.length_append, List.length_append, List.length_replicate, List.length_replicate]
    omega
  · have r := t9 n (List.zipWith (· + ·) (x ++ List.replicate (max x.length y.length - x.length) 0) (y ++ List.replicate (max x.length y.length - y.length) 0)) (by simp; omega)
    unfold tupI at r
    simp only [vstep, ↓reduceIte, zw, r, nms_ints, W_eq, addF, padL]
end LW
set_option Elab.async false
set_option linter.all false
set_option maxRecDepth 100000
/-! LwP5: k80: gaps_of, turns_in. -/
namespace LW
open PySem VS VT K80
structure GI (e k : Nat) (g : List Int × List Int) : Prop where
  b1 : Bd (e + 1 + 2 * k) g.1
  b2 : Bd (1 + k) g.2
  l1 : g.1.length ≤ k + 1
  l2 : g.2.length ≤ k + 1
theorem GI.step {e k : Nat} {g : List Int × List Int} {c : Int} (h : GI e k g) (hc : Lt e c) : GI e (k + 1) (gapStep g c) where
  b1 := Bd.mono (h.b1.addF (h.b2.sclF hc)) (by omega)
  b2 := Bd.mono (h.b2.addF h.b2.cons0) (by omega)
  l1 := Nat.le_trans (addF_len _ _) (by have := sclF_len g.2 c; have := h.l1; have := h.l2; omega)
  l2 := Nat.le_trans (addF_len _ _) (by have := h.l2; rw [List.length_cons]; omega)
theorem GI.zero (e : Nat) : GI e 0 ([], [1]) := ⟨fun c hc => (nomatch hc), fun c hc => by rw [List.mem_singleton.mp hc]; unfold Lt; decide, Nat.zero_le _, Nat.le_refl _⟩
theorem pfx {α : Type} {l p post : List α} {a : α} (h : l = p ++ a :: post) : a ∈ l ∧ p.length < l.length := by
  subst h
  simp
/-- gaps_of -/
theorem t17 {n e : Nat} {f : List Int} (hf : Bd e f) (he : e < 100000) (hl : f.length < 1000) : run P (n + 3) i_gaps_of [tupI f] = .ok (tupI (gapsF f)) := by
  refine W_runE rfl rfl ?_
  simp only [vstep, ↓reduceIte, tupI]
  refine W_for (fun pre ρ => ∃ g o, g = pre.foldl gapStep ([], [1]) ∧ GI e pre.length g ∧ ρ = [.val (tupI f), jk o, .val (tupI g.1), .val (tupI g.2)]) ⟨_, none, rfl, GI.zero e, rfl⟩ ?_ ?_
  · rintro p c post hp ρ ⟨g, o, hg, hI, rfl⟩
    have hc := hf c (pfx hp).1
    have hpl := (pfx hp).2
    have l1 := hI.l1
    have l2 := hI.l2
    have c1 := t11 (n := n) hI.b2 hc (by omega) (by omega)
    have c2 := t10 (n := n) (x := g.1) (y := sclF g.2 c) (by omega) (by have := sclF_len g.2 c; omega)
    have c3 := t10 (n := n) (x := g.2) (y := 0 :: g.2) (by omega) (by rw [List.length_cons]; omega)
    have q : 0 + 1 + g.2.length ≤ lineN := by unfold lineN; omega
    unfold tupI sclF at *
    rw [List.map_cons] at c3
    simp only [vstep, ↓reduceIte, List.length_map, c1, c2, c3, nms_ints, q, List.cons_append, List.nil_append]
    exact LQ_nx ⟨gapStep g c, some (.int c), by rw [List.foldl_append, ← hg] <;> rfl, by rw [List.length_append]; exact hI.step hc, rfl⟩
  · rintro ρ ⟨g, o, hg, hI, rfl⟩
    have l1 := hI.l1
    have l2 := hI.l2
    have c1 := t11 (n := n) (k := -1) (b := 1) hf (by unfold Lt; decide) (by omega) (by omega)
    have c2 := t10 (n := n) (x := g.1) (y := sclF f (-1)) (by omega) (by have := sclF_len f (-1); omega)
    unfold tupI sclF at *
    simp only [vstep, ↓reduceIte, c1, c2, nms_ints, W_eq]
    unfold gapsF sclF
    rw [← hg]
end LW
set_option Elab.async false
set_option linter.all false
set_option maxRecDepth 100000
/-! LwP6: k80: turns_in. -/
namespace LW
open PySem VS VT K80
def pI (q : Int × Int) : D := .tup [.int q.1, .int q.2]
theorem lstI_own (xs : List Int) : D.lst (xs.map D.int) = D.lst (xs.map D.int) := rfl
/-- turns_in -/
theorem t19 {n B : Nat} (hB : B ≤ 10000) {high : Int} (h1 : 1 ≤ high) (h2 : high ≤ 2 ^ B) (hq : ∀ q : Int, 1 ≤ q → q ≤ high → Lt B q) : ∀ (L e : Nat) (f : List Int), Bd e f → e + 16 * L ≤ B → f.length ≤ L + 1 → L ≤ 4 →
    run P (n + 4 + L) i_turns_in [tupI f, .int high] = .ok (.lst ((turns (ev f) 1 (high - 1).toNat).map D.int)) := by
  intro L
  induction L with
  | zero =>
    intro e f hb he hl hL
    refine W_runE rfl rfl ?_
    have c : (f.length : Int) < 2 := by omega
    have c2 := turns_const (f := f) (by omega) 1 (high - 1).toNat
    simp only [vstep, ↓reduceIte, tupI, List.length_map, c, W_eq, c2, List.map_nil]
  | succ L ih =>
    intro e f hb he hl hL
    by_cases c : f.length < 2
    · refine W_runE rfl rfl ?_
      have c2 := turns_const (f := f) (by omega) 1 (high - 1).toNat
      have c : (f.length : Int) < 2 := by omega
      simp only [vstep, ↓reduceIte, tupI, List.length_map, c, W_eq, c2, List.map_nil]
    · have r1 := t17 (n := n + (L + 1)) hb (by omega) (by omega)
      have r2 := ih (e + 16) (gapsF f) (hb.gapsF (by omega)) (by omega) (Nat.le_trans gapsF_len (by omega)) (by omega)
      obtain ⟨s1, s2⟩ := segs_ok (ev_gapsF f) high _ 1 h1 rfl
      have cnt := turns_count L (gapsF f) (Nat.le_trans gapsF_len (by omega)) high h1
      have cnt2 := turns_count (L + 1) f hl high h1
      have p16 : 2 ^ (L + 1 + 1) ≤ 2 ^ 6 := Nat.pow_le_pow_right (by decide) (by omega)
      have p8 : 2 ^ (L + 1) ≤ 2 ^ 6 := Nat.pow_le_pow_right (by decide) (by omega)
      generalize hts : turns (ev (gapsF f)) 1 (high - 1).toNat = ts at r2 s1 s2 cnt
      rw [show n + 4 + (L + 1) = (n + (L + 1) + 3) + 1 by omega]
      rw [show n + 4 + L = n + (L + 1) + 3 by omega] at r2
      refine W_runE rfl rfl ?_
      have c : ¬ (f.length : Int) < 2 := by omega
      unfold tupI at *
      simp only [vstep, ↓reduceIte, List.length_map, c, r1, r2, nms_ints]
      refine W_map (g := fun i => D.int (i + 1)) ?_ ?_ (by rfl) ?_
      · intro i _
        simp only [vstep, ↓reduceIte]
      · unfold lineN; omega
      · have hl1 : 0 + 1 + ts.length ≤ lineN := by unfold lineN; omega
        have hl2 : ts.length + (0 + 1) ≤ lineN := by unfold lineN; omega
        have hm : ts.map (fun i => D.int (i + 1)) = (ts.map (· + 1)).map D.int := by rw [List.map_map] <;> rfl
        have hd : cutD (D.int 1 :: (ts.map (· + 1)).map D.int) (some 1) none = (ts.map (· + 1)).map D.int := cut_drop _ 1
        have ha : (ts.map (· + 1)).map D.int ++ [D.int high] = (ts.map (· + 1) ++ [high]).map D.int := by rw [List.map_append] <;> rfl
        have hz : zipD (D.int 1 :: (ts.map (· + 1)).map D.int) ((ts.map (· + 1) ++ [high]).map D.int) = (segs 1 high ts).map pI := by
          rw [show D.int 1 :: (ts.map (· + 1)).map D.int = (1 :: ts.map (· + 1)).map D.int from rfl, zipD_enc] <;> rfl
        simp only [vstep, ↓reduceIte, List.length_map, hl1, hl2, hm, List.cons_append, List.nil_append, hd, ha, hz]
        refine W_for (fun p ρ => ∃ o1 o2, ρ = [.val (.tup (f.map D.int)), .val (.int high), .val (.lst (D.int 1 :: (ts.map (· + 1)).map D.int)), .own (.lst ((p.flatMap (fun q => turns (ev f) q.1 (q.2 - q.1).toNat)).map D.int)), jk o1, jk o2, .no]) ⟨none, none, rfl⟩ ?_ ?_
        · rintro p q post hp ρ ⟨o1, o2, rfl⟩
          obtain ⟨a1, a2, a3, a4⟩ := s1 q (pfx hp).1
          have r3 := t18 (n := n + (L + 1)) (k := B) (by unfold WF; omega) a2 a4 (by omega) (fun x x1 x2 => hq x (by omega) (by omega)) (hb.mono (by omega : e ≤ B)) (by
            have : (f.length + 1) * (2 * B + 2) ≤ 6 * (2 * 10000 + 2) := Nat.mul_le_mul (by omega) (by omega)
            omega)
          have hlen : (p.flatMap (fun q => turns (ev f) q.1 (q.2 - q.1).toNat)).length + (turns (ev f) q.1 (q.2 - q.1).toNat).length ≤ lineN := by
            rw [hp, List.flatMap_append, List.flatMap_cons] at s2
            have := congrArg List.length s2
            rw [List.length_append, List.length_append] at this
            unfold lineN
            omega
          unfold tupI pI at *
          simp only [vstep, ↓reduceIte, List.length_map, r3, hlen, ← List.map_append, nms_ints]
          exact LQ_nx ⟨some (.int q.1), some (.int q.2), by rw [List.flatMap_append, List.flatMap_cons, List.flatMap_nil, List.append_nil] <;> rfl⟩
        · rintro ρ ⟨o1, o2, rfl⟩
          simp only [vstep, ↓reduceIte, W_eq, s2]
end LW
set_option Elab.async false
set_option linter.all false
set_option maxRecDepth 100000
/-! LwP7: k80: roots_in. -/
namespace LW
open PySem VS VT K80
theorem maxI_mx : ∀ (l : List Int) (m : Int), maxI l m = mxF l m
  | [], m => rfl
  | x :: l, m => by
    show maxI l _ = mxF l _
    exact maxI_mx l _
theorem s_mulln0 (xs : List D) : sem .mul [.lst xs, .int 0] = some (.lst []) := by
  rw [s_mull, if_pos]
  · rfl
  · simp
theorem run_ex {f : List Int} (hl : IsLean f) (h0 : f ≠ []) (b : Int) : ∃ r, r ≤ f.length ∧ Run (ev f) b r := by
  have nz := far_non hl h0 (Int.le_refl (hiF f - 1))
  obtain ⟨r, h1, h2, h3⟩ := first_non f.length (no_run (m := hiF f - 1) f.length f b (Nat.le_refl _) nz)
  exact ⟨r, by omega, h2, h3⟩
open Classical in
noncomputable def runF (f : List Int) (b : Int) : Nat := if h : IsLean f ∧ f ≠ [] then Classical.choose (run_ex h.1 h.2 b) else 0
theorem runF_ok {f : List Int} (hl : IsLean f) (h0 : f ≠ []) (b : Int) : runF f b ≤ f.length ∧ Run (ev f) b (runF f b) := by
  unfold runF
  rw [dif_pos ⟨hl, h0⟩]
  exact Classical.choose_spec (run_ex hl h0 b)
theorem lt_pow {B : Nat} {q : Int} (h1 : 0 ≤ q) (h2 : q < 2 ^ B) : Lt B q := by
  unfold Lt
  have h3 : ((q.natAbs : Nat) : Int) < ((2 ^ B : Nat) : Int) := by
    rw [show ((2 ^ B : Nat) : Int) = 2 ^ B from by exact_mod_cast rfl]
    omega
  exact_mod_cast h3


theorem t20 {n e : Nat} {f : List Int} (hl : IsLean f) (h0 : f ≠ []) (hb : Bd e f) (he : e ≤ 5000) (h4 : f.length ≤ 5) : run P (n + 9) i_roots_in [tupI f] = .ok (tupI (rootsF f)) := by
  have h3 := hiF_three f
  have hlt := hiF_lt hb
  have p0 : (0 : Int) < 2 ^ e := by
    have : 0 < 2 ^ e := Nat.pow_pos (by decide : 0 < 2)
    exact_mod_cast this
  have p2 : (2 : Int) ^ (e + 40) = 2 ^ e * 2 ^ 40 := Int.pow_add 2 e 40
  have p4 : (2 : Int) ^ (e + 40) ≤ 2 ^ (e + 64) := by
    have : 2 ^ (e + 40) ≤ 2 ^ (e + 64) := Nat.pow_le_pow_right (by decide) (by omega)
    exact_mod_cast this
  have p3 : hiF f + 10 < 2 ^ (e + 64) := by
    have : (2 : Int) ^ 40 = 1099511627776 := by decide
    rw [this] at p2
    generalize (2 : Int) ^ (e + 64) = X at p4
    omega
  have hq : ∀ q : Int, 1 ≤ q → q ≤ hiF f + 9 → Lt (e + 64) q := fun q q1 q2 => lt_pow (by omega) (by omega)
  have r1 := t19 (n := n) (B := e + 64) (by omega) (high := hiF f) (by omega) (by omega) (fun q q1 q2 => hq q q1 (by omega)) 4 e f hb (by omega) (by omega) (Nat.le_refl _)
  have nz : ev f (hiF f) ≠ 0 := far_non hl h0 (by omega)
  have cnt := turns_count 4 f (by omega) (hiF f) (by omega)
  have hz := runs_ok (f := ev f) (runF f) (fun b => (runF_ok hl h0 b).2) nz _ 1 (by omega) rfl
  have rd : ∀ b : Int, runF f b ≤ 5 := fun b => Nat.le_trans (runF_ok hl h0 b).1 h4
  generalize hts : turns (ev f) 1 (hiF f - 1).toNat = ts at r1 hz cnt
  obtain ⟨c, cs, hf⟩ : ∃ c cs, f = c :: cs := by
    cases f with
    | nil => exact absurd rfl h0
    | cons c cs => exact ⟨c, cs, rfl⟩
  have hhi : 3 + maxI (cs.map absI) (absI c) = hiF f := by rw [maxI_mx, hf] <;> rfl
  have tsm : ∀ t ∈ ts, 1 ≤ t ∧ t < hiF f := fun t ht => by
    rw [← hts] at ht
    have := mem_turns.mp ht
    omega
  refine W_runE rfl rfl ?_
  unfold tupI at *
  simp only [vstep, ↓reduceIte, List.length_map]
  refine W_map (g := fun i => D.int (absI i)) ?_ ?_ (by rfl) ?_
  · intro i _
    simp only [vstep, ↓reduceIte]
    rfl
  · unfold lineN; omega
  · have hm : f.map (fun i => D.int (absI i)) = (absI c :: cs.map absI).map D.int := by rw [hf]; simp
    have hlen : 0 + 1 + ts.length ≤ lineN := by unfold lineN; omega
    have hap : D.int 0 :: ts.map D.int = (0 :: ts).map D.int := rfl
    simp only [vstep, ↓reduceIte, List.length_map, hm, hhi, r1, hlen, List.cons_append, List.nil_append, hap]
    refine W_for (fun p ρ => ∃ o1 o2, ρ = [.val (.tup (f.map D.int)), .val (.int (hiF f)), .own (.lst ((p.flatMap (fun t => upL (t + 1) (runF f (t + 1)))).map D.int)), jk o1, jk o2, .no]) ⟨none, none, rfl⟩ ?_ ?_
    · rintro p t post hp ρ ⟨o1, o2, rfl⟩
      have ht : 0 ≤ t ∧ t < hiF f := by
        rcases List.mem_cons.mp (pfx hp).1 with rfl | h
        · omega
        · have := tsm t h
          omega
      have hpl := (pfx hp).2
      rw [List.length_cons] at hpl
      have hfl : ∀ l : List Int, (l.flatMap (fun t => upL (t + 1) (runF f (t + 1)))).length ≤ 5 * l.length := fun l => by
        induction l with
        | nil => simp
        | cons x l ih =>
          rw [List.flatMap_cons, List.length_append, List.length_cons]
          have : (upL (x + 1) (runF f (x + 1))).length = runF f (x + 1) := by unfold upL; simp
          have := rd (x + 1)
          omega
      have hpf := hfl p
      obtain ⟨rl, rn⟩ := runF_ok hl h0 (t + 1)
      simp only [vstep, ↓reduceIte]
      refine W_whl (fun m ρ => ∃ i : Nat, i + m = runF f (t + 1) ∧ ρ = [.val (.tup (f.map D.int)), .val (.int (hiF f)), .own (.lst ((p.flatMap (fun t => upL (t + 1) (runF f (t + 1))) ++ upL (t + 1) i).map D.int)), .val (.int t), .val (.int (t + 1 + (i : Int))), .no]) (runF f (t + 1)) ?_ ⟨0, by omega, by simp [upL]⟩ ?_
      · have := rd (t + 1)
        unfold WF; omega
      · rintro m ρ ⟨i, hi, rfl⟩
        have hi4 := rd (t + 1)
        have r2 := t12 (n + 7) (e + 64) f (t + 1 + (i : Int)) (hq _ (by omega) (by omega)) (hb.mono (by omega)) (by
          have : (f.length + 1) * (2 * (e + 64) + 2) ≤ 6 * 11000 := Nat.mul_le_mul (by omega) (by omega)
          omega)
        unfold tupI at r2
        by_cases hz : m = 0
        · subst hz
          have er : i = runF f (t + 1) := by omega
          have nz := rn.non
          rw [← er] at nz
          have nzb : (ev f (t + 1 + (i : Int)) == 0) = false := by simpa using nz
          refine .inl ⟨?_, ?_⟩
          · simp only [vstep, ↓reduceIte, r2, nms_ints, nzb]
          · simp only [vstep, ↓reduceIte]
            refine LQ_nx ⟨some (.int t), some (.int (t + 1 + (i : Int))), ?_⟩
            rw [List.flatMap_append, List.flatMap_cons, List.flatMap_nil, List.append_nil, ← er] <;> rfl
        · have zb : (ev f (t + 1 + (i : Int)) == 0) = true := by simpa using rn.zero i (by omega)
          refine .inr ⟨?_, ?_⟩
          · simp only [vstep, ↓reduceIte, r2, nms_ints, zb]
          · have hg : ((p.flatMap (fun t => upL (t + 1) (runF f (t + 1))) ++ upL (t + 1) i).map D.int).length < lineN := by
              rw [List.length_map, List.length_append]
              have : (upL (t + 1) i).length = i := by unfold upL; simp
              unfold lineN; omega
            simp only [vstep, ↓reduceIte, hg]
            refine WQ_nx (m - 1) (by omega) ⟨i + 1, by omega, ?_⟩
            rw [upL_succ]
            have e1 : t + 1 + (i : Int) + 1 = t + 1 + ((i + 1 : Nat) : Int) := by omega
            rw [e1, ← List.append_assoc, List.map_append (l₂ := [t + 1 + (i : Int)])] <;> rfl
    · rintro ρ ⟨o1, o2, rfl⟩
      have hfin : (0 :: ts).flatMap (fun t => upL (t + 1) (runF f (t + 1))) = rootsF f := by
        rw [List.flatMap_cons]
        exact hz
      simp only [vstep, ↓reduceIte, W_eq, hfin]
end LW
set_option Elab.async false
set_option linter.all false
set_option maxRecDepth 100000
/-! LgBase: what all laws share: kinds, draws, likeness. -/
namespace LW
open PySem VS VT
theorem t_is_integer {n : Nat} {d : VS.D} (h : D.ask d = true) : run P (n + 1) i_is_integer [d] = .ok (.bl (D.isInt d)) := by
  refine W_runE rfl rfl ?_
  cases d <;> first | (cases h; done) | (simp only [vstep, ↓reduceIte, reduceCtorEq, W_eq]; rfl)
theorem t_is_number {n : Nat} {d : VS.D} {lo hi : Int} (h : D.ask d = true) : run P (n + 2) i_is_number [d, .int lo, .int hi] = .ok (.bl (numB d lo hi)) := by
  refine W_runE rfl rfl ?_
  have c := t_is_integer (n := n) h
  cases d with
  | int i =>
    simp only [D.isInt] at c
    simp only [vstep, ↓reduceIte, c]
    by_cases h : lo ≤ i
    · simp only [vstep, ↓reduceIte, h, W_eq, numB]
    · simp only [vstep, ↓reduceIte, h, W_eq, numB]
  | dic a b => cases h
  | set a => cases h
  | fn a => cases h
  | frl a => cases h
  | _ =>
    simp only [D.isInt] at c
    simp only [vstep, ↓reduceIte, c, W_eq, numB]
theorem t_need_number {n : Nat} {d : VS.D} {lo hi : Int} (h : D.ask d = true) (hn : numB d lo hi = true) : run P (n + 3) i_need_number [d, .int lo, .int hi] = .ok .non := by
  refine W_runE rfl rfl ?_
  have c := t_is_number (n := n) (lo := lo) (hi := hi) h
  rw [hn] at c
  simp only [vstep, ↓reduceIte, c, W_eq]
theorem t_is_tuple_of {n : Nat} {d : VS.D} {lo hi : Int} (h : D.ask d = true) : run P (n + 1) i_is_tuple_of [d, .int lo, .int hi] = .ok (.bl (tupB d lo hi)) := by
  refine W_runE rfl rfl ?_
  cases d with
  | tup xs =>
    simp only [vstep, ↓reduceIte]
    by_cases h : lo ≤ (xs.length : Int)
    · simp only [vstep, ↓reduceIte, h, W_eq, tupB]
    · simp only [vstep, ↓reduceIte, h, W_eq, tupB]
  | dic a b => cases h
  | set a => cases h
  | fn a => cases h
  | frl a => cases h
  | _ => simp only [vstep, ↓reduceIte, reduceCtorEq, W_eq, tupB]
theorem t_sort {n : Nat} {d : VS.D} (h : D.ask d = true) : run P (n + 1) i__law_sort [d] = .ok (.int (sortD d)) := by
  refine W_runE rfl rfl ?_
  cases d <;> first | (cases h; done) | (simp only [vstep, ↓reduceIte, reduceCtorEq, D.isNon, W_eq, sortD])
end LW
set_option Elab.async false
set_option linter.all false
set_option maxRecDepth 100000
/-! LgLike: likeness of equal values. -/
namespace LW
open PySem VS VT
theorem zip_same {α : Type} : ∀ (l : List α) (p : α × α), p ∈ l.zip l → p.1 = p.2 ∧ p.1 ∈ l
  | [], p, h => nomatch h
  | a :: l, p, h => by
    rw [List.zip_cons_cons] at h
    rcases List.mem_cons.mp h with rfl | h
    · exact ⟨rfl, List.mem_cons_self⟩
    · have := zip_same l p h
      exact ⟨this.1, List.mem_cons_of_mem _ this.2⟩
theorem filter_false {α : Type} : ∀ l : List α, l.filter (fun _ => false) = []
  | [] => rfl
  | a :: l => by rw [List.filter_cons, if_neg (by simp), filter_false l]
theorem pl_ask {k : Nat} {d : VS.D} (h : D.pl k d = true) : D.ask d = true := by
  cases d <;> first | rfl | (simp only [D.pl] at h; cases h)
theorem any45 (s : Int) : ([VS.D.int 4, VS.D.int 5].any fun z => D.eqv z (.int s)) = (4 == s || 5 == s) := by
  simp only [List.any_cons, List.any_nil, e_int, Bool.or_false]
theorem t_like {n : Nat} : ∀ (k : Nat) (d : VS.D), k < 50 → D.pl k d = true → run P (n + 3 + k) i__law_like [d, d] = .ok (.bl true) := by
  intro k
  induction k with
  | zero =>
    intro d hk h
    have c := t_sort (n := n + 1) (pl_ask h)
    refine W_runE rfl rfl ?_
    cases d with
    | non => simp only [vstep, ↓reduceIte, c, sortD, s_inn, s_int, any45, Int.reduceEq, Int.reduceBEq, W_eq, e_non]
    | bl b => simp only [vstep, ↓reduceIte, c, sortD, s_inn, s_int, any45, Int.reduceEq, Int.reduceBEq, W_eq, beq_self_eq_true]
    | int b => simp only [vstep, ↓reduceIte, c, sortD, s_inn, s_int, any45, Int.reduceEq, Int.reduceBEq, W_eq, beq_self_eq_true]
    | _ => simp only [D.pl] at h <;> cases h
  | succ k ih =>
    intro d hk h
    have c := t_sort (n := n + k + 2) (pl_ask h)
    rw [show n + 3 + (k + 1) = (n + k + 2 + 1) + 1 by omega]
    refine W_runE rfl rfl ?_
    cases d with
    | non => simp only [vstep, ↓reduceIte, c, sortD, s_inn, s_int, any45, Int.reduceEq, Int.reduceBEq, W_eq, e_non]
    | bl b => simp only [vstep, ↓reduceIte, c, sortD, s_inn, s_int, any45, Int.reduceEq, Int.reduceBEq, W_eq, beq_self_eq_true]
    | int b => simp only [vstep, ↓reduceIte, c, sortD, s_inn, s_int, any45, Int.reduceEq, Int.reduceBEq, W_eq, beq_self_eq_true]
    | tup ds =>
      rw [pl_tup, Bool.and_eq_true, decide_eq_true_eq] at h
      simp only [vstep, ↓reduceIte, c, sortD, s_inn, s_int, any45, Int.reduceEq, Int.reduceBEq, zipD_map]
      refine W_filter (p := fun _ => false) (g := fun _ => .int 1) ?_ ?_ (by rfl) ?_
      · intro p hp
        obtain ⟨h1, h2⟩ := zip_same ds p hp
        have c2 := ih p.1 (by omega) (pls_mem h.1 _ h2)
        rw [show n + 3 + k = n + k + 2 + 1 by omega] at c2
        rw [← h1]
        simp only [vstep, ↓reduceIte, c2]
      · rw [List.length_zip]; omega
      · simp only [vstep, ↓reduceIte, filter_false, List.map_nil, W_eq, List.isEmpty_nil]
    | lst ds =>
      rw [pl_lst, Bool.and_eq_true, decide_eq_true_eq] at h
      simp only [vstep, ↓reduceIte, c, sortD, s_inn, s_int, any45, Int.reduceEq, Int.reduceBEq, zipD_map]
      refine W_filter (p := fun _ => false) (g := fun _ => .int 1) ?_ ?_ (by rfl) ?_
      · intro p hp
        obtain ⟨h1, h2⟩ := zip_same ds p hp
        have c2 := ih p.1 (by omega) (pls_mem h.1 _ h2)
        rw [show n + 3 + k = n + k + 2 + 1 by omega] at c2
        rw [← h1]
        simp only [vstep, ↓reduceIte, c2]
      · rw [List.length_zip]; omega
      · simp only [vstep, ↓reduceIte, filter_false, List.map_nil, W_eq, List.isEmpty_nil]
    | _ => simp only [D.pl] at h <;> cases h
end LW
set_option Elab.async false
set_option linter.all false
set_option maxRecDepth 100000
/-! LgDraw: draws. -/
namespace LW
open PySem VS VT
theorem mulOk_rn {i j : Int} {b : Nat} (h : j.natAbs ≤ b) (hb : b < 18446744073709551616) : mulOk i j = true := mulOk_r (by omega)
theorem t_roll {n : Nat} (c : Cup) {many : Int} (h0 : 0 < many) (h1 : many < 1073741824) : ∃ (r : Int) (c' : Cup), run P (n + 1) i__law_roll [c.D, .int many] = .oki (.int r) c'.D ∧ 0 ≤ r ∧ r < many := by
  obtain ⟨a, b, a0, b0, b1⟩ := c
  have hm : ¬ many = 0 := by omega
  have hm2 : many.natAbs < 1073741824 := by omega
  by_cases z : 0 < a
  · have e1 : a.fmod many = a % many := Int.fmod_eq_emod_of_nonneg a (by omega)
    have e2 : a.fdiv many = a / many := Int.fdiv_eq_ediv_of_nonneg a (by omega)
    refine ⟨a.fmod many, ⟨a.fdiv many, b, by rw [e2]; exact Int.ediv_nonneg a0 (by omega), b0, b1⟩, ?_, by rw [e1]; exact Int.emod_nonneg _ (by omega), by rw [e1]; exact Int.emod_lt_of_pos _ h0⟩
    refine W_runE rfl rfl ?_
    unfold Cup.D
    simp only [vstep, ↓reduceIte, ix0, z, hm, hm2, ixN2_0, W_eq, ne_eq, List.set_cons_zero]
  · have hb : 0 ≤ (b * 30983 + 8039).fmod 2147483549 ∧ (b * 30983 + 8039).fmod 2147483549 < 2147483549 := by
      rw [Int.fmod_eq_emod_of_nonneg _ (by decide)]
      exact ⟨Int.emod_nonneg _ (by decide), Int.emod_lt_of_pos _ (by decide)⟩
    generalize hb' : (b * 30983 + 8039).fmod 2147483549 = b' at hb
    refine ⟨(((b' * (b' + 241)).fmod 2147483563).fdiv 839).fmod many, ⟨a, b', a0, hb.1, by omega⟩, ?_, ?_, ?_⟩
    · refine W_runE rfl rfl ?_
      unfold Cup.D
      have q1 : mulOk b 30983 = true := mulOk_r (by decide)
      have q2 : mulOk b' (b' + 241) = true := mulOk_l (by omega)
      have q3 : ¬ (2147483549 : Int) = 0 := by decide
      have q4 : ¬ (2147483563 : Int) = 0 := by decide
      have q5 : ¬ (839 : Int) = 0 := by decide
      have q6 : (839 : Int).natAbs < 1073741824 := by decide
      simp only [vstep, ↓reduceIte, ix0, ix1, z, q1, q2, q3, q4, q5, q6, hb', hm, hm2, ixN2_1, W_eq, ne_eq, List.set_cons_zero, List.set_cons_succ]
    · rw [Int.fmod_eq_emod_of_nonneg _ (by omega : 0 ≤ many)]; exact Int.emod_nonneg _ (by omega)
    · rw [Int.fmod_eq_emod_of_nonneg _ (by omega : 0 ≤ many)]; exact Int.emod_lt_of_pos _ h0
theorem t_someD {n : Nat} (c : Cup) (s : VS.D) (ds : List VS.D) (hs : s = .lst ds ∨ s = .tup ds) (h0 : ds ≠ []) (h1 : ds.length < 1073741824) : ∃ x ∈ ds, ∃ c' : Cup, run P (n + 2) i__law_some [c.D, s] = .oki x c'.D := by
  have hp : 0 < ds.length := List.length_pos_iff.mpr h0
  obtain ⟨r, c', e, r0, r1⟩ := t_roll (n := n) c (many := (ds.length : Int)) (by omega) (by omega)
  have hl : r.toNat < ds.length := by omega
  have hx : ixD ds r = some ds[r.toNat] := ixz r0 (List.getElem?_eq_getElem hl)
  refine ⟨ds[r.toNat], List.getElem_mem hl, c', ?_⟩
  refine W_runE rfl rfl ?_
  rcases hs with rfl | rfl
  · simp only [vstep, ↓reduceIte, e, Cup.inner, hx, W_eq]
  · simp only [vstep, ↓reduceIte, e, Cup.inner, hx, W_eq]
/-- one of a list's items, by an encoding -/
theorem t_some {n : Nat} {α : Type} {enc : α → VS.D} (c : Cup) (l : List α) (h0 : l ≠ []) (h1 : l.length < 1073741824) : ∃ x ∈ l, ∃ c' : Cup, run P (n + 2) i__law_some [c.D, .lst (l.map enc)] = .oki (enc x) c'.D := by
  obtain ⟨x, hx, c', e⟩ := t_someD (n := n) c (.lst (l.map enc)) (l.map enc) (.inl rfl) (by simpa using h0) (by rw [List.length_map]; exact h1)
  obtain ⟨a, ha, rfl⟩ := List.mem_map.mp hx
  exact ⟨a, ha, c', e⟩
end LW
set_option Elab.async false
set_option linter.all false
set_option maxRecDepth 100000
/-! LgCup: the cup of a script. -/
namespace LW
open PySem VS VT
theorem pow18 : sem .pow [.int 10, .int 18] = some (.int 1000000000000000000) := by rfl
theorem t_cup {n : Nat} (xs : List Int) (h : xs.length ≤ 63) : ∃ c : Cup, run P (n + 1) i__law_cup [.frl (xs.map D.int)] = .ok c.D := by
  have hx : ∃ x : Int, ixD (xs.map D.int ++ [D.int 0]) 0 = some (.int x) := by
    cases xs with
    | nil => exact ⟨0, ix0 _ _⟩
    | cons a l => exact ⟨a, ix0 _ _⟩
  obtain ⟨x, hx⟩ := hx
  have hlen : xs.length + (0 + 1) ≤ lineN := by unfold lineN; omega
  have h0 : 0 ≤ (if x < 0 then -x else x) := by split <;> omega
  generalize hy : (if x < 0 then -x else x) = y at h0
  have q1 : mulOk y 311 = true := mulOk_r (by decide)
  have q2 : ¬ (2077503221 : Int) = 0 := by decide
  have q3 : ¬ (83 : Int) = 0 := by decide
  have q4 : (83 : Int).natAbs < 1073741824 := by decide
  have hb : 0 ≤ (y * 311 + 11861).fmod 2077503221 ∧ (y * 311 + 11861).fmod 2077503221 < 2077503221 := by
    rw [Int.fmod_eq_emod_of_nonneg _ (by decide)]
    exact ⟨Int.emod_nonneg _ (by decide), Int.emod_lt_of_pos _ (by decide)⟩
  generalize hb' : (y * 311 + 11861).fmod 2077503221 = b' at hb
  by_cases z : 1000000000000000000 ≤ y
  · refine ⟨⟨y.fdiv 83, b' + 181, ?_, by omega, by omega⟩, ?_⟩
    · rw [Int.fdiv_eq_ediv_of_nonneg _ (by decide)]; exact Int.ediv_nonneg h0 (by decide)
    · refine W_runE rfl rfl ?_
      simp only [vstep, ↓reduceIte, List.length_map, hlen, hx, hy, pow18, z, q3, q4, q1, q2, hb', ne_eq, W_eq]
      rfl
  · refine ⟨⟨0, b' + 181, Int.le_refl _, by omega, by omega⟩, ?_⟩
    refine W_runE rfl rfl ?_
    simp only [vstep, ↓reduceIte, List.length_map, hlen, hx, hy, pow18, z, q3, q4, q1, q2, hb', ne_eq, W_eq]
    rfl
end LW
set_option Elab.async false
set_option linter.all false
set_option maxRecDepth 100000
/-! LgGrow: forms, sizes, growing shapes, growing walks: what fits. -/
namespace LW
open PySem VS VT K80
theorem t_number_in {n : Nat} (is : List Int) (h : ∀ i ∈ is, i.natAbs < 18446744073709551616) (s : VS.D) (hs : s = .lst (is.map D.int) ∨ s = .tup (is.map D.int)) : run P (n + 1) i_number_in [s] = .ok (.int (is.foldl (· * ·) 1)) := by
  have key : ∀ s : VS.D, W (fun m => outE none m = .ok (.int (is.foldl (· * ·) 1))) ((forLoop (forB (run P n) false (.n 2) (.cons (.asg (.n 1) (.op .mul (.cons (.pk 1) (.cons (.pk 2) .nil)))) .nil)) (is.map D.int) [.val s, .val (.int 1), .no]).to (seqK (run P n) false (.cons (.ret (.var 1)) .nil))) := fun s => by
    refine W_for (fun p ρ => ∃ o, ρ = [.val s, .val (.int (p.foldl (· * ·) 1)), jk o]) ⟨none, rfl⟩ ?_ ?_
    · rintro p a post hp ρ ⟨o, rfl⟩
      have hm := mulOk_r (i := p.foldl (· * ·) 1) (h a (pfx hp).1)
      simp only [vstep, ↓reduceIte, hm]
      exact LQ_nx ⟨some (.int a), by rw [List.foldl_append] <;> rfl⟩
    · rintro ρ ⟨o, rfl⟩
      simp only [vstep, ↓reduceIte, W_eq]
  refine W_runE rfl rfl ?_
  rcases hs with rfl | rfl
  · simp only [vstep, ↓reduceIte]
    exact key _
  · simp only [vstep, ↓reduceIte]
    exact key _
def intsD : List VS.D → List Int
  | [] => []
  | .int i :: ds => i :: intsD ds
  | _ :: ds => intsD ds
theorem allInt : ∀ ds : List VS.D, ds.all D.isInt = true → ∃ is : List Int, ds = is.map D.int
  | [], _ => ⟨[], rfl⟩
  | d :: ds, h => by
    rw [List.all_cons, Bool.and_eq_true] at h
    obtain ⟨is, rfl⟩ := allInt ds h.2
    cases d with
    | int i => exact ⟨i :: is, rfl⟩
    | _ => cases h.1
def lastN0 (xs : List VS.D) : Bool := match ixD xs (-1) with
  | some d => !D.eqv d (.int 0)
  | none => true
def formB : VS.D → Bool
  | .tup xs => decide ((xs.length : Int) ≤ 4) && (xs.all D.isInt && lastN0 xs)
  | _ => false
theorem map_bl {α : Type} (p : α → Bool) (l : List α) : l.map (fun a => D.bl (p a)) = (l.map p).map D.bl := by rw [List.map_map] <;> rfl
theorem all_id {α : Type} (p : α → Bool) (l : List α) : (l.map p).all id = l.all p := by rw [List.all_map] <;> rfl
/-- askable, and so its items -/
def ask1 : VS.D → Prop
  | .tup xs => ∀ x ∈ xs, D.ask x = true
  | d => D.ask d = true
theorem ask1.ask {d : VS.D} (h : ask1 d) : D.ask d = true := by
  cases d <;> first | rfl | exact h
theorem tupB_le {xs : List VS.D} {k : Int} (h : (xs.length : Int) ≤ k) : tupB (.tup xs) 0 k = true := by
  simp only [tupB, Bool.and_eq_true, decide_eq_true_eq]
  exact ⟨by omega, h⟩
theorem tupB_gt {xs : List VS.D} {k : Int} (h : ¬ (xs.length : Int) ≤ k) : tupB (.tup xs) 0 k = false := by
  simp only [tupB, decide_eq_false h, Bool.and_false]
theorem t_fits_form {n : Nat} {d : VS.D} (h : ask1 d) : run P (n + 2) i_fits_form [d] = .ok (.bl (formB d)) := by
  have c := t_is_tuple_of (n := n) (lo := 0) (hi := 4) h.ask
  refine W_runE rfl rfl ?_
  cases d with
  | tup xs =>
    by_cases hl : (xs.length : Int) ≤ 4
    · rw [tupB_le hl] at c
      simp only [vstep, ↓reduceIte, c]
      have hid : xs = xs.map id := (List.map_id xs).symm
      rw [show compLoop (compB (run P (n + 1)) (E.call i_is_integer none false (Es.cons (E.pk 1) Es.nil)) (T.n 1) Es.nil [1]) xs = compLoop (compB (run P (n + 1)) (E.call i_is_integer none false (Es.cons (E.pk 1) Es.nil)) (T.n 1) Es.nil [1]) (xs.map id) by rw [List.map_id]]
      refine W_map (g := fun d => .bl (D.isInt d)) ?_ ?_ (by rfl) ?_
      · intro x hx
        have c2 := t_is_integer (n := n) (h x hx)
        simp only [vstep, ↓reduceIte, id, c2]
      · unfold lineN; omega
      · simp only [vstep, ↓reduceIte, map_bl, all_id]
        by_cases ha : xs.all D.isInt = true
        · obtain ⟨is, rfl⟩ := allInt xs ha
          simp only [vstep, ↓reduceIte, ha, f_tup, fines_ints]
          rcases List.eq_nil_or_concat is with rfl | ⟨js, j, rfl⟩
          · simp only [vstep, ↓reduceIte, List.map_nil, List.isEmpty_nil, W_eq]
            rfl
          · have e1 : D.eqvs ((js.concat j).map D.int) [] = false := by
              rw [List.concat_eq_append]
              rw [List.map_append]
              cases js.map D.int <;> simp only [List.nil_append, List.map_cons, List.cons_append, e_nc]
            have e2 : ixD ((js.concat j).map D.int) (-1) = some (.int j) := by
              rw [List.concat_eq_append]
              rw [List.map_append]; exact ixl _ _
            simp only [List.concat_eq_append] at *
            simp only [vstep, ↓reduceIte, e1, e2, W_eq, formB, lastN0, ha, hl]
        · have ha : xs.all D.isInt = false := by simpa using ha
          simp only [vstep, ↓reduceIte, ha, W_eq, formB]
    · rw [tupB_gt hl] at c
      simp only [vstep, ↓reduceIte, c, W_eq, formB, hl]
  | dic a b => cases h.ask
  | set a => cases h.ask
  | fn a => cases h.ask
  | frl a => cases h.ask
  | _ =>
    simp only [tupB] at c
    simp only [vstep, ↓reduceIte, c, W_eq, formB]
/-! sizes, shapes, growing walks -/
def Plain (d : VS.D) : Prop := ∃ k, D.pl k d = true
theorem Plain.ask {d : VS.D} (h : Plain d) : D.ask d = true := by
  obtain ⟨k, h⟩ := h
  exact pl_ask h
theorem Plain.tup {xs : List VS.D} (h : Plain (.tup xs)) : ∀ x ∈ xs, Plain x := by
  obtain ⟨k, h⟩ := h
  cases k with
  | zero => simp only [D.pl] at h; cases h
  | succ k =>
    rw [pl_tup, Bool.and_eq_true] at h
    exact fun x hx => ⟨k, pls_mem h.1 x hx⟩
theorem Plain.ask1 {d : VS.D} (h : Plain d) : ask1 d := by
  cases d with
  | tup xs => exact fun x hx => (h.tup x hx).ask
  | _ => exact h.ask
theorem tup2 {d : VS.D} (h : tupB d 2 2 = true) : ∃ a b, d = .tup [a, b] := by
  cases d with
  | tup xs =>
    simp only [tupB, Bool.and_eq_true, decide_eq_true_eq] at h
    match xs, h with
    | [a, b], _ => exact ⟨a, b, rfl⟩
    | [], h => simp at h
    | [_], h => simp at h
    | _ :: _ :: _ :: _, h => simp at h; omega
  | _ => cases h
def sizeB (d : VS.D) : Bool := tupB d 2 2 && (match d with
  | .tup [a, b] => numB a 1 5000 && numB b 0 1
  | _ => false)
theorem t_fits_size {n : Nat} {d : VS.D} (h : Plain d) : run P (n + 3) i_fits_size [d] = .ok (.bl (sizeB d)) := by
  have c := t_is_tuple_of (n := n + 1) (lo := 2) (hi := 2) h.ask
  refine W_runE rfl rfl ?_
  unfold sizeB
  by_cases q : tupB d 2 2 = true
  · obtain ⟨a, b, rfl⟩ := tup2 q
    have c2 := t_is_number (n := n) (lo := 1) (hi := 5000) (h.tup a (by simp)).ask
    have c3 := t_is_number (n := n) (lo := 0) (hi := 1) (h.tup b (by simp)).ask
    rw [q] at c
    simp only [vstep, ↓reduceIte, c, ix0, ix1, c2]
    by_cases q2 : numB a 1 5000 = true
    · simp only [vstep, ↓reduceIte, q2, c3, W_eq, q]
    · have q2 : numB a 1 5000 = false := by simpa using q2
      simp only [vstep, ↓reduceIte, q2, c3, W_eq, q]
  · have q : tupB d 2 2 = false := by simpa using q
    rw [q] at c
    simp only [vstep, ↓reduceIte, c, W_eq, q]
theorem numB_int {d : VS.D} {lo hi : Int} (h : numB d lo hi = true) : ∃ i, d = .int i ∧ lo ≤ i ∧ i ≤ hi := by
  cases d with
  | int i =>
    simp only [numB, Bool.and_eq_true, decide_eq_true_eq] at h
    exact ⟨i, rfl, h⟩
  | _ => cases h
def okS (s : Int × Int) : Prop := 1 ≤ s.1 ∧ s.1 ≤ 5000 ∧ 0 ≤ s.2 ∧ s.2 ≤ 1
theorem sizeB_pI {s : Int × Int} : sizeB (pI s) = true ↔ okS s := by
  unfold sizeB pI okS
  simp only [tupB, numB, List.length_cons, List.length_nil, Bool.and_eq_true, decide_eq_true_eq]
  omega
theorem allSize : ∀ xs : List VS.D, xs.all sizeB = true → ∃ ss : List (Int × Int), xs = ss.map pI ∧ ∀ s ∈ ss, okS s
  | [], _ => ⟨[], rfl, fun _ h => nomatch h⟩
  | d :: xs, h => by
    rw [List.all_cons, Bool.and_eq_true] at h
    obtain ⟨ss, rfl, hs⟩ := allSize xs h.2
    have h1 := h.1
    unfold sizeB at h1
    rw [Bool.and_eq_true] at h1
    obtain ⟨a, b, rfl⟩ := tup2 h1.1
    have h2 := h1.2
    simp only [Bool.and_eq_true] at h2
    obtain ⟨i, rfl, i1, i2⟩ := numB_int h2.1
    obtain ⟨j, rfl, j1, j2⟩ := numB_int h2.2
    refine ⟨(i, j) :: ss, rfl, fun s hs' => ?_⟩
    rcases List.mem_cons.mp hs' with rfl | hs'
    · exact ⟨i1, i2, j1, j2⟩
    · exact hs s hs'
def fstD : VS.D → Int
  | .tup [.int a, _] => a
  | _ => 0
def sndD : VS.D → Int
  | .tup [_, .int a] => a
  | _ => 0
def shapeB : VS.D → Bool
  | .tup xs => decide ((xs.length : Int) ≤ 16) && (xs.all sizeB && (decide ((xs.map sndD).sum ≤ 1) && decide ((xs.map fstD).foldl (· * ·) 1 ≤ 5000)))
  | _ => false
theorem map_id_loop {body : VS.D → En → Out (Option VS.D)} {xs : List VS.D} {ρ : En} : compLoop body xs ρ = compLoop body (xs.map id) ρ := by rw [List.map_id]
theorem t_fits_growing_shape {n : Nat} {d : VS.D} (h : Plain d) : run P (n + 4) i_fits_growing_shape [d] = .ok (.bl (shapeB d)) := by
  have c := t_is_tuple_of (n := n + 2) (lo := 0) (hi := 16) h.ask
  refine W_runE rfl rfl ?_
  cases d with
  | tup xs =>
    by_cases hl : (xs.length : Int) ≤ 16
    · rw [tupB_le hl] at c
      have hll : xs.length ≤ lineN := by unfold lineN; omega
      simp only [vstep, ↓reduceIte, c]
      rw [map_id_loop]
      refine W_map (g := fun d => .bl (sizeB d)) ?_ hll (by rfl) ?_
      · intro x hx
        have c2 := t_fits_size (n := n) (h.tup x hx)
        simp only [vstep, ↓reduceIte, id, c2]
      · simp only [vstep, ↓reduceIte, map_bl, all_id]
        by_cases ha : xs.all sizeB = true
        · obtain ⟨ss, rfl, hs⟩ := allSize xs ha
          simp only [vstep, ↓reduceIte, ha]
          refine W_map (g := fun s => .int s.2) ?_ (by simpa using hll) (by rfl) ?_
          · intro s _
            simp only [pI, vstep, ↓reduceIte, ix1]
          · have e1 : ss.map (fun s => D.int s.2) = (ss.map (·.2)).map D.int := by rw [List.map_map] <;> rfl
            have e2 : (ss.map pI).map sndD = ss.map (·.2) := by rw [List.map_map] <;> rfl
            have e3 : (ss.map pI).map fstD = ss.map (·.1) := by rw [List.map_map] <;> rfl
            simp only [vstep, ↓reduceIte, e1]
            by_cases hsum : (ss.map (·.2)).sum ≤ 1
            · simp only [vstep, ↓reduceIte, hsum]
              refine W_map (g := fun s => .int s.1) ?_ (by simpa using hll) (by rfl) ?_
              · intro s _
                simp only [pI, vstep, ↓reduceIte, ix0]
              · have e4 : ss.map (fun s => D.int s.1) = (ss.map (·.1)).map D.int := by rw [List.map_map] <;> rfl
                have c3 := t_number_in (n := n + 2) (ss.map (·.1)) (fun i hi => by
                  obtain ⟨s, hs', rfl⟩ := List.mem_map.mp hi
                  have := hs s hs'
                  unfold okS at this
                  omega) _ (.inl rfl)
                simp only [vstep, ↓reduceIte, e4, c3, W_eq, shapeB, ha, hl, e2, e3, hsum]
            · simp only [vstep, ↓reduceIte, hsum, W_eq, shapeB, ha, hl, e2, e3]
        · have ha : xs.all sizeB = false := by simpa using ha
          simp only [vstep, ↓reduceIte, ha, W_eq, shapeB]
    · rw [tupB_gt hl] at c
      simp only [vstep, ↓reduceIte, c, W_eq, shapeB, hl]
  | dic a b => cases h.ask
  | set a => cases h.ask
  | fn a => cases h.ask
  | frl a => cases h.ask
  | _ =>
    simp only [tupB] at c
    simp only [vstep, ↓reduceIte, c, W_eq, shapeB]
def pairB (d : VS.D) : Bool := tupB d 2 2 && (match d with
  | .tup [_, f] => formB f
  | _ => false)
def fstE : VS.D → VS.D
  | .tup [a, _] => a
  | d => d
def growB (d : VS.D) : Bool := tupB d 2 2 && (match d with
  | .tup [f, ps] => formB f && (tupB ps 0 16 && (match ps with
    | .tup ps => ps.all pairB && shapeB (.tup (ps.map fstE))
    | _ => false))
  | _ => false)
theorem Plain.mk {xs : List VS.D} {k : Nat} (h : ∀ x ∈ xs, D.pl k x = true) (hl : xs.length ≤ lineN) : D.pl (k + 1) (.tup xs) = true := by
  rw [pl_tup, Bool.and_eq_true, decide_eq_true_eq]
  refine ⟨?_, hl⟩
  have := pls_mapM (enc := id) xs h
  rwa [List.map_id] at this
theorem pl_mono : ∀ (k : Nat) (d : VS.D), D.pl k d = true → D.pl (k + 1) d = true := by
  intro k
  induction k with
  | zero =>
    intro d h
    cases d <;> first | exact pl_non _ | exact pl_bl _ _ | exact pl_int _ _ | (simp only [D.pl] at h; cases h)
  | succ k ih =>
    intro d h
    cases d with
    | non => exact pl_non _
    | bl b => exact pl_bl _ _
    | int i => exact pl_int _ _
    | tup ds =>
      rw [pl_tup, Bool.and_eq_true] at *
      refine ⟨?_, h.2⟩
      have := pls_mapM (enc := id) (n := k + 1) ds fun d hd => ih d (pls_mem h.1 d hd)
      rwa [List.map_id] at this
    | lst ds =>
      rw [pl_lst, Bool.and_eq_true] at *
      refine ⟨?_, h.2⟩
      have := pls_mapM (enc := id) (n := k + 1) ds fun d hd => ih d (pls_mem h.1 d hd)
      rwa [List.map_id] at this
    | _ => simp only [D.pl] at h <;> cases h
theorem pl_le {k m : Nat} {d : VS.D} (h : D.pl k d = true) (hm : k ≤ m) : D.pl m d = true := by
  induction hm with
  | refl => exact h
  | step _ ih => exact pl_mono _ _ ih
theorem Plain.all : ∀ {xs : List VS.D}, (∀ x ∈ xs, Plain x) → ∃ k, ∀ x ∈ xs, D.pl k x = true
  | [], _ => ⟨0, fun _ h => nomatch h⟩
  | d :: xs, h => by
    obtain ⟨k, hk⟩ := Plain.all fun x hx => h x (List.mem_cons_of_mem _ hx)
    obtain ⟨m, hm⟩ := h d List.mem_cons_self
    refine ⟨max k m, fun x hx => ?_⟩
    rcases List.mem_cons.mp hx with rfl | hx
    · exact pl_le hm (by omega)
    · exact pl_le (hk x hx) (by omega)
theorem Plain.ofAll {xs : List VS.D} (h : ∀ x ∈ xs, Plain x) (hl : xs.length ≤ lineN) : Plain (.tup xs) := by
  obtain ⟨k, hk⟩ := Plain.all h
  exact ⟨k + 1, Plain.mk hk hl⟩
theorem pairB_tup {p : VS.D} (h : pairB p = true) : ∃ a f, p = .tup [a, f] ∧ formB f = true := by
  unfold pairB at h
  rw [Bool.and_eq_true] at h
  obtain ⟨a, f, rfl⟩ := tup2 h.1
  exact ⟨a, f, rfl, h.2⟩
theorem t_fits_growing {n : Nat} {d : VS.D} (h : Plain d) : run P (n + 5) i_fits_growing [d] = .ok (.bl (growB d)) := by
  have c := t_is_tuple_of (n := n + 3) (lo := 2) (hi := 2) h.ask
  refine W_runE rfl rfl ?_
  unfold growB
  by_cases q : tupB d 2 2 = true
  · obtain ⟨f, ps, rfl⟩ := tup2 q
    rw [q] at c
    have hf := h.tup f (by simp)
    have hp := h.tup ps (by simp)
    have c1 := t_fits_form (n := n + 2) hf.ask1
    have c2 := t_is_tuple_of (n := n + 3) (lo := 0) (hi := 16) hp.ask
    simp only [vstep, ↓reduceIte, c, ix0, ix1, c1]
    by_cases q1 : formB f = true
    · simp only [vstep, ↓reduceIte, q1, c2]
      by_cases q2 : tupB ps 0 16 = true
      · cases ps with
        | tup xs =>
          have hl : xs.length ≤ 16 := by
            simp only [tupB, Bool.and_eq_true, decide_eq_true_eq] at q2
            omega
          have hll : xs.length ≤ lineN := by unfold lineN; omega
          simp only [vstep, ↓reduceIte, q2, ix1]
          rw [map_id_loop]
          refine W_map (g := fun d => .bl (pairB d)) ?_ hll (by rfl) ?_
          · intro x hx
            have hx' := hp.tup x hx
            have c3 := t_is_tuple_of (n := n + 3) (lo := 2) (hi := 2) hx'.ask
            unfold pairB
            by_cases q3 : tupB x 2 2 = true
            · obtain ⟨a, g, rfl⟩ := tup2 q3
              have c4 := t_fits_form (n := n + 2) (hx'.tup g (by simp)).ask1
              rw [q3] at c3
              simp only [vstep, ↓reduceIte, id, c3, ix1, c4, q3]
            · have q3 : tupB x 2 2 = false := by simpa using q3
              rw [q3] at c3
              simp only [vstep, ↓reduceIte, id, c3, q3]
          · simp only [vstep, ↓reduceIte, map_bl, all_id]
            by_cases ha : xs.all pairB = true
            · simp only [vstep, ↓reduceIte, ha, ix1]
              rw [map_id_loop]
              have hpl : Plain (.tup (xs.map fstE)) := Plain.ofAll (fun y hy => by
                obtain ⟨x, hx, rfl⟩ := List.mem_map.mp hy
                obtain ⟨a, g, rfl, _⟩ := pairB_tup (List.all_eq_true.mp ha x hx)
                exact (hp.tup _ hx).tup a (by simp)) (by rw [List.length_map]; exact hll)
              refine W_map (g := fstE) ?_ hll (by rfl) ?_
              · intro x hx
                obtain ⟨a, g, rfl, _⟩ := pairB_tup (List.all_eq_true.mp ha x hx)
                simp only [vstep, ↓reduceIte, id, fstE]
              · have c5 := t_fits_growing_shape (n := n) hpl
                simp only [vstep, ↓reduceIte, c5, W_eq, q]
            · have ha : xs.all pairB = false := by simpa using ha
              simp only [vstep, ↓reduceIte, ha, W_eq, q]
        | _ => cases q2
      · have q2 : tupB ps 0 16 = false := by simpa using q2
        simp only [vstep, ↓reduceIte, q2, W_eq, q]
    · have q1 : formB f = false := by simpa using q1
      simp only [vstep, ↓reduceIte, q1, W_eq, q]
  · have q : tupB d 2 2 = false := by simpa using q
    rw [q] at c
    simp only [vstep, ↓reduceIte, c, W_eq, q]
end LW
set_option Elab.async false
set_option linter.all false
set_option maxRecDepth 100000
/-! LgForm: the law's own forms, sizes. -/
namespace LW
open PySem VS VT K80
theorem t_lnumber {n : Nat} (is : List Int) (h : ∀ i ∈ is, i.natAbs < 18446744073709551616) (s : VS.D) (hs : s = .lst (is.map D.int) ∨ s = .tup (is.map D.int)) : run P (n + 1) i__law_number [s] = .ok (.int (is.foldl (· * ·) 1)) := by
  have key : ∀ s : VS.D, W (fun m => outE none m = .ok (.int (is.foldl (· * ·) 1))) ((forLoop (forB (run P n) false (.n 2) (.cons (.asg (.n 1) (.op .mul (.cons (.pk 1) (.cons (.pk 2) .nil)))) .nil)) (is.map D.int) [.val s, .val (.int 1), .no]).to (seqK (run P n) false (.cons (.ret (.var 1)) .nil))) := fun s => by
    refine W_for (fun p ρ => ∃ o, ρ = [.val s, .val (.int (p.foldl (· * ·) 1)), jk o]) ⟨none, rfl⟩ ?_ ?_
    · rintro p a post hp ρ ⟨o, rfl⟩
      have hm := mulOk_r (i := p.foldl (· * ·) 1) (h a (pfx hp).1)
      simp only [vstep, ↓reduceIte, hm]
      exact LQ_nx ⟨some (.int a), by rw [List.foldl_append] <;> rfl⟩
    · rintro ρ ⟨o, rfl⟩
      simp only [vstep, ↓reduceIte, W_eq]
  refine W_runE rfl rfl ?_
  rcases hs with rfl | rfl
  · simp only [vstep, ↓reduceIte]
    exact key _
  · simp only [vstep, ↓reduceIte]
    exact key _
/-- range(k) -/
theorem rngD_nat (k : Nat) : rngD 0 (k : Int) = (List.range k).map fun i : Nat => D.int (i : Int) := by
  unfold rngD
  rw [Int.sub_zero, Int.toNat_natCast]
  refine List.map_congr_left fun i _ => ?_
  rw [Int.zero_add]
theorem rngOk_nat {k : Nat} (h : k < 1000000000) : rngOk 0 (k : Int) = true := rngOk_of (by decide) (by decide) (by omega) (by omega)
theorem Lt.pow {a : Nat} {m : Int} (h : Lt a m) : ∀ k : Nat, Lt (a * k + 1) (m ^ k)
  | 0 => by rw [Int.pow_zero, Nat.mul_zero]; unfold Lt; decide
  | k + 1 => by
    rw [Int.pow_succ]
    exact Lt.mono ((Lt.pow h k).mul h) (by rw [Nat.mul_succ]; omega)
theorem t_power {n a : Nat} {m : Int} {k : Nat} (hm : Lt a m) (hk : k < 1000) (ha : a < 500) : run P (n + 1) i__law_power [.int m, .int (k : Int)] = .ok (.int (m ^ k)) := by
  refine W_runE rfl rfl ?_
  simp only [vstep, ↓reduceIte, rngOk_nat (show k < 1000000000 by omega), rngD_nat]
  refine W_for (fun p ρ => ∃ o, ρ = [.val (.int m), .val (.int (k : Int)), .val (.int (m ^ p.length)), jk o]) ⟨none, by rw [List.length_nil, Int.pow_zero] <;> rfl⟩ ?_ ?_
  · rintro p x post hp ρ ⟨o, rfl⟩
    have hl := (pfx hp).2
    rw [List.length_range] at hl
    have hmul : mulOk (m ^ p.length) m = true := mulOk_of (Lt.pow hm p.length) hm (by
      have : a * p.length ≤ 500 * 1000 := Nat.mul_le_mul (by omega) (by omega)
      omega)
    simp only [vstep, ↓reduceIte, hmul]
    exact LQ_nx ⟨some (.int x), by rw [List.length_append, List.length_singleton, Int.pow_succ] <;> rfl⟩
  · rintro ρ ⟨o, rfl⟩
    simp only [vstep, ↓reduceIte, W_eq, List.length_range]
theorem sum_ev (m : Int) : ∀ (cs : List Int) (k : Nat), ((cs.zipIdx k).map fun p => p.1 * m ^ p.2).sum = m ^ k * ev cs m
  | [], k => by simp [ev]
  | c :: cs, k => by
    rw [List.zipIdx_cons, List.map_cons, List.sum_cons, sum_ev m cs (k + 1), Int.pow_succ]
    show c * m ^ k + m ^ k * m * ev cs m = m ^ k * (c + m * ev cs m)
    rw [Int.mul_add, Int.mul_comm c, Int.mul_assoc]
theorem t_value {n a : Nat} {cs : List Int} {m : Int} (hm : Lt a m) (hc : Bd a cs) (ha : a < 300) (hl : cs.length < 1000) : run P (n + 2) i__law_value [tupI cs, .int m] = .ok (.int (ev cs m)) := by
  refine W_runE rfl rfl ?_
  unfold tupI
  simp only [vstep, ↓reduceIte, enmD_enc]
  refine W_map (g := fun p => .int (p.1 * m ^ p.2)) ?_ (by rw [List.length_zipIdx]; unfold lineN; omega) (by rfl) ?_
  · rintro ⟨c, k⟩ hp
    obtain ⟨h1, h2, h3⟩ := List.mem_zipIdx hp
    have hk : k < 1000 := by omega
    have c1 := t_power (n := n) (k := k) hm hk (by omega)
    have hcc : c ∈ cs := by
      have h3' : c = cs[k - 0]'(by omega) := h3
      rw [h3']; exact List.getElem_mem _
    have hmul : mulOk c (m ^ k) = true := mulOk_of (hc c hcc) (Lt.pow hm k) (by
      have : a * k ≤ 300 * 1000 := Nat.mul_le_mul (by omega) (by omega)
      omega)
    simp only [vstep, ↓reduceIte, c1, hmul]
  · have e : (cs.zipIdx.map fun p => D.int (p.1 * m ^ p.2)) = (cs.zipIdx.map fun p => p.1 * m ^ p.2).map D.int := by rw [List.map_map] <;> rfl
    simp only [vstep, ↓reduceIte, e, W_eq, sum_ev, Int.pow_zero, Int.one_mul]
/-- the law's lean -/
theorem trim_ge (is : List Int) : ∀ (m k : Nat), k < m → is.getD k 0 ≠ 0 → k < trim is m
  | 0, k, h, _ => absurd h (Nat.not_lt_zero _)
  | m + 1, k, h, hk => by
    unfold trim
    split
    · rename_i z
      rcases Nat.lt_or_eq_of_le (Nat.le_of_lt_succ h) with q | q
      · exact trim_ge is m k q hk
      · rw [q] at hk; exact absurd z hk
    · exact h
theorem non_drop (is : List Int) (a : Nat) : ((is.drop a).filter fun x => !(x == 0)) ≠ [] ↔ a < trim is is.length := by
  constructor
  · intro h
    obtain ⟨x, hx⟩ := List.exists_mem_of_ne_nil _ h
    obtain ⟨hx1, hx2⟩ := List.mem_filter.mp hx
    obtain ⟨i, hi, rfl⟩ := List.getElem_of_mem hx1
    rw [List.length_drop] at hi
    rw [List.getElem_drop] at hx2
    have := trim_ge is is.length (a + i) (by omega) (by
      rw [List.getD_eq_getElem?_getD, List.getElem?_eq_getElem (by omega)]
      simpa using hx2)
    omega
  · intro h w
    obtain ⟨k, hk⟩ : ∃ k, trim is is.length = k + 1 := ⟨trim is is.length - 1, by omega⟩
    have h1 := trim_last is is.length k hk
    have h2 := trim_le is is.length
    have h3 : is.getD k 0 ∈ (is.drop a).filter fun x => !(x == 0) := by
      refine List.mem_filter.mpr ⟨?_, by simpa using h1⟩
      rw [List.getD_eq_getElem?_getD, List.getElem?_eq_getElem (by omega)]
      have : is[k]'(by omega) = (is.drop a)[k - a]'(by rw [List.length_drop]; omega) := by
        rw [List.getElem_drop]; congr 1; omega
      show is[k]'(by omega) ∈ _
      rw [this]
      exact List.getElem_mem _
    rw [w] at h3
    nomatch h3
theorem filter_lt (t : Nat) : ∀ m : Nat, ((List.range m).filter fun a => decide (a < t)).length = min t m
  | 0 => by simp
  | m + 1 => by
    rw [List.range_succ, List.filter_append, List.length_append, filter_lt t m]
    by_cases h : m < t
    · rw [List.filter_cons, if_pos (by simpa using h)]; simp; omega
    · rw [List.filter_cons, if_neg (by simpa using h)]; simp; omega
theorem eqvs_nil_r (l : List VS.D) : D.eqvs l [] = l.isEmpty := by
  cases l with
  | nil => rw [e_nil]
  | cons a l => rw [e_nc]; rfl
theorem t_llean {n : Nat} {is : List Int} (hl : is.length < 1000000) : run P (n + 1) i__law_lean [.lst (is.map D.int)] = .ok (tupI (lean0 is)) := by
  refine W_runE rfl rfl ?_
  simp only [vstep, ↓reduceIte, List.length_map, rngOk_nat (show is.length < 1000000000 by omega), rngD_nat]
  refine W_filter (p := fun a => decide (a < trim is is.length)) (g := fun _ => .int 1) ?_ (by rw [List.length_range]; unfold lineN; omega) (by rfl) ?_
  · intro a ha
    have ha := List.mem_range.mp ha
    simp only [vstep, ↓reduceIte]
    have hd : cutD (is.map D.int) (some (a : Int)) none = (is.drop a).map D.int := by rw [cut_drop, List.map_drop]
    simp only [vstep, ↓reduceIte, hd]
    show W (· = _) _
    refine W_filter (p := fun x => !(x == 0)) (g := D.int) ?_ (by rw [List.length_drop]; unfold lineN; omega) (by rfl) ?_
    · intro x _
      simp only [vstep, ↓reduceIte]
      by_cases z : x = 0
      · have : (x == 0) = true := by simpa using z
        simp only [vstep, ↓reduceIte, this]
      · have : (x == 0) = false := by simpa using z
        simp only [vstep, ↓reduceIte, this]
    · have hnd := non_drop is a
      generalize hL : (is.drop a).filter (fun x => !(x == 0)) = L at hnd
      simp only [vstep, ↓reduceIte, hL, fines_ints, eqvs_nil_r]
      by_cases z : a < trim is is.length
      · have hne := hnd.mpr z
        have : (L.map D.int).isEmpty = false := by
          cases L with
          | nil => exact absurd rfl hne
          | cons _ _ => rfl
        simp only [vstep, ↓reduceIte, this, z, W_eq]
      · have : L = [] := Classical.byContradiction fun w => z (hnd.mp w)
        subst this
        simp only [vstep, ↓reduceIte, List.map_nil, List.isEmpty_nil, z, W_eq]
  · have e : (((List.range is.length).filter fun a => decide (a < trim is is.length)).map fun _ => D.int 1).length = trim is is.length := by
      rw [List.length_map, filter_lt, Nat.min_eq_left (trim_le _ _)]
    have ht := cut_take (is.map D.int) (k := trim is is.length) (by rw [List.length_map]; exact trim_le _ _)
    simp only [vstep, ↓reduceIte, e, ht, W_eq]
    unfold tupI lean0
    rw [List.map_take]
end LW
set_option Elab.async false
set_option linter.all false
set_option maxRecDepth 100000
/-! LgForm2: the law's draws of sizes and forms. -/
namespace LW
open PySem VS VT K80
theorem foldl_mul (l : List Int) : ∀ a : Int, l.foldl (· * ·) a = a * l.foldl (· * ·) 1 := by
  induction l with
  | nil => intro a; simp
  | cons x l ih => intro a; rw [List.foldl_cons, List.foldl_cons, ih (a * x), ih (1 * x), Int.one_mul, Int.mul_assoc]
theorem prod_app (l : List Int) (x : Int) : (l ++ [x]).foldl (· * ·) 1 = l.foldl (· * ·) 1 * x := by
  rw [List.foldl_append] <;> rfl
theorem prod_pos : ∀ (l : List Int), (∀ x ∈ l, 1 ≤ x) → 1 ≤ l.foldl (· * ·) 1
  | [], _ => Int.le_refl _
  | x :: l, h => by
    rw [List.foldl_cons, Int.one_mul, foldl_mul]
    have h1 := h x List.mem_cons_self
    have h2 := prod_pos l fun y hy => h y (List.mem_cons_of_mem _ hy)
    exact Int.le_trans (by decide) (Int.mul_le_mul h1 h2 (by decide) (by omega))
theorem prod_le_pow {b : Int} (hb : 1 ≤ b) : ∀ (l : List Int), (∀ x ∈ l, 1 ≤ x ∧ x ≤ b) → l.foldl (· * ·) 1 ≤ b ^ l.length
  | [], _ => by simp
  | x :: l, h => by
    rw [List.foldl_cons, Int.one_mul, foldl_mul, List.length_cons, Int.pow_succ, Int.mul_comm]
    have h1 := h x List.mem_cons_self
    have h2 := prod_le_pow hb l fun y hy => h y (List.mem_cons_of_mem _ hy)
    have h3 := prod_pos l fun y hy => (h y (List.mem_cons_of_mem _ hy)).1
    exact Int.mul_le_mul h2 h1.2 (by omega) (Int.le_trans (by omega) (Int.le_trans h3 h2))
/-- random sizes -/
theorem t_sizes {n : Nat} (c : Cup) {most : Int} (hm : 1 ≤ most) : ∃ (ss : List Int) (c' : Cup), run P (n + 3) i__law_sizes [c.D, .int most] = .oki (tupI ss) c'.D ∧ (∀ s ∈ ss, 1 ≤ s ∧ s ≤ 6) ∧ ss.foldl (· * ·) 1 ≤ most ∧ ss.length ≤ 5 := by
  refine W_run (Q := fun r => ∃ (ss : List Int) (c' : Cup), r = .oki (tupI ss) c'.D ∧ (∀ s ∈ ss, 1 ≤ s ∧ s ≤ 6) ∧ ss.foldl (· * ·) 1 ≤ most ∧ ss.length ≤ 5) rfl rfl ?_
  obtain ⟨k, hk, c1, e1⟩ := t_some (n := n) (enc := D.int) c [0, 1, 2, 2, 3, 3, 4, 5] (by simp) (by simp)
  simp only [List.map_cons, List.map_nil] at e1
  have hk0 : 0 ≤ k ∧ k ≤ 5 := by
    simp only [List.mem_cons, List.not_mem_nil, or_false] at hk
    omega
  obtain ⟨k, rfl⟩ : ∃ m : Nat, k = m := ⟨k.toNat, by omega⟩
  simp only [vstep, ↓reduceIte, e1, Cup.inner, rngOk_nat (show k < 1000000000 by omega), rngD_nat]
  refine W_for (fun p ρ => ∃ (ss : List Int) (c' : Cup) (o1 o2 : Option VS.D), ρ = [.io c'.D, .val (.int most), .own (.lst (ss.map D.int)), jk o1, jk o2] ∧ (∀ s ∈ ss, 1 ≤ s ∧ s ≤ 6) ∧ ss.foldl (· * ·) 1 ≤ most ∧ ss.length ≤ p.length) ⟨[], c1, none, none, rfl, (fun _ h => nomatch h), hm, Nat.le_refl _⟩ ?_ ?_
  · rintro p x post hp ρ ⟨ss, c', o1, o2, rfl, h1, h2, h3⟩
    have hl := (pfx hp).2
    rw [List.length_range] at hl
    obtain ⟨z, hz, c2, e2⟩ := t_some (n := n) (enc := D.int) c' [1, 2, 2, 2, 3, 3, 4, 5, 6] (by simp) (by simp)
    simp only [List.map_cons, List.map_nil] at e2
    have hz0 : 1 ≤ z ∧ z ≤ 6 := by
      simp only [List.mem_cons, List.not_mem_nil, or_false] at hz
      omega
    have e3 := t_lnumber (n := n + 1) ss (fun i hi => by have := h1 i hi; omega) _ (.inl rfl)
    have hmul : mulOk (ss.foldl (· * ·) 1) z = true := mulOk_r (by omega)
    simp only [vstep, ↓reduceIte, e2, Cup.inner, e3, hmul]
    by_cases q : ss.foldl (· * ·) 1 * z ≤ most
    · have hlen : (ss.map D.int).length < lineN := by rw [List.length_map]; unfold lineN; omega
      simp only [vstep, ↓reduceIte, q, hlen]
      refine LQ_nx ⟨ss ++ [z], c2, some (.int x), some (.int z), by rw [List.map_append] <;> rfl, fun s hs => ?_, by rw [prod_app]; exact q, by simp; omega⟩
      rcases List.mem_append.mp hs with h | h
      · exact h1 s h
      · rw [List.mem_singleton.mp h]; exact hz0
    · simp only [vstep, ↓reduceIte, q]
      exact LQ_nx ⟨ss, c2, some (.int x), some (.int z), rfl, h1, h2, by simp; omega⟩
  · rintro ρ ⟨ss, c', o1, o2, rfl, h1, h2, h3⟩
    simp only [vstep, ↓reduceIte]
    rw [List.length_range] at h3
    exact ⟨ss, c', rfl, h1, h2, by omega⟩
/-- a random form -/
theorem t_form {n k : Nat} (c : Cup) (hk : k < 100) : ∃ (f : List Int) (c' : Cup), run P (n + 3) i__law_form [c.D, .int (k : Int)] = .oki (tupI f) c'.D ∧ IsLean f ∧ f.length ≤ k ∧ Bd 4 f := by
  refine W_run (Q := fun r => ∃ (f : List Int) (c' : Cup), r = .oki (tupI f) c'.D ∧ IsLean f ∧ f.length ≤ k ∧ Bd 4 f) rfl rfl ?_
  obtain ⟨r, c1, e1, r0, r1⟩ := t_roll (n := n + 1) c (many := (k : Int) + 1) (by omega) (by omega)
  obtain ⟨r, rfl⟩ : ∃ m : Nat, r = m := ⟨r.toNat, by omega⟩
  simp only [vstep, ↓reduceIte, e1, Cup.inner, rngOk_nat (show r < 1000000000 by omega), rngD_nat]
  refine W_compI (eo := D.int) (fun p o ρ => ∃ c' : Cup, ρ = [.io c'.D, .val (.int (k : Int)), .no] ∧ o.length = p.length ∧ Bd 4 o) ⟨c1, rfl, rfl, fun _ h => nomatch h⟩ ?_ ?_ (by rfl) ?_
  · rintro p x post hp o ρ ⟨c', rfl, h1, h2⟩
    obtain ⟨z, hz, c2, e2⟩ := t_some (n := n) (enc := D.int) c' [0, 1, 1, -1, 2, 3, -2, 4, 6, 12, -5] (by simp) (by simp)
    simp only [List.map_cons, List.map_nil] at e2
    have hz0 : Lt 4 z := by
      simp only [List.mem_cons, List.not_mem_nil, or_false] at hz
      unfold Lt
      omega
    simp only [vstep, ↓reduceIte, e2, Cup.inner]
    refine CQ_some z ⟨c2, rfl, by simp; omega, fun y hy => ?_⟩
    rcases List.mem_append.mp hy with h | h
    · exact h2 y h
    · rw [List.mem_singleton.mp h]; exact hz0
  · rintro ys ρ ⟨c', rfl, h1, h2⟩
    rw [List.length_range] at h1
    unfold lineN; omega
  · rintro ys ρ ⟨c', rfl, h1, h2⟩
    rw [List.length_range] at h1
    have e3 := t_llean (n := n + 1) (is := ys) (by omega)
    have hnm : (tupI (lean0 ys)).noMut = true := by unfold tupI; rw [nm_tup, nms_ints]
    simp only [vstep, ↓reduceIte, e3, hnm]
    exact ⟨lean0 ys, c', rfl, lean0_lean ys, Nat.le_trans (lean0_le ys) (by omega), fun x hx => h2 x (mem_lean0 hx)⟩
/-- a form times a size -/
def timesF (f : List Int) (s : Int × Int) : List Int := (if s.2 = 1 ∧ f ≠ [] then 0 :: f else f).map (· * s.1)
theorem t_times {n : Nat} {f : List Int} {s : Int × Int} (hl : f.length < 1000) (hs : okS s) : run P (n + 1) i__law_times [tupI f, pI s] = .ok (tupI (timesF f s)) := by
  refine W_runE rfl rfl ?_
  have hs1 : s.1.natAbs < 18446744073709551616 := by unfold okS at hs; omega
  have body : ∀ g : List Int, g.length < 2000 → W (fun m => outE none m = .ok (tupI (g.map (· * s.1)))) ((compEnd [2] [.val (tupI f), .val (pI s), .no] (compLoop (compB (run P n) (.op .mul (.cons (.pk 2) (.cons (.op .idx (.cons (.pk 1) (.cons (.cst (.int 0)) .nil))) .nil))) (.n 2) .nil [2]) (g.map D.int) (wipeE [.val (tupI f), .val (pI s), .no] [2]))).to (thK (thK (thK (thK inlK (osJ (run P n) .nil)) (opD .tuple)) retK0) (seqK (run P n) false .nil))) := fun g hg => by
    refine W_map (g := fun i => .int (i * s.1)) ?_ (by unfold lineN; omega) (by rfl) ?_
    · intro i _
      have hm : mulOk i s.1 = true := mulOk_r hs1
      simp only [pI, vstep, ↓reduceIte, ix0, hm]
    · simp only [vstep, ↓reduceIte, W_eq]
      unfold tupI
      rw [List.map_map] <;> rfl
  unfold timesF
  by_cases q1 : s.2 = 1
  · by_cases q2 : f = []
    · subst q2
      rw [if_neg (by simp)]
      have := body [] (by simp)
      simp only [tupI, pI, List.map_nil] at this ⊢
      simp only [vstep, ↓reduceIte, ix1, q1, List.isEmpty_nil, ix0] at this ⊢
      exact this
    · rw [if_pos ⟨q1, q2⟩]
      have := body (0 :: f) (by simp; omega)
      have e : (f.map D.int).isEmpty = false := by
        cases f with
        | nil => exact absurd rfl q2
        | cons a l => rfl
      have hlen : 0 + 1 + f.length ≤ lineN := by unfold lineN; omega
      simp only [tupI, pI, List.map_cons] at this ⊢
      simp only [vstep, ↓reduceIte, ix1, q1, fines_ints, eqvs_nil_r, e, List.length_map, hlen, List.cons_append, List.nil_append, ix0] at this ⊢
      exact this
  · rw [if_neg (by simp [q1])]
    have := body f (by omega)
    simp only [tupI, pI] at this ⊢
    simp only [vstep, ↓reduceIte, ix1, q1, ix0] at this ⊢
    exact this
end LW
set_option Elab.async false
set_option linter.all false
set_option maxRecDepth 100000
/-! LgGrow2: growing walks: the law's draw, values. -/
namespace LW
open PySem VS VT K80
def pairD (p : (Int × Int) × List Int) : VS.D := .tup [pI p.1, tupI p.2]
abbrev GW := List Int × List ((Int × Int) × List Int)
def gD (g : GW) : VS.D := .tup [tupI g.1, .tup (g.2.map pairD)]
def okF (f : List Int) : Prop := IsLean f ∧ f.length ≤ 4
def okPs (ps : List ((Int × Int) × List Int)) : Prop := (∀ q ∈ ps, okF q.2 ∧ okS q.1) ∧ ps.length ≤ 16 ∧ (ps.map (·.1.2)).sum ≤ 1 ∧ (ps.map (·.1.1)).foldl (· * ·) 1 ≤ 5000
def okG (g : GW) : Prop := okF g.1 ∧ okPs g.2
theorem pl_tupI (f : List Int) (k : Nat) (h : f.length ≤ lineN) : D.pl (k + 1) (tupI f) = true := by
  unfold tupI
  rw [pl_tup, pls_map fun a => pl_int k a, List.length_map, decide_eq_true h] <;> rfl
theorem pl_pI (s : Int × Int) (k : Nat) : D.pl (k + 1) (pI s) = true := by
  unfold pI
  rw [pl_tup, pls_cons, pls_cons, pls_nil, pl_int, pl_int] <;> simp [lineN]
theorem pl_pairD (p : (Int × Int) × List Int) (k : Nat) (h : p.2.length ≤ lineN) : D.pl (k + 2) (pairD p) = true := by
  unfold pairD
  rw [pl_tup, pls_cons, pls_cons, pls_nil, pl_pI, pl_tupI _ _ h] <;> simp [lineN]
theorem pl_gD (g : GW) (k : Nat) (h1 : g.1.length ≤ lineN) (h2 : g.2.length ≤ lineN) (h3 : ∀ p ∈ g.2, p.2.length ≤ lineN) : D.pl (k + 4) (gD g) = true := by
  unfold gD
  rw [pl_tup, pls_cons, pls_cons, pls_nil, pl_tupI _ _ h1, pl_tup, pls_mapM _ fun p hp => pl_pairD p k (h3 p hp), List.length_map, decide_eq_true h2] <;> simp [lineN]
theorem formB_tupI {f : List Int} : formB (tupI f) = true ↔ okF f := by
  unfold formB tupI okF
  simp only [Bool.and_eq_true, decide_eq_true_eq, List.length_map]
  have ha : (f.map D.int).all D.isInt = true := by
    rw [List.all_map]
    exact List.all_eq_true.mpr fun _ _ => rfl
  have hl : lastN0 (f.map D.int) = true ↔ IsLean f := by
    rcases List.eq_nil_or_concat f with rfl | ⟨g, c, rfl⟩
    · refine ⟨fun _ k h => by simp at h, fun _ => rfl⟩
    · rw [List.concat_eq_append]
      unfold lastN0
      rw [List.map_append, List.map_cons, List.map_nil, ixl]
      show (!D.eqv (.int c) (.int 0)) = true ↔ _
      rw [e_int]
      constructor
      · intro h k hk
        rw [List.length_append, List.length_singleton] at hk
        have : g.length = k := by omega
        subst this
        rw [List.getD_eq_getElem?_getD, List.getElem?_append_right (Nat.le_refl _), Nat.sub_self]
        simpa using h
      · intro h
        have := h g.length (by simp)
        rw [List.getD_eq_getElem?_getD, List.getElem?_append_right (Nat.le_refl _), Nat.sub_self] at this
        simpa using this
  rw [hl]
  constructor
  · rintro ⟨h1, _, h2⟩; exact ⟨h2, by omega⟩
  · rintro ⟨h1, h2⟩; exact ⟨by omega, ha, h1⟩
theorem pairB_pairD {p : (Int × Int) × List Int} : pairB (pairD p) = true ↔ okF p.2 := by
  rw [← formB_tupI]
  unfold pairB pairD
  simp only [tupB, List.length_cons, List.length_nil, Bool.and_eq_true, decide_eq_true_eq]
  constructor
  · exact fun h => h.2
  · exact fun h => ⟨by decide, h⟩
theorem shapeB_pI {ss : List (Int × Int)} : shapeB (.tup (ss.map pI)) = true ↔ ss.length ≤ 16 ∧ (∀ s ∈ ss, okS s) ∧ (ss.map (·.2)).sum ≤ 1 ∧ (ss.map (·.1)).foldl (· * ·) 1 ≤ 5000 := by
  unfold shapeB
  have e2 : (ss.map pI).map sndD = ss.map (·.2) := by rw [List.map_map] <;> rfl
  have e3 : (ss.map pI).map fstD = ss.map (·.1) := by rw [List.map_map] <;> rfl
  simp only [Bool.and_eq_true, decide_eq_true_eq, List.length_map, e2, e3]
  have : (ss.map pI).all sizeB = true ↔ ∀ s ∈ ss, okS s := by
    rw [List.all_map, List.all_eq_true]
    exact ⟨fun h s hs => sizeB_pI.mp (h s hs), fun h s hs => sizeB_pI.mpr (h s hs)⟩
  rw [this]
  constructor
  · rintro ⟨h1, h2, h3, h4⟩; exact ⟨by omega, h2, h3, h4⟩
  · rintro ⟨h1, h2, h3, h4⟩; exact ⟨by omega, h2, h3, h4⟩
theorem growB_gD {g : GW} : growB (gD g) = true ↔ okG g := by
  have e1 : (g.2.map pairD).map fstE = (g.2.map (·.1)).map pI := by rw [List.map_map, List.map_map] <;> rfl
  have e2 : (g.2.map (·.1)).map (·.2) = g.2.map (·.1.2) := by rw [List.map_map] <;> rfl
  have e3 : (g.2.map (·.1)).map (·.1) = g.2.map (·.1.1) := by rw [List.map_map] <;> rfl
  have ha : (g.2.map pairD).all pairB = true ↔ ∀ p ∈ g.2, okF p.2 := by
    rw [List.all_map, List.all_eq_true]
    exact ⟨fun h s hs => pairB_pairD.mp (h s hs), fun h s hs => pairB_pairD.mpr (h s hs)⟩
  unfold growB gD okG okPs
  simp only [tupB, List.length_cons, List.length_nil, Bool.and_eq_true, decide_eq_true_eq, formB_tupI, List.length_map, e1, shapeB_pI, e2, e3, ha]
  constructor
  · rintro ⟨_, h1, ⟨_, h2⟩, h3, h4, h5, h6, h7⟩
    exact ⟨h1, fun q hq => ⟨h3 q hq, h5 q.1 (List.mem_map.mpr ⟨q, hq, rfl⟩)⟩, by omega, h6, h7⟩
  · rintro ⟨h1, h2, h3, h4, h5⟩
    refine ⟨by decide, h1, ⟨by omega, by omega⟩, fun q hq => (h2 q hq).1, h3, fun s hs => ?_, h4, h5⟩
    obtain ⟨q, hq, rfl⟩ := List.mem_map.mp hs
    exact (h2 q hq).2
theorem okG.pl {g : GW} (h : okG g) : D.pl 4 (gD g) = true := pl_gD g 0 (by have := h.1.2; unfold lineN; omega) (by have := h.2.2.1; unfold lineN; omega) fun p hp => by have := (h.2.1 p hp).1.2; unfold lineN; omega
theorem okG.plain {g : GW} (h : okG g) : Plain (gD g) := ⟨4, h.pl⟩
/-- what a growing walk is at a value -/
def sizeAt (s : Int × Int) (m : Int) : Int := if s.2 = 1 then s.1 * m else s.1
def walkAt (g : GW) (m : Int) : Int × List (Int × Int) := (ev g.1 m, g.2.map fun p => (sizeAt p.1 m, ev p.2 m))
def wD (w : Int × List (Int × Int)) : VS.D := .tup [.int w.1, .tup (w.2.map pI)]
theorem t_size_at {n : Nat} {s : Int × Int} {m : Int} (hs : okS s) : run P (n + 1) i_size_at [pI s, .int m] = .ok (.int (sizeAt s m)) := by
  refine W_runE rfl rfl ?_
  have hm : mulOk s.1 m = true := mulOk_l (by unfold okS at hs; omega)
  unfold sizeAt pI
  simp only [vstep, ↓reduceIte, ix0, ix1]
  by_cases q : s.2 = 1
  · simp only [vstep, ↓reduceIte, q, ix0, hm, W_eq]
  · simp only [vstep, ↓reduceIte, q, ix0, W_eq]
theorem t_walk_in {n e : Nat} {g : GW} {m : Int} (hm : Lt e m) (h1 : Bd e g.1) (h2 : ∀ p ∈ g.2, Bd e p.2) (h3 : g.1.length ≤ 4) (h4 : ∀ p ∈ g.2, p.2.length ≤ 4 ∧ okS p.1) (h5 : g.2.length ≤ 100) (he : e ≤ 10000) : run P (n + 2) i_walk_in [gD g, .int m] = .ok (wD (walkAt g m)) := by
  refine W_runE rfl rfl ?_
  have hz : ∀ f : List Int, f.length ≤ 4 → (f.length + 1) * (2 * e + 2) < 900000 := fun f hf => by
    have : (f.length + 1) * (2 * e + 2) ≤ 5 * (2 * 10000 + 2) := Nat.mul_le_mul (by omega) (by omega)
    omega
  have c1 := t12 n e g.1 m hm h1 (hz _ h3)
  unfold gD
  simp only [vstep, ↓reduceIte, c1]
  refine W_map (g := fun p => pI (sizeAt p.1 m, ev p.2 m)) ?_ (by unfold lineN; omega) (by rfl) ?_
  · intro p hp
    have c2 := t12 n e p.2 m hm (h2 p hp) (hz _ (h4 p hp).1)
    have c3 := t_size_at (n := n) (m := m) (h4 p hp).2
    unfold pairD
    simp only [vstep, ↓reduceIte, c2, c3]
    rfl
  · simp only [vstep, ↓reduceIte, W_eq]
    unfold wD walkAt
    rw [List.map_map] <;> rfl
theorem t_product_of {n : Nat} (ss : List (Int × Int)) (h : ∀ s ∈ ss, okS s) (hl : ss.length ≤ 100) (d : VS.D) (hd : d = .lst (ss.map pI) ∨ d = .tup (ss.map pI)) : run P (n + 2) i_product_of [d] = .ok (pI ((ss.map (·.1)).foldl (· * ·) 1, (ss.map (·.2)).sum)) := by
  have c3 := t_number_in (n := n) (ss.map (·.1)) (fun i hi => by
    obtain ⟨s, hs', rfl⟩ := List.mem_map.mp hi
    have := h s hs'
    unfold okS at this
    omega) _ (.inl rfl)
  have e1 : ss.map (fun s => D.int s.2) = (ss.map (·.2)).map D.int := by rw [List.map_map] <;> rfl
  have e4 : ss.map (fun s => D.int s.1) = (ss.map (·.1)).map D.int := by rw [List.map_map] <;> rfl
  have hll : ss.length ≤ lineN := by unfold lineN; omega
  refine W_runE rfl rfl ?_
  rcases hd with rfl | rfl
  · simp only [vstep, ↓reduceIte]
    refine W_map (g := fun s => .int s.1) ?_ hll (by rfl) ?_
    · intro s _
      simp only [pI, vstep, ↓reduceIte, ix0]
    · simp only [vstep, ↓reduceIte, e4, c3]
      refine W_map (g := fun s => .int s.2) ?_ hll (by rfl) ?_
      · intro s _
        simp only [pI, vstep, ↓reduceIte, ix1]
      · simp only [vstep, ↓reduceIte, e1, W_eq, pI]
  · simp only [vstep, ↓reduceIte]
    refine W_map (g := fun s => .int s.1) ?_ hll (by rfl) ?_
    · intro s _
      simp only [pI, vstep, ↓reduceIte, ix0]
    · simp only [vstep, ↓reduceIte, e4, c3]
      refine W_map (g := fun s => .int s.2) ?_ hll (by rfl) ?_
      · intro s _
        simp only [pI, vstep, ↓reduceIte, ix1]
      · simp only [vstep, ↓reduceIte, e1, W_eq, pI]
theorem t_need_growing {n : Nat} {g : GW} (h : okG g) : run P (n + 6) i_need_growing [gD g] = .ok .non := by
  refine W_runE rfl rfl ?_
  have c := t_fits_growing (n := n) h.plain
  rw [growB_gD.mpr h] at c
  simp only [vstep, ↓reduceIte, c, W_eq]
theorem t_need_value {n : Nat} {m : Int} (h1 : 1 ≤ m) (h2 : m ≤ 1000000000) : run P (n + 4) i_need_value [.int m] = .ok .non := by
  refine W_runE rfl rfl ?_
  have c := t_need_number (n := n) (d := .int m) (lo := 1) (hi := 1000000000) rfl (by simp only [numB, Bool.and_eq_true, decide_eq_true_eq]; exact ⟨h1, h2⟩)
  simp only [vstep, ↓reduceIte, c, W_eq]
theorem t_is_growing {n : Nat} {d : VS.D} (h : Plain d) : run P (n + 6) i_is_growing [d] = .ok (.bl (growB d)) := by
  refine W_runE rfl rfl ?_
  have c := t_fits_growing (n := n) h
  simp only [vstep, ↓reduceIte, c, W_eq]
theorem f_tupI (f : List Int) (n : Nat) : (tupI f).fine (n + 1) = true := by unfold tupI; rw [f_tup, fines_ints]
theorem eqv_tupI (f : List Int) : D.eqv (tupI f) (.tup []) = f.isEmpty := by
  unfold tupI
  rw [e_tup, eqvs_nil_r]
  cases f <;> rfl
theorem itK_tupI (l : List Int) (ρ : En) : itK (tupI l) ρ = .ok (l.map D.int) ρ := rfl
theorem nm_tupI (f : List Int) : (tupI f).noMut = true := by unfold tupI; rw [nm_tup, nms_ints]
theorem nm_pI (s : Int × Int) : (pI s).noMut = true := by unfold pI; rw [nm_tup, nms_cons, nms_cons, nms_nil, nm_int, nm_int] <;> rfl
theorem nm_pairD (p : (Int × Int) × List Int) : (pairD p).noMut = true := by unfold pairD; rw [nm_tup, nms_cons, nms_cons, nms_nil, nm_pI, nm_tupI] <;> rfl
theorem nm_gD (g : GW) : (gD g).noMut = true := by unfold gD; rw [nm_tup, nms_cons, nms_cons, nms_nil, nm_tupI, nm_tup, nms_map nm_pairD] <;> rfl
theorem nm_wD (w : Int × List (Int × Int)) : (wD w).noMut = true := by unfold wD; rw [nm_tup, nms_cons, nms_cons, nms_nil, nm_int, nm_tup, nms_map nm_pI] <;> rfl
theorem plain_tupI {f : List Int} (h : f.length ≤ 1000) : Plain (tupI f) := ⟨1, pl_tupI f 0 (by unfold lineN; omega)⟩
end LW
set_option Elab.async false
set_option linter.all false
set_option maxRecDepth 100000
/-! LgDrawG: the law's draw of a growing walk; its values. -/
namespace LW
open PySem VS VT K80
theorem timesF_lean {f : List Int} {s : Int × Int} (h : IsLean f) (hs : okS s) : IsLean (timesF f s) := by
  have hs1 : s.1 ≠ 0 := by unfold okS at hs; omega
  have key : ∀ g : List Int, IsLean g → IsLean (g.map (· * s.1)) := fun g hg k hk => by
    rw [List.length_map] at hk
    have := co_map s.1 g k
    unfold co at this
    rw [this]
    exact Int.mul_ne_zero (hg k hk) hs1
  unfold timesF
  split
  · rename_i q
    refine key _ fun k hk => ?_
    obtain ⟨j, rfl⟩ : ∃ j, k = j + 1 := ⟨k - 1, by
      have := List.length_pos_iff.mpr q.2
      rw [List.length_cons] at hk
      omega⟩
    exact h j (by rw [List.length_cons] at hk; omega)
  · exact key f h
theorem timesF_len (f : List Int) (s : Int × Int) : (timesF f s).length ≤ f.length + 1 := by
  unfold timesF
  rw [List.length_map]
  split
  · exact Nat.le_refl _
  · omega
theorem Bd.timesF {a b : Nat} {f : List Int} {s : Int × Int} (h : Bd a f) (hs : Lt b s.1) : Bd (a + b) (timesF f s) := fun c hc => by
  unfold LW.timesF at hc
  obtain ⟨x, hx, rfl⟩ := List.mem_map.mp hc
  refine Lt.mul ?_ hs
  split at hx
  · rcases List.mem_cons.mp hx with rfl | hx
    · exact Lt.zero a
    · exact h x hx
  · exact h x hx
/-- drawn sizes with at most one that grows -/
structure Szs (most : Int) (l : List (Int × Int)) : Prop where
  ok : ∀ s ∈ l, 1 ≤ s.1 ∧ s.1 ≤ 6 ∧ 0 ≤ s.2 ∧ s.2 ≤ 1
  sum : (l.map (·.2)).sum ≤ 1
  prod : (l.map (·.1)).foldl (· * ·) 1 ≤ most
  len : l.length ≤ 5
theorem sum_set0 : ∀ (l : List Int) (i : Nat), (∀ x ∈ l, x = 0) → (l.set i 1).sum ≤ 1
  | [], i, _ => by simp
  | x :: l, 0, h => by
    have h0 := h x List.mem_cons_self
    have : l.sum = 0 := by
      have : ∀ m : List Int, (∀ x ∈ m, x = 0) → m.sum = 0 := fun m => by
        induction m with
        | nil => intro _; rfl
        | cons y m ih => intro hm; rw [List.sum_cons, hm y List.mem_cons_self, ih fun z hz => hm z (List.mem_cons_of_mem _ hz)] <;> rfl
      exact this l fun y hy => h y (List.mem_cons_of_mem _ hy)
    rw [List.set_cons_zero, List.sum_cons, this] <;> simp
  | x :: l, i + 1, h => by
    rw [List.set_cons_succ, List.sum_cons, h x List.mem_cons_self, Int.zero_add]
    exact sum_set0 l i fun y hy => h y (List.mem_cons_of_mem _ hy)
theorem sum_zero : ∀ m : List Int, (∀ x ∈ m, x = 0) → m.sum = 0
  | [], _ => rfl
  | y :: m, hm => by rw [List.sum_cons, hm y List.mem_cons_self, sum_zero m fun z hz => hm z (List.mem_cons_of_mem _ hz)] <;> rfl
theorem szs0 {most : Int} {ss : List Int} (h1 : ∀ s ∈ ss, 1 ≤ s ∧ s ≤ 6) (h2 : ss.foldl (· * ·) 1 ≤ most) (h3 : ss.length ≤ 5) : Szs most (ss.map fun s => (s, 0)) where
  ok := fun s hs => by
    obtain ⟨x, hx, rfl⟩ := List.mem_map.mp hs
    have := h1 x hx
    exact ⟨this.1, this.2, Int.le_refl _, show (0 : Int) ≤ 1 by decide⟩
  sum := by
    rw [List.map_map, sum_zero _ fun x hx => ?_]
    · decide
    · obtain ⟨y, _, rfl⟩ := List.mem_map.mp hx; rfl
  prod := by
    rw [List.map_map, show ((fun p : Int × Int => p.1) ∘ fun s : Int => (s, (0 : Int))) = id from rfl, List.map_id]
    exact h2
  len := by rw [List.length_map]; exact h3
theorem szs1 {most : Int} {ss : List Int} (h1 : ∀ s ∈ ss, 1 ≤ s ∧ s ≤ 6) (h2 : ss.foldl (· * ·) 1 ≤ most) (h3 : ss.length ≤ 5) {i : Nat} {x : Int} (hx : ss[i]? = some x) : Szs most ((ss.map fun s => (s, (0 : Int))).set i (x, 1)) where
  ok := fun s hs => by
    rcases List.mem_or_eq_of_mem_set hs with h | rfl
    · exact (szs0 h1 h2 h3).ok s h
    · have := h1 x (List.mem_of_getElem? hx)
      exact ⟨this.1, this.2, show (0 : Int) ≤ 1 by decide, Int.le_refl _⟩
  sum := by
    rw [List.map_set]
    refine sum_set0 _ i fun y hy => ?_
    rw [List.map_map] at hy
    obtain ⟨z, _, rfl⟩ := List.mem_map.mp hy; rfl
  prod := by
    have : (ss.map fun s => (s, (0 : Int))).map (·.1) = ss := by
      rw [List.map_map, show ((fun p : Int × Int => p.1) ∘ fun s : Int => (s, (0 : Int))) = id from rfl, List.map_id]
    rw [List.map_set, this]
    have : ss.set i x = ss := by
      refine List.ext_getElem? fun j => ?_
      rw [List.getElem?_set]
      by_cases q : i = j
      · subst q
        have hi : i < ss.length := (List.getElem?_eq_some_iff.mp hx).1
        rw [if_pos rfl, if_pos hi, hx]
      · rw [if_neg q]
    rw [this]
    exact h2
  len := by rw [List.length_set, List.length_map]; exact h3
/-- drawn pairs -/
structure Prs (k : Nat) (ps : List ((Int × Int) × List Int)) : Prop where
  ok : ∀ q ∈ ps, IsLean q.2 ∧ q.2.length ≤ 3 ∧ Bd (4 + 3 * k) q.2
theorem Prs.snoc {k : Nat} {ps : List ((Int × Int) × List Int)} {s : Int × Int} {f : List Int} (h : Prs k ps) (h1 : IsLean f) (h2 : f.length ≤ 3) (h3 : Bd (4 + 3 * (k + 1)) f) : Prs (k + 1) (ps ++ [(s, f)]) where
  ok := fun q hq => by
    rcases List.mem_append.mp hq with h4 | h4
    · obtain ⟨a, b, c⟩ := h.ok q h4
      exact ⟨a, b, c.mono (by omega)⟩
    · rw [List.mem_singleton.mp h4]
      exact ⟨h1, h2, h3⟩
theorem fn_pI (s : Int × Int) (n : Nat) : (pI s).fine (n + 1) = true := by
  unfold pI
  rw [f_tup, f_cons, f_cons, f_nil, f_int, f_int] <;> rfl
theorem fn_pairD (p : (Int × Int) × List Int) (n : Nat) : (pairD p).fine (n + 2) = true := by
  unfold pairD
  rw [f_tup, f_cons, f_cons, f_nil, fn_pI, f_tupI] <;> rfl
theorem fines_pairs (ps : List ((Int × Int) × List Int)) : D.fines (ps.map pairD) 63 = true := fines_map (fun p => fn_pairD p 61) ps
theorem fines_pIs (ps : List (Int × Int)) : D.fines (ps.map pI) 63 = true := fines_map (fun p => fn_pI p 62) ps
/-- drawn growing walks -/
structure Drn (most : Int) (g : GW) : Prop where
  ok : okG g
  b1 : Bd 20 g.1
  b2 : ∀ p ∈ g.2, Bd 20 p.2
  l1 : g.1.length ≤ 2
  l2 : ∀ p ∈ g.2, p.2.length ≤ 3
  len : g.2.length ≤ 5
  six : ∀ p ∈ g.2, p.1.1 ≤ 6
  prod : (g.2.map (·.1.1)).foldl (· * ·) 1 ≤ most
theorem t_growing {n : Nat} (c : Cup) {most : Int} (h1 : 1 ≤ most) (h2 : most ≤ 5000) : ∃ (g : GW) (c' : Cup), run P (n + 4) i__law_growing [c.D, .int most] = .oki (gD g) c'.D ∧ Drn most g := by
  refine W_run (Q := fun r => ∃ (g : GW) (c' : Cup), r = .oki (gD g) c'.D ∧ Drn most g) rfl rfl ?_
  obtain ⟨ss, c1, e1, s1, s2, s3⟩ := t_sizes (n := n) c h1
  have main : ∀ (c2 : Cup) (sz : List (Int × Int)) (o : Option VS.D), Szs most sz → W (fun m => ∃ (g : GW) (c' : Cup), outE (some 0) m = .oki (gD g) c'.D ∧ Drn most g) (denSs (run P (n + 3)) false (tlSs 2 f__law_growing.body) [.io c2.D, .val (.int most), .own (.lst (sz.map pI)), .no, .no, jk o, .no, .no]) := fun c2 sz o hsz => by
    simp only [tlSs, f__law_growing, vstep, ↓reduceIte]
    refine W_for (fun p ρ => ∃ (ps : List ((Int × Int) × List Int)) (c' : Cup) (o1 o2 o3 o4 : Option VS.D), ρ = [.io c'.D, .val (.int most), .val (.lst (sz.map pI)), .own (.lst (ps.map pairD)), jk o1, jk o2, jk o3, jk o4] ∧ ps.map (·.1) = p ∧ Prs p.length ps) ⟨[], c2, none, o, none, none, rfl, rfl, ⟨fun _ h => nomatch h⟩⟩ ?_ ?_
    · rintro p s post hp ρ ⟨ps, c', o1, o2, o3, o4, rfl, hps, hprs⟩
      obtain ⟨step, c3, e3, d1, d2, d3⟩ := t_form (n := n) (k := 2) c' (by omega)
      have e3 : run P (n + 3) i__law_form [c'.D, .int 2] = .oki (tupI step) c3.D := e3
      have hlen : ps.length < lineN := by
        have := congrArg List.length hps
        rw [List.length_map] at this
        have := (pfx hp).2
        have := hsz.len
        unfold lineN; omega
      have fin : ∀ (c4 : Cup) (f : List Int) (x1 x2 : Option VS.D), IsLean f → f.length ≤ 3 → Bd (4 + 3 * (p.length + 1)) f → W (LQ (fun p ρ => ∃ (ps : List ((Int × Int) × List Int)) (c' : Cup) (o1 o2 o3 o4 : Option VS.D), ρ = [.io c'.D, .val (.int most), .val (.lst (sz.map pI)), .own (.lst (ps.map pairD)), jk o1, jk o2, jk o3, jk o4] ∧ ps.map (·.1) = p ∧ Prs p.length ps) p s) (.ok .nx [.io c4.D, .val (.int most), .val (.lst (sz.map pI)), .own (.lst (ps.map pairD ++ [.tup [pI s, tupI f]])), .val (pI s), jk x1, .val (tupI f), jk x2]) := fun c4 f x1 x2 f1 f2 f3 =>
        LQ_nx ⟨ps ++ [(s, f)], c4, some (pI s), x1, some (tupI f), x2, by rw [List.map_append] <;> rfl, by rw [List.map_append, hps] <;> rfl, by rw [List.length_append]; exact hprs.snoc f1 f2 f3⟩
      simp only [vstep, ↓reduceIte, e3, Cup.inner, nm_tupI]
      simp only [fines_pairs, eqvs_nil_r, vstep, ↓reduceIte]
      by_cases z : ps = []
      · subst z
        simp only [List.map_nil, List.isEmpty_nil, vstep, ↓reduceIte]
        exact fin c3 step o2 o4 d1 (by omega) (d3.mono (by omega))
      · obtain ⟨qs, q, rfl⟩ : ∃ qs q, ps = qs ++ [q] := ⟨ps.dropLast, ps.getLast z, (List.dropLast_concat_getLast z).symm⟩
        obtain ⟨b, c4, e4, b0, b1⟩ := t_roll (n := n + 2) c3 (many := 2) (by omega) (by omega)
        have z1 : ((qs ++ [q]).map pairD).isEmpty = false := by simp
        have hix : ixD ((qs ++ [q]).map pairD) (-1) = some (pairD q) := by
          rw [List.map_append]; exact ixl _ _
        have hix1 : sem .idx [pairD q, .int 1] = some (tupI q.2) := ix1 _ _ _
        have hix0 : sem .idx [pairD q, .int 0] = some (pI q.1) := ix0 _ _
        obtain ⟨q1, q2, q3⟩ := hprs.ok q (by simp)
        have hs6 : 1 ≤ q.1.1 ∧ q.1.1 ≤ 6 ∧ 0 ≤ q.1.2 ∧ q.1.2 ≤ 1 := by
          refine hsz.ok q.1 ?_
          rw [hp, ← hps]
          exact List.mem_append_left _ (List.mem_map.mpr ⟨q, by simp, rfl⟩)
        have hok : okS q.1 := ⟨hs6.1, by omega, hs6.2.2.1, hs6.2.2.2⟩
        have e5 := t_times (n := n + 2) (f := q.2) (s := q.1) (by omega) hok
        have hlen' : ((qs ++ [q]).map pairD).length < lineN := by rw [List.length_map]; exact hlen
        have f1 := timesF_lean q1 hok
        have f2 := timesF_len q.2 q.1
        have f3 : Bd (4 + 3 * (p.length + 1)) (timesF q.2 q.1) := Bd.mono (Bd.timesF (b := 3) q3 (by unfold Lt; omega)) (by omega)
        have hl3 : sem .len [tupI (timesF q.2 q.1)] = some (.int (timesF q.2 q.1).length) := by
          unfold tupI
          rw [s_lent, List.length_map]
        by_cases w : b = 0
        · subst w
          simp only [vstep, ↓reduceIte, z1, e4, Cup.inner, hix, hix1, hix0, e5, nm_tupI, hl3]
          by_cases u : ((timesF q.2 q.1).length : Int) < 4
          · simp only [vstep, ↓reduceIte, u, hlen']
            exact fin c4 (timesF q.2 q.1) o2 (some (tupI (timesF q.2 q.1))) f1 (by omega) f3
          · simp only [vstep, ↓reduceIte, u, hlen']
            exact fin c4 step o2 (some (tupI (timesF q.2 q.1))) d1 (by omega) (d3.mono (by omega))
        · have w' : (b == 0) = false := by simpa using w
          simp only [vstep, ↓reduceIte, z1, e4, Cup.inner, w, w', hlen']
          exact fin c4 step o2 o4 d1 (by omega) (d3.mono (by omega))
    · rintro ρ ⟨ps, c', o1, o2, o3, o4, rfl, hps, hprs⟩
      obtain ⟨beg, c3, e3, d1, d2, d3⟩ := t_form (n := n) (k := 2) c' (by omega)
      have e3 : run P (n + 3) i__law_form [c'.D, .int 2] = .oki (tupI beg) c3.D := e3
      simp only [vstep, ↓reduceIte, e3, Cup.inner, nm_tupI]
      have hlen : ps.length = sz.length := by rw [← hps, List.length_map]
      have h5 := hsz.len
      have hm1 : ps.map (·.1.1) = sz.map (·.1) := by rw [← hps, List.map_map] <;> rfl
      have hm2 : ps.map (·.1.2) = sz.map (·.2) := by rw [← hps, List.map_map] <;> rfl
      have hok : ∀ q ∈ ps, 1 ≤ q.1.1 ∧ q.1.1 ≤ 6 ∧ 0 ≤ q.1.2 ∧ q.1.2 ≤ 1 := fun q hq => hsz.ok q.1 (by rw [← hps]; exact List.mem_map.mpr ⟨q, hq, rfl⟩)
      refine ⟨(beg, ps), c3, rfl, ⟨⟨⟨d1, show beg.length ≤ 4 by omega⟩, fun q hq => ⟨⟨(hprs.ok q hq).1, by have := (hprs.ok q hq).2.1; omega⟩, ?_⟩, show ps.length ≤ 16 by omega, by rw [hm2]; exact hsz.sum, by rw [hm1]; exact Int.le_trans hsz.prod h2⟩, d3.mono (by omega), fun q hq => (hprs.ok q hq).2.2.mono (by omega), d2, fun q hq => (hprs.ok q hq).2.1, show ps.length ≤ 5 by omega, fun q hq => (hok q hq).2.1, by rw [hm1]; exact hsz.prod⟩⟩
      have := hok q hq
      exact ⟨this.1, by omega, this.2.2.1, this.2.2.2⟩
  simp only [vstep, ↓reduceIte, e1, Cup.inner, nm_tupI, itK_tupI, Nat.reduceBEq]
  refine W_map (g := fun s => pI (s, 0)) ?_ (by unfold lineN; omega) (by rfl) ?_
  · intro s _
    simp only [vstep, ↓reduceIte]
    rfl
  · have hz : ss.map (fun s => pI (s, 0)) = (ss.map fun s => (s, (0 : Int))).map pI := by rw [List.map_map] <;> rfl
    simp only [vstep, ↓reduceIte, hz, fines_pIs, eqvs_nil_r]
    by_cases z : ss = []
    · subst z
      have := main c1 [] none (szs0 s1 s2 s3)
      simp only [List.map_nil, List.isEmpty_nil, tlSs, f__law_growing, jk, vstep, ↓reduceIte] at this ⊢
      exact this
    · have z1 : ((ss.map fun s => (s, (0 : Int))).map pI).isEmpty = false := by
        cases ss with
        | nil => exact absurd rfl z
        | cons _ _ => rfl
      obtain ⟨b, c2, e2, b0, b1⟩ := t_roll (n := n + 2) c1 (many := 5) (by omega) (by omega)
      by_cases w : 0 < b
      · have hpos : 0 < ss.length := List.length_pos_iff.mpr z
        obtain ⟨i, c3, e3, i0, i1⟩ := t_roll (n := n + 2) c2 (many := (ss.length : Int)) (by omega) (by omega)
        obtain ⟨i, rfl⟩ : ∃ m : Nat, i = m := ⟨i.toNat, by omega⟩
        have hi : i < ss.length := by omega
        have hg : ss[i]? = some ss[i] := List.getElem?_eq_getElem hi
        have hix : ixD ((ss.map fun s => (s, (0 : Int))).map pI) (i : Int) = some (pI (ss[i], 0)) := ixn (by
          rw [List.getElem?_map, List.getElem?_map, hg] <;> rfl)
        have hix0 : sem .idx [pI (ss[i], 0), .int 0] = some (.int ss[i]) := ix0 _ _
        have hixN : L2.ixN ss.length (i : Int) = some i := by
          unfold L2.ixN
          rw [if_pos (by omega), if_pos (by omega), Int.toNat_natCast]
        have hset : ((ss.map fun s => (s, (0 : Int))).map pI).set i (.tup [.int ss[i], .int 1]) = ((ss.map fun s => (s, (0 : Int))).set i (ss[i], 1)).map pI := by
          rw [List.map_set] <;> rfl
        have := main c3 _ (some (.int (i : Int))) (szs1 s1 s2 s3 hg)
        simp only [tlSs, f__law_growing, jk, vstep, ↓reduceIte] at this
        simp only [vstep, ↓reduceIte, z1, e2, Cup.inner, w, List.length_map, e3, hix, hix0, hixN, hset]
        exact this
      · have := main c2 _ none (szs0 s1 s2 s3)
        simp only [tlSs, f__law_growing, jk, vstep, ↓reduceIte] at this
        simp only [vstep, ↓reduceIte, z1, e2, Cup.inner, w]
        exact this
end LW
set_option Elab.async false
set_option linter.all false
set_option maxRecDepth 100000
/-! LgLat: the law's own value of a growing walk. -/
namespace LW
open PySem VS VT K80
theorem t_lat {n a : Nat} {g : GW} {m : Int} (hm : Lt a m) (h1 : Bd a g.1) (h2 : ∀ p ∈ g.2, Bd a p.2) (ha : a < 300) (l1 : g.1.length < 1000) (l2 : ∀ p ∈ g.2, p.2.length < 1000 ∧ okS p.1) (l3 : g.2.length ≤ 100) : run P (n + 3) i__law_at [gD g, .int m] = .ok (wD (walkAt g m)) := by
  refine W_runE rfl rfl ?_
  have c1 := t_value (n := n) hm h1 ha l1
  unfold gD
  simp only [vstep, ↓reduceIte, ix1]
  refine W_map (g := fun p => pI (sizeAt p.1 m, ev p.2 m)) ?_ (by unfold lineN; omega) (by rfl) ?_
  · intro p hp
    have c2 := t_value (n := n) hm (h2 p hp) ha (l2 p hp).1
    have hmul : mulOk p.1.1 m = true := mulOk_l (by have := (l2 p hp).2; unfold okS at this; omega)
    unfold pairD sizeAt pI
    simp only [vstep, ↓reduceIte, ix0, ix1]
    by_cases q : p.1.2 = 1
    · simp only [vstep, ↓reduceIte, q, ix0, hmul, c2]
    · simp only [vstep, ↓reduceIte, q, ix0, c2]
  · simp only [vstep, ↓reduceIte, ix0, c1, W_eq]
    unfold wD walkAt
    rw [List.map_map] <;> rfl
theorem pl_wD (w : Int × List (Int × Int)) (k : Nat) (h : w.2.length ≤ lineN) : D.pl (k + 3) (wD w) = true := by
  unfold wD
  rw [pl_tup, pls_cons, pls_cons, pls_nil, pl_int, pl_tup, pls_map fun p => pl_pI p k, List.length_map, decide_eq_true h] <;> simp [lineN]
end LW
set_option Elab.async false
set_option linter.all false
set_option maxRecDepth 100000
/-! LgRng: ranges from 1, members of tuples of ints. -/
namespace LW
open PySem VS VT K80
theorem filter_nil {α : Type} {p : α → Bool} {l : List α} (h : ∀ x ∈ l, p x = false) : l.filter p = [] := by
  rw [List.filter_eq_nil_iff]
  intro x hx
  rw [h x hx]
  simp
theorem any_int (l : List Int) (x : Int) : (l.map VS.D.int).any (fun z => D.eqv z (.int x)) = decide (x ∈ l) := by
  induction l with
  | nil => simp
  | cons y l ih =>
    rw [List.map_cons, List.any_cons, ih, e_int]
    by_cases h : y = x
    · subst h; simp
    · have h1 : (y == x) = false := by simpa using h
      have h2 : (x = y) = False := by simp [Ne.symm h]
      rw [h1]; simp [h2]
theorem rng_1 (k : Nat) : rngD 1 (k : Int) = ((List.range (k - 1)).map fun i : Nat => 1 + (i : Int)).map D.int := by
  rw [rngD_map]
  congr 3
  omega
theorem mem_rng1 {k : Nat} {x : Int} : x ∈ ((List.range (k - 1)).map fun i : Nat => 1 + (i : Int)) ↔ 1 ≤ x ∧ x < (k : Int) := by
  rw [List.mem_map]
  constructor
  · rintro ⟨i, hi, rfl⟩
    have := List.mem_range.mp hi
    omega
  · rintro ⟨h1, h2⟩
    exact ⟨(x - 1).toNat, List.mem_range.mpr (by omega), by omega⟩
theorem rng1_sorted (k : Nat) : ((List.range (k - 1)).map fun i : Nat => 1 + (i : Int)).Pairwise (· < ·) := by
  rw [List.pairwise_map]
  exact List.Pairwise.imp (fun h => by omega) List.pairwise_lt_range
theorem sIn_tupI (l : List Int) (x : Int) : semIn (.int x) (tupI l) = some (decide (x ∈ l)) := by
  unfold tupI
  rw [s_int, f_int, fines_ints, any_int] <;> rfl
end LW
set_option Elab.async false
set_option linter.all false
set_option maxRecDepth 100000
/-! LgK80set: sorted sets of ints. -/
namespace LW
open PySem VS VT K80
theorem mem_insU {x y : Int} : ∀ {l : List Int}, y ∈ insU x l ↔ y = x ∨ y ∈ l
  | [] => by simp [insU]
  | z :: l => by
    unfold insU
    split
    · simp
    · split
      · rename_i h; subst h; simp
      · rw [List.mem_cons, mem_insU (l := l), List.mem_cons]
        constructor
        · rintro (h | h | h)
          · exact .inr (.inl h)
          · exact .inl h
          · exact .inr (.inr h)
        · rintro (h | h | h)
          · exact .inr (.inl h)
          · exact .inl h
          · exact .inr (.inr h)
theorem insU_sorted {x : Int} : ∀ {l : List Int}, l.Pairwise (· < ·) → (insU x l).Pairwise (· < ·)
  | [], _ => by simp [insU]
  | z :: l, h => by
    obtain ⟨h1, h2⟩ := List.pairwise_cons.mp h
    unfold insU
    split
    · rename_i q
      refine List.pairwise_cons.mpr ⟨fun y hy => ?_, h⟩
      rcases List.mem_cons.mp hy with rfl | hy
      · exact q
      · have := h1 y hy; omega
    · split
      · exact h
      · refine List.pairwise_cons.mpr ⟨fun y hy => ?_, insU_sorted h2⟩
        rcases mem_insU.mp hy with rfl | hy
        · omega
        · exact h1 y hy
theorem mem_setI {y : Int} : ∀ {l : List Int}, y ∈ setI l ↔ y ∈ l
  | [] => by simp [setI]
  | x :: l => by
    show y ∈ insU x (setI l) ↔ _
    rw [mem_insU, mem_setI (l := l), List.mem_cons]
theorem setI_sorted : ∀ l : List Int, (setI l).Pairwise (· < ·)
  | [] => by simp [setI]
  | x :: l => insU_sorted (setI_sorted l)
theorem setI_eq {l : List Int} (h : l.Pairwise (· < ·)) : setI l = l := sorted_eq (setI_sorted l) h fun x => mem_setI
end LW
set_option Elab.async false
set_option linter.all false
set_option maxRecDepth 100000
/-! Lg81a: short forms of walks. -/
namespace LW
open PySem VS VT K80 K81
theorem ixN_last (n : Nat) : L2.ixN (n + 1) (-1) = some n := by
  unfold L2.ixN
  rw [if_neg (by decide), if_pos (by omega)]
  congr 1
  omega
def szP (l : List Pr) : Int := (l.map (·.1)).foldl (· * ·) 1
theorem szP_snoc (l : List Pr) (p : Pr) : szP (l ++ [p]) = szP l * p.1 := by
  unfold szP
  rw [List.map_append, prod_app2] <;> simp
theorem szP_pos {l : List Pr} (h : ∀ p ∈ l, 1 ≤ p.1) : 1 ≤ szP l := prod_pos1 _ fun x hx => by
  obtain ⟨p, hp, rfl⟩ := List.mem_map.mp hx
  exact h p hp
theorem szP_app (x y : List Pr) : szP (x ++ y) = szP x * szP y := by
  unfold szP
  rw [List.map_append, prod_app2]
theorem tells_pI : Tells pI := fun a b => by
  unfold pI
  rw [e_tup, e_cons, e_cons, e_nil, e_int, e_int, Bool.and_eq_true, Bool.and_eq_true, beq_iff_eq, beq_iff_eq]
  constructor
  · rintro ⟨h1, h2, _⟩; exact Prod.ext h1 h2
  · rintro rfl; exact ⟨rfl, rfl, rfl⟩
theorem t_short_in {n : Nat} {l : List Pr} (h1 : ∀ p ∈ l, 1 ≤ p.1) (h2 : szP l < 18446744073709551616) (hl : l.length ≤ 1000) : run P (n + 1) i_short_in [.tup (l.map pI)] = .ok (.tup ((shV l).map pI)) := by
  refine W_runE rfl rfl ?_
  simp only [vstep, ↓reduceIte]
  refine W_for (fun p ρ => ∃ (acc : List Pr) (o1 o2 : Option VS.D), ρ = [.val (.tup (l.map pI)), .own (.lst (acc.map pI)), jk o1, jk o2] ∧ acc = p.foldl sIn [] ∧ (∀ q ∈ acc, 1 ≤ q.1 ∧ q.1 ≤ szP p) ∧ acc.length ≤ p.length) ⟨[], none, none, rfl, rfl, (fun _ h => nomatch h), Nat.le_refl _⟩ ?_ ?_
  · rintro p ⟨a, s⟩ post hp ρ ⟨acc, o1, o2, rfl, hacc, hb, hlen⟩
    have ha := h1 (a, s) (pfx hp).1
    have ha : 1 ≤ a := ha
    have hpl := (pfx hp).2
    have hpp : 1 ≤ szP p := szP_pos fun q hq => h1 q (by rw [hp]; exact List.mem_append_left _ hq)
    have hpo : 1 ≤ szP post := szP_pos fun q hq => h1 q (by rw [hp]; exact List.mem_append_right _ (List.mem_cons_of_mem _ hq))
    have htot : szP p * a ≤ szP l := by
      rw [hp, show p ++ (a, s) :: post = (p ++ [(a, s)]) ++ post by simp, szP_app, szP_snoc]
      have h3 : 0 ≤ szP p * a := Int.mul_nonneg (by omega) (by omega)
      have := Int.mul_le_mul (Int.le_refl (szP p * a)) hpo (by decide) h3
      show szP p * a ≤ szP p * a * szP post
      omega
    have hpa : szP p ≤ szP p * a := by
      have := Int.mul_le_mul (Int.le_refl (szP p)) ha (by decide) (by omega)
      omega
    have hll : (acc.map pI).length < lineN := by rw [List.length_map]; unfold lineN; omega
    have fin : ∀ acc' : List Pr, acc' = sIn acc (a, s) → (∀ q ∈ acc', 1 ≤ q.1 ∧ q.1 ≤ szP p * a) → acc'.length ≤ p.length + 1 → ∀ ρ, ρ = [.val (.tup (l.map pI)), .own (.lst (acc'.map pI)), .val (.int a), .val (.int s)] → W (LQ (fun p ρ => ∃ (acc : List Pr) (o1 o2 : Option VS.D), ρ = [.val (.tup (l.map pI)), .own (.lst (acc.map pI)), jk o1, jk o2] ∧ acc = p.foldl sIn [] ∧ (∀ q ∈ acc, 1 ≤ q.1 ∧ q.1 ≤ szP p) ∧ acc.length ≤ p.length) p (a, s)) (.ok .nx ρ) := by
      rintro acc' e1 e2 e3 ρ rfl
      refine LQ_nx ⟨acc', some (.int a), some (.int s), rfl, by rw [List.foldl_append, ← hacc, e1] <;> rfl, fun q hq => ?_, by simp; omega⟩
      rw [szP_snoc]
      exact e2 q hq
    have hun : ∀ {C : Nat → List VS.D → CR} {ts : Ts} {ρ : En}, bindT C (.t ts) (pI (a, s)) ρ = bindTs C ts [.int a, .int s] ρ := bT_t
    have hfi : D.fines (acc.map pI) 63 = true := fines_pIs acc
    have hbig : ∀ q ∈ acc, 1 ≤ q.1 ∧ q.1 ≤ szP p * a := fun q hq => by have := hb q hq; omega
    simp only [vstep, ↓reduceIte, hun]
    by_cases g : 1 < a
    · simp only [vstep, ↓reduceIte, g, hfi, eqvs_nil_r]
      by_cases z : acc = []
      · subst z
        simp only [List.map_nil, List.isEmpty_nil, vstep, ↓reduceIte, g, hll, lineN, List.nil_append, Nat.reduceLT]
        refine fin [(a, s)] ?_ ?_ (by simp) _ rfl
        · unfold sIn
          rw [if_pos g] <;> rfl
        · intro q hq
          rw [List.mem_singleton.mp hq]
          refine ⟨ha, ?_⟩
          show a ≤ szP p * a
          have := Int.mul_le_mul hpp (Int.le_refl a) (by omega) (by omega)
          omega
      · obtain ⟨qs, ⟨b, t⟩, rfl⟩ : ∃ qs q, acc = qs ++ [q] := ⟨acc.dropLast, acc.getLast z, (List.dropLast_concat_getLast z).symm⟩
        have z1 : ((qs ++ [(b, t)]).map pI).isEmpty = false := by simp
        have hix : ixD ((qs ++ [(b, t)]).map pI) (-1) = some (pI (b, t)) := by rw [List.map_append]; exact ixl _ _
        have hi0 : sem .idx [pI (b, t), .int 0] = some (.int b) := ix0 _ _
        have hi1 : sem .idx [pI (b, t), .int 1] = some (.int t) := ix1 _ _ _
        obtain ⟨b1, b2⟩ := hb (b, t) (by simp)
        have b1 : 1 ≤ b := b1
        have b2 : b ≤ szP p := b2
        have hm : mulOk b t = true := mulOk_l (by omega)
        have hm2 : mulOk b a = true := mulOk_l (by omega)
        have hba : b * a ≤ szP p * a := Int.mul_le_mul b2 (Int.le_refl a) (by omega) (by omega)
        have hba1 : 1 ≤ b * a := by
          have := Int.mul_le_mul b1 ha (by decide) (by omega)
          omega
        by_cases w : s = b * t
        · have hln : L2.ixN ((qs ++ [(b, t)]).map pI).length (-1) = some qs.length := by
            rw [List.length_map, List.length_append, List.length_singleton]; exact ixN_last _
          have hset : ((qs ++ [(b, t)]).map pI).set qs.length (.tup [.int (b * a), .int t]) = (qs ++ [(b * a, t)]).map pI := by
            rw [List.map_append, List.map_append, List.set_append_right _ _ (by rw [List.length_map]; exact Nat.le_refl _), List.length_map, Nat.sub_self] <;> rfl
          subst w
          simp only [vstep, ↓reduceIte, z1, hix, hi0, hi1, hm, hm2, g, hln, hset]
          refine fin (qs ++ [(b * a, t)]) ?_ ?_ (by simp at hlen ⊢; omega) _ rfl
          · unfold sIn
            rw [if_pos g, List.getLast?_concat]
            dsimp only
            rw [if_pos (by simp [mgV]), List.dropLast_concat] <;> rfl
          · intro q hq
            rcases List.mem_append.mp hq with h | h
            · exact hbig q (List.mem_append_left _ h)
            · rw [List.mem_singleton.mp h]; exact ⟨hba1, hba⟩
        · have w' : (s == b * t) = false := by simpa using w
          simp only [vstep, ↓reduceIte, z1, hix, hi0, hi1, hm, w, w', g, hll]
          refine fin (qs ++ [(b, t)] ++ [(a, s)]) ?_ ?_ (by simp at hlen ⊢; omega) _ ?_
          · unfold sIn
            rw [if_pos g, List.getLast?_concat]
            dsimp only
            rw [if_neg (by simp [mgV, w])]
          · intro q hq
            rcases List.mem_append.mp hq with h | h
            · exact hbig q h
            · rw [List.mem_singleton.mp h]
              refine ⟨ha, ?_⟩
              show a ≤ szP p * a
              have := Int.mul_le_mul hpp (Int.le_refl a) (by omega) (by omega)
              omega
          · rw [List.map_append (l₂ := [(a, s)])] <;> rfl
    · simp only [vstep, ↓reduceIte, g]
      refine fin acc ?_ hbig (by omega) _ rfl
      unfold sIn
      rw [if_neg g]
  · rintro ρ ⟨acc, o1, o2, rfl, hacc, hb, hlen⟩
    simp only [vstep, ↓reduceIte, W_eq]
    rw [hacc, sIn_sh]
end LW
set_option Elab.async false
set_option linter.all false
set_option maxRecDepth 100000
/-! Lg81b: the law's own short forms. -/
namespace LW
open PySem VS VT K80 K81
section
variable {α : Type} {mg : α → α → Bool} {jn : α → α → α}
theorem norm_succ : ∀ (n : Nat) (l : List α), norm mg jn (n + 1) l = (step1 mg jn (norm mg jn n l)).getD (norm mg jn n l)
  | 0, l => by
    rw [norm, norm]
    cases step1 mg jn l <;> rfl
  | n + 1, l => by
    rw [norm]
    cases h : step1 mg jn l with
    | none =>
      have : norm mg jn (n + 1) l = l := by rw [norm, h]
      rw [this, h] <;> rfl
    | some l' =>
      have : norm mg jn (n + 1) l = norm mg jn n l' := by rw [norm, h]
      rw [this]
      exact norm_succ n l'
end
theorem szP_join (x y : List Pr) (p q : Pr) : szP (x ++ jnV p q :: y) = szP (x ++ p :: q :: y) := by
  rw [szP_app, szP_app]
  congr 1
  unfold szP
  simp only [List.map_cons, List.foldl_cons, jnV, Int.one_mul]
theorem szP_filter : ∀ {l : List Pr}, (∀ p ∈ l, 1 ≤ p.1) → szP (l.filter big) = szP l
  | [], _ => rfl
  | p :: l, h => by
    have ih := szP_filter (l := l) fun q hq => h q (List.mem_cons_of_mem _ hq)
    have e : ∀ l : List Pr, szP (p :: l) = p.1 * szP l := fun l => by
      have := szP_app [p] l
      rw [List.singleton_append] at this
      rw [this]
      unfold szP
      simp
    rw [List.filter_cons]
    split
    · rw [e, e, ih]
    · rename_i w
      have h1 := h p List.mem_cons_self
      have h2 : ¬ 1 < p.1 := by simpa [big] using w
      rw [e, ih, show p.1 = 1 by omega, Int.one_mul]
theorem szP_ge {l : List Pr} (h : ∀ p ∈ l, 1 ≤ p.1) : ∀ p ∈ l, p.1 ≤ szP l := fun p hp => prod_ge _ (fun x hx => by
  obtain ⟨q, hq, rfl⟩ := List.mem_map.mp hx
  exact h q hq) p.1 (List.mem_map.mpr ⟨p, hp, rfl⟩)
theorem rngD_pred (k : Nat) : rngD 0 ((k : Int) - 1) = (List.range (k - 1)).map fun i : Nat => D.int (i : Int) := by
  cases k with
  | zero => rfl
  | succ k =>
    rw [show ((k + 1 : Nat) : Int) - 1 = (k : Nat) by omega, rngD_nat] <;> rfl
theorem rngOk_pred {k : Nat} (h : k < 1000000000) : rngOk 0 ((k : Int) - 1) = true := rngOk_of (by decide) (by decide) (by omega) (by omega)
theorem ix_pI {l : List Pr} {i : Nat} {p : Pr} (h : l[i]? = some p) : ixD (l.map pI) (i : Int) = some (pI p) := ixn (by rw [List.getElem?_map, h] <;> rfl)
theorem ix_pI1 {l : List Pr} {i : Nat} {p : Pr} (h : l[i + 1]? = some p) : ixD (l.map pI) ((i : Int) + 1) = some (pI p) := by
  have := ix_pI h
  rwa [show ((i + 1 : Nat) : Int) = (i : Int) + 1 by omega] at this
theorem cut_drop2 (xs : List VS.D) (i : Nat) : cutD xs (some ((i : Int) + 2)) none = xs.drop (i + 2) := by
  rw [show (i : Int) + 2 = ((i + 2 : Nat) : Int) by omega, cut_drop]
theorem t_lshort {n : Nat} {l : List Pr} (h1 : ∀ p ∈ l, 1 ≤ p.1) (h2 : szP l < 18446744073709551616) (hl : l.length ≤ 1000) : run P (n + 1) i__law_short [.tup (l.map pI)] = .ok (.tup ((shV l).map pI)) := by
  refine W_runE rfl rfl ?_
  simp only [vstep, ↓reduceIte]
  refine W_filter (p := big) (g := pI) ?_ (by unfold lineN; omega) (by rfl) ?_
  · intro p hp
    have hi0 : sem .idx [pI p, .int 0] = some (.int p.1) := ix0 _ _
    simp only [vstep, ↓reduceIte, hi0]
    by_cases q : 1 < p.1
    · simp only [vstep, ↓reduceIte, q, big]
    · simp only [vstep, ↓reduceIte, q, big]
  · have hfl : (l.filter big).length ≤ l.length := List.length_filter_le _ _
    have hinv : ∀ k, (∀ q ∈ norm mgV jnV k (l.filter big), 1 ≤ q.1) ∧ szP (norm mgV jnV k (l.filter big)) = szP l ∧ (norm mgV jnV k (l.filter big)).length ≤ l.length := fun k =>
      norm_ind (T := fun x => (∀ q ∈ x, 1 ≤ q.1) ∧ szP x = szP l ∧ x.length ≤ l.length) (fun x p q y _ hx => by
        obtain ⟨a, b, c⟩ := hx
        refine ⟨fun r hr => ?_, by rw [szP_join]; exact b, by simp at c ⊢; omega⟩
        rcases List.mem_append.mp hr with w | w
        · exact a r (List.mem_append_left _ w)
        · rcases List.mem_cons.mp w with rfl | w
          · have q1 := a p (by simp)
            have q2 := a q (by simp)
            show 1 ≤ p.1 * q.1
            have := Int.mul_le_mul q1 q2 (by decide) (by omega)
            omega
          · exact a r (by simp [w])) k _ ⟨fun q hq => h1 q (List.mem_filter.mp hq).1, szP_filter h1, hfl⟩
    simp only [vstep, ↓reduceIte, List.length_map, rngOk_nat (show l.length < 1000000000 by omega), rngD_nat]
    refine W_for (fun p ρ => ∃ (o1 o3 : Option VS.D) (s3 : Sl), slOk (some s3) = true ∧ ρ = [.val (.tup (l.map pI)), .own (.lst ((norm mgV jnV p.length (l.filter big)).map pI)), jk o1, s3, .no, jk o3]) ⟨none, none, .no, rfl, rfl⟩ ?_ ?_
    · rintro p t post hp ρ ⟨o1, o3, s3, hs3, rfl⟩
      have hs := norm_succ (mg := mgV) (jn := jnV) p.length (l.filter big)
      obtain ⟨a, b, c⟩ := hinv p.length
      have fin : ∀ (F' : List Pr) (x3 : Option VS.D) (s : Sl), slOk (some s) = true → norm mgV jnV (p.length + 1) (l.filter big) = F' → W (LQ (fun p ρ => ∃ (o1 o3 : Option VS.D) (s3 : Sl), slOk (some s3) = true ∧ ρ = [.val (.tup (l.map pI)), .own (.lst ((norm mgV jnV p.length (l.filter big)).map pI)), jk o1, s3, .no, jk o3]) p t) (.ok .nx [.val (.tup (l.map pI)), .own (.lst (F'.map pI)), .val (.int (t : Int)), s, .no, jk x3]) := fun F' x3 s hs' e =>
        LQ_nx ⟨some (.int (t : Int)), x3, s, hs', by rw [List.length_append, List.length_singleton, e] <;> rfl⟩
      generalize hF : norm mgV jnV p.length (l.filter big) = F at hs a b c
      have hsz := szP_ge a
      simp only [vstep, ↓reduceIte, List.length_map, rngOk_pred (show F.length < 1000000000 by omega), rngD_pred]
      refine W_filter (p := spotB mgV F) (g := fun i : Nat => .int (i : Int)) ?_ (by rw [List.length_range]; unfold lineN; omega) (by simp only [now_cons, now_nil, now_jk, List.getElem?_cons_succ, List.getElem?_cons_zero, Bool.and_true]) ?_
      · intro i hi
        have hi := List.mem_range.mp hi
        obtain ⟨u, hu⟩ : ∃ u, F[i]? = some u := ⟨F[i], List.getElem?_eq_getElem (by omega)⟩
        obtain ⟨v, hv⟩ : ∃ v, F[i + 1]? = some v := ⟨F[i + 1], List.getElem?_eq_getElem (by omega)⟩
        have x1 := ix_pI hu
        have x2 := ix_pI1 hv
        have u0 : sem .idx [pI u, .int 0] = some (.int u.1) := ix0 _ _
        have u1 : sem .idx [pI u, .int 1] = some (.int u.2) := ix1 _ _ _
        have v1 : sem .idx [pI v, .int 1] = some (.int v.2) := ix1 _ _ _
        have hum : u ∈ F := List.mem_of_getElem? hu
        have hm : mulOk u.1 u.2 = true := mulOk_l (by have := hsz u hum; have := a u hum; omega)
        simp only [vstep, ↓reduceIte, x1, x2, u0, u1, v1, hm, spotB_some hu hv]
        unfold mgV
        by_cases w : v.2 = u.1 * u.2
        · simp only [vstep, ↓reduceIte, w]
        · have w' : (v.2 == u.1 * u.2) = false := by simpa using w
          simp only [vstep, ↓reduceIte, w, w']
      · rw [show (List.range (F.length - 1)).filter (spotB mgV F) = spots mgV F from rfl]
        cases hsp : spots mgV F with
        | nil =>
          have hn := spots_nil (jn := jnV).mp hsp
          rw [hn] at hs
          simp only [vstep, ↓reduceIte, hs3, List.map_nil, List.isEmpty_nil]
          exact fin F o3 _ rfl hs
        | cons i is =>
          obtain ⟨u, v, hu, hv, hst⟩ := spots_some (jn := jnV) hsp
          rw [hst] at hs
          have x1 := ix_pI hu
          have x2 := ix_pI1 hv
          have u0 : sem .idx [pI u, .int 0] = some (.int u.1) := ix0 _ _
          have u1 : sem .idx [pI u, .int 1] = some (.int u.2) := ix1 _ _ _
          have v0 : sem .idx [pI v, .int 0] = some (.int v.1) := ix0 _ _
          have hum : u ∈ F := List.mem_of_getElem? hu
          have hm : mulOk u.1 v.1 = true := mulOk_l (by have := hsz u hum; have := a u hum; omega)
          have hil : i + 1 < F.length := (List.getElem?_eq_some_iff.mp hv).1
          have hfi : ∀ l : List Nat, D.fines (l.map fun i : Nat => .int (i : Int)) 63 = true := fines_map fun i => f_int _ _
          have ct : cutD (F.map pI) none (some (i : Int)) = (F.take i).map pI := by rw [cut_take _ (by rw [List.length_map]; omega), List.map_take]
          have cd : cutD (F.map pI) (some ((i : Int) + 2)) none = (F.drop (i + 2)).map pI := by rw [cut_drop2, List.map_drop]
          have k1 : (F.take i).length + (0 + 1) ≤ lineN := by rw [List.length_take]; unfold lineN; omega
          have k2 : (F.take i).length + (0 + 1) + (F.drop (i + 2)).length ≤ lineN := by rw [List.length_take, List.length_drop]; unfold lineN; omega
          have hj : (F.take i).map pI ++ [.tup [.int (u.1 * v.1), .int u.2]] ++ (F.drop (i + 2)).map pI = (F.take i ++ [jnV u v] ++ F.drop (i + 2)).map pI := by
            rw [List.map_append, List.map_append] <;> rfl
          simp only [vstep, ↓reduceIte, hs3, List.map_cons, List.isEmpty_cons, f_int, hfi, ix0, x1, x2, u0, u1, v0, hm, ct, cd, List.length_map, List.length_append, k1, k2, hj]
          exact fin _ (some (.int (i : Int))) _ rfl hs
    · rintro ρ ⟨o1, o3, s3, hs3, rfl⟩
      rw [List.length_range]
      have e : norm mgV jnV l.length (l.filter big) = shV l := norm_grp _ _ hfl
      simp only [vstep, ↓reduceIte, W_eq, e]
end LW
set_option Elab.async false
set_option linter.all false
set_option maxRecDepth 100000
/-! Lg81c: the program's general short forms. -/
namespace LW
open PySem VS VT K80 K81
theorem t_sized {n a b : Nat} {f : List Int} {s : Int × Int} (hf : Bd a f) (hs : Lt b s.1) (hab : a + b < 100000) (hl : f.length < 1000) : run P (n + 3) i_sized [tupI f, pI s] = .ok (tupI (sizedF f s)) := by
  refine W_runE rfl rfl ?_
  have c1 := t11 (n := n) hf hs (by omega) (by omega)
  have c1 : run P (n + 2) i_scaled [tupI f, .int s.1] = .ok (tupI (sclF f s.1)) := c1
  have h0 : sem .idx [pI s, .int 0] = some (.int s.1) := ix0 _ _
  have h1 : sem .idx [pI s, .int 1] = some (.int s.2) := ix1 _ _ _
  have hlen := sclF_len f s.1
  have hadd : sem .add [.tup [.int 0], tupI (sclF f s.1)] = some (tupI (0 :: sclF f s.1)) := by
    unfold tupI
    rw [s_addt, if_pos (by simp [lineN]; omega)] <;> rfl
  by_cases q : s.2 = 1
  · by_cases z : sclF f s.1 = []
    · have e : sizedF f s = sclF f s.1 := by unfold sizedF; rw [if_neg (by simp [z])]
      rw [e]
      simp only [vstep, ↓reduceIte, h0, h1, c1, nm_tupI, q, f_tupI, eqv_tupI, z, List.isEmpty_nil, W_eq]
    · have e : sizedF f s = 0 :: sclF f s.1 := by unfold sizedF; rw [if_pos ⟨q, z⟩]
      have z1 : (sclF f s.1).isEmpty = false := by simpa using z
      rw [e]
      simp only [vstep, ↓reduceIte, h0, h1, c1, nm_tupI, q, f_tupI, eqv_tupI, z1, hadd, W_eq]
  · have e : sizedF f s = sclF f s.1 := by unfold sizedF; rw [if_neg (by simp [q])]
    rw [e]
    simp only [vstep, ↓reduceIte, h0, h1, c1, nm_tupI, q, W_eq]
theorem Bd.sizedF {a b : Nat} {f : List Int} {s : Int × Int} (h : Bd a f) (hs : Lt b s.1) : Bd (a + b) (sizedF f s) := by
  unfold K81.sizedF
  split
  · exact (h.sclF hs).cons0
  · exact h.sclF hs
theorem Bd.gapF {a b : Nat} {p q : GP} (h1 : Bd a p.2) (h2 : Bd a q.2) (hs : Lt b p.1.1) : Bd (a + b + 2) (gapF p q) := by
  unfold K81.gapF
  exact Bd.mono (h2.addF ((Bd.sizedF h1 hs).sclF (b := 1) (by unfold Lt; decide))) (by omega)
theorem t_gap_of {n a b : Nat} {p q : GP} (h1 : Bd a p.2) (h2 : Bd a q.2) (hs : Lt b p.1.1) (hab : a + b < 10000) (l1 : p.2.length < 100) (l2 : q.2.length < 100) : run P (n + 4) i_gap_of [pairD p, pairD q] = .ok (tupI (gapF p q)) := by
  refine W_runE rfl rfl ?_
  have p0 : sem .idx [pairD p, .int 0] = some (pI p.1) := ix0 _ _
  have p1 : sem .idx [pairD p, .int 1] = some (tupI p.2) := ix1 _ _ _
  have q1 : sem .idx [pairD q, .int 1] = some (tupI q.2) := ix1 _ _ _
  have c1 := t_sized (n := n) (s := p.1) h1 hs (by omega) (by omega)
  have hb := Bd.sizedF h1 hs
  have hl := sizedF_len p.2 p.1
  have c2 : run P (n + 3) i_scaled [tupI (sizedF p.2 p.1), .int (-1)] = .ok (tupI (sclF (sizedF p.2 p.1) (-1))) := t11 (n := n + 1) (k := -1) (b := 1) hb (by unfold Lt; decide) (by omega) (by omega)
  have hl2 := sclF_len (sizedF p.2 p.1) (-1)
  have c3 := t10 (n := n + 1) (x := q.2) (y := sclF (sizedF p.2 p.1) (-1)) (by omega) (by omega)
  simp only [vstep, ↓reduceIte, p0, p1, q1, c1, c2, c3, nm_tupI, W_eq]
  rfl
theorem ix_pairD {l : List GP} {i : Nat} {p : GP} (h : l[i]? = some p) : ixD (l.map pairD) (i : Int) = some (pairD p) := ixn (by rw [List.getElem?_map, h] <;> rfl)
theorem ix_pairD1 {l : List GP} {i : Nat} {p : GP} (h : l[i + 1]? = some p) : ixD (l.map pairD) ((i : Int) + 1) = some (pairD p) := by
  have := ix_pairD h
  rwa [show ((i + 1 : Nat) : Int) = (i : Int) + 1 by omega] at this
theorem norm_stop {α : Type} {mg : α → α → Bool} {jn : α → α → α} {k : Nat} {l : List α} (h : step1 mg jn (norm mg jn k l) = none) : ∀ j, norm mg jn (k + j) l = norm mg jn k l
  | 0 => rfl
  | j + 1 => by rw [← Nat.add_assoc, norm_succ, norm_stop h j, h] <;> rfl
theorem lt13 {x : Int} (h1 : 0 ≤ x) (h2 : x ≤ 5000) : Lt 13 x := by unfold Lt; omega
/-- the spots of general joining, listed -/
theorem spots_comp {n b : Nat} {F : List GP} {Q : Out Fl → Prop} {k : VS.D → En → Out Fl} {ρ ρw : En} {own : List Nat} {i : Nat} (hF : Gd b 5000 F) (hb : b ≤ 1000) (hl : F.length ≤ 1000)
    (hbody : ∀ a : Nat, ∀ (u v : GP), F[a]? = some u → F[a + 1]? = some v → run P (n + 4) i_gap_of [pairD u, pairD v] = .ok (tupI (gapF u v)) → compB (run P (n + 4)) (.var i) (.n i) (.cons (.op .eq (.cons (.call i_gap_of none false (.cons (.op .idx (.cons (.pk 1) (.cons (.pk i) .nil))) (.cons (.op .idx (.cons (.pk 1) (.cons (.op .add (.cons (.pk i) (.cons (.cst (.int 1)) .nil))) .nil))) .nil))) (.cons (.tup .nil) .nil))) .nil) own (.int (a : Int)) ρw = .ok (if mgG u v = true then some (.int (a : Int)) else none) ρw)
    (ho : noOwn ρ own = true) (hk : W Q (k (.lst ((spots mgG F).map fun i : Nat => .int (i : Int))) (backE ρ ρw own))) :
    W Q ((compEnd own ρ (compLoop (compB (run P (n + 4)) (.var i) (.n i) (.cons (.op .eq (.cons (.call i_gap_of none false (.cons (.op .idx (.cons (.pk 1) (.cons (.pk i) .nil))) (.cons (.op .idx (.cons (.pk 1) (.cons (.op .add (.cons (.pk i) (.cons (.cst (.int 1)) .nil))) .nil))) .nil))) (.cons (.tup .nil) .nil))) .nil) own) ((List.range (F.length - 1)).map fun i : Nat => .int (i : Int)) ρw)).to k) := by
  refine W_filter (p := spotB mgG F) (g := fun i : Nat => .int (i : Int)) ?_ (by rw [List.length_range]; unfold lineN; omega) ho hk
  intro a ha
  have ha := List.mem_range.mp ha
  obtain ⟨u, hu⟩ : ∃ u, F[a]? = some u := ⟨F[a], List.getElem?_eq_getElem (by omega)⟩
  obtain ⟨v, hv⟩ : ∃ v, F[a + 1]? = some v := ⟨F[a + 1], List.getElem?_eq_getElem (by omega)⟩
  have u0 := hF.ok u (List.mem_of_getElem? hu)
  have v0 := hF.ok v (List.mem_of_getElem? hv)
  have up : u.1.1 ≤ 5000 := Int.le_trans (prod_ge (F.map (·.1.1)) (fun x hx => by
    obtain ⟨q, hq, rfl⟩ := List.mem_map.mp hx
    exact (hF.ok q hq).1) u.1.1 (List.mem_map.mpr ⟨u, List.mem_of_getElem? hu, rfl⟩)) hF.prod
  have c := t_gap_of (n := n) (p := u) (q := v) (b := 13) u0.2.2.2.2.2 v0.2.2.2.2.2 (lt13 (by omega) up) (by omega) (by omega) (by omega)
  rw [spotB_some hu hv]
  exact hbody a u v hu hv c
theorem t_general_in {n b : Nat} {g : GW} (hg : Gd b 5000 g.2) (hb : b ≤ 1000) (hl : g.2.length ≤ 1000) : run P (n + 5) i_general_in [gD g] = .ok (gD (g.1, genP g.2)) := by
  refine W_runE rfl rfl ?_
  have g0 : sem .idx [gD g, .int 0] = some (tupI g.1) := ix0 _ _
  have g1 : sem .idx [gD g, .int 1] = some (.tup (g.2.map pairD)) := ix1 _ _ _
  simp only [vstep, ↓reduceIte, g1]
  refine W_filter (p := plainB) (g := pairD) ?_ (by unfold lineN; omega) (by rfl) ?_
  · intro p _
    have p0 : sem .idx [pairD p, .int 0] = some (pI p.1) := ix0 _ _
    have e : D.eqv (pI p.1) (.tup [.int 1, .int 0]) = decide (p.1 = (1, 0)) := tells_pI.beq p.1 (1, 0)
    have f1 : D.fine (.tup [.int 1, .int 0]) 64 = true := fn_pI (1, 0) 63
    simp only [vstep, ↓reduceIte, p0, fn_pI, f1, e]
    by_cases q : p.1 = (1, 0)
    · have : plainB p = false := by simp [plainB, q]
      simp only [vstep, ↓reduceIte, this, q]
    · have : plainB p = true := by simp [plainB, q]
      simp only [vstep, ↓reduceIte, this, q]
  · have hfl : (g.2.filter plainB).length ≤ g.2.length := List.length_filter_le _ _
    have hinv : ∀ k, Gd b 5000 (norm mgG jnG k (g.2.filter plainB)) ∧ (norm mgG jnG k (g.2.filter plainB)).length ≤ g.2.length := fun k =>
      norm_ind (T := fun x => Gd b 5000 x ∧ x.length ≤ g.2.length) (fun x p q y _ hx => ⟨hx.1.join, by have := hx.2; simp at this ⊢; omega⟩) k _ ⟨hg.filter, hfl⟩
    have hbody : ∀ (F : List GP) (i : Nat) (ρw : En) (a : Nat) (u v : GP), (i = 3 ∨ i = 6) → F[a]? = some u → F[a + 1]? = some v → run P (n + 4) i_gap_of [pairD u, pairD v] = .ok (tupI (gapF u v)) → ∀ (s2 s4 s5 : Sl) (s3 s6 : Sl), (ρw = [.val (gD g), .own (.lst (F.map pairD)), s2, s3, s4, s5, s6]) → (i = 3 → s3 = .no) → (i = 6 → s6 = .no) → compB (run P (n + 4)) (.var i) (.n i) (.cons (.op .eq (.cons (.call i_gap_of none false (.cons (.op .idx (.cons (.pk 1) (.cons (.pk i) .nil))) (.cons (.op .idx (.cons (.pk 1) (.cons (.op .add (.cons (.pk i) (.cons (.cst (.int 1)) .nil))) .nil))) .nil))) (.cons (.tup .nil) .nil))) .nil) [i] (.int (a : Int)) ρw = .ok (if mgG u v = true then some (.int (a : Int)) else none) ρw := by
      rintro F i ρw a u v hi hu hv c s2 s4 s5 s3 s6 rfl h3 h6
      have x1 := ix_pairD hu
      have x2 := ix_pairD1 hv
      unfold mgG
      rcases hi with rfl | rfl
      · rw [h3 rfl]
        simp only [vstep, ↓reduceIte, x1, x2, c, nm_tupI, f_tupI, eqv_tupI]
        by_cases z : gapF u v = []
        · simp only [vstep, ↓reduceIte, z, List.isEmpty_nil]
        · have z1 : (gapF u v).isEmpty = false := by simpa using z
          simp only [vstep, ↓reduceIte, z, z1]
      · rw [h6 rfl]
        simp only [vstep, ↓reduceIte, x1, x2, c, nm_tupI, f_tupI, eqv_tupI]
        by_cases z : gapF u v = []
        · simp only [vstep, ↓reduceIte, z, List.isEmpty_nil]
        · have z1 : (gapF u v).isEmpty = false := by simpa using z
          simp only [vstep, ↓reduceIte, z, z1]
    have h0 := hinv 0
    have e0 : norm mgG jnG 0 (g.2.filter plainB) = g.2.filter plainB := rfl
    rw [e0] at h0
    generalize hF0 : g.2.filter plainB = F0 at hinv h0 hfl
    simp only [vstep, ↓reduceIte, List.length_map, rngOk_pred (show F0.length < 1000000000 by omega), rngD_pred]
    refine spots_comp (n := n) (b := b) (F := F0) h0.1 hb (by omega) (fun a u v hu hv c => hbody F0 3 _ a u v (.inl rfl) hu hv c .no .no .no .no .no rfl (fun _ => rfl) (fun _ => rfl)) (by rfl) ?_
    simp only [vstep, ↓reduceIte]
    refine W_whl (fun m ρ => ∃ (k : Nat) (s3 : Sl) (o4 : Option VS.D) (o3 : Option VS.D), k + m = F0.length ∧ (norm mgG jnG k F0).length = m ∧ ρ = [.val (gD g), .own (.lst ((norm mgG jnG k F0).map pairD)), .own (.lst ((spots mgG (norm mgG jnG k F0)).map fun i : Nat => .int (i : Int))), jk o3, jk o4, .no, .no]) F0.length (by unfold WF; omega) ⟨0, .no, none, none, by omega, rfl, rfl⟩ ?_
    rintro m ρ ⟨k, s3, o4, o3, hk, hm, rfl⟩
    obtain ⟨hG, hL⟩ := hinv k
    have hs := norm_succ (mg := mgG) (jn := jnG) k F0
    have hst := norm_stop (mg := mgG) (jn := jnG) (k := k) (l := F0)
    generalize hF : norm mgG jnG k F0 = F at hG hL hs hm hst
    have hfi : ∀ l : List Nat, D.fines (l.map fun i : Nat => .int (i : Int)) 63 = true := fines_map fun i => f_int _ _
    cases hsp : spots mgG F with
    | nil =>
      have hn := spots_nil (jn := jnG).mp hsp
      refine .inl ⟨?_, ?_⟩
      · simp only [vstep, ↓reduceIte, List.map_nil, List.isEmpty_nil]
      · have e : genP g.2 = F := by
          unfold genP
          rw [hF0, ← hk, hst hn]
        simp only [vstep, ↓reduceIte, g0, W_eq, e]
        rfl
    | cons i is =>
      obtain ⟨u, v, hu, hv, hst1⟩ := spots_some (jn := jnG) hsp
      rw [hst1] at hs
      refine .inr ⟨?_, ?_⟩
      · simp only [vstep, ↓reduceIte, List.map_cons, List.isEmpty_cons, f_int, hfi]
      · have x1 := ix_pairD hu
        have x2 := ix_pairD1 hv
        have u0 : sem .idx [pairD u, .int 0] = some (pI u.1) := ix0 _ _
        have u1 : sem .idx [pairD u, .int 1] = some (tupI u.2) := ix1 _ _ _
        have v0 : sem .idx [pairD v, .int 0] = some (pI v.1) := ix0 _ _
        have hil : i + 1 < F.length := (List.getElem?_eq_some_iff.mp hv).1
        have hok : ∀ q ∈ F, okS q.1 := fun q hq => by
          have h1 := hG.ok q hq
          refine ⟨h1.1, Int.le_trans (prod_ge (F.map (·.1.1)) (fun x hx => by
            obtain ⟨q, hq, rfl⟩ := List.mem_map.mp hx
            exact (hG.ok q hq).1) q.1.1 (List.mem_map.mpr ⟨q, hq, rfl⟩)) hG.prod, h1.2.1, h1.2.2.1⟩
        have c1 := t_product_of (n := n + 2) [u.1, v.1] (fun s hs' => by
          simp only [List.mem_cons, List.not_mem_nil, or_false] at hs'
          rcases hs' with rfl | rfl
          · exact hok u (List.mem_of_getElem? hu)
          · exact hok v (List.mem_of_getElem? hv)) (by simp) (.lst [pI u.1, pI v.1]) (.inl rfl)
        have c1 : run P (n + 4) i_product_of [.lst [pI u.1, pI v.1]] = .ok (pI (u.1.1 * v.1.1, u.1.2 + v.1.2)) := by
          rw [c1]
          simp
        have ct : cutD (F.map pairD) none (some (i : Int)) = (F.take i).map pairD := by rw [cut_take _ (by rw [List.length_map]; omega), List.map_take]
        have cd : cutD (F.map pairD) (some ((i : Int) + 2)) none = (F.drop (i + 2)).map pairD := by rw [cut_drop2, List.map_drop]
        have k1 : (F.take i).length + (0 + 1) ≤ lineN := by rw [List.length_take]; unfold lineN; omega
        have k2 : (F.take i).length + (0 + 1) + (F.drop (i + 2)).length ≤ lineN := by rw [List.length_take, List.length_drop]; unfold lineN; omega
        have hj : (F.take i).map pairD ++ [.tup [pI (u.1.1 * v.1.1, u.1.2 + v.1.2), tupI u.2]] ++ (F.drop (i + 2)).map pairD = (F.take i ++ [jnG u v] ++ F.drop (i + 2)).map pairD := by
          rw [List.map_append, List.map_append] <;> rfl
        have hs : norm mgG jnG (k + 1) F0 = F.take i ++ [jnG u v] ++ F.drop (i + 2) := hs
        obtain ⟨hG2, hL2⟩ := hinv (k + 1)
        have hlen : (norm mgG jnG (k + 1) F0).length + 1 = F.length := by
          rw [hs]
          simp only [List.length_append, List.length_take, List.length_singleton, List.length_drop]
          omega
        rw [hs] at hG2 hL2 hlen
        generalize hF2 : F.take i ++ [jnG u v] ++ F.drop (i + 2) = F2 at hs hG2 hL2 hlen hj
        simp only [vstep, ↓reduceIte, List.map_cons, f_int, hfi, ix0, x1, x2, u0, u1, v0, c1, nm_pI, ct, cd, List.length_map, List.length_append, k1, k2, hj, rngOk_pred (show F2.length < 1000000000 by omega), rngD_pred]
        refine spots_comp (n := n) (b := b) (F := F2) hG2 hb (by omega) (fun a u v hu hv c => hbody F2 6 _ a u v (.inr rfl) hu hv c _ _ _ _ _ rfl (fun w => by cases w) (fun _ => rfl)) (by rfl) ?_
        simp only [vstep, ↓reduceIte]
        refine WQ_nx (m - 1) (by omega) ⟨k + 1, .no, some _, some (.int (i : Int)), by omega, by rw [hs]; omega, by rw [hs] <;> rfl⟩
end LW
set_option Elab.async false
set_option linter.all false
set_option maxRecDepth 100000
/-! Lg81d: odd values, short walks, gaps between. -/
namespace LW
open PySem VS VT K80 K81
theorem segD_tail (l : List GP) : cutD (l.map pairD) (some 1) none = l.tail.map pairD := by
  rw [show (some (1 : Int)) = some ((1 : Nat) : Int) from rfl, cut_drop, List.drop_one, List.map_tail]
theorem sset_lst {l : List Int} (h : l.length < 64) : sem .sset [.lst (l.map D.int)] = some (.lst ((setI l).map D.int)) := by
  rw [s_ssetl, if_pos h]
theorem _root_.K81.Gd.size {b : Nat} {l : List GP} (h : Gd b 5000 l) {p : GP} (hp : p ∈ l) : 1 ≤ p.1.1 ∧ p.1.1 ≤ 5000 := ⟨(h.ok p hp).1, Int.le_trans (prod_ge (l.map (·.1.1)) (fun x hx => by
  obtain ⟨q, hq, rfl⟩ := List.mem_map.mp hx
  exact (h.ok q hq).1) p.1.1 (List.mem_map.mpr ⟨p, hp, rfl⟩)) h.prod⟩
theorem zip_tail_len {α : Type} (l : List α) : (l.zip l.tail).length ≤ l.length := by
  rw [List.length_zip]; omega
theorem roots4 {l : List GP} {b : Nat} {p q : GP} (h : Gd b 5000 l) (hn : Nrm mgG l) (hm : (p, q) ∈ l.zip l.tail) : (rootsF (gapF p q)).length ≤ 4 := by
  have hz := zip_mem hm
  exact rootsF_len (gapF_lean p q) (gap_ne hn hm) (gapF_len (h.ok p hz.1).2.2.2.2.1 (h.ok q hz.2).2.2.2.2.1)
theorem oddS_len {l : List GP} {b : Nat} (h : Gd b 5000 l) (hn : Nrm mgG l) : (oddS l).length ≤ 5 * l.length := by
  unfold oddS
  rw [List.length_append, List.length_map]
  have h1 : (l.filter fun p => decide (p.1 = (1, 1))).length ≤ l.length := List.length_filter_le _ _
  have h2 : ∀ m : List (GP × GP), (∀ pq ∈ m, pq ∈ l.zip l.tail) → (m.flatMap fun pq => rootsF (gapF pq.1 pq.2)).length ≤ 4 * m.length := fun m => by
    induction m with
    | nil => intro _; simp
    | cons pq m ih =>
      intro hm
      rw [List.flatMap_cons, List.length_append, List.length_cons]
      have := ih fun x hx => hm x (List.mem_cons_of_mem _ hx)
      have := roots4 h hn (p := pq.1) (q := pq.2) (hm pq List.mem_cons_self)
      omega
  have h3 := h2 (l.zip l.tail) fun _ h => h
  have h4 := zip_tail_len l
  omega
theorem oddS_lt {l : List GP} {b : Nat} (h : Gd b 5000 l) (hn : Nrm mgG l) {m : Int} (hm : m ∈ oddS l) : Lt (b + 18) m := by
  unfold oddS at hm
  rcases List.mem_append.mp hm with w | w
  · obtain ⟨_, _, rfl⟩ := List.mem_map.mp w
    exact Lt.mono (a := 1) (by unfold Lt; decide) (by omega)
  · obtain ⟨⟨p, q⟩, hpq, w⟩ := List.mem_flatMap.mp w
    have hz := zip_mem hpq
    have hs := h.size hz.1
    exact Lt.mono (rootsF_lt (Bd.gapF (b := 13) (h.ok p hz.1).2.2.2.2.2 (h.ok q hz.2).2.2.2.2.2 (lt13 (by omega) hs.2)) w) (by omega)
def tupD (l : List Int) : VS.D := tupI (setI l)
theorem t_odd_in {n b : Nat} {g : GW} (hg : Gd b 5000 g.2) (hb : b ≤ 1000) (hl : g.2.length ≤ 12) : run P (n + 10) i_odd_in [gD g] = .ok (tupD (oddS (genP g.2))) := by
  obtain ⟨hG, hN, hP, hL, _⟩ := genP_ok hg
  have c1 := t_general_in (n := n + 4) hg hb (by omega)
  refine W_runE rfl rfl ?_
  generalize genP g.2 = l at hG hN hP hL c1
  have g1 : sem .idx [gD (g.1, l), .int 1] = some (.tup (l.map pairD)) := ix1 _ _ _
  have hun : ∀ {C : Nat → List VS.D → CR} {ts : Ts} {ρ : En} {p : GP}, bindT C (.t ts) (pairD p) ρ = bindTs C ts [pI p.1, tupI p.2] ρ := bT_t
  simp only [vstep, ↓reduceIte, c1, nm_gD, g1]
  refine W_filter (p := fun p => decide (p.1 = (1, 1))) (g := fun _ => .int 1) ?_ (by unfold lineN; omega) (by rfl) ?_
  · intro p _
    have e : D.eqv (pI p.1) (.tup [.int 1, .int 1]) = decide (p.1 = (1, 1)) := tells_pI.beq p.1 (1, 1)
    have f1 : D.fine (.tup [.int 1, .int 1]) 64 = true := fn_pI (1, 1) 63
    simp only [vstep, ↓reduceIte, hun, fn_pI, f1, e]
    by_cases q : p.1 = (1, 1)
    · simp only [vstep, ↓reduceIte, q]
    · simp only [vstep, ↓reduceIte, q]
  · have e1 : (l.filter fun p => decide (p.1 = (1, 1))).map (fun _ => D.int 1) = ((l.filter fun p => decide (p.1 = (1, 1))).map fun _ => (1 : Int)).map D.int := by rw [List.map_map] <;> rfl
    generalize hA : ((l.filter fun p => decide (p.1 = (1, 1))).map fun _ => (1 : Int)) = A at e1
    have hAl : A.length ≤ l.length := by rw [← hA, List.length_map]; exact List.length_filter_le _ _
    simp only [vstep, ↓reduceIte, e1, segD_tail, zipD_enc]
    refine W_for (fun p ρ => ∃ (o1 o2 : Option VS.D), ρ = [.val (gD g), .val (.tup (l.map pairD)), .own (.lst ((A ++ p.flatMap fun pq => rootsF (gapF pq.1 pq.2)).map D.int)), jk o1, jk o2, .no, .no]) ⟨none, none, by simp [jk]⟩ ?_ ?_
    · rintro p ⟨u, v⟩ post hp ρ ⟨o1, o2, rfl⟩
      have hm : (u, v) ∈ l.zip l.tail := (pfx hp).1
      have hpl := (pfx hp).2
      have hzl := zip_tail_len l
      have hz := zip_mem hm
      have hu := hG.ok u hz.1
      have hv := hG.ok v hz.2
      have hs := hG.size hz.1
      have c2 := t_gap_of (n := n + 5) (p := u) (q := v) (b := 13) hu.2.2.2.2.2 hv.2.2.2.2.2 (lt13 (by omega) hs.2) (by omega) (by omega) (by omega)
      have c3 := t20 (n := n) (f := gapF u v) (e := b + 13 + 2) (gapF_lean u v) (gap_ne hN hm) (Bd.gapF hu.2.2.2.2.2 hv.2.2.2.2.2 (lt13 (by omega) hs.2)) (by omega) (gapF_len hu.2.2.2.2.1 hv.2.2.2.2.1)
      have hr := roots4 hG hN hm
      have h2 : (p.flatMap fun pq => rootsF (gapF pq.1 pq.2)).length ≤ 4 * p.length := by
        have key : ∀ m : List (GP × GP), (∀ pq ∈ m, pq ∈ l.zip l.tail) → (m.flatMap fun pq => rootsF (gapF pq.1 pq.2)).length ≤ 4 * m.length := fun m => by
          induction m with
          | nil => intro _; simp
          | cons pq m ih =>
            intro hm
            rw [List.flatMap_cons, List.length_append, List.length_cons]
            have := ih fun x hx => hm x (List.mem_cons_of_mem _ hx)
            have := roots4 hG hN (p := pq.1) (q := pq.2) (hm pq List.mem_cons_self)
            omega
        exact key p fun pq hpq => by rw [hp]; exact List.mem_append_left _ hpq
      have hlen : (A ++ p.flatMap fun pq => rootsF (gapF pq.1 pq.2)).length + (rootsF (gapF u v)).length ≤ lineN := by
        rw [List.length_append]; unfold lineN; omega
      have hex : appD .extend (.lst ((A ++ p.flatMap fun pq => rootsF (gapF pq.1 pq.2)).map D.int)) (tupI (rootsF (gapF u v))) = some (.lst (((A ++ p.flatMap fun pq => rootsF (gapF pq.1 pq.2)) ++ rootsF (gapF u v)).map D.int)) := by
        unfold tupI
        rw [app_et, if_pos (by rw [List.length_map, List.length_map]; exact hlen), ← List.map_append]
      simp only [vstep, ↓reduceIte, c2, c3, nm_tupI, hex]
      exact LQ_nx ⟨some (pairD u), some (pairD v), by rw [List.flatMap_append, List.flatMap_cons, List.flatMap_nil, List.append_nil, List.append_assoc] <;> rfl⟩
    · rintro ρ ⟨o1, o2, rfl⟩
      have e2 : A ++ (l.zip l.tail).flatMap (fun pq => rootsF (gapF pq.1 pq.2)) = oddS l := by
        rw [← hA] <;> rfl
      have hlen := oddS_len hG hN
      have hss := sset_lst (l := oddS l) (by omega)
      simp only [vstep, ↓reduceIte, e2, hss, W_eq]
      rfl
/-- the walk at a value, short -/
def shW (g : GW) (m : Int) : Int × List Pr := (ev g.1 m, shV (atV g.2 m))
theorem walkAt_at (g : GW) (m : Int) : walkAt g m = (ev g.1 m, atV g.2 m) := rfl
theorem szP_at {b : Nat} {l : List GP} {m : Int} (h : Gd b 5000 l) (h1 : 1 ≤ m) : szP (atV l m) ≤ 5000 * m := by
  have key : ∀ l : List GP, (∀ p ∈ l, 1 ≤ p.1.1 ∧ 0 ≤ p.1.2) → (l.map (·.1.2)).sum ≤ 1 → szP (atV l m) ≤ (l.map (·.1.1)).foldl (· * ·) 1 * m ∧ ((l.map (·.1.2)).sum ≤ 0 → szP (atV l m) ≤ (l.map (·.1.1)).foldl (· * ·) 1) := fun l => by
    induction l with
    | nil => intro _ _; exact ⟨by show (1 : Int) ≤ 1 * m; omega, fun _ => Int.le_refl _⟩
    | cons p l ih =>
      intro hp hs
      have e : szP (atV (p :: l) m) = sizeAt p.1 m * szP (atV l m) := by
        have := szP_app [(sizeAt p.1 m, ev p.2 m)] (atV l m)
        rw [List.singleton_append] at this
        show szP ((sizeAt p.1 m, ev p.2 m) :: atV l m) = _
        rw [this]
        unfold szP
        simp
      have e2 : ((p :: l).map (·.1.1)).foldl (· * ·) 1 = p.1.1 * (l.map (·.1.1)).foldl (· * ·) 1 := by
        rw [List.map_cons, List.foldl_cons, Int.one_mul, K81.foldl_mul]
      have p0 := hp p List.mem_cons_self
      have hl : ∀ q ∈ l, 1 ≤ q.1.1 ∧ 0 ≤ q.1.2 := fun q hq => hp q (List.mem_cons_of_mem _ hq)
      have sn : 0 ≤ (l.map (·.1.2)).sum := (sum_nn _ fun x hx => by
        obtain ⟨q, hq, rfl⟩ := List.mem_map.mp hx
        exact (hl q hq).2).1
      rw [List.map_cons, List.sum_cons] at hs
      obtain ⟨i1, i2⟩ := ih hl (by omega)
      have pp : 1 ≤ (l.map (·.1.1)).foldl (· * ·) 1 := prod_pos1 _ fun x hx => by
        obtain ⟨q, hq, rfl⟩ := List.mem_map.mp hx
        exact (hl q hq).1
      rw [e, e2, List.map_cons, List.sum_cons]
      unfold LW.sizeAt
      split
      · rename_i w
        have i3 := i2 (by omega)
        refine ⟨?_, fun z => by omega⟩
        have := Int.mul_le_mul (Int.le_refl (p.1.1 * m)) i3 (by
          have := szP_pos (l := atV l m) fun q hq => by
            obtain ⟨r, hr, rfl⟩ := List.mem_map.mp hq
            exact sizeAt_pos (hl r hr).1 h1
          omega) (Int.mul_nonneg (by omega) (by omega))
        rw [Int.mul_right_comm p.1.1 m ((l.map (·.1.1)).foldl (· * ·) 1)] at this
        exact this
      · have hq := szP_pos (l := atV l m) fun q hq => by
          obtain ⟨r, hr, rfl⟩ := List.mem_map.mp hq
          exact sizeAt_pos (hl r hr).1 h1
        refine ⟨?_, fun z => ?_⟩
        · rw [Int.mul_assoc]
          exact Int.mul_le_mul (Int.le_refl _) i1 (by omega) (by omega)
        · exact Int.mul_le_mul (Int.le_refl _) (i2 (by omega)) (by omega) (by omega)
  have h2 := (key l (fun p hp => ⟨(h.ok p hp).1, (h.ok p hp).2.1⟩) h.sum).1
  have h3 := Int.mul_le_mul h.prod (Int.le_refl m) (by omega) (by decide)
  omega
theorem t_short_walk {n e b : Nat} {g : GW} {m : Int} (hg : Gd b 5000 g.2) (h1 : 1 ≤ m) (hm : Lt 45 m) (hb : Bd e g.1) (he : b ≤ e) (he2 : 45 ≤ e) (he3 : e ≤ 10000) (l1 : g.1.length ≤ 4) (hl : g.2.length ≤ 100) : run P (n + 3) i_short_walk [gD g, .int m] = .ok (wD (shW g m)) := by
  refine W_runE rfl rfl ?_
  have c1 := t_walk_in (n := n) (e := e) (g := g) (m := m) (hm.mono he2) hb (fun p hp => (hg.ok p hp).2.2.2.2.2.mono he) l1 (fun p hp => ⟨(hg.ok p hp).2.2.2.2.1, (hg.size hp).1, (hg.size hp).2, (hg.ok p hp).2.1, (hg.ok p hp).2.2.1⟩) hl he3
  rw [walkAt_at] at c1
  have hsz := szP_at hg h1
  have hmm : m < 35184372088832 := by unfold Lt at hm; omega
  have c2 := t_short_in (n := n + 1) (l := atV g.2 m) (fun p hp => by
    obtain ⟨q, hq, rfl⟩ := List.mem_map.mp hp
    exact sizeAt_pos (hg.ok q hq).1 h1) (by omega) (by unfold atV; rw [List.length_map]; omega)
  have hun : ∀ {C : Nat → List VS.D → CR} {ts : Ts} {ρ : En}, bindT C (.t ts) (wD (ev g.1 m, atV g.2 m)) ρ = bindTs C ts [.int (ev g.1 m), .tup ((atV g.2 m).map pI)] ρ := bT_t
  simp only [vstep, ↓reduceIte, c1, nm_wD, hun, c2, nms_map nm_pI, W_eq]
  rfl
end LW
set_option Elab.async false
set_option linter.all false
set_option maxRecDepth 100000
/-! Lg81e: likeness of two. -/
namespace LW
open PySem VS VT K80 K81
theorem t_size_form {n : Nat} {s : Int × Int} : run P (n + 1) i_size_form [pI s] = .ok (tupI (sizeForm s)) := by
  refine W_runE rfl rfl ?_
  have h0 : sem .idx [pI s, .int 0] = some (.int s.1) := ix0 _ _
  have h1 : sem .idx [pI s, .int 1] = some (.int s.2) := ix1 _ _ _
  unfold sizeForm
  by_cases q : s.2 = 0
  · simp only [vstep, ↓reduceIte, h0, h1, q, W_eq]
    rfl
  · simp only [vstep, ↓reduceIte, h0, h1, q, W_eq]
    rfl
theorem sizeForm_len (s : Int × Int) : (sizeForm s).length ≤ 2 := by
  unfold sizeForm
  split <;> simp
theorem Bd.sizeForm {b : Nat} {s : Int × Int} (h : Lt b s.1) : Bd b (sizeForm s) := fun c hc => by
  unfold K81.sizeForm at hc
  split at hc
  · rw [List.mem_singleton.mp hc]; exact h
  · simp only [List.mem_cons, List.not_mem_nil, or_false] at hc
    rcases hc with rfl | rfl
    · exact Lt.zero b
    · exact h
theorem t_dif {n b : Nat} {f g : List Int} (hg : Bd b g) (hb : b ≤ 10000) (l1 : f.length < 1000) (l2 : g.length < 1000) : run P (n + 2) i_scaled [tupI g, .int (-1)] = .ok (tupI (sclF g (-1))) ∧ run P (n + 2) i_added [tupI f, tupI (sclF g (-1))] = .ok (tupI (dif f g)) := by
  have h := sclF_len g (-1)
  exact ⟨t11 (n := n) (k := -1) (b := 1) hg (by unfold Lt; decide) (by omega) (by omega), t10 (n := n) (by omega) (by omega)⟩
theorem t_gaps_between {n b : Nat} {g h : GW} (hg : Gd b 5000 g.2) (hh : Gd b 5000 h.2) (hb : 13 ≤ b) (hb2 : b ≤ 1000) (b2 : Bd b h.1) (l1 : g.1.length ≤ 4) (l2 : h.1.length ≤ 4) (l3 : g.2.length ≤ 100) : run P (n + 3) i_gaps_between [gD g, gD h] = .ok (.lst ((gapsB g h).map tupI)) := by
  refine W_runE rfl rfl ?_
  have g0 : sem .idx [gD g, .int 0] = some (tupI g.1) := ix0 _ _
  have g1 : sem .idx [gD g, .int 1] = some (.tup (g.2.map pairD)) := ix1 _ _ _
  have h0 : sem .idx [gD h, .int 0] = some (tupI h.1) := ix0 _ _
  have h1 : sem .idx [gD h, .int 1] = some (.tup (h.2.map pairD)) := ix1 _ _ _
  obtain ⟨c1, c2⟩ := t_dif (n := n) (f := g.1) (g := h.1) b2 (by omega) (by omega) (by omega)
  simp only [vstep, ↓reduceIte, g0, g1, h0, h1, c1, c2, nm_tupI, zipD_enc]
  refine W_for (fun p ρ => ∃ (o1 o2 o3 o4 : Option VS.D), ρ = [.val (gD g), .val (gD h), .own (.lst ((dif g.1 h.1 :: p.flatMap fun pq => [dif (sizeForm pq.1.1) (sizeForm pq.2.1), dif pq.1.2 pq.2.2]).map tupI)), jk o1, jk o2, jk o3, jk o4, .no]) ⟨none, none, none, none, rfl⟩ ?_ ?_
  · rintro p ⟨u, v⟩ post hp ρ ⟨o1, o2, o3, o4, rfl⟩
    have hz := List.of_mem_zip (pfx hp).1
    have hpl := (pfx hp).2
    rw [List.length_zip] at hpl
    have hu := hg.ok u hz.1
    have hv := hh.ok v hz.2
    have su := hg.size hz.1
    have sv := hh.size hz.2
    have hu' : ∀ {C : Nat → List VS.D → CR} {ts : Ts} {ρ : En}, bindT C (.t ts) (pairD u) ρ = bindTs C ts [pI u.1, tupI u.2] ρ := bT_t
    have hv' : ∀ {C : Nat → List VS.D → CR} {ts : Ts} {ρ : En}, bindT C (.t ts) (pairD v) ρ = bindTs C ts [pI v.1, tupI v.2] ρ := bT_t
    have s1 := t_size_form (n := n + 1) (s := u.1)
    have s2 := t_size_form (n := n + 1) (s := v.1)
    have ls1 := sizeForm_len u.1
    have ls2 := sizeForm_len v.1
    obtain ⟨c3, c4⟩ := t_dif (n := n) (f := sizeForm u.1) (g := sizeForm v.1) (Bd.sizeForm (lt13 (by omega) sv.2)) (by omega) (by omega) (by omega)
    obtain ⟨c5, c6⟩ := t_dif (n := n) (f := u.2) (g := v.2) hv.2.2.2.2.2 (by omega) (by omega) (by omega)
    have hfm : ∀ m : List (GP × GP), (m.flatMap fun pq => [dif (sizeForm pq.1.1) (sizeForm pq.2.1), dif pq.1.2 pq.2.2]).length = 2 * m.length := fun m => by
      induction m with
      | nil => rfl
      | cons x m ih => rw [List.flatMap_cons, List.length_append, ih, List.length_cons, List.length_cons]; simp; omega
    have k0 := hfm p
    generalize hL : (dif g.1 h.1 :: p.flatMap fun pq => [dif (sizeForm pq.1.1) (sizeForm pq.2.1), dif pq.1.2 pq.2.2]) = L
    have hLl : L.length = 2 * p.length + 1 := by rw [← hL, List.length_cons, k0]
    have k1 : L.length < lineN := by unfold lineN; omega
    have k2 : (L.map tupI ++ [tupI (dif (sizeForm u.1) (sizeForm v.1))]).length < lineN := by rw [List.length_append, List.length_map, List.length_singleton]; unfold lineN; omega
    simp only [vstep, ↓reduceIte, hu', hv', s1, s2, c3, c4, c5, c6, nm_tupI, List.length_map, k1, k2]
    refine LQ_nx ⟨some (pI u.1), some (tupI u.2), some (pI v.1), some (tupI v.2), ?_⟩
    have e : dif g.1 h.1 :: (p ++ [(u, v)]).flatMap (fun pq => [dif (sizeForm pq.1.1) (sizeForm pq.2.1), dif pq.1.2 pq.2.2]) = L ++ [dif (sizeForm u.1) (sizeForm v.1)] ++ [dif u.2 v.2] := by
      rw [List.flatMap_append, ← List.cons_append, hL] <;> simp
    rw [e, List.map_append, List.map_append] <;> rfl
  · rintro ρ ⟨o1, o2, o3, o4, rfl⟩
    rw [show (dif g.1 h.1 :: (g.2.zip h.2).flatMap fun pq => [dif (sizeForm pq.1.1) (sizeForm pq.2.1), dif pq.1.2 pq.2.2]) = gapsA g h from rfl]
    have hl : (gapsA g h).length ≤ 201 := by
      unfold gapsA
      rw [List.length_cons]
      have hfm : ∀ m : List (GP × GP), (m.flatMap fun pq => [dif (sizeForm pq.1.1) (sizeForm pq.2.1), dif pq.1.2 pq.2.2]).length = 2 * m.length := fun m => by
        induction m with
        | nil => rfl
        | cons x m ih => rw [List.flatMap_cons, List.length_append, ih, List.length_cons, List.length_cons]; simp; omega
      rw [hfm, List.length_zip]
      omega
    simp only [vstep, ↓reduceIte]
    refine W_filter (p := fun f => decide (f ≠ [])) (g := tupI) ?_ (by unfold lineN; omega) (by rfl) ?_
    · intro f _
      simp only [vstep, ↓reduceIte, f_tupI, eqv_tupI]
      by_cases z : f = []
      · simp only [vstep, ↓reduceIte, z, List.isEmpty_nil, ne_eq]
      · have z1 : f.isEmpty = false := by simpa using z
        simp only [vstep, ↓reduceIte, z, z1, ne_eq]
    · simp only [vstep, ↓reduceIte, W_eq]
      rfl
end LW
set_option Elab.async false
set_option linter.all false
set_option maxRecDepth 100000
/-! Lg81f: the verdict on two; what is asked. -/
namespace LW
open PySem VS VT K80 K81
theorem im_tupI (f : List Int) : (tupI f).isMut = false := rfl
theorem tells_tupI : Tells tupI := tells_tup tells_int
theorem tells_pairD : Tells pairD := fun a b => by
  unfold pairD
  rw [e_tup, e_cons, e_cons, e_nil, Bool.and_eq_true, Bool.and_eq_true, tells_pI, tells_tupI]
  constructor
  · rintro ⟨h1, h2, _⟩; exact Prod.ext h1 h2
  · rintro rfl; exact ⟨rfl, rfl, rfl⟩
theorem tells_gD : Tells gD := fun a b => by
  unfold gD
  rw [e_tup, e_cons, e_cons, e_nil, Bool.and_eq_true, Bool.and_eq_true, tells_tupI, tells_tup tells_pairD]
  constructor
  · rintro ⟨h1, h2, _⟩; exact Prod.ext h1 h2
  · rintro rfl; exact ⟨rfl, rfl, rfl⟩
theorem tells_wD : Tells wD := fun a b => by
  unfold wD
  rw [e_tup, e_cons, e_cons, e_nil, Bool.and_eq_true, Bool.and_eq_true, tells_int, tells_tup tells_pI]
  constructor
  · rintro ⟨h1, h2, _⟩; exact Prod.ext h1 h2
  · rintro rfl; exact ⟨rfl, rfl, rfl⟩
theorem fn_gD (g : GW) (n : Nat) : (gD g).fine (n + 4) = true := by
  unfold gD
  rw [f_tup, f_cons, f_cons, f_nil, f_tupI, f_tup, fines_map fun p => fn_pairD p n] <;> rfl
theorem fn_wD (w : Int × List Pr) (n : Nat) : (wD w).fine (n + 3) = true := by
  unfold wD
  rw [f_tup, f_cons, f_cons, f_nil, f_int, f_tup, fines_map fun p => fn_pI p n] <;> rfl
theorem insU_len (x : Int) : ∀ l : List Int, (insU x l).length ≤ l.length + 1
  | [] => by simp [insU]
  | y :: l => by
    unfold insU
    split
    · simp
    · split
      · simp
      · have := insU_len x l
        rw [List.length_cons, List.length_cons]; omega
theorem setI_len : ∀ l : List Int, (setI l).length ≤ l.length
  | [] => Nat.le_refl _
  | x :: l => by
    have := setI_len l
    have := insU_len x (setI l)
    show (insU x (setI l)).length ≤ _
    rw [List.length_cons]; omega
theorem ones_len : ∀ l : List GP, (∀ p ∈ l, 0 ≤ p.1.2) → ((l.filter fun p => decide (p.1 = (1, 1))).length : Int) ≤ (l.map (·.1.2)).sum
  | [], _ => Int.le_refl _
  | p :: l, h => by
    have ih := ones_len l fun q hq => h q (List.mem_cons_of_mem _ hq)
    have p0 := h p List.mem_cons_self
    rw [List.filter_cons, List.map_cons, List.sum_cons]
    split
    · rename_i w
      have w : p.1 = (1, 1) := by simpa using w
      rw [List.length_cons, w]
      show ((_ + 1 : Nat) : Int) ≤ 1 + _
      omega
    · omega
theorem oddS_len1 {l : List GP} {b : Nat} (h : Gd b 5000 l) (hn : Nrm mgG l) : (oddS l).length ≤ 1 + 4 * (l.length - 1) := by
  unfold oddS
  rw [List.length_append, List.length_map]
  have h1 := ones_len l fun p hp => (h.ok p hp).2.1
  have h0 := h.sum
  have h2 : ∀ m : List (GP × GP), (∀ pq ∈ m, pq ∈ l.zip l.tail) → (m.flatMap fun pq => rootsF (gapF pq.1 pq.2)).length ≤ 4 * m.length := fun m => by
    induction m with
    | nil => intro _; simp
    | cons pq m ih =>
      intro hm
      rw [List.flatMap_cons, List.length_append, List.length_cons]
      have := ih fun x hx => hm x (List.mem_cons_of_mem _ hx)
      have := roots4 h hn (p := pq.1) (q := pq.2) (hm pq List.mem_cons_self)
      omega
  have h3 := h2 (l.zip l.tail) fun _ h => h
  have h4 : (l.zip l.tail).length ≤ l.length - 1 := by rw [List.length_zip, List.length_tail]; omega
  omega
/-- a growing walk as it is asked of -/
structure Ask (g : GW) : Prop where
  gd : Gd 24 5000 g.2
  bd : Bd 24 g.1
  le : IsLean g.1
  l1 : g.1.length ≤ 4
  l2 : g.2.length ≤ 6
theorem Ask.okG {g : GW} (h : Ask g) : okG g := ⟨⟨h.le, h.l1⟩, fun q hq => ⟨⟨(h.gd.ok q hq).2.2.2.1, (h.gd.ok q hq).2.2.2.2.1⟩, (h.gd.size hq).1, (h.gd.size hq).2, (h.gd.ok q hq).2.1, (h.gd.ok q hq).2.2.1⟩, by have := h.l2; omega, h.gd.sum, h.gd.prod⟩
def genG (g : GW) : GW := (g.1, genP g.2)
theorem Ask.gen {g : GW} (h : Ask g) : Ask (genG g) := ⟨(genP_ok h.gd).1, h.bd, h.le, h.l1, Nat.le_trans (genP_ok h.gd).2.2.2.1 h.l2⟩
def spotsL (f s : GW) : List Int := setI (oddS f.2) ++ setI (oddS s.2) ++ (if f.2.length = s.2.length then headRoots (gapsB f s) else [])
theorem mem_spotsL {f s : GW} {m : Int} : m ∈ spotsL f s ↔ m ∈ spotsA f s := by
  have e : spotsA f s = oddS f.2 ++ oddS s.2 ++ (if f.2.length = s.2.length then headRoots (gapsB f s) else []) := by
    unfold spotsA headRoots
    rfl
  rw [e]
  unfold spotsL
  simp only [List.mem_append, mem_setI]
def vF (one other : GW) : Bool × List Int := if genG one = genG other then (true, []) else (false, (setI (spotsL (genG one) (genG other))).filter fun m => decide (shW one m = shW other m))
def vD (v : Bool × List Int) : VS.D := .tup [.bl v.1, tupI v.2]
theorem nm_tupD (l : List Int) : (tupD l).noMut = true := nm_tupI _
theorem t_need_both {n : Nat} {g h : GW} (hg : Ask g) (hh : Ask h) : run P (n + 7) i_need_both [gD g, gD h] = .ok .non := by
  refine W_runE rfl rfl ?_
  have c1 := t_need_growing (n := n) hg.okG
  have c2 := t_need_growing (n := n) hh.okG
  simp only [vstep, ↓reduceIte, c1, c2, W_eq]
theorem spots_lt {f s : GW} (hf : Ask f) (hs : Ask s) (nf : Nrm mgG f.2) (ns : Nrm mgG s.2) {m : Int} (hm : m ∈ spotsL f s) : 1 ≤ m ∧ Lt 45 m := by
  unfold spotsL at hm
  rcases List.mem_append.mp hm with hm | hm
  · rcases List.mem_append.mp hm with hm | hm
    · have hm := mem_setI.mp hm
      exact ⟨odd_pos nf hm, (oddS_lt hf.gd nf hm).mono (by omega)⟩
    · have hm := mem_setI.mp hm
      exact ⟨odd_pos ns hm, (oddS_lt hs.gd ns hm).mono (by omega)⟩
  · split at hm
    · cases q : gapsB f s with
      | nil => rw [q] at hm; nomatch hm
      | cons p ps =>
        rw [q] at hm
        have hm : m ∈ rootsF p := hm
        have hp : p ∈ gapsB f s := by rw [q]; exact List.mem_cons_self
        obtain ⟨hp1, hp2⟩ := List.mem_filter.mp hp
        have hb : Bd 26 p := by
          unfold gapsA at hp1
          have key : ∀ x y : List Int, Bd 24 x → Bd 24 y → Bd 26 (dif x y) := fun x y hx hy => by
            unfold dif
            exact Bd.mono (hx.addF (hy.sclF (b := 1) (by unfold Lt; decide))) (by omega)
          rcases List.mem_cons.mp hp1 with rfl | hp1
          · exact key _ _ hf.bd hs.bd
          · obtain ⟨⟨u, v⟩, huv, hp1⟩ := List.mem_flatMap.mp hp1
            have hz := List.of_mem_zip huv
            simp only [List.mem_cons, List.not_mem_nil, or_false] at hp1
            have su := hf.gd.size hz.1
            have sv := hs.gd.size hz.2
            rcases hp1 with rfl | rfl
            · exact key _ _ ((Bd.sizeForm (lt13 (by omega) su.2)).mono (by omega)) ((Bd.sizeForm (lt13 (by omega) sv.2)).mono (by omega))
            · exact key _ _ (hf.gd.ok u hz.1).2.2.2.2.2 (hs.gd.ok v hz.2).2.2.2.2.2
        exact ⟨((mem_rootsF (gapsA_lean hp1) (by simpa using hp2)).mp hm).1, (rootsF_lt hb hm).mono (by omega)⟩
    · nomatch hm
theorem t_alike_in {n : Nat} {g h : GW} (hg : Ask g) (hh : Ask h) : run P (n + 11) i_alike_in [gD g, gD h] = .ok (vD (vF g h)) := by
  have ag := hg.gen
  have ah := hh.gen
  have ng : Nrm mgG (genG g).2 := (genP_ok hg.gd).2.1
  have nh : Nrm mgG (genG h).2 := (genP_ok hh.gd).2.1
  have c1 : run P (n + 10) i_general_in [gD g] = .ok (gD (genG g)) := t_general_in (n := n + 5) hg.gd (by omega) (by have := hg.l2; omega)
  have c2 : run P (n + 10) i_general_in [gD h] = .ok (gD (genG h)) := t_general_in (n := n + 5) hh.gd (by omega) (by have := hh.l2; omega)
  have c3 : run P (n + 10) i_odd_in [gD g] = .ok (tupI (setI (oddS (genG g).2))) := t_odd_in (n := n) hg.gd (by omega) (by have := hg.l2; omega)
  have c4 : run P (n + 10) i_odd_in [gD h] = .ok (tupI (setI (oddS (genG h).2))) := t_odd_in (n := n) hh.gd (by omega) (by have := hh.l2; omega)
  refine W_runE rfl rfl ?_
  unfold vF
  have sl := fun m hm => spots_lt ag ah ng nh (m := m) hm
  by_cases q : genG g = genG h
  · rw [if_pos q]
    simp only [vstep, ↓reduceIte, c1, c2, nm_gD, fn_gD, tells_gD.beq, q, W_eq]
    rfl
  · rw [if_neg q]
    have o1 := oddS_len1 ag.gd ng
    have o2 := oddS_len1 ah.gd nh
    have p1 := setI_len (oddS (genG g).2)
    have p2 := setI_len (oddS (genG h).2)
    have a1 := ag.l2
    have a2 := ah.l2
    have x1 : sem .idx [gD (genG g), .int 1] = some (.tup ((genG g).2.map pairD)) := ix1 _ _ _
    have x2 : sem .idx [gD (genG h), .int 1] = some (.tup ((genG h).2.map pairD)) := ix1 _ _ _
    have add : ∀ x y : List Int, x.length + y.length ≤ lineN → sem .add [tupI x, tupI y] = some (tupI (x ++ y)) := fun x y hxy => by
      unfold tupI
      rw [s_addt, if_pos (by rw [List.length_map, List.length_map]; exact hxy), ← List.map_append]
    have s1 := add (setI (oddS (genG g).2)) (setI (oddS (genG h).2)) (by unfold lineN; omega)
    have rest : ∀ (sp : List Int), sp = spotsL (genG g) (genG h) → sp.length < 64 → W (fun m => outE none m = .ok (vD (false, (setI (spotsL (genG g) (genG h))).filter fun m => decide (shW g m = shW h m)))) (denSs (run P (n + 10)) false (tlSs 4 f_alike_in.body) [.val (gD g), .val (gD h), .val (tupI sp), .val (gD (genG g)), .val (gD (genG h)), .no]) := by
      rintro sp rfl hlen
      have hss : sem .sset [tupI (spotsL (genG g) (genG h))] = some (.lst ((setI (spotsL (genG g) (genG h))).map D.int)) := by
        unfold tupI
        rw [s_ssett, if_pos hlen]
      have hsl := setI_len (spotsL (genG g) (genG h))
      simp only [tlSs, f_alike_in, vstep, ↓reduceIte, hss]
      refine W_filter (p := fun m => decide (shW g m = shW h m)) (g := D.int) ?_ (by unfold lineN; omega) (by rfl) ?_
      · intro m hm
        obtain ⟨m1, m2⟩ := sl m (mem_setI.mp hm)
        have d1 : run P (n + 10) i_short_walk [gD g, .int m] = .ok (wD (shW g m)) := t_short_walk (n := n + 7) (e := 45) hg.gd m1 m2 (hg.bd.mono (by omega)) (by omega) (by omega) (by omega) hg.l1 (by have := hg.l2; omega)
        have d2 : run P (n + 10) i_short_walk [gD h, .int m] = .ok (wD (shW h m)) := t_short_walk (n := n + 7) (e := 45) hh.gd m1 m2 (hh.bd.mono (by omega)) (by omega) (by omega) (by omega) hh.l1 (by have := hh.l2; omega)
        simp only [vstep, ↓reduceIte, d1, d2, nm_wD, fn_wD, tells_wD.beq]
        by_cases z : shW g m = shW h m
        · simp only [vstep, ↓reduceIte, z]
        · simp only [vstep, ↓reduceIte, z]
      · simp only [vstep, ↓reduceIte, W_eq]
        rfl
    simp only [tlSs, f_alike_in] at rest
    by_cases w : (genG g).2.length = (genG h).2.length
    · have c5 := t_gaps_between (n := n + 7) (b := 24) ag.gd ah.gd (by omega) (by omega) ah.bd ag.l1 ah.l1 (by omega)
      have gne := gapsB_ne ag.gd ah.gd ag.le ah.le w q
      have hl3 : ∀ f ∈ gapsA (genG g) (genG h), f.length ≤ 4 ∧ Bd 26 f := fun f hf => by
        have key : ∀ x y : List Int, Bd 24 x → Bd 24 y → Bd 26 (dif x y) := fun x y hx hy => by
          unfold dif
          exact Bd.mono (hx.addF (hy.sclF (b := 1) (by unfold Lt; decide))) (by omega)
        unfold gapsA at hf
        rcases List.mem_cons.mp hf with rfl | hf
        · exact ⟨dif_len ag.l1 ah.l1, key _ _ ag.bd ah.bd⟩
        · obtain ⟨⟨u, v⟩, huv, hf⟩ := List.mem_flatMap.mp hf
          have hz := List.of_mem_zip huv
          have su := ag.gd.size hz.1
          have sv := ah.gd.size hz.2
          have y1 := sizeForm_len u.1
          have y2 := sizeForm_len v.1
          simp only [List.mem_cons, List.not_mem_nil, or_false] at hf
          rcases hf with rfl | rfl
          · exact ⟨dif_len (by omega) (by omega), key _ _ ((Bd.sizeForm (lt13 (by omega) su.2)).mono (by omega)) ((Bd.sizeForm (lt13 (by omega) sv.2)).mono (by omega))⟩
          · exact ⟨dif_len (ag.gd.ok u hz.1).2.2.2.2.1 (ah.gd.ok v hz.2).2.2.2.2.1, key _ _ (ag.gd.ok u hz.1).2.2.2.2.2 (ah.gd.ok v hz.2).2.2.2.2.2⟩
      have hsp : spotsL (genG g) (genG h) = setI (oddS (genG g).2) ++ setI (oddS (genG h).2) ++ headRoots (gapsB (genG g) (genG h)) := by
        unfold spotsL
        rw [if_pos w]
      cases hB : gapsB (genG g) (genG h) with
      | nil => exact absurd hB gne
      | cons f fs =>
        rw [hB] at c5 hsp
        have hf : f ∈ gapsB (genG g) (genG h) := by rw [hB]; exact List.mem_cons_self
        obtain ⟨hf1, hf2⟩ := List.mem_filter.mp hf
        obtain ⟨fl, fb⟩ := hl3 f hf1
        have fne : f ≠ [] := by simpa using hf2
        have c6 : run P (n + 10) i_roots_in [tupI f] = .ok (tupI (rootsF f)) := t20 (n := n + 1) (gapsA_lean hf1) fne fb (by omega) (by omega)
        have rl := rootsF_len (gapsA_lean hf1) fne (by omega)
        have s2 := add (setI (oddS (genG g).2) ++ setI (oddS (genG h).2)) (rootsF f) (by rw [List.length_append]; unfold lineN; omega)
        have wi : ((genG g).2.length : Int) = (genG h).2.length := by omega
        have fin := rest (setI (oddS (genG g).2) ++ setI (oddS (genG h).2) ++ rootsF f) hsp.symm (by rw [List.length_append, List.length_append]; omega)
        have nl : (D.lst ((f :: fs).map tupI)).noMut = false := nm_lst _
        rw [List.map_cons] at c5 nl
        simp only [vstep, ↓reduceIte, c1, c2, nm_gD, fn_gD, tells_gD.beq, q, c3, c4, nm_tupI, s1, x1, x2, List.length_map, wi, c5, nl, ix0, c6, s2, im_tupI] at fin ⊢
        exact fin
    · have hsp : spotsL (genG g) (genG h) = setI (oddS (genG g).2) ++ setI (oddS (genG h).2) := by
        unfold spotsL
        rw [if_neg w, List.append_nil]
      have wi : (((genG g).2.length : Int) == (genG h).2.length) = false := by
        have : ¬ ((genG g).2.length : Int) = (genG h).2.length := by omega
        simpa using this
      have wi2 : ¬ ((genG g).2.length : Int) = (genG h).2.length := by omega
      have fin := rest (setI (oddS (genG g).2) ++ setI (oddS (genG h).2)) hsp.symm (by rw [List.length_append]; omega)
      simp only [vstep, ↓reduceIte, c1, c2, nm_gD, fn_gD, tells_gD.beq, q, c3, c4, nm_tupI, s1, x1, x2, List.length_map, wi, wi2, im_tupI] at fin ⊢
      exact fin
theorem nm_vD (v : Bool × List Int) : (vD v).noMut = true := by unfold vD; rw [nm_tup, nms_cons, nms_cons, nms_nil, nm_bl, nm_tupI] <;> rfl
theorem t_alike_values {n : Nat} {g h : GW} (hg : Ask g) (hh : Ask h) : run P (n + 12) i_alike_values [gD g, gD h] = .ok (vD (vF g h)) := by
  refine W_runE rfl rfl ?_
  have c1 := t_need_both (n := n + 4) hg hh
  have c2 := t_alike_in (n := n) hg hh
  simp only [vstep, ↓reduceIte, c1, c2, nm_vD, W_eq]
end LW
set_option Elab.async false
set_option linter.all false
set_option maxRecDepth 100000
/-! Lg81ga: values of walks as they are asked of; parts of lists of pairs. -/
namespace LW
open PySem VS VT K80 K81
theorem at_small {b : Nat} {l : List GP} {m : Int} (hg : Gd b 5000 l) (h1 : 1 ≤ m) (hm : Lt 45 m) : (∀ p ∈ atV l m, 1 ≤ p.1) ∧ szP (atV l m) < 18446744073709551616 := by
  have hsz := szP_at hg h1
  have hmm : m < 35184372088832 := by unfold Lt at hm; omega
  refine ⟨fun p hp => ?_, by omega⟩
  obtain ⟨q, hq, rfl⟩ := List.mem_map.mp hp
  exact sizeAt_pos (hg.ok q hq).1 h1
theorem atV_len (l : List GP) (m : Int) : (atV l m).length = l.length := by unfold atV; rw [List.length_map]
theorem Ask.lat {n : Nat} {g : GW} {m : Int} (h : Ask g) (hm : Lt 45 m) : run P (n + 3) i__law_at [gD g, .int m] = .ok (wD (ev g.1 m, atV g.2 m)) := by
  have := t_lat (n := n) (a := 45) (g := g) (m := m) hm (h.bd.mono (by omega)) (fun p hp => (h.gd.ok p hp).2.2.2.2.2.mono (by omega)) (by omega) (by have := h.l1; omega) (fun p hp => ⟨by have := (h.gd.ok p hp).2.2.2.2.1; omega, h.okG.2.1 p hp |>.2⟩) (by have := h.l2; omega)
  exact this
theorem _root_.K81.Gd.swap {b : Nat} {most : Int} {x m m' y : List GP} (h : Gd b most (x ++ m ++ y)) (ho : ∀ p ∈ m', 1 ≤ p.1.1 ∧ 0 ≤ p.1.2 ∧ p.1.2 ≤ 1 ∧ IsLean p.2 ∧ p.2.length ≤ 4 ∧ Bd b p.2) (hs : (m'.map (·.1.2)).sum = (m.map (·.1.2)).sum) (hp : (m'.map (·.1.1)).foldl (· * ·) 1 = (m.map (·.1.1)).foldl (· * ·) 1) : Gd b most (x ++ m' ++ y) := by
  refine ⟨fun p hp' => ?_, ?_, ?_⟩
  · rcases List.mem_append.mp hp' with w | w
    · rcases List.mem_append.mp w with w | w
      · exact h.ok p (by simp [w])
      · exact ho p w
    · exact h.ok p (by simp [w])
  · have := h.sum
    simp only [List.map_append, List.sum_append] at this ⊢
    rw [hs]; exact this
  · have := h.prod
    rw [List.map_append, List.map_append, prod_app2, prod_app2] at this ⊢
    rw [hp]; exact this
theorem Drn.ask {most : Int} {g : GW} (h : Drn most g) : Ask g where
  gd := ⟨fun p hp => ⟨(h.ok.2.1 p hp).2.1, (h.ok.2.1 p hp).2.2.2.1, (h.ok.2.1 p hp).2.2.2.2, (h.ok.2.1 p hp).1.1, by have := h.l2 p hp; omega, (h.b2 p hp).mono (by omega)⟩, h.ok.2.2.2.1, h.ok.2.2.2.2⟩
  bd := h.b1.mono (by omega)
  le := h.ok.1.1
  l1 := by have := h.l1; omega
  l2 := by have := h.len; omega
theorem take_mid {α : Type} {l : List α} {i : Nat} {a : α} (h : l[i]? = some a) : l = l.take i ++ [a] ++ l.drop (i + 1) := by
  have hi := (List.getElem?_eq_some_iff.mp h).1
  have e := (List.getElem?_eq_some_iff.mp h).2
  rw [← e, List.append_assoc, List.singleton_append, ← List.drop_eq_getElem_cons hi, List.take_append_drop]
theorem cut_takeG (l : List GP) {i : Nat} (h : i ≤ l.length) : cutD (l.map pairD) none (some (i : Int)) = (l.take i).map pairD := by rw [cut_take _ (by rw [List.length_map]; exact h), List.map_take]
theorem cut_dropG (l : List GP) (i : Nat) : cutD (l.map pairD) (some (i : Int)) none = (l.drop i).map pairD := by rw [cut_drop, List.map_drop]
theorem cut_dropG1 (l : List GP) (i : Nat) : cutD (l.map pairD) (some ((i : Int) + 1)) none = (l.drop (i + 1)).map pairD := by
  rw [show (i : Int) + 1 = ((i + 1 : Nat) : Int) by omega, cut_dropG]
end LW
set_option Elab.async false
set_option linter.all false
/-! K82A: breaks of rows of sizes, as numbers and as growing sizes; plain. -/
namespace K82
open K80 K81
abbrev Sz := Int × Int
/-- the product of growing sizes -/
def mulS (s t : Sz) : Sz := (s.1 * t.1, s.2 + t.2)
def prS : List Sz → Sz
  | [] => (1, 0)
  | s :: r => mulS s (prS r)
theorem mulS_assoc (a b c : Sz) : mulS (mulS a b) c = mulS a (mulS b c) := by
  unfold mulS
  simp [Int.mul_assoc, Int.add_assoc]
theorem mulS_one (a : Sz) : mulS a (1, 0) = a := by unfold mulS; simp
theorem one_mulS (a : Sz) : mulS (1, 0) a = a := by unfold mulS; simp
theorem mulS_comm (a b : Sz) : mulS a b = mulS b a := by unfold mulS; rw [Int.mul_comm, Int.add_comm]
theorem prS_app : ∀ x y : List Sz, prS (x ++ y) = mulS (prS x) (prS y)
  | [], y => by rw [List.nil_append, prS, one_mulS]
  | s :: x, y => by rw [List.cons_append, prS, prS, prS_app x y, mulS_assoc]
/-- sizes in order -/
def OkS (l : List Sz) : Prop := (∀ s ∈ l, 1 ≤ s.1 ∧ 0 ≤ s.2) ∧ (prS l).2 ≤ 1
theorem prS_ok : ∀ {l : List Sz}, (∀ s ∈ l, 1 ≤ s.1 ∧ 0 ≤ s.2) → 1 ≤ (prS l).1 ∧ 0 ≤ (prS l).2
  | [], _ => by unfold prS; decide
  | s :: r, h => by
    have h1 := h s List.mem_cons_self
    have h2 := prS_ok (l := r) fun x hx => h x (List.mem_cons_of_mem _ hx)
    unfold prS mulS
    refine ⟨?_, ?_⟩
    · have := Int.mul_le_mul h1.1 h2.1 (by omega) (by omega)
      simpa using this
    · show 0 ≤ s.2 + (prS r).2
      omega
theorem OkS.app {x y : List Sz} (h : OkS (x ++ y)) : OkS x ∧ OkS y := by
  have hx : ∀ s ∈ x, 1 ≤ s.1 ∧ 0 ≤ s.2 := fun s hs => h.1 s (List.mem_append_left _ hs)
  have hy : ∀ s ∈ y, 1 ≤ s.1 ∧ 0 ≤ s.2 := fun s hs => h.1 s (List.mem_append_right _ hs)
  have h2 := h.2
  rw [prS_app] at h2
  have h2 : (prS x).2 + (prS y).2 ≤ 1 := h2
  have := (prS_ok hx).2
  have := (prS_ok hy).2
  exact ⟨⟨hx, by omega⟩, hy, by omega⟩
/-- the breaks of a row: products of its beginnings -/
def BrS (l : List Sz) (s : Sz) : Prop := ∃ x y, l = x ++ y ∧ x ≠ [] ∧ y ≠ [] ∧ prS x = s
def prN (l : List Int) : Int := l.foldl (· * ·) 1
theorem prN_app (x y : List Int) : prN (x ++ y) = prN x * prN y := prod_app2 x y
theorem prN_cons (a : Int) (x : List Int) : prN (a :: x) = a * prN x := prN_app [a] x |>.trans (by unfold prN; simp)
def BrN (l : List Int) (v : Int) : Prop := ∃ x y, l = x ++ y ∧ x ≠ [] ∧ y ≠ [] ∧ prN x = v
theorem prN_at : ∀ {l : List Sz} (m : Int), OkS l → prN (l.map fun s => sizeAt s m) = sizeAt (prS l) m
  | [], m, _ => by unfold prN prS sizeAt; simp
  | s :: r, m, h => by
    have h' := OkS.app (x := [s]) (y := r) h
    rw [List.map_cons, prN_cons, prN_at m h'.2]
    have a := h'.1.1 s (List.mem_singleton.mpr rfl)
    have b := prS_ok h'.2.1
    have c : s.2 + (prS r).2 ≤ 1 := h.2
    exact (sizeAt_mul a.2 b.2 c).symm
theorem BrS.at {l : List Sz} (h : OkS l) {s : Sz} (b : BrS l s) (m : Int) : BrN (l.map fun s => sizeAt s m) (sizeAt s m) := by
  obtain ⟨x, y, rfl, hx, hy, rfl⟩ := b
  refine ⟨x.map fun s => sizeAt s m, y.map fun s => sizeAt s m, List.map_append, by simpa using hx, by simpa using hy, prN_at m h.app.1⟩
theorem BrN.of {l : List Sz} (h : OkS l) {m v : Int} (b : BrN (l.map fun s => sizeAt s m) v) : ∃ s, BrS l s ∧ v = sizeAt s m := by
  obtain ⟨x, y, e, hx, hy, rfl⟩ := b
  obtain ⟨a, c, rfl, rfl, rfl⟩ := List.map_eq_append_iff.mp e
  exact ⟨prS a, ⟨a, c, rfl, by simpa using hx, by simpa using hy, rfl⟩, prN_at m h.app.1⟩
/-! ### short walks have fewer breaks -/
def fs (l : List Pr) : List Int := l.map (·.1)
theorem prN_big : ∀ {l : List Pr}, (∀ p ∈ l, 1 ≤ p.1) → prN (fs (l.filter big)) = prN (fs l)
  | [], _ => rfl
  | p :: l, h => by
    have ih := prN_big (l := l) fun q hq => h q (List.mem_cons_of_mem _ hq)
    have hp := h p List.mem_cons_self
    rw [List.filter_cons]
    by_cases hb : big p = true
    · rw [if_pos hb]
      show prN (p.1 :: fs (l.filter big)) = prN (p.1 :: fs l)
      rw [prN_cons, prN_cons, ih]
    · rw [if_neg hb, ih]
      have h1 : ¬ 1 < p.1 := by simpa [big] using hb
      show prN (fs l) = prN (p.1 :: fs l)
      rw [prN_cons, show p.1 = 1 by omega, Int.one_mul]
theorem br_big {l : List Pr} (h : ∀ p ∈ l, 1 ≤ p.1) {v : Int} (b : BrN (fs (l.filter big)) v) : BrN (fs l) v := by
  obtain ⟨x, y, e, hx, hy, rfl⟩ := b
  obtain ⟨a, c, e2, rfl, rfl⟩ := List.map_eq_append_iff.mp e
  obtain ⟨a', c', rfl, rfl, rfl⟩ := List.filter_eq_append_iff.mp e2
  refine ⟨fs a', fs c', List.map_append, fun z => hx ?_, fun z => hy ?_, (prN_big fun p hp => h p (List.mem_append_left _ hp)).symm⟩
  · have z : a' = [] := List.map_eq_nil_iff.mp z
    rw [z]; rfl
  · have z : c' = [] := List.map_eq_nil_iff.mp z
    rw [z]; rfl
theorem br_join {p q : Pr} (x y : List Pr) {v : Int} (b : BrN (fs (x ++ jnV p q :: y)) v) : BrN (fs (x ++ p :: q :: y)) v := by
  obtain ⟨u, w, e, hu, hw, rfl⟩ := b
  obtain ⟨a, c, e2, rfl, rfl⟩ := List.map_eq_append_iff.mp e
  rcases List.append_eq_append_iff.mp e2 with ⟨d, rfl, e3⟩ | ⟨d, rfl, e3⟩
  · -- a = x ++ d, jn :: y = d ++ c
    cases d with
    | nil =>
      rw [List.nil_append] at e3
      subst e3
      exact ⟨fs x, fs (p :: q :: y), by unfold fs; rw [List.map_append], by simpa [fs] using hu, by simp [fs], by rw [List.append_nil]; rfl⟩
    | cons d0 d =>
      rw [List.cons_append] at e3
      injection e3 with e4 e5
      subst e4 e5
      refine ⟨fs (x ++ p :: q :: d), fs c, by unfold fs; simp, by simp [fs], hw, ?_⟩
      unfold fs
      simp only [List.map_append, List.map_cons, prN_app, prN_cons]
      show _ = prN (List.map (·.1) x) * ((p.1 * q.1) * prN (List.map (·.1) d))
      rw [Int.mul_assoc p.1]
  · -- x = a ++ d, c = d ++ jn :: y
    subst e3
    refine ⟨fs a, fs (d ++ p :: q :: y), by unfold fs; simp, hu, by simp [fs], rfl⟩
theorem br_grp (l : List Pr) {v : Int} (b : BrN (fs (grp l)) v) : BrN (fs l) v := by
  rw [← norm_grp l.length l (Nat.le_refl _)] at b
  exact norm_ind (mg := mgV) (jn := jnV) (T := fun z => BrN (fs z) v → BrN (fs l) v) (fun x p q y _ hT hb => hT (br_join x y hb)) l.length l id b
theorem br_sh {l : List Pr} (h : ∀ p ∈ l, 1 ≤ p.1) {v : Int} (b : BrN (fs (shV l)) v) : BrN (fs l) v := br_big h (br_grp _ b)
end K82
set_option Elab.async false
set_option linter.all false
/-! K82B: at which values a growing walk is seen with a growing shape; plain. -/
namespace K82
open K80 K81
def szs (l : List GP) : List Sz := l.map (·.1)
theorem prS_foldl : ∀ l : List Sz, prS l = ((l.map (·.1)).foldl (· * ·) 1, (l.map (·.2)).sum)
  | [] => rfl
  | s :: r => by
    rw [prS, prS_foldl r, List.map_cons, List.map_cons, List.sum_cons]
    unfold mulS
    rw [show (s.1 :: r.map (·.1)).foldl (· * ·) 1 = s.1 * (r.map (·.1)).foldl (· * ·) 1 from prN_cons _ _]
theorem okS_gd {b : Nat} {most : Int} {l : List GP} (h : Gd b most l) : OkS (szs l) := by
  refine ⟨fun s hs => ?_, ?_⟩
  · obtain ⟨p, hp, rfl⟩ := List.mem_map.mp hs
    exact ⟨(h.ok p hp).1, (h.ok p hp).2.1⟩
  · rw [prS_foldl]
    have := h.sum
    have e : ((szs l).map (·.2)).sum = (l.map (·.1.2)).sum := by unfold szs; rw [List.map_map] <;> rfl
    exact e ▸ this
theorem fs_at (l : List GP) (m : Int) : fs (atV l m) = (szs l).map fun s => sizeAt s m := by
  unfold fs atV szs
  rw [List.map_map, List.map_map]
  rfl
/-- all breaks of the walk's short walk at m are breaks of the shape at m -/
def SeenV (l : List GP) (sh : List Sz) (m : Int) : Prop := ∀ v, BrN (fs (shV (atV l m))) v → BrN (sh.map fun s => sizeAt s m) v
/-- in general -/
def SeenG (l : List GP) (sh : List Sz) : Prop := ∀ s, BrS (szs l) s → BrS sh s
theorem seen_gen {b : Nat} {most m : Int} {l : List GP} {sh : List Sz} (h : Gd b most l) (hs : OkS sh) (hm : 1 ≤ m) (g : SeenG l sh) : SeenV l sh m := fun v hv => by
  have pos : ∀ p ∈ atV l m, 1 ≤ p.1 := fun p hp => by
    obtain ⟨q, hq, rfl⟩ := List.mem_map.mp hp
    exact sizeAt_pos (h.ok q hq).1 hm
  have hv := br_sh pos hv
  rw [fs_at] at hv
  obtain ⟨s, hb, rfl⟩ := BrN.of (okS_gd h) hv
  exact (g s hb).at hs m
/-- values where the one size is the other -/
def meetO (p q : Sz) : List Int := if p.2 ≠ q.2 ∧ q.1.fmod p.1 = 0 then [q.1.fdiv p.1] else []
def meetS (s t : Sz) : List Int := if s.2 > t.2 then meetO s t else meetO t s
theorem mem_meet {s t : Sz} {m : Int} (h1 : 1 ≤ s.1) (h2 : 0 ≤ s.2) (h3 : s.2 ≤ 1) (k1 : 1 ≤ t.1) (k2 : 0 ≤ t.2) (k3 : t.2 ≤ 1) (hm : 1 ≤ m) (hne : s ≠ t) (e : sizeAt s m = sizeAt t m) : m ∈ meetS s t := by
  have key : ∀ a b : Int, 1 ≤ a → a * m = b → b.fmod a = 0 ∧ b.fdiv a = m := fun a b ha e => by
    subst e
    refine ⟨Int.mul_fmod_right a m, Int.mul_fdiv_cancel_left m (by omega)⟩
  unfold meetS
  unfold sizeAt at e
  rcases (show s.2 = 0 ∨ s.2 = 1 by omega) with a | a <;> rcases (show t.2 = 0 ∨ t.2 = 1 by omega) with c | c
  · rw [if_neg (by omega), if_neg (by omega)] at e
    exact absurd (Prod.ext e (a.trans c.symm)) hne
  · rw [if_neg (by omega), if_pos c] at e
    rw [if_neg (by omega)]
    obtain ⟨x, y⟩ := key t.1 s.1 k1 e.symm
    unfold meetO
    rw [if_pos ⟨by omega, x⟩, y]
    exact List.mem_singleton.mpr rfl
  · rw [if_pos a, if_neg (by omega)] at e
    rw [if_pos (by omega)]
    obtain ⟨x, y⟩ := key s.1 t.1 h1 e
    unfold meetO
    rw [if_pos ⟨by omega, x⟩, y]
    exact List.mem_singleton.mpr rfl
  · rw [if_pos a, if_pos c] at e
    have : s.1 = t.1 := Int.eq_of_mul_eq_mul_right (by omega) e
    exact absurd (Prod.ext this (a.trans c.symm)) hne
theorem meet_pos {s t : Sz} {m : Int} (h1 : 1 ≤ s.1) (k1 : 1 ≤ t.1) (h : m ∈ meetS s t) : 1 ≤ m ∧ m ≤ s.1 + t.1 := by
  have key : ∀ a b : Int, 1 ≤ a → 1 ≤ b → b.fmod a = 0 → 1 ≤ b.fdiv a ∧ b.fdiv a ≤ b := fun a b ha hb e => by
    have h := Int.mul_fdiv_add_fmod b a
    rw [e, Int.add_zero] at h
    generalize b.fdiv a = q at h ⊢
    have hq : 1 ≤ q := by
      rcases Int.lt_or_le 0 q with hq | hq
      · omega
      · have := Int.mul_nonpos_of_nonneg_of_nonpos (a := a) (b := q) (by omega) hq
        omega
    refine ⟨hq, ?_⟩
    have := Int.mul_le_mul_of_nonneg_right (a := 1) (b := a) (c := q) ha (by omega)
    omega
  unfold meetS at h
  split at h
  all_goals
    unfold meetO at h
    split at h
    · rename_i c
      have := List.mem_singleton.mp h
      subst this
      first
        | (have := key s.1 t.1 h1 k1 c.2; omega)
        | (have := key t.1 s.1 k1 h1 c.2; omega)
    · cases h
theorem br_ok {l : List Sz} (h : OkS l) {s : Sz} (b : BrS l s) : 1 ≤ s.1 ∧ 0 ≤ s.2 ∧ s.2 ≤ 1 := by
  obtain ⟨x, y, rfl, _, _, rfl⟩ := b
  have h1 := h.app.1
  have h2 := prS_ok h1.1
  exact ⟨h2.1, h2.2, h1.2⟩
/-- a value at which it is seen though not in general is odd, or one where breaks meet -/
theorem seen_spot {b : Nat} {most m : Int} {l : List GP} {sh : List Sz} (h : Gd b most l) (hn : Nrm mgG l) (hp : ∀ p ∈ l, plainB p = true) (hs : OkS sh) (hm : 1 ≤ m) (hg : ¬ SeenG l sh) (hv : SeenV l sh m) :
    m ∈ oddS l ∨ ∃ s t, BrS (szs l) s ∧ BrS sh t ∧ m ∈ meetS s t := by
  by_cases ho : m ∈ oddS l
  · exact .inl ho
  · refine .inr ?_
    have hsh : shortV (atV l m) := Classical.not_not.mp fun z => ho ((odd_iff h hn hp hm).mpr z)
    have e := short_self h hm hsh
    obtain ⟨s, hs1, hs2⟩ : ∃ s, BrS (szs l) s ∧ ¬ BrS sh s := Classical.byContradiction fun z => hg fun s hb => Classical.byContradiction fun y => z ⟨s, hb, y⟩
    have h1 := hs1.at (okS_gd h) m
    rw [← fs_at, ← e] at h1
    obtain ⟨t, ht, e2⟩ := BrN.of hs (hv _ h1)
    have a := br_ok (okS_gd h) hs1
    have c := br_ok hs ht
    exact ⟨s, t, hs1, ht, mem_meet a.1 a.2.1 a.2.2 c.1 c.2.1 c.2.2 hm (fun z => hs2 (z ▸ ht)) e2⟩
end K82
set_option Elab.async false
set_option linter.all false
/-! K82C: a growing walk told with a growing shape, in general; plain. -/
namespace K82
open K80 K81
theorem co_sizedF (f : List Int) (s : Sz) (h : s.2 = 0 ∨ s.2 = 1) (i : Nat) : co (sizedF f s) i = if s.2 = 1 then (match i with | 0 => 0 | j + 1 => co f j * s.1) else co f i * s.1 := by
  unfold sizedF
  rcases h with h | h
  · rw [if_neg (by omega), if_neg (by omega), co_sclF]
  · rw [if_pos h]
    by_cases e : sclF f s.1 = []
    · rw [if_neg (by simp [e])]
      cases i with
      | zero => rw [e]; rfl
      | succ j =>
        show co (sclF f s.1) (j + 1) = co f j * s.1
        rw [← co_sclF, e]
        rfl
    · rw [if_pos ⟨h, e⟩]
      cases i with
      | zero => rfl
      | succ j =>
        show co (sclF f s.1) j = _
        rw [co_sclF]
theorem sizedF_mul (f : List Int) {s t : Sz} (hs : 0 ≤ s.2) (ht : 0 ≤ t.2) (h : s.2 + t.2 ≤ 1) : sizedF (sizedF f s) t = sizedF f (mulS s t) := by
  refine lean_eq (sizedF_lean _ _) (sizedF_lean _ _) fun i => ?_
  rw [co_sizedF _ t (by omega), co_sizedF f (mulS s t) (by show s.2 + t.2 = 0 ∨ s.2 + t.2 = 1; omega)]
  show _ = if s.2 + t.2 = 1 then (match i with | 0 => 0 | j + 1 => co f j * (s.1 * t.1)) else co f i * (s.1 * t.1)
  rcases (show t.2 = 0 ∨ t.2 = 1 by omega) with a | a
  · rw [if_neg (by omega), co_sizedF f s (by omega)]
    rcases (show s.2 = 0 ∨ s.2 = 1 by omega) with c | c
    · rw [if_neg (by omega), if_neg (by omega), Int.mul_assoc]
    · rw [if_pos c, if_pos (by omega)]
      cases i with
      | zero => exact Int.zero_mul _
      | succ j => exact Int.mul_assoc _ _ _
  · rw [if_pos a, if_pos (by omega)]
    cases i with
    | zero => rfl
    | succ j =>
      show co (sizedF f s) j * t.1 = co f j * (s.1 * t.1)
      rw [co_sizedF f s (by omega), if_neg (by omega), Int.mul_assoc]
theorem sizedF_one {f : List Int} (h : IsLean f) : sizedF f (1, 0) = f := by
  refine lean_eq (sizedF_lean _ _) h fun i => ?_
  rw [co_sizedF f _ (.inl rfl), if_neg (by decide), Int.mul_one]
theorem mgG_iff {p q : GP} (hq : IsLean q.2) : mgG p q = true ↔ q.2 = sizedF p.2 p.1 := by
  unfold mgG gapF
  rw [decide_eq_true_eq]
  refine ⟨fun h => dif_nil hq (sizedF_lean _ _) h, fun h => ?_⟩
  rw [h]
  exact lean_eq (dif_lean _ _) (fun k hk => absurd hk (by simp)) fun i => by
    have := co_dif (sizedF p.2 p.1) (sizedF p.2 p.1) i
    unfold dif at this
    rw [this]
    simp [co]
/-- pairs that go on from f, each from the one ahead -/
def Chn (f : List Int) : List GP → Prop
  | [] => True
  | a :: r => a.2 = f ∧ Chn (sizedF f a.1) r
/-- groups of pairs, each a pair of l taken apart -/
inductive Ref : List GP → List GP → Prop
  | nil : Ref [] []
  | cons {p : GP} {l g x : List GP} : g ≠ [] → Chn p.2 g → prS (szs g) = p.1 → Ref l x → Ref (p :: l) (g ++ x)
theorem chn_join {p q : GP} (y : List GP) : ∀ (x : List GP) (f : List Int), OkS (szs (x ++ p :: q :: y)) → Chn f (x ++ p :: q :: y) → Chn f (x ++ jnG p q :: y)
  | [], f, h, c => by
    obtain ⟨c1, c2, c3⟩ := c
    refine ⟨c1, ?_⟩
    have hp := h.1 p.1 (by simp [szs])
    have hq := h.1 q.1 (by simp [szs])
    have hs := h.2
    have h2 := (OkS.app (x := [p.1, q.1]) (y := szs y) h).1.2
    have h2 : p.1.2 + (q.1.2 + 0) ≤ 1 := h2
    rw [← c2, c2] at c3
    rw [sizedF_mul f hp.2 hq.2 (by omega)] at c3
    exact c3
  | a :: x, f, h, c => ⟨c.1, chn_join y x _ (OkS.app (x := [a.1]) (y := szs (x ++ p :: q :: y)) h).2 c.2⟩
theorem prS_join (x y : List GP) (p q : GP) : prS (szs (x ++ jnG p q :: y)) = prS (szs (x ++ p :: q :: y)) := by
  unfold szs
  simp only [List.map_append, List.map_cons, prS_app, prS]
  rw [show (jnG p q).1 = mulS p.1 q.1 from rfl, mulS_assoc]
theorem ref_prod : ∀ {l x : List GP}, Ref l x → prS (szs x) = prS (szs l)
  | _, _, .nil => rfl
  | _, _, .cons (p := p) (l := l) (g := g) (x := x) h1 h2 h3 r => by
    show prS (List.map (·.1) (g ++ x)) = mulS p.1 (prS (szs l))
    rw [List.map_append, prS_app, show prS (List.map (·.1) g) = p.1 from h3, show prS (List.map (·.1) x) = prS (szs l) from ref_prod r]
/-- the step that a chain has after it -/
theorem chn_last : ∀ (g : List GP) {f : List Int} {a : GP}, OkS (szs (g ++ [a])) → IsLean f → Chn f (g ++ [a]) → sizedF a.2 a.1 = sizedF f (prS (szs (g ++ [a])))
  | [], f, a, h, hl, c => by
    rw [show prS (szs ([] ++ [a])) = a.1 from mulS_one _, c.1]
  | b :: g, f, a, h, hl, c => by
    have h2 := OkS.app (x := [b.1]) (y := szs (g ++ [a])) h
    rw [chn_last g h2.2 (sizedF_lean _ _) c.2]
    have k1 := h.1 b.1 (by simp [szs])
    have k2 := prS_ok h2.2.1
    have k3 : b.1.2 + (prS (szs (g ++ [a]))).2 ≤ 1 := h.2
    exact sizedF_mul f k1.2 k2.2 k3
theorem ref_join {l : List GP} (hn : Nrm mgG l) (hl : ∀ p ∈ l, IsLean p.2) : ∀ {z : List GP}, Ref l z → OkS (szs z) → (∀ p ∈ z, IsLean p.2) → ∀ (x y : List GP) (p q : GP), mgG p q = true → z = x ++ p :: q :: y → Ref l (x ++ jnG p q :: y) := by
  intro z r
  induction r with
  | nil => intro _ _ x y p q _ e; exact absurd e (by simp)
  | @cons a l g w h1 h2 h3 r ih =>
    intro ho hz x y p q hm e
    have ho2 : OkS (szs g ++ szs w) := by have := ho; unfold szs at this ⊢; rw [List.map_append] at this; exact this
    have hn' : Nrm mgG l := by
      cases l with
      | nil => trivial
      | cons b l => exact hn.2
    rcases List.append_eq_append_iff.mp e with ⟨d, ex, ew⟩ | ⟨d, eg, ey⟩
    · -- x = g ++ d, w = d ++ p :: q :: y
      have := ih hn' (fun p hp => hl p (List.mem_cons_of_mem _ hp)) ho2.app.2 (fun p hp => hz p (List.mem_append_right _ hp)) d y p q hm ew
      rw [ex, List.append_assoc]
      exact .cons h1 h2 h3 this
    · -- g = x ++ d, p :: q :: y = d ++ w
      cases d with
      | nil =>
        rw [List.nil_append] at ey
        rw [List.append_nil] at eg
        have := ih hn' (fun p hp => hl p (List.mem_cons_of_mem _ hp)) ho2.app.2 (fun p hp => hz p (List.mem_append_right _ hp)) [] y p q hm ey.symm
        rw [← eg]
        exact .cons h1 h2 h3 this
      | cons d0 d =>
        rw [List.cons_append] at ey
        injection ey with e1 e2
        subst e1
        cases d with
        | nil =>
          -- between two groups
          exfalso
          rw [List.nil_append] at e2
          rw [← e2] at r
          generalize hw : q :: y = w' at r
          cases r with
          | nil => cases hw
          | @cons b l' g' x' k1 k2 k3 r' =>
            cases g' with
            | nil => exact k1 rfl
            | cons b0 g' =>
              rw [List.cons_append] at hw
              injection hw with hw1 hw2
              subst hw1
              have la := hl a List.mem_cons_self
              have lb := hl b (List.mem_cons_of_mem _ List.mem_cons_self)
              have e5 := chn_last x (by rw [← eg]; exact ho2.app.1) la (by rw [← eg]; exact h2)
              rw [← eg, h3] at e5
              have lq := hz q (by rw [e]; simp)
              have e6 := (mgG_iff lq).mp hm
              rw [e5, k2.1] at e6
              have e7 := hn.1
              rw [(mgG_iff (p := a) (q := b) lb).mpr e6] at e7
              cases e7
        | cons d1 d =>
          rw [List.cons_append] at e2
          injection e2 with e3 e4
          subst e3
          have := chn_join (p := p) (q := q) d x a.2 (by rw [← eg]; exact ho2.app.1) (by rw [← eg]; exact h2)
          rw [e4, show x ++ jnG p q :: (d ++ w) = (x ++ jnG p q :: d) ++ w by simp]
          exact .cons (by simp) this (by rw [prS_join, ← eg]; exact h3) r
/-- told apart and normal: it is that -/
theorem ref_self {l : List GP} : ∀ {z : List GP}, Ref l z → Nrm mgG z → (∀ p ∈ z, IsLean p.2) → z = l := by
  intro z r
  induction r with
  | nil => intro _ _; rfl
  | @cons a l g w h1 h2 h3 r ih =>
    intro hn hz
    cases g with
    | nil => exact absurd rfl h1
    | cons b g =>
      cases g with
      | nil =>
        have e1 : b.1 = a.1 := by rw [← h3]; exact (mulS_one _).symm
        have e2 : b = a := Prod.ext e1 h2.1
        have hw : Nrm mgG w := by
          cases w with
          | nil => trivial
          | cons c w => exact hn.2
        rw [List.singleton_append, e2, ih hw fun p hp => hz p (List.mem_append_right _ hp)]
      | cons c g =>
        exfalso
        have e1 := h2.2.1
        rw [← h2.1] at e1
        have := hn.1
        rw [(mgG_iff (hz c (by simp))).mpr e1] at this
        cases this
theorem genP_ref {b : Nat} {most : Int} {l z : List GP} (hl : Gd b most l) (hn : Nrm mgG l) (hz : Gd b most z) (r : Ref l (z.filter plainB)) : genP z = l := by
  have h := norm_ind (mg := mgG) (jn := jnG) (T := fun x => Gd b most x ∧ Ref l x) (fun x p q y hm hT => ⟨hT.1.join, ref_join hn (fun p hp => (hl.ok p hp).2.2.2.1) hT.2 (okS_gd hT.1) (fun p hp => (hT.1.ok p hp).2.2.2.1) x y p q hm rfl⟩)
    (z.filter plainB).length (z.filter plainB) ⟨hz.filter, r⟩
  exact ref_self h.2 (norm_nrm _ _ (Nat.le_refl _)) fun p hp => (h.1.ok p hp).2.2.2.1
/-! ### the telling -/
/-- state: the size and the step of the pair in hand, how much of the size is gone, the pairs left -/
def tell : List Sz → Sz → List Int → Sz → List GP → List GP
  | [], _, _, _, _ => []
  | own :: sh, size, step, gone, left =>
    if own = (1, 0) then (own, []) :: tell sh size step gone left
    else if gone = size then (match left with
      | [] => []
      | p :: left => (own, p.2) :: tell sh p.1 (sizedF p.2 own) own left)
    else (own, step) :: tell sh size (sizedF step own) (mulS gone own) left
theorem mulS_cancel {a b c : Sz} (h : 1 ≤ a.1) (e : mulS a b = mulS a c) : b = c := by
  unfold mulS at e
  injection e with e1 e2
  have e3 : b.1 = c.1 := Int.eq_of_mul_eq_mul_left (by omega) e1
  exact Prod.ext e3 (by omega)
theorem mulS_unit {a b : Sz} (ha : 1 ≤ a.1 ∧ 0 ≤ a.2) (hb : 1 ≤ b.1 ∧ 0 ≤ b.2) (e : mulS a b = (1, 0)) : a = (1, 0) ∧ b = (1, 0) := by
  unfold mulS at e
  injection e with e1 e2
  have h1 := Int.mul_le_mul_of_nonneg_right (a := 1) (b := a.1) (c := b.1) ha.1 (by omega)
  have h2 := Int.mul_le_mul_of_nonneg_left (a := 1) (b := b.1) (c := a.1) hb.1 (by omega)
  have h3 : a.1 = 1 := by omega
  have h4 : b.1 = 1 := by omega
  exact ⟨Prod.ext h3 (show a.2 = 0 by omega), Prod.ext h4 (show b.2 = 0 by omega)⟩
theorem plain_iff (p : GP) : plainB p = true ↔ p.1 ≠ (1, 0) := by unfold plainB; simp
theorem tell_ok : ∀ (sh : List Sz) (size : Sz) (step : List Int) (gone : Sz) (left : List GP), (∀ s ∈ sh, 1 ≤ s.1 ∧ 0 ≤ s.2) → (1 ≤ gone.1 ∧ 0 ≤ gone.2) → (1 ≤ size.1 ∧ 0 ≤ size.2) →
    (∀ p ∈ left, (1 ≤ p.1.1 ∧ 0 ≤ p.1.2) ∧ p.1 ≠ (1, 0)) → mulS gone (prS sh) = mulS size (prS (szs left)) →
    (∀ a b, left = a ++ b → ∃ u v, sh = u ++ v ∧ mulS gone (prS u) = mulS size (prS (szs a))) →
    ∃ g0 rest, (tell sh size step gone left).filter plainB = g0 ++ rest ∧ Chn step g0 ∧ mulS gone (prS (szs g0)) = size ∧ Ref left rest ∧ szs (tell sh size step gone left) = sh ∧
      ∀ p ∈ tell sh size step gone left, p.1 = (1, 0) → p.2 = []
  | [], size, step, gone, left, hs, hg, hz, hl, h1, h2 => by
    obtain ⟨u, v, e, e2⟩ := h2 [] left rfl
    have e3 : u = [] := (List.append_eq_nil_iff.mp e.symm).1
    rw [e3] at e2
    have e4 : gone = size := by rw [← mulS_one gone, ← mulS_one size]; exact e2
    rw [e4] at h1
    have e5 := mulS_cancel hz.1 h1
    have e6 : left = [] := by
      cases left with
      | nil => rfl
      | cons p l =>
        have e7 : mulS p.1 (prS (szs l)) = (1, 0) := e5.symm
        have k := prS_ok (l := szs l) fun s hs => by
          obtain ⟨q, hq, rfl⟩ := List.mem_map.mp hs
          exact (hl q (List.mem_cons_of_mem _ hq)).1
        exact absurd (mulS_unit (hl p List.mem_cons_self).1 k e7).1 (hl p List.mem_cons_self).2
    subst e6
    exact ⟨[], [], rfl, trivial, by rw [e4]; exact mulS_one _, .nil, rfl, fun p hp => by cases hp⟩
  | own :: sh, size, step, gone, left, hs, hg, hz, hl, h1, h2 => by
    have hs' : ∀ s ∈ sh, 1 ≤ s.1 ∧ 0 ≤ s.2 := fun s h => hs s (List.mem_cons_of_mem _ h)
    have ho := hs own List.mem_cons_self
    have lp : ∀ a : List GP, (∀ p ∈ a, p ∈ left) → 1 ≤ (prS (szs a)).1 ∧ 0 ≤ (prS (szs a)).2 := fun a ha => prS_ok fun s hs => by
      obtain ⟨q, hq, rfl⟩ := List.mem_map.mp hs
      exact (hl q (ha q hq)).1
    unfold tell
    by_cases hown : own = (1, 0)
    · rw [if_pos hown]
      subst hown
      obtain ⟨g0, rest, r1, r2, r3, r4, r5, r6⟩ := tell_ok sh size step gone left hs' hg hz hl (by rw [← h1]; show _ = mulS gone (mulS (1, 0) (prS sh)); rw [one_mulS]) fun a b e => by
        obtain ⟨u, v, e1, e2⟩ := h2 a b e
        cases u with
        | nil => exact ⟨[], sh, rfl, e2⟩
        | cons u0 u =>
          rw [List.cons_append] at e1
          injection e1 with e3 e4
          subst e3
          exact ⟨u, v, e4, by rw [← e2]; show _ = mulS gone (mulS (1, 0) (prS u)); rw [one_mulS]⟩
      refine ⟨g0, rest, ?_, r2, r3, r4, ?_, fun p hp e => ?_⟩
      · rw [List.filter_cons, if_neg (by simp [plainB])]; exact r1
      · show (1, 0) :: szs _ = _; rw [r5]
      · rcases List.mem_cons.mp hp with e1 | hp
        · rw [e1]
        · exact r6 p hp e
    · rw [if_neg hown]
      by_cases hgs : gone = size
      · rw [if_pos hgs]
        subst hgs
        cases left with
        | nil =>
          exfalso
          have e1 : prS (own :: sh) = (1, 0) := mulS_cancel hg.1 h1
          exact hown (mulS_unit ho (prS_ok hs') e1).1
        | cons p left =>
          dsimp only
          have hp := hl p List.mem_cons_self
          have hl' : ∀ p ∈ left, (1 ≤ p.1.1 ∧ 0 ≤ p.1.2) ∧ p.1 ≠ (1, 0) := fun q hq => hl q (List.mem_cons_of_mem _ hq)
          have e1 : mulS own (prS sh) = mulS p.1 (prS (szs left)) := mulS_cancel hg.1 h1
          obtain ⟨g0, rest, r1, r2, r3, r4, r5, r6⟩ := tell_ok sh p.1 (sizedF p.2 own) own left hs' ho hp.1 hl' e1 fun a b e => by
            obtain ⟨u, v, e2, e3⟩ := h2 (p :: a) b (by rw [e]; rfl)
            have e3 : prS u = mulS p.1 (prS (szs a)) := mulS_cancel hg.1 e3
            cases u with
            | nil => exact absurd (mulS_unit hp.1 (lp a fun q hq => by rw [e]; exact List.mem_cons_of_mem _ (List.mem_append_left _ hq)) e3.symm).1 hp.2
            | cons u0 u =>
              rw [List.cons_append] at e2
              injection e2 with e4 e5
              subst e4
              exact ⟨u, v, e5, e3⟩
          refine ⟨[], (own, p.2) :: (g0 ++ rest), ?_, trivial, mulS_one _, ?_, ?_, fun q hq e => ?_⟩
          · rw [List.filter_cons, if_pos ((plain_iff _).mpr hown), r1]; rfl
          · rw [← List.cons_append]
            exact .cons (by simp) ⟨rfl, r2⟩ r3 r4
          · show own :: szs _ = _; rw [r5]
          · rcases List.mem_cons.mp hq with e1 | hq
            · rw [e1] at e; exact absurd e hown
            · exact r6 q hq e
      · rw [if_neg hgs]
        obtain ⟨u0, v0, w1, w2⟩ := h2 [] left rfl
        have w2 : mulS gone (prS u0) = size := by rw [w2]; exact mulS_one _
        obtain ⟨g0, rest, r1, r2, r3, r4, r5, r6⟩ := tell_ok sh size (sizedF step own) (mulS gone own) left hs' (by
            have := prS_ok (l := [gone, own]) fun s hs => by
              rcases List.mem_cons.mp hs with e | hs
              · rw [e]; exact hg
              · rw [List.mem_singleton.mp hs]; exact ho
            rw [show prS [gone, own] = mulS gone own by show mulS gone (mulS own (1, 0)) = _; rw [mulS_one]] at this
            exact this) hz hl (by rw [mulS_assoc]; exact h1) fun a b e => by
          obtain ⟨u, v, e1, e2⟩ := h2 a b e
          cases u with
          | nil =>
            exfalso
            have e2 : gone = mulS size (prS (szs a)) := by rw [← e2]; exact (mulS_one _).symm
            rw [← w2, mulS_assoc] at e2
            have e3 : mulS (prS u0) (prS (szs a)) = (1, 0) := (mulS_cancel hg.1 (by rw [← e2]; exact mulS_one _)).symm
            have k1 : 1 ≤ (prS u0).1 ∧ 0 ≤ (prS u0).2 := prS_ok fun s h => hs s (by rw [w1]; exact List.mem_append_left _ h)
            have e4 := (mulS_unit k1 (lp a fun q hq => by rw [e]; exact List.mem_append_left _ hq) e3).1
            rw [e4, mulS_one] at w2
            exact hgs w2
          | cons u1 u =>
            rw [List.cons_append] at e1
            injection e1 with e3 e4
            subst e3
            exact ⟨u, v, e4, by rw [← e2, mulS_assoc]; rfl⟩
        refine ⟨(own, step) :: g0, rest, ?_, ⟨rfl, r2⟩, ?_, r4, ?_, fun q hq e => ?_⟩
        · rw [List.filter_cons, if_pos ((plain_iff _).mpr hown), r1]; rfl
        · show mulS gone (mulS own (prS (szs g0))) = size
          rw [← mulS_assoc]; exact r3
        · show own :: szs _ = _; rw [r5]
        · rcases List.mem_cons.mp hq with e1 | hq
          · rw [e1] at e; exact absurd e hown
          · exact r6 q hq e
end K82
set_option Elab.async false
set_option linter.all false
/-! K82D: the walk told with the shape is in general the same; plain. -/
namespace K82
open K80 K81
theorem chn_mem : ∀ (g : List GP) {f : List Int}, OkS (szs g) → IsLean f → Chn f g → ∀ q ∈ g, ∃ s : Sz, q.2 = sizedF f s ∧ 1 ≤ s.1 ∧ 0 ≤ s.2 ∧ s.2 ≤ (prS (szs g)).2 ∧ s.1 ≤ (prS (szs g)).1
  | [], f, h, hl, c, q, hq => by cases hq
  | b :: g, f, h, hl, c, q, hq => by
    have h2 := OkS.app (x := [b.1]) (y := szs g) h
    have k1 := h.1 b.1 (by simp [szs])
    have k2 := prS_ok h2.2.1
    have k3 : b.1.2 + (prS (szs g)).2 ≤ 1 := h.2
    have k4 := prS_ok h.1
    have e : (prS (szs (b :: g))).1 = b.1.1 * (prS (szs g)).1 := rfl
    have e' : (prS (szs (b :: g))).2 = b.1.2 + (prS (szs g)).2 := rfl
    rcases List.mem_cons.mp hq with e1 | hq
    · exact ⟨(1, 0), by rw [e1, c.1, sizedF_one hl], by decide, by decide, k4.2, k4.1⟩
    · obtain ⟨s, s1, s2, s3, s4, s5⟩ := chn_mem g h2.2 (sizedF_lean _ _) c.2 q hq
      refine ⟨mulS b.1 s, by rw [s1, sizedF_mul f k1.2 s3 (by omega)], ?_, ?_, ?_, ?_⟩
      · show 1 ≤ b.1.1 * s.1
        have := Int.mul_le_mul k1.1 s2 (by omega) (by omega)
        omega
      · show 0 ≤ b.1.2 + s.2
        omega
      · rw [e']
        show b.1.2 + s.2 ≤ _
        omega
      · rw [e]
        exact Int.mul_le_mul_of_nonneg_left s5 (by omega)
theorem ref_mem {l z : List GP} (r : Ref l z) : OkS (szs z) → (∀ p ∈ l, IsLean p.2) → ∀ q ∈ z, ∃ p ∈ l, ∃ s : Sz, q.2 = sizedF p.2 s ∧ 1 ≤ s.1 ∧ 0 ≤ s.2 ∧ s.2 ≤ p.1.2 ∧ s.1 ≤ p.1.1 := by
  induction r with
  | nil => intro _ _ q hq; cases hq
  | @cons p l g x h1 h2 h3 r ih =>
    intro ho hl q hq
    have ho2 : OkS (szs g ++ szs x) := by have := ho; unfold szs at this ⊢; rw [List.map_append] at this; exact this
    rcases List.mem_append.mp hq with hq | hq
    · obtain ⟨s, s1, s2, s3, s4, s5⟩ := chn_mem g ho2.app.1 (hl p List.mem_cons_self) h2 q hq
      rw [h3] at s4 s5
      exact ⟨p, List.mem_cons_self, s, s1, s2, s3, s4, s5⟩
    · obtain ⟨p', hp, s, k⟩ := ih ho2.app.2 (fun p hp => hl p (List.mem_cons_of_mem _ hp)) q hq
      exact ⟨p', List.mem_cons_of_mem _ hp, s, k⟩
/-- told with the shape -/
def tellG (l : List GP) (sh : List Sz) : List GP := tell sh (1, 0) [] (1, 0) l
theorem prS_unit : ∀ {l : List Sz}, (∀ s ∈ l, 1 ≤ s.1 ∧ 0 ≤ s.2) → prS l = (1, 0) → ∀ s ∈ l, s = (1, 0)
  | [], _, _, s, hs => by cases hs
  | a :: l, h, e, s, hs => by
    have k := mulS_unit (h a List.mem_cons_self) (prS_ok fun x hx => h x (List.mem_cons_of_mem _ hx)) e
    rcases List.mem_cons.mp hs with e1 | hs
    · rw [e1, k.1]
    · exact prS_unit (fun x hx => h x (List.mem_cons_of_mem _ hx)) k.2 s hs
theorem tellG_ref {l : List GP} {sh : List Sz} (hs : ∀ s ∈ sh, 1 ≤ s.1 ∧ 0 ≤ s.2) (hl : ∀ p ∈ l, (1 ≤ p.1.1 ∧ 0 ≤ p.1.2) ∧ p.1 ≠ (1, 0)) (e : prS sh = prS (szs l)) (g : SeenG l sh) :
    Ref l ((tellG l sh).filter plainB) ∧ szs (tellG l sh) = sh ∧ ∀ p ∈ tellG l sh, p.1 = (1, 0) → p.2 = [] := by
  obtain ⟨g0, rest, r1, r2, r3, r4, r5, r6⟩ := tell_ok sh (1, 0) [] (1, 0) l hs (by decide) (by decide) hl (by rw [e]) fun a b e2 => by
    rw [one_mulS]
    by_cases ha : a = []
    · exact ⟨[], sh, rfl, by rw [ha, one_mulS] <;> rfl⟩
    · by_cases hb : b = []
      · refine ⟨sh, [], (List.append_nil _).symm, ?_⟩
        rw [hb, List.append_nil] at e2
        rw [e, e2, one_mulS]
      · obtain ⟨u, v, k1, _, _, k2⟩ := g (prS (szs a)) ⟨szs a, szs b, by rw [e2]; exact List.map_append, by simpa [szs] using ha, by simpa [szs] using hb, rfl⟩
        exact ⟨u, v, k1, by rw [k2, one_mulS]⟩
  have hg0 : g0 = [] := by
    cases g0 with
    | nil => rfl
    | cons a g0 =>
      exfalso
      have hm : a ∈ (tell sh (1, 0) [] (1, 0) l).filter plainB := by rw [r1]; simp
      have hp := (plain_iff a).mp (List.mem_filter.mp hm).2
      have hz : ∀ s ∈ szs (a :: g0), 1 ≤ s.1 ∧ 0 ≤ s.2 := fun s hs' => by
        obtain ⟨q, hq, rfl⟩ := List.mem_map.mp hs'
        have hm : q ∈ (tell sh (1, 0) [] (1, 0) l).filter plainB := by rw [r1]; exact List.mem_append_left _ hq
        have : q.1 ∈ szs (tell sh (1, 0) [] (1, 0) l) := List.mem_map.mpr ⟨q, (List.mem_filter.mp hm).1, rfl⟩
        rw [r5] at this
        exact hs _ this
      exact hp (prS_unit hz (by rw [← r3, one_mulS]) a.1 (by simp [szs]))
  subst hg0
  rw [List.nil_append] at r1
  unfold tellG
  rw [r1]
  exact ⟨r4, r5, r6⟩
theorem tellG_mem {l : List GP} {sh : List Sz} (hs : OkS sh) (hl : ∀ p ∈ l, (1 ≤ p.1.1 ∧ 0 ≤ p.1.2) ∧ p.1 ≠ (1, 0)) (hL : ∀ p ∈ l, IsLean p.2) (e : prS sh = prS (szs l)) (g : SeenG l sh) :
    ∀ q ∈ tellG l sh, q.2 = [] ∨ ∃ p ∈ l, ∃ s : Sz, q.2 = sizedF p.2 s ∧ 1 ≤ s.1 ∧ 0 ≤ s.2 ∧ s.2 ≤ p.1.2 ∧ s.1 ≤ p.1.1 := fun q hq => by
  obtain ⟨r, r5, r6⟩ := tellG_ref hs.1 hl e g
  by_cases hp : q.1 = (1, 0)
  · exact .inl (r6 q hq hp)
  · refine .inr (ref_mem r ?_ hL q (List.mem_filter.mpr ⟨hq, (plain_iff q).mpr hp⟩))
    have h1 : ∀ s ∈ szs ((tellG l sh).filter plainB), 1 ≤ s.1 ∧ 0 ≤ s.2 := fun s hs' => by
      obtain ⟨q, hq, rfl⟩ := List.mem_map.mp hs'
      have : q.1 ∈ szs (tellG l sh) := List.mem_map.mpr ⟨q, (List.mem_filter.mp hq).1, rfl⟩
      rw [r5] at this
      exact hs.1 _ this
    refine ⟨h1, ?_⟩
    rw [ref_prod r, ← e]
    exact hs.2
end K82
set_option Elab.async false
set_option linter.all false
/-! K82E: breaks as rows; plain. -/
namespace K82
open K80 K81
def brL (l : List Int) : List Int := (List.range (l.length - 1)).map fun i => prN (l.take (i + 1))
def brSL (l : List Sz) : List Sz := (List.range (l.length - 1)).map fun i => prS (l.take (i + 1))
theorem mem_brL {l : List Int} {v : Int} : v ∈ brL l ↔ BrN l v := by
  unfold brL
  constructor
  · intro h
    obtain ⟨i, hi, rfl⟩ := List.mem_map.mp h
    have hi := List.mem_range.mp hi
    exact ⟨l.take (i + 1), l.drop (i + 1), (List.take_append_drop _ _).symm, List.ne_nil_of_length_pos (by rw [List.length_take]; omega), List.ne_nil_of_length_pos (by rw [List.length_drop]; omega), rfl⟩
  · rintro ⟨x, y, rfl, hx, hy, rfl⟩
    have h1 := List.length_pos_iff.mpr hx
    have h2 := List.length_pos_iff.mpr hy
    refine List.mem_map.mpr ⟨x.length - 1, List.mem_range.mpr (by rw [List.length_append]; omega), ?_⟩
    rw [show x.length - 1 + 1 = x.length by omega, List.take_left' rfl]
theorem mem_brSL {l : List Sz} {v : Sz} : v ∈ brSL l ↔ BrS l v := by
  unfold brSL
  constructor
  · intro h
    obtain ⟨i, hi, rfl⟩ := List.mem_map.mp h
    have hi := List.mem_range.mp hi
    exact ⟨l.take (i + 1), l.drop (i + 1), (List.take_append_drop _ _).symm, List.ne_nil_of_length_pos (by rw [List.length_take]; omega), List.ne_nil_of_length_pos (by rw [List.length_drop]; omega), rfl⟩
  · rintro ⟨x, y, rfl, hx, hy, rfl⟩
    have h1 := List.length_pos_iff.mpr hx
    have h2 := List.length_pos_iff.mpr hy
    refine List.mem_map.mpr ⟨x.length - 1, List.mem_range.mpr (by rw [List.length_append]; omega), ?_⟩
    rw [show x.length - 1 + 1 = x.length by omega, List.take_left' rfl]
def seenVB (l : List GP) (sh : List Sz) (m : Int) : Bool := (brL (fs (shV (atV l m)))).all fun v => decide (v ∈ brL (sh.map fun s => sizeAt s m))
theorem seenVB_iff (l : List GP) (sh : List Sz) (m : Int) : seenVB l sh m = true ↔ SeenV l sh m := by
  unfold seenVB SeenV
  rw [List.all_eq_true]
  simp only [decide_eq_true_eq, mem_brL]
def seenGB (l : List GP) (sh : List Sz) : Bool := (brSL (szs l)).all fun s => decide (s ∈ brSL sh)
theorem seenGB_iff (l : List GP) (sh : List Sz) : seenGB l sh = true ↔ SeenG l sh := by
  unfold seenGB SeenG
  rw [List.all_eq_true]
  simp only [decide_eq_true_eq, mem_brSL]
end K82
set_option Elab.async false
set_option linter.all false
set_option maxRecDepth 100000
/-! Lg82a: breaks of rows of sizes. -/
namespace LW
open PySem VS VT K80 K81 K82
theorem cut_last (xs : List VS.D) : cutD xs none (some (-1)) = xs.dropLast := by
  unfold cutD
  rw [HT.sIx_none, List.drop_zero, Nat.sub_zero, List.dropLast_eq_take]
  have e : HT.sIx xs.length xs.length (some (-1)) = xs.length - 1 := by
    unfold HT.sIx
    dsimp only
    rw [if_pos (by decide)]
    omega
  rw [e]
theorem brL_snoc (p : List Int) (a : Int) (post : List Int) {l : List Int} (h : l.dropLast = p ++ a :: post) : prN (l.take (p.length + 1)) = prN p * a := by
  have h1 : l.take (p.length + 1) = p ++ [a] := by
    have hl : (p ++ a :: post).length = l.length - 1 := by rw [← h, List.length_dropLast]
    rw [List.length_append, List.length_cons] at hl
    have e : l.take (p.length + 1) = l.dropLast.take (p.length + 1) := by
      rw [List.dropLast_eq_take, List.take_take, Nat.min_eq_left (by omega)]
    rw [e, h, List.take_append, List.take_of_length_le (by omega)]
    simp
  rw [h1, prN_app]
  unfold prN
  simp
theorem t_breaks_in {n : Nat} {l : List Int} (h1 : ∀ x ∈ l, 1 ≤ x) (h2 : prN l < 18446744073709551616) (hl : l.length ≤ 1000) : run P (n + 1) i_breaks_in [.lst (l.map D.int)] = .ok (tupI (brL l)) := by
  refine W_runE rfl rfl ?_
  have hc : cutD (l.map D.int) none (some (-1)) = l.dropLast.map D.int := by rw [cut_last, List.map_dropLast]
  simp only [vstep, ↓reduceIte, hc]
  refine W_for (fun p ρ => ∃ o, ρ = [.val (.lst (l.map D.int)), jk o, .own (.lst (((List.range p.length).map fun i => prN (l.take (i + 1))).map D.int)), .val (.int (prN p))]) ⟨none, rfl⟩ ?_ ?_
  · rintro p a post hp ρ ⟨o, rfl⟩
    have hsub : ∀ x ∈ p ++ a :: post, x ∈ l := fun x hx => by rw [← hp] at hx; exact List.dropLast_subset l hx
    have hlen : p.length < l.length := by
      have := congrArg List.length hp
      rw [List.length_dropLast, List.length_append, List.length_cons] at this
      omega
    have hb := brL_snoc p a post hp
    have ha := prod_ge l h1 a (hsub a (by simp))
    have ha1 := h1 a (hsub a (by simp))
    have hm : mulOk (prN p) a = true := mulOk_r (by unfold prN at h2; omega)
    have hll : (((List.range p.length).map fun i => prN (l.take (i + 1))).map D.int).length < lineN := by simp only [List.length_map, List.length_range]; unfold lineN; omega
    simp only [vstep, ↓reduceIte, hm, hll]
    refine LQ_nx ⟨some (.int a), ?_⟩
    rw [List.length_append, List.length_singleton, List.range_succ, List.map_append, List.map_append, List.map_cons, List.map_nil, hb, prN_app, show prN [a] = a from by unfold prN; simp]
    rfl
  · rintro ρ ⟨o, rfl⟩
    simp only [vstep, ↓reduceIte, List.length_dropLast, nms_ints, W_eq]
    rfl
theorem fn_pI2 (l : List (Int × Int)) : D.fines (l.map pI) 63 = true := fines_pIs l
theorem rng_one (k : Nat) (h : k < 1000000000) : rngOk 1 (k : Int) = true := rngOk_of (by decide) (by decide) (by omega) (by omega)
theorem rngO (k : Nat) (h : k < 10000000) : ((k : Int) - 1).toNat ≤ lineN := by unfold lineN; omega
theorem cut_takeS (l : List (Int × Int)) {i : Nat} (h : i ≤ l.length) : cutD (l.map pI) none (some (i : Int)) = (l.take i).map pI := by rw [cut_take _ (by rw [List.length_map]; exact h), List.map_take]
theorem prS_pI (l : List (Int × Int)) : ((l.map (·.1)).foldl (· * ·) 1, (l.map (·.2)).sum) = prS l := (prS_foldl l).symm
theorem rngO1 (k : Nat) (h : k < 10000000) : ((List.range (k - 1)).map fun i : Nat => 1 + (i : Int)).length ≤ lineN := by rw [List.length_map, List.length_range]; unfold lineN; omega
theorem t_breaks_of {n : Nat} {l : List (Int × Int)} (h : ∀ s ∈ l, okS s) (hl : l.length ≤ 100) (d : VS.D) (hd : d = .lst (l.map pI) ∨ d = .tup (l.map pI)) : run P (n + 3) i_breaks_of [d] = .ok (.lst ((brSL l).map pI)) := by
  refine W_runE rfl rfl ?_
  have hr := rng_1 l.length
  have ho := rng_one l.length (by omega)
  have hO := rngO l.length (by omega)
  have e : ((List.range (l.length - 1)).map fun i : Nat => 1 + (i : Int)).map (fun v : Int => pI (prS (l.take v.toNat))) = (brSL l).map pI := by
    unfold brSL
    rw [List.map_map, List.map_map]
    refine List.map_congr_left fun i _ => ?_
    show pI (prS (l.take (1 + (i : Int)).toNat)) = pI (prS (l.take (i + 1)))
    rw [show (1 + (i : Int)).toNat = i + 1 by omega]
  have cm : ∀ v ∈ (List.range (l.length - 1)).map (fun i : Nat => 1 + (i : Int)), ∃ k : Nat, v = (k : Int) ∧ k ≤ l.length := fun v hv => by
    obtain ⟨i, hi, rfl⟩ := List.mem_map.mp hv
    have := List.mem_range.mp hi
    exact ⟨i + 1, by omega, by omega⟩
  have c1 : ∀ k : Nat, k ≤ l.length → run P (n + 2) i_product_of [.tup ((l.take k).map pI)] = .ok (pI (prS (l.take k))) ∧ run P (n + 2) i_product_of [.lst ((l.take k).map pI)] = .ok (pI (prS (l.take k))) := fun k hk => by
    have a := t_product_of (n := n) (l.take k) (fun s hs => h s (List.take_subset k l hs)) (by rw [List.length_take]; omega) (.tup ((l.take k).map pI)) (.inr rfl)
    have b := t_product_of (n := n) (l.take k) (fun s hs => h s (List.take_subset k l hs)) (by rw [List.length_take]; omega) (.lst ((l.take k).map pI)) (.inl rfl)
    rw [← prS_foldl] at a b
    exact ⟨a, b⟩
  rcases hd with rfl | rfl
  · simp only [vstep, ↓reduceIte, List.length_map, hr, ho, hO]
    refine W_map (g := fun v : Int => pI (prS (l.take v.toNat))) ?_ (rngO1 l.length (by omega)) (by rfl) ?_
    · intro v hv
      obtain ⟨k, rfl, hk⟩ := cm v hv
      have hc := cut_takeS l hk
      have c := (c1 k hk).2
      rw [Int.toNat_natCast]
      simp only [vstep, ↓reduceIte, hc, c, nm_pI]
    · simp only [e, vstep, ↓reduceIte, W_eq]
  · simp only [vstep, ↓reduceIte, List.length_map, hr, ho, hO]
    refine W_map (g := fun v : Int => pI (prS (l.take v.toNat))) ?_ (rngO1 l.length (by omega)) (by rfl) ?_
    · intro v hv
      obtain ⟨k, rfl, hk⟩ := cm v hv
      have hc := cut_takeS l hk
      have c := (c1 k hk).1
      rw [Int.toNat_natCast]
      simp only [vstep, ↓reduceIte, hc, c, nm_pI]
    · simp only [e, vstep, ↓reduceIte, W_eq]
theorem t_meeting {n : Nat} {s t : Int × Int} (h1 : 1 ≤ s.1 ∧ s.1 ≤ 5000) (h2 : 1 ≤ t.1 ∧ t.1 ≤ 5000) : run P (n + 1) i_meeting_values [pI s, pI t] = .ok (.lst ((meetS s t).map D.int)) := by
  refine W_runE rfl rfl ?_
  obtain ⟨a, b⟩ := s
  obtain ⟨c, d⟩ := t
  have h1 : 1 ≤ a ∧ a ≤ 5000 := h1
  have h2 : 1 ≤ c ∧ c ≤ 5000 := h2
  unfold meetS pI
  have hun : ∀ {C : Nat → List VS.D → CR} {ts : Ts} {x y : Int} {ρ : En}, bindT C (.t ts) (.tup [.int x, .int y]) ρ = bindTs C ts [.int x, .int y] ρ := bT_t
  have dv : ∀ x y : Int, 1 ≤ x ∧ x ≤ 5000 → sem .fdiv [.int y, .int x] = some (.int (y.fdiv x)) := fun x y hx => by rw [s_fdiv, if_pos (by simp; omega)]
  have md : ∀ x y : Int, 1 ≤ x ∧ x ≤ 5000 → sem .mod [.int y, .int x] = some (.int (y.fmod x)) := fun x y hx => by rw [s_mod, if_neg (by omega)]
  by_cases q : b > d
  · have e1 := dv a c h1
    have e2 := md a c h1
    have q1 : (b == d) = false := beq_eq_false_iff_ne.mpr (by omega)
    have q2 : b ≠ d := by omega
    have q3 : d < b := q
    unfold meetO
    by_cases r : c.fmod a = 0
    · simp only [vstep, ↓reduceIte, ix1, ix0, q, q3, decide_true, hun, e1, e2, q1, r, q2, ne_eq, not_false_eq_true, and_self, beq_self_eq_true, W_eq] <;> rfl
    · have r1 : (c.fmod a == 0) = false := beq_eq_false_iff_ne.mpr r
      simp only [vstep, ↓reduceIte, ix1, ix0, q, q3, decide_true, hun, e1, e2, q1, r1, r, q2, ne_eq, not_false_eq_true, and_false, W_eq] <;> rfl
  · have e1 := dv c a h2
    have e2 := md c a h2
    have q3 : ¬ d < b := q
    unfold meetO
    by_cases q4 : d = b
    · subst q4
      simp only [vstep, ↓reduceIte, ix1, ix0, q, q3, decide_false, hun, e1, e2, beq_self_eq_true, ne_eq, not_true_eq_false, false_and, W_eq] <;> rfl
    · have q1 : (d == b) = false := beq_eq_false_iff_ne.mpr q4
      by_cases r : a.fmod c = 0
      · simp only [vstep, ↓reduceIte, ix1, ix0, q, q3, decide_false, hun, e1, e2, q1, r, q4, ne_eq, not_false_eq_true, and_self, beq_self_eq_true, W_eq] <;> rfl
      · have r1 : (a.fmod c == 0) = false := beq_eq_false_iff_ne.mpr r
        simp only [vstep, ↓reduceIte, ix1, ix0, q, q3, decide_false, hun, e1, e2, q1, r1, r, q4, ne_eq, not_false_eq_true, and_false, W_eq] <;> rfl
theorem t_lbreaks {n : Nat} {l : List Int} (h : ∀ i ∈ l, i.natAbs < 18446744073709551616) (hl : l.length ≤ 1000) (d : VS.D) (hd : d = .lst (l.map D.int) ∨ d = .tup (l.map D.int)) : run P (n + 2) i__law_breaks [d] = .ok (tupI (brL l)) := by
  refine W_runE rfl rfl ?_
  have hr := rngD_pred l.length
  have ho := rngOk_pred (k := l.length) (by omega)
  have hO : ((l.length : Int) - 1 - 0).toNat ≤ lineN := by unfold lineN; omega
  have c1 : ∀ k : Nat, run P (n + 1) i__law_number [.tup ((l.take k).map D.int)] = .ok (.int (prN (l.take k))) ∧ run P (n + 1) i__law_number [.lst ((l.take k).map D.int)] = .ok (.int (prN (l.take k))) := fun k =>
    ⟨t_lnumber (n := n) (l.take k) (fun s hs => h s (List.take_subset k l hs)) _ (.inr rfl), t_lnumber (n := n) (l.take k) (fun s hs => h s (List.take_subset k l hs)) _ (.inl rfl)⟩
  have hc : ∀ i : Nat, i < l.length - 1 → cutD (l.map D.int) none (some ((i : Int) + 1)) = (l.take (i + 1)).map D.int := fun i hi => by
    rw [show (i : Int) + 1 = ((i + 1 : Nat) : Int) by omega, cut_take _ (by rw [List.length_map]; omega), List.map_take]
  have hL : (List.range (l.length - 1)).length ≤ lineN := by rw [List.length_range]; unfold lineN; omega
  have e : (List.range (l.length - 1)).map (fun i => D.int (prN (l.take (i + 1)))) = (brL l).map D.int := by unfold brL; rw [List.map_map] <;> rfl
  rcases hd with rfl | rfl
  · simp only [vstep, ↓reduceIte, List.length_map, hr, ho, hO]
    refine W_map (g := fun i : Nat => .int (prN (l.take (i + 1)))) ?_ hL (by rfl) ?_
    · intro i hi
      have hi := hc i (List.mem_range.mp hi)
      have c := (c1 (i + 1)).2
      simp only [vstep, ↓reduceIte, hi, c]
    · simp only [e, vstep, ↓reduceIte, nms_ints, W_eq] <;> rfl
  · simp only [vstep, ↓reduceIte, List.length_map, hr, ho, hO]
    refine W_map (g := fun i : Nat => .int (prN (l.take (i + 1)))) ?_ hL (by rfl) ?_
    · intro i hi
      have hi := hc i (List.mem_range.mp hi)
      have c := (c1 (i + 1)).1
      simp only [vstep, ↓reduceIte, hi, c]
    · simp only [e, vstep, ↓reduceIte, nms_ints, W_eq] <;> rfl
end LW
set_option Elab.async false
set_option linter.all false
set_option maxRecDepth 100000
/-! Lg82b: seen at a value; at which values. -/
namespace LW
open PySem VS VT K80 K81 K82
theorem sh_ok {l : List Pr} (h : ∀ p ∈ l, 1 ≤ p.1) : (∀ p ∈ shV l, 1 ≤ p.1) ∧ szP (shV l) = szP l ∧ (shV l).length ≤ l.length := by
  have e : shV l = norm mgV jnV (l.filter big).length (l.filter big) := (norm_grp _ _ (Nat.le_refl _)).symm
  rw [e]
  refine norm_ind (mg := mgV) (jn := jnV) (T := fun z => (∀ p ∈ z, 1 ≤ p.1) ∧ szP z = szP l ∧ z.length ≤ l.length) (fun x p q y _ hT => ?_) _ _ ⟨fun p hp => h p (List.mem_filter.mp hp).1, szP_filter h, List.length_filter_le _ _⟩
  refine ⟨fun a ha => ?_, by rw [szP_join]; exact hT.2.1, ?_⟩
  · rcases List.mem_append.mp ha with w | w
    · exact hT.1 a (List.mem_append_left _ w)
    · rcases List.mem_cons.mp w with w | w
      · rw [w]
        have h1 := hT.1 p (by simp)
        have h2 := hT.1 q (by simp)
        have := Int.mul_le_mul h1 h2 (by omega) (by omega)
        show 1 ≤ p.1 * q.1
        omega
      · exact hT.1 a (by simp [w])
  · have := hT.2.2
    simp at this ⊢
    omega
theorem brV_small {sh : List Sz} {m : Int} (ho : OkS sh) (h1 : 1 ≤ m) (hm : Lt 45 m) (hp : (prS sh).1 ≤ 5000) : (∀ x ∈ sh.map fun s => K81.sizeAt s m, 1 ≤ x) ∧ prN (sh.map fun s => K81.sizeAt s m) < 18446744073709551616 := by
  refine ⟨fun x hx => ?_, ?_⟩
  · obtain ⟨s, hs, rfl⟩ := List.mem_map.mp hx
    exact sizeAt_pos (ho.1 s hs).1 h1
  · rw [prN_at m ho]
    have hk := prS_ok ho.1
    have hmm : m < 35184372088832 := by unfold Lt at hm; omega
    unfold K81.sizeAt
    split
    · have h2 := Int.mul_le_mul_of_nonneg_right hp (show 0 ≤ m by omega)
      omega
    · omega
theorem fines_I (l : List Int) : D.fines (l.map D.int) 63 = true := fines_ints l _
/-- what is asked of a shape -/
structure ShOk (sh : List Sz) : Prop where
  ok : ∀ s ∈ sh, okS s
  os : OkS sh
  prod : (prS sh).1 ≤ 5000
  len : sh.length ≤ 6
theorem t_sees_at {n : Nat} {g : GW} {sh : List Sz} {m : Int} (hg : Ask g) (hs : ShOk sh) (h1 : 1 ≤ m) (hm : Lt 45 m) : run P (n + 4) i_sees_at [gD g, .tup (sh.map pI), .int m] = .ok (.bl (seenVB g.2 sh m)) := by
  refine W_runE rfl rfl ?_
  have c1 := t_short_walk (n := n) (e := 45) (g := g) (m := m) hg.gd h1 hm (hg.bd.mono (by omega)) (by omega) (by omega) (by omega) hg.l1 (by have := hg.l2; omega)
  obtain ⟨a1, a2⟩ := at_small hg.gd h1 hm
  obtain ⟨b1, b2, b3⟩ := sh_ok a1
  have hl : (shV (atV g.2 m)).length ≤ 6 := by rw [atV_len] at b3; have := hg.l2; omega
  have fI : ∀ x ∈ fs (shV (atV g.2 m)), 1 ≤ x := fun x hx => by
    obtain ⟨p, hp, rfl⟩ := List.mem_map.mp hx
    exact b1 p hp
  have c2 := t_breaks_in (n := n + 2) (l := fs (shV (atV g.2 m))) fI (by rw [← b2] at a2; exact a2) (by unfold fs; rw [List.length_map]; omega)
  obtain ⟨d1, d2⟩ := brV_small hs.os h1 hm hs.prod
  have c3 := t_breaks_in (n := n + 2) (l := sh.map fun s => K81.sizeAt s m) d1 d2 (by rw [List.length_map]; have := hs.len; omega)
  have hix : sem .idx [wD (shW g m), .int 1] = some (.tup ((shV (atV g.2 m)).map pI)) := ix1 _ _ _
  have e1 : (shV (atV g.2 m)).map (fun p => D.int p.1) = (fs (shV (atV g.2 m))).map D.int := by unfold fs; rw [List.map_map] <;> rfl
  have e2 : sh.map (fun s => D.int (K81.sizeAt s m)) = (sh.map fun s => K81.sizeAt s m).map D.int := by rw [List.map_map] <;> rfl
  simp only [vstep, ↓reduceIte, c1, hix, nm_wD]
  refine W_map (g := fun p => .int p.1) ?_ (by unfold lineN; omega) (by rfl) ?_
  · rintro ⟨a, s⟩ hp
    have hun : ∀ {C : Nat → List VS.D → CR} {ts : Ts} {ρ : En}, bindT C (.t ts) (pI (a, s)) ρ = bindTs C ts [.int a, .int s] ρ := bT_t
    simp only [vstep, ↓reduceIte, hun]
  · simp only [e1, vstep, ↓reduceIte, c2, nm_tupI]
    refine W_map (g := fun s => .int (K81.sizeAt s m)) ?_ (by have := hs.len; unfold lineN; omega) (by rfl) ?_
    · intro s hp
      have c4 : run P (n + 3) i_size_at [pI s, .int m] = .ok (.int (K81.sizeAt s m)) := t_size_at (n := n + 2) (hs.ok s hp)
      simp only [vstep, ↓reduceIte, c4, nm_pI]
    · simp only [e2, vstep, ↓reduceIte, c3, nm_tupI, itK_tupI]
      refine W_map (g := fun v => .bl (decide (v ∈ brL (sh.map fun s => K81.sizeAt s m)))) ?_ (by unfold brL fs; rw [List.length_map, List.length_range, List.length_map]; unfold lineN; omega) (by rfl) ?_
      · intro v hv
        simp only [vstep, ↓reduceIte, sIn_tupI, nm_tupI]
      · rw [map_bl]
        simp only [vstep, ↓reduceIte, all_id, W_eq]
        rfl
end LW
set_option Elab.async false
set_option linter.all false
set_option maxRecDepth 100000
/-! Lg82c: at which values it is seen. -/
namespace LW
open PySem VS VT K80 K81 K82
theorem any_enc {α : Type} [DecidableEq α] {enc : α → VS.D} (ht : Tells enc) (l : List α) (x : α) : (l.map enc).any (fun z => D.eqv z (enc x)) = decide (x ∈ l) := by
  induction l with
  | nil => simp
  | cons a l ih =>
    rw [List.map_cons, List.any_cons, ih, ht.beq]
    by_cases h : a = x
    · subst h; simp
    · rw [decide_eq_false h, Bool.false_or]
      exact decide_eq_decide.mpr ⟨fun w => List.mem_cons_of_mem _ w, fun w => (List.mem_cons.mp w).resolve_left (Ne.symm h)⟩
theorem sIn_pI (l : List Sz) (x : Sz) : semIn (pI x) (.lst (l.map pI)) = some (decide (x ∈ l)) := by
  rw [s_inl, fines_pIs, fn_pI, if_pos (by rfl), any_enc tells_pI]
  exact congrArg some (decide_eq_decide.mpr Iff.rfl)
/-- the spots -/
def spS (l : List GP) (sh : List Sz) : List Int := setI (oddS l) ++ (brSL (szs l)).flatMap fun s => (brSL sh).flatMap fun t => meetS s t
def seenF (g : GW) (sh : List Sz) : Bool × List Int := if seenGB (genP g.2) sh = true then (true, []) else (false, (setI (spS (genP g.2) sh)).filter fun m => seenVB g.2 sh m)
theorem meet_len (s t : Sz) : (meetS s t).length ≤ 1 := by
  unfold meetS meetO
  split <;> split <;> simp
theorem flat_len {α β : Type} (f : α → List β) (k : Nat) : ∀ l : List α, (∀ a ∈ l, (f a).length ≤ k) → (l.flatMap f).length ≤ k * l.length
  | [], _ => by simp
  | a :: l, h => by
    rw [List.flatMap_cons, List.length_append, List.length_cons]
    have := flat_len f k l fun x hx => h x (List.mem_cons_of_mem _ hx)
    have := h a List.mem_cons_self
    rw [Nat.mul_succ]
    omega
theorem brSL_len (l : List Sz) : (brSL l).length = l.length - 1 := by unfold brSL; rw [List.length_map, List.length_range]
theorem br_small {l : List Sz} (h : OkS l) (hp : (prS l).1 ≤ 5000) {s : Sz} (hs : s ∈ brSL l) : 1 ≤ s.1 ∧ s.1 ≤ 5000 := by
  obtain ⟨x, y, rfl, _, _, rfl⟩ := mem_brSL.mp hs
  have h1 := h.app
  have a := prS_ok h1.1.1
  have b := prS_ok h1.2.1
  rw [prS_app] at hp
  have hp : (prS x).1 * (prS y).1 ≤ 5000 := hp
  have := Int.mul_le_mul_of_nonneg_left b.1 (show 0 ≤ (prS x).1 by omega)
  omega
theorem okS_szs {b : Nat} {l : List GP} (h : Gd b 5000 l) : (∀ s ∈ szs l, okS s) ∧ (prS (szs l)).1 ≤ 5000 := by
  refine ⟨fun s hs => ?_, ?_⟩
  · obtain ⟨p, hp, rfl⟩ := List.mem_map.mp hs
    exact ⟨(h.size hp).1, (h.size hp).2, (h.ok p hp).2.1, (h.ok p hp).2.2.1⟩
  · have := h.prod
    rw [prS_foldl]
    have e : (szs l).map (·.1) = l.map (·.1.1) := by unfold szs; rw [List.map_map] <;> rfl
    exact e ▸ this
theorem spS_ok {g : GW} {sh : List Sz} (hg : Ask g) (hs : ShOk sh) {m : Int} (hm : m ∈ spS (genP g.2) sh) : 1 ≤ m ∧ Lt 45 m := by
  obtain ⟨hG, hN, hP, hL, _⟩ := genP_ok hg.gd
  rcases List.mem_append.mp hm with w | w
  · have w := mem_setI.mp w
    exact ⟨odd_pos hN w, by have := oddS_lt hG hN w; unfold Lt at this ⊢; omega⟩
  · obtain ⟨s, h1, w⟩ := List.mem_flatMap.mp w
    obtain ⟨t, h2, w⟩ := List.mem_flatMap.mp w
    have a := br_small (okS_gd hG) (okS_szs hG).2 h1
    have b := br_small hs.os hs.prod h2
    have c := meet_pos a.1 b.1 w
    exact ⟨c.1, by unfold Lt; omega⟩
theorem spS_len {g : GW} {sh : List Sz} (hg : Ask g) (hs : ShOk sh) : (spS (genP g.2) sh).length < 64 := by
  obtain ⟨hG, hN, hP, hL, _⟩ := genP_ok hg.gd
  have h1 := oddS_len1 hG hN
  have h2 := setI_len (oddS (genP g.2))
  have h3 := flat_len (fun s => (brSL sh).flatMap fun t => meetS s t) (brSL sh).length (brSL (szs (genP g.2))) fun s _ => by
    have := flat_len (fun t => meetS s t) 1 (brSL sh) fun t _ => meet_len s t
    omega
  have h4 := hg.l2
  have h5 := hs.len
  unfold spS
  rw [List.length_append]
  rw [brSL_len, brSL_len] at h3
  have h6 : (szs (genP g.2)).length = (genP g.2).length := by unfold szs; rw [List.length_map]
  rw [h6] at h3
  have h7 := Nat.mul_le_mul (show sh.length - 1 ≤ 5 by omega) (show (genP g.2).length - 1 ≤ 5 by omega)
  have h8 : 4 * ((genP g.2).length - 1) ≤ 20 := by omega
  omega
theorem t_seen_in {n : Nat} {g : GW} {sh : List Sz} (hg : Ask g) (hs : ShOk sh) : run P (n + 11) i_seen_in [gD g, .tup (sh.map pI)] = .ok (vD (seenF g sh)) := by
  obtain ⟨hG, hN, hP, hL, _⟩ := genP_ok hg.gd
  have hl2 := hg.l2
  have hls := hs.len
  have c1 := t_general_in (n := n + 5) hg.gd (by omega) (by omega)
  have c2 := t_breaks_of (n := n + 7) (l := szs (genP g.2)) (okS_szs hG).1 (by unfold szs; rw [List.length_map]; omega) _ (.inl rfl)
  have c3 := t_breaks_of (n := n + 7) (l := sh) hs.ok (by omega) _ (.inr rfl)
  have c4 := t_odd_in (n := n) hg.gd (by omega) (by omega)
  have hsp := fun m hm => spS_ok hg hs (m := m) hm
  have hsl := spS_len hg hs
  have b1 := fun s hs' => br_small (okS_gd hG) (okS_szs hG).2 (s := s) hs'
  have b2 := fun s hs' => br_small hs.os hs.prod (s := s) hs'
  have bl1 := brSL_len (szs (genP g.2))
  have bl2 := brSL_len sh
  have hsz : (szs (genP g.2)).length = (genP g.2).length := by unfold szs; rw [List.length_map]
  unfold seenF
  refine W_runE rfl rfl ?_
  have g1 : sem .idx [gD (g.1, genP g.2), .int 1] = some (.tup ((genP g.2).map pairD)) := ix1 _ _ _
  have hun : ∀ {C : Nat → List VS.D → CR} {ts : Ts} {ρ : En} {p : GP}, bindT C (.t ts) (pairD p) ρ = bindTs C ts [pI p.1, tupI p.2] ρ := bT_t
  simp only [vstep, ↓reduceIte, c1, nm_gD, g1]
  refine W_map (g := fun p => pI p.1) ?_ (by unfold lineN; omega) (by rfl) ?_
  · intro p _
    simp only [vstep, ↓reduceIte, hun, nm_pI, nm_tupI]
  · have e1 : (genP g.2).map (fun p => pI p.1) = (szs (genP g.2)).map pI := by unfold szs; rw [List.map_map] <;> rfl
    simp only [vstep, ↓reduceIte, e1, c2, c3, nms_map nm_pI]
    refine W_map (g := fun s => .bl (decide (s ∈ brSL sh))) ?_ (by unfold lineN; omega) (by rfl) ?_
    · intro s _
      have hin : ((brSL sh).map pI).any (fun z => D.eqv z (pI s)) = decide (s ∈ brSL sh) := (any_enc tells_pI _ _).trans (decide_eq_decide.mpr Iff.rfl)
      simp only [vstep, ↓reduceIte, fines_pIs, fn_pI, hin, nm_pI]
    · rw [map_bl]
      have ea : ((brSL (szs (genP g.2))).map fun s => decide (s ∈ brSL sh)).all id = seenGB (genP g.2) sh := by rw [all_id] <;> rfl
      simp only [vstep, ↓reduceIte, ea]
      by_cases q : seenGB (genP g.2) sh = true
      · simp only [vstep, ↓reduceIte, q, W_eq]
        rfl
      · have q' : seenGB (genP g.2) sh = false := by simpa using q
        have hli : sem .list [tupD (oddS (genP g.2))] = some (.lst ((setI (oddS (genP g.2))).map D.int)) := rfl
        simp only [vstep, ↓reduceIte, q', c4, nm_tupD, hli]
        have ho1 := oddS_len1 hG hN
        have ho2 := setI_len (oddS (genP g.2))
        refine W_for (fun p ρ => ∃ (o1 o2 : Option VS.D), ρ = [.val (gD g), .val (.tup (sh.map pI)), .own (.lst ((setI (oddS (genP g.2)) ++ p.flatMap fun s => (brSL sh).flatMap fun t => meetS s t).map D.int)), jk o1, .val (.lst ((brSL (szs (genP g.2))).map pI)), .val (.lst ((brSL sh).map pI)), jk o2, .no, .no, .no]) ⟨none, none, by simp [jk]⟩ ?_ ?_
        · rintro p s post hp ρ ⟨o1, o2, rfl⟩
          have hs1 : s ∈ brSL (szs (genP g.2)) := (pfx hp).1
          have hpl := (pfx hp).2
          have hfl : (p.flatMap fun s => (brSL sh).flatMap fun t => meetS s t).length ≤ 1000 := by
            have h3 := flat_len (fun s => (brSL sh).flatMap fun t => meetS s t) (brSL sh).length p fun s _ => by
              have := flat_len (fun t => meetS s t) 1 (brSL sh) fun t _ => meet_len s t
              omega
            have := Nat.mul_le_mul (show (brSL sh).length ≤ 5 by omega) (show p.length ≤ 5 by omega)
            omega
          simp only [vstep, ↓reduceIte, nm_pI]
          refine W_for (fun p2 ρ => ∃ (o2 : Option VS.D), ρ = [.val (gD g), .val (.tup (sh.map pI)), .own (.lst (((setI (oddS (genP g.2)) ++ p.flatMap fun s => (brSL sh).flatMap fun t => meetS s t) ++ p2.flatMap fun t => meetS s t).map D.int)), .val (pI s), .val (.lst ((brSL (szs (genP g.2))).map pI)), .val (.lst ((brSL sh).map pI)), jk o2, .no, .no, .no]) ⟨o2, by simp [jk]⟩ ?_ ?_
          · rintro p2 t post2 hp2 ρ ⟨o2, rfl⟩
            have hs2 : t ∈ brSL sh := (pfx hp2).1
            have hpl2 := (pfx hp2).2
            have c5 := t_meeting (n := n + 9) (s := s) (t := t) (b1 s hs1) (b2 t hs2)
            have hf2 := flat_len (fun t => meetS s t) 1 p2 fun t _ => meet_len s t
            have hml := meet_len s t
            have hex : appD .extend (.lst (((setI (oddS (genP g.2)) ++ p.flatMap fun s => (brSL sh).flatMap fun t => meetS s t) ++ p2.flatMap fun t => meetS s t).map D.int)) (.lst ((meetS s t).map D.int)) = some (.lst ((((setI (oddS (genP g.2)) ++ p.flatMap fun s => (brSL sh).flatMap fun t => meetS s t) ++ p2.flatMap fun t => meetS s t) ++ meetS s t).map D.int)) := by
              rw [app_ex, if_pos (by rw [List.length_map, List.length_map, List.length_append, List.length_append]; unfold lineN; omega), ← List.map_append]
            simp only [vstep, ↓reduceIte, c5, nm_pI, hex]
            exact LQ_nx ⟨some (pI t), by rw [List.flatMap_append, List.flatMap_cons, List.flatMap_nil, List.append_nil, List.append_assoc] <;> rfl⟩
          · rintro ρ ⟨o2, rfl⟩
            simp only [vstep, ↓reduceIte]
            exact LQ_nx ⟨some (pI s), o2, by rw [List.flatMap_append, List.flatMap_cons, List.flatMap_nil, List.append_nil, List.append_assoc] <;> rfl⟩
        · rintro ρ ⟨o1, o2, rfl⟩
          have hss := sset_lst hsl
          have hss : sem .sset [.lst ((setI (oddS (genP g.2)) ++ (brSL (szs (genP g.2))).flatMap fun s => (brSL sh).flatMap fun t => meetS s t).map D.int)] = some (.lst ((setI (spS (genP g.2) sh)).map D.int)) := hss
          simp only [vstep, ↓reduceIte, hss]
          have hsl2 := setI_len (spS (genP g.2) sh)
          refine W_filter (p := fun m => seenVB g.2 sh m) (g := fun m => .int m) ?_ (by unfold lineN; omega) (by rfl) ?_
          · intro m hm
            have hm2 := hsp m (mem_setI.mp hm)
            have c6 := t_sees_at (n := n + 6) hg hs hm2.1 hm2.2
            simp only [vstep, ↓reduceIte, c6]
            cases seenVB g.2 sh m <;> simp only [vstep, ↓reduceIte]
          · have e9 : ((setI (spS (genP g.2) sh)).filter fun m => seenVB g.2 sh m).map (fun m => VS.D.int m) = ((setI (spS (genP g.2) sh)).filter fun m => seenVB g.2 sh m).map D.int := rfl
            simp only [vstep, ↓reduceIte, nms_ints, W_eq]
            rfl
end LW
set_option Elab.async false
set_option linter.all false
set_option maxRecDepth 100000
/-! Lg82d: what is asked of shapes; the asked defs. -/
namespace LW
open PySem VS VT K80 K81 K82
theorem ShOk.shape {sh : List Sz} (h : ShOk sh) : shapeB (.tup (sh.map pI)) = true := by
  have h2 := h.os.2
  have h3 := h.prod
  rw [prS_foldl] at h2 h3
  exact shapeB_pI.mpr ⟨by have := h.len; omega, h.ok, h2, h3⟩
theorem ShOk.plain {sh : List Sz} (h : ShOk sh) : Plain (.tup (sh.map pI)) := by
  refine Plain.ofAll (fun x hx => ?_) (by rw [List.length_map]; have := h.len; unfold lineN; omega)
  obtain ⟨s, _, rfl⟩ := List.mem_map.mp hx
  exact ⟨1, pl_pI s 0⟩
theorem t_need_shape {n : Nat} {sh : List Sz} (h : ShOk sh) : run P (n + 5) i_need_growing_shape [.tup (sh.map pI)] = .ok .non := by
  refine W_runE rfl rfl ?_
  have c1 := t_fits_growing_shape (n := n) h.plain
  rw [h.shape] at c1
  simp only [vstep, ↓reduceIte, c1, W_eq]
theorem t_need_seen {n : Nat} {g : GW} {sh : List Sz} (hg : Ask g) (hs : ShOk sh) (he : prS sh = prS (szs g.2)) : run P (n + 7) i_need_seen [gD g, .tup (sh.map pI)] = .ok .non := by
  refine W_runE rfl rfl ?_
  have c1 := t_need_growing (n := n) hg.okG
  have c2 := t_need_shape (n := n + 1) hs
  have c3 := t_product_of (n := n + 4) sh hs.ok (by have := hs.len; omega) _ (.inr rfl)
  have c4 := t_product_of (n := n + 4) (szs g.2) (okS_szs hg.gd).1 (by unfold szs; rw [List.length_map]; have := hg.l2; omega) _ (.inl rfl)
  rw [← prS_foldl] at c3 c4
  rw [he] at c3
  have g1 : sem .idx [gD g, .int 1] = some (.tup (g.2.map pairD)) := ix1 _ _ _
  have hun : ∀ {C : Nat → List VS.D → CR} {ts : Ts} {ρ : En} {p : GP}, bindT C (.t ts) (pairD p) ρ = bindTs C ts [pI p.1, tupI p.2] ρ := bT_t
  simp only [vstep, ↓reduceIte, c1, c2, c3, g1, nm_pI, nm_gD]
  refine W_map (g := fun p : GP => pI p.1) ?_ (by have := hg.l2; unfold lineN; omega) (by rfl) ?_
  · intro p _
    simp only [vstep, ↓reduceIte, hun, nm_pI, nm_tupI]
  · have e1 : g.2.map (fun p => pI p.1) = (szs g.2).map pI := by unfold szs; rw [List.map_map] <;> rfl
    have e2 : D.eqv (pI (prS (szs g.2))) (pI (prS (szs g.2))) = true := (tells_pI _ _).mpr rfl
    simp only [vstep, ↓reduceIte, e1, c4, fn_pI, e2, W_eq]
theorem t_seen_at {n : Nat} {g : GW} {sh : List Sz} {m : Int} (hg : Ask g) (hs : ShOk sh) (he : prS sh = prS (szs g.2)) (h1 : 1 ≤ m) (h2 : m ≤ 1000000000) : run P (n + 8) i_seen_at [gD g, .tup (sh.map pI), .int m] = .ok (.bl (seenVB g.2 sh m)) := by
  refine W_runE rfl rfl ?_
  have c1 := t_need_seen (n := n) hg hs he
  have c2 := t_need_value (n := n + 3) h1 h2
  have c3 := t_sees_at (n := n + 3) hg hs h1 (by unfold Lt; omega)
  simp only [vstep, ↓reduceIte, c1, c2, c3, W_eq]
theorem t_seen_values {n : Nat} {g : GW} {sh : List Sz} (hg : Ask g) (hs : ShOk sh) (he : prS sh = prS (szs g.2)) : run P (n + 12) i_seen_values [gD g, .tup (sh.map pI)] = .ok (vD (seenF g sh)) := by
  refine W_runE rfl rfl ?_
  have c1 := t_need_seen (n := n + 4) hg hs he
  have c2 := t_seen_in (n := n) hg hs
  simp only [vstep, ↓reduceIte, c1, c2, nm_vD, W_eq]
theorem t_let_form {n : Nat} {f : List Int} (h : f.length ≤ 4) : run P (n + 1) i_let_form [tupI f] = .ok (tupI f) := by
  refine W_runE rfl rfl ?_
  have hl : sem .len [tupI f] = some (.int f.length) := by show some (VS.D.int ((f.map D.int).length : Nat)) = _; rw [List.length_map]
  have hn : ¬ (4 : Int) < (f.length : Int) := by omega
  simp only [vstep, ↓reduceIte, hl, hn, decide_false, nm_tupI, W_eq]
end LW
set_option Elab.async false
set_option linter.all false
set_option maxRecDepth 100000
/-! Lg82e: told with the shape. -/
namespace LW
open PySem VS VT K80 K81 K82
theorem tell_cons (own : Sz) (sh : List Sz) (size : Sz) (step : List Int) (gone : Sz) (left : List GP) : tell (own :: sh) size step gone left =
    if own = (1, 0) then (own, []) :: tell sh size step gone left
    else if gone = size then (match left with
      | [] => []
      | p :: left => (own, p.2) :: tell sh p.1 (sizedF p.2 own) own left)
    else (own, step) :: tell sh size (sizedF step own) (mulS gone own) left := by first | rfl | (rw [tell.eq_def]; done) | (rw [tell.eq_def]; rfl)
theorem eqv_pI (s t : Sz) : D.eqv (pI s) (pI t) = decide (s = t) := tells_pI.beq s t
theorem t_generally_in {n : Nat} {g : GW} {sh : List Sz} (hg : Ask g) (h3 : ∀ p ∈ (genP g.2), p.2.length ≤ 3) (hs : ShOk sh) (he : prS sh = prS (szs (genP g.2))) (hG : SeenG (genP g.2) sh) :
    run P (n + 10) i_generally_in [gD g, .tup (sh.map pI)] = .ok (gD (g.1, tellG (genP g.2) sh)) := by
  obtain ⟨hGd, hN, hP, hL, _⟩ := genP_ok hg.gd
  have hl2 := hg.l2
  have hls := hs.len
  have c1 := t_general_in (n := n + 4) hg.gd (by omega) (by omega)
  have hpl : ∀ p ∈ genP g.2, (1 ≤ p.1.1 ∧ 0 ≤ p.1.2) ∧ p.1 ≠ (1, 0) := fun p hp => ⟨⟨(hGd.ok p hp).1, (hGd.ok p hp).2.1⟩, (plain_iff p).mp (hP p hp)⟩
  obtain ⟨r1, r2, r3⟩ := tellG_ref hs.os.1 hpl he hG
  have rm := tellG_mem hs.os hpl (fun p hp => (hGd.ok p hp).2.2.2.1) he hG
  refine W_runE rfl rfl ?_
  have hun : ∀ {C : Nat → List VS.D → CR} {ts : Ts} {ρ : En} {x : List Int} {y : List VS.D}, bindT C (.t ts) (.tup [tupI x, .tup y]) ρ = bindTs C ts [tupI x, .tup y] ρ := bT_t
  have hgd : gD (g.1, genP g.2) = .tup [tupI g.1, .tup ((genP g.2).map pairD)] := rfl
  simp only [vstep, ↓reduceIte, c1, hgd, hun, nm_tupI, nms_map nm_pairD]
  refine W_for (fun p ρ => ∃ (o : Option VS.D) (found left : List GP) (size gone : Sz) (step : List Int) (sl : Sl), ρ = [.val (gD g), .val (.tup (sh.map pI)), jk o, .val (tupI g.1), .val (.tup ((genP g.2).map pairD)), .own (.lst (found.map pairD)), sl, .val (pI size), .val (tupI step), .val (pI gone)] ∧
    (sl = .own (.lst (left.map pairD)) ∨ sl = .val (.lst (left.map pairD))) ∧ found.length = p.length ∧ (1 ≤ gone.1 ∧ gone.1 ≤ (prS p).1 ∧ 0 ≤ gone.2 ∧ gone.2 ≤ (prS p).2) ∧ left.length ≤ 6 ∧ ∀ post, sh = p ++ post → tellG (genP g.2) sh = found ++ tell post size step gone left)
    ⟨none, [], genP g.2, (1, 0), (1, 0), [], _, rfl, .inl rfl, rfl, by decide, by omega, fun post e => by rw [List.nil_append] at e; rw [← e]; rfl⟩ ?_ ?_
  · rintro p own post hp ρ ⟨o, found, left, size, gone, step, sl, rfl, hsl, hfl, hgo, hll, htl⟩
    have ht := htl (own :: post) hp
    have hpl2 := (pfx hp).2
    have hoo := hs.ok own (pfx hp).1
    have hpo : OkS (p ++ own :: post) := hp ▸ hs.os
    have k1 := prS_ok hpo.app.1.1
    have hpp : prS (p ++ [own]) = mulS (prS p) own := by rw [prS_app, show prS [own] = own from mulS_one _]
    have hle : (prS (p ++ [own])).1 ≤ 5000 ∧ (prS (p ++ [own])).2 ≤ 1 := by
      have e : sh = (p ++ [own]) ++ post := by rw [hp]; simp
      have hq : OkS ((p ++ [own]) ++ post) := e ▸ hs.os
      have a := prS_ok hq.app.1.1
      have b := prS_ok hq.app.2.1
      have c := hs.prod
      rw [e, prS_app] at c
      have c : (prS (p ++ [own])).1 * (prS post).1 ≤ 5000 := c
      have d := Int.mul_le_mul_of_nonneg_left b.1 (show 0 ≤ (prS (p ++ [own])).1 by omega)
      exact ⟨by omega, hq.app.1.2⟩
    have hp5 : (prS p).1 ≤ 5000 := by
      have c := hle.1
      rw [hpp] at c
      have c : (prS p).1 * own.1 ≤ 5000 := c
      have d := Int.mul_le_mul_of_nonneg_left hoo.1 (show 0 ≤ (prS p).1 by omega)
      omega
    have hfn : (found.map pairD).length < lineN := by rw [List.length_map]; unfold lineN; omega
    have e1 : D.eqv (pI own) (.tup [.int 1, .int 0]) = decide (own = (1, 0)) := eqv_pI own (1, 0)
    have f1 : D.fine (.tup [.int 1, .int 0]) 64 = true := fn_pI (1, 0) 63
    rw [tell_cons] at ht
    by_cases q : own = (1, 0)
    · rw [if_pos q] at ht
      simp only [vstep, ↓reduceIte, fn_pI, f1, e1, q, decide_true, hfn, nm_pI]
      refine LQ_nx ⟨some (pI own), found ++ [(own, [])], left, size, gone, step, sl, ?_, hsl, by rw [List.length_append, List.length_append, hfl] <;> rfl, ?_, hll, fun post' e => ?_⟩
      · subst q
        simp [jk, List.map_append]
        rfl
      · rw [← q, hpp, q, mulS_one]; exact hgo
      · have e2 : post' = post := by
          rw [hp, List.append_assoc] at e
          exact (List.cons.inj (List.append_cancel_left e)).2.symm
        rw [e2, ht, q, List.append_assoc] <;> rfl
    · rw [if_neg q] at ht
      have hlen : (tellG (genP g.2) sh).length = p.length + 1 + post.length := by
        have := congrArg List.length r2
        unfold szs at this
        rw [List.length_map] at this
        rw [this, hp, List.length_append, List.length_cons]
        omega
      have hmem : ∀ f : List Int, (own, f) ∈ tellG (genP g.2) sh → f.length ≤ 4 ∧ Bd 37 f := fun f hf => by
        rcases rm _ hf with e | ⟨a, ha, s, e, s1, s2, s3, s4⟩
        · have e : f = [] := e
          rw [e]
          exact ⟨by simp, fun c hc => by cases hc⟩
        · have e : f = sizedF a.2 s := e
          have b1 := h3 a ha
          have b2 := sizedF_len a.2 s
          have b3 := (hGd.size ha).2
          have b4 : Bd (24 + 13) (sizedF a.2 s) := Bd.sizedF (hGd.ok a ha).2.2.2.2.2 (lt13 (by omega) (by omega))
          rw [e]
          exact ⟨by omega, b4⟩
      have fin : ∀ (size' gone' : Sz) (step' : List Int) (left' : List GP) (sl' : Sl) (ρ : En), (1 ≤ gone'.1 ∧ gone'.1 ≤ 5000 ∧ 0 ≤ gone'.2 ∧ gone'.2 ≤ 1) → (own, step') ∈ tellG (genP g.2) sh → ρ = [.val (gD g), .val (.tup (sh.map pI)), .val (pI own), .val (tupI g.1), .val (.tup ((genP g.2).map pairD)), .own (.lst (found.map pairD)), sl', .val (pI size'), .val (tupI step'), .val (pI gone')] → True := fun _ _ _ _ _ _ _ _ _ => trivial
      by_cases q2 : gone = size
      · rw [if_pos q2] at ht
        have q3 : D.eqv (pI gone) (pI size) = true := (tells_pI _ _).mpr q2
        cases left with
        | nil =>
          exfalso
          have := congrArg List.length ht
          rw [hlen, List.append_nil, hfl] at this
          omega
        | cons a left =>
          dsimp only at ht
          have hm := hmem a.2 (by rw [ht]; simp)
          have cl := t_let_form (n := n + 8) hm.1
          have cp := t_product_of (n := n + 7) [(1, 0), own] (fun s hs => by
            rcases List.mem_cons.mp hs with e | hs
            · rw [e]; exact ⟨by decide, by decide, by decide, by decide⟩
            · rw [List.mem_singleton.mp hs]; exact hoo) (by simp) _ (.inl rfl)
          rw [← prS_foldl, show prS [(1, 0), own] = own by show mulS (1, 0) (mulS own (1, 0)) = _; rw [mulS_one, one_mulS]] at cp
          have cp : run P (n + 9) i_product_of [.lst [.tup [.int 1, .int 0], pI own]] = .ok (pI own) := cp
          have cs := t_sized (n := n + 6) (a := 37) (b := 13) (f := a.2) (s := own) hm.2 (lt13 (by have := hoo.1; omega) hoo.2.1) (by omega) (by have := hm.1; omega)
          have hsg : cutD ((a :: left).map pairD) (some 1) none = left.map pairD := segD_tail (a :: left)
          have hi0 : ixD ((a :: left).map pairD) 0 = some (pairD a) := ix_pairD (l := a :: left) (i := 0) (p := a) rfl
          have hu2 : ∀ {C : Nat → List VS.D → CR} {ts : Ts} {ρ : En}, bindT C (.t ts) (pairD a) ρ = bindTs C ts [pI a.1, tupI a.2] ρ := bT_t
          have done : W (LQ (fun p ρ => ∃ (o : Option VS.D) (found left : List GP) (size gone : Sz) (step : List Int) (sl : Sl), ρ = [.val (gD g), .val (.tup (sh.map pI)), jk o, .val (tupI g.1), .val (.tup ((genP g.2).map pairD)), .own (.lst (found.map pairD)), sl, .val (pI size), .val (tupI step), .val (pI gone)] ∧
              (sl = .own (.lst (left.map pairD)) ∨ sl = .val (.lst (left.map pairD))) ∧ found.length = p.length ∧ (1 ≤ gone.1 ∧ gone.1 ≤ (prS p).1 ∧ 0 ≤ gone.2 ∧ gone.2 ≤ (prS p).2) ∧ left.length ≤ 6 ∧ ∀ post, sh = p ++ post → tellG (genP g.2) sh = found ++ tell post size step gone left) p own)
              (.ok .nx [.val (gD g), .val (.tup (sh.map pI)), .val (pI own), .val (tupI g.1), .val (.tup ((genP g.2).map pairD)), .own (.lst ((found ++ [(own, a.2)]).map pairD)), .val (.lst (left.map pairD)), .val (pI a.1), .val (tupI (sizedF a.2 own)), .val (pI own)]) := by
            refine LQ_nx ⟨some (pI own), found ++ [(own, a.2)], left, a.1, own, sizedF a.2 own, _, rfl, .inr rfl, by rw [List.length_append, List.length_append, hfl] <;> rfl, ?_, by rw [List.length_cons] at hll; omega, fun post' e => ?_⟩
            · rw [hpp]
              obtain ⟨o1, o2, o3, o4⟩ := hoo
              have m2 := Int.mul_le_mul_of_nonneg_right k1.1 (show 0 ≤ own.1 by omega)
              refine ⟨o1, ?_, o3, ?_⟩
              · show own.1 ≤ (prS p).1 * own.1
                omega
              · show own.2 ≤ (prS p).2 + own.2
                omega
            · have e2 : post' = post := by
                rw [hp, List.append_assoc] at e
                exact (List.cons.inj (List.append_cancel_left e)).2.symm
              rw [e2, ht, List.append_assoc] <;> rfl
          rw [List.map_append] at done
          rcases hsl with rfl | rfl
          · simp only [vstep, ↓reduceIte, fn_pI, f1, e1, q, decide_false, hfn, nm_pI, nm_tupI, q3, hi0, hsg, nms_map nm_pairD, nm_pairD, hu2, cl, cp, cs]
            exact done
          · simp only [vstep, ↓reduceIte, fn_pI, f1, e1, q, decide_false, hfn, nm_pI, nm_tupI, q3, hi0, hsg, nms_map nm_pairD, nm_pairD, hu2, cl, cp, cs]
            exact done
      · rw [if_neg q2] at ht
        have q3 : D.eqv (pI gone) (pI size) = false := by rw [eqv_pI]; exact decide_eq_false q2
        have hm := hmem step (by rw [ht]; simp)
        have cl := t_let_form (n := n + 8) hm.1
        have hgk : okS gone := ⟨hgo.1, by omega, by omega, by have := hpo.app.1.2; omega⟩
        have cp := t_product_of (n := n + 7) [gone, own] (fun s hs => by
          rcases List.mem_cons.mp hs with e | hs
          · rw [e]; exact hgk
          · rw [List.mem_singleton.mp hs]; exact hoo) (by simp) _ (.inl rfl)
        rw [← prS_foldl, show prS [gone, own] = mulS gone own by show mulS gone (mulS own (1, 0)) = _; rw [mulS_one]] at cp
        have cp : run P (n + 9) i_product_of [.lst [pI gone, pI own]] = .ok (pI (mulS gone own)) := cp
        have cs := t_sized (n := n + 6) (a := 37) (b := 13) (f := step) (s := own) hm.2 (lt13 (by have := hoo.1; omega) hoo.2.1) (by omega) (by have := hm.1; omega)
        simp only [vstep, ↓reduceIte, fn_pI, f1, e1, q, decide_false, hfn, nm_pI, nm_tupI, q3, cl, cp, cs]
        refine LQ_nx ⟨some (pI own), found ++ [(own, step)], left, size, mulS gone own, sizedF step own, sl, ?_, hsl, by rw [List.length_append, List.length_append, hfl] <;> rfl, ?_, hll, fun post' e => ?_⟩
        · rw [List.map_append]; rfl
        · rw [hpp]
          obtain ⟨h1, h2, h4, h5⟩ := hgo
          obtain ⟨o1, o2, o3, o4⟩ := hoo
          have m1 := Int.mul_le_mul h1 o1 (by omega) (by omega)
          have m2 := Int.mul_le_mul_of_nonneg_right h2 (show 0 ≤ own.1 by omega)
          refine ⟨?_, m2, ?_, ?_⟩
          · show 1 ≤ gone.1 * own.1
            omega
          · show 0 ≤ gone.2 + own.2
            omega
          · show gone.2 + own.2 ≤ (prS p).2 + own.2
            omega
        · have e2 : post' = post := by
            rw [hp, List.append_assoc] at e
            exact (List.cons.inj (List.append_cancel_left e)).2.symm
          rw [e2, ht, List.append_assoc] <;> rfl
  · rintro ρ ⟨o, found, left, size, gone, step, sl, rfl, hsl, hfl, hgo, hll, htl⟩
    have ht := htl [] (List.append_nil _).symm
    rw [show tell [] size step gone left = [] from rfl, List.append_nil] at ht
    rw [ht]
    rcases hsl with rfl | rfl
    · simp only [vstep, ↓reduceIte, nm_tupI, nms_map nm_pairD, W_eq]
      rfl
    · simp only [vstep, ↓reduceIte, nm_tupI, nms_map nm_pairD, W_eq]
      rfl
end LW
set_option Elab.async false
set_option linter.all false
set_option maxRecDepth 100000
/-! Lg82f: seen_generally. -/
namespace LW
open PySem VS VT K80 K81 K82
theorem prS_plain : ∀ l : List GP, prS (szs (l.filter plainB)) = prS (szs l)
  | [] => rfl
  | p :: l => by
    rw [List.filter_cons]
    by_cases h : plainB p = true
    · rw [if_pos h]
      show mulS p.1 (prS (szs (l.filter plainB))) = mulS p.1 (prS (szs l))
      rw [prS_plain l]
    · rw [if_neg h, prS_plain l]
      have e : p.1 = (1, 0) := Classical.not_not.mp fun z => h ((plain_iff p).mpr z)
      show _ = mulS p.1 (prS (szs l))
      rw [e, one_mulS]
theorem genP_prS (l : List GP) : prS (szs (genP l)) = prS (szs l) :=
  norm_ind (mg := mgG) (jn := jnG) (T := fun z => prS (szs z) = prS (szs l)) (fun x p q y _ hT => (prS_join x y p q).trans hT) _ _ (prS_plain l)
theorem t_seen_generally {n : Nat} {g : GW} {sh : List Sz} (hg : Ask g) (h3 : ∀ p ∈ (genP g.2), p.2.length ≤ 3) (hs : ShOk sh) (he : prS sh = prS (szs g.2)) :
    run P (n + 12) i_seen_generally [gD g, .tup (sh.map pI)] = .ok (if seenGB (genP g.2) sh = true then gD (g.1, tellG (genP g.2) sh) else .non) := by
  refine W_runE rfl rfl ?_
  have c1 := t_need_seen (n := n + 4) hg hs he
  have c2 := t_seen_in (n := n) hg hs
  have hi : sem .idx [vD (seenF g sh), .int 0] = some (.bl (seenF g sh).1) := ix0 _ _
  by_cases q : seenGB (genP g.2) sh = true
  · have c3 := t_generally_in (n := n + 1) hg h3 hs (he.trans (genP_prS g.2).symm) ((seenGB_iff _ _).mp q)
    have e : (seenF g sh).1 = true := by unfold seenF; rw [if_pos q]
    rw [e] at hi
    simp only [vstep, ↓reduceIte, c1, c2, hi, nm_vD, c3, nm_gD, q, W_eq]
  · have e : (seenF g sh).1 = false := by unfold seenF; rw [if_neg q]
    rw [e] at hi
    simp only [vstep, ↓reduceIte, c1, c2, hi, nm_vD, q, W_eq]
end LW
set_option Elab.async false
set_option linter.all false
set_option maxRecDepth 100000
/-! Lg82g: _law_shapes, by looking at each number. -/
namespace LW
open PySem VS VT K80 K81 K82
def shOne (k : Int) : VS.D → Bool
  | .tup ds => (match D.ints ds with
    | some is => is.all (fun i => decide (2 ≤ i)) && decide (is.foldl (· * ·) 1 = k)
    | none => false)
  | _ => false
def shAll (k : Int) : CR → Bool
  | .ok (.lst ds) => !ds.isEmpty && decide (ds.length ≤ 1000) && ds.all (shOne k)
  | _ => false
theorem shapes_all : (List.range 48).all (fun i => shAll ((i : Int) + 1) (run P 58 i__law_shapes [.int ((i : Int) + 1)])) = true := by decide +kernel
theorem ints_inv : ∀ {ds : List VS.D} {is : List Int}, D.ints ds = some is → ds = is.map D.int
  | [], is, h => by cases h; rfl
  | d :: ds, is, h => by
    cases d with
    | int i =>
      have h : (match D.ints ds with | some is => some (i :: is) | none => none) = some is := h
      cases q : D.ints ds with
      | none => rw [q] at h; cases h
      | some js =>
        rw [q] at h
        cases h
        rw [List.map_cons, ints_inv q]
    | _ => cases h
theorem shapes_one {k : Int} (h1 : 1 ≤ k) (h2 : k ≤ 48) : ∃ ds : List VS.D, run P 58 i__law_shapes [.int k] = .ok (.lst ds) ∧ ds ≠ [] ∧ ds.length ≤ 1000 ∧ ∀ d ∈ ds, ∃ is : List Int, d = tupI is ∧ (∀ i ∈ is, 2 ≤ i) ∧ prN is = k := by
  have h := List.all_eq_true.mp shapes_all (k - 1).toNat (List.mem_range.mpr (by omega))
  have e : (((k - 1).toNat : Nat) : Int) + 1 = k := by omega
  rw [e] at h
  generalize run P 58 i__law_shapes [.int k] = r at h
  unfold shAll at h
  split at h
  · rename_i ds
    rw [Bool.and_eq_true, Bool.and_eq_true, decide_eq_true_eq, List.all_eq_true] at h
    refine ⟨ds, rfl, fun z => ?_, h.1.2, fun d hd => ?_⟩
    · rw [z] at h; exact absurd h.1.1 (by decide)
    · have := h.2 d hd
      unfold shOne at this
      split at this
      · rename_i es
        split at this
        · rename_i is q
          rw [Bool.and_eq_true, List.all_eq_true, decide_eq_true_eq] at this
          refine ⟨is, ?_, fun i hi => of_decide_eq_true (this.1 i hi), this.2⟩
          rw [ints_inv q] <;> rfl
        · cases this
      · cases this
  · cases h
theorem pow_len : ∀ {is : List Int}, (∀ i ∈ is, 2 ≤ i) → (2 : Int) ^ is.length ≤ prN is
  | [], _ => by decide
  | i :: is, h => by
    have a := h i List.mem_cons_self
    have b := pow_len (is := is) fun j hj => h j (List.mem_cons_of_mem _ hj)
    rw [prN_cons, List.length_cons, Int.pow_succ, Int.mul_comm _ 2]
    have c : (0 : Int) < 2 ^ is.length := Int.pow_pos (by decide)
    exact Int.mul_le_mul a b (by omega) (by omega)
end LW
set_option Elab.async false
set_option linter.all false
set_option maxRecDepth 100000
/-! Lg82h: the law's draw of a shape: mixed, finer, joined. -/
namespace LW
open PySem VS VT K80 K81 K82
theorem cut_drop1 (xs : List VS.D) (i : Nat) : cutD xs (some ((i : Int) + 1)) none = xs.drop (i + 1) := by
  rw [show (i : Int) + 1 = ((i + 1 : Nat) : Int) by omega, cut_drop]
theorem t_mixed {n : Nat} {α : Type} {enc : α → VS.D} (c : Cup) (l : List α) (hl : l.length < 1000) : ∃ (l' : List α) (c' : Cup), run P (n + 2) i__law_mixed [c.D, .lst (l.map enc)] = .oki (.lst (l'.map enc)) c'.D ∧ l'.Perm l := by
  refine W_run (Q := fun r => ∃ (l' : List α) (c' : Cup), r = .oki (.lst (l'.map enc)) c'.D ∧ l'.Perm l) rfl rfl ?_
  have hr := rngD_nat l.length
  have ho := rngOk_nat (k := l.length) (by omega)
  simp only [vstep, ↓reduceIte, List.length_map, hr, ho]
  refine W_for (fun p ρ => ∃ (c' : Cup) (left found : List α) (o1 o2 : Option VS.D), ρ = [.io c'.D, .val (.lst (l.map enc)), jk o1, .own (.lst (left.map enc)), .own (.lst (found.map enc)), jk o2] ∧ (found ++ left).Perm l ∧ found.length = p.length) ⟨c, l, [], none, none, rfl, by simp, rfl⟩ ?_ ?_
  · rintro p a post hp ρ ⟨c', left, found, o1, o2, rfl, hperm, hlen⟩
    have hpl : p.length < l.length := by
      have := (pfx hp).2
      rw [List.length_range] at this
      exact this
    have hls := hperm.length_eq
    rw [List.length_append] at hls
    obtain ⟨r, c2, e, r0, r1⟩ := t_roll (n := n) c' (many := (left.length : Int)) (by omega) (by omega)
    obtain ⟨i, rfl⟩ : ∃ m : Nat, r = m := ⟨r.toNat, by omega⟩
    have hi : i < left.length := by omega
    have hix : ixD (left.map enc) (i : Int) = some (enc left[i]) := ixn (by rw [List.getElem?_map, List.getElem?_eq_getElem hi] <;> rfl)
    have hc1 : cutD (left.map enc) none (some (i : Int)) = (left.take i).map enc := by rw [cut_take _ (by rw [List.length_map]; omega), List.map_take]
    have hc2 : cutD (left.map enc) (some ((i : Int) + 1)) none = (left.drop (i + 1)).map enc := by rw [cut_drop1, List.map_drop]
    have hk1 : found.length + (0 + 1) ≤ lineN := by unfold lineN; omega
    have hk2 : (left.take i).length + (left.drop (i + 1)).length ≤ lineN := by rw [List.length_take, List.length_drop]; unfold lineN; omega
    simp only [vstep, ↓reduceIte, List.length_map, e, Cup.inner, hix, hc1, hc2, hk1, hk2]
    refine LQ_nx ⟨c2, left.take i ++ left.drop (i + 1), found ++ [left[i]], some (.int (a : Nat)), some (.int (i : Nat)), by rw [List.map_append, List.map_append] <;> rfl, ?_, by rw [List.length_append, List.length_append, hlen] <;> rfl⟩
    have h1 : left.Perm (left[i] :: (left.take i ++ left.drop (i + 1))) := by
      have h2 : left = left.take i ++ left[i] :: left.drop (i + 1) := by
        rw [List.getElem_cons_drop, List.take_append_drop]
      exact (List.Perm.of_eq h2).trans List.perm_middle
    refine List.Perm.trans ?_ hperm
    rw [List.append_assoc]
    exact (List.Perm.append_left found h1.symm)
  · rintro ρ ⟨c', left, found, o1, o2, rfl, hperm, hlen⟩
    rw [List.length_range] at hlen
    have hls := hperm.length_eq
    rw [List.length_append] at hls
    have : left = [] := List.eq_nil_of_length_eq_zero (by omega)
    subst this
    rw [List.append_nil] at hperm
    simp only [vstep, ↓reduceIte]
    exact ⟨found, c', rfl, hperm⟩
end LW
set_option Elab.async false
set_option linter.all false
set_option maxRecDepth 100000
/-! Lg82i: the law's draw of a shape. -/
namespace LW
open PySem VS VT K80 K81 K82
theorem mem_prS : ∀ {l : List Sz}, (∀ s ∈ l, 1 ≤ s.1 ∧ 0 ≤ s.2) → ∀ s ∈ l, s.1 ≤ (prS l).1 ∧ s.2 ≤ (prS l).2
  | [], _, s, hs => by cases hs
  | a :: l, h, s, hs => by
    have k := prS_ok (l := l) fun x hx => h x (List.mem_cons_of_mem _ hx)
    have ha := h a List.mem_cons_self
    have e1 : (prS (a :: l)).1 = a.1 * (prS l).1 := rfl
    have e2 : (prS (a :: l)).2 = a.2 + (prS l).2 := rfl
    rcases List.mem_cons.mp hs with rfl | hs
    · have := Int.mul_le_mul_of_nonneg_left k.1 (show 0 ≤ s.1 by omega)
      exact ⟨by omega, by omega⟩
    · have ih := mem_prS (l := l) (fun x hx => h x (List.mem_cons_of_mem _ hx)) s hs
      have := Int.mul_le_mul_of_nonneg_right ha.1 (show 0 ≤ (prS l).1 by omega)
      exact ⟨by omega, by omega⟩
theorem prS_perm {a b : List Sz} (h : a.Perm b) : prS a = prS b := by
  induction h with
  | nil => rfl
  | cons x _ ih => rw [prS, prS, ih]
  | swap x y l =>
    rw [prS, prS, prS, prS, ← mulS_assoc, ← mulS_assoc, mulS_comm y x]
  | trans _ _ ih1 ih2 => rw [ih1, ih2]
/-- a drawn shape for a number -/
structure ShF (t : Sz) (sh : List Sz) : Prop where
  pos : ∀ s ∈ sh, 1 ≤ s.1 ∧ 0 ≤ s.2
  pr : prS sh = t
  len : sh.length ≤ 6
theorem ShF.ok {t : Sz} {sh : List Sz} (h : ShF t sh) (h1 : t.1 ≤ 48) (h2 : t.2 ≤ 1) : ShOk sh where
  ok := fun s hs => by
    have a := h.pos s hs
    have b := mem_prS h.pos s hs
    rw [h.pr] at b
    exact ⟨a.1, by omega, a.2, by omega⟩
  os := ⟨h.pos, by rw [h.pr]; exact h2⟩
  prod := by rw [h.pr]; omega
  len := h.len
theorem ShF.join {t p q : Sz} {x y : List Sz} (h : ShF t (x ++ p :: q :: y)) : ShF t (x ++ [(p.1 * q.1, p.2 + q.2)] ++ y) where
  pos := fun s hs => by
    have hp := h.pos p (by simp)
    have hq := h.pos q (by simp)
    simp only [List.mem_append, List.mem_cons, List.not_mem_nil, or_false] at hs
    rcases hs with (hs | rfl) | hs
    · exact h.pos s (by simp [hs])
    · refine ⟨?_, ?_⟩
      · show 1 ≤ p.1 * q.1
        have := Int.mul_le_mul hp.1 hq.1 (by omega) (by omega)
        omega
      · show 0 ≤ p.2 + q.2
        omega
    · exact h.pos s (by simp [hs])
  pr := by
    have e := h.pr
    rw [prS_app, prS, prS, ← mulS_assoc p q] at e
    rw [List.append_assoc, List.singleton_append, prS_app, prS]
    exact e
  len := by
    have := h.len
    simp only [List.length_append, List.length_cons, List.length_nil] at this ⊢
    omega
/-- entries above 1 that stand, or the one that grows -/
def Ent (s : Sz) : Prop := (2 ≤ s.1 ∧ s.2 = 0) ∨ s = (1, 1)
theorem ent_len : ∀ {l : List Sz}, (∀ s ∈ l, Ent s) → ∃ k : Nat, (l.length : Int) = k + (prS l).2 ∧ (2 : Int) ^ k ≤ (prS l).1
  | [], _ => ⟨0, rfl, by decide⟩
  | s :: l, h => by
    obtain ⟨k, h1, h2⟩ := ent_len (l := l) fun x hx => h x (List.mem_cons_of_mem _ hx)
    have e1 : (prS (s :: l)).1 = s.1 * (prS l).1 := rfl
    have e2 : (prS (s :: l)).2 = s.2 + (prS l).2 := rfl
    rcases h s List.mem_cons_self with ⟨a, b⟩ | rfl
    · refine ⟨k + 1, by rw [List.length_cons, e2]; omega, ?_⟩
      rw [e1, Int.pow_succ, Int.mul_comm _ 2]
      have c : (0 : Int) < 2 ^ k := Int.pow_pos (by decide)
      exact Int.mul_le_mul a h2 (by omega) (by omega)
    · refine ⟨k, by rw [List.length_cons, e2]; omega, ?_⟩
      rw [e1]; omega
theorem pow_lt6 {k : Nat} (h : (2 : Int) ^ k ≤ 48) : k ≤ 5 := by
  rcases Nat.lt_or_ge k 6 with q | q
  · omega
  · obtain ⟨j, rfl⟩ : ∃ j, k = 6 + j := ⟨k - 6, by omega⟩
    rw [Int.pow_add] at h
    have c : (0 : Int) < 2 ^ j := Int.pow_pos (by decide)
    have : (2 : Int) ^ 6 = 64 := by decide
    omega
theorem Ent.pos {s : Sz} (h : Ent s) : 1 ≤ s.1 ∧ 0 ≤ s.2 := by
  rcases h with ⟨a, b⟩ | rfl
  · exact ⟨by omega, by omega⟩
  · exact ⟨by decide, by decide⟩
theorem ent_shf {t : Sz} {l : List Sz} (h : ∀ s ∈ l, Ent s) (e : prS l = t) (h1 : t.1 ≤ 48) (h2 : t.2 ≤ 1) : ShF t l where
  pos := fun s hs => (h s hs).pos
  pr := e
  len := by
    obtain ⟨k, a, b⟩ := ent_len h
    rw [e] at a b
    have := pow_lt6 (Int.le_trans b h1)
    omega
def row0 (is : List Int) : List Sz := is.map fun v => (v, (0 : Int))
theorem row0_pr (is : List Int) : prS (row0 is) = (prN is, 0) := by
  unfold row0
  rw [prS_foldl, List.map_map, List.map_map, show ((fun p : Int × Int => p.1) ∘ fun s : Int => (s, (0 : Int))) = id from rfl, List.map_id, sum_zero _ fun x hx => by
    obtain ⟨y, _, rfl⟩ := List.mem_map.mp hx; rfl]
  rfl
theorem row0_ent {is : List Int} (h : ∀ i ∈ is, 2 ≤ i) : ∀ s ∈ row0 is, Ent s := fun s hs => by
  obtain ⟨y, hy, rfl⟩ := List.mem_map.mp hs
  exact .inl ⟨h y hy, rfl⟩
theorem prS_mid (x y : List Sz) (s : Sz) : prS (x ++ [s] ++ y) = mulS (prS (x ++ y)) s := by
  rw [List.append_assoc, List.singleton_append, prS_app, prS, prS_app, mulS_comm s, ← mulS_assoc]
theorem row0_D (is : List Int) : is.map (fun v => VS.D.tup [.int v, .int 0]) = (row0 is).map pI := by
  unfold row0
  rw [List.map_map] <;> rfl
theorem t_shape_for (c : Cup) {g : GW} (hg : Drn 48 g) : ∃ (sh : List Sz) (c' : Cup), run P 59 i__law_shape_for [c.D, gD g] = .oki (.tup (sh.map pI)) c'.D ∧ ShF (prS (szs g.2)) sh := by
  refine W_run (Q := fun r => ∃ (sh : List Sz) (c' : Cup), r = .oki (.tup (sh.map pI)) c'.D ∧ ShF (prS (szs g.2)) sh) rfl rfl ?_
  have ask := Drn.ask hg
  have hpos : ∀ s ∈ szs g.2, 1 ≤ s.1 ∧ s.1 ≤ 6 ∧ 0 ≤ s.2 ∧ s.2 ≤ 1 := fun s hs => by
    obtain ⟨p, hp, rfl⟩ := List.mem_map.mp hs
    exact ⟨(ask.gd.ok p hp).1, hg.six p hp, (ask.gd.ok p hp).2.1, (ask.gd.ok p hp).2.2.1⟩
  have hlen : (szs g.2).length ≤ 5 := by unfold szs; rw [List.length_map]; exact hg.len
  have hpr : prS (szs g.2) = (((szs g.2).map (·.1)).foldl (· * ·) 1, ((szs g.2).map (·.2)).sum) := prS_foldl _
  have ht1 : 1 ≤ (prS (szs g.2)).1 ∧ 0 ≤ (prS (szs g.2)).2 := prS_ok fun s hs => ⟨(hpos s hs).1, (hpos s hs).2.2.1⟩
  have ht2 : (prS (szs g.2)).1 ≤ 48 := by
    rw [prS_foldl]
    have := hg.prod
    unfold szs
    rw [List.map_map]
    exact this
  have ht3 : (prS (szs g.2)).2 ≤ 1 := (okS_gd ask.gd).2
  have e0 : g.2.map (fun p => pI p.1) = (szs g.2).map pI := by unfold szs; rw [List.map_map] <;> rfl
  generalize hS : szs g.2 = S at *
  generalize hT : prS S = T at *
  have main : ∀ (c2 : Cup) (kind : Int) (found : List Sz) (o7 o8 : Option VS.D) (s10 : Sl), slOk (some s10) = true → ShF T found → W (fun m => ∃ (sh : List Sz) (c' : Cup), outE (some 0) m = .oki (.tup (sh.map pI)) c'.D ∧ ShF T sh) (denSs (run P 58) false (tlSs 6 f__law_shape_for.body) [.io c2.D, .val (gD g), .val (.lst (S.map pI)), .val (.int T.1), .val (.int T.2), .val (.int kind), .own (.lst (found.map pI)), jk o7, jk o8, .no, s10, .no, .no]) := fun c2 kind found o7 o8 s10 hs10 hf => by
    simp only [tlSs, f__law_shape_for, vstep, ↓reduceIte, List.length_map]
    have hfl := hf.len
    by_cases q : 1 < (found.length : Int)
    · obtain ⟨b, c3, e3, b0, b1⟩ : ∃ (r : Int) (c' : Cup), run P 58 i__law_roll [c2.D, .int 3] = .oki (.int r) c'.D ∧ 0 ≤ r ∧ r < 3 := t_roll (n := 57) c2 (many := 3) (by omega) (by omega)
      by_cases w : b = 0
      · subst w
        obtain ⟨r, c4, e4, r0, r1⟩ : ∃ (r : Int) (c' : Cup), run P 58 i__law_roll [c3.D, .int ((found.length : Int) - 1)] = .oki (.int r) c'.D ∧ 0 ≤ r ∧ r < (found.length : Int) - 1 := t_roll (n := 57) c3 (many := (found.length : Int) - 1) (by omega) (by omega)
        obtain ⟨i, rfl⟩ : ∃ m : Nat, r = m := ⟨r.toNat, by omega⟩
        have hi : i < found.length := by omega
        have hi1 : i + 1 < found.length := by omega
        have x1 := ix_pI (List.getElem?_eq_getElem hi)
        have x2 := ix_pI1 (List.getElem?_eq_getElem hi1)
        have hsp : found = found.take i ++ found[i] :: found[i + 1] :: found.drop (i + 2) := by
          rw [List.getElem_cons_drop, List.getElem_cons_drop, List.take_append_drop]
        have y0 : ∀ s : Sz, sem .idx [pI s, .int 0] = some (.int s.1) := fun s => ix0 _ _
        have y1 : ∀ s : Sz, sem .idx [pI s, .int 1] = some (.int s.2) := fun s => ix1 _ _ _
        have hm : mulOk found[i].1 found[i + 1].1 = true := mulOk_l (by
          have a := hf.pos found[i] (List.getElem_mem hi)
          have b := mem_prS hf.pos found[i] (List.getElem_mem hi)
          rw [hf.pr] at b
          omega)
        have hc1 : cutD (found.map pI) none (some (i : Int)) = (found.take i).map pI := by rw [cut_take _ (by rw [List.length_map]; omega), List.map_take]
        have hc2 : cutD (found.map pI) (some ((i : Int) + 2)) none = (found.drop (i + 2)).map pI := by rw [cut_drop2, List.map_drop]
        have hk1 : (found.take i).length + (0 + 1) ≤ lineN := by rw [List.length_take]; unfold lineN; omega
        have hk2 : (found.take i).length + (0 + 1) + (found.drop (i + 2)).length ≤ lineN := by rw [List.length_take, List.length_drop]; unfold lineN; omega
        simp only [vstep, ↓reduceIte, q, e3, Cup.inner, e4, x1, x2, y0, y1, hm, hc1, hc2, hk1, hk2, List.length_map, List.length_append]
        rw [hsp] at hf
        refine ⟨found.take i ++ [(found[i].1 * found[i + 1].1, found[i].2 + found[i + 1].2)] ++ found.drop (i + 2), c4, ?_, hf.join⟩
        rw [List.map_append, List.map_append] <;> rfl
      · have w' : (b == 0) = false := by simpa using w
        simp only [vstep, ↓reduceIte, q, e3, Cup.inner, w, w']
        exact ⟨found, c3, rfl, hf⟩
    · simp only [vstep, ↓reduceIte, q]
      exact ⟨found, c2, rfl, hf⟩
  have y0 : ∀ s : Sz, sem .idx [pI s, .int 0] = some (.int s.1) := fun s => ix0 _ _
  have y1 : ∀ s : Sz, sem .idx [pI s, .int 1] = some (.int s.2) := fun s => ix1 _ _ _
  have g1 : sem .idx [gD g, .int 1] = some (.tup (g.2.map pairD)) := ix1 _ _ _
  have hun : ∀ {C : Nat → List VS.D → CR} {ts : Ts} {ρ : En} {p : GP}, bindT C (.t ts) (pairD p) ρ = bindTs C ts [pI p.1, tupI p.2] ρ := bT_t
  have en1 : S.map (fun s => VS.D.int s.1) = (S.map (·.1)).map D.int := by rw [List.map_map] <;> rfl
  have en2 : S.map (fun s => VS.D.int s.2) = (S.map (·.2)).map D.int := by rw [List.map_map] <;> rfl
  have eT1 : (S.map (·.1)).foldl (· * ·) 1 = T.1 := by rw [hpr]
  have eT2 : (S.map (·.2)).sum = T.2 := by rw [hpr]
  have cn : run P 58 i__law_number [.lst ((S.map (·.1)).map D.int)] = .ok (.int T.1) := by
    have := t_lnumber (n := 57) (S.map (·.1)) (fun i hi => by
      obtain ⟨s, hs, rfl⟩ := List.mem_map.mp hi
      have := hpos s hs
      omega) (.lst ((S.map (·.1)).map D.int)) (.inl rfl)
    rw [eT1] at this
    exact this
  obtain ⟨kind, c1, e1, k0, k1⟩ : ∃ (r : Int) (c' : Cup), run P 58 i__law_roll [c.D, .int 4] = .oki (.int r) c'.D ∧ 0 ≤ r ∧ r < 4 := t_roll (n := 57) c (many := 4) (by omega) (by omega)
  have hSl : S.length ≤ lineN := by unfold lineN; omega
  have pick : ∀ (c : Cup) (k : Int), 1 ≤ k → k ≤ 48 → ∃ (ds : List VS.D) (is : List Int) (i : Nat) (c2 c3 : Cup), run P 58 i__law_shapes [.int k] = .ok (.lst ds) ∧ run P 58 i__law_some [c.D, .lst ds] = .oki (tupI is) c2.D ∧ (∀ i ∈ is, 2 ≤ i) ∧ prN is = k ∧ is.length ≤ 5 ∧ run P 58 i__law_roll [c2.D, .int ((is.length : Int) + 1)] = .oki (.int (i : Int)) c3.D ∧ i ≤ is.length := fun c k hk1 hk2 => by
    obtain ⟨ds, d1, d2, d3, d4⟩ := shapes_one hk1 hk2
    obtain ⟨x, hx, c2, e2⟩ : ∃ x ∈ ds, ∃ c' : Cup, run P 58 i__law_some [c.D, .lst ds] = .oki x c'.D := t_someD (n := 56) c (.lst ds) ds (.inl rfl) d2 (by omega)
    obtain ⟨is, rfl, i2, ip⟩ := d4 x hx
    have hl := pow_lt6 (Int.le_trans (pow_len i2) (by omega))
    obtain ⟨r, c3, e3, r0, r1⟩ : ∃ (r : Int) (c' : Cup), run P 58 i__law_roll [c2.D, .int ((is.length : Int) + 1)] = .oki (.int r) c'.D ∧ 0 ≤ r ∧ r < (is.length : Int) + 1 := t_roll (n := 57) c2 (many := (is.length : Int) + 1) (by omega) (by omega)
    obtain ⟨i, rfl⟩ : ∃ m : Nat, r = m := ⟨r.toNat, by omega⟩
    exact ⟨ds, is, i, c2, c3, d1, e2, i2, ip, hl, e3, by omega⟩
  simp only [vstep, ↓reduceIte, g1, nm_gD]
  refine W_map (g := fun p : GP => pI p.1) ?_ (by have := hg.len; unfold lineN; omega) (by rfl) ?_
  · intro p _
    simp only [vstep, ↓reduceIte, hun, nm_pI, nm_tupI]
  · simp only [e0, vstep, ↓reduceIte]
    refine W_map (g := fun s : Sz => .int s.1) ?_ hSl (by rfl) ?_
    · intro s _
      simp only [vstep, ↓reduceIte, y0, nm_pI]
    · simp only [en1, vstep, ↓reduceIte, cn]
      refine W_map (g := fun s : Sz => .int s.2) ?_ hSl (by rfl) ?_
      · intro s _
        simp only [vstep, ↓reduceIte, y1, nm_pI]
      · simp only [en2, vstep, ↓reduceIte, eT2, e1, Cup.inner]
        by_cases q0 : kind = 0
        · subst q0
          obtain ⟨ds, is, i, c2, c3, d1, d2, i2, ip, il, d3, hi⟩ := pick c1 T.1 ht1.1 ht2
          simp only [vstep, ↓reduceIte, d1, d2, Cup.inner, nm_tupI, itK_tupI]
          refine W_map (g := fun v : Int => .tup [.int v, .int 0]) ?_ (by unfold lineN; omega) (by rfl) ?_
          · intro v _
            simp only [vstep, ↓reduceIte]
          · have hc1 : cutD ((row0 is).map pI) none (some (i : Int)) = ((row0 is).take i).map pI := by rw [cut_take _ (by rw [List.length_map]; unfold row0; rw [List.length_map]; omega), List.map_take]
            have hc2 : cutD ((row0 is).map pI) (some (i : Int)) none = ((row0 is).drop i).map pI := by rw [cut_drop, List.map_drop]
            have rl : (row0 is).length = is.length := by unfold row0; rw [List.length_map]
            have hk1 : ((row0 is).take i).length + (0 + 1) ≤ lineN := by rw [List.length_take]; unfold lineN; omega
            have hk2 : ((row0 is).take i).length + (0 + 1) + ((row0 is).drop i).length ≤ lineN := by rw [List.length_take, List.length_drop]; unfold lineN; omega
            have hm := main c3 0 ((row0 is).take i ++ [(1, T.2)] ++ (row0 is).drop i) (some (.int (i : Int))) none .no rfl
              ⟨fun s hs => by
                simp only [List.mem_append, List.mem_cons, List.not_mem_nil, or_false] at hs
                rcases hs with (hs | rfl) | hs
                · exact (row0_ent i2 s (List.take_subset _ _ hs)).pos
                · exact ⟨show (1 : Int) ≤ 1 by decide, ht1.2⟩
                · exact (row0_ent i2 s (List.drop_subset _ _ hs)).pos,
               by rw [prS_mid, List.take_append_drop, row0_pr, ip]; unfold mulS; simp,
               by rw [List.length_append, List.length_append, List.length_take, List.length_drop, rl, List.length_singleton]; omega⟩
            rw [List.map_append, List.map_append] at hm
            simp only [tlSs, f__law_shape_for, jk, vstep, ↓reduceIte, List.length_map, List.length_append, List.map_cons, List.map_nil] at hm
            simp only [row0_D, vstep, ↓reduceIte, rl, d3, Cup.inner, hc1, hc2, hk1, hk2, List.length_map, List.length_append, Int.reduceEq, Int.reduceBEq, Int.reduceLT]
            exact hm
        · have q0' : (kind == 0) = false := by simpa using q0
          by_cases q1 : kind = 1
          · subst q1
            obtain ⟨l', c2, e2, hp⟩ : ∃ (l' : List Sz) (c' : Cup), run P 58 i__law_mixed [c1.D, .lst (S.map pI)] = .oki (.lst (l'.map pI)) c'.D ∧ l'.Perm S := t_mixed (n := 56) c1 S (by omega)
            have hm := main c2 1 l' none none .no rfl ⟨fun s hs => by
                have := hpos s (hp.mem_iff.mp hs)
                exact ⟨this.1, this.2.2.1⟩, by rw [prS_perm hp, hT], by rw [hp.length_eq]; omega⟩
            simp only [tlSs, f__law_shape_for, jk, vstep, ↓reduceIte, List.length_map] at hm
            simp only [vstep, ↓reduceIte, e2, Cup.inner, nm_lst, List.length_map, Int.reduceEq, Int.reduceBEq, Int.reduceLT, Nat.reduceBEq]
            exact hm
          · have q1' : (kind == 1) = false := by simpa using q1
            have q2 : 1 < kind := by omega
            simp only [vstep, ↓reduceIte, q0, q0', q1, q1', q2]
            refine W_for (fun p ρ => ∃ (c' : Cup) (found : List Sz) (o7 o8 : Option VS.D) (s10 : Sl), slOk (some s10) = true ∧ ρ = [.io c'.D, .val (gD g), .val (.lst (S.map pI)), .val (.int T.1), .val (.int T.2), .val (.int kind), .own (.lst (found.map pI)), jk o7, jk o8, .no, s10, .no, .no] ∧ (∀ s ∈ found, Ent s) ∧ prS found = prS p ∧ found.length ≤ 10 * p.length)
              ⟨c1, [], none, none, _, rfl, rfl, fun s hs => (by cases hs), rfl, Nat.zero_le _⟩ ?_ ?_
            · rintro p s post hp ρ ⟨c', found, o7, o8, s10, hs10, rfl, hent, hpr', hfl⟩
              have hss := hpos s (pfx hp).1
              have hpl := (pfx hp).2
              obtain ⟨ds, is, i, c2, c3, d1, d2, i2, ip, il, d3, hi⟩ := pick c' s.1 hss.1 (by omega)
              have rl : (row0 is).length = is.length := by unfold row0; rw [List.length_map]
              simp only [vstep, ↓reduceIte, y0, nm_pI, d1, d2, Cup.inner, nm_tupI, itK_tupI, hs10]
              refine W_map (g := fun v : Int => .tup [.int v, .int 0]) ?_ (by unfold lineN; omega) (by rfl) ?_
              · intro v _
                simp only [vstep, ↓reduceIte]
              · have hc1 : cutD ((row0 is).map pI) none (some (i : Int)) = ((row0 is).take i).map pI := by rw [cut_take _ (by rw [List.length_map, rl]; omega), List.map_take]
                have hc2 : cutD ((row0 is).map pI) (some (i : Int)) none = ((row0 is).drop i).map pI := by rw [cut_drop, List.map_drop]
                have hk0 : found.length + is.length ≤ lineN := by unfold lineN; omega
                have hk1 : ((row0 is).take i).length + (0 + 1) ≤ lineN := by rw [List.length_take]; unfold lineN; omega
                have hk2 : ((row0 is).take i).length + (0 + 1) + ((row0 is).drop i).length ≤ lineN := by rw [List.length_take, List.length_drop]; unfold lineN; omega
                have hk3 : found.length + (((row0 is).take i).length + (0 + 1) + ((row0 is).drop i).length) ≤ lineN := by rw [List.length_take, List.length_drop]; unfold lineN; omega
                have hpp : prS (p ++ [s]) = mulS (prS p) s := by rw [prS_app, show prS [s] = s from mulS_one _]
                by_cases w : s.2 = 0
                · simp only [row0_D, vstep, ↓reduceIte, rl, d3, Cup.inner, y1, w, hk0, List.length_map, hs10]
                  refine LQ_nx ⟨c3, found ++ row0 is, some (.int (i : Int)), some (pI s), _, ?_, by rw [List.map_append] <;> rfl, fun x hx => ?_, ?_, by rw [List.length_append, List.length_append, rl, List.length_singleton]; omega⟩
                  · rfl
                  · rcases List.mem_append.mp hx with hx | hx
                    · exact hent x hx
                    · exact row0_ent i2 x hx
                  · rw [prS_app, row0_pr, ip, hpr', hpp]
                    congr 1
                    exact Prod.ext rfl w.symm
                · have w' : (s.2 == 0) = false := by simpa using w
                  simp only [row0_D, vstep, ↓reduceIte, rl, d3, Cup.inner, y1, w, w', hc1, hc2, hk1, hk2, hk3, List.length_map, List.length_append, hs10]
                  refine LQ_nx ⟨c3, found ++ ((row0 is).take i ++ [(1, 1)] ++ (row0 is).drop i), some (.int (i : Int)), some (pI s), _, ?_, by rw [List.map_append, List.map_append, List.map_append] <;> rfl, fun x hx => ?_, ?_, by rw [List.length_append, List.length_append, List.length_append, List.length_append, List.length_take, List.length_drop, rl, List.length_singleton, List.length_singleton]; omega⟩
                  · rfl
                  · simp only [List.mem_append, List.mem_cons, List.not_mem_nil, or_false] at hx
                    rcases hx with hx | (hx | rfl) | hx
                    · exact hent x hx
                    · exact row0_ent i2 x (List.take_subset _ _ hx)
                    · exact .inr rfl
                    · exact row0_ent i2 x (List.drop_subset _ _ hx)
                  · rw [prS_app, prS_mid, List.take_append_drop, row0_pr, ip, hpr', hpp]
                    congr 1
                    refine Prod.ext ?_ ?_
                    · show s.1 * 1 = s.1
                      omega
                    · show 0 + 1 = s.2
                      omega
            · rintro ρ ⟨c', found, o7, o8, s10, hs10, rfl, hent, hpr', hfl⟩
              rw [hT] at hpr'
              exact main c' kind found o7 o8 s10 hs10 (ent_shf hent hpr' ht2 ht3)
end LW
set_option Elab.async false
set_option linter.all false
set_option maxRecDepth 100000
/-! Lg82j: the law's own look; what the verdict is. -/
namespace LW
open PySem VS VT K80 K81 K82
theorem filter_not_empty {α : Type} (p : α → Bool) : ∀ l : List α, (l.filter fun x => !p x).isEmpty = l.all p
  | [] => rfl
  | a :: l => by
    rw [List.filter_cons, List.all_cons]
    cases h : p a
    · rfl
    · exact filter_not_empty p l
theorem brL_len (l : List Int) : (brL l).length = l.length - 1 := by unfold brL; rw [List.length_map, List.length_range]
theorem t_lsees {n : Nat} {g : GW} {sh : List Sz} {m : Int} (hg : Ask g) (hs : ShOk sh) (h1 : 1 ≤ m) (hm : Lt 45 m) : run P (n + 4) i__law_sees [gD g, .tup (sh.map pI), .int m] = .ok (.bl (seenVB g.2 sh m)) := by
  refine W_runE rfl rfl ?_
  have y0 : ∀ s : Sz, sem .idx [pI s, .int 0] = some (.int s.1) := fun s => ix0 _ _
  have y1 : ∀ s : Sz, sem .idx [pI s, .int 1] = some (.int s.2) := fun s => ix1 _ _ _
  have c1 : run P (n + 3) i__law_at [gD g, .int m] = .ok (wD (ev g.1 m, atV g.2 m)) := hg.lat (n := n) hm
  obtain ⟨a1, a2⟩ := at_small hg.gd h1 hm
  obtain ⟨b1, b2, b3⟩ := sh_ok a1
  have c2 := t_lshort (n := n + 2) a1 a2 (by rw [atV_len]; have := hg.l2; omega)
  have hl : (shV (atV g.2 m)).length ≤ 6 := by rw [atV_len] at b3; have := hg.l2; omega
  have fl : (fs (shV (atV g.2 m))).length ≤ 6 := by unfold fs; rw [List.length_map]; exact hl
  have small : ∀ (l : List Int), (∀ x ∈ l, 1 ≤ x) → prN l < 18446744073709551616 → ∀ i ∈ l, i.natAbs < 18446744073709551616 := fun l hl hp i hi => by
    have h1 := hl i hi
    have h2 := prod_ge l hl i hi
    unfold prN at hp
    omega
  have fI : ∀ x ∈ fs (shV (atV g.2 m)), 1 ≤ x := fun x hx => by
    obtain ⟨p, hp, rfl⟩ := List.mem_map.mp hx
    exact b1 p hp
  have c3 := t_lbreaks (n := n + 1) (l := fs (shV (atV g.2 m))) (small _ fI (by rw [← b2] at a2; exact a2)) (by omega) _ (.inl rfl)
  obtain ⟨d1, d2⟩ := brV_small hs.os h1 hm hs.prod
  have c4 := t_lbreaks (n := n + 1) (l := sh.map fun s => K81.sizeAt s m) (small _ d1 d2) (by rw [List.length_map]; have := hs.len; omega) _ (.inl rfl)
  have hix : sem .idx [wD (ev g.1 m, atV g.2 m), .int 1] = some (.tup ((atV g.2 m).map pI)) := ix1 _ _ _
  have e1 : (shV (atV g.2 m)).map (fun p => VS.D.int p.1) = (fs (shV (atV g.2 m))).map D.int := by unfold fs; rw [List.map_map] <;> rfl
  have e2 : sh.map (fun s => VS.D.int (K81.sizeAt s m)) = (sh.map fun s => K81.sizeAt s m).map D.int := by rw [List.map_map] <;> rfl
  simp only [vstep, ↓reduceIte]
  refine W_map (g := fun s => .int (K81.sizeAt s m)) ?_ (by have := hs.len; unfold lineN; omega) (by rfl) ?_
  · intro s hp
    have hmul : mulOk s.1 m = true := mulOk_l (by have := (hs.ok s hp); unfold okS at this; omega)
    unfold K81.sizeAt
    by_cases q : s.2 = 1
    · simp only [vstep, ↓reduceIte, y0, y1, q, hmul, nm_pI]
    · have q' : (s.2 == 1) = false := by simpa using q
      simp only [vstep, ↓reduceIte, y0, y1, q, q', hmul, nm_pI]
  · simp only [e2, vstep, ↓reduceIte, c1, nm_wD, hix, c2, nms_map nm_pI]
    refine W_map (g := fun p => .int p.1) ?_ (by unfold lineN; omega) (by rfl) ?_
    · rintro ⟨a, s⟩ hp
      have hun : ∀ {C : Nat → List VS.D → CR} {ts : Ts} {ρ : En}, bindT C (.t ts) (pI (a, s)) ρ = bindTs C ts [.int a, .int s] ρ := bT_t
      simp only [vstep, ↓reduceIte, hun]
    · simp only [e1, vstep, ↓reduceIte, c3, nm_tupI, itK_tupI]
      refine W_filter (p := fun v => !decide (v ∈ brL (sh.map fun s => K81.sizeAt s m))) (g := D.int) ?_ (by rw [brL_len]; unfold lineN; omega) (by rfl) ?_
      · intro v hv
        simp only [vstep, ↓reduceIte, c4, nm_tupI, sIn_tupI]
        cases decide (v ∈ brL (sh.map fun s => K81.sizeAt s m)) <;> simp only [vstep, ↓reduceIte]
      · simp only [vstep, ↓reduceIte, fines_ints, eqvs_nil_r, W_eq, List.isEmpty_map, filter_not_empty]
        rfl
theorem seenF_ok {g : GW} {sh : List Sz} (hg : Ask g) (hs : ShOk sh) {m : Int} (h1 : 1 ≤ m) : ((seenF g sh).1 == decide (m ∈ (seenF g sh).2)) = !seenVB g.2 sh m := by
  obtain ⟨hGd, hN, hP, hL, hS⟩ := genP_ok hg.gd
  have hS := hS m h1
  have tr : SeenV (genP g.2) sh m ↔ SeenV g.2 sh m := by unfold SeenV; rw [hS]
  unfold seenF
  by_cases q : seenGB (genP g.2) sh = true
  · rw [if_pos q]
    have h2 := seen_gen hGd hs.os h1 ((seenGB_iff _ _).mp q)
    rw [(seenVB_iff g.2 sh m).mpr (tr.mp h2)]
    simp
  · rw [if_neg q]
    have key : m ∈ (setI (spS (genP g.2) sh)).filter (fun m => seenVB g.2 sh m) ↔ seenVB g.2 sh m = true := by
      rw [List.mem_filter, mem_setI]
      constructor
      · exact fun z => z.2
      · intro e
        refine ⟨?_, e⟩
        have h2 := tr.mpr ((seenVB_iff g.2 sh m).mp e)
        unfold spS
        rcases seen_spot hGd hN hP hs.os h1 (fun z => q ((seenGB_iff _ _).mpr z)) h2 with h3 | ⟨s, t, h3, h4, h5⟩
        · exact List.mem_append_left _ (mem_setI.mpr h3)
        · exact List.mem_append_right _ (List.mem_flatMap.mpr ⟨s, mem_brSL.mpr h3, List.mem_flatMap.mpr ⟨t, mem_brSL.mpr h4, h5⟩⟩)
    show (false == decide (m ∈ (setI (spS (genP g.2) sh)).filter (fun m => seenVB g.2 sh m))) = _
    cases z : seenVB g.2 sh m with
    | true => rw [decide_eq_true (key.mpr z)] <;> rfl
    | false => rw [decide_eq_false fun w => by rw [key.mp w] at z; cases z] <;> rfl
theorem seenF_mem {g : GW} {sh : List Sz} (hg : Ask g) (hs : ShOk sh) : (seenF g sh).2.Pairwise (· < ·) ∧ (seenF g sh).2.length < 64 ∧ ∀ m ∈ (seenF g sh).2, 1 ≤ m ∧ Lt 45 m := by
  unfold seenF
  split
  · exact ⟨List.Pairwise.nil, by decide, fun _ h => nomatch h⟩
  · refine ⟨List.Pairwise.filter _ (setI_sorted _), ?_, fun m hm => spS_ok hg hs (mem_setI.mp (List.mem_filter.mp hm).1)⟩
    exact Nat.lt_of_le_of_lt (Nat.le_trans (List.length_filter_le _ _) (setI_len _)) (spS_len hg hs)
theorem gd_mono {a b : Nat} {most : Int} {l : List GP} (h : Gd a most l) (hab : a ≤ b) : Gd b most l :=
  ⟨fun p hp => by
    obtain ⟨h1, h2, h3, h4, h5, h6⟩ := h.ok p hp
    exact ⟨h1, h2, h3, h4, h5, h6.mono hab⟩, h.sum, h.prod⟩
theorem tellG_gd {g : GW} {sh : List Sz} (hg : Ask g) (h3 : ∀ p ∈ genP g.2, p.2.length ≤ 3) (hs : ShOk sh) (he : prS sh = prS (szs (genP g.2))) (hG : SeenG (genP g.2) sh) :
    Gd 37 5000 (tellG (genP g.2) sh) ∧ genP (tellG (genP g.2) sh) = genP g.2 ∧ szs (tellG (genP g.2) sh) = sh ∧ ∀ p ∈ tellG (genP g.2) sh, p.1 = (1, 0) → p.2 = [] := by
  obtain ⟨hGd, hN, hP, hL, _⟩ := genP_ok hg.gd
  have hpl : ∀ p ∈ genP g.2, (1 ≤ p.1.1 ∧ 0 ≤ p.1.2) ∧ p.1 ≠ (1, 0) := fun p hp => ⟨⟨(hGd.ok p hp).1, (hGd.ok p hp).2.1⟩, (plain_iff p).mp (hP p hp)⟩
  obtain ⟨r1, r2, r3⟩ := tellG_ref hs.os.1 hpl he hG
  have rm := tellG_mem hs.os hpl (fun p hp => (hGd.ok p hp).2.2.2.1) he hG
  have h37 : Gd 37 5000 (tellG (genP g.2) sh) := by
    refine ⟨fun q hq => ?_, ?_, ?_⟩
    · have h1 : q.1 ∈ sh := by rw [← r2]; exact List.mem_map.mpr ⟨q, hq, rfl⟩
      have h2 := hs.ok q.1 h1
      refine ⟨h2.1, h2.2.2.1, h2.2.2.2, ?_⟩
      rcases rm q hq with e | ⟨a, ha, s, e, s1, s2, s3, s4⟩
      · rw [e]
        exact ⟨fun k hk => (by cases hk), by simp, fun c hc => (by cases hc)⟩
      · have b1 := h3 a ha
        have b2 := sizedF_len a.2 s
        have b3 := (hGd.size ha).2
        have b4 : Bd (24 + 13) (sizedF a.2 s) := Bd.sizedF (hGd.ok a ha).2.2.2.2.2 (lt13 (by omega) (by omega))
        rw [e]
        exact ⟨sizedF_lean _ _, by omega, b4⟩
    · have h2 := hs.os.2
      rw [← r2, prS_foldl] at h2
      unfold szs at h2
      rw [List.map_map, List.map_map] at h2
      exact h2
    · have h2 := hs.prod
      rw [← r2, prS_foldl] at h2
      unfold szs at h2
      rw [List.map_map, List.map_map] at h2
      exact h2
  exact ⟨h37, genP_ref (gd_mono hGd (by omega)) hN h37 r1, r2, r3⟩
end LW
set_option Elab.async false
set_option linter.all false
set_option maxRecDepth 100000
/-! Lg82k: _law_seen_right. -/
namespace LW
open PySem VS VT K80 K81 K82
theorem t_alike_self {n : Nat} {g : GW} {F : List GP} (hg : Ask g) (hF : Gd 37 5000 F) (hl : F.length ≤ 6) (e : genP F = genP g.2) : run P (n + 12) i_alike_values [gD g, gD (g.1, F)] = .ok (vD (true, [])) := by
  have hok : okG (g.1, F) := ⟨⟨hg.le, hg.l1⟩, fun q hq => ⟨⟨(hF.ok q hq).2.2.2.1, (hF.ok q hq).2.2.2.2.1⟩, (hF.size hq).1, (hF.size hq).2, (hF.ok q hq).2.1, (hF.ok q hq).2.2.1⟩, show F.length ≤ 16 by omega, hF.sum, hF.prod⟩
  have a1 := t_need_growing (n := n + 4) hg.okG
  have a2 := t_need_growing (n := n + 4) hok
  have c0 : run P (n + 11) i_need_both [gD g, gD (g.1, F)] = .ok .non := by
    refine W_runE rfl rfl ?_
    simp only [vstep, ↓reduceIte, a1, a2, W_eq]
  have c1 : run P (n + 10) i_general_in [gD g] = .ok (gD (g.1, genP g.2)) := t_general_in (n := n + 5) hg.gd (by omega) (by have := hg.l2; omega)
  have c2 : run P (n + 10) i_general_in [gD (g.1, F)] = .ok (gD (g.1, genP g.2)) := by
    have := t_general_in (n := n + 5) (g := (g.1, F)) hF (by omega) (by show F.length ≤ 1000; omega)
    rw [show genP (g.1, F).2 = genP g.2 from e] at this
    exact this
  have c3 : run P (n + 11) i_alike_in [gD g, gD (g.1, F)] = .ok (vD (true, [])) := by
    refine W_runE rfl rfl ?_
    have hq : D.eqv (gD (g.1, genP g.2)) (gD (g.1, genP g.2)) = true := (tells_gD _ _).mpr rfl
    simp only [vstep, ↓reduceIte, c1, c2, nm_gD, fn_gD, hq, W_eq]
    rfl
  refine W_runE rfl rfl ?_
  simp only [vstep, ↓reduceIte, c0, c3, nm_vD, W_eq]
theorem gd_okG {g : GW} {F : List GP} (hg : Ask g) (hF : Gd 37 5000 F) (hl : F.length ≤ 6) : okG (g.1, F) := ⟨⟨hg.le, hg.l1⟩, fun q hq => ⟨⟨(hF.ok q hq).2.2.2.1, (hF.ok q hq).2.2.2.2.1⟩, (hF.size hq).1, (hF.size hq).2, (hF.ok q hq).2.1, (hF.ok q hq).2.2.1⟩, show F.length ≤ 16 by omega, hF.sum, hF.prod⟩
theorem rD64 : rngD 1 64 = ((List.range (64 - 1)).map fun i : Nat => 1 + (i : Int)).map D.int := rng_1 64
theorem rO64 : rngOk 1 64 = true := by decide
theorem rL64 : ((64 : Int) - 1).toNat ≤ lineN := by decide
theorem pow8 : sem .pow [.int 10, .int 8] = some (.int 100000000) := by rfl
theorem pow9 : sem .pow [.int 10, .int 9] = some (.int 1000000000) := by rfl
theorem t_seen_right {n : Nat} (c : Cup) {g : GW} {sh : List Sz} (hg : Ask g) (h3 : ∀ p ∈ genP g.2, p.2.length ≤ 3) (hs : ShOk sh) (he : prS sh = prS (szs g.2)) : ∃ c' : Cup, run P (n + 13) i__law_seen_right [c.D, gD g, .tup (sh.map pI)] = .oki (.bl true) c'.D := by
  refine W_run (Q := fun r => ∃ c' : Cup, r = .oki (.bl true) c'.D) rfl rfl ?_
  have c1 := t_seen_values (n := n) hg hs he
  obtain ⟨vs, vl, vm⟩ := seenF_mem hg hs
  have vok := fun m (hm : 1 ≤ m) => seenF_ok hg hs (m := m) hm
  have c9 := t_seen_generally (n := n) hg h3 hs he
  have gq : (seenF g sh).1 = seenGB (genP g.2) sh := by
    unfold seenF
    by_cases q : seenGB (genP g.2) sh = true
    · rw [if_pos q, q]
    · rw [if_neg q]
      show false = _
      cases z : seenGB (genP g.2) sh with
      | true => exact absurd z q
      | false => rfl
  generalize hV : seenF g sh = v at c1 vs vl vm vok gq
  obtain ⟨gen, L⟩ := v
  have gq : gen = seenGB (genP g.2) sh := gq
  have vl : L.length < 64 := vl
  have vs : L.Pairwise (· < ·) := vs
  have c4 : run P (n + 12) i__law_sort [.bl gen] = .ok (.int 1) := t_sort (n := n + 11) (d := .bl gen) rfl
  have hun : ∀ {C : Nat → List VS.D → CR} {ts : Ts} {ρ : En}, bindT C (.t ts) (vD (gen, L)) ρ = bindTs C ts [.bl gen, tupI L] ρ := bT_t
  have hli : sem .list [tupI L] = some (.lst (L.map D.int)) := rfl
  have hss : sem .sset [tupI L] = some (.lst (L.map D.int)) := by
    unfold tupI
    rw [s_ssett, if_pos vl, setI_eq vs]
  have hse : D.eqvs (L.map D.int) (L.map D.int) = true := (eqvs_map tells_int _ _).mpr rfl
  obtain ⟨r1, k1, e1, r10, r11⟩ := t_roll (n := n + 11) c (many := 1000) (by omega) (by omega)
  obtain ⟨r2, k2, e2, r20, r21⟩ := t_roll (n := n + 11) k1 (many := 1000) (by omega) (by omega)
  have kk1 : (List.range (64 - 1)).length + L.length ≤ lineN := by rw [List.length_range]; unfold lineN; omega
  have kk2 : (List.range (64 - 1)).length + L.length + (0 + 1 + 1) ≤ lineN := by rw [List.length_range]; unfold lineN; omega
  have hl : ((List.range (64 - 1)).map fun i : Nat => 1 + (i : Int)).map D.int ++ L.map D.int ++ [.int (97 + r1), .int (100000000 + r2)] = (((List.range (64 - 1)).map fun i : Nat => 1 + (i : Int)) ++ L ++ [97 + r1, 100000000 + r2]).map D.int := by rw [List.map_append, List.map_append] <;> rfl
  simp only [vstep, ↓reduceIte, c1, nm_vD, c4, hun, hli, hss, fines_ints, hse, nm_tupI, itK_tupI, Int.reduceEq, Int.reduceBEq]
  refine W_filter (p := fun _ => false) (g := D.int) ?_ (by unfold lineN; omega) (by rfl) ?_
  · intro m hm
    have m1 := (vm m hm).1
    have m3 : ¬ m < 1 := by omega
    simp only [vstep, ↓reduceIte, m3]
  · simp only [vstep, ↓reduceIte, filter_false, List.map_nil, List.isEmpty_nil, rD64, rO64, rL64, hli, e1, e2, Cup.inner, pow8, List.length_map, List.length_append, kk1, kk2, hl]
    have hms : ∀ m ∈ ((List.range (64 - 1)).map fun i : Nat => 1 + (i : Int)) ++ L ++ [97 + r1, 100000000 + r2], 1 ≤ m ∧ Lt 45 m := fun m hm => by
      rcases List.mem_append.mp hm with w | w
      · rcases List.mem_append.mp w with w | w
        · have := (mem_rng1 (k := 64)).mp w
          exact ⟨this.1, by unfold Lt; omega⟩
        · exact vm m w
      · simp only [List.mem_cons, List.not_mem_nil, or_false] at w
        rcases w with rfl | rfl
        · exact ⟨by omega, by unfold Lt; omega⟩
        · exact ⟨by omega, by unfold Lt; omega⟩
    generalize ((List.range (64 - 1)).map fun i : Nat => 1 + (i : Int)) ++ L ++ [97 + r1, 100000000 + r2] = M at hms
    refine W_for (fun p ρ => ∃ (o1 o2 : Option VS.D), ρ = [.io k2.D, .val (gD g), .val (.tup (sh.map pI)), jk o1, .no, .val (.bl gen), .val (tupI L), jk o2, .no, .no]) ⟨none, none, rfl⟩ ?_ ?_
    · rintro p m post hp ρ ⟨o1, o2, rfl⟩
      obtain ⟨m1, m2⟩ := hms m (pfx hp).1
      have d1 : run P (n + 12) i__law_sees [gD g, .tup (sh.map pI), .int m] = .ok (.bl (seenVB g.2 sh m)) := t_lsees (n := n + 8) hg hs m1 m2
      have v := vok m m1
      have v : (gen == decide (m ∈ L)) = !seenVB g.2 sh m := v
      have v2 : (!(gen == decide (m ∈ L))) = seenVB g.2 sh m := by rw [v, Bool.not_not]
      have d3 : run P (n + 12) i__law_like [.lst [.bl (seenVB g.2 sh m), .bl (seenVB g.2 sh m)], .lst [.bl (seenVB g.2 sh m), .bl (seenVB g.2 sh m)]] = .ok (.bl true) := t_like (n := n + 8) 1 _ (by omega) (by rw [pl_lst, pls_cons, pls_cons, pls_nil, pl_bl] <;> simp [lineN])
      by_cases w : m < 1000000000
      · have d4 : run P (n + 12) i_seen_at [gD g, .tup (sh.map pI), .int m] = .ok (.bl (seenVB g.2 sh m)) := t_seen_at (n := n + 4) hg hs he m1 (by omega)
        generalize seenVB g.2 sh m = due at *
        simp only [vstep, ↓reduceIte, d1, pow9, w, d4, sIn_tupI, v2, d3]
        exact LQ_nx ⟨some (.int m), some (.bl due), rfl⟩
      · generalize seenVB g.2 sh m = due at *
        simp only [vstep, ↓reduceIte, d1, pow9, w, sIn_tupI, v2, d3]
        exact LQ_nx ⟨some (.int m), some (.bl due), rfl⟩
    · rintro ρ ⟨o1, o2, rfl⟩
      by_cases q : seenGB (genP g.2) sh = true
      · rw [q] at gq
        rw [if_pos q] at c9
        subst gq
        obtain ⟨f1, f2, f3, f4⟩ := tellG_gd hg h3 hs (he.trans (genP_prS g.2).symm) ((seenGB_iff _ _).mp q)
        generalize tellG (genP g.2) sh = F at c9 f1 f2 f3 f4
        have fl : F.length ≤ 6 := by
          have := congrArg List.length f3
          unfold szs at this
          rw [List.length_map] at this
          have := hs.len
          omega
        have okF := gd_okG hg f1 fl
        have e3 := t_is_growing (n := n + 6) okF.plain
        rw [growB_gD.mpr okF] at e3
        have e4 := t_alike_self (n := n) hg f1 fl f2
        have e5 : run P (n + 12) i__law_like [vD (true, []), .tup [.bl true, .tup []]] = .ok (.bl true) := t_like (n := n + 7) 2 (vD (true, [])) (by omega) (by decide)
        have g0 : ∀ h : GW, sem .idx [gD h, .int 0] = some (tupI h.1) := fun h => ix0 _ _
        have g1 : ∀ h : GW, sem .idx [gD h, .int 1] = some (.tup (h.2.map pairD)) := fun h => ix1 _ _ _
        have hun2 : ∀ {C : Nat → List VS.D → CR} {ts : Ts} {ρ : En} {p : GP}, bindT C (.t ts) (pairD p) ρ = bindTs C ts [pI p.1, tupI p.2] ρ := bT_t
        have ef : F.map (fun p => pI p.1) = sh.map pI := by
          rw [← f3]; unfold szs; rw [List.map_map] <;> rfl
        have eq1 : D.eqvs (sh.map pI) (sh.map pI) = true := (eqvs_map tells_pI _ _).mpr rfl
        have eq2 : D.eqv (tupI g.1) (tupI g.1) = true := (tells_tupI _ _).mpr rfl
        simp only [vstep, ↓reduceIte, c9, nm_gD, e3, g1, g0]
        refine W_map (g := fun p : GP => pI p.1) ?_ (by unfold lineN; omega) (by rfl) ?_
        · intro p _
          simp only [vstep, ↓reduceIte, hun2, nm_pI, nm_tupI]
        · simp only [ef, vstep, ↓reduceIte, g1, g0, fines_pIs, eq1, f_tupI, eq2]
          refine W_filter (p := fun _ => false) (g := fun p : GP => tupI p.2) ?_ (by unfold lineN; omega) (by rfl) ?_
          · intro p hp
            have u1 : D.eqv (pI p.1) (.tup [.int 1, .int 0]) = decide (p.1 = (1, 0)) := eqv_pI p.1 (1, 0)
            have u2 : D.fine (.tup [.int 1, .int 0]) 64 = true := fn_pI (1, 0) 63
            by_cases z : p.1 = (1, 0)
            · have z2 := f4 p hp z
              rw [decide_eq_true z] at u1
              simp only [vstep, ↓reduceIte, hun2, nm_pI, nm_tupI, fn_pI, u1, u2, f_tupI, eqv_tupI, z2, List.isEmpty_nil]
            · simp only [vstep, ↓reduceIte, hun2, nm_pI, nm_tupI, fn_pI, u1, u2, z, decide_false]
          · simp only [vstep, ↓reduceIte, filter_false, List.map_nil, List.isEmpty_nil, e4, nm_vD, e5]
            exact ⟨k2, rfl⟩
      · have q' : seenGB (genP g.2) sh = false := by simpa using q
        rw [q'] at gq
        rw [if_neg q] at c9
        subst gq
        simp only [vstep, ↓reduceIte, c9, D.isNon]
        exact ⟨k2, rfl⟩
end LW
set_option Elab.async false
set_option linter.all false
set_option maxRecDepth 100000
/-! Lg82l: k82: the law. -/
namespace LW
open PySem VS VT K80 K81 K82
def isTru : CR → Bool
  | .ok (.bl true) => true
  | _ => false
theorem isTru_eq {r : CR} (h : isTru r = true) : r = .ok (.bl true) := by
  unfold isTru at h
  split at h
  · rfl
  · cases h
set_option maxHeartbeats 4000000 in
theorem t_written : run P 59 i__law_written_right [] = .ok (.bl true) := isTru_eq (by decide +kernel)
theorem genP_l3 {l : List GP} (h : ∀ p ∈ l, p.2.length ≤ 3) : ∀ p ∈ genP l, p.2.length ≤ 3 := by
  refine norm_ind (mg := mgG) (jn := jnG) (T := fun z => ∀ p ∈ z, p.2.length ≤ 3) (fun x p q y _ hT a ha => ?_) _ _ (fun p hp => h p (List.mem_filter.mp hp).1)
  rcases List.mem_append.mp ha with w | w
  · exact hT a (List.mem_append_left _ w)
  · rcases List.mem_cons.mp w with w | w
    · rw [w]; exact hT p (by simp)
    · exact hT a (by simp [w])
theorem sem (xs : List Int) (h : xs.length ≤ 63) : run P 60 i_law [.frl (xs.map D.int)] = .ok (.bl true) := by
  refine W_runE rfl rfl ?_
  obtain ⟨c, e1⟩ : ∃ c : Cup, run P 59 i__law_cup [.frl (xs.map D.int)] = .ok c.D := t_cup (n := 58) xs h
  have e2 := t_written
  have ok20 : rngOk 0 20 = true := by decide
  have rng20 : rngD 0 20 = (List.range 20).map fun i : Nat => D.int (i : Int) := rngD_nat 20
  simp only [vstep, ↓reduceIte, e1, e2, Cup.isMut, Cup.noMut, ok20, rng20]
  generalize List.range 20 = l20
  refine W_for (fun p ρ => ∃ (c' : Cup) (o1 o2 : Option VS.D), ρ = [.val (.frl (xs.map D.int)), .own c'.D, jk o1, jk o2]) ⟨c, none, none, rfl⟩ ?_ ?_
  · rintro p m post hp ρ ⟨c', o1, o2, rfl⟩
    obtain ⟨g, c2, e3, hg⟩ : ∃ (g : GW) (c2 : Cup), run P 59 i__law_growing [c'.D, .int 48] = .oki (gD g) c2.D ∧ Drn 48 g := t_growing (n := 55) c' (by decide) (by decide)
    have ag := Drn.ask hg
    obtain ⟨sh, c3, e4, hsh⟩ := t_shape_for c2 hg
    have hT : (prS (szs g.2)).1 ≤ 48 := by
      rw [prS_foldl]
      have := hg.prod
      unfold szs
      rw [List.map_map]
      exact this
    have hs := hsh.ok hT (okS_gd ag.gd).2
    obtain ⟨c4, e5⟩ : ∃ c4 : Cup, run P 59 i__law_seen_right [c3.D, gD g, .tup (sh.map pI)] = .oki (.bl true) c4.D := t_seen_right (n := 46) c3 ag (genP_l3 hg.l2) hs hsh.pr
    simp only [vstep, ↓reduceIte, e3, e4, e5, Cup.inner, nm_gD, nms_map nm_pI, Nat.reduceBEq]
    exact LQ_nx ⟨c4, some (.int m), some (gD g), rfl⟩
  · rintro ρ ⟨c', o1, o2, rfl⟩
    simp only [vstep, ↓reduceIte, W_eq]
end LW
set_option Elab.async false
set_option linter.all false
set_option maxRecDepth 100000
set_option maxHeartbeats 0
open PySem PySem.W PySem.Calls PyProof.Rows
theorem PySem.Challenge.cw_walkstrides_k82_whole_growing_shapes_holds : PySem.Challenge.rw_walkstrides_k82_whole_growing_shapes.Holds := by
  w_on; o_law
  refine HandSHeadRun.head_any (r := OpenLaw.row PySem.Challenge.rw_walkstrides_k82_whole_growing_shapes) (q := view (OpenLaw.row PySem.Challenge.rw_walkstrides_k82_whole_growing_shapes).prog [86]) (H := LW.hk) (ob := LW.ob) (M := 5000) (loose := LW.loose) (d := HandSHeadRun.topDef (OpenLaw.row PySem.Challenge.rw_walkstrides_k82_whole_growing_shapes).prog 86) (kwd := []) LW.ob_eq
    (by kernel_rfl) (fun s => by kernel_rfl) LW.hrun (by kernel_rfl) (by kernel_rfl) (by kernel_rfl) (by rfl) (by first | assumption | decide +kernel) (by decide +kernel) ⟨rfl, rfl, rfl, rfl, rfl, by decide +kernel⟩ ?hw ?hc
  case hw => w_witness2
  case hc =>
    refine L2.walk_ofE (l := PySem.Challenge.rw_walkstrides_k82_whole_growing_shapes) (n := 63) (k := 60) (x := "script") (CX := L2.CX0) rfl (by decide) (by kernel_rfl) ⟨rfl, by decide, by decide⟩ ?F (fun _ _ _ _ z => z)
    intro w mg fa h Y G hmg0
    obtain ⟨K, KX, c⟩ := Y
    have hmg : mg ("law" : PySem.Str) = some (.ref fa) := by
      have e : (HandSHeadRun.topDef (OpenLaw.row PySem.Challenge.rw_walkstrides_k82_whole_growing_shapes).prog 86).name = ("law" : PySem.Str) := by kernel_rfl
      rw [← e]
      exact hmg0
    exact VS.law_end (P := LW.P) (m := LW.nm) (prog := LW.prog) (ns := LW.ns) (tops := LW.tops) (li := 69) LW.chk LW.hb KX G c hmg rfl rfl rfl rfl rfl rfl LW.sem
