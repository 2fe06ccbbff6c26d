import PyProof.Rows.All
import Wide.All
import OpenK.AllK
import Wide.FinOn
import Open.SpecLaws
import KE.OsHead
import KE.OsGo
import HandS.ForSpec
import HandS.Comp
import HandS.Dict
import HandS.WordsDict
import HandS.Iter
import HandS.NoneIn
import HandS.Steps
import HandS.TupLe
import KE.KDictZip
import KE.GoesEnum
import HandS.ListItems
import PySem.Challenge.RW_songkin_s01_answers
set_option Elab.async false
set_option linter.all false
set_option maxRecDepth 100000
set_option maxHeartbeats 4000000
/-! Rules that the layer lacks: least of a list of tuples of ints; a list's slice with a step. -/
namespace SkR
open PySem PySem.Spec PyProof.Rows L2

section
variable {prog : Program} {w : World} {A : Around} {R : Result → Shared → Prop} {I : Addr} {fp wr : List Addr} {G : Array GenState → Array GenState → Prop} {n : Nat} {P : Nat → Value → Prop} {St : Nat → Shared → Prop}

/-- what comparing needs to know of the heap stays: old objects are kept -/
def Old (s0 s : Shared) : Prop := ∀ b o, s0.heap.get? b = some o → s.heap.get? b = some o
def CmpAt (prog : Program) (w : World) (A : Around) (s0 : Shared) (P : Nat → Value → Prop) (bt : Nat → Nat → Bool) : Prop :=
  ∀ i j vi vj (s : Shared) (Q : Value → Shared → Prop) (E : Value → Shared → Prop), Old s0 s → P i vi → P j vj → Q (.bool (bt i j)) s →
    wpAny (model prog w) A (richCompare .Lt vi vj) Q E s

theorem loop_name : (toString "min" ++ toString ".loop" : String) = "min.loop" := by decide

theorem min_turns {s0 : Shared} (W : WalksS prog w A.in1 I fp wr G n P St) (bt : Nat → Nat → Bool) (cmp : CmpAt prog w A.in1 s0 P bt) (S : Addr) (hSf : S ∉ fp)
    (old : ∀ b o, s0.heap.get? b = some o → b ∉ S :: wr) : ∀ (k j : Nat) (s : Shared) (vb : Value) (c : Nat), n - (j + 1) = k → j + 1 ≤ n → Old s0 s → St (j + 1) s →
      P (argBest bt j) vb → s.heap.get? S = some { cls := .type "list", dict := none, data := .seq #[vb, vb] c, slots := #[] } →
      (∀ v s', P (argBest bt (n - 1)) v → Moved (S :: wr) G s s' → R (.ok (.ret v)) s') →
      codeAny (model prog w) A (.builtin "min.loop" ⟨[.ref I, .none, .ref S], []⟩) R s := by
  have nw : S ∉ wr := fun h => hSf (W.sub _ h)
  have up : ∀ b ∈ wr, b ∈ S :: wr := fun b hb => List.mem_cons_of_mem _ hb
  have ne : ∀ {b : Addr}, b ∉ S :: wr → S ≠ b := fun hb h => hb (h ▸ List.mem_cons_self)
  intro k
  induction k with
  | zero =>
    intro j s vb c hk hj ho st pb hS fin
    have ej : j + 1 = n := by omega
    refine codeAny_builtin F.entry_min_loop ?_
    rw [Around.under_plainId F.plain_min_loop _]
    show wpAny _ A.in1 (seqItems? (.ref S) >>= _) _ _ s
    refine wpAny_bind (wpAny_seqItems hS rfl ?_)
    show wpAny _ A.in1 (tryCatch (pyNext (.ref I)) _ >>= _) _ _ s
    refine wpAny_bind (wpAny_tryCatch (W.done s _ _ (ej ▸ st) fun s1 mv => ?_))
    have hS1 := mv.heap S _ nw hS
    show wpAny _ A.in1 (updateSeq S (fun _ => #[]) >>= _) _ _ _
    refine wpAny_bind ?_
    refine wpAny_updateSeq hS1 rfl (wpAny_bind (wpAny_letGo (wpAny_pure ?_)))
    refine fin vb _ (ej ▸ pb) ((mv.mono up).then_heap (tk := s1.toks) (Nat.le_refl _) fun b o hb e => ?_)
    exact (Heap.get?_update_other _ _ (ne hb)).trans e
  | succ k ih =>
    intro j s vb c hk hj ho st pb hS fin
    have lt : j + 1 < n := by omega
    refine codeAny_builtin F.entry_min_loop ?_
    rw [Around.under_plainId F.plain_min_loop _]
    show wpAny _ A.in1 (seqItems? (.ref S) >>= _) _ _ s
    refine wpAny_bind (wpAny_seqItems hS rfl ?_)
    show wpAny _ A.in1 (tryCatch (pyNext (.ref I)) _ >>= _) _ _ s
    refine wpAny_bind (wpAny_tryCatch (W.item (j + 1) s _ _ lt st fun v s1 pv st1 mv => ?_))
    have hS1 := mv.heap S _ nw hS
    have ho1 : Old s0 s1 := fun b o e => mv.heap b o (fun z => old b o e (up b z)) (ho b o e)
    show wpAny _ A.in1 (tryCatch (holding [v, v] (richCompare .Lt v vb >>= _)) _ >>= _) _ _ _
    refine wpAny_bind (wpAny_tryCatch (wpAny_holding (wpAny_bind (cmp (j + 1) (argBest bt j) v vb _ _ _ ho1 pv pb ?_))))
    refine wpAny_bind (wpAny_holding (wpAny_truthy_bool ?_))
    refine wpAny_bind (wpAny_letGo (wpAny_pure ?_))
    cases hb : bt (j + 1) (argBest bt j) with
    | true =>
      simp only [if_true]
      refine wpAny_bind ?_
      refine wpAny_updateSeq hS1 rfl (wpAny_bind (wpAny_letGo ?_))
      rw [loop_name]
      have kept : ∀ b o, b ∉ S :: wr → s1.heap.get? b = some o → (s1.heap.update S (Obj.mapSeq fun _ => #[v, v])).get? b = some o := fun b o z e =>
        (Heap.get?_update_other _ _ (ne z)).trans e
      refine wpAny_pure ⟨plainId_quiet F.plain_min_loop _, ih (j + 1) _ v _ (by omega) lt (fun b o e => kept b o (old b o e) (ho1 b o e)) (W.frame _ s1 _ s1.toks st1 (Nat.le_refl _) fun b z o e => ?_)
        (by simp only [argBest, hb, if_true]; exact pv) (Heap.get?_update_self _ hS1 rfl) fun v2 s2 p2 m2 => ?_⟩
      · exact (Heap.get?_update_other _ _ (fun h : S = b => hSf (h ▸ z))).trans e
      · exact fin v2 s2 p2 (Moved.trans W.gtrans ((mv.mono up).then_heap (Nat.le_refl _) fun b o z e => kept b o z e) m2)
    | false =>
      simp only [Bool.false_eq_true, if_false]
      refine wpAny_bind (wpAny_letGo ?_)
      rw [loop_name]
      refine wpAny_pure ⟨plainId_quiet F.plain_min_loop _, ih (j + 1) _ vb c (by omega) lt ho1 st1 (by simp only [argBest, hb, Bool.false_eq_true, if_false]; exact pb) hS1 fun v2 s2 p2 m2 => ?_⟩
      exact fin v2 s2 p2 (Moved.trans W.gtrans (mv.mono up) m2)

theorem min_first {s0 : Shared} (W : WalksS prog w A.in1 I fp wr G n P St) (bt : Nat → Nat → Bool) (cmp : CmpAt prog w A.in1 s0 P bt) (S : Addr) (hSf : S ∉ fp)
    (old : ∀ b o, s0.heap.get? b = some o → b ∉ S :: wr) (hn : 0 < n) {s : Shared} {c : Nat} (ho : Old s0 s) (st : St 0 s)
    (hS : s.heap.get? S = some { cls := .type "list", dict := none, data := .seq #[] c, slots := #[] })
    (fin : ∀ v s', P (argBest bt (n - 1)) v → Moved (S :: wr) G s s' → R (.ok (.ret v)) s') :
    codeAny (model prog w) A (.builtin "min.loop" ⟨[.ref I, .none, .ref S], []⟩) R s := by
  have nw : S ∉ wr := fun h => hSf (W.sub _ h)
  have up : ∀ b ∈ wr, b ∈ S :: wr := fun b hb => List.mem_cons_of_mem _ hb
  have ne : ∀ {b : Addr}, b ∉ S :: wr → S ≠ b := fun hb h => hb (h ▸ List.mem_cons_self)
  refine codeAny_builtin F.entry_min_loop ?_
  rw [Around.under_plainId F.plain_min_loop _]
  show wpAny _ A.in1 (seqItems? (.ref S) >>= _) _ _ s
  refine wpAny_bind (wpAny_seqItems hS rfl ?_)
  show wpAny _ A.in1 (tryCatch (pyNext (.ref I)) _ >>= _) _ _ s
  refine wpAny_bind (wpAny_tryCatch (W.item 0 s _ _ hn st fun v s1 pv st1 mv => ?_))
  have hS1 := mv.heap S _ nw hS
  have ho1 : Old s0 s1 := fun b o e => mv.heap b o (fun z => old b o e (up b z)) (ho b o e)
  show wpAny _ A.in1 (updateSeq S (fun _ => #[v, v]) >>= _) _ _ _
  refine wpAny_bind ?_
  refine wpAny_updateSeq hS1 rfl ?_
  rw [loop_name]
  have kept : ∀ b o, b ∉ S :: wr → s1.heap.get? b = some o → (s1.heap.update S (Obj.mapSeq fun _ => #[v, v])).get? b = some o := fun b o z e =>
    (Heap.get?_update_other _ _ (ne z)).trans e
  refine wpAny_pure ⟨plainId_quiet F.plain_min_loop _, min_turns W bt cmp S hSf old _ 0 _ v _ rfl hn (fun b o e => kept b o (old b o e) (ho1 b o e)) (W.frame _ s1 _ s1.toks st1 (Nat.le_refl _) fun b z o e => ?_)
    pv (Heap.get?_update_self _ hS1 rfl) fun v2 s2 p2 m2 => ?_⟩
  · exact (Heap.get?_update_other _ _ (fun h : S = b => hSf (h ▸ z))).trans e
  · exact fin v2 s2 p2 (Moved.trans W.gtrans ((mv.mono up).then_heap (Nat.le_refl _) fun b o z e => kept b o z e) m2)
end

section
variable {prog : Program} {w : World} {A : Around} {E : Value → Shared → Prop} {s : Shared}
theorem min_list {l : Addr} {its : Array Value} {Q : Value → Shared → Prop} (hh : A.handled = none) (hl : s.heap.IsList l its) (hn : 0 < its.size) (bt : Nat → Nat → Bool)
    (cmp : CmpAt prog w A.in1 s (fun i v => its[i]? = some v) bt)
    (h : ∀ v h' tk, its[argBest bt (its.size - 1)]? = some v → (∀ b o, s.heap.get? b = some o → h'.get? b = some o) → Q v { s with heap := h', toks := tk }) :
    wpAny (model prog w) A (call (.builtin "min") [.ref l]) Q E s := by
  refine call_function_tree F.kind_min F.plain_min F.entry_min (F.args_min1 _) ?_
  show wpAny _ A.in1 (Builtin.Builtins.bindParams "min" ["key", "default"] 0 ⟨[], []⟩ >>= _) _ _ s
  refine wpAny_bind (wpAny_of_eq (show Builtin.Builtins.bindParams "min" ["key", "default"] 0 ⟨[], []⟩ = pure [none, none] from rfl) ?_)
  refine wpAny_bind (wpAny_pure ?_)
  have hlz : l < s.heap.objs.size := by obtain ⟨_, e, _⟩ := hl; exact Heap.lt_size e
  have nI : ∀ b o, s.heap.get? b = some o → b ≠ s.heap.objs.size := fun b o e => Nat.ne_of_lt (Heap.lt_size e)
  refine wpAny_bind (wpAny_pyIter_list hl ?_)
  refine wpAny_bind (wpAny_newObj_type ?_)
  have W := (Walks.list (prog := prog) (w := w) (A := A.in1) hh s.heap.objs.size l (Nat.ne_of_lt hlz) its).toS
  rw [loop_name]
  generalize hs1 : ({ s with heap := s.heap.push { cls := .type "list_iterator", data := .fields #[.ref l, .int 0 0] } } : Shared) = s1
  have k1 : Old s s1 := fun b o e => by rw [← hs1]; exact Heap.get?_push_of_some _ e
  have z1 : s1.heap.objs.size = s.heap.objs.size + 1 := by rw [← hs1]; exact Heap.size_push ..
  have ii : s1.heap.IsListIter s.heap.objs.size l 0 := by rw [← hs1]; exact ⟨_, Heap.get?_push_size _ rfl, rfl, rfl⟩
  have ll : s1.heap.IsList l its := by rw [← hs1]; exact hl.push _
  refine wpAny_pure ⟨plainId_quiet F.plain_min_loop _, ?_⟩
  show codeAny (model prog w) A (.builtin "min.loop" ⟨[.ref s.heap.objs.size, .none, .ref s1.heap.objs.size], []⟩) _ { s1 with heap := s1.heap.push { cls := .type "list", data := .seq #[] } }
  refine min_first (s0 := s) W bt cmp s1.heap.objs.size ?_ ?_ hn (fun b o e => Heap.get?_push_of_some _ (k1 b o e)) ?_ (Heap.get?_push_size _ rfl) fun v s' pv mv => ?_
  · intro hm
    have q : s1.heap.objs.size = s.heap.objs.size ∨ s1.heap.objs.size = l := by simpa using hm
    rw [z1] at q
    rcases q with q | q
    · exact Nat.succ_ne_self _ q
    · rw [← q] at hlz
      exact absurd hlz (Nat.not_lt.mpr (Nat.le_succ _))
  · intro b o e hm
    have q : b = s1.heap.objs.size ∨ b = s.heap.objs.size := by simpa using hm
    have lt := Heap.lt_size e
    rw [z1] at q
    rcases q with q | q
    · rw [q] at lt
      exact absurd lt (Nat.not_lt.mpr (Nat.le_succ _))
    · exact Nat.ne_of_lt lt q
  · exact ⟨ii.at fun o e => Heap.get?_push_of_some _ e, ll.push _⟩
  · have hp : its[argBest bt (its.size - 1)]? = some v := by simpa using pv
    obtain ⟨hp', g, d, tk, os⟩ := s'
    have eg : g = s.gens := by have := mv.gens; rw [← hs1] at this; exact this
    have ed : d = s.drawn := by have := mv.drawn; rw [← hs1] at this; exact this
    have eo : os = s.os := by have := mv.os; rw [← hs1] at this; exact this
    subst eg ed eo
    refine h v hp' tk hp fun b o e => mv.heap b o ?_ (Heap.get?_push_of_some _ (k1 b o e))
    intro hm
    have q : b = s1.heap.objs.size ∨ b = s.heap.objs.size := by simpa using hm
    have lt := Heap.lt_size e
    rw [z1] at q
    rcases q with q | q
    · rw [q] at lt
      exact absurd lt (Nat.not_lt.mpr (Nat.le_succ _))
    · exact Nat.ne_of_lt lt q
end
end SkR

/-! list(zip(a, b)) of two lists. -/
namespace SkR
open PySem PySem.Spec PyProof.Rows L2

theorem zip_len0 : typeLookup (.type "zip") "__len__" = pure none := by rw [typeLookup_type, builtinLookup_eq_fast]; kernel_rfl
theorem zip_hint0 : typeLookup (.type "zip") "__length_hint__" = pure none := by rw [typeLookup_type, builtinLookup_eq_fast]; kernel_rfl

/-- a zip that is walked and whose tuples are kept -/
structure ZSt (h : Heap) (z TI TO i1 i2 l1 l2 S : Addr) (xs ys : Array Value) (i : Nat) : Prop where
  box : (IsZip h z TI TO .none ∧ ∃ a b, IsPair h TO a b) ∨ ∃ T f oT, IsZipHeld h z TI TO T f ∧ h.get? T = some oT ∧ T ≠ z ∧ T ≠ i1 ∧ T ≠ i2 ∧ T ≠ S
  ti : IsPair h TI (.ref i1) (.ref i2)
  p1 : h.IsListIter i1 l1 i
  p2 : h.IsListIter i2 l2 i
  q1 : h.IsList l1 xs
  q2 : h.IsList l2 ys

structure ZG (xs ys : Array Value) (lo : Addr) (h : Heap) (as : List Addr) : Prop where
  rise : as.Pairwise (· < ·)
  above : ∀ a ∈ as, lo < a
  pairs : ∀ (j : Nat) (a : Addr), as[j]? = some a → ∃ x y, xs[j]? = some x ∧ ys[j]? = some y ∧ IsPair h a x y
theorem ZG.there {xs ys : Array Value} {lo : Addr} {h : Heap} {as : List Addr} (g : ZG xs ys lo h as) {a : Addr} (ha : a ∈ as) : a < h.objs.size := by
  obtain ⟨j, hj⟩ := List.mem_iff_getElem?.mp ha
  obtain ⟨_, _, _, _, e⟩ := g.pairs j a hj
  exact Heap.lt_size e

section
variable {prog : Program} {w : World} {A : Around} {E : Value → Shared → Prop} {s : Shared} {z TI TO i1 i2 l1 l2 S : Addr} {xs ys : Array Value} {i : Nat}
theorem ZSt.kept {h h' : Heap} (x : ZSt h z TI TO i1 i2 l1 l2 S xs ys i) (ne : z ≠ S ∧ TI ≠ S ∧ TO ≠ S ∧ i1 ≠ S ∧ i2 ≠ S ∧ l1 ≠ S ∧ l2 ≠ S) (hk : ∀ b o, b ≠ S → h.get? b = some o → h'.get? b = some o) :
    ZSt h' z TI TO i1 i2 l1 l2 S xs ys i := by
  obtain ⟨n0, n1, n2, n3, n4, n5, n6⟩ := ne
  refine ⟨?_, hk _ _ n1 x.ti, x.p1.at fun o e => hk _ o n3 e, x.p2.at fun o e => hk _ o n4 e, x.q1.at fun o e => hk _ o n5 e, x.q2.at fun o e => hk _ o n6 e⟩
  rcases x.box with ⟨a, u, v, b⟩ | ⟨T, f, oT, a, b, c1, c2, c3, c4⟩
  · exact .inl ⟨hk _ _ n0 a, u, v, hk _ _ n2 b⟩
  · exact .inr ⟨T, f, oT, hk _ _ n0 a, hk _ _ c4 b, c1, c2, c3, c4⟩
theorem z_item {x y : Value} {Q : Option Value → Shared → Prop} (D : ZipApart z TI TO i1 i2 l1 l2) (st : ZSt s.heap z TI TO i1 i2 l1 l2 S xs ys i) (hS : S < s.heap.objs.size) (hx : xs[i]? = some x) (hy : ys[i]? = some y)
    (hQ : ∀ h', ZSt h' z TI TO i1 i2 l1 l2 S xs ys (i + 1) → IsPair h' s.heap.objs.size x y → h'.objs.size = s.heap.objs.size + 1 →
      (∀ c o, c ≠ z → c ≠ TO → c ≠ i1 → c ≠ i2 → s.heap.get? c = some o → h'.get? c = some o) → Q (some (.ref s.heap.objs.size)) { s with heap := h' }) :
    wpAny (model prog w) A (pyNext (.ref z)) Q E s := by
  have lz : i1 < s.heap.objs.size := by obtain ⟨_, e, _⟩ := st.p1; exact Heap.lt_size e
  have lz2 : i2 < s.heap.objs.size := by obtain ⟨_, e, _⟩ := st.p2; exact Heap.lt_size e
  rcases st.box with ⟨hz, a, b, ho⟩ | ⟨T, f, oT, hz, hT, c1, c2, c3, c4⟩
  · refine wpAny_pyNext_zip_item D hz st.ti ho st.p1 st.p2 st.q1 st.q2 hx hy fun h' a1 a2 a3 a4 a5 a6 a7 => ?_
    refine hQ h' ⟨.inr ⟨_, false, _, a1, a5, Nat.ne_of_gt (Heap.lt_size hz), Nat.ne_of_gt lz, Nat.ne_of_gt lz2, Nat.ne_of_gt hS⟩, ?_, a3, a4, ?_, ?_⟩ a5 a6 a7
    · exact a7 _ _ D.TIz D.TITO D.TIi1 D.TIi2 st.ti
    · exact st.q1.at fun o e => a7 _ o D.l1z D.l1TO D.l1i1 D.l1i2 e
    · exact st.q2.at fun o e => a7 _ o D.l2z D.l2TO D.l2i1 D.l2i2 e
  · refine wpAny_pyNext_zip_item_held D hz hT st.ti st.p1 st.p2 st.q1 st.q2 hx hy fun h' a1 a3 a4 a5 a6 a7 => ?_
    refine hQ h' ⟨.inr ⟨T, true, oT, a1, a7 _ _ c1 c2 c3 hT, c1, c2, c3, c4⟩, a7 _ _ D.TIz D.TIi1 D.TIi2 st.ti, a3, a4, ?_, ?_⟩ a5 a6 fun c o n1 _ n3 n4 e => a7 c o n1 n3 n4 e
    · exact st.q1.at fun o e => a7 _ o D.l1z D.l1i1 D.l1i2 e
    · exact st.q2.at fun o e => a7 _ o D.l2z D.l2i1 D.l2i2 e
theorem z_done {Q : Option Value → Shared → Prop} (hh : A.handled = none) (D : ZipApart z TI TO i1 i2 l1 l2) (st : ZSt s.heap z TI TO i1 i2 l1 l2 S xs ys i) (he : xs[i]? = none ∨ ys[i]? = none)
    (hQ : ∀ h', (∀ c o, c ≠ z → c ≠ TO → c ≠ i1 → c ≠ i2 → s.heap.get? c = some o → h'.get? c = some o) → Q none { s with heap := h' }) : wpAny (model prog w) A (pyNext (.ref z)) Q E s := by
  rcases st.box with ⟨hz, a, b, ho⟩ | ⟨T, f, oT, hz, hT, c1, c2, c3, c4⟩
  · exact wpAny_pyNext_zip_end hh D hz st.ti ho st.p1 st.p2 st.q1 st.q2 he hQ
  · exact wpAny_pyNext_zip_end_held hh D hz hT st.ti st.p1 st.p2 st.q1 st.q2 he fun h' k => hQ h' fun c o n1 _ n3 n4 e => k c o n1 n3 n4 e
end

section
variable {prog : Program} {w : World} {A : Around} {s : Shared} {R : Result → Shared → Prop} {z TI TO i1 i2 l1 l2 S : Addr} {xs ys : Array Value}
/-- what lies below the list that is filled -/
structure Low (z TI TO i1 i2 l1 l2 S : Addr) : Prop where
  z : z < S
  ti : TI < S
  to : TO < S
  i1 : i1 < S
  i2 : i2 < S
  l1 : l1 < S
  l2 : l2 < S
theorem Low.ne (L : Low z TI TO i1 i2 l1 l2 S) : z ≠ S ∧ TI ≠ S ∧ TO ≠ S ∧ i1 ≠ S ∧ i2 ≠ S ∧ l1 ≠ S ∧ l2 ≠ S :=
  ⟨Nat.ne_of_lt L.z, Nat.ne_of_lt L.ti, Nat.ne_of_lt L.to, Nat.ne_of_lt L.i1, Nat.ne_of_lt L.i2, Nat.ne_of_lt L.l1, Nat.ne_of_lt L.l2⟩
/-- those of the walk itself -/
def Own (z TO i1 i2 S b : Addr) : Prop := b = z ∨ b = TO ∨ b = i1 ∨ b = i2 ∨ b = S

theorem z_loop (hh : A.handled = none) (D : ZipApart z TI TO i1 i2 l1 l2) (L : Low z TI TO i1 i2 l1 l2 S) (hl : xs.size = ys.size) (hn : xs.size ≤ sizeLine) (res : Value) {h0 : Heap}
    (fin : ∀ h' tk acc c as, (∀ b o, ¬ Own z TO i1 i2 S b → h0.get? b = some o → h'.get? b = some o) → h'.get? S = some { cls := .type "list", dict := none, data := .seq acc c, slots := #[] } → as.length = xs.size →
      ZG xs ys S h' as → acc.toList = as.map Value.ref → R (.ok (.ret res)) { s with heap := h', toks := tk }) :
    ∀ (k i : Nat) (h : Heap) (tk c : Nat) (acc : Array Value) (as : List Addr), xs.size - i = k → i ≤ xs.size → ZSt h z TI TO i1 i2 l1 l2 S xs ys i → (∀ b o, ¬ Own z TO i1 i2 S b → h0.get? b = some o → h.get? b = some o) →
      h.get? S = some { cls := .type "list", dict := none, data := .seq acc c, slots := #[] } → acc.toList = as.map Value.ref → as.length = i → ZG xs ys S h as →
      codeAny (model prog w) A (.builtin "list.extend.loop" ⟨[.ref S, .ref z, res], []⟩) R { s with heap := h, toks := tk } := by
  intro k
  induction k with
  | zero =>
    intro i h tk c acc as hk hi st keep hS ea el g
    have ei : i = xs.size := by omega
    refine codeAny_builtin PySem.F.entry_extend_loop ?_
    rw [Around.under_plainId PySem.F.plain_extend_loop _]
    show wpAny _ A.in1 (pyNext (.ref z) >>= _) _ _ _
    refine wpAny_bind (z_done (s := { s with heap := h, toks := tk }) (A := A.in1) hh D st (.inl (by rw [ei]; exact Array.getElem?_eq_none (Nat.le_refl _))) fun h' he => ?_)
    have up : ∀ b o, ¬ Own z TO i1 i2 S b → h.get? b = some o → h'.get? b = some o := fun b o nb e =>
      he b o (fun q => nb (.inl q)) (fun q => nb (.inr (.inl q))) (fun q => nb (.inr (.inr (.inl q)))) (fun q => nb (.inr (.inr (.inr (.inl q))))) e
    have nS := L.ne
    refine wpAny_pure (fin h' tk acc c as (fun b o nb e => up b o nb (keep b o nb e)) (he S _ (Ne.symm nS.1) (Ne.symm nS.2.2.1) (Ne.symm nS.2.2.2.1) (Ne.symm nS.2.2.2.2.1) hS) (by omega) ⟨g.rise, g.above, fun j a hj => ?_⟩ ea)
    obtain ⟨x, y, e1, e2, e3⟩ := g.pairs j a hj
    have la := g.above a (List.mem_of_getElem? hj)
    exact ⟨x, y, e1, e2, he a _ (Nat.ne_of_gt (Nat.lt_trans L.z la)) (Nat.ne_of_gt (Nat.lt_trans L.to la)) (Nat.ne_of_gt (Nat.lt_trans L.i1 la)) (Nat.ne_of_gt (Nat.lt_trans L.i2 la)) e3⟩
  | succ k ih =>
    intro i h tk c acc as hk hi st keep hS ea el g
    have lt : i < xs.size := by omega
    have lt2 : i < ys.size := by omega
    have esz : acc.size = i := by rw [← Array.length_toList, ea, List.length_map, el]
    refine codeAny_builtin PySem.F.entry_extend_loop ?_
    rw [Around.under_plainId PySem.F.plain_extend_loop _]
    show wpAny _ A.in1 (pyNext (.ref z) >>= _) _ _ _
    have lS : S < h.objs.size := Heap.lt_size hS
    refine wpAny_bind (z_item (s := { s with heap := h, toks := tk }) (S := S) D st lS (Array.getElem?_eq_getElem lt) (Array.getElem?_eq_getElem lt2) fun h' st' tp hz he => ?_)
    dsimp only at tp hz he ⊢
    have nS := L.ne
    have hS' := he S _ (Ne.symm nS.1) (Ne.symm nS.2.2.1) (Ne.symm nS.2.2.2.1) (Ne.symm nS.2.2.2.2.1) hS
    have up : ∀ b o, b ≠ S → h'.get? b = some o → (h'.update S (Obj.mapSeq (·.push (Value.ref h.objs.size)))).get? b = some o := fun b o hb e => (Heap.get?_update_other _ _ (Ne.symm hb)).trans e
    show wpAny _ A.in1 (updateSeq S (·.push (Value.ref h.objs.size)) >>= _) _ _ _
    refine wpAny_bind ?_
    refine wpAny_updateSeq hS' rfl (wpAny_pure ⟨plainId_quiet PySem.F.plain_extend_loop _, ih (i + 1) _ tk _ (acc.push (Value.ref h.objs.size)) (as ++ [h.objs.size]) (by omega) lt (st'.kept nS up)
      (fun b o nb e => up b o (fun q => nb (.inr (.inr (.inr (.inr q))))) (he b o (fun q => nb (.inl q)) (fun q => nb (.inr (.inl q))) (fun q => nb (.inr (.inr (.inl q)))) (fun q => nb (.inr (.inr (.inr (.inl q))))) (keep b o nb e)))
      (Heap.get?_update_self _ hS' rfl) (by rw [Array.toList_push, ea, List.map_append]; rfl) (by rw [List.length_append, el]; rfl) ⟨?_, ?_, ?_⟩⟩) (by rw [esz]; omega) (by show (acc.push (Value.ref h.objs.size)).size ≤ sizeLine + 1; rw [Array.size_push, esz]; omega)
    · refine List.pairwise_append.mpr ⟨g.rise, List.pairwise_singleton _ _, fun a ha b hb => ?_⟩
      rw [List.mem_singleton.mp hb]
      exact g.there ha
    · intro a ha
      rcases List.mem_append.mp ha with ha | ha
      · exact g.above a ha
      · rw [List.mem_singleton.mp ha]; exact lS
    · intro j b hj
      rcases Nat.lt_trichotomy j as.length with h1 | h1 | h1
      · rw [List.getElem?_append_left h1] at hj
        obtain ⟨x, y, e1, e2, e3⟩ := g.pairs j b hj
        have lb := g.above b (List.mem_of_getElem? hj)
        exact ⟨x, y, e1, e2, up b _ (Nat.ne_of_gt lb) (he b _ (Nat.ne_of_gt (Nat.lt_trans L.z lb)) (Nat.ne_of_gt (Nat.lt_trans L.to lb)) (Nat.ne_of_gt (Nat.lt_trans L.i1 lb)) (Nat.ne_of_gt (Nat.lt_trans L.i2 lb)) e3)⟩
      · subst h1
        have hb : h.objs.size = b := by simpa using hj
        subst hb
        exact ⟨_, _, by rw [el]; exact Array.getElem?_eq_getElem lt, by rw [el]; exact Array.getElem?_eq_getElem lt2, up _ _ (Nat.ne_of_gt lS) tp⟩
      · have e0 : (as ++ [h.objs.size])[j]? = none := List.getElem?_eq_none (by rw [List.length_append, List.length_singleton]; omega)
        rw [e0] at hj; cases hj
end

section
variable {prog : Program} {w : World} {A : Around} {E : Value → Shared → Prop} {s : Shared} {z TI TO i1 i2 l1 l2 : Addr} {xs ys : Array Value}
theorem list_of_zip {Q : Value → Shared → Prop} (hh : A.handled = none) (D : ZipApart z TI TO i1 i2 l1 l2) (L : Low z TI TO i1 i2 l1 l2 s.heap.objs.size)
    (st : ∀ S, S = s.heap.objs.size → ZSt s.heap z TI TO i1 i2 l1 l2 S xs ys 0) (hl : xs.size = ys.size) (hn : xs.size ≤ sizeLine)
    (hQ : ∀ h' tk acc c as, (∀ b o, ¬ (b = z ∨ b = TO ∨ b = i1 ∨ b = i2) → s.heap.get? b = some o → h'.get? b = some o) → h'.get? s.heap.objs.size = some { cls := .type "list", dict := none, data := .seq acc c, slots := #[] } →
      as.length = xs.size → ZG xs ys s.heap.objs.size h' as → acc.toList = as.map Value.ref → Q (.ref s.heap.objs.size) { s with heap := h', toks := tk }) :
    wpAny (model prog w) A (call (.type "list") [.ref z]) Q E s := by
  refine callType_codes (Q₁ := fun obj s₁ => obj = .ref s.heap.objs.size ∧ s₁ = { s with heap := s.heap.push { cls := .type "list", data := .seq #[] } }) PySem.F.called_list (PySem.F.typeCall_list_1 _) PySem.F.entry_list_init
    (code_list_new _ ⟨rfl, rfl⟩) fun obj s₁ h₁ => ?_
  obtain ⟨rfl, rfl⟩ := h₁
  have st0 := st _ rfl
  generalize hS0 : s.heap.objs.size = S at L st0 hQ ⊢
  have hS : (s.heap.push { cls := .type "list", data := .seq #[] }).get? S = some { cls := .type "list", data := .seq #[] } := by rw [← hS0]; exact Heap.get?_push_size _ rfl
  refine ⟨⟨_, hS, rfl⟩, PySem.F.args_list_init_2 _ _, ?_⟩
  generalize hs1 : ({ s with heap := s.heap.push { cls := .type "list", data := .seq #[] } } : Shared) = s1
  have hS : s1.heap.get? S = some { cls := .type "list", data := .seq #[] } := by rw [← hs1]; exact hS
  have st1 : ZSt s1.heap z TI TO i1 i2 l1 l2 S xs ys 0 := st0.kept L.ne fun b o _ e => by rw [← hs1]; exact Heap.get?_push_of_some _ e
  have old1 : ∀ b o, s.heap.get? b = some o → s1.heap.get? b = some o := fun b o e => by rw [← hs1]; exact Heap.get?_push_of_some _ e
  show wpAny _ _ (do let old ← Builtin.List.listItems (.ref S); Builtin.List.listUpdate (.ref S) (fun _ => #[]); letGo old.toList.reverse; Builtin.List.listExtendWith (.ref S) (.ref z) .none) _ _ s1
  refine wpAny_bind ?_
  unfold Builtin.List.listItems
  refine wpAny_bind (wpAny_seqItems hS rfl (wpAny_pure ?_))
  show wpAny _ _ (updateSeq S (fun _ => #[]) >>= fun _ => letGo (#[] : Array Value).toList.reverse >>= fun _ => Builtin.List.listExtendWith (.ref S) (.ref z) .none) _ _ s1
  refine wpAny_bind (wpAny_updateSeq hS rfl ?_)
  have hS2 := Heap.get?_update_self (Obj.mapSeq (fun _ => (#[] : Array Value))) hS rfl
  have up2 : ∀ b o, b ≠ S → s1.heap.get? b = some o → (s1.heap.update S (Obj.mapSeq (fun _ => (#[] : Array Value)))).get? b = some o := fun b o hb e => (Heap.get?_update_other _ _ (Ne.symm hb)).trans e
  have st2 := st1.kept L.ne up2
  refine wpAny_bind (wpAny_letGo ?_)
  generalize hs2 : s1.heap.update S (Obj.mapSeq (fun _ => (#[] : Array Value))) = h2 at hS2 up2 st2 ⊢
  have key : ∀ (h : Heap) (c : Nat), (∀ b o, b ≠ S → h2.get? b = some o → h.get? b = some o) → h.get? S = some { cls := .type "list", data := .seq #[] c } → ∀ tk,
      codeAny (model prog w) A.in1 (.builtin "list.extend.loop" ⟨[.ref S, .ref z, .none], []⟩) (fun r s' => match r with
        | .ok (.ret r) => r = .none ∧ Q (.ref S) s'
        | .ok _ => False
        | .error e => E e s') { s1 with heap := h, toks := tk } := by
    intro h c hk hSc tk
    refine z_loop (s := s1) (A := A.in1) (h0 := s.heap) hh D L hl hn .none (fun h' tk' acc c' as k1 k2 k3 k4 k5 => ?_) xs.size 0 h tk c #[] [] (Nat.sub_zero _) (Nat.zero_le _) (st2.kept L.ne hk) (fun b o nb e => ?_) hSc rfl rfl
      ⟨List.Pairwise.nil, (fun _ ha => nomatch ha), (fun j a hj => by simp at hj)⟩
    · have := hQ h' tk' acc c' as (fun b o nb e => k1 b o (fun q => ?_) e) k2 k3 k4 k5
      · rw [← hs1]
        exact ⟨rfl, this⟩
      · rcases q with q | q | q | q | q
        · exact nb (.inl q)
        · exact nb (.inr (.inl q))
        · exact nb (.inr (.inr (.inl q)))
        · exact nb (.inr (.inr (.inr q)))
        · rw [q, ← hS0] at e
          exact absurd (Heap.lt_size e) (Nat.lt_irrefl _)
    · have nb' : b ≠ S := fun q => nb (.inr (.inr (.inr (.inr q))))
      exact hk b o nb' (up2 b o nb' (old1 b o e))
  have hTz : ∀ h tk, ZSt h z TI TO i1 i2 l1 l2 S xs ys 0 → Shared.TypeIs { s1 with heap := h, toks := tk } (.ref z) "zip" := fun h tk x => by
    rcases x.box with ⟨a, _⟩ | ⟨_, _, _, a, _⟩
    · exact ⟨_, a, rfl⟩
    · exact ⟨_, a, rfl⟩
  have itz : ∀ (A' : Around) (E' : Value → Shared → Prop) (Q' : Value → Shared → Prop), Q' (.ref z) { s1 with heap := h2 } → wpAny (model prog w) A' (pyIter (.ref z)) Q' E' { s1 with heap := h2 } := fun A' E' Q' q => by
    have hT := hTz h2 s1.toks st2
    refine wpAny_pyIter_slot hT F.slot_zip_iter (wpAny_call_entry F.slot_zip_iter hT F.entry_zip_iter ?_ (F.args_zip_iter_1 _))
    show wpAny _ _ (ret (.ref z)) _ _ _
    exact wpAny_pure ⟨_, rfl, "zip", _, hT, F.slot_zip_next.lookup, q⟩
  unfold Builtin.List.listExtendWith
  refine wpAny_bind (wpAny_typeOf (T := "zip") (hTz h2 s1.toks st2) ?_)
  have n1 : Builtin.List.listSameRef (.ref S) (.ref z) = false := by simp [Builtin.List.listSameRef, Ne.symm L.ne.1]
  have n2 : (Value.type "zip" == Value.type "list") = false := by decide
  have n3 : (Value.type "zip" == Value.type "tuple") = false := by decide
  simp only [n1, n2, n3, Bool.or_false, Bool.false_eq_true, if_false]
  refine wpAny_bind (itz _ _ _ ?_)
  refine wpAny_bind (wpAny_holding ?_)
  unfold Builtin.List.listLengthHint
  refine wpAny_bind (wpAny_specialOf (hTz h2 s1.toks st2) zip_len0 ?_)
  show wpAny _ _ (specialOf (Value.ref z) (Str.ofString "__length_hint__") >>= _) _ _ _
  refine wpAny_bind (wpAny_specialOf (hTz h2 s1.toks st2) zip_hint0 ?_)
  refine wpAny_pure ?_
  show wpAny _ _ (rule "list.extend.makes-room" >>= fun _ => Builtin.List.listTouch (.ref S) >>= fun _ => again (.builtin "list.extend.loop" ⟨[.ref S, .ref z, .none], []⟩)) _ _ _
  refine wpAny_bind (wpAny_rule ?_)
  refine wpAny_bind ?_
  show wpAny _ _ (updateSeq S (·.push .none) >>= fun _ => updateSeq S (·.pop)) _ _ _
  refine wpAny_bind (wpAny_updateSeq hS2 rfl ?_)
  have hS3 := Heap.get?_update_self (Obj.mapSeq (·.push Value.none)) hS2 rfl
  refine wpAny_updateSeq (hz := by seq_fits) hS3 rfl ?_
  have hS4 := Heap.get?_update_self (Obj.mapSeq (·.pop)) hS3 rfl
  refine wpAny_pure ⟨plainId_quiet PySem.F.plain_extend_loop _, ?_⟩
  exact key _ _ (fun b o hb e => (Heap.get?_update_other _ _ (Ne.symm hb)).trans ((Heap.get?_update_other _ _ (Ne.symm hb)).trans e)) hS4 _
end
end SkR

/-! The same as rules of the layer. -/
namespace SkR
open PySem PySem.Spec PyProof.Rows L2

/-! ### min(a list of tuples of ints) -/
section
variable {X : Cx}
def lexOf (ts : List (List Int)) (i j : Nat) : Bool := HT.lexLt (ts.getD i []) (ts.getD j [])
def rMinT (K : PySem.W.Frag) : List V → Hp → VK → Prop := fun vs H Q => ∃ (a : Addr) (ps : List Addr) (ts : List (List Int)), vs = [V.ref a] ∧ SqL K H a (ps.map V.ref) ∧
  Paired (fun p t => SqT K H p (t.map V.int)) ps ts ∧ 0 < ts.length ∧ ∀ p, ps[argBest (lexOf ts) (ts.length - 1)]? = some p → Q (.ref p) H
theorem cr_minT (hc : X.calm = true) (hu : X.A.units + 1 < cLine) : CallR X (.builtin "min") (rMinT X.K) := by
  intro pins s σ H vs us Q I r h
  obtain ⟨a, ps, ts, rfl, hs, pp, hne, q⟩ := h
  obtain ⟨its, rv, hl, _⟩ := I.list hs
  rw [Vals.ref1 r]
  have e1 : ps.length = ts.length := Paired.length pp
  have e2 : its.toArray.size = ts.length := by rw [List.size_toArray, ← rv.length, List.length_map, e1]
  refine min_list (I.ok.hd hc) hl.isList (by rw [e2]; exact hne) (lexOf ts) ?_ ?_
  · intro i j vi vj s' Q' E' old hi hj hq
    have at_ : ∀ (i : Nat) (vi : Value), its.toArray[i]? = some vi → ∃ (p : Addr) (t : List Int), vi = Value.ref p ∧ ts[i]? = some t ∧ SqT X.K H p (t.map V.int) := fun i vi hi => by
      have hi' : its[i]? = some vi := by simpa using hi
      have hlt : i < ps.length := by
        have := (List.getElem?_eq_some_iff.mp hi').1
        have := rv.length
        rw [List.length_map] at this
        omega
      obtain ⟨p, hp⟩ : ∃ p, ps[i]? = some p := ⟨_, List.getElem?_eq_getElem hlt⟩
      obtain ⟨u, hu, ru⟩ := rv.get (i := i) (x := V.ref p) (by rw [List.getElem?_map, hp]; rfl)
      rw [hi'] at hu
      cases hu
      cases ru
      obtain ⟨t, ht, f⟩ := LiI.paired_get pp hp
      exact ⟨p, t, rfl, ht, f⟩
    obtain ⟨p1, t1, rfl, g1, f1⟩ := at_ i vi hi
    obtain ⟨p2, t2, rfl, g2, f2⟩ := at_ j vj hj
    obtain ⟨w1, r1, k1, _⟩ := I.tuple f1
    obtain ⟨w2, r2, k2, _⟩ := I.tuple f2
    have m1 : IsTup s'.heap p1 w1.toArray := let ⟨o, ho, x⟩ := k1; ⟨o, old _ _ ho, x⟩
    have m2 : IsTup s'.heap p2 w2.toArray := let ⟨o, ho, x⟩ := k2; ⟨o, old _ _ ho, x⟩
    have hb : lexOf ts i j = HT.lexLt t1 t2 := by
      unfold lexOf
      rw [List.getD_eq_getElem?_getD, List.getD_eq_getElem?_getD, g1, g2]
      rfl
    rw [hb] at hq
    have goal : wpAny (model X.prog X.w) X.A.in1 (compareOp .Lt (.ref p1) (.ref p2)) Q' E' s' :=
      HT.lt_tupInts m1 m2 (intsAre_of r1) (intsAre_of r2) (Nat.lt_of_le_of_lt (show X.A.in1.units ≤ X.A.units + 1 from Nat.le_refl _) hu) hq
    exact goal
  · intro v h' tk hv hk
    rw [e2] at hv
    have hv' : its[argBest (lexOf ts) (ts.length - 1)]? = some v := by simpa using hv
    have hlt := (List.getElem?_eq_some_iff.mp hv').1
    have el := rv.length
    rw [List.length_map] at el
    obtain ⟨p, hp⟩ : ∃ p, ps[argBest (lexOf ts) (ts.length - 1)]? = some p := ⟨_, List.getElem?_eq_getElem (by omega)⟩
    obtain ⟨u, hu, ru⟩ := rv.get (i := argBest (lexOf ts) (ts.length - 1)) (x := V.ref p) (by rw [List.getElem?_map, hp]; rfl)
    rw [hv'] at hu
    cases hu
    exact ⟨.ref p, H, I.kept (t' := tk) hk, ru, q p hp⟩
end

/-! ### xs[lo:hi:step] -/
section
variable {X : Cx} {e st : Expr} {lo hi : Option Expr} {te : TE} {tl th tk : TO} {p2 pos : Pos}
def pickV (xs : List V) (lo hi st : Option Int) : List V :=
  (sliceRange (sliceBounds lo hi st xs.length).1 (sliceBounds lo hi st xs.length).2.1 (sliceBounds lo hi st xs.length).2.2).filterMap (xs[·]?)
theorem vals_pick {xs : List V} {its : List Value} (r : Vals xs its) : ∀ ix : List Nat, Vals (ix.filterMap (xs[·]?)) (ix.filterMap (its.toArray[·]?))
  | [] => .nil
  | i :: ix => by
    have ih := vals_pick r ix
    rw [List.filterMap_cons, List.filterMap_cons]
    cases hx : xs[i]? with
    | none =>
      have := r.none_of hx
      have h2 : its.toArray[i]? = none := by simpa using this
      rw [h2]
      exact ih
    | some x =>
      obtain ⟨u, hu, ru⟩ := r.get hx
      have h2 : its.toArray[i]? = some u := by simpa using hu
      rw [h2]
      exact .cons ru ih
def tSl3 (K : PySem.W.Frag) (te : TE) (tl th tk : TO) : TE := fun σ H Q => te σ H fun x H1 => tl σ H1 fun l H2 => th σ H2 fun u H3 => tk σ H3 fun k H4 =>
  ∃ a xs, x = .ref a ∧ SqL K H4 a xs ∧ k ≠ some 0 ∧ ∀ p, H4 p = none → Q (.ref p) (upd H4 p (.lst (pickV xs l u k)))
theorem pe_slice3 (he : PE X e te) (hl : PO X lo tl) (hu : PO X hi th) (hk : PO X (some st) tk) : PE X (.Subscript e (.Slice lo hi (some st) p2) pos) (tSl3 X.K te tl th tk) := by
  refine ⟨fun pins s σ H Q I h => ?_⟩
  refine Subscript_ (thn (he.run pins s σ H _ I h) fun v s1 ⟨x, H1, I1, r1, q1⟩ => ?_)
  refine wpAny_Slice (thn (hl.run pins s1 σ H1 _ I1 q1) fun vl s2 ⟨l, H2, I2, pl, q2⟩ => thn (hu.run pins s2 σ H2 _ I2 q2) fun vu s3 ⟨u, H3, I3, pu, q3⟩ => thn (hk.run pins s3 σ H3 _ I3 q3) fun vk s4 ⟨k, H4, I4, pk, q4⟩ => ?_)
  obtain ⟨a, xs, ex, hx, h0, q⟩ := q4
  subst ex
  cases r1
  have I5 : Inv X pins σ H4 { s4 with heap := s4.heap.push { cls := .type "slice", data := .fields #[vl, vu, vk] } } := I4.kept (t' := s4.toks) fun b ob q => Heap.get?_push_of_some _ q
  obtain ⟨its, rv, pl', hz⟩ := I5.list hx
  have hlen := rv.length
  show wpAny (model X.prog X.w) X.A (subscriptTail e (.Slice lo hi (some st) p2) (.ref a) (.ref s4.heap.objs.size)) (EP X pins σ Q) X.xe { s4 with heap := s4.heap.push { cls := .type "slice", data := .fields #[vl, vu, vk] } }
  refine tail_any (ops := [.ref a, .ref s4.heap.objs.size]) pl'.isList.typeIs PySem.slot_list_getitem.lookup ?_ (by with_unfolding_all rfl)
  refine wpAny_getItem_list_slice pl'.isList (Heap.IsSliceOf.new ..) pl pu pk h0 ?_ (by rw [List.size_toArray] <;> omega)
  generalize hs5 : ({ s4 with heap := s4.heap.push { cls := .type "slice", data := .fields #[vl, vu, vk] } } : Shared) = s5 at I5 pl'
  have vp : Vals (pickV xs l u k) (slicePick its.toArray l u k).toList := by
    unfold pickV slicePick
    rw [List.size_toArray, ← hlen]
    exact vals_pick rv _
  have lz : (pickV xs l u k).length ≤ sizeLine := by
    rw [vp.length, Array.length_toList]
    refine Nat.le_trans (slicePick_size_le its.toArray l u k) ?_
    rw [List.size_toArray, ← hlen]
    exact hz
  refine ⟨.ref s5.heap.objs.size, _, I5.laid (t' := s5.toks) (o := .lst (pickV xs l u k)) (fun b ob q => Heap.get?_push_of_some _ q) (Nat.le_refl _) ?_, rfl, q _ (I5.hok.fresh (Nat.le_refl _))⟩
  exact ⟨lz, _, 0, vp, by rw [Array.toArray_toList]; exact Heap.get?_push_size _ rfl⟩
end

/-! ### list(zip(a, b)) -/
section
variable {X : Cx} {e1 e2 : Expr} {ta : TA} {p pz pos posz : Pos}
/-- the tuples tracked at their addresses -/
def putP : Hp → List Addr → List (V × V) → Hp
  | H, a :: as, q :: qs => putP (upd H a (.tup [q.1, q.2])) as qs
  | H, _, _ => H
theorem putP_off {b : Addr} : ∀ (as : List Addr) (qs : List (V × V)) (H : Hp), b ∉ as → putP H as qs b = H b
  | [], _, _, _ => rfl
  | _ :: _, [], _, _ => rfl
  | a :: as, q :: qs, H, h => by
    have h1 : b ∉ as := fun z => h (List.mem_cons_of_mem _ z)
    have h2 : b ≠ a := fun z => h (z ▸ List.mem_cons_self)
    exact (putP_off as qs _ h1).trans (upd_ne h2)
theorem putP_at : ∀ (as : List Addr) (qs : List (V × V)) (H : Hp), as.length = qs.length → as.Nodup → Paired (fun (t : Addr) (q : V × V) => putP H as qs t = some (.tup [q.1, q.2])) as qs
  | [], [], _, _, _ => .nil
  | [], _ :: _, _, h, _ => by cases h
  | _ :: _, [], _, h, _ => by cases h
  | a :: as, q :: qs, H, h, hn => by
    have n2 := List.nodup_cons.mp hn
    exact .cons ((putP_off as qs _ n2.1).trans upd_same) (putP_at as qs _ (Nat.succ.inj h) n2.2)
def tListZip (K : PySem.W.Frag) (ta : TA) : TE := fun σ H Q => ta σ H fun vs H1 => ∃ (a b : Addr) (xs ys : List V), vs = [.ref a, .ref b] ∧ SqL K H1 a xs ∧ SqL K H1 b ys ∧ xs.length = ys.length ∧
  ∀ (H' : Hp) (p : Addr) (ts : List Addr), Same H1 H' → H1 p = none → (∀ t ∈ ts, H1 t = none) → H' p = some (.lst (ts.map V.ref)) → Paired (fun (t : Addr) (q : V × V) => H' t = some (.tup [q.1, q.2])) ts (xs.zip ys) → Q (.ref p) H'
theorem pe_listZip (hc : X.calm = true) (hgz : Gl X "zip") (hmz : X.mg "zip" = none) (hgl : Gl X "list") (hml : X.mg "list" = none) (hvl : bootBuiltins "list" = some (.type "list")) (ha : PA X [e1, e2] ta)
    (hs : starEach [e1, e2] X.env = (false, eval e1 X.env) :: starEach [e2] X.env := by rfl) (hpl : (backTo posz (starEach [e2] X.env)).any (·.1) = false := by rfl)
    (hs2 : starEach [.Call (.Name "zip" pz) [e1, e2] [] posz] X.env = (false, eval (.Call (.Name "zip" pz) [e1, e2] [] posz) X.env) :: starEach [] X.env := by rfl) :
    PE X (.Call (.Name "list" p) [.Call (.Name "zip" pz) [e1, e2] [] posz] [] pos) (tListZip X.K ta) := by
  refine ⟨fun pins s σ H Q I h => ?_⟩
  refine wpAny_Call_Name_kw (ld_blt I hgl hml hvl ?_)
  refine PyProof.Rows.callWith_type1 ?_ hs2 rfl
  rw [hs2]
  show wpAny _ _ (spliced ((false, eval (.Call (.Name "zip" pz) [e1, e2] [] posz) X.env) :: backTo pos (starEach [] X.env))) _ _ s
  refine Calls.spliced_cons ?_
  refine Call_ (ld_blt I hgz hmz PyProof.Rows.boot_zip (PyProof.Rows.callWith_type1 (thn (ha.run posz pins s σ H _ I h) fun us s1 ⟨vs, H1, I1, r1, q1⟩ => ?_) hs hpl))
  obtain ⟨a, b, xs, ys, ex, hqx, hqy, exy, q⟩ := q1
  subst ex
  cases r1 with
  | cons r rr =>
    cases rr with
    | cons r' rr =>
      cases rr
      cases r
      cases r'
      obtain ⟨its, rv, p1, hz1⟩ := I1.list hqx
      obtain ⟨its2, rv2, p2, hz2⟩ := I1.list hqy
      have la : a < s1.heap.objs.size := p1.lt
      have lb : b < s1.heap.objs.size := p2.lt
      have n1 := rv.length
      have n2 := rv2.length
      refine call_zip_2 p1.isList p2.isList fun h' hz hTI hTO h1 h2 hsz hk => ?_
      have I2 : Inv X pins σ H1 { s1 with heap := h' } := I1.kept (t' := s1.toks) hk
      refine Calls.spliced_nil ?_
      have D := PySem.W.ktu_apart s1.heap.objs.size a b la lb
      generalize hs2 : ({ s1 with heap := h' } : Shared) = s2 at I2 ⊢
      have eh : s2.heap = h' := by rw [← hs2]
      have L : Low (s1.heap.objs.size + 4) (s1.heap.objs.size + 2) (s1.heap.objs.size + 3) s1.heap.objs.size (s1.heap.objs.size + 1) a b s2.heap.objs.size := by
        rw [eh, hsz]
        exact ⟨Nat.lt_succ_self _, Nat.add_lt_add_left (by decide) _, Nat.add_lt_add_left (by decide) _, Nat.lt_add_of_pos_right (by decide), Nat.add_lt_add_left (by decide) _, Nat.lt_of_lt_of_le la (Nat.le_add_right _ _), Nat.lt_of_lt_of_le lb (Nat.le_add_right _ _)⟩
      refine list_of_zip (s := s2) (xs := its.toArray) (ys := its2.toArray) (I2.ok.hd hc) D L (fun S hS => ⟨.inl ⟨by rw [eh]; exact hz, _, _, by rw [eh]; exact hTO⟩, by rw [eh]; exact hTI, by rw [eh]; exact h1, by rw [eh]; exact h2, ?_, ?_⟩) (by rw [List.size_toArray, List.size_toArray]; omega) (by rw [List.size_toArray]; omega) fun h3 tk acc c as k1 k2 k3 k4 k5 => ?_
      · rw [eh]; exact p1.isList.at fun o e => hk _ o e
      · rw [eh]; exact p2.isList.at fun o e => hk _ o e
      · -- the result is laid
        have old : ∀ b o, s1.heap.get? b = some o → h3.get? b = some o := fun b o e => k1 b o (fun z => by
          have lt := Heap.lt_size e
          rcases z with z | z | z | z
          · rw [z] at lt; exact absurd lt (Nat.not_lt.mpr (Nat.le_add_right _ _))
          · rw [z] at lt; exact absurd lt (Nat.not_lt.mpr (Nat.le_add_right _ _))
          · rw [z] at lt; exact absurd lt (Nat.lt_irrefl _)
          · rw [z] at lt; exact absurd lt (Nat.not_lt.mpr (Nat.le_add_right _ _))) (by rw [eh]; exact hk b o e)
        generalize hS : s2.heap.objs.size = S at k2 k4 ⊢
        have lS : s1.heap.objs.size ≤ S := by rw [← hS, eh, hsz]; exact Nat.le_add_right _ _
        have nd : as.Nodup := List.Pairwise.imp (fun {a b} (h : a < b) => Nat.ne_of_lt h) k4.rise
        have nS : S ∉ as := fun z => Nat.lt_irrefl _ (k4.above _ z)
        have new : ∀ t ∈ as, H1 t = none := fun t ht => I1.hok.fresh (Nat.le_trans lS (Nat.le_of_lt (k4.above t ht)))
        have newS : H1 S = none := I1.hok.fresh lS
        have el : as.length = (xs.zip ys).length := by rw [k3, List.size_toArray, List.length_zip, ← exy, Nat.min_self]; omega
        have atP := putP_at as (xs.zip ys) (upd H1 S (.lst (as.map V.ref))) el nd
        have off : ∀ b, b ∉ as → b ≠ S → putP (upd H1 S (.lst (as.map V.ref))) as (xs.zip ys) b = H1 b := fun b h1 h2 => (putP_off as _ _ h1).trans (upd_ne h2)
        have low : ∀ b o, s1.heap.get? b = some o → b ∉ as ∧ b ≠ S := fun b o e => ⟨fun z => absurd (Heap.lt_size e) (Nat.not_lt.mpr (Nat.le_trans lS (Nat.le_of_lt (k4.above b z)))), Nat.ne_of_lt (Nat.lt_of_lt_of_le (Heap.lt_size e) lS)⟩
        have kp : ∀ b u, H1 b = some u → putP (upd H1 S (.lst (as.map V.ref))) as (xs.zip ys) b = some u := fun b u e => by
          rw [off b (fun z => by rw [new b z] at e; cases e) (fun z => by rw [z, newS] at e; cases e)]
          exact e
        have eS : putP (upd H1 S (.lst (as.map V.ref))) as (xs.zip ys) S = some (.lst (as.map V.ref)) := (putP_off as _ _ nS).trans upd_same
        refine ⟨.ref S, putP (upd H1 S (.lst (as.map V.ref))) as (xs.zip ys), ?_, rfl, q _ S as kp newS new eS atP⟩
        have e3 : ({ s2 with heap := h3, toks := tk } : Shared) = { s1 with heap := h3, toks := tk } := by rw [← hs2]
        rw [e3]
        refine I1.call' (ch := []) rfl ⟨fun b o q _ _ _ => old b o q, fun b o q _ _ _ => ⟨o.slots, old b o q⟩, fun b o q n _ => ?_, fun b o q _ => ⟨o, old b o q⟩, fun b xs q => kp b _ q, fun b o u q => kp b _ q, fun b ps q => ⟨#[], by rw [kp b _ q]; simp⟩⟩ (fun b u q => ?_) I1.bare fun b z => by simp at z
        · obtain ⟨z1, z2⟩ := low b o q
          rw [off b z1 z2]
          exact n
        · by_cases hb : b ∈ as
          · obtain ⟨j, pk, g1, g2, g3⟩ := LiI.paired_ix atP hb
            rw [g3] at q
            cases q
            obtain ⟨u, v, f1, f2, f3⟩ := k4.pairs j b g1
            have f1' : its[j]? = some u := by simpa using f1
            have f2' : its2[j]? = some v := by simpa using f2
            obtain ⟨gx, gy⟩ := List.getElem?_zip_eq_some.mp g2
            obtain ⟨u', hu', ru⟩ := rv.get gx
            obtain ⟨v', hv', rv'⟩ := rv2.get gy
            rw [f1'] at hu'
            cases hu'
            rw [f2'] at hv'
            cases hv'
            exact ⟨by show 2 ≤ sizeLine; decide, [u, v], .cons ru (.cons rv' .nil), ⟨_, f3, rfl, _, rfl⟩⟩
          · by_cases hb2 : b = S
            · rw [hb2] at q ⊢
              rw [eS] at q
              cases q
              refine ⟨by rw [List.length_map, k3, List.size_toArray]; omega, acc.toList, c, by rw [k5]; exact LiI.vals_refs as, ?_⟩
              rw [Array.toArray_toList]
              exact k2
            · rw [off b hb hb2] at q
              exact (I1.hok b u q).stay (fun d v _ y => old d v y) (fun d y => kp d _ y) fun d xs y => kp d _ y
end

/-! ### for i, x in enumerate(a tuple) -/
open AutoSeq1 (wpAny_loadPart')
theorem enum_newT (t : Addr) (items : Array Value) :
    Meets (Builtin.«enumerate.__new__» ⟨[.type "enumerate", .ref t], []⟩) (fun _ R s => s.heap.IsTuple t items ∧
      R (.ok (.ret (.ref (s.heap.push { cls := .type "tuple_iterator", data := .fields #[.ref t, .int 0 0] }).objs.size)))
        { s with heap := (s.heap.push { cls := .type "tuple_iterator", data := .fields #[.ref t, .int 0 0] }).push { cls := .type "enumerate", data := .fields #[.none, .bool false, .ref s.heap.objs.size, rawInt 0, .none, .none] } }) :=
  .of_wp fun prog w A R s h => by
    obtain ⟨hp, g, d, tk, os⟩ := s
    obtain ⟨h1, h⟩ := h
    have hsub := sub_enumerate
    have q1 : ∀ {A' : Around} {E : Value → Shared → Prop} {Q : Value → Shared → Prop}, Q (.ref hp.objs.size) ⟨hp.push { cls := .type "tuple_iterator", data := .fields #[.ref t, .int 0 0] }, g, d, tk, os⟩ → wpAny (model prog w) A' (pyIter (.ref t)) Q E ⟨hp, g, d, tk, os⟩ :=
      fun q => (begins_tuple t items).iter prog w _ _ ⟨hp, g, d, tk, os⟩ _ h1 q
    wp_walk using q1
    refine wpAny_stack_any fun st => wpAny_pure ?_
    split
    · rename_i c _ _ _ _ _
      cases (c == Value.type "enumerate")
      · wp_walk using q1
        exact ⟨_, rfl, h⟩
      · wp_walk using q1
        exact ⟨_, rfl, h⟩
    · wp_walk using q1
      exact ⟨_, rfl, h⟩
section
variable {prog : Program} {w : World} {A : Around} {E : Value → Shared → Prop} {s : Shared}
theorem call_enumT {t : Addr} {items : Array Value} {Q : Value → Shared → Prop} (ht : s.heap.IsTuple t items)
    (h : ∀ h', IsEnum h' (s.heap.objs.size + 1) s.heap.objs.size 0 .none → h'.IsTupleIter s.heap.objs.size t 0 → h'.objs.size = s.heap.objs.size + 2 →
      (∀ b o, s.heap.get? b = some o → h'.get? b = some o) → Q (.ref (s.heap.objs.size + 1)) { s with heap := h' }) :
    wpAny (model prog w) A (call (.type "enumerate") [.ref t]) Q E s := by
  refine callType_new F.called_enumerate (by decide) (F.typeCall_enumerate_1 _) (F.newCall_enumerate_1 _) (fun obj => F.args_object_init_2 obj _) F.entry_enumerate_new (enum_newT t items) ⟨ht, ?_⟩
  generalize hg1 : s.heap.push { cls := .type "tuple_iterator", data := .fields #[.ref t, .int 0 0] } = g1
  have z1 : g1.objs.size = s.heap.objs.size + 1 := by rw [← hg1]; exact Heap.size_push ..
  have it1 : g1.get? s.heap.objs.size = some { cls := .type "tuple_iterator", data := .fields #[.ref t, .int 0 0] } := by rw [← hg1]; exact Heap.get?_push_size _ rfl
  have o1 : ∀ b o, s.heap.get? b = some o → g1.get? b = some o := fun b o e => by rw [← hg1]; exact Heap.get?_push_of_some _ e
  show _ ∧ _
  rw [z1]
  have he : IsEnum (g1.push { cls := .type "enumerate", data := .fields #[.none, .bool false, .ref s.heap.objs.size, rawInt 0, .none, .none] }) (s.heap.objs.size + 1) s.heap.objs.size 0 .none := by
    have q := Heap.get?_push_size g1 (o := { cls := .type "enumerate", data := .fields #[.none, .bool false, .ref s.heap.objs.size, rawInt 0, .none, .none] }) rfl
    rw [z1] at q
    exact q
  exact ⟨⟨_, he, rfl⟩, h _ he ⟨_, Heap.get?_push_of_some _ it1, rfl, rfl⟩ (by rw [Heap.size_push, z1]) fun b o x => Heap.get?_push_of_some _ (o1 b o x)⟩
end
/-- the tuple at a, each item in a new pair -/
def IteT (K : PySem.W.Frag) (a : Addr) : It :=
  ⟨fun i H => ∃ (xs : List V) (x : V), SqT K H a xs ∧ xs[i]? = some x, fun i H v H' => ∃ T x, v = .ref T ∧ H T = none ∧ H' = upd H T (.tup [.int (i : Nat), x]) ∧ ∀ xs, SqT K H a xs → xs[i]? = some x, fun i H => ∃ xs : List V, SqT K H a xs ∧ xs.length = i⟩
theorem turn_enumT {P : Program} {w : World} {K : PySem.W.Frag} {elts : List Expr} {kk : Nat} {tpos : Pos} (a e it : Addr) (hai : a ≠ it) (hae : a ≠ e) :
    Turn P w K (.Tuple elts kk tpos) (IteT K a) [e, it] e (fun i h => (∃ old, IsEnum h e it ((i : Nat) : Int) old) ∧ h.IsTupleIter it a i ∧ e ≠ it) where
  mem := by simp
  obj := fun i h st b hb => by
    obtain ⟨⟨old, he⟩, ⟨o, ho, hc, hd⟩, _⟩ := st
    have e' : b = e ∨ b = it := by simpa using hb
    rcases e' with z | z
    · exact z ▸ ⟨_, he, fun v q => nomatch q⟩
    · exact z ▸ ⟨o, ho, fun v q => by rw [hd] at q; cases q⟩
  keep := fun i h h' st k => let ⟨⟨old, he⟩, hi, hne⟩ := st; ⟨⟨old, k e (by simp) _ he⟩, hi.at fun o q => k it (by simp) o q, hne⟩
  item := by
    intro X hP hw hK hc i pins s σ H E I hf st hg
    subst hP hw hK
    obtain ⟨⟨old, he⟩, hit, hne⟩ := st
    obtain ⟨xs, x, hq, hx⟩ := hg
    obtain ⟨its, rv, p, hz⟩ := I.tuple hq
    obtain ⟨u, hu, ru⟩ := rv.get hx
    have hel : e < s.heap.objs.size := Heap.lt_size he
    have hil : it < s.heap.objs.size := by obtain ⟨_, q, _⟩ := hit; exact Heap.lt_size q
    have hlt : i < its.toArray.size := by rw [List.size_toArray]; exact (List.getElem?_eq_some_iff.mp hu).1
    have hne2 : e ∉ [it, a] := by
      intro z
      have z' : e = it ∨ e = a := by simpa using z
      rcases z' with z | z
      · exact hne z
      · exact hae z.symm
    refine wpAny_pyNext_enum_itemD (Draws.tuple (A := X.A.in1) (I.ok.hd hc) it a hai its.toArray) he ⟨hit, p⟩ hlt hne hne2 fun y h' tk hy ho st' hT hsz hk => ?_
    have ey : y = u := by
      have h2 : its.toArray[i]? = some u := by simpa using hu
      rw [h2] at hy
      exact (Option.some.inj hy).symm
    subst ey
    refine ⟨_, rfl, wpAny_letOwnedTupleGo_enum (s := { s with heap := h', toks := tk + 1 }) ho fun h'' he' sb => ?_⟩
    have hT2 : h''.get? s.heap.objs.size = some { cls := .type "tuple", data := .seq #[.int i tk, y] } := (sb.2 _ (Nat.ne_of_gt hel)).trans hT
    have new : ObjOk X.prog X.w (upd H s.heap.objs.size (.tup [.int (i : Nat), x])) h'' s.heap.objs.size (.tup [.int (i : Nat), x]) :=
      ⟨by show 2 ≤ sizeLine; decide, [.int i tk, y], .cons ⟨_, rfl⟩ (.cons ru .nil), ⟨_, hT2, rfl, _, rfl⟩⟩
    have I1 : Inv X pins σ (upd H s.heap.objs.size (.tup [.int (i : Nat), x])) { s with heap := h'', toks := tk + 1 } :=
      I.turnedNew (ch := [e, it]) (fun b ob hb q => (sb.2 b (fun z => hb (by simp [z]))).trans (hk b ob (fun z => hb (by simp [z])) (fun z => hb (by simp [z])) q)) hf (Nat.le_refl _) new
    refine ⟨.ref s.heap.objs.size, _, I1, rfl, ⟨_, x, rfl, I.hok.fresh (Nat.le_refl _), rfl, fun ys hy => by rw [I.tuple_inj hy hq]; exact hx⟩, ⟨⟨y, ?_⟩, st'.1.at fun o q => (sb.2 it (Ne.symm hne)).trans q, hne⟩, fun b hb => ?_⟩
    · have e1 : ((i + 1 : Nat) : Int) = (i : Int) + 1 := by omega
      rw [e1]; exact he'
    · have hb' : b < s.heap.objs.size := by
        have e' : b = e ∨ b = it := by simpa using hb
        rcases e' with z | z
        · exact z ▸ hel
        · exact z ▸ hil
      exact (upd_ne (Nat.ne_of_lt hb')).trans (hf b hb).1
  done := by
    intro X hP hw hK hc i pins s σ H E I hf st hg
    subst hP hw hK
    obtain ⟨⟨old, he⟩, hit, hne⟩ := st
    obtain ⟨xs, hq, hx⟩ := hg
    obtain ⟨its, rv, p, hz⟩ := I.tuple hq
    obtain ⟨f0, f1, f2, f3, f4, f5⟩ := hf it (by simp)
    have hl := rv.length
    have D := Draws.tuple (prog := X.prog) (w := X.w) (A := X.A.in1) (I.ok.hd hc) it a hai its.toArray
    have hi : i = its.toArray.size := by rw [List.size_toArray]; omega
    subst hi
    exact wpAny_pyNext_enum_endD D he ⟨hit, p⟩ fun h' eb => ⟨rfl, I.turned (t' := s.toks) (fun b o hb q => eb b o hb q) f0 f1 f3 f4 f5⟩
  self := fun A i s Q E st h => let ⟨⟨_, he⟩, _⟩ := st; wpAny_pyIter_enum he h
def iEnumT (K : PySem.W.Frag) (ta : TA) : TI := fun σ H R => ta σ H fun vs H1 => ∃ a xs, vs = [.ref a] ∧ SqT K H1 a xs ∧ R (IteT K a) H1
theorem pi_enumT {X : Cx} {e : Expr} {ta : TA} {p pos tpos : Pos} {elts : List Expr} {kk : Nat} (hg : Gl X "enumerate") (hm : X.mg "enumerate" = none) (ha : PA X [e] ta) (hs : starEach [e] X.env = [(false, eval e X.env)] := by rfl) :
    PI X (.Tuple elts kk tpos) (.Call (.Name "enumerate" p) [e] [] pos) (iEnumT X.K ta) := by
  refine ⟨fun pins s σ H R I h => ?_⟩
  refine Call_ (ld_blt I hg hm boot_enumerate (PyProof.Rows.callWith_type1 (thn (ha.run pos pins s σ H _ I h) fun us s1 ⟨vs, H1, I1, r1, q1⟩ => ?_) hs rfl))
  obtain ⟨a, xs, ex, hq, q⟩ := q1
  subst ex
  cases r1 with
  | cons r rr =>
    cases rr
    cases r
    obtain ⟨its, rv, p', hz⟩ := I1.tuple hq
    have la : a < s1.heap.objs.size := p'.lt
    refine call_enumT p' fun h' he hit hsz hk => wpAny_pyIter_enum he ?_
    have I2 : Inv X pins σ H1 { s1 with heap := h' } := I1.kept (t' := s1.toks) hk
    refine ⟨s1.heap.objs.size + 1, [s1.heap.objs.size + 1, s1.heap.objs.size], _, _, H1, rfl, I2, turn_enumT a (s1.heap.objs.size + 1) s1.heap.objs.size (Nat.ne_of_lt la) (Nat.ne_of_lt (Nat.lt_succ_of_lt la)), ⟨⟨.none, he⟩, hit, Nat.succ_ne_self _⟩, fun b hb => ?_, q⟩
    have e' : b = s1.heap.objs.size + 1 ∨ b = s1.heap.objs.size := by simpa using hb
    have hle : s1.heap.objs.size ≤ b := by
      rcases e' with z | z
      · exact z ▸ Nat.le_succ _
      · exact z ▸ Nat.le_refl _
    exact I1.fpOk hle (I1.hok.fresh hle)
end SkR

/-! The text by places; what stands in the heap; rules for this program's own defs. -/
namespace Sk
open PySem PySem.Spec PyProof.Rows L2 SkR
def top (i : Nat) : Stmt := PySem.Challenge.pw_songkin_s01_answers.main.body.getD i (.Pass ⟨0, 0, 0, 0⟩)
abbrev sNote_init : Stmt := inClass (top 5) 0
abbrev sNote_moved : Stmt := inClass (top 5) 1
abbrev sCosts_init : Stmt := inClass (top 6) 0
abbrev sCosts_apart : Stmt := inClass (top 6) 1
abbrev s_is_note : Stmt := top 7
abbrev s_pairs_of : Stmt := top 8
abbrev s_is_tune : Stmt := top 9
abbrev s_note_of : Stmt := top 10
abbrev s_tune_of : Stmt := top 11
abbrev s_moved : Stmt := top 12
abbrev sAhead_init : Stmt := inClass (top 17) 0
abbrev sBeside_init : Stmt := inClass (top 18) 0
abbrev sBeside_has_room : Stmt := inClass (top 18) 1
abbrev sBeside_both_cost : Stmt := inClass (top 18) 2
abbrev sBeside_step_cost : Stmt := inClass (top 18) 3
abbrev sBeside_steps_at : Stmt := inClass (top 18) 4
abbrev sBeside_ahead_of : Stmt := inClass (top 18) 5
abbrev sBeside_all_ahead : Stmt := inClass (top 18) 6
abbrev sBeside_least_cost : Stmt := inClass (top 18) 7
abbrev sBeside_best : Stmt := inClass (top 18) 8
abbrev sBeside_cost_of : Stmt := inClass (top 18) 9
abbrev s_shifts : Stmt := top 21
abbrev sFamily_init : Stmt := inClass (top 22) 0
abbrev sFamily_put : Stmt := inClass (top 22) 1
abbrev sFamily_drop : Stmt := inClass (top 22) 2
abbrev sFamily_has : Stmt := inClass (top 22) 3
abbrev sFamily_beside : Stmt := inClass (top 22) 4
abbrev sFamily_far : Stmt := inClass (top 22) 5
abbrev sFamily_shift : Stmt := inClass (top 22) 6
abbrev sFamily_next_pair : Stmt := inClass (top 22) 7
abbrev sFamily_tree : Stmt := inClass (top 22) 8
abbrev s_first_family : Stmt := top 23
abbrev s_counted : Stmt := top 33
abbrev sDesk_init : Stmt := inClass (top 34) 0
abbrev sDesk_begins : Stmt := inClass (top 34) 1
abbrev sDesk_tune : Stmt := inClass (top 34) 2
abbrev sDesk_drop : Stmt := inClass (top 34) 3
abbrev sDesk_best : Stmt := inClass (top 34) 4
abbrev sDesk_cost : Stmt := inClass (top 34) 5
abbrev sDesk_shift : Stmt := inClass (top 34) 6
abbrev sDesk_all_far : Stmt := inClass (top 34) 7
abbrev sDesk_tree : Stmt := inClass (top 34) 8
abbrev sDesk_of_tunes : Stmt := inClass (top 34) 9
abbrev sDesk_answered : Stmt := inClass (top 34) 10
abbrev s_call_at : Stmt := top 35
abbrev s_answers : Stmt := top 36
/-- where the classes stand -/
structure Cs where
  Note : Addr
  Costs : Addr
  Ahead : Addr
  Beside : Addr
  Family : Addr
  Desk : Addr
abbrev fNote (key long : V) : List (Str × V) := [("key", key), ("long", long)]
abbrev fCosts (key rest long gap more : V) : List (Str × V) := [("key", key), ("rest", rest), ("long", long), ("gap", gap), ("more", more)]
abbrev fAhead (least many step : V) : List (Str × V) := [("least", least), ("many", many), ("step", step)]
abbrev fBeside (costs one other key_costs : V) : List (Str × V) := [("costs", costs), ("one", one), ("other", other), ("key_costs", key_costs)]
abbrev fFamily (costs tunes known : V) : List (Str × V) := [("costs", costs), ("tunes", tunes), ("known", known)]
abbrev fDesk (family : V) : List (Str × V) := [("family", family)]
/-- what the text's top has left, as far as the defs lean on it -/
structure Txt (K : PySem.W.Frag) (mg : Str → Option Value) (c : Cs) : Prop where
  cl_Note : Cls K c.Note
  cl_Costs : Cls K c.Costs
  cl_Ahead : Cls K c.Ahead
  cl_Beside : Cls K c.Beside
  cl_Family : Cls K c.Family
  cl_Desk : Cls K c.Desk
  n_Note_key : NoAttr K c.Note "key"
  n_Note_long : NoAttr K c.Note "long"
  n_Costs_key : NoAttr K c.Costs "key"
  n_Costs_rest : NoAttr K c.Costs "rest"
  n_Costs_long : NoAttr K c.Costs "long"
  n_Costs_gap : NoAttr K c.Costs "gap"
  n_Costs_more : NoAttr K c.Costs "more"
  n_Ahead_least : NoAttr K c.Ahead "least"
  n_Ahead_many : NoAttr K c.Ahead "many"
  n_Ahead_step : NoAttr K c.Ahead "step"
  n_Beside_costs : NoAttr K c.Beside "costs"
  n_Beside_one : NoAttr K c.Beside "one"
  n_Beside_other : NoAttr K c.Beside "other"
  n_Beside_key_costs : NoAttr K c.Beside "key_costs"
  n_Family_costs : NoAttr K c.Family "costs"
  n_Family_tunes : NoAttr K c.Family "tunes"
  n_Family_known : NoAttr K c.Family "known"
  n_Desk_family : NoAttr K c.Desk "family"
  c_MOST_KEY : ∃ u, mg "MOST_KEY" = some u ∧ RelV (.int 127) u
  c_MOST_LONG : ∃ u, mg "MOST_LONG" = some u ∧ RelV (.int 1000) u
  c_MOST_NOTES : ∃ u, mg "MOST_NOTES" = some u ∧ RelV (.int 24) u
  c_REST : ∃ u, mg "REST" = some u ∧ RelV (.int (-1)) u
  c_FIRST_ALONE : ∃ u, mg "FIRST_ALONE" = some u ∧ RelV (.int 1) u
  c_SECOND_ALONE : ∃ u, mg "SECOND_ALONE" = some u ∧ RelV (.int 2) u
  c_FARTHEST : ∃ u, mg "FARTHEST" = some u ∧ RelV (.int 24) u
  c_WRONG : ∃ u, mg "WRONG" = some u ∧ RelV (.int (-1)) u
  c_NO_TUNE : ∃ u, mg "NO_TUNE" = some u ∧ RelV (.int (-2)) u
  c_NO_WAY : ∃ u, mg "NO_WAY" = some u ∧ RelV (.int (-3)) u
  c_FULL : ∃ u, mg "FULL" = some u ∧ RelV (.int (-5)) u
  c_MOST_COST : ∃ u, mg "MOST_COST" = some u ∧ RelV (.int 10000) u
  c_MOST_TUNES : ∃ u, mg "MOST_TUNES" = some u ∧ RelV (.int 8) u
  c_TAKEN : ∃ (a : Addr) (ps : List Addr), (∃ u, mg "TAKEN" = some u ∧ RelV (.ref a) u) ∧ (∀ H : Hp, SqT K H a (ps.map V.ref)) ∧ ∀ H : Hp, Paired (fun (p : Addr) (t : Nat × Nat) => SqT K H p [.int t.1, .int t.2]) ps [(1, 1), (1, 0), (0, 1), (1, 2), (1, 3), (1, 4), (2, 1), (3, 1), (4, 1)]
  c_NUMBERS : ∃ (a : Addr), (∃ u, mg "NUMBERS" = some u ∧ RelV (.ref a) u) ∧ ∀ H : Hp, SqT K H a ([5, 0, 1, 2, 2, 2, 0, 1].map V.int)
  c_WITH_ROW : ∃ (a : Addr), (∃ u, mg "WITH_ROW" = some u ∧ RelV (.ref a) u) ∧ ∀ H : Hp, SqT K H a ([1, 4].map V.int)
  b_len : mg "len" = none
  b_any : mg "any" = none
  b_all : mg "all" = none
  b_sum : mg "sum" = none
  b_min : mg "min" = none
  b_max : mg "max" = none
  b_abs : mg "abs" = none
  b_list : mg "list" = none
  b_zip : mg "zip" = none
  b_enumerate : mg "enumerate" = none
  b_range : mg "range" = none
section
variable {P : Program} {w : World} {K : PySem.W.Frag} {mg : Str → Option Value} {base : Heap}
/-- a def of the top that keeps its promise; a method; a class with its __init__ -/
structure Df (P : Program) (w : World) (K : PySem.W.Frag) (mg : Str → Option Value) (base : Heap) (x : Str) (k : Nat) (ps : List Str) (sp : Sp) : Prop where
  ex : ∃ f fd, FnOk P w K mg base CX0 k f fd ps sp ∧ mg x = some (.ref f) ∧ PySem.W.keepIn K (.ref f) = true ∧ Binds K fd ps []
structure Mt (P : Program) (w : World) (K : PySem.W.Frag) (mg : Str → Option Value) (base : Heap) (C : Addr) (m : Str) (k : Nat) (ps : List Str) (sp : Sp) : Prop where
  ex : ∃ f fd, FnOk P w K mg base CX0 k f fd ps sp ∧ Meth K C m f ∧ Binds K fd ps []
structure Kl (P : Program) (w : World) (K : PySem.W.Frag) (mg : Str → Option Value) (base : Heap) (x : Str) (C : Addr) (k : Nat) (ps : List Str) (sp : Sp) : Prop where
  ex : ∃ f fd, FnOk P w K mg base CX0 k f fd ps sp ∧ Mk K C f ∧ mg x = some (.ref C) ∧ Binds K fd ps []
end
section
variable {X : Cx} {x m : Str} {k : Nat} {ps : List Str} {sp : Sp} {e o : Expr} {es : List Expr} {t : TA} {ta : TE} {C : Addr} {p pos apos : Pos} {v : V}
theorem pe_cst (h : ∃ u, X.mg x = some u ∧ RelV v u) (hg : Gl X x) (hd : (x == ("__debug__" : Str)) = false := by decide) : PE X (.Name x pos) (tC v) :=
  let ⟨_, h1, h2⟩ := h; pe_glob hg h1 h2 hd
theorem pe_df (D : Df X.prog X.w X.K X.mg X.base x k ps sp) (hr : Room k X.A) (hg : Gl X x) (ha : PA X (e :: es) t) (hdb : (x == ("__debug__" : Str)) = false := by decide)
    (he : starEach (e :: es) X.env = (false, eval e X.env) :: starEach es X.env := by rfl) (hpl : (backTo pos (starEach es X.env)).any (·.1) = false := by rfl) : PE X (.Call (.Name x p) (e :: es) [] pos) (tCall sp [] E0 t) :=
  let ⟨_, _, F, hm, hk, hb⟩ := D.ex; pe_call F hr hg hm hk hb .nil pass0 ha hdb he hpl
theorem pe_df0 (D : Df X.prog X.w X.K X.mg X.base x k ps sp) (hr : Room k X.A) (hg : Gl X x) (hdb : (x == ("__debug__" : Str)) = false := by decide) : PE X (.Call (.Name x p) [] [] pos) (tCall sp [] E0 tNil) :=
  let ⟨_, _, F, hm, hk, hb⟩ := D.ex; pe_call0 F hr hg hm hk hb .nil pass0 hdb
theorem pe_mt {pl : Sem Bool} (D : Mt X.prog X.w X.K X.mg X.base C m k ps sp) (c : Cls X.K C) (hr : Room k X.A) (ho : PE X o ta) (ha : PA X (e :: es) t)
    (hst : starEach (e :: es) X.env = (false, eval e X.env) :: starEach es X.env := by rfl) (hpl : (backTo pos (starEach es X.env)).any (·.1) = false := by rfl)
    (ht : eval (.Call (.Attribute o m apos) (e :: es) [] pos) X.env = (do
      let ov ← eval o X.env
      standAt apos.atName
      let (f, first) ← holding [ov] (getMethod ov m pl)
      callWith pos f first (backTo pos (starEach (e :: es) X.env)) (backToKw pos (keywordEach [] X.env))) := by rfl) :
    PE X (.Call (.Attribute o m apos) (e :: es) [] pos) (tMeth C m sp [] E0 ta t) :=
  let ⟨_, _, F, hm, hb⟩ := D.ex; pe_meth ho c hm F hr hb .nil pass0 ha hst hpl ht
theorem pe_mt0 {pl : Sem Bool} (D : Mt X.prog X.w X.K X.mg X.base C m k ps sp) (c : Cls X.K C) (hr : Room k X.A) (ho : PE X o ta)
    (ht : eval (.Call (.Attribute o m apos) [] [] pos) X.env = (do
      let ov ← eval o X.env
      standAt apos.atName
      let (f, first) ← holding [ov] (getMethod ov m pl)
      callWith pos f first (backTo pos (starEach [] X.env)) (backToKw pos (keywordEach [] X.env))) := by rfl) :
    PE X (.Call (.Attribute o m apos) [] [] pos) (tMeth C m sp [] E0 ta tNil) :=
  let ⟨_, _, F, hm, hb⟩ := D.ex; pe_meth0 ho c hm F hr hb .nil pass0 ht
theorem pe_mk (M : Kl X.prog X.w X.K X.mg X.base x C k ps sp) (hr : Room (k + 1) X.A) (hg : Gl X x) (ha : PA X (e :: es) t) (hdb : (x == ("__debug__" : Str)) = false := by decide)
    (he : starEach (e :: es) X.env = (false, eval e X.env) :: starEach es X.env := by rfl) (hpl : (backTo pos (starEach es X.env)).any (·.1) = false := by rfl) : PE X (.Call (.Name x p) (e :: es) [] pos) (tMake C sp [] E0 t) :=
  let ⟨_, _, F, hM, hm, hb⟩ := M.ex; pe_make hM F hr hg hm hb .nil pass0 ha hdb he hpl
theorem pe_mk0 (M : Kl X.prog X.w X.K X.mg X.base x C k ps sp) (hr : Room (k + 1) X.A) (hg : Gl X x) (hdb : (x == ("__debug__" : Str)) = false := by decide) : PE X (.Call (.Name x p) [] [] pos) (tMake C sp [] E0 tNil) :=
  let ⟨_, _, F, hM, hm, hb⟩ := M.ex; pe_make0 hM F hr hg hm hb .nil pass0 hdb
end
/-! ### values -/
section
variable {K : PySem.W.Frag} {mg : Str → Option Value} {c : Cs} {σ : L2.St} {H : Hp} {ta tb : TE} {p dx : Addr} {v x y z : V} {i j : Int}
theorem v_Note_key {key long : V} (T : Txt K mg c) (h : Val ta σ H (.ref p)) (hp : H p = some (.ins c.Note dx (fNote key long))) : Val (tFld K ta "key") σ H key := val_fld h hp T.cl_Note T.n_Note_key rfl
theorem v_Note_long {key long : V} (T : Txt K mg c) (h : Val ta σ H (.ref p)) (hp : H p = some (.ins c.Note dx (fNote key long))) : Val (tFld K ta "long") σ H long := val_fld h hp T.cl_Note T.n_Note_long rfl
theorem v_Costs_key {key rest long gap more : V} (T : Txt K mg c) (h : Val ta σ H (.ref p)) (hp : H p = some (.ins c.Costs dx (fCosts key rest long gap more))) : Val (tFld K ta "key") σ H key := val_fld h hp T.cl_Costs T.n_Costs_key rfl
theorem v_Costs_rest {key rest long gap more : V} (T : Txt K mg c) (h : Val ta σ H (.ref p)) (hp : H p = some (.ins c.Costs dx (fCosts key rest long gap more))) : Val (tFld K ta "rest") σ H rest := val_fld h hp T.cl_Costs T.n_Costs_rest rfl
theorem v_Costs_long {key rest long gap more : V} (T : Txt K mg c) (h : Val ta σ H (.ref p)) (hp : H p = some (.ins c.Costs dx (fCosts key rest long gap more))) : Val (tFld K ta "long") σ H long := val_fld h hp T.cl_Costs T.n_Costs_long rfl
theorem v_Costs_gap {key rest long gap more : V} (T : Txt K mg c) (h : Val ta σ H (.ref p)) (hp : H p = some (.ins c.Costs dx (fCosts key rest long gap more))) : Val (tFld K ta "gap") σ H gap := val_fld h hp T.cl_Costs T.n_Costs_gap rfl
theorem v_Costs_more {key rest long gap more : V} (T : Txt K mg c) (h : Val ta σ H (.ref p)) (hp : H p = some (.ins c.Costs dx (fCosts key rest long gap more))) : Val (tFld K ta "more") σ H more := val_fld h hp T.cl_Costs T.n_Costs_more rfl
theorem v_Ahead_least {least many step : V} (T : Txt K mg c) (h : Val ta σ H (.ref p)) (hp : H p = some (.ins c.Ahead dx (fAhead least many step))) : Val (tFld K ta "least") σ H least := val_fld h hp T.cl_Ahead T.n_Ahead_least rfl
theorem v_Ahead_many {least many step : V} (T : Txt K mg c) (h : Val ta σ H (.ref p)) (hp : H p = some (.ins c.Ahead dx (fAhead least many step))) : Val (tFld K ta "many") σ H many := val_fld h hp T.cl_Ahead T.n_Ahead_many rfl
theorem v_Ahead_step {least many step : V} (T : Txt K mg c) (h : Val ta σ H (.ref p)) (hp : H p = some (.ins c.Ahead dx (fAhead least many step))) : Val (tFld K ta "step") σ H step := val_fld h hp T.cl_Ahead T.n_Ahead_step rfl
theorem v_Beside_costs {costs one other key_costs : V} (T : Txt K mg c) (h : Val ta σ H (.ref p)) (hp : H p = some (.ins c.Beside dx (fBeside costs one other key_costs))) : Val (tFld K ta "costs") σ H costs := val_fld h hp T.cl_Beside T.n_Beside_costs rfl
theorem v_Beside_one {costs one other key_costs : V} (T : Txt K mg c) (h : Val ta σ H (.ref p)) (hp : H p = some (.ins c.Beside dx (fBeside costs one other key_costs))) : Val (tFld K ta "one") σ H one := val_fld h hp T.cl_Beside T.n_Beside_one rfl
theorem v_Beside_other {costs one other key_costs : V} (T : Txt K mg c) (h : Val ta σ H (.ref p)) (hp : H p = some (.ins c.Beside dx (fBeside costs one other key_costs))) : Val (tFld K ta "other") σ H other := val_fld h hp T.cl_Beside T.n_Beside_other rfl
theorem v_Beside_key_costs {costs one other key_costs : V} (T : Txt K mg c) (h : Val ta σ H (.ref p)) (hp : H p = some (.ins c.Beside dx (fBeside costs one other key_costs))) : Val (tFld K ta "key_costs") σ H key_costs := val_fld h hp T.cl_Beside T.n_Beside_key_costs rfl
theorem v_Family_costs {costs tunes known : V} (T : Txt K mg c) (h : Val ta σ H (.ref p)) (hp : H p = some (.ins c.Family dx (fFamily costs tunes known))) : Val (tFld K ta "costs") σ H costs := val_fld h hp T.cl_Family T.n_Family_costs rfl
theorem v_Family_tunes {costs tunes known : V} (T : Txt K mg c) (h : Val ta σ H (.ref p)) (hp : H p = some (.ins c.Family dx (fFamily costs tunes known))) : Val (tFld K ta "tunes") σ H tunes := val_fld h hp T.cl_Family T.n_Family_tunes rfl
theorem v_Family_known {costs tunes known : V} (T : Txt K mg c) (h : Val ta σ H (.ref p)) (hp : H p = some (.ins c.Family dx (fFamily costs tunes known))) : Val (tFld K ta "known") σ H known := val_fld h hp T.cl_Family T.n_Family_known rfl
theorem v_Desk_family {family : V} (T : Txt K mg c) (h : Val ta σ H (.ref p)) (hp : H p = some (.ins c.Desk dx (fDesk family))) : Val (tFld K ta "family") σ H family := val_fld h hp T.cl_Desk T.n_Desk_family rfl
theorem v_add (ha : Val ta σ H (.int i)) (hb : Val tb σ H (.int j)) : Val (tOp (rI0 fun i j => .int (i + j)) ta tb) σ H (.int (i + j)) := val_op ha hb fun _ q => ⟨i, j, rfl, rfl, q⟩
theorem v_sub (ha : Val ta σ H (.int i)) (hb : Val tb σ H (.int j)) : Val (tOp (rI0 fun i j => .int (i - j)) ta tb) σ H (.int (i - j)) := val_op ha hb fun _ q => ⟨i, j, rfl, rfl, q⟩
theorem v_mul (ha : Val ta σ H (.int i)) (hb : Val tb σ H (.int j)) (h1 : -(2 ^ 64) < i ∧ i < 2 ^ 64) : Val (tOp (rI CMul fun i j => .int (i * j)) ta tb) σ H (.int (i * j)) := val_op ha hb fun _ q => ⟨i, j, rfl, rfl, .inl h1, q⟩
theorem v_lt (ha : Val ta σ H (.int i)) (hb : Val tb σ H (.int j)) : Val (tOp (rI0 fun i j => .bl (decide (i < j))) ta tb) σ H (.bl (decide (i < j))) := val_op ha hb fun _ q => ⟨i, j, rfl, rfl, q⟩
theorem v_le (ha : Val ta σ H (.int i)) (hb : Val tb σ H (.int j)) : Val (tOp (rI0 fun i j => .bl (decide (i ≤ j))) ta tb) σ H (.bl (decide (i ≤ j))) := val_op ha hb fun _ q => ⟨i, j, rfl, rfl, q⟩
theorem v_gt (ha : Val ta σ H (.int i)) (hb : Val tb σ H (.int j)) : Val (tOp (rI0 fun i j => .bl (decide (j < i))) ta tb) σ H (.bl (decide (j < i))) := val_op ha hb fun _ q => ⟨i, j, rfl, rfl, q⟩
theorem v_and {b1 b2 : Bool} (ha : Val ta σ H (.bl b1)) (hb : Val tb σ H (.bl b2)) : Val (tAndV ta tb) σ H (.bl (b1 && b2)) := fun Q q => ha _ ⟨b1, rfl, by cases b1; exact q; exact hb Q q⟩
theorem v_ixL {xs : List V} {n : Nat} (ha : Val ta σ H (.ref p)) (hp : SqL K H p xs) (hb : Val tb σ H (.int n)) (hx : xs[n]? = some v) : Val (tOp (rIxL K) ta tb) σ H v := val_op ha hb fun _ q => ⟨p, xs, _, _, rfl, rfl, hp, atI_nat hx, q⟩
theorem v_ixT {xs : List V} {n : Nat} (ha : Val ta σ H (.ref p)) (hp : SqT K H p xs) (hb : Val tb σ H (.int n)) (hx : xs[n]? = some v) : Val (tOp (rIxT K) ta tb) σ H v := val_op ha hb fun _ q => ⟨p, xs, _, _, rfl, rfl, hp, atI_nat hx, q⟩
/-- arguments that change nothing -/
def VA (t : TA) (σ : L2.St) (H : Hp) (vs : List V) : Prop := ∀ Q : List V → Hp → Prop, Q vs H → t σ H Q
theorem va_nil : VA tNil σ H [] := fun _ q => q
theorem va_cons {t : TA} {vs : List V} (h : Val ta σ H v) (r : VA t σ H vs) : VA (tCons ta t) σ H (v :: vs) := fun Q q => h _ (r _ q)
theorem v_len {xs : List V} (h : Val ta σ H (.ref p)) (hp : SqL K H p xs) {r : List V → Hp → VK → Prop} (hr : ∀ Q : VK, Q (.int xs.length) H → r [.ref p] H Q) : Val (tCB r (tCons ta tNil)) σ H (.int xs.length) := fun Q q => h _ (hr Q q)
theorem v_abs (h : Val ta σ H (.int i)) {r : List V → Hp → VK → Prop} (hr : ∀ Q : VK, Q (.int (if i < 0 then -i else i)) H → r [.int i] H Q) : Val (tCB r (tCons ta tNil)) σ H (.int (if i < 0 then -i else i)) := fun Q q => h _ (hr Q q)
theorem same_upd {H : Hp} {a : Addr} {o : HO} (h : H a = none) : Same H (upd H a o) := fun b u e => by rw [upd_ne (ne_of_none e h)]; exact e
/-- a class's __init__ that stores its arguments -/
def spIni (C : Addr) (n : Nat) (fs : List V → List (Str × V)) : Sp := fun vs H Q _ => ∃ (p dx : Addr) (us : List V), vs = .ref p :: us ∧ us.length = n ∧ H p = some (.ins C dx []) ∧ Q .non (upd H p (.ins C dx (fs us)))
theorem v_make {C : Addr} {n : Nat} {fs : List V → List (Str × V)} {t : TA} {vs : List V} {Q : VK} (h : VA t σ H vs) (hl : vs.length = n)
    (q : ∀ (x dx : Addr) (H2 : Hp), L2.Same H H2 → H x = none → H2 x = some (.ins C dx (fs vs)) → Q (.ref x) H2) : tMake C (spIni C n fs) [] E0 t σ H Q := by
  refine h _ ?_
  intro x dx hx hd ne
  refine ⟨x, dx, vs, by rw [List.append_nil], hl, upd_same, rfl, ?_⟩
  refine q x dx _ ?_ hx ?_
  · rw [upd_upd]
    exact L2.Same.trans (same_upd hd) (same_upd (by rw [upd_ne (Ne.symm ne)]; exact hx))
  · exact upd_same
theorem v_call {sp : Sp} {t : TA} {vs : List V} {Q : VK} (h : VA t σ H vs) (q : sp vs H Q E0) : tCall sp [] E0 t σ H Q := h _ (by rw [List.append_nil]; exact q)
theorem v_meth {C : Addr} {m : Str} {sp : Sp} {t : TA} {vs : List V} {fs : List (Str × V)} {Q : VK} (ho : Val ta σ H (.ref p)) (hp : H p = some (.ins C dx fs)) (hm : fs.lookup m = none) (h : VA t σ H vs) (q : sp (.ref p :: vs) H Q E0) : tMeth C m sp [] E0 ta t σ H Q := by
  refine ho _ ⟨p, dx, fs, rfl, hp, hm, h _ ?_⟩
  rw [List.append_nil]
  exact q
/-! ### statements, as they are -/
variable {te : TE} {D : Ends} {n : Nat} {g : TG} {tc : TT} {t1 t2 : TS}
theorem m_ret (h : te σ H D.rt) : tRet te D σ H := h
theorem m_set (h : te σ H fun v H1 => D.nx (σ.set n (some v)) H1) : tAsg te (gName n) D σ H := h
theorem m_asg (h : te σ H fun v H1 => g v σ H1 D.nx) : tAsg te g D σ H := h
theorem m_drop (h : te σ H fun _ H1 => D.nx σ H1) : tDrop te D σ H := h
theorem m_if (h : tc σ H fun b H1 => if b = true then t1 D σ H1 else t2 D σ H1) : tIfS tc t1 t2 D σ H := h
end
end Sk

/-! Notes, costs. -/
namespace Sk
open PySem PySem.Spec PyProof.Rows L2 SkR

def kvo : Option Int → V
  | none => .non
  | some k => .int k
def NoteAt (c : Cs) (H : Hp) (p : Addr) (n : Sw73.Note) : Prop := ∃ dx, H p = some (.ins c.Note dx (fNote (kvo n.key) (.int n.long)))
def CostsAt (c : Cs) (H : Hp) (p : Addr) (k : Sw73.Costs) : Prop := ∃ dx, H p = some (.ins c.Costs dx (fCosts (.int k.key) (.int k.rest) (.int k.long) (.int k.gap) (.int k.more)))
/-- costs that may be multiplied -/
structure CostsOk (k : Sw73.Costs) : Prop where
  key : k.key ≤ 10000
  rest : k.rest ≤ 10000
  long : k.long ≤ 10000
  gap : k.gap ≤ 10000
  more : k.more ≤ 10000
theorem mul_ok {n : Nat} (h : n ≤ 10000) : -(2 ^ 64) < (n : Int) ∧ (n : Int) < 2 ^ 64 := by
  have e : (2 : Int) ^ 64 = 18446744073709551616 := by decide
  omega
/-- a list of the objects ps at a, which are as ts tells -/
def RefsAt {α : Type} (F : Hp → Addr → α → Prop) (H : Hp) (a : Addr) (ts : List α) : Prop := ∃ ps : List Addr, H a = some (.lst (ps.map V.ref)) ∧ Paired (F H) ps ts
abbrev TuneAt (c : Cs) (H : Hp) (a : Addr) (t : Sw73.Tune) : Prop := RefsAt (NoteAt c) H a t
theorem NoteAt.mono {c : Cs} {H H' : Hp} {p : Addr} {n : Sw73.Note} (h : NoteAt c H p n) (s : L2.Same H H') : NoteAt c H' p n := let ⟨dx, e⟩ := h; ⟨dx, s _ _ e⟩
theorem CostsAt.mono {c : Cs} {H H' : Hp} {p : Addr} {n : Sw73.Costs} (h : CostsAt c H p n) (s : L2.Same H H') : CostsAt c H' p n := let ⟨dx, e⟩ := h; ⟨dx, s _ _ e⟩
theorem paired_imp {α β : Type} {F G : α → β → Prop} (h : ∀ a b, F a b → G a b) : ∀ {xs : List α} {ys : List β}, Paired F xs ys → Paired G xs ys
  | _, _, .nil => .nil
  | _, _, .cons r t => .cons (h _ _ r) (paired_imp h t)
theorem TuneAt.mono {c : Cs} {H H' : Hp} {a : Addr} {t : Sw73.Tune} (h : TuneAt c H a t) (s : L2.Same H H') : TuneAt c H' a t :=
  let ⟨ps, e, r⟩ := h; ⟨ps, s _ _ e, paired_imp (fun _ _ q => q.mono s) r⟩

section
variable {P : Program} {w : World} {K : PySem.W.Frag} {mg : Str → Option Value} {base : Heap} {c : Cs}
def spNoteIni (c : Cs) : Sp := spIni c.Note 2 fun us => fNote (us.getD 0 .non) (us.getD 1 .non)
theorem scNote_init : FnScope ["self", "key", "long"] ["self", "key", "long"] (defScope sNote_init) := ⟨rfl, rfl, rfl, by decide +kernel, rfl, by decide +kernel, by decide +kernel⟩
theorem ok_Note_init {f : Addr} {fd : FuncData} (F : Fun K "__init__" "Note.__init__" sNote_init f fd) (T : Txt K mg c) : FnOk P w K mg base CX0 1 f fd ["self", "key", "long"] (spNoteIni c) := by
  refine F.ok scNote_init (fun vs H Q E h => ?_) (fun cdv A outer s H vs Q E hr h => ?_)
  · obtain ⟨p, dx, us, rfl, hl, _⟩ := h
    simp [hl]
  · obtain ⟨p, dx, us, rfl, hl, hp, k⟩ := h
    obtain ⟨u, v, rfl⟩ : ∃ u v, us = [u, v] := by
      match us, hl with
      | [u, v], _ => exact ⟨u, v, rfl⟩
    refine ⟨_, (pss_cons (ps_fld (pv 0) (pv 1) rfl)
    (pss_one (ps_fld (pv 0) (pv 2) rfl))), ?_⟩
    refine st_seq ?_
    refine st_fld (val_var rfl) (val_var rfl) hp T.cl_Note T.n_Note_key (by decide) ?_
    refine st_fld (val_var rfl) (val_var rfl) upd_same T.cl_Note T.n_Note_long (by show 1 < 1000; decide) ?_
    rw [upd_upd]
    exact k
def spNoteMoved (c : Cs) : Sp := fun vs H Q _ => ∃ (p : Addr) (far : Int) (n : Sw73.Note), vs = [.ref p, .int far] ∧ NoteAt c H p n ∧
  ∀ (q : Addr) (H' : Hp), L2.Same H H' → NoteAt c H' q { n with key := n.key.map fun a => a + far } → Q (.ref q) H'
theorem scNote_moved : FnScope ["self", "far"] ["self", "far"] (defScope sNote_moved) := ⟨rfl, rfl, rfl, by decide +kernel, rfl, by decide +kernel, by decide +kernel⟩
theorem ok_Note_moved {f : Addr} {fd : FuncData} (F : Fun K "moved" "Note.moved" sNote_moved f fd) (T : Txt K mg c) (M_Note : Kl P w K mg base "Note" c.Note 1 ["self", "key", "long"] (spNoteIni c)) :
    FnOk P w K mg base CX0 3 f fd ["self", "far"] (spNoteMoved c) := by
  refine F.ok scNote_moved (fun vs H Q E h => ?_) (fun cdv A outer s H vs Q E hr h => ?_)
  · obtain ⟨p, far, n, rfl, _⟩ := h
    rfl
  · obtain ⟨p, far, n, rfl, hn, k⟩ := h
    have hn' := hn
    obtain ⟨dx, hp⟩ := hn
    refine ⟨_, (pss_cons (ps_if (pt_cmpR op_isN (pe_fld (pv 0) rfl) pe_non (nomark _)) (pss_one (ps_ret (pv 0))) pss_nil)
    (pss_one (ps_ret (pe_mk M_Note (hr.mono (by decide)) (by rfl) (pa_cons (pe_op op_add (pe_fld (pv 0) rfl) (pv 1)) (pa_cons (pe_fld (pv 0) rfl) pa_nil)))))), ?_⟩
    refine st_seq ?_
    cases hk : n.key with
    | none =>
      rw [hk] at hp
      refine st_yes (ans_isN (v_Note_key T (val_var rfl) hp) rfl) ?_
      refine st_ret (val_var rfl) ?_
      have e : ({ n with key := n.key.map fun a => a + far } : Sw73.Note) = n := by
        obtain ⟨nk, nl⟩ := n
        cases hk
        rfl
      rw [e] at k
      exact k p H (L2.Same.refl H) hn'
    | some a =>
      rw [hk] at hp
      refine st_no (ans_isN (v_Note_key T (val_var rfl) hp) rfl) ?_
      refine st_next ?_
      dsimp only
      refine m_ret ?_
      refine v_make (va_cons (v_add (v_Note_key T (val_var rfl) hp) (val_var rfl)) (va_cons (v_Note_long T (val_var rfl) hp) va_nil)) rfl fun x dx2 H2 s2 hx e => ?_
      refine k x H2 s2 ⟨dx2, ?_⟩
      rw [e, hk]
      rfl
def spApart (c : Cs) : Sp := fun vs H Q _ => ∃ (p a b : Addr) (k : Sw73.Costs) (x y : Sw73.Note), vs = [.ref p, .ref a, .ref b] ∧ CostsAt c H p k ∧ CostsOk k ∧ NoteAt c H a x ∧ NoteAt c H b y ∧ Q (.int (Sw73.apart k x y)) H
theorem scCosts_apart : FnScope ["self", "note", "other"] ["self", "note", "other"] (defScope sCosts_apart) := ⟨rfl, rfl, rfl, by decide +kernel, rfl, by decide +kernel, by decide +kernel⟩
theorem ok_Costs_apart {f : Addr} {fd : FuncData} (F : Fun K "apart" "Costs.apart" sCosts_apart f fd) (T : Txt K mg c) : FnOk P w K mg base CX0 1 f fd ["self", "note", "other"] (spApart c) := by
  refine F.ok scCosts_apart (fun vs H Q E h => ?_) (fun cdv A outer s H vs Q E hr h => ?_)
  · obtain ⟨p, a, b, k, x, y, rfl, _⟩ := h
    rfl
  · obtain ⟨p, a, b, k, x, y, rfl, ⟨dc, hc⟩, ok, ⟨dx, hx⟩, ⟨dy, hy⟩, q⟩ := h
    refine ⟨_, (pss_cons (ps_if (PW.pt (pw_and (pt_cmpR op_isN (pe_fld (pv 1) rfl) pe_non (nomark _)) (pw_and1 (pt_cmpR op_isN (pe_fld (pv 2) rfl) pe_non (nomark _))))) (pss_one (ps_ret pe_int)) pss_nil)
    (pss_cons (ps_if (PW.pt (pw_or (pt_cmpR op_isN (pe_fld (pv 1) rfl) pe_non (nomark _)) (pw_or1 (pt_cmpR op_isN (pe_fld (pv 2) rfl) pe_non (nomark _))))) (pss_one (ps_ret (pe_fld (pv 0) rfl))) pss_nil)
    (pss_one (ps_ret (pe_op op_mul (pe_fld (pv 0) rfl) (pe_callB call_abs (by rfl) T.b_abs (by decide +kernel) (pa_cons (pe_op op_sub (pe_fld (pv 1) rfl) (pe_fld (pv 2) rfl)) pa_nil))))))), ?_⟩
    obtain ⟨xk, xl⟩ := x
    obtain ⟨yk, yl⟩ := y
    refine st_seq ?_
    cases xk with
    | none =>
      cases yk with
      | none =>
        refine st_yes (ans_and (ans_isN (v_Note_key T (val_var rfl) hx) rfl) (ans_isN (v_Note_key T (val_var rfl) hy) rfl)) ?_
        exact st_ret val_c q
      | some j =>
        refine st_no (ans_and (ans_isN (v_Note_key T (val_var rfl) hx) rfl) (ans_isN (v_Note_key T (val_var rfl) hy) rfl)) ?_
        refine st_next ?_
        refine st_seq ?_
        refine st_yes (ans_or1 (ans_isN (v_Note_key T (val_var rfl) hx) rfl)) ?_
        exact st_ret (v_Costs_rest T (val_var rfl) hc) q
    | some i =>
      refine st_no (ans_and0 (ans_isN (v_Note_key T (val_var rfl) hx) rfl)) ?_
      refine st_next ?_
      refine st_seq ?_
      cases yk with
      | none =>
        refine st_yes (ans_or (ans_isN (v_Note_key T (val_var rfl) hx) rfl) (ans_isN (v_Note_key T (val_var rfl) hy) rfl)) ?_
        exact st_ret (v_Costs_rest T (val_var rfl) hc) q
      | some j =>
        refine st_no (ans_or (ans_isN (v_Note_key T (val_var rfl) hx) rfl) (ans_isN (v_Note_key T (val_var rfl) hy) rfl)) ?_
        refine st_next ?_
        refine st_ret (v_mul (v_Costs_key T (val_var rfl) hc) (v_abs (v_sub (v_Note_key T (val_var rfl) hx) (v_Note_key T (val_var rfl) hy)) fun Q q => ⟨_, rfl, q⟩) (mul_ok ok.key)) ?_
        have e : (k.key : Int) * (if i - j < 0 then -(i - j) else i - j) = ((Sw73.apart k ⟨some i, xl⟩ ⟨some j, yl⟩ : Nat) : Int) := by
          show _ = ((k.key * (i - j).natAbs : Nat) : Int)
          rw [Int.natCast_mul]
          congr 1
          split <;> omega
        exact e ▸ q
end
end Sk

/-! Rows of numbers, tunes. -/
namespace Sk
open PySem PySem.Spec PyProof.Rows L2 SkR

/-! ### a comprehension that maps -/
/-- all but what stands at D is kept -/
def Keep (D : Addr) (H H' : Hp) : Prop := ∀ b o, H b = some o → b ≠ D → H' b = some o
theorem keep_upd {D : Addr} {H : Hp} {o : HO} : Keep D H (upd H D o) := fun b u e n => by rw [upd_ne n]; exact e
theorem Same.of_keep {D : Addr} {H H1 H' : Hp} (hD : H1 D = none) (s : L2.Same H1 H) (k : Keep D H H') : L2.Same H1 H' := fun b o e => k b o (s b o e) (ne_of_none e hD)
theorem paired_snoc {α β : Type} {F : α → β → Prop} {x : α} {y : β} : ∀ {xs : List α} {ys : List β}, Paired F xs ys → F x y → Paired F (xs ++ [x]) (ys ++ [y])
  | _, _, .nil, h => .cons h .nil
  | _, _, .cons r t, h => .cons r (paired_snoc t h)
theorem take_snoc {α : Type} : ∀ {l : List α} {i : Nat} {x : α}, l[i]? = some x → l.take (i + 1) = l.take i ++ [x]
  | [], i, x, h => by simp at h
  | a :: l, 0, x, h => by
    have e : a = x := Option.some.inj h
    subst e
    rfl
  | a :: l, i + 1, x, h => by
    have ih := take_snoc (l := l) (i := i) (x := x) h
    show a :: l.take (i + 1) = a :: l.take i ++ [x]
    rw [ih]
    rfl
theorem paired_at {α : Type} {F : Addr → α → Prop} {ps : List Addr} {ts : List α} {i : Nat} {x : V} (pr : Paired F ps ts) (hx : (ps.map V.ref)[i]? = some x) : ∃ (p : Addr) (t : α), ps[i]? = some p ∧ x = .ref p ∧ ts[i]? = some t ∧ F p t := by
  rw [List.getElem?_map] at hx
  cases hy : ps[i]? with
  | none => rw [hy] at hx; cases hx
  | some y =>
    rw [hy] at hx
    obtain ⟨t, ht, f⟩ := LiI.paired_get pr hy
    exact ⟨y, t, rfl, (Option.some.inj hx).symm, ht, f⟩
theorem refs_of {α : Type} {F : Addr → α → Prop} : ∀ {acc : List V} {ts : List α}, Paired (fun (y : V) (t : α) => ∃ q : Addr, y = .ref q ∧ F q t) acc ts → ∃ ps : List Addr, acc = ps.map V.ref ∧ Paired F ps ts
  | [], [], .nil => ⟨[], rfl, .nil⟩
  | _ :: _, _ :: _, .cons ⟨q, e, r⟩ t => let ⟨ps, e2, r2⟩ := refs_of t; ⟨q :: ps, by rw [e, e2]; rfl, .cons r r2⟩
theorem m_yes {te : TE} {σ : L2.St} {H : Hp} {Z : V → Hp → Prop} {N0 : Hp → Prop} (h : te σ H Z) : tYes σ H fun b H3 => if b = true then te σ H3 Z else N0 H3 := by
  show (if true = true then te σ H Z else N0 H)
  exact iteT h
section
variable {K : PySem.W.Frag}
theorem lc_map {a : Addr} {xs : List V} {g : TG} {tt : TT} {te : TE} {vs : List Nat} {σ : L2.St} {H1 : Hp} {D : Addr} {Qd : Hp → Prop} {α : Type} (as : List α) (R : Hp → V → α → Prop)
    (hD : H1 D = none) (hx : SqL K H1 a xs) (hl : xs.length = as.length) (hz : xs.length < sizeLine)
    (stab : ∀ H H' acc acc' y z, H D = some (.lst acc) → H' D = some (.lst acc') → Keep D H H' → R H y z → R H' y z)
    (step : ∀ (i : Nat) (x : V) (z : α) (H : Hp) (acc : List V), xs[i]? = some x → as[i]? = some z → H D = some (.lst acc) → L2.Same H1 H → ∀ (Z : V → Hp → Prop) (N0 : Hp → Prop), (∀ y H4, L2.Same H H4 → R H4 y z → Z y H4) →
      g x (wipe σ vs) H fun σ2 H2 => wipe σ2 vs = wipe σ vs ∧ tt σ2 H2 fun b H3 => if b = true then te σ2 H3 Z else N0 H3)
    (fin : ∀ H acc, L2.Same H1 H → H D = some (.lst acc) → Paired (R H) acc as → Qd H) :
    ∃ W : Nat → Nat → Hp → Prop, (∃ m, W 0 m (upd H1 D (.lst []))) ∧ ∀ i m H, W i m H →
      ((Itl K a).stop i H ∧ Qd H) ∨ ((Itl K a).go i H ∧ ∃ Nx : Hp → Prop, (∀ H', Nx H' → ∃ m', m' < m ∧ W (i + 1) m' H') ∧ ∀ x H', (Itl K a).yld i H x H' → g x (wipe σ vs) H' fun σ2 H2 => wipe σ2 vs = wipe σ vs ∧ tt σ2 H2 fun b H3 =>
        if b = true then te σ2 H3 fun y H4 => ∃ acc, H4 D = some (.lst acc) ∧ acc.length < sizeLine ∧ Nx (upd H4 D (.lst (acc ++ [y]))) else Nx H3) := by
  refine lc_list (K := K) (a := a) (xs := xs) (fun i H => L2.Same H1 H ∧ ∃ acc, H D = some (.lst acc) ∧ acc.length = i ∧ Paired (R H) acc (as.take i))
    ⟨fun b o e => by rw [upd_ne (ne_of_none e hD)]; exact e, [], upd_same, rfl, by rw [List.take_zero]; exact .nil⟩ (fun i H _ h => h.1.seq hx) ?_ ?_
  · rintro i x H hi ⟨s1, acc, hd, hn, pr⟩
    have hlt : i < as.length := hl ▸ (List.getElem?_eq_some_iff.mp hi).1
    obtain ⟨z, hz'⟩ : ∃ z, as[i]? = some z := ⟨_, List.getElem?_eq_getElem hlt⟩
    refine step i x z H acc hi hz' hd s1 _ _ fun y H4 s2 r => ?_
    have hd4 := s2 _ _ hd
    refine ⟨acc, hd4, by omega, Same.of_keep hD (L2.Same.trans s1 s2) keep_upd, acc ++ [y], upd_same, by rw [List.length_append, hn]; rfl, ?_⟩
    rw [take_snoc hz']
    refine paired_snoc (paired_imp (fun y z q => ?_) pr) (stab _ _ _ _ _ _ hd4 upd_same keep_upd r)
    refine stab _ _ _ _ _ _ hd upd_same (fun b o e n => ?_) q
    rw [upd_ne n]
    exact s2 b o e
  · rintro H ⟨s1, acc, hd, hn, pr⟩
    rw [List.take_of_length_le (by omega)] at pr
    exact fin H acc s1 hd pr
end

/-! ### numbers by twos -/
def numOf (n : Sw73.Note) : List Int := [n.key.getD (-1), n.long]
def flat (t : Sw73.Tune) : List Int := t.flatMap numOf
theorem flat_even : ∀ (t : Sw73.Tune) (k : Nat), (flat t)[2 * k]? = t[k]?.map fun n => n.key.getD (-1)
  | [], k => by simp [flat]
  | n :: t, 0 => by simp [flat, numOf]
  | n :: t, k + 1 => by
    have ih := flat_even t k
    show (n.key.getD (-1) :: (n.long : Int) :: flat t)[2 * (k + 1)]? = _
    rw [show 2 * (k + 1) = 2 * k + 1 + 1 by omega, List.getElem?_cons_succ, List.getElem?_cons_succ, ih, List.getElem?_cons_succ]
theorem flat_odd : ∀ (t : Sw73.Tune) (k : Nat), (flat t)[2 * k + 1]? = t[k]?.map fun n => (n.long : Int)
  | [], k => by simp [flat]
  | n :: t, 0 => by simp [flat, numOf]
  | n :: t, k + 1 => by
    have ih := flat_odd t k
    show (n.key.getD (-1) :: (n.long : Int) :: flat t)[2 * (k + 1) + 1]? = _
    rw [show 2 * (k + 1) + 1 = 2 * k + 1 + 1 + 1 by omega, List.getElem?_cons_succ, List.getElem?_cons_succ, ih, List.getElem?_cons_succ]
theorem flat_length : ∀ t : Sw73.Tune, (flat t).length = 2 * t.length
  | [] => rfl
  | n :: t => by
    have ih := flat_length t
    show (flat t).length + 1 + 1 = 2 * (t.length + 1)
    omega
theorem range_get {α β : Type} (f : α → β) (l : List α) : (List.range l.length).filterMap (fun k => l[k]?.map f) = l.map f := by
  induction l with
  | nil => rfl
  | cons x l ih =>
    rw [List.length_cons, List.range_succ_eq_map, List.filterMap_cons]
    simp only [List.getElem?_cons_zero, Option.map_some, List.filterMap_map, List.map_cons]
    congr 1
theorem pick_even (t : Sw73.Tune) : pickV ((flat t).map V.int) (some 0) none (some 2) = t.map fun n => V.int (n.key.getD (-1)) := by
  unfold pickV
  have hl : ((flat t).map V.int).length = 2 * t.length := by rw [List.length_map, flat_length]
  rw [hl]
  have hb : sliceBounds (some 0) none (some 2) (2 * t.length) = (0, ((2 * t.length : Nat) : Int), 2) := by
    simp [sliceBounds]
    omega
  rw [hb]
  have hr : sliceRange 0 ((2 * t.length : Nat) : Int) 2 = (List.range t.length).map fun k => 2 * k := by
    unfold sliceRange
    have hc : (if (2 : Int) > 0 then (if (0 : Int) < ((2 * t.length : Nat) : Int) then (((2 * t.length : Nat) : Int) - 0 + 2 - 1) / 2 else 0) else (if (0 : Int) > ((2 * t.length : Nat) : Int) then (0 - ((2 * t.length : Nat) : Int) - 2 - 1) / (-2) else 0)).toNat = t.length := by
      rw [if_pos (by decide)]
      split <;> omega
    simp only [hc]
    exact List.map_congr_left fun k _ => by omega
  rw [hr, List.filterMap_map]
  rw [← range_get (fun n : Sw73.Note => V.int (n.key.getD (-1))) t]
  refine congrArg (fun f => (List.range t.length).filterMap f) ?_
  funext k
  show ((flat t).map V.int)[2 * k]? = _
  rw [List.getElem?_map, flat_even, Option.map_map]
  rfl
theorem pick_odd (t : Sw73.Tune) : pickV ((flat t).map V.int) (some 1) none (some 2) = t.map fun n => V.int n.long := by
  unfold pickV
  have hl : ((flat t).map V.int).length = 2 * t.length := by rw [List.length_map, flat_length]
  rw [hl]
  cases t with
  | nil => rfl
  | cons x r =>
    generalize hT : (x :: r : Sw73.Tune) = t
    have h1 : 1 ≤ t.length := by rw [← hT]; exact Nat.succ_le_succ (Nat.zero_le _)
    have hb : sliceBounds (some 1) none (some 2) (2 * t.length) = (1, ((2 * t.length : Nat) : Int), 2) := by
      simp [sliceBounds]
      omega
    rw [hb]
    have hr : sliceRange 1 ((2 * t.length : Nat) : Int) 2 = (List.range t.length).map fun k => 2 * k + 1 := by
      unfold sliceRange
      have hc : (if (2 : Int) > 0 then (if (1 : Int) < ((2 * t.length : Nat) : Int) then (((2 * t.length : Nat) : Int) - 1 + 2 - 1) / 2 else 0) else (if (1 : Int) > ((2 * t.length : Nat) : Int) then (1 - ((2 * t.length : Nat) : Int) - 2 - 1) / (-2) else 0)).toNat = t.length := by
        rw [if_pos (by decide)]
        split <;> omega
      simp only [hc]
      exact List.map_congr_left fun k _ => by omega
    rw [hr, List.filterMap_map]
    rw [← range_get (fun n : Sw73.Note => V.int n.long) t]
    refine congrArg (fun f => (List.range t.length).filterMap f) ?_
    funext k
    show ((flat t).map V.int)[2 * k + 1]? = _
    rw [List.getElem?_map, flat_odd, Option.map_map]
    rfl
theorem zip_maps {α β γ : Type} (f : α → β) (g : α → γ) : ∀ l : List α, (l.map f).zip (l.map g) = l.map fun x => (f x, g x)
  | [] => rfl
  | x :: l => by
    have ih := zip_maps f g l
    simp only [List.map_cons, List.zip_cons_cons, ih]
theorem paired_mapR {α β γ : Type} {F : α → γ → Prop} (f : β → γ) : ∀ {xs : List α} {ys : List β}, Paired F xs (ys.map f) → Paired (fun a b => F a (f b)) xs ys
  | [], [], _ => .nil
  | _ :: _, [], h => nomatch h
  | [], _ :: _, h => nomatch h
  | _ :: _, _ :: _, .cons r t => .cons r (paired_mapR f t)

section
variable {P : Program} {w : World} {K : PySem.W.Frag} {mg : Str → Option Value} {base : Heap} {c : Cs}
/-- a pair of a note's numbers -/
def PairAt (H : Hp) (q : Addr) (n : Sw73.Note) : Prop := H q = some (.tup [.int (n.key.getD (-1)), .int n.long])
def spPairs (K : PySem.W.Frag) : Sp := fun vs H Q _ => ∃ (a : Addr) (t : Sw73.Tune), vs = [.ref a] ∧ SqL K H a ((flat t).map V.int) ∧
  ∀ (p : Addr) (H' : Hp), L2.Same H H' → RefsAt PairAt H' p t → Q (.ref p) H'
theorem sc_pairs_of : FnScope ["numbers"] ["numbers"] (defScope s_pairs_of) := ⟨rfl, rfl, rfl, by decide +kernel, rfl, by decide +kernel, by decide +kernel⟩
theorem ok_pairs_of {f : Addr} {fd : FuncData} (F : Fun K "pairs_of" "pairs_of" s_pairs_of f fd) (T : Txt K mg c) : FnOk P w K mg base CX0 1 f fd ["numbers"] (spPairs K) := by
  refine F.ok sc_pairs_of (fun vs H Q E h => ?_) (fun cdv A outer s H vs Q E hr h => ?_)
  · obtain ⟨a, t, rfl, _⟩ := h
    rfl
  · obtain ⟨a, t, rfl, ha, q⟩ := h
    refine ⟨_, (pss_one (ps_ret (pe_listZip rfl (by rfl) T.b_zip (by rfl) T.b_list (by decide +kernel) (pa_cons (pe_slice3 (pv 0) (po_some pe_int) po_none (po_some pe_int)) (pa_cons (pe_slice3 (pv 0) (po_some pe_int) po_none (po_some pe_int)) pa_nil))))), ?_⟩
    refine m_ret ?_
    show tListZip _ _ _ _ _
    refine ⟨_, rfl, 0, rfl, 2, rfl, a, _, rfl, ha, by decide, fun p1 h1 => ?_⟩
    refine ⟨_, rfl, 1, rfl, 2, rfl, a, _, rfl, (same_upd h1).seq ha, by decide, fun p2 h2 => ?_⟩
    refine ⟨p1, p2, _, _, rfl, SqL.of (same_upd h2 _ _ upd_same), SqL.of upd_same, ?_, fun H' p ts s3 n3 nt hp pr => ?_⟩
    · rw [pick_even, pick_odd, List.length_map, List.length_map]
    · rw [pick_even, pick_odd, zip_maps] at pr
      exact q p H' (L2.Same.trans (L2.Same.trans (same_upd h1) (same_upd h2)) s3) ⟨ts, hp, paired_mapR (fun n : Sw73.Note => (V.int (n.key.getD (-1)), V.int n.long)) pr⟩
def spIsNote : Sp := fun vs H Q _ => ∃ k l : Int, vs = [.int k, .int l] ∧ Q (.bl (decide (-1 ≤ k) && (decide (k ≤ 127) && (decide (1 ≤ l) && decide (l ≤ 1000))))) H
theorem sc_is_note : FnScope ["key", "long"] ["key", "long"] (defScope s_is_note) := ⟨rfl, rfl, rfl, by decide +kernel, rfl, by decide +kernel, by decide +kernel⟩
theorem ok_is_note {f : Addr} {fd : FuncData} (F : Fun K "is_note" "is_note" s_is_note f fd) (T : Txt K mg c) : FnOk P w K mg base CX0 1 f fd ["key", "long"] spIsNote := by
  refine F.ok sc_is_note (fun vs H Q E h => ?_) (fun cdv A outer s H vs Q E hr h => ?_)
  · obtain ⟨k, l, rfl, _⟩ := h
    rfl
  · obtain ⟨k, l, rfl, q⟩ := h
    refine ⟨_, (pss_one (ps_ret (pe_and (pe_cmpR op_le (pe_cst T.c_REST (by rfl)) (pv 0) (nomark _)) (pe_and (pe_cmpR op_le (pv 0) (pe_cst T.c_MOST_KEY (by rfl)) (nomark _)) (pe_and (pe_cmpR op_le pe_int (pv 1) (nomark _)) (pe_one (pe_cmpR op_le (pv 1) (pe_cst T.c_MOST_LONG (by rfl)) (nomark _)))))))), ?_⟩
    exact st_ret (v_and (v_le val_c (val_var rfl)) (v_and (v_le (val_var rfl) val_c) (v_and (v_le val_c (val_var rfl)) (v_le (val_var rfl) val_c)))) q
def NatKeys (t : Sw73.Tune) : Prop := ∀ n ∈ t, ∀ k, n.key = some k → 0 ≤ k
theorem note_ok {n : Sw73.Note} (h : ∀ k, n.key = some k → 0 ≤ k) : (decide (-1 ≤ n.key.getD (-1)) && (decide (n.key.getD (-1) ≤ 127) && (decide (1 ≤ (n.long : Int)) && decide ((n.long : Int) ≤ 1000)))) = Sw73.noteOk n := by
  obtain ⟨k, l⟩ := n
  cases k with
  | none =>
    show (decide ((-1 : Int) ≤ -1) && (decide ((-1 : Int) ≤ 127) && (decide (1 ≤ (l : Int)) && decide ((l : Int) ≤ 1000)))) = (decide (1 ≤ l) && (decide (l ≤ 1000) && true))
    rw [Bool.eq_iff_iff]
    simp only [Bool.and_eq_true, decide_eq_true_eq, and_true]
    omega
  | some k =>
    have := h k rfl
    show (decide (-1 ≤ k) && (decide (k ≤ 127) && (decide (1 ≤ (l : Int)) && decide ((l : Int) ≤ 1000)))) = (decide (1 ≤ l) && (decide (l ≤ 1000) && (decide (0 ≤ k) && decide (k ≤ 127))))
    rw [Bool.eq_iff_iff]
    simp only [Bool.and_eq_true, decide_eq_true_eq]
    omega
def spIsTune (K : PySem.W.Frag) : Sp := fun vs H Q _ => ∃ (a : Addr) (t : Sw73.Tune), vs = [.ref a] ∧ SqL K H a ((flat t).map V.int) ∧ NatKeys t ∧ t.length ≤ 1000 ∧ ∀ H', L2.Same H H' → Q (.bl (Sw73.tuneOk t)) H'
theorem all_notes : ∀ {t : Sw73.Tune} {acc : List V} {H : Hp}, Paired (fun (y : V) (n : Sw73.Note) => y = .bl (Sw73.noteOk n)) acc t → acc = (t.map Sw73.noteOk).map V.bl
  | [], _, _, .nil => rfl
  | _ :: t, _, H, .cons r h => by
    rw [r, all_notes (H := H) h]
    rfl
theorem sc_is_tune : FnScope ["numbers", "some", "key", "long"] ["numbers"] (defScope s_is_tune) := ⟨rfl, rfl, rfl, by decide +kernel, rfl, by decide +kernel, by decide +kernel⟩
theorem ok_is_tune {f : Addr} {fd : FuncData} (F : Fun K "is_tune" "is_tune" s_is_tune f fd) (T : Txt K mg c) (D_pairs_of : Df P w K mg base "pairs_of" 1 ["numbers"] (spPairs K)) (D_is_note : Df P w K mg base "is_note" 1 ["key", "long"] spIsNote) :
    FnOk P w K mg base CX0 2 f fd ["numbers"] (spIsTune K) := by
  refine F.ok sc_is_tune (fun vs H Q E h => ?_) (fun cdv A outer s H vs Q E hr h => ?_)
  · obtain ⟨a, t, rfl, _⟩ := h
    rfl
  · obtain ⟨a, t, rfl, ha, nk, hz, q⟩ := h
    refine ⟨_, (pss_cons (ps_set (i := 1) sc_is_tune.nd rfl (by first | exact Or.inl rfl | exact Or.inr rfl) (pe_df D_pairs_of (hr.mono (by decide)) (by rfl) (pa_cons (pv 0) pa_nil)))
    (pss_one (ps_ret (pe_and (pe_cmpR op_le (pe_callB call_len_seq (by rfl) T.b_len PySem.boot_len (pa_cons (pv 1) pa_nil)) (pe_cst T.c_MOST_NOTES (by rfl)) (nomark _)) (pe_one (pe_callB (cr_all rfl) (by rfl) T.b_all (by decide +kernel) (pa_cons (pe_lc (own := [("key", 2), ("long", 3)]) (g := gTup K 2 (gCons (gName 2) (gCons (gName 3) gNil))) (tt := tYes) (by rfl) sc_is_tune.nd (pi_list (pv 1)) (blkOk_by (by kernel_rfl)) (fun _ _ _ _ _ => (pg_tup rfl (pgs_cons (pg_name (i := 2) sc_is_tune.nd rfl (by first | exact Or.inl rfl | exact Or.inr rfl)) (pgs_cons (pg_name (i := 3) sc_is_tune.nd rfl (by first | exact Or.inl rfl | exact Or.inr rfl)) pgs_nil)))) (fun _ _ _ _ _ => pts_nil) (fun _ _ _ _ _ => (pe_df D_is_note (hr.mono (by decide)) (by rfl) (pa_cons (pv 2) (pa_cons (pv 3) pa_nil))))) pa_nil))))))), ?_⟩
    refine st_seq ?_
    refine m_set ?_
    refine v_call (va_cons (val_var rfl) va_nil) ⟨a, t, rfl, ha, fun p H1 s1 r1 => ?_⟩
    dsimp only
    obtain ⟨ps, hp, pr⟩ := r1
    have lp := Paired.length pr
    refine m_ret ?_
    refine v_le (v_len (K := K) (p := p) (val_var rfl) (SqL.of hp) fun Q q => ⟨p, _, rfl, .inl (SqL.of hp), q⟩) val_c _ ⟨_, rfl, ?_⟩
    have e1 : decide (((ps.map V.ref).length : Int) ≤ 24) = decide (t.length ≤ Sw73.NOTES) := by
      rw [List.length_map, lp]
      unfold Sw73.NOTES
      rw [Bool.eq_iff_iff, decide_eq_true_eq, decide_eq_true_eq]
      omega
    rw [e1]
    refine ite2 (fun hb => ?_) (fun hb => ?_)
    · refine ⟨_, rfl, p, rfl, ⟨_, SqL.of hp⟩, fun D hD => lc_map (K := K) t (fun _ y n => y = .bl (Sw73.noteOk n)) hD (SqL.of hp) (by rw [List.length_map, lp]) (by rw [List.length_map, lp]; exact small1000 hz) (fun _ _ _ _ _ _ _ _ _ r => r) ?_ ?_⟩
      · intro i x n H2 acc hx hn hd s2 Z N0 hZ
        obtain ⟨y, n', hy, rfl, hn', hq⟩ := paired_at pr hx
        rw [hn] at hn'
        cases hn'
        refine ⟨y, _, rfl, SqT.of (s2 _ _ hq), rfl, _, _, rfl, _, _, rfl, rfl, ?_⟩
        refine ⟨rfl, m_yes ?_⟩
        refine v_call (va_cons (val_var rfl) (va_cons (val_var rfl) va_nil)) ⟨_, _, rfl, hZ _ _ (L2.Same.refl _) ?_⟩
        exact congrArg V.bl (note_ok (nk n (List.mem_of_getElem? hn)))
      · intro H2 acc s2 hd pr2
        rw [all_notes (H := H2) pr2] at hd
        refine ⟨D, _, rfl, SqL.of hd, ?_⟩
        have e2 : (t.map Sw73.noteOk).all id = Sw73.tuneOk t := by
          unfold Sw73.tuneOk
          rw [hb, Bool.true_and, List.all_map]
          rfl
        rw [e2]
        exact q H2 (L2.Same.trans s1 s2)
    · have e2 : Sw73.tuneOk t = false := by
        unfold Sw73.tuneOk
        rw [Bool.eq_false_iff.mpr hb, Bool.false_and]
      have := q H1 s1
      rw [e2] at this
      exact this
end
end Sk

/-! Tunes made, moved; costs, families made. -/
namespace Sk
open PySem PySem.Spec PyProof.Rows L2 SkR
section
variable {P : Program} {w : World} {K : PySem.W.Frag} {mg : Str → Option Value} {base : Heap} {c : Cs}
def spNoteOf (c : Cs) : Sp := fun vs H Q _ => ∃ n : Sw73.Note, vs = [.int (n.key.getD (-1)), .int n.long] ∧ (∀ k, n.key = some k → 0 ≤ k) ∧ ∀ (q : Addr) (H' : Hp), L2.Same H H' → NoteAt c H' q n → Q (.ref q) H'
theorem sc_note_of : FnScope ["key", "long"] ["key", "long"] (defScope s_note_of) := ⟨rfl, rfl, rfl, by decide +kernel, rfl, by decide +kernel, by decide +kernel⟩
theorem ok_note_of {f : Addr} {fd : FuncData} (F : Fun K "note_of" "note_of" s_note_of f fd) (T : Txt K mg c) (M_Note : Kl P w K mg base "Note" c.Note 1 ["self", "key", "long"] (spNoteIni c)) : FnOk P w K mg base CX0 3 f fd ["key", "long"] (spNoteOf c) := by
  refine F.ok sc_note_of (fun vs H Q E h => ?_) (fun cdv A outer s H vs Q E hr h => ?_)
  · obtain ⟨n, rfl, _⟩ := h
    rfl
  · obtain ⟨⟨nk, nl⟩, rfl, hk, q⟩ := h
    refine ⟨_, (pss_cons (ps_if (pt_cmpR op_eq (pv 0) (pe_cst T.c_REST (by rfl)) (nomark _)) (pss_one (ps_ret (pe_mk M_Note (hr.mono (by decide)) (by rfl) (pa_cons pe_non (pa_cons (pv 1) pa_nil))))) pss_nil)
    (pss_one (ps_ret (pe_mk M_Note (hr.mono (by decide)) (by rfl) (pa_cons (pv 0) (pa_cons (pv 1) pa_nil)))))), ?_⟩
    refine st_seq ?_
    cases nk with
    | none =>
      refine st_yes (ans_eq (val_var rfl) val_c rfl rfl) ?_
      refine m_ret ?_
      exact v_make (va_cons val_c (va_cons (val_var rfl) va_nil)) rfl fun x dx2 H2 s2 hx e => q x H2 s2 ⟨dx2, e⟩
    | some k =>
      have h0 := hk k rfl
      have hne : decide (V.int k = V.int (-1)) = false := decide_eq_false (fun e => by cases e; omega)
      refine st_no (ans_eq (val_var rfl) val_c rfl hne) ?_
      refine st_next ?_
      dsimp only
      refine m_ret ?_
      exact v_make (va_cons (val_var rfl) (va_cons (val_var rfl) va_nil)) rfl fun x dx2 H2 s2 hx e => q x H2 s2 ⟨dx2, e⟩
theorem note_stab {c : Cs} {D : Addr} {H H' : Hp} {acc acc' : List V} {y : V} {n : Sw73.Note} (hd : H D = some (.lst acc)) (hd' : H' D = some (.lst acc')) (k : Keep D H H') (r : ∃ q : Addr, y = .ref q ∧ NoteAt c H q n) : ∃ q : Addr, y = .ref q ∧ NoteAt c H' q n := by
  obtain ⟨q, e, dx, h⟩ := r
  exact ⟨q, e, dx, k _ _ h (ne_of h hd (by intro z; cases z))⟩
def spTuneOf (K : PySem.W.Frag) (c : Cs) : Sp := fun vs H Q _ => ∃ (a : Addr) (t : Sw73.Tune), vs = [.ref a] ∧ SqL K H a ((flat t).map V.int) ∧ NatKeys t ∧ t.length ≤ 1000 ∧
  ∀ (p : Addr) (H' : Hp), L2.Same H H' → H p = none → TuneAt c H' p t → Q (.ref p) H'
theorem sc_tune_of : FnScope ["numbers", "key", "long"] ["numbers"] (defScope s_tune_of) := ⟨rfl, rfl, rfl, by decide +kernel, rfl, by decide +kernel, by decide +kernel⟩
theorem ok_tune_of {f : Addr} {fd : FuncData} (F : Fun K "tune_of" "tune_of" s_tune_of f fd) (T : Txt K mg c) (D_pairs_of : Df P w K mg base "pairs_of" 1 ["numbers"] (spPairs K)) (D_note_of : Df P w K mg base "note_of" 3 ["key", "long"] (spNoteOf c)) :
    FnOk P w K mg base CX0 4 f fd ["numbers"] (spTuneOf K c) := by
  refine F.ok sc_tune_of (fun vs H Q E h => ?_) (fun cdv A outer s H vs Q E hr h => ?_)
  · obtain ⟨a, t, rfl, _⟩ := h
    rfl
  · obtain ⟨a, t, rfl, ha, nk, hz, q⟩ := h
    refine ⟨_, (pss_one (ps_ret (pe_lc (own := [("key", 1), ("long", 2)]) (g := gTup K 2 (gCons (gName 1) (gCons (gName 2) gNil))) (tt := tYes) (by rfl) sc_tune_of.nd (pi_list (pe_df D_pairs_of (hr.mono (by decide)) (by rfl) (pa_cons (pv 0) pa_nil))) (blkOk_by (by kernel_rfl)) (fun _ _ _ _ _ => (pg_tup rfl (pgs_cons (pg_name (i := 1) sc_tune_of.nd rfl (by first | exact Or.inl rfl | exact Or.inr rfl)) (pgs_cons (pg_name (i := 2) sc_tune_of.nd rfl (by first | exact Or.inl rfl | exact Or.inr rfl)) pgs_nil)))) (fun _ _ _ _ _ => pts_nil) (fun _ _ _ _ _ => (pe_df D_note_of (hr.mono (by decide)) (by rfl) (pa_cons (pv 1) (pa_cons (pv 2) pa_nil))))))), ?_⟩
    refine m_ret ?_
    refine v_call (va_cons (val_var rfl) va_nil) ⟨a, t, rfl, ha, fun p H1 s1 r1 => ?_⟩
    obtain ⟨ps, hp, pr⟩ := r1
    have lp := Paired.length pr
    refine ⟨p, rfl, ⟨_, SqL.of hp⟩, fun D hD => lc_map (K := K) t (fun H y n => ∃ q : Addr, y = .ref q ∧ NoteAt c H q n) hD (SqL.of hp) (by rw [List.length_map, lp]) (by rw [List.length_map, lp]; exact small1000 hz) (fun _ _ _ _ _ _ hd hd' k r => note_stab hd hd' k r) ?_ ?_⟩
    · intro i x n H2 acc hx hn hd s2 Z N0 hZ
      obtain ⟨y, n', hy, rfl, hn', hq⟩ := paired_at pr hx
      rw [hn] at hn'
      cases hn'
      refine ⟨y, _, rfl, SqT.of (s2 _ _ hq), rfl, _, _, rfl, _, _, rfl, rfl, ?_⟩
      refine ⟨rfl, m_yes ?_⟩
      exact v_call (va_cons (val_var rfl) (va_cons (val_var rfl) va_nil)) ⟨n, rfl, nk n (List.mem_of_getElem? hn), fun q H3 s3 r => hZ _ _ s3 ⟨q, rfl, r⟩⟩
    · intro H2 acc s2 hd pr2
      obtain ⟨qs, e, pr3⟩ := refs_of pr2
      rw [e] at hd
      exact q D H2 (L2.Same.trans s1 s2) (s1.free hD) ⟨qs, hd, pr3⟩
def spMoved (c : Cs) : Sp := fun vs H Q _ => ∃ (a : Addr) (far : Int) (t : Sw73.Tune), vs = [.ref a, .int far] ∧ TuneAt c H a t ∧ t.length ≤ 1000 ∧ ∀ (p : Addr) (H' : Hp), L2.Same H H' → TuneAt c H' p (Sw73.moved far t) → Q (.ref p) H'
theorem paired_mapL {α β γ : Type} {F : α → γ → Prop} (f : β → γ) : ∀ {xs : List α} {ys : List β}, Paired (fun a b => F a (f b)) xs ys → Paired F xs (ys.map f)
  | _, _, .nil => .nil
  | _, _, .cons r t => .cons r (paired_mapL f t)
theorem sc_moved : FnScope ["tune", "far", "note"] ["tune", "far"] (defScope s_moved) := ⟨rfl, rfl, rfl, by decide +kernel, rfl, by decide +kernel, by decide +kernel⟩
theorem ok_moved {f : Addr} {fd : FuncData} (F : Fun K "moved" "moved" s_moved f fd) (T : Txt K mg c) (D_Note_moved : Mt P w K mg base c.Note "moved" 3 ["self", "far"] (spNoteMoved c)) :
    FnOk P w K mg base CX0 4 f fd ["tune", "far"] (spMoved c) := by
  refine F.ok sc_moved (fun vs H Q E h => ?_) (fun cdv A outer s H vs Q E hr h => ?_)
  · obtain ⟨a, far, t, rfl, _⟩ := h
    rfl
  · obtain ⟨a, far, t, rfl, ⟨ps, hp, pr⟩, hz, q⟩ := h
    have lp := Paired.length pr
    refine ⟨_, (pss_one (ps_ret (pe_lc (own := [("note", 2)]) (g := gName 2) (tt := tYes) (te := (tMeth c.Note "moved" _ [] E0 (tVar 2) (tCons (tVar 1) tNil))) (by rfl) sc_moved.nd (pi_list (pv 0)) (blkOk_by (by kernel_rfl)) (fun _ _ _ _ _ => (pg_name (i := 2) sc_moved.nd rfl (by first | exact Or.inl rfl | exact Or.inr rfl))) (fun _ _ _ _ _ => pts_nil) (fun _ _ _ _ _ => (pe_mt D_Note_moved T.cl_Note (hr.mono (by decide)) (pv 2) (pa_cons (pv 1) pa_nil)))))), ?_⟩
    refine m_ret ?_
    refine ⟨_, rfl, a, rfl, ⟨_, SqL.of hp⟩, fun D hD => lc_map (K := K) t (fun H y n => ∃ q : Addr, y = .ref q ∧ NoteAt c H q { n with key := n.key.map fun a => a + far }) hD (SqL.of hp) (by rw [List.length_map, lp]) (by rw [List.length_map, lp]; exact small1000 hz) (fun _ _ _ _ _ _ hd hd' k r => note_stab hd hd' k r) ?_ ?_⟩
    · intro i x n H2 acc hx hn hd s2 Z N0 hZ
      obtain ⟨y, n', hy, rfl, hn', hq⟩ := paired_at pr hx
      rw [hn] at hn'
      cases hn'
      refine ⟨rfl, m_yes ?_⟩
      obtain ⟨dx, hq'⟩ := hq.mono s2
      exact v_meth (val_var rfl) hq' rfl (va_cons (val_var rfl) va_nil) ⟨y, far, n, rfl, ⟨dx, hq'⟩, fun q H3 s3 r => hZ _ _ s3 ⟨q, rfl, r⟩⟩
    · intro H2 acc s2 hd pr2
      obtain ⟨qs, e, pr3⟩ := refs_of (F := fun (q : Addr) (n : Sw73.Note) => NoteAt c H2 q { n with key := n.key.map fun a => a + far }) pr2
      rw [e] at hd
      exact q D H2 s2 ⟨qs, hd, paired_mapL (F := NoteAt c H2) (fun n : Sw73.Note => { n with key := n.key.map fun a => a + far }) pr3⟩
def spCostsIni (c : Cs) : Sp := spIni c.Costs 5 fun us => fCosts (us.getD 0 .non) (us.getD 1 .non) (us.getD 2 .non) (us.getD 3 .non) (us.getD 4 .non)
theorem scCosts_init : FnScope ["self", "key", "rest", "long", "gap", "more"] ["self", "key", "rest", "long", "gap", "more"] (defScope sCosts_init) := ⟨rfl, rfl, rfl, by decide +kernel, rfl, by decide +kernel, by decide +kernel⟩
theorem ok_Costs_init {f : Addr} {fd : FuncData} (F : Fun K "__init__" "Costs.__init__" sCosts_init f fd) (T : Txt K mg c) : FnOk P w K mg base CX0 1 f fd ["self", "key", "rest", "long", "gap", "more"] (spCostsIni c) := by
  refine F.ok scCosts_init (fun vs H Q E h => ?_) (fun cdv A outer s H vs Q E hr h => ?_)
  · obtain ⟨p, dx, us, rfl, hl, _⟩ := h
    simp [hl]
  · obtain ⟨p, dx, us, rfl, hl, hp, k⟩ := h
    obtain ⟨u1, u2, u3, u4, u5, rfl⟩ : ∃ u1 u2 u3 u4 u5, us = [u1, u2, u3, u4, u5] := by
      match us, hl with
      | [u1, u2, u3, u4, u5], _ => exact ⟨u1, u2, u3, u4, u5, rfl⟩
    refine ⟨_, (pss_cons (ps_fld (pv 0) (pv 1) rfl)
    (pss_cons (ps_fld (pv 0) (pv 2) rfl)
    (pss_cons (ps_fld (pv 0) (pv 3) rfl)
    (pss_cons (ps_fld (pv 0) (pv 4) rfl)
    (pss_one (ps_fld (pv 0) (pv 5) rfl)))))), ?_⟩
    refine st_seq ?_
    refine st_fld (val_var rfl) (val_var rfl) hp T.cl_Costs T.n_Costs_key (by show 0 < 1000; decide) ?_
    refine st_seq ?_
    refine st_fld (val_var rfl) (val_var rfl) upd_same T.cl_Costs T.n_Costs_rest (by show 1 < 1000; decide) ?_
    rw [upd_upd]
    refine st_seq ?_
    refine st_fld (val_var rfl) (val_var rfl) upd_same T.cl_Costs T.n_Costs_long (by show 2 < 1000; decide) ?_
    rw [upd_upd]
    refine st_seq ?_
    refine st_fld (val_var rfl) (val_var rfl) upd_same T.cl_Costs T.n_Costs_gap (by show 3 < 1000; decide) ?_
    rw [upd_upd]
    refine st_fld (val_var rfl) (val_var rfl) upd_same T.cl_Costs T.n_Costs_more (by show 4 < 1000; decide) ?_
    rw [upd_upd]
    exact k
def spAheadIni (c : Cs) : Sp := spIni c.Ahead 3 fun us => fAhead (us.getD 0 .non) (us.getD 1 .non) (us.getD 2 .non)
theorem scAhead_init : FnScope ["self", "least", "many", "step"] ["self", "least", "many", "step"] (defScope sAhead_init) := ⟨rfl, rfl, rfl, by decide +kernel, rfl, by decide +kernel, by decide +kernel⟩
theorem ok_Ahead_init {f : Addr} {fd : FuncData} (F : Fun K "__init__" "Ahead.__init__" sAhead_init f fd) (T : Txt K mg c) : FnOk P w K mg base CX0 1 f fd ["self", "least", "many", "step"] (spAheadIni c) := by
  refine F.ok scAhead_init (fun vs H Q E h => ?_) (fun cdv A outer s H vs Q E hr h => ?_)
  · obtain ⟨p, dx, us, rfl, hl, _⟩ := h
    simp [hl]
  · obtain ⟨p, dx, us, rfl, hl, hp, k⟩ := h
    obtain ⟨u1, u2, u3, rfl⟩ : ∃ u1 u2 u3, us = [u1, u2, u3] := by
      match us, hl with
      | [u1, u2, u3], _ => exact ⟨u1, u2, u3, rfl⟩
    refine ⟨_, (pss_cons (ps_fld (pv 0) (pv 1) rfl)
    (pss_cons (ps_fld (pv 0) (pv 2) rfl)
    (pss_one (ps_fld (pv 0) (pv 3) rfl)))), ?_⟩
    refine st_seq ?_
    refine st_fld (val_var rfl) (val_var rfl) hp T.cl_Ahead T.n_Ahead_least (by show 0 < 1000; decide) ?_
    refine st_seq ?_
    refine st_fld (val_var rfl) (val_var rfl) upd_same T.cl_Ahead T.n_Ahead_many (by show 1 < 1000; decide) ?_
    rw [upd_upd]
    refine st_fld (val_var rfl) (val_var rfl) upd_same T.cl_Ahead T.n_Ahead_step (by show 2 < 1000; decide) ?_
    rw [upd_upd]
    exact k
def spCounted (K : PySem.W.Frag) : Sp := fun vs H Q _ => ∃ (a : Addr) (xs : List V), vs = [.ref a] ∧ H a = some (.lst xs) ∧ xs.length < 1000000 ∧ ∀ (p : Addr) (H' : Hp), L2.Same H H' → H p = none → H' p = some (.lst (.int xs.length :: xs)) → Q (.ref p) H'
theorem sc_counted : FnScope ["row"] ["row"] (defScope s_counted) := ⟨rfl, rfl, rfl, by decide +kernel, rfl, by decide +kernel, by decide +kernel⟩
theorem ok_counted {f : Addr} {fd : FuncData} (F : Fun K "counted" "counted" s_counted f fd) (T : Txt K mg c) : FnOk P w K mg base CX0 1 f fd ["row"] (spCounted K) := by
  refine F.ok sc_counted (fun vs H Q E h => ?_) (fun cdv A outer s H vs Q E hr h => ?_)
  · obtain ⟨a, xs, rfl, _⟩ := h
    rfl
  · obtain ⟨a, xs, rfl, ha, hz, q⟩ := h
    refine ⟨_, (pss_one (ps_ret (pe_op op_cat (pe_lst (pa_cons (pe_callB call_len_seq (by rfl) T.b_len PySem.boot_len (pa_cons (pv 0) pa_nil)) pa_nil)) (pv 0)))), ?_⟩
    refine m_ret ?_
    refine ⟨_, rfl, a, xs, rfl, .inl (SqL.of ha), by show 1 ≤ sizeLine; decide, fun p1 h1 => ?_⟩
    refine ⟨_, rfl, p1, a, _, _, rfl, rfl, upd_same, same_upd h1 _ _ ha, ?_, fun p2 h2 => ?_⟩
    · show 1 + xs.length ≤ sizeLine
      have := line63
      rw [sizeLine_eq]
      omega
    · exact q p2 _ (L2.Same.trans (same_upd h1) (same_upd h2)) ((same_upd h1).free h2) upd_same
end
end Sk

/-! The cheapest way, place by place: plain Lean, no program. -/
namespace SkM
open Sw73

/-! ### the table's cells -/
def rowTo (c : Costs) (s t : Tune) (rows : List (List Best)) (n k : Nat) : List Best := (List.range k).foldl (fun r m => r ++ [cell c s t rows r n m]) []
def rowsTo (c : Costs) (s t : Tune) (k : Nat) : List (List Best) := (List.range k).foldl (fun rows n => rows ++ [rowOf c s t rows n]) []
def G (c : Costs) (s t : Tune) (n m : Nat) : Best := cell c s t (rowsTo c s t n) (rowTo c s t (rowsTo c s t n) n m) n m
theorem foldl_grow {α : Type} (f : List α → Nat → α) (k : Nat) : (List.range (k + 1)).foldl (fun r m => r ++ [f r m]) [] = (List.range k).foldl (fun r m => r ++ [f r m]) [] ++ [f ((List.range k).foldl (fun r m => r ++ [f r m]) []) k] := by
  rw [List.range_succ, List.foldl_append]
  rfl
theorem grow_get {α : Type} (f : List α → Nat → α) (d : α) : ∀ {k m : Nat}, m < k → ((List.range k).foldl (fun r m => r ++ [f r m]) []).getD m d = f ((List.range m).foldl (fun r m => r ++ [f r m]) []) m := by
  have len : ∀ k, ((List.range k).foldl (fun r m => r ++ [f r m]) []).length = k := by
    intro k
    induction k with
    | zero => rfl
    | succ k ih => rw [foldl_grow, List.length_append, ih]; rfl
  intro k
  induction k with
  | zero => intro m h; omega
  | succ k ih =>
    intro m h
    rw [foldl_grow, List.getD_eq_getElem?_getD]
    by_cases e : m = k
    · subst e
      rw [List.getElem?_append_right (by rw [len]; exact Nat.le_refl _), len, Nat.sub_self]
      rfl
    · rw [List.getElem?_append_left (by rw [len]; omega), ← List.getD_eq_getElem?_getD]
      exact ih (by omega)
theorem grow_last {α : Type} (f : List α → Nat → α) (d : α) (k : Nat) : ((List.range (k + 1)).foldl (fun r m => r ++ [f r m]) []).getLastD d = f ((List.range k).foldl (fun r m => r ++ [f r m]) []) k := by
  rw [foldl_grow, List.getLastD_concat]
theorem row_get (c : Costs) (s t : Tune) (n : Nat) {k m : Nat} (h : m < k) : (rowTo c s t (rowsTo c s t n) n k).getD m nothing = G c s t n m := grow_get _ _ h
theorem rows_get (c : Costs) (s t : Tune) {k n m : Nat} (h : n < k) (hm : m ≤ t.length) : ((rowsTo c s t k).getD n []).getD m nothing = G c s t n m := by
  have e : (rowsTo c s t k).getD n [] = rowOf c s t (rowsTo c s t n) n := grow_get _ _ h
  rw [e]
  exact row_get c s t n (k := t.length + 1) (by omega)
theorem best_G (c : Costs) (s t : Tune) : best c s t = G c s t s.length t.length := by
  unfold best table
  rw [grow_last (fun rows n => rowOf c s t rows n)]
  unfold rowOf
  rw [grow_last (fun r m => cell c s t _ r s.length m)]
  rfl
/-- one step from a place -/
def option (c : Costs) (s t : Tune) (n m : Nat) (x : Step) : Option Best := if n < x.takes.1 ∨ m < x.takes.2 then none else
  some ⟨stepCost c ((s.drop (s.length - n)).take x.takes.1) ((t.drop (t.length - m)).take x.takes.2) + (G c s t (n - x.takes.1) (m - x.takes.2)).cost, (G c s t (n - x.takes.1) (m - x.takes.2)).many, x :: (G c s t (n - x.takes.1) (m - x.takes.2)).way⟩
theorem G_eq (c : Costs) (s t : Tune) {n m : Nat} (hm : m ≤ t.length) : G c s t n m = if n = 0 ∧ m = 0 then ⟨0, 1, []⟩ else ((STEPS.map (option c s t n m)).foldl cheaper none).getD nothing := by
  unfold G cell
  split
  · rfl
  · congr 2
    refine List.map_congr_left fun x hx => ?_
    unfold option
    split
    · rfl
    · rename_i hn
      have e : ((if x.takes.1 = 0 then rowTo c s t (rowsTo c s t n) n m else (rowsTo c s t n).getD (n - x.takes.1) []).getD (m - x.takes.2) nothing) = G c s t (n - x.takes.1) (m - x.takes.2) := by
        have t2 : x.takes.1 = 0 → 1 ≤ x.takes.2 := by
          intro h
          simp only [STEPS, List.mem_cons, List.mem_nil_iff, or_false] at hx
          rcases hx with rfl | rfl | rfl | rfl | rfl | rfl | rfl | rfl | rfl <;> simp_all [Step.takes]
        split
        · rename_i h0
          have := t2 h0
          rw [row_get c s t n (by omega), h0, Nat.sub_zero]
        · exact rows_get c s t (by omega) (by omega)
      simp only [e]

/-! ### by places from the front -/
def B (c : Costs) (s t : Tune) (a b : Nat) : Best := G c s t (s.length - a) (t.length - b)
def tk (i : Nat) : Nat × Nat := (STEPS.getD i .both).takes
def room (s t : Tune) (a b i : Nat) : Bool := decide (a + (tk i).1 ≤ s.length) && decide (b + (tk i).2 ≤ t.length)
def costAt (c : Costs) (s t : Tune) (a b i : Nat) : Nat := stepCost c ((s.drop a).take (tk i).1) ((t.drop b).take (tk i).2)
/-- the steps that can be taken from a place -/
def opts (s t : Tune) (a b : Nat) : List Nat := (List.range 9).filter (room s t a b)
def bestOf (c : Costs) (s t : Tune) (a b i : Nat) : Best :=
  ⟨costAt c s t a b i + (B c s t (a + (tk i).1) (b + (tk i).2)).cost, (B c s t (a + (tk i).1) (b + (tk i).2)).many, STEPS.getD i .both :: (B c s t (a + (tk i).1) (b + (tk i).2)).way⟩
theorem steps_range : STEPS = (List.range 9).map fun i => STEPS.getD i .both := by decide
theorem cheaper_none (a : Option Best) : cheaper a none = a := by cases a <;> rfl
theorem fold_filter (f : Nat → Option Best) (p : Nat → Bool) (g : Nat → Best) (l : List Nat) (h : ∀ i ∈ l, f i = if p i = true then some (g i) else none) : ∀ z, (l.map f).foldl cheaper z = ((l.filter p).map fun i => some (g i)).foldl cheaper z := by
  induction l with
  | nil => intro z; rfl
  | cons i l ih =>
    intro z
    have ih' := ih (fun j hj => h j (List.mem_cons_of_mem _ hj))
    rw [List.map_cons, List.foldl_cons, h i List.mem_cons_self]
    cases hp : p i with
    | true =>
      rw [if_pos rfl, List.filter_cons_of_pos hp, List.map_cons, List.foldl_cons]
      exact ih' _
    | false =>
      rw [if_neg Bool.false_ne_true, cheaper_none, List.filter_cons_of_neg (by rw [hp]; exact Bool.false_ne_true)]
      exact ih' _
theorem B_end (c : Costs) (s t : Tune) : B c s t s.length t.length = ⟨0, 1, []⟩ := by
  unfold B
  rw [Nat.sub_self, Nat.sub_self, G_eq _ _ _ (Nat.zero_le _), if_pos ⟨rfl, rfl⟩]
theorem B_eq (c : Costs) (s t : Tune) {a b : Nat} (ha : a ≤ s.length) (hb : b ≤ t.length) (hne : ¬ (a = s.length ∧ b = t.length)) :
    B c s t a b = (((opts s t a b).map fun i => some (bestOf c s t a b i)).foldl cheaper none).getD nothing := by
  unfold B
  rw [G_eq _ _ _ (by omega), if_neg (by omega)]
  congr 1
  rw [steps_range, List.map_map]
  refine fold_filter _ _ _ _ (fun i hi => ?_) none
  show option c s t (s.length - a) (t.length - b) (STEPS.getD i .both) = _
  unfold option room bestOf costAt B tk
  have e1 : s.length - (s.length - a) = a := by omega
  have e2 : t.length - (t.length - b) = b := by omega
  rw [e1, e2]
  by_cases h : s.length - a < (STEPS.getD i .both).takes.1 ∨ t.length - b < (STEPS.getD i .both).takes.2
  · rw [if_pos h, if_neg]
    rw [Bool.and_eq_true, decide_eq_true_eq, decide_eq_true_eq]
    omega
  · rw [if_neg h, if_pos]
    · have e3 : s.length - a - (STEPS.getD i .both).takes.1 = s.length - (a + (STEPS.getD i .both).takes.1) := by omega
      have e4 : t.length - b - (STEPS.getD i .both).takes.2 = t.length - (b + (STEPS.getD i .both).takes.2) := by omega
      rw [e3, e4]
    · rw [Bool.and_eq_true, decide_eq_true_eq, decide_eq_true_eq]
      omega
/-! ### the fold of cheaper: the least cost, how many, the first -/
structure Least (l : List Nat) (g : Nat → Best) (j : Nat) (r : Best) : Prop where
  mem : j ∈ l
  cost : r.cost = (g j).cost
  le : ∀ i ∈ l, (g j).cost ≤ (g i).cost
  first : ∀ i ∈ l, i < j → (g j).cost < (g i).cost
  way : r.way = (g j).way
  many : r.many = ((l.filter fun i => decide ((g i).cost = (g j).cost)).map fun i => (g i).many).sum
theorem fold_least (g : Nat → Best) : ∀ (l : List Nat), l.Pairwise (· < ·) → l ≠ [] → ∃ (j : Nat) (r : Best), (l.map fun i => some (g i)).foldl cheaper none = some r ∧ Least l g j r := by
  intro l
  have main : ∀ (q p : List Nat), (p ++ q).Pairwise (· < ·) → ∀ (j : Nat) (r : Best), Least p g j r → ∃ (j' : Nat) (r' : Best), (q.map fun i => some (g i)).foldl cheaper (some r) = some r' ∧ Least (p ++ q) g j' r' := by
    intro q
    induction q with
    | nil => intro p _ j r h; exact ⟨j, r, rfl, by rw [List.append_nil]; exact h⟩
    | cons i q ih =>
      intro p hp j r h
      have hp' : ((p ++ [i]) ++ q).Pairwise (· < ·) := by rw [List.append_assoc]; exact hp
      have lt : ∀ x ∈ p, x < i := fun x hx => (List.pairwise_append.mp hp).2.2 x hx i List.mem_cons_self
      rw [List.map_cons, List.foldl_cons]
      have e : p ++ i :: q = (p ++ [i]) ++ q := by rw [List.append_assoc]; rfl
      rw [e]
      by_cases h1 : (g i).cost < r.cost
      · have ec : cheaper (some r) (some (g i)) = some (g i) := by
          show (if (g i).cost < r.cost then some (g i) else _) = _
          rw [if_pos h1]
        rw [ec]
        refine ih (p ++ [i]) hp' i (g i) ⟨by simp, rfl, fun x hx => ?_, fun x hx hlt => ?_, rfl, ?_⟩
        · rcases List.mem_append.mp hx with hx | hx
          · have := h.le x hx; have := h.cost; omega
          · rw [List.mem_singleton.mp hx]; exact Nat.le_refl _
        · rcases List.mem_append.mp hx with hx | hx
          · have := h.le x hx; have := h.cost; omega
          · rw [List.mem_singleton.mp hx] at hlt; omega
        · have e1 : (p.filter fun x => decide ((g x).cost = (g i).cost)) = [] := by
            refine List.filter_eq_nil_iff.mpr fun x hx => ?_
            have := h.le x hx; have := h.cost
            rw [decide_eq_true_eq]; omega
          rw [List.filter_append, e1, List.nil_append]
          simp
      · by_cases h2 : r.cost < (g i).cost
        · have ec : cheaper (some r) (some (g i)) = some r := by
            show (if (g i).cost < r.cost then some (g i) else if r.cost < (g i).cost then some r else _) = _
            rw [if_neg h1, if_pos h2]
          rw [ec]
          refine ih (p ++ [i]) hp' j r ⟨List.mem_append_left _ h.mem, h.cost, fun x hx => ?_, fun x hx hlt => ?_, h.way, ?_⟩
          · rcases List.mem_append.mp hx with hx | hx
            · exact h.le x hx
            · rw [List.mem_singleton.mp hx]; have := h.cost; omega
          · rcases List.mem_append.mp hx with hx | hx
            · exact h.first x hx hlt
            · rw [List.mem_singleton.mp hx]; have := h.cost; omega
          · rw [h.many, List.filter_append]
            have e1 : (List.filter (fun x => decide ((g x).cost = (g j).cost)) [i]) = [] := by
              refine List.filter_eq_nil_iff.mpr fun x hx => ?_
              rw [List.mem_singleton.mp hx, decide_eq_true_eq]
              have := h.cost; omega
            rw [e1, List.append_nil]
        · have ec : cheaper (some r) (some (g i)) = some ⟨r.cost, r.many + (g i).many, r.way⟩ := by
            show (if (g i).cost < r.cost then some (g i) else if r.cost < (g i).cost then some r else _) = _
            rw [if_neg h1, if_neg h2]
          rw [ec]
          refine ih (p ++ [i]) hp' j _ ⟨List.mem_append_left _ h.mem, h.cost, fun x hx => ?_, fun x hx hlt => ?_, h.way, ?_⟩
          · rcases List.mem_append.mp hx with hx | hx
            · exact h.le x hx
            · rw [List.mem_singleton.mp hx]; have := h.cost; omega
          · rcases List.mem_append.mp hx with hx | hx
            · exact h.first x hx hlt
            · rw [List.mem_singleton.mp hx] at hlt ⊢; have := lt j h.mem; omega
          · show r.many + (g i).many = _
            have e1 : (List.filter (fun x => decide ((g x).cost = (g j).cost)) [i]) = [i] := by
              rw [List.filter_cons_of_pos]
              · rfl
              · rw [decide_eq_true_eq]; have := h.cost; omega
            rw [List.filter_append, e1, List.map_append, List.sum_append, ← h.many]
            simp
  intro hp hne
  cases l with
  | nil => exact absurd rfl hne
  | cons i l =>
    rw [List.map_cons, List.foldl_cons]
    have ec : cheaper none (some (g i)) = some (g i) := rfl
    rw [ec]
    refine main l [i] hp i (g i) ⟨List.mem_singleton_self i, rfl, fun x hx => ?_, fun x hx hlt => ?_, rfl, ?_⟩
    · rw [List.mem_singleton.mp hx]; exact Nat.le_refl _
    · rw [List.mem_singleton.mp hx] at hlt; omega
    · simp
theorem opts_sorted (s t : Tune) (a b : Nat) : (opts s t a b).Pairwise (· < ·) := List.Pairwise.filter _ (by decide)
theorem opts_ne (s t : Tune) {a b : Nat} (ha : a ≤ s.length) (hb : b ≤ t.length) (hne : ¬ (a = s.length ∧ b = t.length)) : opts s t a b ≠ [] := by
  intro h
  have h1 := List.filter_eq_nil_iff.mp h 1 (by decide)
  have h2 := List.filter_eq_nil_iff.mp h 2 (by decide)
  simp [room, tk, STEPS, Step.takes] at h1 h2
  omega
/-- one place: the step that the first of the cheapest ways takes -/
theorem B_step (c : Costs) (s t : Tune) {a b : Nat} (ha : a ≤ s.length) (hb : b ≤ t.length) (hne : ¬ (a = s.length ∧ b = t.length)) : ∃ j, Least (opts s t a b) (bestOf c s t a b) j (B c s t a b) := by
  obtain ⟨j, r, e, h⟩ := fold_least (bestOf c s t a b) (opts s t a b) (opts_sorted s t a b) (opts_ne s t ha hb hne)
  rw [B_eq c s t ha hb hne, e]
  exact ⟨j, h⟩
end SkM

/-! The least of triples; a step's cost as the program adds it up. -/
namespace SkM
open Sw73
open SkR (lexOf)

theorem lex_trans : ∀ (x y z : List Int), HT.lexLt x y = true → HT.lexLt y z = true → HT.lexLt x z = true
  | [], [], _, h, _ => by simp [HT.lexLt] at h
  | [], _ :: _, [], _, h => by simp [HT.lexLt] at h
  | [], _ :: _, _ :: _, _, _ => rfl
  | _ :: _, [], _, h, _ => by simp [HT.lexLt] at h
  | _ :: _, _ :: _, [], _, h => by simp [HT.lexLt] at h
  | x :: xs, y :: ys, z :: zs, h1, h2 => by
    rw [HT.lexLt_cons] at h1 h2 ⊢
    by_cases e1 : x = y
    · rw [if_pos e1] at h1
      by_cases e2 : y = z
      · rw [if_pos e2] at h2
        rw [if_pos (e1.trans e2)]
        exact lex_trans xs ys zs h1 h2
      · rw [if_neg e2] at h2
        rw [if_neg (by omega), decide_eq_true_eq]
        have := of_decide_eq_true h2
        omega
    · rw [if_neg e1] at h1
      have h1 := of_decide_eq_true h1
      by_cases e2 : y = z
      · rw [if_pos e2] at h2
        rw [if_neg (by omega), decide_eq_true_eq]
        omega
      · rw [if_neg e2] at h2
        have h2 := of_decide_eq_true h2
        rw [if_neg (by omega), decide_eq_true_eq]
        omega
theorem lex_irrefl : ∀ x : List Int, HT.lexLt x x = false
  | [] => rfl
  | x :: xs => by rw [HT.lexLt_cons, if_pos rfl]; exact lex_irrefl xs
theorem argBest_le (bt : Nat → Nat → Bool) : ∀ k, PySem.argBest bt k ≤ k
  | 0 => Nat.le_refl 0
  | k + 1 => by
    show (if bt (k + 1) (PySem.argBest bt k) then k + 1 else PySem.argBest bt k) ≤ k + 1
    have := argBest_le bt k
    split <;> omega
/-- nothing is below the chosen one -/
theorem argBest_min (ts : List (List Int)) : ∀ k i, i ≤ k → lexOf ts i (PySem.argBest (lexOf ts) k) = false
  | 0, i, h => by
    have e : i = 0 := by omega
    subst e
    exact lex_irrefl _
  | k + 1, i, h => by
    show lexOf ts i (if lexOf ts (k + 1) (PySem.argBest (lexOf ts) k) then k + 1 else PySem.argBest (lexOf ts) k) = false
    have ih := argBest_min ts k
    by_cases hb : lexOf ts (k + 1) (PySem.argBest (lexOf ts) k) = true
    · rw [if_pos hb]
      by_cases e : i = k + 1
      · rw [e]; exact lex_irrefl _
      · refine Bool.eq_false_iff.mpr fun h2 => ?_
        have h3 : lexOf ts i (PySem.argBest (lexOf ts) k) = true := lex_trans _ _ _ h2 hb
        rw [ih i (by omega)] at h3
        cases h3
    · rw [if_neg hb]
      by_cases e : i = k + 1
      · rw [e]; exact Bool.eq_false_iff.mpr hb
      · exact ih i (by omega)
/-- the triple of a step -/
def tri (g : Nat → Best) (i : Nat) : List Int := [((g i).cost : Int), (i : Int), ((g i).many : Int)]
theorem tri_min {l : List Nat} {g : Nat → Best} {j : Nat} {r : Best} (h : Least l g j r) {p : Nat} (hp : PySem.argBest (lexOf (l.map (tri g))) (l.length - 1) = p) : l[p]? = some j := by
  obtain ⟨q, hq⟩ := List.mem_iff_getElem?.mp h.mem
  have lq := (List.getElem?_eq_some_iff.mp hq).1
  have lp : p < l.length := by
    have := argBest_le (lexOf (l.map (tri g))) (l.length - 1)
    omega
  obtain ⟨i, hi⟩ : ∃ i, l[p]? = some i := ⟨_, List.getElem?_eq_getElem lp⟩
  have hm := argBest_min (l.map (tri g)) (l.length - 1) q (by omega)
  rw [hp] at hm
  unfold lexOf at hm
  rw [List.getD_eq_getElem?_getD, List.getD_eq_getElem?_getD, List.getElem?_map, List.getElem?_map, hq, hi] at hm
  have hm : HT.lexLt (tri g j) (tri g i) = false := hm
  have him := List.mem_of_getElem? hi
  have hle := h.le i him
  unfold tri at hm
  rw [HT.lexLt_cons] at hm
  by_cases ec : ((g j).cost : Int) = (g i).cost
  · rw [if_pos ec, HT.lexLt_cons] at hm
    by_cases ei : (j : Int) = i
    · have : j = i := by omega
      rw [hi, this]
    · rw [if_neg ei, decide_eq_false_iff_not] at hm
      have := h.first i him
      omega
  · rw [if_neg ec, decide_eq_false_iff_not] at hm
    omega
theorem sum_cast : ∀ l : List Nat, (l.map fun (x : Nat) => (x : Int)).sum = ((l.sum : Nat) : Int)
  | [] => rfl
  | x :: l => by
    rw [List.map_cons, List.sum_cons, List.sum_cons, sum_cast l, Int.natCast_add]

/-! ### a step's cost -/
theorem total_sum (l : List Nat) : total l = l.sum := by
  unfold total
  have main : ∀ (l : List Nat) (z : Nat), l.foldl (fun a b => a + b) z = z + l.sum := by
    intro l
    induction l with
    | nil => intro z; rfl
    | cons x l ih => intro z; rw [List.foldl_cons, ih, List.sum_cons, Nat.add_assoc]
  rw [main, Nat.zero_add]
def rowSum (c : Costs) (t : Tune) (n : Note) : Nat := (t.map fun m => apart c n m).sum
theorem sum_flat (c : Costs) (t : Tune) : ∀ s : Tune, (s.flatMap fun x => t.map fun y => apart c x y).sum = (s.map (rowSum c t)).sum
  | [] => rfl
  | x :: s => by
    rw [List.flatMap_cons, List.sum_append, sum_flat c t s, List.map_cons, List.sum_cons]
    rfl
theorem longs_sum (t : Tune) : longs t = (t.map fun x => x.long).sum := total_sum _
theorem between_abs (a b : Nat) : ((between a b : Nat) : Int) = if (a : Int) - b < 0 then -((a : Int) - b) else (a : Int) - b := by
  unfold between
  split <;> split <;> omega
/-- a step that takes notes of both -/
theorem cost_both (c : Costs) {s t : Tune} {k1 k2 : Nat} (hs : s.length = k1) (ht : t.length = k2) (h1 : 1 ≤ k1) (h2 : 1 ≤ k2) (h : k1 = 1 ∨ k2 = 1) :
    ((stepCost c s t : Nat) : Int) = ((((s.map (rowSum c t)).sum : Nat) : Int) + (c.long : Int) * (if ((longs s : Int) - longs t) < 0 then -((longs s : Int) - longs t) else (longs s : Int) - longs t)) + (c.more : Int) * ((if (k2 : Int) > (k1 : Int) then (k2 : Int) else (k1 : Int)) - 1) := by
  unfold stepCost
  have n1 : s ≠ [] := by intro e; rw [e] at hs; simp at hs; omega
  have n2 : t ≠ [] := by intro e; rw [e] at ht; simp at ht; omega
  rw [if_neg (by intro e; rcases e with e | e; exact n1 e; exact n2 e), total_sum, sum_flat, ← between_abs, hs, ht]
  have e : ((k1 + k2 - 2 : Nat) : Int) = (if (k2 : Int) > (k1 : Int) then (k2 : Int) else (k1 : Int)) - 1 := by
    split <;> omega
  rw [← e, Int.natCast_add, Int.natCast_add, Int.natCast_mul, Int.natCast_mul, Int.add_assoc]
theorem cost_out (c : Costs) (n : Note) : stepCost c [n] [] = c.gap * n.long := by
  unfold stepCost
  rw [if_pos (.inr rfl)]
  show c.gap * (0 + n.long + 0) = _
  rw [Nat.zero_add, Nat.add_zero]
theorem cost_put (c : Costs) (n : Note) : stepCost c [] [n] = c.gap * n.long := by
  unfold stepCost
  rw [if_pos (.inl rfl)]
  show c.gap * (0 + (0 + n.long)) = _
  rw [Nat.zero_add, Nat.zero_add]
theorem tk_list {i : Nat} (h : i < 9) : [(1, 1), (1, 0), (0, 1), (1, 2), (1, 3), (1, 4), (2, 1), (3, 1), (4, 1)][i]? = some (tk i) := by
  have : ∀ i, i < 9 → [(1, 1), (1, 0), (0, 1), (1, 2), (1, 3), (1, 4), (2, 1), (3, 1), (4, 1)][i]? = some (tk i) := by decide
  exact this i h
theorem tk_both {i : Nat} (h : i < 9) (h1 : i ≠ 1) (h2 : i ≠ 2) : 1 ≤ (tk i).1 ∧ 1 ≤ (tk i).2 ∧ ((tk i).1 = 1 ∨ (tk i).2 = 1) := by
  have : ∀ i, i < 9 → i ≠ 1 → i ≠ 2 → 1 ≤ (tk i).1 ∧ 1 ≤ (tk i).2 ∧ ((tk i).1 = 1 ∨ (tk i).2 = 1) := by decide
  exact this i h h1 h2
end SkM

/-! Two tunes beside one another: made; room; what a step costs. -/
namespace Sk
open PySem PySem.Spec PyProof.Rows L2 SkR SkM
/-- what the keys of a row's notes cost -/
def RowAt (k : Sw73.Costs) (t : Sw73.Tune) (H : Hp) (r : Addr) (n : Sw73.Note) : Prop := H r = some (.lst (t.map fun m => V.int (Sw73.apart k n m)))
structure BesideAt (c : Cs) (H : Hp) (b cA sA tA kA : Addr) (k : Sw73.Costs) (s t : Sw73.Tune) : Prop where
  obj : ∃ dx, H b = some (.ins c.Beside dx (fBeside (.ref cA) (.ref sA) (.ref tA) (.ref kA)))
  costs : CostsAt c H cA k
  one : TuneAt c H sA s
  other : TuneAt c H tA t
  keys : RefsAt (RowAt k t) H kA s
  ok : CostsOk k
  ls : s.length ≤ 24
  lt : t.length ≤ 24
theorem BesideAt.mono {c : Cs} {H H' : Hp} {b cA sA tA kA : Addr} {k : Sw73.Costs} {s t : Sw73.Tune} (h : BesideAt c H b cA sA tA kA k s t) (m : L2.Same H H') : BesideAt c H' b cA sA tA kA k s t :=
  ⟨let ⟨dx, e⟩ := h.obj; ⟨dx, m _ _ e⟩, h.costs.mono m, h.one.mono m, h.other.mono m, let ⟨ps, e, r⟩ := h.keys; ⟨ps, m _ _ e, paired_imp (fun _ _ q => m _ _ q) r⟩, h.ok, h.ls, h.lt⟩
abbrev Bes (c : Cs) (H : Hp) (b : Addr) (k : Sw73.Costs) (s t : Sw73.Tune) : Prop := ∃ cA sA tA kA, BesideAt c H b cA sA tA kA k s t
theorem all_ints : ∀ {α : Type} {f : α → Nat} {t : List α} {acc : List V}, Paired (fun (y : V) (m : α) => y = .int (f m)) acc t → acc = t.map fun m => V.int (f m)
  | _, _, [], _, .nil => rfl
  | _, _, _ :: _, _, .cons r h => by rw [r, all_ints h]; rfl
theorem ins_len {C C' dx dx' : Addr} {fs fs' : List (Str × V)} (h : some (HO.ins C dx fs) = some (HO.ins C' dx' fs')) : fs.length = fs'.length := congrArg List.length (HO.ins.inj (Option.some.inj h)).2.2
theorem small24 {n : Nat} (h : n ≤ 24) : n < sizeLine := small1000 (by omega)

section
variable {P : Program} {w : World} {K : PySem.W.Frag} {mg : Str → Option Value} {base : Heap} {c : Cs}
def spBesideIni (c : Cs) : Sp := fun vs H Q _ => ∃ (p dx cA sA tA : Addr) (k : Sw73.Costs) (s t : Sw73.Tune), vs = [.ref p, .ref cA, .ref sA, .ref tA] ∧ H p = some (.ins c.Beside dx []) ∧ CostsAt c H cA k ∧ CostsOk k ∧ TuneAt c H sA s ∧ TuneAt c H tA t ∧ s.length ≤ 24 ∧ t.length ≤ 24 ∧
  ∀ H', Keep p H H' → Bes c H' p k s t → Q .non H'
theorem scBeside_init : FnScope ["self", "costs", "one", "other", "note", "beside"] ["self", "costs", "one", "other"] (defScope sBeside_init) := ⟨rfl, rfl, rfl, by decide +kernel, rfl, by decide +kernel, by decide +kernel⟩
theorem ok_Beside_init {f : Addr} {fd : FuncData} (F : Fun K "__init__" "Beside.__init__" sBeside_init f fd) (T : Txt K mg c) (D_Costs_apart : Mt P w K mg base c.Costs "apart" 1 ["self", "note", "other"] (spApart c)) :
    FnOk P w K mg base CX0 2 f fd ["self", "costs", "one", "other"] (spBesideIni c) := by
  refine F.ok scBeside_init (fun vs H Q E h => ?_) (fun cdv A outer s H vs Q E hr h => ?_)
  · obtain ⟨p, dx, cA, sA, tA, k, s, t, rfl, _⟩ := h
    rfl
  · obtain ⟨p, dx, cA, sA, tA, k, s, t, rfl, hp, hc, ok, hs, ht, ls, lt, q⟩ := h
    refine ⟨_, (pss_cons (ps_fld (pv 0) (pv 1) rfl)
    (pss_cons (ps_fld (pv 0) (pv 2) rfl)
    (pss_cons (ps_fld (pv 0) (pv 3) rfl)
    (pss_one (ps_fld (pv 0) (pe_lc (own := [("note", 4)]) (g := gName 4) (tt := tYes) (te := (tLc (iList K (tVar 3)) (gName 5) tYes (tMeth c.Costs "apart" _ [] E0 (tVar 1) (tCons (tVar 4) (tCons (tVar 5) tNil))) [5])) (by rfl) scBeside_init.nd (pi_list (pv 2)) (blkOk_by (by kernel_rfl)) (fun _ _ _ _ _ => (pg_name (i := 4) scBeside_init.nd rfl (by first | exact Or.inl rfl | exact Or.inr rfl))) (fun _ _ _ _ _ => pts_nil) (fun _ _ _ _ _ => (pe_lc (own := [("beside", 5)]) (g := gName 5) (tt := tYes) (te := (tMeth c.Costs "apart" _ [] E0 (tVar 1) (tCons (tVar 4) (tCons (tVar 5) tNil)))) (by rfl) scBeside_init.nd (pi_list (pv 3)) (blkOk_by (by kernel_rfl)) (fun _ _ _ _ _ => (pg_name (i := 5) scBeside_init.nd rfl (by first | exact Or.inl rfl | exact Or.inr rfl))) (fun _ _ _ _ _ => pts_nil) (fun _ _ _ _ _ => (pe_mt D_Costs_apart T.cl_Costs (hr.mono (by decide)) (pv 1) (pa_cons (pv 4) (pa_cons (pv 5) pa_nil))))))) rfl))))), ?_⟩
    refine st_seq ?_
    refine st_fld (val_var rfl) (val_var rfl) hp T.cl_Beside T.n_Beside_costs (by show 0 < 1000; decide) ?_
    refine st_seq ?_
    refine st_fld (val_var rfl) (val_var rfl) upd_same T.cl_Beside T.n_Beside_one (by show 1 < 1000; decide) ?_
    rw [upd_upd]
    refine st_seq ?_
    refine st_fld (val_var rfl) (val_var rfl) upd_same T.cl_Beside T.n_Beside_other (by show 2 < 1000; decide) ?_
    rw [upd_upd]
    generalize hH1 : upd H p _ = H1
    have hp1 : H1 p = some (.ins c.Beside dx [("costs", .ref cA), ("one", .ref sA), ("other", .ref tA)]) := by rw [← hH1]; exact upd_same
    have k1 : Keep p H H1 := by rw [← hH1]; exact keep_upd
    have mN : ∀ {q : Addr} {n : Sw73.Note}, NoteAt c H q n → NoteAt c H1 q n := fun {q n} ⟨dx', e⟩ => ⟨dx', k1 _ _ e (fun z => by
      rw [z, hp] at e
      exact absurd (show (0 : Nat) = 2 from ins_len e) (by decide))⟩
    have mT : ∀ {a : Addr} {u : Sw73.Tune}, TuneAt c H a u → TuneAt c H1 a u := fun {a u} ⟨ps, e, r⟩ => ⟨ps, k1 _ _ e (ne_of e hp (by intro z; cases z)), paired_imp (fun _ _ q => mN q) r⟩
    have hc1 : CostsAt c H1 cA k := let ⟨dx', e⟩ := hc; ⟨dx', k1 _ _ e (fun z => by
      rw [z, hp] at e
      exact absurd (show (0 : Nat) = 5 from ins_len e) (by decide))⟩
    have hs1 := mT hs
    have ht1 := mT ht
    obtain ⟨sp, hsp, prs⟩ := hs1
    obtain ⟨tp, htp, prt⟩ := ht1
    have lsp := Paired.length prs
    have ltp := Paired.length prt
    refine ⟨_, rfl, sA, rfl, ⟨_, SqL.of hsp⟩, fun D hD => lc_map (K := K) s (fun H y n => ∃ r : Addr, y = .ref r ∧ r ≠ D ∧ RowAt k t H r n) hD (SqL.of hsp) (by rw [List.length_map, lsp]) (by rw [List.length_map, lsp]; exact small24 ls) (fun H H' _ _ y n hd hd' kk r => ?_) ?_ ?_⟩
    · obtain ⟨r, e, ne, hr⟩ := r
      exact ⟨r, e, ne, kk _ _ hr ne⟩
    · intro i x n H2 acc hx hn hd s2 Z N0 hZ
      obtain ⟨y, n', hy, rfl, hn', hq⟩ := paired_at prs hx
      rw [hn] at hn'
      cases hn'
      refine ⟨rfl, m_yes ?_⟩
      refine ⟨_, rfl, tA, rfl, ⟨_, SqL.of (s2 _ _ htp)⟩, fun D2 hD2 => lc_map (K := K) t (fun H y m => y = .int (Sw73.apart k n m)) hD2 (SqL.of (s2 _ _ htp)) (by rw [List.length_map, ltp]) (by rw [List.length_map, ltp]; exact small24 lt) (fun _ _ _ _ _ _ _ _ _ r => r) ?_ ?_⟩
      · intro j x2 m H3 acc2 hx2 hm hd2 s3 Z2 N2 hZ2
        obtain ⟨y2, m', hy2, rfl, hm', hq2⟩ := paired_at prt hx2
        rw [hm] at hm'
        cases hm'
        refine ⟨rfl, m_yes ?_⟩
        obtain ⟨dc, hc3⟩ := hc1.mono (L2.Same.trans s2 s3)
        exact v_meth (val_var rfl) hc3 rfl (va_cons (val_var rfl) (va_cons (val_var rfl) va_nil)) ⟨cA, y, y2, k, n, m, rfl, ⟨dc, hc3⟩, ok, hq.mono (L2.Same.trans s2 s3), hq2.mono (L2.Same.trans s2 s3), hZ2 _ _ (L2.Same.refl _) rfl⟩
      · intro H3 acc2 s3 hd2 pr2
        rw [all_ints (f := fun m => Sw73.apart k n m) pr2] at hd2
        refine hZ _ _ s3 ⟨D2, rfl, ?_, hd2⟩
        intro e
        rw [e, hd] at hD2
        cases hD2
    · intro H2 acc s2 hd pr2
      obtain ⟨rs, e, pr3⟩ := refs_of (F := fun (r : Addr) (n : Sw73.Note) => r ≠ D ∧ RowAt k t H2 r n) pr2
      rw [e] at hd
      have hp2 := s2 _ _ hp1
      refine ⟨_, rfl, p, c.Beside, dx, _, rfl, hp2, T.cl_Beside, T.n_Beside_key_costs, (by show 3 < 1000; decide), ?_⟩
      have kp : Keep p H1 (upd H2 p (.ins c.Beside dx (fBeside (.ref cA) (.ref sA) (.ref tA) (.ref D)))) := fun b o e n => by rw [upd_ne n]; exact s2 _ _ e
      have neL : ∀ {b : Addr} {xs : List V}, H2 b = some (.lst xs) → b ≠ p := fun e => ne_of e hp2 (by intro z; cases z)
      refine q _ (fun b o e n => kp b o (k1 b o e n) n) ⟨cA, sA, tA, D, ⟨dx, upd_same⟩, ?_, ⟨sp, kp _ _ hsp (neL (s2 _ _ hsp)), ?_⟩, ⟨tp, kp _ _ htp (neL (s2 _ _ htp)), ?_⟩, ⟨rs, ?_, ?_⟩, ok, ls, lt⟩
      · obtain ⟨dc, e⟩ := hc1
        refine ⟨dc, kp _ _ e fun z => ?_⟩
        rw [z, hp1] at e
        exact absurd (show (3 : Nat) = 5 from ins_len e) (by decide)
      · refine paired_imp (fun a n q => ?_) prs
        obtain ⟨dn, e⟩ := q
        refine ⟨dn, kp _ _ e fun z => ?_⟩
        rw [z, hp1] at e
        exact absurd (show (3 : Nat) = 2 from ins_len e) (by decide)
      · refine paired_imp (fun a n q => ?_) prt
        obtain ⟨dn, e⟩ := q
        refine ⟨dn, kp _ _ e fun z => ?_⟩
        rw [z, hp1] at e
        exact absurd (show (3 : Nat) = 2 from ins_len e) (by decide)
      · rw [upd_ne (neL hd)]
        exact hd
      · refine paired_imp (fun a n q => ?_) pr3
        have e : H2 a = some (.lst (t.map fun m => V.int (Sw73.apart k n m))) := q.2
        show upd _ _ _ _ = _
        rw [upd_ne (neL e)]
        exact e
end
end Sk

/-! Room for a step; what it costs; the steps at a place. -/
namespace Sk
open PySem PySem.Spec PyProof.Rows L2 SkR SkM
theorem cut_nat {xs : List V} {a k : Nat} (h : a + k ≤ xs.length) : cutV xs (some (a : Int)) (some ((a : Int) + (k : Int))) = (xs.drop a).take k := by
  unfold cutV
  have e : (a : Int) + (k : Int) = ((a + k : Nat) : Int) := (Int.natCast_add a k).symm
  rw [e, HT.sIx_nat, HT.sIx_nat, show min a xs.length = a by omega, show min (a + k) xs.length = a + k by omega]
  congr 1
  omega
theorem paired_drop {α β : Type} {F : α → β → Prop} : ∀ (k : Nat) {xs : List α} {ys : List β}, Paired F xs ys → Paired F (xs.drop k) (ys.drop k)
  | 0, _, _, r => r
  | _ + 1, _, _, .nil => .nil
  | k + 1, _, _, .cons _ t => paired_drop k t
theorem paired_take {α β : Type} {F : α → β → Prop} : ∀ (k : Nat) {xs : List α} {ys : List β}, Paired F xs ys → Paired F (xs.take k) (ys.take k)
  | 0, _, _, _ => .nil
  | _ + 1, _, _, .nil => .nil
  | k + 1, _, _, .cons r t => .cons r (paired_take k t)
theorem taken_at {psT : List Addr} {K : PySem.W.Frag} {H : Hp} {i : Nat} (hi : i < 9) (r : Paired (fun (p : Addr) (t : Nat × Nat) => SqT K H p [.int t.1, .int t.2]) psT [(1, 1), (1, 0), (0, 1), (1, 2), (1, 3), (1, 4), (2, 1), (3, 1), (4, 1)]) :
    ∃ q, psT[i]? = some q ∧ SqT K H q [.int (tk i).1, .int (tk i).2] := by
  have hl := Paired.length r
  have hl : psT.length = 9 := hl
  obtain ⟨q, hq⟩ : ∃ q, psT[i]? = some q := ⟨_, List.getElem?_eq_getElem (by omega)⟩
  obtain ⟨t, ht, f⟩ := LiI.paired_get r hq
  rw [tk_list hi] at ht
  cases ht
  exact ⟨q, hq, f⟩
theorem natTwo : ∀ {a b : Nat}, (decide ((a : Int) ≤ (b : Int))) = decide (a ≤ b) := fun {a b} => by
  rw [Bool.eq_iff_iff, decide_eq_true_eq, decide_eq_true_eq]
  omega
section
variable {P : Program} {w : World} {K : PySem.W.Frag} {mg : Str → Option Value} {base : Heap} {c : Cs}
theorem m_forL {tl : TE} {g : TG} {tb : TS} {D : Ends} {σ : L2.St} {H : Hp} (h : tl σ H fun x H1 => ∃ a, x = .ref a ∧ (∃ xs, SqL K H1 a xs) ∧ ∃ W : Nat → Nat → L2.St → Hp → Prop, (∃ m, W 0 m σ H1) ∧ ∀ i m σ H, W i m σ H →
    ((Itl K a).stop i H ∧ D.nx σ H) ∨ ((Itl K a).go i H ∧ ∃ N : L2.St → Hp → Prop, (∀ σ' H', N σ' H' → ∃ m', m' < m ∧ W (i + 1) m' σ' H') ∧ ∀ x H', (Itl K a).yld i H x H' → g x σ H' fun σ2 H2 => tb { D with nx := N, ct := N, bk := D.nx } σ2 H2)) : tFor (iList K tl) g tb D σ H := h
theorem v_slice {te ta tb : TE} {σ : L2.St} {H : Hp} {p : Addr} {xs : List V} {a k : Nat} {Q : VK} (h : Val te σ H (.ref p)) (ha : Val ta σ H (.int a)) (hb : Val tb σ H (.int k)) (hp : SqL K H p xs) (hle : a + k ≤ xs.length)
    (q : ∀ p2, H p2 = none → Q (.ref p2) (upd H p2 (.lst ((xs.drop a).take k)))) : tSl (rSlL K) te (tPart ta) (tPart (tOp (rI0 fun i j => .int (i + j)) ta tb)) σ H Q := by
  refine h _ ?_
  refine ha _ ⟨a, rfl, ?_⟩
  refine v_add ha hb _ ⟨_, rfl, p, xs, rfl, hp, fun p2 n2 => ?_⟩
  rw [cut_nat hle]
  exact q p2 n2
theorem v_sum {te : TE} {σ : L2.St} {H : Hp} {ns : List Int} {Q : VK} (h : te σ H fun x H1 => ∃ a, x = .ref a ∧ SqL K H1 a (ns.map V.int) ∧ Q (.int ns.sum) H1) (mono : ∀ F G : VK, (∀ v H, F v H → G v H) → te σ H F → te σ H G) : tCB (rSum K) (tCons te tNil) σ H Q :=
  mono _ _ (fun v H1 ⟨a, e, hs, q⟩ => ⟨a, ns, by rw [e], hs, q⟩) h
def spRoom (c : Cs) : Sp := fun vs H Q _ => ∃ (p : Addr) (i a b : Nat) (k : Sw73.Costs) (s t : Sw73.Tune), vs = [.ref p, .int i, .int a, .int b] ∧ i < 9 ∧ Bes c H p k s t ∧ Q (.bl (room s t a b i)) H
theorem scBeside_has_room : FnScope ["self", "step", "a", "b", "take", "taken"] ["self", "step", "a", "b"] (defScope sBeside_has_room) := ⟨rfl, rfl, rfl, by decide +kernel, rfl, by decide +kernel, by decide +kernel⟩
theorem ok_Beside_has_room {f : Addr} {fd : FuncData} (F : Fun K "has_room" "Beside.has_room" sBeside_has_room f fd) (T : Txt K mg c) : FnOk P w K mg base CX0 1 f fd ["self", "step", "a", "b"] (spRoom c) := by
  refine F.ok scBeside_has_room (fun vs H Q E h => ?_) (fun cdv A outer s H vs Q E hr h => ?_)
  · obtain ⟨p, i, a, b, k, s, t, rfl, _⟩ := h
    rfl
  · obtain ⟨p, i, a, b, k, s, t, rfl, hi, ⟨cA, sA, tA, kA, B⟩, q⟩ := h
    obtain ⟨aT, psT, h_TAKEN, tT, iT⟩ := T.c_TAKEN
    obtain ⟨u, hu1, hu2⟩ := taken_at hi (iT H)
    obtain ⟨dx, hp⟩ := B.obj
    obtain ⟨sp, hs, prs⟩ := B.one
    obtain ⟨tp, ht, prt⟩ := B.other
    refine ⟨_, (pss_cons (ps_asg (pe_ix ix_tup (pe_cst h_TAKEN (by rfl)) (pv 1) (fun _ _ => rfl)) (pg_tup rfl (pgs_cons (pg_name (i := 4) scBeside_has_room.nd rfl (by first | exact Or.inl rfl | exact Or.inr rfl)) (pgs_cons (pg_name (i := 5) scBeside_has_room.nd rfl (by first | exact Or.inl rfl | exact Or.inr rfl)) pgs_nil))))
    (pss_one (ps_ret (pe_and (pe_cmpR op_le (pe_op op_add (pv 2) (pv 4)) (pe_callB call_len_seq (by rfl) T.b_len PySem.boot_len (pa_cons (pe_fld (pv 0) rfl) pa_nil)) (nomark _)) (pe_one (pe_cmpR op_le (pe_op op_add (pv 3) (pv 5)) (pe_callB call_len_seq (by rfl) T.b_len PySem.boot_len (pa_cons (pe_fld (pv 0) rfl) pa_nil)) (nomark _))))))), ?_⟩
    refine st_seq ?_
    refine m_asg ?_
    refine v_ixT (K := K) (n := i) val_c (tT H) (val_var rfl) (v := .ref u) (by rw [List.getElem?_map, hu1]; rfl) _ ?_
    refine ⟨u, _, rfl, hu2, rfl, _, _, rfl, _, _, rfl, rfl, ?_⟩
    dsimp only
    refine m_ret ?_
    refine v_and (v_le (v_add (val_var rfl) (val_var rfl)) (v_len (K := K) (p := sA) (v_Beside_one T (val_var rfl) hp) (SqL.of hs) fun Q q => ⟨_, _, rfl, .inl (SqL.of hs), q⟩))
      (v_le (v_add (val_var rfl) (val_var rfl)) (v_len (K := K) (p := tA) (v_Beside_other T (val_var rfl) hp) (SqL.of ht) fun Q q => ⟨_, _, rfl, .inl (SqL.of ht), q⟩)) _ ?_
    have e : (decide ((a : Int) + ((tk i).1 : Int) ≤ ((sp.map V.ref).length : Int)) && decide ((b : Int) + ((tk i).2 : Int) ≤ ((tp.map V.ref).length : Int))) = room s t a b i := by
      unfold room
      rw [List.length_map, List.length_map, Paired.length prs, Paired.length prt, ← Int.natCast_add, ← Int.natCast_add, natTwo, natTwo]
    rw [e]
    exact q
/-- the sum of the lengths of a row of notes that is laid -/
theorem v_longs {σ : L2.St} {H : Hp} {ta : TE} {i : Nat} {r : List V → Hp → VK → Prop} {Q : VK} {t : Sw73.Tune} (T : Txt K mg c) (hi : i < (wipe σ [i]).length) (hz : t.length ≤ 1000)
    (hs : ∀ Q1 : VK, (∀ (p : Addr) (H1 : Hp), L2.Same H H1 → TuneAt c H1 p t → Q1 (.ref p) H1) → ta σ H Q1)
    (hr : ∀ (p : Addr) (H1 : Hp), L2.Same H H1 → H1 p = some (.lst (t.map fun n => V.int n.long)) → r [.ref p] H1 Q) :
    tCB r (tCons (tLc (iList K ta) (gName i) tYes (tFld K (tVar i) "long") [i]) tNil) σ H Q := by
  refine hs _ fun p H1 s1 ⟨ps, hp, pr⟩ => ?_
  have lp := Paired.length pr
  refine ⟨p, rfl, ⟨_, SqL.of hp⟩, fun D hD => lc_map (K := K) t (fun H y n => y = .int n.long) hD (SqL.of hp) (by rw [List.length_map, lp]) (by rw [List.length_map, lp]; exact small1000 hz) (fun _ _ _ _ _ _ _ _ _ r => r) ?_ ?_⟩
  · intro j x n H2 acc hx hn hd s2 Z N0 hZ
    obtain ⟨y, n', hy, rfl, hn', hq⟩ := paired_at pr hx
    rw [hn] at hn'
    cases hn'
    obtain ⟨dx, hq2⟩ := hq.mono s2
    refine ⟨?_, m_yes ?_⟩
    · show ((wipe σ [i]).set i (some (V.ref y))).set i none = (wipe σ []).set i none
      rw [List.set_set]
      show (σ.set i none).set i none = σ.set i none
      rw [List.set_set]
    · refine v_Note_long T (val_var ?_) hq2 _ (hZ _ _ (L2.Same.refl _) rfl)
      rw [List.getElem?_set_self hi]
  · intro H2 acc s2 hd pr2
    rw [all_ints (f := fun n : Sw73.Note => n.long) pr2] at hd
    exact hr D H2 (L2.Same.trans s1 s2) hd
def spBoth (c : Cs) : Sp := fun vs H Q _ => ∃ (p : Addr) (a b k1 k2 : Nat) (k : Sw73.Costs) (s t : Sw73.Tune), vs = [.ref p, .int a, .int b, .int k1, .int k2] ∧ Bes c H p k s t ∧ a + k1 ≤ s.length ∧ b + k2 ≤ t.length ∧ 1 ≤ k1 ∧ 1 ≤ k2 ∧ (k1 = 1 ∨ k2 = 1) ∧
  ∀ H', L2.Same H H' → Q (.int (Sw73.stepCost k ((s.drop a).take k1) ((t.drop b).take k2))) H'
theorem scBeside_both_cost : FnScope ["self", "a", "b", "take", "taken", "found", "row", "long", "note"] ["self", "a", "b", "take", "taken"] (defScope sBeside_both_cost) := ⟨rfl, rfl, rfl, by decide +kernel, rfl, by decide +kernel, by decide +kernel⟩
theorem ok_Beside_both_cost {f : Addr} {fd : FuncData} (F : Fun K "both_cost" "Beside.both_cost" sBeside_both_cost f fd) (T : Txt K mg c) : FnOk P w K mg base CX0 1 f fd ["self", "a", "b", "take", "taken"] (spBoth c) := by
  refine F.ok scBeside_both_cost (fun vs H Q E h => ?_) (fun cdv A outer s H vs Q E hr h => ?_)
  · obtain ⟨p, a, b, k1, k2, k, s, t, rfl, _⟩ := h
    rfl
  · obtain ⟨p, a, b, k1, k2, k, s, t, rfl, ⟨cA, sA, tA, kA, B⟩, ha, hb, h1, h2, h12, q⟩ := h
    have hu := hu_of hr
    refine ⟨_, (pss_cons (ps_set (i := 5) scBeside_both_cost.nd rfl (by first | exact Or.inl rfl | exact Or.inr rfl) pe_int)
    (pss_cons (ps_for PassesOwn.never rfl (pi_list (pe_slice sl_list (pe_fld (pv 0) rfl) (po_some (pv 1)) (po_some (pe_op op_add (pv 1) (pv 3))))) (pg_name (i := 6) scBeside_both_cost.nd rfl (by first | exact Or.inl rfl | exact Or.inr rfl))
      (pss_one (ps_set (i := 5) scBeside_both_cost.nd rfl (by first | exact Or.inl rfl | exact Or.inr rfl) (pe_op op_add (pv 5) (pe_callB (cr_sum rfl) (by rfl) T.b_sum (by decide +kernel) (pa_cons (pe_slice sl_list (pv 6) (po_some (pv 2)) (po_some (pe_op op_add (pv 2) (pv 4)))) pa_nil))))))
    (pss_cons (ps_set (i := 7) scBeside_both_cost.nd rfl (by first | exact Or.inl rfl | exact Or.inr rfl) (pe_op op_sub (pe_callB (cr_sum rfl) (by rfl) T.b_sum (by decide +kernel) (pa_cons (pe_lc (own := [("note", 8)]) (g := gName 8) (tt := tYes) (te := (tFld K (tVar 8) "long")) (by rfl) scBeside_both_cost.nd (pi_list (pe_slice sl_list (pe_fld (pv 0) rfl) (po_some (pv 1)) (po_some (pe_op op_add (pv 1) (pv 3))))) (blkOk_by (by kernel_rfl)) (fun _ _ _ _ _ => (pg_name (i := 8) scBeside_both_cost.nd rfl (by first | exact Or.inl rfl | exact Or.inr rfl))) (fun _ _ _ _ _ => pts_nil) (fun _ _ _ _ _ => (pe_fld (pv 8) rfl))) pa_nil)) (pe_callB (cr_sum rfl) (by rfl) T.b_sum (by decide +kernel) (pa_cons (pe_lc (own := [("note", 8)]) (g := gName 8) (tt := tYes) (te := (tFld K (tVar 8) "long")) (by rfl) scBeside_both_cost.nd (pi_list (pe_slice sl_list (pe_fld (pv 0) rfl) (po_some (pv 2)) (po_some (pe_op op_add (pv 2) (pv 4))))) (blkOk_by (by kernel_rfl)) (fun _ _ _ _ _ => (pg_name (i := 8) scBeside_both_cost.nd rfl (by first | exact Or.inl rfl | exact Or.inr rfl))) (fun _ _ _ _ _ => pts_nil) (fun _ _ _ _ _ => (pe_fld (pv 8) rfl))) pa_nil))))
    (pss_one (ps_ret (pe_op op_add (pe_op op_add (pv 5) (pe_op op_mul (pe_fld (pe_fld (pv 0) rfl) rfl) (pe_callB call_abs (by rfl) T.b_abs (by decide +kernel) (pa_cons (pv 7) pa_nil)))) (pe_op op_mul (pe_fld (pe_fld (pv 0) rfl) rfl) (pe_op op_sub (pe_callB (call_max2 rfl) (by rfl) T.b_max (by decide +kernel) (pa_cons (pv 3) (pa_cons (pv 4) pa_nil))) pe_int)))))))), ?_⟩
    refine st_seq ?_
    refine st_set val_c ?_
    dsimp only
    refine st_seq ?_
    obtain ⟨dx, hp⟩ := B.obj
    obtain ⟨rs, hk, prk⟩ := B.keys
    have lrs := Paired.length prk
    -- the rows of what the keys cost
    refine m_forL ?_
    refine v_slice (a := a) (k := k1) (v_Beside_key_costs T (val_var rfl) hp) (val_var rfl) (val_var rfl) (SqL.of hk) (by rw [List.length_map, lrs]; exact ha) fun p1 n1 => ?_
    have pr1 : Paired (RowAt k t H) ((rs.drop a).take k1) ((s.drop a).take k1) := paired_take k1 (paired_drop a prk)
    have e1 : ((rs.map V.ref).drop a).take k1 = ((rs.drop a).take k1).map V.ref := by rw [List.map_take, List.map_drop]
    rw [e1]
    have s1 : L2.Same H (upd H p1 (.lst (((rs.drop a).take k1).map V.ref))) := same_upd n1
    generalize hH1 : upd H p1 (.lst (((rs.drop a).take k1).map V.ref)) = H1 at s1 ⊢
    have hp1 : H1 p1 = some (.lst (((rs.drop a).take k1).map V.ref)) := by rw [← hH1]; exact upd_same
    refine ⟨p1, rfl, ⟨_, SqL.of hp1⟩, for_list (K := K) (a := p1) (xs := ((rs.drop a).take k1).map V.ref)
      (fun i σ H' => ∃ v6 : Option V, σ = [some (.ref p), some (.int a), some (.int b), some (.int k1), some (.int k2), some (.int ((((s.drop a).take k1).take i).map (rowSum k ((t.drop b).take k2))).sum), v6, none, none] ∧ L2.Same H1 H')
      ⟨none, rfl, L2.Same.refl _⟩ (fun i σ H' _ ⟨_, _, s2⟩ => s2.seq (SqL.of hp1)) ?_ ?_⟩
    · rintro i x σ H' hx ⟨v6, rfl, s2⟩
      obtain ⟨r, n, hr', rfl, hn, hrow⟩ := paired_at pr1 hx
      have hrow2 := L2.Same.trans s1 s2 _ _ hrow
      refine ⟨_, rfl, ?_⟩
      refine v_slice (K := K) (a := b) (k := k2) (val_var rfl) (val_var rfl) (val_var rfl) (SqL.of hrow2) (by rw [List.length_map]; exact hb) fun p2 n2 => ?_
      rw [← List.map_drop, ← List.map_take]
      refine ⟨p2, ((t.drop b).take k2).map fun m => ((Sw73.apart k n m : Nat) : Int), rfl, ?_, _, _, rfl, rfl, ?_⟩
      · rw [List.map_map]
        exact SqL.of upd_same
      · refine ⟨some (.ref r), ?_, L2.Same.trans s2 (same_upd n2)⟩
        have e2 : (((t.drop b).take k2).map fun m => ((Sw73.apart k n m : Nat) : Int)).sum = ((rowSum k ((t.drop b).take k2) n : Nat) : Int) := by
          unfold rowSum
          rw [← sum_cast, List.map_map]
          rfl
        have e3 : ((((((s.drop a).take k1).take (i + 1)).map (rowSum k ((t.drop b).take k2))).sum : Nat) : Int) = (((((s.drop a).take k1).take i).map (rowSum k ((t.drop b).take k2))).sum : Nat) + (((t.drop b).take k2).map fun m => ((Sw73.apart k n m : Nat) : Int)).sum := by
          rw [take_snoc hn, List.map_append, List.sum_append, e2, Int.natCast_add]
          simp
        rw [e3]
        rfl
    · rintro σ H' ⟨v6, rfl, s2⟩
      have lz : ((rs.drop a).take k1).length = ((s.drop a).take k1).length := Paired.length pr1
      rw [List.length_map, lz, List.take_length]
      have s02 := L2.Same.trans s1 s2
      have B2 := B.mono s02
      obtain ⟨dx2, hp2⟩ := B2.obj
      obtain ⟨sp, hs2, prs⟩ := B2.one
      obtain ⟨tp, ht2, prt⟩ := B2.other
      obtain ⟨dc, hc2⟩ := B2.costs
      dsimp only
      refine st_seq ?_
      refine m_set ?_
      -- the lengths of the one's notes
      refine v_longs (t := (s.drop a).take k1) T (by rw [wipe_length]; show 8 < 9; decide) (by rw [List.length_take, List.length_drop]; have := B.ls; omega) (fun Q1 hQ1 => ?_) fun p3 H3 s3 hp3 => ?_
      · refine v_slice (K := K) (a := a) (k := k1) (v_Beside_one T (val_var rfl) hp2) (val_var rfl) (val_var rfl) (SqL.of hs2) (by rw [List.length_map, Paired.length prs]; exact ha) fun p4 n4 => ?_
        refine hQ1 _ _ (same_upd n4) ⟨(sp.drop a).take k1, ?_, paired_imp (fun _ _ q => q.mono (same_upd n4)) (paired_take k1 (paired_drop a prs))⟩
        rw [List.map_take, List.map_drop]
        exact upd_same
      refine ⟨p3, (((s.drop a).take k1).map fun n => ((n.long : Nat) : Int)), rfl, SqL.of (by rw [List.map_map]; exact hp3), ?_⟩
      have B3 := B2.mono s3
      obtain ⟨dx3, hp3'⟩ := B3.obj
      obtain ⟨tp3, ht3, prt3⟩ := B3.other
      refine v_longs (t := (t.drop b).take k2) T (by rw [wipe_length]; show 8 < 9; decide) (by rw [List.length_take, List.length_drop]; have := B.lt; omega) (fun Q1 hQ1 => ?_) fun p4 H4 s4 hp4 => ?_
      · refine v_slice (K := K) (a := b) (k := k2) (v_Beside_other T (val_var rfl) hp3') (val_var rfl) (val_var rfl) (SqL.of ht3) (by rw [List.length_map, Paired.length prt3]; exact hb) fun p4 n4 => ?_
        refine hQ1 _ _ (same_upd n4) ⟨(tp3.drop b).take k2, ?_, paired_imp (fun _ _ q => q.mono (same_upd n4)) (paired_take k2 (paired_drop b prt3))⟩
        rw [List.map_take, List.map_drop]
        exact upd_same
      refine ⟨p4, (((t.drop b).take k2).map fun n => ((n.long : Nat) : Int)), rfl, SqL.of (by rw [List.map_map]; exact hp4), ?_⟩
      refine ⟨_, _, rfl, rfl, ?_⟩
      dsimp only
      have B4 := B3.mono s4
      obtain ⟨dx4, hp4'⟩ := B4.obj
      obtain ⟨dc4, hc4⟩ := B4.costs
      refine m_ret ?_
      refine v_add (v_add (val_var rfl) (v_mul (v_Costs_long T (v_Beside_costs T (val_var rfl) hp4') hc4) (v_abs (val_var rfl) fun Q q => ⟨_, rfl, q⟩) (mul_ok B.ok.long)))
        (v_mul (v_Costs_more T (v_Beside_costs T (val_var rfl) hp4') hc4) (v_sub (fun Q q => ⟨_, rfl, _, rfl, _, _, rfl, q⟩) val_c) (mul_ok B.ok.more)) _ ?_
      have es : (((s.drop a).take k1).map fun n => ((n.long : Nat) : Int)).sum = ((Sw73.longs ((s.drop a).take k1) : Nat) : Int) := by
        rw [longs_sum, ← sum_cast, List.map_map]
        rfl
      have et : (((t.drop b).take k2).map fun n => ((n.long : Nat) : Int)).sum = ((Sw73.longs ((t.drop b).take k2) : Nat) : Int) := by
        rw [longs_sum, ← sum_cast, List.map_map]
        rfl
      have l1 : ((s.drop a).take k1).length = k1 := by rw [List.length_take, List.length_drop]; omega
      have l2 : ((t.drop b).take k2).length = k2 := by rw [List.length_take, List.length_drop]; omega
      have := q H4 (L2.Same.trans (L2.Same.trans s02 s3) s4)
      rw [cost_both k l1 l2 h1 h2 h12, ← es, ← et] at this
      exact this
def spStepCost (c : Cs) : Sp := fun vs H Q _ => ∃ (p : Addr) (i a b : Nat) (k : Sw73.Costs) (s t : Sw73.Tune), vs = [.ref p, .int i, .int a, .int b] ∧ i < 9 ∧ Bes c H p k s t ∧ room s t a b i = true ∧
  ∀ H', L2.Same H H' → Q (.int (costAt k s t a b i)) H'
theorem take_one {α : Type} : ∀ {l : List α} {a : Nat} {x : α}, l[a]? = some x → (l.drop a).take 1 = [x]
  | [], _, _, h => by simp at h
  | y :: l, 0, x, h => by
    have e : y = x := Option.some.inj h
    rw [e]
    rfl
  | y :: l, a + 1, x, h => take_one (l := l) (a := a) h
theorem scBeside_step_cost : FnScope ["self", "step", "a", "b", "take", "taken"] ["self", "step", "a", "b"] (defScope sBeside_step_cost) := ⟨rfl, rfl, rfl, by decide +kernel, rfl, by decide +kernel, by decide +kernel⟩
theorem ok_Beside_step_cost {f : Addr} {fd : FuncData} (F : Fun K "step_cost" "Beside.step_cost" sBeside_step_cost f fd) (T : Txt K mg c) (D_Beside_both_cost : Mt P w K mg base c.Beside "both_cost" 1 ["self", "a", "b", "take", "taken"] (spBoth c)) :
    FnOk P w K mg base CX0 2 f fd ["self", "step", "a", "b"] (spStepCost c) := by
  refine F.ok scBeside_step_cost (fun vs H Q E h => ?_) (fun cdv A outer s H vs Q E hr h => ?_)
  · obtain ⟨p, i, a, b, k, s, t, rfl, _⟩ := h
    rfl
  · obtain ⟨p, i, a, b, k, s, t, rfl, hi, ⟨cA, sA, tA, kA, B⟩, hroom, q⟩ := h
    obtain ⟨aT, psT, h_TAKEN, tT, iT⟩ := T.c_TAKEN
    obtain ⟨u, hu1, hu2⟩ := taken_at hi (iT H)
    obtain ⟨dx, hp⟩ := B.obj
    obtain ⟨sp, hs, prs⟩ := B.one
    obtain ⟨tp, ht, prt⟩ := B.other
    obtain ⟨dc, hc⟩ := B.costs
    have hroom' := hroom
    unfold room at hroom'
    rw [Bool.and_eq_true, decide_eq_true_eq, decide_eq_true_eq] at hroom'
    refine ⟨_, (pss_cons (ps_if (pt_cmpR op_eq (pv 1) (pe_cst T.c_FIRST_ALONE (by rfl)) (nomark _)) (pss_one (ps_ret (pe_op op_mul (pe_fld (pe_fld (pv 0) rfl) rfl) (pe_fld (pe_ix ix_list (pe_fld (pv 0) rfl) (pv 2) (fun _ _ => rfl)) rfl)))) pss_nil)
    (pss_cons (ps_if (pt_cmpR op_eq (pv 1) (pe_cst T.c_SECOND_ALONE (by rfl)) (nomark _)) (pss_one (ps_ret (pe_op op_mul (pe_fld (pe_fld (pv 0) rfl) rfl) (pe_fld (pe_ix ix_list (pe_fld (pv 0) rfl) (pv 3) (fun _ _ => rfl)) rfl)))) pss_nil)
    (pss_cons (ps_asg (pe_ix ix_tup (pe_cst h_TAKEN (by rfl)) (pv 1) (fun _ _ => rfl)) (pg_tup rfl (pgs_cons (pg_name (i := 4) scBeside_step_cost.nd rfl (by first | exact Or.inl rfl | exact Or.inr rfl)) (pgs_cons (pg_name (i := 5) scBeside_step_cost.nd rfl (by first | exact Or.inl rfl | exact Or.inr rfl)) pgs_nil))))
    (pss_one (ps_ret (pe_mt D_Beside_both_cost T.cl_Beside (hr.mono (by decide)) (pv 0) (pa_cons (pv 2) (pa_cons (pv 3) (pa_cons (pv 4) (pa_cons (pv 5) pa_nil)))))))))), ?_⟩
    refine st_seq ?_
    by_cases e1 : i = 1
    · subst e1
      have ha : a < s.length := by have := hroom'.1; simp [tk, Sw73.STEPS, Sw73.Step.takes] at this; omega
      obtain ⟨n, hn⟩ : ∃ n, s[a]? = some n := ⟨_, List.getElem?_eq_getElem ha⟩
      obtain ⟨r, hr1⟩ : ∃ r, sp[a]? = some r := ⟨_, List.getElem?_eq_getElem (by rw [Paired.length prs]; exact ha)⟩
      obtain ⟨n', hn', dn, hr2⟩ := LiI.paired_get prs hr1
      rw [hn] at hn'
      cases hn'
      refine st_yes (ans_eq (val_var rfl) val_c rfl rfl) ?_
      refine st_ret (v_mul (v_Costs_gap T (v_Beside_costs T (val_var rfl) hp) hc) (v_Note_long T (v_ixL (K := K) (n := a) (v_Beside_one T (val_var rfl) hp) (SqL.of hs) (val_var rfl) (v := .ref r) (by rw [List.getElem?_map, hr1]; rfl)) hr2) (mul_ok B.ok.gap)) ?_
      have := q H (L2.Same.refl H)
      have e2 : costAt k s t a b 1 = k.gap * n.long := by
        unfold costAt
        show Sw73.stepCost k ((s.drop a).take 1) ((t.drop b).take 0) = _
        rw [take_one hn, List.take_zero, cost_out]
      rw [e2, Int.natCast_mul] at this
      exact this
    · have hd1 : decide (V.int i = V.int 1) = false := decide_eq_false (fun e => by
        have := V.int.inj e
        omega)
      refine st_no (ans_eq (val_var rfl) val_c rfl hd1) ?_
      refine st_next ?_
      dsimp only
      refine st_seq ?_
      by_cases e2 : i = 2
      · subst e2
        have hb : b < t.length := by have := hroom'.2; simp [tk, Sw73.STEPS, Sw73.Step.takes] at this; omega
        obtain ⟨n, hn⟩ : ∃ n, t[b]? = some n := ⟨_, List.getElem?_eq_getElem hb⟩
        obtain ⟨r, hr1⟩ : ∃ r, tp[b]? = some r := ⟨_, List.getElem?_eq_getElem (by rw [Paired.length prt]; exact hb)⟩
        obtain ⟨n', hn', dn, hr2⟩ := LiI.paired_get prt hr1
        rw [hn] at hn'
        cases hn'
        refine st_yes (ans_eq (val_var rfl) val_c rfl rfl) ?_
        refine st_ret (v_mul (v_Costs_gap T (v_Beside_costs T (val_var rfl) hp) hc) (v_Note_long T (v_ixL (K := K) (n := b) (v_Beside_other T (val_var rfl) hp) (SqL.of ht) (val_var rfl) (v := .ref r) (by rw [List.getElem?_map, hr1]; rfl)) hr2) (mul_ok B.ok.gap)) ?_
        have := q H (L2.Same.refl H)
        have e2 : costAt k s t a b 2 = k.gap * n.long := by
          unfold costAt
          show Sw73.stepCost k ((s.drop a).take 0) ((t.drop b).take 1) = _
          rw [take_one hn, List.take_zero, cost_put]
        rw [e2, Int.natCast_mul] at this
        exact this
      · have hd2 : decide (V.int i = V.int 2) = false := decide_eq_false (fun e => by
          have := V.int.inj e
          omega)
        refine st_no (ans_eq (val_var rfl) val_c rfl hd2) ?_
        refine st_next ?_
        dsimp only
        refine st_seq ?_
        refine m_asg ?_
        refine v_ixT (K := K) (n := i) val_c (tT H) (val_var rfl) (v := .ref u) (by rw [List.getElem?_map, hu1]; rfl) _ ?_
        refine ⟨u, _, rfl, hu2, rfl, _, _, rfl, _, _, rfl, rfl, ?_⟩
        dsimp only
        obtain ⟨g1, g2, g3⟩ := tk_both hi e1 e2
        refine m_ret ?_
        exact v_meth (val_var rfl) hp rfl (va_cons (val_var rfl) (va_cons (val_var rfl) (va_cons (val_var rfl) (va_cons (val_var rfl) va_nil)))) ⟨p, a, b, _, _, k, s, t, rfl, ⟨cA, sA, tA, kA, B⟩, hroom'.1, hroom'.2, g1, g2, g3, q⟩
end
end Sk

/-! The steps at a place; what is ahead of it. -/
namespace Sk
open PySem PySem.Spec PyProof.Rows L2 SkR SkM
theorem for_enumT {K : PySem.W.Frag} {a : Addr} {xs : List V} {g : TG} {tb : TS} {D : Ends} {σ : L2.St} {H : Hp} (Pv : Nat → L2.St → Hp → Prop) (h0 : Pv 0 σ H) (hl : ∀ i σ H, i ≤ xs.length → Pv i σ H → SqT K H a xs)
    (hs : ∀ (i : Nat) (x : V) (q : Addr) (σ : L2.St) (H : Hp), xs[i]? = some x → Pv i σ H → H q = none → g (.ref q) σ (upd H q (.tup [.int (i : Nat), x])) fun σ2 H2 => tb { D with nx := Pv (i + 1), ct := Pv (i + 1), bk := D.nx } σ2 H2)
    (hd : ∀ σ H, Pv xs.length σ H → D.nx σ H) :
    ∃ W : Nat → Nat → L2.St → Hp → Prop, (∃ m, W 0 m σ H) ∧ ∀ i m σ H, W i m σ H →
      ((IteT K a).stop i H ∧ D.nx σ H) ∨ ((IteT K a).go i H ∧ ∃ N : L2.St → Hp → Prop, (∀ σ' H', N σ' H' → ∃ m', m' < m ∧ W (i + 1) m' σ' H') ∧ ∀ x H', (IteT K a).yld i H x H' → g x σ H' fun σ2 H2 => tb { D with nx := N, ct := N, bk := D.nx } σ2 H2) := by
  refine ⟨fun i m σ H => m = xs.length - i ∧ i ≤ xs.length ∧ Pv i σ H, ⟨xs.length, by simp, Nat.zero_le _, h0⟩, ?_⟩
  rintro i m σ H ⟨rfl, hi, p⟩
  have q := hl i σ H hi p
  by_cases hlt : i < xs.length
  · refine .inr ⟨⟨xs, xs[i], q, by simp [hlt]⟩, Pv (i + 1), fun σ' H' p' => ⟨xs.length - (i + 1), by omega, rfl, hlt, p'⟩, ?_⟩
    rintro x H' ⟨T, y, rfl, nT, rfl, hy⟩
    exact hs i y T σ H (hy xs q) p nT
  · have e : i = xs.length := by omega
    subst e
    exact .inl ⟨⟨xs, q, rfl⟩, hd σ H p⟩
section
variable {K : PySem.W.Frag} {σ : L2.St} {H : Hp} {te tx : TE} {D : Ends} {l : Addr} {xs : List V} {Q : Bool → Hp → Prop}
theorem m_B (h : te σ H fun x H1 => ∃ c, x = .bl c ∧ Q c H1) : tB te σ H Q := h
theorem m_appendV {v : V} (hx : Val tx σ H (.ref l)) (hl : H l = some (.lst xs)) (hz : xs.length < sizeLine) (h : Val te σ H v) (q : D.nx σ (upd H l (.lst (xs ++ [v])))) : tDrop (tBM K "list" rAppend tx (tCons te tNil)) D σ H := by
  refine hx _ ⟨.inl ⟨rfl, _, SqL.of hl⟩, ?_⟩
  exact h _ ⟨l, xs, v, rfl, rfl, hl, hz, q⟩
/-- a tuple of values is put to a list -/
theorem m_appendT {ta : TA} {vs : List V} (hx : Val tx σ H (.ref l)) (hl : H l = some (.lst xs)) (hz : xs.length < sizeLine) (hv : vs.length ≤ sizeLine) (h : ∀ F : List V → Hp → Prop, (∀ H1, L2.Same H H1 → F vs H1) → ta σ H F)
    (q : ∀ (H1 : Hp) (p : Addr), L2.Same H H1 → H1 p = none → D.nx σ (upd (upd H1 p (.tup vs)) l (.lst (xs ++ [.ref p])))) : tDrop (tBM K "list" rAppend tx (tCons (tTup ta) tNil)) D σ H := by
  refine hx _ ⟨.inl ⟨rfl, _, SqL.of hl⟩, ?_⟩
  refine h _ fun H1 s => ⟨hv, fun p np => ⟨l, xs, .ref p, rfl, rfl, ?_, hz, q H1 p s np⟩⟩
  exact same_upd np _ _ (s _ _ hl)
end
/-- what a step from a place is told as: its number, its cost, the place behind it -/
def StepAt (k : Sw73.Costs) (s t : Sw73.Tune) (a b : Nat) (H : Hp) (q : Addr) (i : Nat) : Prop := H q = some (.tup [.int i, .int (costAt k s t a b i), .int ((a : Int) + (tk i).1), .int ((b : Int) + (tk i).2)])
theorem range_filter_succ (p : Nat → Bool) (i : Nat) : (List.range (i + 1)).filter p = (List.range i).filter p ++ (if p i = true then [i] else []) := by
  rw [List.range_succ, List.filter_append]
  congr 1
  cases h : p i with
  | true => rw [List.filter_cons_of_pos h, if_pos rfl]; rfl
  | false => rw [List.filter_cons_of_neg (by rw [h]; exact Bool.false_ne_true), if_neg Bool.false_ne_true]; rfl
section
variable {P : Program} {w : World} {K : PySem.W.Frag} {mg : Str → Option Value} {base : Heap} {c : Cs}
def spStepsAt (c : Cs) : Sp := fun vs H Q _ => ∃ (p : Addr) (a b : Nat) (k : Sw73.Costs) (s t : Sw73.Tune), vs = [.ref p, .int a, .int b] ∧ Bes c H p k s t ∧ ∀ (l : Addr) (H' : Hp), L2.Same H H' → H l = none → RefsAt (StepAt k s t a b) H' l (opts s t a b) → Q (.ref l) H'
theorem scBeside_steps_at : FnScope ["self", "a", "b", "found", "step", "take", "taken"] ["self", "a", "b"] (defScope sBeside_steps_at) := ⟨rfl, rfl, rfl, by decide +kernel, rfl, by decide +kernel, by decide +kernel⟩
theorem ok_Beside_steps_at {f : Addr} {fd : FuncData} (F : Fun K "steps_at" "Beside.steps_at" sBeside_steps_at f fd) (T : Txt K mg c) (D_Beside_has_room : Mt P w K mg base c.Beside "has_room" 1 ["self", "step", "a", "b"] (spRoom c))
    (D_Beside_step_cost : Mt P w K mg base c.Beside "step_cost" 2 ["self", "step", "a", "b"] (spStepCost c)) : FnOk P w K mg base CX0 3 f fd ["self", "a", "b"] (spStepsAt c) := by
  refine F.ok scBeside_steps_at (fun vs H Q E h => ?_) (fun cdv A outer s H vs Q E hr h => ?_)
  · obtain ⟨p, a, b, k, s, t, rfl, _⟩ := h
    rfl
  · obtain ⟨p, a, b, k, s, t, rfl, ⟨cA, sA, tA, kA, B⟩, q⟩ := h
    obtain ⟨aT, psT, h_TAKEN, tT, iT⟩ := T.c_TAKEN
    have lT : psT.length = 9 := Paired.length (iT H)
    refine ⟨_, (pss_cons (ps_set (i := 3) scBeside_steps_at.nd rfl (by first | exact Or.inl rfl | exact Or.inr rfl) (pe_lst pa_nil))
    (pss_cons (ps_for PassesOwn.never rfl (pi_enumT (by rfl) T.b_enumerate (pa_cons (pe_cst h_TAKEN (by rfl)) pa_nil)) (pg_tup rfl (pgs_cons (pg_name (i := 4) scBeside_steps_at.nd rfl (by first | exact Or.inl rfl | exact Or.inr rfl)) (pgs_cons (pg_tup rfl (pgs_cons (pg_name (i := 5) scBeside_steps_at.nd rfl (by first | exact Or.inl rfl | exact Or.inr rfl)) (pgs_cons (pg_name (i := 6) scBeside_steps_at.nd rfl (by first | exact Or.inl rfl | exact Or.inr rfl)) pgs_nil))) pgs_nil)))
      (pss_one (ps_if (pt_val (pe_mt D_Beside_has_room T.cl_Beside (hr.mono (by decide)) (pv 0) (pa_cons (pv 4) (pa_cons (pv 1) (pa_cons (pv 2) pa_nil))))) (pss_one (ps_expr (pe_bm PySem.F.plainAttrs_list PySem.F.slot_list_append PySem.F.type_list_append mt_append (pv 3) (pa_cons (pe_tup (pa_cons (pv 4) (pa_cons (pe_mt D_Beside_step_cost T.cl_Beside (hr.mono (by decide)) (pv 0) (pa_cons (pv 4) (pa_cons (pv 1) (pa_cons (pv 2) pa_nil)))) (pa_cons (pe_op op_add (pv 1) (pv 5)) (pa_cons (pe_op op_add (pv 2) (pv 6)) pa_nil))))) pa_nil)))) pss_nil)))
    (pss_one (ps_ret (pv 3))))), ?_⟩
    refine st_seq ?_
    refine ⟨Nat.zero_le _, fun l nl => ?_⟩
    refine st_seq ?_
    refine ⟨aT, psT.map V.ref, rfl, tT _, for_enumT (K := K) (a := aT) (xs := psT.map V.ref) (fun i σ H' => ∃ v4 v5 v6 : Option V, σ = [some (.ref p), some (.int a), some (.int b), some (.ref l), v4, v5, v6] ∧ L2.Same H H' ∧ RefsAt (StepAt k s t a b) H' l ((List.range i).filter (room s t a b)))
      ⟨none, none, none, rfl, same_upd nl, [], upd_same, .nil⟩ (fun i σ H' _ _ => tT _) ?_ ?_⟩
    · rintro i x qT σ H' hx ⟨v4, v5, v6, rfl, s1, ps, hl, pr⟩ nq
      have hi : i < 9 := by
        have := (List.getElem?_eq_some_iff.mp hx).1
        rw [List.length_map, lT] at this
        exact this
      obtain ⟨u, hu1, hu2⟩ := taken_at hi (iT (upd H' qT (.tup [.int (i : Nat), x])))
      rw [List.getElem?_map, hu1] at hx
      cases hx
      refine ⟨qT, _, rfl, SqT.of upd_same, rfl, _, _, rfl, _, _, rfl, ⟨u, _, rfl, hu2, rfl, _, _, rfl, _, _, rfl, rfl, rfl, ?_⟩⟩
      have s2 : L2.Same H (upd H' qT (.tup [.int (i : Nat), .ref u])) := L2.Same.trans s1 (same_upd nq)
      have lq : l ≠ qT := ne_of_none hl nq
      have hl2 : upd H' qT (.tup [.int (i : Nat), .ref u]) l = some (.lst (ps.map V.ref)) := by rw [upd_ne lq]; exact hl
      have pr2 : Paired (StepAt k s t a b (upd H' qT (.tup [.int (i : Nat), .ref u]))) ps ((List.range i).filter (room s t a b)) := paired_imp (fun _ _ z => same_upd nq _ _ z) pr
      generalize hH2 : upd H' qT (.tup [.int (i : Nat), .ref u]) = H2 at s2 hl2 pr2 ⊢
      have B2 := B.mono s2
      obtain ⟨dx, hp⟩ := B2.obj
      refine m_if ?_
      refine m_B ?_
      refine v_meth (val_var rfl) hp rfl (va_cons (val_var rfl) (va_cons (val_var rfl) (va_cons (val_var rfl) va_nil))) ⟨p, i, a, b, k, s, t, rfl, hi, ⟨cA, sA, tA, kA, B2⟩, _, rfl, ?_⟩
      have lps : ps.length ≤ 9 := by
        rw [Paired.length pr2]
        refine Nat.le_trans (List.length_filter_le _ _) ?_
        rw [List.length_range]
        omega
      cases hroom : room s t a b i with
      | true =>
        refine iteT ?_
        refine m_appendT (K := K) (vs := [.int i, .int (costAt k s t a b i), .int ((a : Int) + (tk i).1), .int ((b : Int) + (tk i).2)]) (val_var rfl) hl2 (by rw [List.length_map]; exact small1000 (by omega)) (by show 4 ≤ sizeLine; decide) (fun F1 hF1 => ?_) (fun H3 p3 s3 n3 => ?_)
        · refine ⟨_, rfl, ?_⟩
          exact v_meth (val_var rfl) hp rfl (va_cons (val_var rfl) (va_cons (val_var rfl) (va_cons (val_var rfl) va_nil))) ⟨p, i, a, b, k, s, t, rfl, hi, ⟨cA, sA, tA, kA, B2⟩, hroom, fun H3 s3 => ⟨_, rfl, _, rfl, _, _, rfl, rfl, _, rfl, _, rfl, _, _, rfl, rfl, hF1 H3 s3⟩⟩
        · have hl3 := s3 _ _ hl2
          refine ⟨_, _, _, rfl, ?_, ps ++ [p3], ?_, ?_⟩
          · intro y o e
            have e3 := s3 _ _ (s2 _ _ e)
            rw [upd_ne (ne_of_none e nl), upd_ne (ne_of_none e3 n3)]
            exact e3
          · rw [upd_same, List.map_append]
            rfl
          · rw [range_filter_succ, if_pos hroom]
            have up : ∀ {y : Addr} {o : HO}, H3 y = some o → y ≠ l → upd (upd H3 p3 (.tup [.int i, .int (costAt k s t a b i), .int ((a : Int) + (tk i).1), .int ((b : Int) + (tk i).2)])) l (.lst (ps.map V.ref ++ [.ref p3])) y = some o := fun {y o} e ne => by
              rw [upd_ne ne, upd_ne (ne_of_none e n3)]
              exact e
            refine paired_snoc (paired_imp (fun y j z => ?_) pr2) ?_
            · exact up (s3 _ _ z) (ne_of z hl2 (by intro z; cases z))
            · show upd _ _ _ _ = _
              rw [upd_ne (Ne.symm (ne_of_none hl3 n3)), upd_same]
      | false =>
        refine iteF ?_
        refine ⟨_, _, _, rfl, s2, ps, hl2, ?_⟩
        rw [range_filter_succ, hroom, if_neg Bool.false_ne_true, List.append_nil]
        exact pr2
    · rintro σ H' ⟨v4, v5, v6, rfl, s1, r⟩
      rw [List.length_map, lT] at r
      dsimp only
      exact st_ret (val_var rfl) (q l H' s1 nl r)
end
end Sk

/-! What is ahead of a place. -/
namespace Sk
open PySem PySem.Spec PyProof.Rows L2 SkR SkM
def stepV : List Sw73.Step → V
  | [] => .non
  | x :: _ => .int (Sw73.stepOut x)
def AheadAt (c : Cs) (H : Hp) (q : Addr) (x : Sw73.Best) : Prop := ∃ dx, H q = some (.ins c.Ahead dx (fAhead (.int x.cost) (.int x.many) (stepV x.way)))
theorem AheadAt.mono {c : Cs} {H H' : Hp} {q : Addr} {x : Sw73.Best} (h : AheadAt c H q x) (s : L2.Same H H') : AheadAt c H' q x := let ⟨dx, e⟩ := h; ⟨dx, s _ _ e⟩
/-- a place as a key -/
def key2 (a b : Nat) : List Key := [Sum.inl (a : Int), Sum.inl (b : Int)]
theorem key2_inj {a b a' b' : Nat} (h : key2 a b = key2 a' b') : a = a' ∧ b = b' := by
  unfold key2 at h
  injection h with h1 h2
  injection h2 with h2 _
  have e1 := Sum.inl.inj h1
  have e2 := Sum.inl.inj h2
  omega
theorem stepOut_at {i : Nat} (h : i < 9) : Sw73.stepOut (Sw73.STEPS.getD i .both) = (i : Int) := by
  have : ∀ i, i < 9 → Sw73.stepOut (Sw73.STEPS.getD i .both) = (i : Int) := by decide
  exact this i h
theorem opts_lt {s t : Sw73.Tune} {a b i : Nat} (h : i ∈ opts s t a b) : i < 9 ∧ room s t a b i = true := by
  have := List.mem_filter.mp h
  exact ⟨List.mem_range.mp this.1, this.2⟩
theorem opts_len (s t : Sw73.Tune) (a b : Nat) : (opts s t a b).length ≤ 9 := by
  refine Nat.le_trans (List.length_filter_le _ _) ?_
  rw [List.length_range]
  exact Nat.le_refl _
/-- a place's known entry -/
def KnownAt (c : Cs) (H : Hp) (kvs : List (List Key × V)) (k : Sw73.Costs) (s t : Sw73.Tune) (a b : Nat) : Prop := ∃ q, valV kvs (key2 a b) = some (.ref q) ∧ AheadAt c H q (SkM.B k s t a b)
def TriAt (g : Nat → Sw73.Best) (H : Hp) (q : Addr) (i : Nat) : Prop := H q = some (.tup ((tri g i).map V.int))
section
variable {K : PySem.W.Frag}
/-- a comprehension that keeps some -/
theorem lc_filt {a : Addr} {xs : List V} {g : TG} {tt : TT} {te : TE} {vs : List Nat} {σ : L2.St} {H1 : Hp} {D : Addr} {Qd : Hp → Prop} {α : Type} (as : List α) (p : α → Bool) (f : α → V)
    (hD : H1 D = none) (hx : SqL K H1 a xs) (hl : xs.length = as.length) (hz : xs.length < sizeLine)
    (step : ∀ (i : Nat) (x : V) (z : α) (H : Hp), xs[i]? = some x → as[i]? = some z → L2.Same H1 H → ∀ (Z : V → Hp → Prop) (N0 : Hp → Prop), (p z = true → Z (f z) H) → (p z = false → N0 H) →
      g x (wipe σ vs) H fun σ2 H2 => wipe σ2 vs = wipe σ vs ∧ tt σ2 H2 fun b H3 => if b = true then te σ2 H3 Z else N0 H3)
    (fin : ∀ H, L2.Same H1 H → H D = some (.lst ((as.filter p).map f)) → Qd H) :
    ∃ W : Nat → Nat → Hp → Prop, (∃ m, W 0 m (upd H1 D (.lst []))) ∧ ∀ i m H, W i m H →
      ((Itl K a).stop i H ∧ Qd H) ∨ ((Itl K a).go i H ∧ ∃ Nx : Hp → Prop, (∀ H', Nx H' → ∃ m', m' < m ∧ W (i + 1) m' H') ∧ ∀ x H', (Itl K a).yld i H x H' → g x (wipe σ vs) H' fun σ2 H2 => wipe σ2 vs = wipe σ vs ∧ tt σ2 H2 fun b H3 =>
        if b = true then te σ2 H3 fun y H4 => ∃ acc, H4 D = some (.lst acc) ∧ acc.length < sizeLine ∧ Nx (upd H4 D (.lst (acc ++ [y]))) else Nx H3) := by
  refine lc_list (K := K) (a := a) (xs := xs) (fun i H => L2.Same H1 H ∧ H D = some (.lst (((as.take i).filter p).map f)))
    ⟨fun b o e => by rw [upd_ne (ne_of_none e hD)]; exact e, upd_same⟩ (fun i H _ h => h.1.seq hx) ?_ ?_
  · rintro i x H hi ⟨s1, hd⟩
    have hlt : i < as.length := hl ▸ (List.getElem?_eq_some_iff.mp hi).1
    obtain ⟨z, hz'⟩ : ∃ z, as[i]? = some z := ⟨_, List.getElem?_eq_getElem hlt⟩
    refine step i x z H hi hz' s1 _ _ (fun hp => ?_) (fun hp => ?_)
    · refine ⟨_, hd, ?_, Same.of_keep hD s1 keep_upd, ?_⟩
      · rw [List.length_map]
        refine Nat.lt_of_le_of_lt (List.length_filter_le _ _) ?_
        rw [List.length_take]
        omega
      · rw [upd_same, take_snoc hz', List.filter_append, List.map_append, List.filter_cons_of_pos hp]
        rfl
    · refine ⟨s1, ?_⟩
      rw [take_snoc hz', List.filter_append, List.filter_cons_of_neg (by rw [hp]; exact Bool.false_ne_true), List.filter_nil, List.append_nil]
      exact hd
  · rintro H ⟨s1, hd⟩
    rw [List.take_of_length_le (by omega)] at hd
    exact fin H s1 hd
end
section
variable {P : Program} {w : World} {K : PySem.W.Frag} {mg : Str → Option Value} {base : Heap} {c : Cs}
def spAheadOf (c : Cs) : Sp := fun vs H Q _ => ∃ (p d : Addr) (a b : Nat) (k : Sw73.Costs) (s t : Sw73.Tune) (kvs : List (List Key × V)), vs = [.ref p, .int a, .int b, .ref d] ∧ Bes c H p k s t ∧ a ≤ s.length ∧ b ≤ t.length ∧ H d = some (.dT kvs) ∧
  (∀ i, i < 9 → room s t a b i = true → KnownAt c H kvs k s t (a + (tk i).1) (b + (tk i).2)) ∧ ∀ (q : Addr) (H' : Hp), L2.Same H H' → AheadAt c H' q (SkM.B k s t a b) → Q (.ref q) H'
theorem scBeside_ahead_of : FnScope ["self", "a", "b", "known", "some", "step", "cost", "here", "there", "behind", "least", "many", "more"] ["self", "a", "b", "known"] (defScope sBeside_ahead_of) := ⟨rfl, rfl, rfl, by decide +kernel, rfl, by decide +kernel, by decide +kernel⟩
theorem ok_Beside_ahead_of {f : Addr} {fd : FuncData} (F : Fun K "ahead_of" "Beside.ahead_of" sBeside_ahead_of f fd) (T : Txt K mg c) (D_Beside_steps_at : Mt P w K mg base c.Beside "steps_at" 3 ["self", "a", "b"] (spStepsAt c))
    (M_Ahead : Kl P w K mg base "Ahead" c.Ahead 1 ["self", "least", "many", "step"] (spAheadIni c)) : FnOk P w K mg base CX0 4 f fd ["self", "a", "b", "known"] (spAheadOf c) := by
  refine F.ok scBeside_ahead_of (fun vs H Q E h => ?_) (fun cdv A outer s H vs Q E hr h => ?_)
  · obtain ⟨p, d, a, b, k, s, t, kvs, rfl, _⟩ := h
    rfl
  · obtain ⟨p, d, a, b, k, s, t, kvs, rfl, ⟨cA, sA, tA, kA, Bs⟩, ha, hb, hd, hk, q⟩ := h
    have hu := hu_of hr
    obtain ⟨dx, hp⟩ := Bs.obj
    obtain ⟨sp, hs, prs⟩ := Bs.one
    obtain ⟨tp, ht, prt⟩ := Bs.other
    have ls := Paired.length prs
    have lt := Paired.length prt
    refine ⟨_, (pss_cons (ps_if (PW.pt (pw_and (pt_cmpR op_eq (pv 1) (pe_callB call_len_seq (by rfl) T.b_len PySem.boot_len (pa_cons (pe_fld (pv 0) rfl) pa_nil)) (nomark _)) (pw_and1 (pt_cmpR op_eq (pv 2) (pe_callB call_len_seq (by rfl) T.b_len PySem.boot_len (pa_cons (pe_fld (pv 0) rfl) pa_nil)) (nomark _))))) (pss_one (ps_ret (pe_mk M_Ahead (hr.mono (by decide)) (by rfl) (pa_cons pe_int (pa_cons pe_int (pa_cons pe_non pa_nil)))))) pss_nil)
    (pss_cons (ps_set (i := 4) scBeside_ahead_of.nd rfl (by first | exact Or.inl rfl | exact Or.inr rfl) (pe_lst pa_nil))
    (pss_cons (ps_for PassesOwn.never rfl (pi_list (pe_mt D_Beside_steps_at T.cl_Beside (hr.mono (by decide)) (pv 0) (pa_cons (pv 1) (pa_cons (pv 2) pa_nil)))) (pg_tup rfl (pgs_cons (pg_name (i := 5) scBeside_ahead_of.nd rfl (by first | exact Or.inl rfl | exact Or.inr rfl)) (pgs_cons (pg_name (i := 6) scBeside_ahead_of.nd rfl (by first | exact Or.inl rfl | exact Or.inr rfl)) (pgs_cons (pg_name (i := 7) scBeside_ahead_of.nd rfl (by first | exact Or.inl rfl | exact Or.inr rfl)) (pgs_cons (pg_name (i := 8) scBeside_ahead_of.nd rfl (by first | exact Or.inl rfl | exact Or.inr rfl)) pgs_nil)))))
      (pss_cons (ps_set (i := 9) scBeside_ahead_of.nd rfl (by first | exact Or.inl rfl | exact Or.inr rfl) (pe_dget hu (pv 3) (pe_tup (pa_cons (pv 7) (pa_cons (pv 8) pa_nil))) (fun _ _ => rfl)))
    (pss_one (ps_expr (pe_bm PySem.F.plainAttrs_list PySem.F.slot_list_append PySem.F.type_list_append mt_append (pv 4) (pa_cons (pe_tup (pa_cons (pe_op op_add (pv 6) (pe_fld (pv 9) rfl)) (pa_cons (pv 5) (pa_cons (pe_fld (pv 9) rfl) pa_nil)))) pa_nil))))))
    (pss_cons (ps_set (i := 10) scBeside_ahead_of.nd rfl (by first | exact Or.inl rfl | exact Or.inr rfl) (pe_callB (cr_minT rfl hu) (by rfl) T.b_min (by decide +kernel) (pa_cons (pv 4) pa_nil)))
    (pss_cons (ps_set (i := 11) scBeside_ahead_of.nd rfl (by first | exact Or.inl rfl | exact Or.inr rfl) (pe_callB (cr_sum rfl) (by rfl) T.b_sum (by decide +kernel) (pa_cons (pe_lc (own := [("cost", 6), ("step", 5), ("more", 12)]) (g := gTup K 3 (gCons (gName 6) (gCons (gName 5) (gCons (gName 12) gNil)))) (tt := tTest (tOp rEq (tVar 6) (tOp (rIxT K) (tVar 10) (tC (.int 0))))) (by rfl) scBeside_ahead_of.nd (pi_list (pv 4)) (blkOk_by (by kernel_rfl)) (fun _ _ _ _ _ => (pg_tup rfl (pgs_cons (pg_name (i := 6) scBeside_ahead_of.nd rfl (by first | exact Or.inl rfl | exact Or.inr rfl)) (pgs_cons (pg_name (i := 5) scBeside_ahead_of.nd rfl (by first | exact Or.inl rfl | exact Or.inr rfl)) (pgs_cons (pg_name (i := 12) scBeside_ahead_of.nd rfl (by first | exact Or.inl rfl | exact Or.inr rfl)) pgs_nil))))) (fun _ _ _ _ _ => pts_one (pt_cmpR op_eq (pv 6) (pe_ix ix_tup (pv 10) pe_int (fun _ _ => rfl)) (nomark _))) (fun _ _ _ _ _ => (pv 12))) pa_nil)))
    (pss_one (ps_ret (pe_mk M_Ahead (hr.mono (by decide)) (by rfl) (pa_cons (pe_ix ix_tup (pv 10) pe_int (fun _ _ => rfl)) (pa_cons (pv 11) (pa_cons (pe_ix ix_tup (pv 10) pe_int (fun _ _ => rfl)) pa_nil))))))))))), ?_⟩
    refine st_seq ?_
    have d1 : decide (V.int a = V.int (sp.map V.ref).length) = decide (a = s.length) := by
      rw [List.length_map, ls, dec_int, Bool.eq_iff_iff, decide_eq_true_eq, beq_iff_eq]
      omega
    have d2 : decide (V.int b = V.int (tp.map V.ref).length) = decide (b = t.length) := by
      rw [List.length_map, lt, dec_int, Bool.eq_iff_iff, decide_eq_true_eq, beq_iff_eq]
      omega
    by_cases he : a = s.length ∧ b = t.length
    · have e1 : (decide (a = s.length) && decide (b = t.length)) = true := by rw [Bool.and_eq_true, decide_eq_true_eq, decide_eq_true_eq]; exact he
      refine st_yes (Ans.to (ans_and2 (ans_eq (val_var rfl) (v_len (K := K) (p := sA) (v_Beside_one T (val_var rfl) hp) (SqL.of hs) fun Q q => ⟨_, _, rfl, .inl (SqL.of hs), q⟩) rfl d1)
        (ans_eq (val_var rfl) (v_len (K := K) (p := tA) (v_Beside_other T (val_var rfl) hp) (SqL.of ht) fun Q q => ⟨_, _, rfl, .inl (SqL.of ht), q⟩) rfl d2)) e1) ?_
      refine m_ret ?_
      refine v_make (va_cons val_c (va_cons val_c (va_cons val_c va_nil))) rfl fun x dx2 H2 s2 hx e => q x H2 s2 ⟨dx2, ?_⟩
      rw [he.1, he.2, B_end, e]
      rfl
    · have e1 : (decide (a = s.length) && decide (b = t.length)) = false := by
        refine Bool.eq_false_iff.mpr fun h => he ?_
        rw [Bool.and_eq_true, decide_eq_true_eq, decide_eq_true_eq] at h
        exact h
      refine st_no (Ans.to (ans_and2 (ans_eq (val_var rfl) (v_len (K := K) (p := sA) (v_Beside_one T (val_var rfl) hp) (SqL.of hs) fun Q q => ⟨_, _, rfl, .inl (SqL.of hs), q⟩) rfl d1)
        (ans_eq (val_var rfl) (v_len (K := K) (p := tA) (v_Beside_other T (val_var rfl) hp) (SqL.of ht) fun Q q => ⟨_, _, rfl, .inl (SqL.of ht), q⟩) rfl d2)) e1) ?_
      refine st_next ?_
      dsimp only
      obtain ⟨j, L⟩ := B_step k s t ha hb he
      refine st_seq ?_
      refine ⟨Nat.zero_le _, fun l nl => ?_⟩
      dsimp only
      refine st_seq ?_
      refine m_forL ?_
      have s1 : L2.Same H (upd H l (.lst [])) := same_upd nl
      refine v_meth (val_var rfl) (s1 _ _ hp) rfl (va_cons (val_var rfl) (va_cons (val_var rfl) va_nil)) ⟨p, a, b, k, s, t, rfl, ⟨cA, sA, tA, kA, Bs.mono s1⟩, fun lp H2 s2 nlp rf => ?_⟩
      obtain ⟨qs, hlp, prq⟩ := rf
      have lq := Paired.length prq
      have s02 := L2.Same.trans s1 s2
      have hl2 := s2 _ _ (upd_same (H := H) (a := l) (o := .lst []))
      have hd2 := s02 _ _ hd
      have nlp' : lp ≠ l := fun e => by
        rw [e, upd_same] at nlp
        cases nlp
      have ol := opts_len s t a b
      -- some, a triple a step
      refine ⟨lp, rfl, ⟨_, SqL.of hlp⟩, for_list (K := K) (a := lp) (xs := qs.map V.ref) (fun i σ H' => ∃ v5 v6 v7 v8 v9 : Option V, σ = [some (.ref p), some (.int a), some (.int b), some (.ref d), some (.ref l), v5, v6, v7, v8, v9, none, none, none] ∧ Keep l H2 H' ∧ RefsAt (TriAt (bestOf k s t a b)) H' l ((opts s t a b).take i))
        ⟨none, none, none, none, none, rfl, fun b o e _ => e, [], hl2, .nil⟩ (fun i σ H' _ ⟨_, _, _, _, _, _, kp, _⟩ => SqL.of (kp _ _ hlp nlp')) ?_ ?_⟩
      · rintro n x σ H' hx ⟨v5, v6, v7, v8, v9, rfl, kp, ps, hl, pr⟩
        obtain ⟨u, i, hu1, rfl, hi, hu2⟩ := paired_at prq hx
        obtain ⟨i9, hroom⟩ := opts_lt (List.mem_of_getElem? hi)
        obtain ⟨qk, hqk, hak⟩ := hk i i9 hroom
        have hu3 := kp _ _ hu2 (ne_of hu2 hl2 (by intro z; cases z))
        have hd3 := kp _ _ hd2 (ne_of hd2 hl2 (by intro z; cases z))
        obtain ⟨dk, hak2⟩ := hak.mono s02
        have hak3 := kp _ _ hak2 (ne_of hak2 hl2 (by intro z; cases z))
        refine ⟨u, _, rfl, SqT.of hu3, rfl, _, _, rfl, _, _, rfl, _, _, rfl, _, _, rfl, rfl, ?_⟩
        refine st_seq ?_
        refine ⟨_, rfl, _, rfl, _, rfl, by show 2 ≤ sizeLine; decide, fun pk nk => ⟨d, .ref qk, rfl, ?_, ?_⟩⟩
        · have := DGet.t (k := key2 (a + (tk i).1) (b + (tk i).2)) (same_upd (o := .tup [.int ((a : Int) + (tk i).1), .int ((b : Int) + (tk i).2)]) nk _ _ hd3) (b := pk) (by
            rw [upd_same]
            show some (HO.tup _) = some (HO.tup [V.int ((a + (tk i).1 : Nat) : Int), V.int ((b + (tk i).2 : Nat) : Int)])
            rw [Int.natCast_add, Int.natCast_add])
          rw [hqk] at this
          exact this
        · dsimp only
          have hl4 := same_upd (o := .tup [.int ((a : Int) + (tk i).1), .int ((b : Int) + (tk i).2)]) nk _ _ hl
          have hak4 := same_upd (o := .tup [.int ((a : Int) + (tk i).1), .int ((b : Int) + (tk i).2)]) nk _ _ hak3
          have sk : L2.Same H' (upd H' pk (.tup [.int ((a : Int) + (tk i).1), .int ((b : Int) + (tk i).2)])) := same_upd nk
          generalize upd H' pk (.tup [.int ((a : Int) + (tk i).1), .int ((b : Int) + (tk i).2)]) = H3 at hl4 hak4 sk
          refine m_appendT (K := K) (vs := [.int (((costAt k s t a b i : Nat) : Int) + ((SkM.B k s t (a + (tk i).1) (b + (tk i).2)).cost : Nat)), .int i, .int ((SkM.B k s t (a + (tk i).1) (b + (tk i).2)).many : Nat)]) (val_var rfl) hl4
            (by rw [List.length_map, Paired.length pr, List.length_take]; exact small1000 (by omega)) (by show 3 ≤ sizeLine; decide)
            (fun F1 hF1 => va_cons (v_add (val_var rfl) (v_Ahead_least T (val_var rfl) hak4)) (va_cons (val_var rfl) (va_cons (v_Ahead_many T (val_var rfl) hak4) va_nil)) _ (hF1 _ (L2.Same.refl _))) (fun H4 p4 s4 n4 => ?_)
          have hl5 := s4 _ _ hl4
          refine ⟨_, _, _, _, _, rfl, ?_, ps ++ [p4], ?_, ?_⟩
          · intro y o e ne
            have e4 := s4 _ _ (sk _ _ (kp _ _ e ne))
            rw [upd_ne ne, upd_ne (ne_of_none e4 n4)]
            exact e4
          · rw [upd_same, List.map_append]
            rfl
          · rw [take_snoc hi]
            refine paired_snoc (paired_imp (fun y j' z => ?_) pr) ?_
            · have z4 := s4 _ _ (sk _ _ z)
              show upd _ _ _ _ = _
              rw [upd_ne (ne_of z hl (by intro z; cases z)), upd_ne (ne_of_none z4 n4)]
              exact z4
            · show upd _ _ _ _ = _
              rw [upd_ne (Ne.symm (ne_of_none hl5 n4)), upd_same]
              show some (HO.tup _) = some (HO.tup [V.int (((costAt k s t a b i + (SkM.B k s t (a + (tk i).1) (b + (tk i).2)).cost : Nat) : Int)), _, _])
              rw [Int.natCast_add]
              rfl
      · rintro σ H' ⟨v5, v6, v7, v8, v9, rfl, kp, ps, hl, pr⟩
        rw [List.length_map, lq, List.take_length] at pr
        dsimp only
        refine st_seq ?_
        have lps := Paired.length pr
        have lne : 0 < (opts s t a b).length := by
          have := List.length_pos_of_mem L.mem
          exact this
        have prT : Paired (fun (p : Addr) (t : List Int) => SqT K H' p (t.map V.int)) ps ((opts s t a b).map (tri (bestOf k s t a b))) := paired_mapL (tri (bestOf k s t a b)) (paired_imp (fun _ _ z => SqT.of z) pr)
        refine ⟨_, rfl, l, ps, (opts s t a b).map (tri (bestOf k s t a b)), rfl, SqL.of hl, prT, by rw [List.length_map]; exact lne, fun pm hpm => ?_⟩
        rw [List.length_map] at hpm
        have hj := tri_min L (p := PySem.argBest (lexOf ((opts s t a b).map (tri (bestOf k s t a b)))) ((opts s t a b).length - 1)) rfl
        obtain ⟨j', hj', hm⟩ := LiI.paired_get pr hpm
        rw [hj] at hj'
        cases hj'
        have hm : H' pm = some (.tup [.int ((bestOf k s t a b j).cost : Nat), .int j, .int ((bestOf k s t a b j).many : Nat)]) := hm
        dsimp only
        refine st_seq ?_
        refine m_set ?_
        refine ⟨_, rfl, l, rfl, ⟨_, SqL.of hl⟩, fun D hD => lc_filt (K := K) (opts s t a b) (fun i => decide ((bestOf k s t a b i).cost = (bestOf k s t a b j).cost)) (fun i => .int ((bestOf k s t a b i).many : Nat)) hD (SqL.of hl) (by rw [List.length_map, lps]) (by rw [List.length_map, lps]; exact small1000 (by omega)) ?_ ?_⟩
        · intro n x i H2' hx hi s2' Z N0 hZ hN
          obtain ⟨y, i', hy, rfl, hi', hq⟩ := paired_at pr hx
          rw [hi] at hi'
          cases hi'
          have hq : H' y = some (.tup [.int ((bestOf k s t a b i).cost : Nat), .int i, .int ((bestOf k s t a b i).many : Nat)]) := hq
          refine ⟨y, _, rfl, SqT.of (s2' _ _ hq), rfl, _, _, rfl, _, _, rfl, _, _, rfl, rfl, ?_⟩
          refine ⟨rfl, ?_⟩
          have hm2 := s2' _ _ hm
          have dd : decide (V.int ((bestOf k s t a b i).cost : Nat) = V.int ((bestOf k s t a b j).cost : Nat)) = decide ((bestOf k s t a b i).cost = (bestOf k s t a b j).cost) := by
            rw [dec_int, Bool.eq_iff_iff, decide_eq_true_eq, beq_iff_eq]
            omega
          refine ans_eq (val_var rfl) (v_ixT (K := K) (n := 0) (val_var rfl) (SqT.of hm2) val_c rfl) rfl dd _ ?_
          cases hdd : decide ((bestOf k s t a b i).cost = (bestOf k s t a b j).cost) with
          | true => exact iteT ⟨_, rfl, hZ hdd⟩
          | false => exact iteF (hN hdd)
        · intro H2' s2' hD2
          refine ⟨D, ((opts s t a b).filter fun i => decide ((bestOf k s t a b i).cost = (bestOf k s t a b j).cost)).map (fun i => ((bestOf k s t a b i).many : Int)), rfl, SqL.of (by rw [List.map_map]; exact hD2), ?_⟩
          dsimp only
          have hm2 := s2' _ _ hm
          refine m_ret ?_
          refine v_make (va_cons (v_ixT (K := K) (n := 0) (val_var rfl) (SqT.of hm2) val_c rfl) (va_cons (val_var rfl) (va_cons (v_ixT (K := K) (n := 1) (val_var rfl) (SqT.of hm2) val_c rfl) va_nil))) rfl fun x dx2 H5 s5 hx e => q x H5 ?_ ⟨dx2, ?_⟩
          · intro y o e
            exact s5 _ _ (s2' _ _ (kp _ _ (s02 _ _ e) (ne_of_none e nl)))
          · rw [e]
            have ew : (SkM.B k s t a b).way = Sw73.STEPS.getD j .both :: (SkM.B k s t (a + (tk j).1) (b + (tk j).2)).way := L.way
            have em : (((opts s t a b).filter fun i => decide ((bestOf k s t a b i).cost = (bestOf k s t a b j).cost)).map (fun i => ((bestOf k s t a b i).many : Int))).sum = (((SkM.B k s t a b).many : Nat) : Int) := by
              rw [L.many, ← sum_cast, List.map_map]
              rfl
            have e9 : Sw73.stepOut (Sw73.STEPS.getD j .both) = (j : Int) := stepOut_at (opts_lt L.mem).1
            rw [ew, ← em, L.cost]
            show some (HO.ins c.Ahead dx2 [_, _, ("step", V.int j)]) = some (HO.ins c.Ahead dx2 [_, _, ("step", V.int (Sw73.stepOut (Sw73.STEPS.getD j .both)))])
            rw [e9]
            rfl
end
end Sk

/-! All places; the cheapest way; what a way costs. -/
namespace Sk
open PySem PySem.Spec PyProof.Rows L2 SkR SkM
theorem putK_len {κ : Type} [DecidableEq κ] (kvs : List (κ × V)) (k : κ) (v : V) : (putK kvs k v).length ≤ kvs.length + 1 := by
  unfold putK
  split
  · rw [List.length_map]; omega
  · rw [List.length_append]; exact Nat.le_refl _
theorem tk_some {i : Nat} (h : i < 9) : 1 ≤ (tk i).1 ∨ 1 ≤ (tk i).2 := by
  have : ∀ i, i < 9 → 1 ≤ (tk i).1 ∨ 1 ≤ (tk i).2 := by decide
  exact this i h
theorem room_iff {s t : Sw73.Tune} {a b i : Nat} : room s t a b i = true ↔ a + (tk i).1 ≤ s.length ∧ b + (tk i).2 ≤ t.length := by
  unfold room
  rw [Bool.and_eq_true, decide_eq_true_eq, decide_eq_true_eq]
theorem KnownAt.keep {c : Cs} {H H' : Hp} {kvs : List (List Key × V)} {k : Sw73.Costs} {s t : Sw73.Tune} {a b : Nat} (h : KnownAt c H kvs k s t a b) (kp : ∀ q dx fs, H q = some (.ins c.Ahead dx fs) → H' q = some (.ins c.Ahead dx fs)) : KnownAt c H' kvs k s t a b :=
  let ⟨q, e, dx, z⟩ := h; ⟨q, e, dx, kp _ _ _ z⟩
section
variable {σ : L2.St} {H : Hp} {te : TE} {ta : TA} {i j c : Int} {n : Nat} {g : TG} {tb : TS} {D : Ends}
theorem v_neg (h : Val te σ H (.int i)) : Val (tUn (rU fun i => .int (-i)) te) σ H (.int (-i)) := fun Q q => h _ ⟨i, rfl, q⟩
theorem m_forC (h : VA ta σ H [.int i, .int j, .int c]) (hr : RgC i j c n) (q : ∃ W : Nat → Nat → L2.St → Hp → Prop, (∃ m, W 0 m σ H) ∧ ∀ x m σ H, W x m σ H →
      ((Itc i c n).stop x H ∧ D.nx σ H) ∨ ((Itc i c n).go x H ∧ ∃ N : L2.St → Hp → Prop, (∀ σ' H', N σ' H' → ∃ m', m' < m ∧ W (x + 1) m' σ' H') ∧ ∀ y H', (Itc i c n).yld x H y H' → g y σ H' fun σ2 H2 => tb { D with nx := N, ct := N, bk := D.nx } σ2 H2)) : tFor (iRng3 ta) g tb D σ H := h _ ⟨i, j, c, n, rfl, hr, q⟩
theorem rgC_down {m : Nat} (h : m ≤ 1000) : RgC (m : Int) (-1) (-1) (m + 1) := by
  have e : m + 1 = ((m : Int) - (-1)).toNat := by omega
  have e62 : (2 : Int) ^ 62 = 4611686018427387904 := by decide
  rw [e]
  exact RgC.neg (by omega) (by omega) (by omega) (by omega)
end
section
variable {P : Program} {w : World} {K : PySem.W.Frag} {mg : Str → Option Value} {base : Heap} {c : Cs}
def AllAt (c : Cs) (H : Hp) (d : Addr) (k : Sw73.Costs) (s t : Sw73.Tune) : Prop := ∃ kvs, H d = some (.dT kvs) ∧ ∀ a b, a ≤ s.length → b ≤ t.length → KnownAt c H kvs k s t a b
def spAllAhead (c : Cs) : Sp := fun vs H Q _ => ∃ (p : Addr) (k : Sw73.Costs) (s t : Sw73.Tune), vs = [.ref p] ∧ Bes c H p k s t ∧ ∀ (d : Addr) (H' : Hp), L2.Same H H' → AllAt c H' d k s t → Q (.ref d) H'
theorem scBeside_all_ahead : FnScope ["self", "known", "a", "b"] ["self"] (defScope sBeside_all_ahead) := ⟨rfl, rfl, rfl, by decide +kernel, rfl, by decide +kernel, by decide +kernel⟩
theorem ok_Beside_all_ahead {f : Addr} {fd : FuncData} (F : Fun K "all_ahead" "Beside.all_ahead" sBeside_all_ahead f fd) (T : Txt K mg c) (D_Beside_ahead_of : Mt P w K mg base c.Beside "ahead_of" 4 ["self", "a", "b", "known"] (spAheadOf c)) :
    FnOk P w K mg base CX0 5 f fd ["self"] (spAllAhead c) := by
  refine F.ok scBeside_all_ahead (fun vs H Q E h => ?_) (fun cdv A outer s H vs Q E hr h => ?_)
  · obtain ⟨p, k, s, t, rfl, _⟩ := h
    rfl
  · obtain ⟨p, k, s, t, rfl, ⟨cA, sA, tA, kA, Bs⟩, q⟩ := h
    have hu := hu_of hr
    obtain ⟨dx, hp⟩ := Bs.obj
    obtain ⟨sp, hs, prs⟩ := Bs.one
    obtain ⟨tp, ht, prt⟩ := Bs.other
    have ls := Paired.length prs
    have lt := Paired.length prt
    have zs := Bs.ls
    have zt := Bs.lt
    refine ⟨_, (pss_cons (ps_set (i := 1) scBeside_all_ahead.nd rfl (by first | exact Or.inl rfl | exact Or.inr rfl) pe_dnewT)
    (pss_cons (ps_for PassesOwn.never rfl (pi_range3 (by rfl) T.b_range (pa_cons (pe_callB call_len_seq (by rfl) T.b_len PySem.boot_len (pa_cons (pe_fld (pv 0) rfl) pa_nil)) (pa_cons (pe_un un_neg pe_int) (pa_cons (pe_un un_neg pe_int) pa_nil)))) (pg_name (i := 2) scBeside_all_ahead.nd rfl (by first | exact Or.inl rfl | exact Or.inr rfl))
      (pss_one (ps_for PassesOwn.never rfl (pi_range3 (by rfl) T.b_range (pa_cons (pe_callB call_len_seq (by rfl) T.b_len PySem.boot_len (pa_cons (pe_fld (pv 0) rfl) pa_nil)) (pa_cons (pe_un un_neg pe_int) (pa_cons (pe_un un_neg pe_int) pa_nil)))) (pg_name (i := 3) scBeside_all_ahead.nd rfl (by first | exact Or.inl rfl | exact Or.inr rfl))
      (pss_one (ps_dput hu (pv 1) (pe_tup (pa_cons (pv 2) (pa_cons (pv 3) pa_nil))) (pe_mt D_Beside_ahead_of T.cl_Beside (hr.mono (by decide)) (pv 0) (pa_cons (pv 2) (pa_cons (pv 3) (pa_cons (pv 1) pa_nil)))) rfl)))))
    (pss_one (ps_ret (pv 1))))), ?_⟩
    refine st_seq ?_
    refine fun d nd => ?_
    dsimp only
    refine st_seq ?_
    have s1 : L2.Same H (upd H d (.dT [])) := same_upd nd
    refine m_forC (va_cons (v_len (K := K) (p := sA) (v_Beside_one T (val_var rfl) (s1 _ _ hp)) (SqL.of (s1 _ _ hs)) fun Q q => ⟨_, _, rfl, .inl (SqL.of (s1 _ _ hs)), q⟩) (va_cons (v_neg val_c) (va_cons (v_neg val_c) va_nil)))
      (rgC_down (by rw [List.length_map, ls]; omega)) ?_
    rw [List.length_map, ls]
    refine for_rangeC (n := s.length + 1) (fun i σ H' => ∃ v2 v3 : Option V, σ = [some (.ref p), some (.ref d), v2, v3] ∧ L2.Same H H' ∧ ∃ kvs, H' d = some (.dT kvs) ∧ kvs.length ≤ i * (t.length + 1) ∧ ∀ a b, a ≤ s.length → b ≤ t.length → s.length - a < i → KnownAt c H' kvs k s t a b)
      ⟨none, none, rfl, s1, [], upd_same, Nat.zero_le _, fun a b _ _ h => absurd h (Nat.not_lt_zero _)⟩ ?_ ?_
    · rintro i σ H1 hi ⟨v2, v3, rfl, s2, kvs, hd, hz, hk⟩
      have ea : (s.length : Int) + (i : Nat) * (-1) = ((s.length - i : Nat) : Int) := by omega
      rw [ea]
      have B1 := Bs.mono s2
      obtain ⟨dx1, hp1⟩ := B1.obj
      have ht1 := s2 _ _ ht
      refine m_forC (va_cons (v_len (K := K) (p := tA) (v_Beside_other T (val_var rfl) hp1) (SqL.of ht1) fun Q q => ⟨_, _, rfl, .inl (SqL.of ht1), q⟩) (va_cons (v_neg val_c) (va_cons (v_neg val_c) va_nil)))
        (rgC_down (by rw [List.length_map, lt]; omega)) ?_
      rw [List.length_map, lt]
      refine for_rangeC (n := t.length + 1) (fun j σ H' => ∃ v3 : Option V, σ = [some (.ref p), some (.ref d), some (.int ((s.length - i : Nat) : Int)), v3] ∧ L2.Same H H' ∧ ∃ kvs, H' d = some (.dT kvs) ∧ kvs.length ≤ i * (t.length + 1) + j ∧
          ∀ a b, a ≤ s.length → b ≤ t.length → (s.length - a < i ∨ (a = s.length - i ∧ t.length - b < j)) → KnownAt c H' kvs k s t a b)
        ⟨v3, rfl, s2, kvs, hd, hz, fun a b h1 h2 h => hk a b h1 h2 (h.resolve_right fun z => absurd z.2 (Nat.not_lt_zero _))⟩ ?_ ?_
      · rintro j σ H2 hj ⟨v3', rfl, s3, kvs2, hd2, hz2, hk2⟩
        have eb : (t.length : Int) + (j : Nat) * (-1) = ((t.length - j : Nat) : Int) := by omega
        rw [eb]
        have B2 := Bs.mono s3
        obtain ⟨dx2, hp2⟩ := B2.obj
        show sDPut _ _ _ _ _ _
        refine v_meth (val_var rfl) hp2 rfl (va_cons (val_var rfl) (va_cons (val_var rfl) (va_cons (val_var rfl) va_nil))) ⟨p, d, s.length - i, t.length - j, k, s, t, kvs2, rfl, ⟨cA, sA, tA, kA, B2⟩, by omega, by omega, hd2, fun x hx hroom => ?_, fun qq H3 s4 ha => ?_⟩
        · have hr2 := room_iff.mp hroom
          have hs2 := tk_some hx
          refine hk2 _ _ hr2.1 hr2.2 ?_
          omega
        · refine ⟨_, rfl, _, rfl, _, rfl, by show 2 ≤ sizeLine; decide, fun pk nk => ⟨d, _, rfl, DPut.t (k := key2 (s.length - i) (t.length - j)) (same_upd nk _ _ (s4 _ _ hd2)) upd_same ?_, ?_⟩⟩
          · have := Nat.mul_le_mul (show i ≤ 24 by omega) (show t.length + 1 ≤ 25 by omega)
            exact small1000 (by omega)
          · have hd3 := s4 _ _ hd2
            have nd3 : ∀ {y : Addr} {o : HO}, H y = some o → y ≠ d := fun e => ne_of_none e nd
            refine ⟨_, rfl, fun y o e => ?_, _, upd_same, ?_, ?_⟩
            · have e4 := s4 _ _ (s3 _ _ e)
              rw [upd_ne (nd3 e), upd_ne (ne_of_none e4 nk)]
              exact e4
            · have := putK_len kvs2 (key2 (s.length - i) (t.length - j)) (.ref qq)
              omega
            · intro a b h1 h2 h
              have up : ∀ q dx fs, H3 q = some (.ins c.Ahead dx fs) → upd (upd H3 pk (.tup [.int ((s.length - i : Nat) : Int), .int ((t.length - j : Nat) : Int)])) d (.dT (putK kvs2 (key2 (s.length - i) (t.length - j)) (.ref qq))) q = some (.ins c.Ahead dx fs) := fun q dx fs e => by
                rw [upd_ne (ne_of e hd3 (by intro z; cases z)), upd_ne (ne_of_none e nk)]
                exact e
              by_cases hk : a = s.length - i ∧ b = t.length - j
              · obtain ⟨dq, hq⟩ := ha
                refine ⟨qq, ?_, dq, ?_⟩
                · rw [valV_put, if_pos (by rw [hk.1, hk.2])]
                · rw [hk.1, hk.2]
                  exact up _ _ _ hq
              · obtain ⟨q1, e1, dq, hq⟩ := hk2 a b h1 h2 (by omega)
                refine ⟨q1, ?_, dq, up _ _ _ (s4 _ _ hq)⟩
                rw [valV_put, if_neg (fun e => hk (key2_inj e))]
                exact e1
      · rintro σ H2 ⟨v3', rfl, s3, kvs2, hd2, hz2, hk2⟩
        refine ⟨_, _, rfl, s3, kvs2, hd2, ?_, fun a b h1 h2 h => hk2 a b h1 h2 ?_⟩
        · rw [Nat.add_mul]
          omega
        · omega
    · rintro σ H1 ⟨v2, v3, rfl, s2, kvs, hd, hz, hk⟩
      dsimp only
      exact st_ret (val_var rfl) (q d H1 s2 ⟨kvs, hd, fun a b h1 h2 => hk a b h1 h2 (by omega)⟩)
end
end Sk

/-! The cheapest way told; what a way costs. -/
namespace Sk
open PySem PySem.Spec PyProof.Rows L2 SkR SkM
theorem AllAt.mono {c : Cs} {H H' : Hp} {d : Addr} {k : Sw73.Costs} {s t : Sw73.Tune} (h : AllAt c H d k s t) (m : L2.Same H H') : AllAt c H' d k s t :=
  let ⟨kvs, e, r⟩ := h; ⟨kvs, m _ _ e, fun a b h1 h2 => (r a b h1 h2).keep fun _ _ _ z => m _ _ z⟩
theorem best_B (k : Sw73.Costs) (s t : Sw73.Tune) : SkM.B k s t 0 0 = Sw73.best k s t := by
  rw [best_G]
  rfl
section
variable {K : PySem.W.Frag} {c : Cs} {σ : L2.St} {H : Hp} {td ta tb : TE} {d : Addr} {k : Sw73.Costs} {s t : Sw73.Tune} {a b : Nat} {Q : VK}
/-- known[(a, b)] -/
theorem v_known (hd : Val td σ H (.ref d)) (ha : Val ta σ H (.int a)) (hb : Val tb σ H (.int b)) (A : AllAt c H d k s t) (la : a ≤ s.length) (lb : b ≤ t.length)
    (q : ∀ (H1 : Hp) (x : Addr), L2.Same H H1 → AheadAt c H1 x (SkM.B k s t a b) → Q (.ref x) H1) : tDGet td (tTup (tCons ta (tCons tb tNil))) σ H Q := by
  obtain ⟨kvs, e, r⟩ := A
  obtain ⟨x, hx, hax⟩ := r a b la lb
  refine hd _ ?_
  refine ha _ ?_
  refine hb _ ⟨by show 2 ≤ sizeLine; decide, fun pk nk => ⟨d, .ref x, rfl, ?_, q _ x (same_upd nk) (hax.mono (same_upd nk))⟩⟩
  have := DGet.t (k := key2 a b) (same_upd (o := .tup [.int a, .int b]) nk _ _ e) (b := pk) upd_same
  rw [hx] at this
  exact this
end
section
variable {P : Program} {w : World} {K : PySem.W.Frag} {mg : Str → Option Value} {base : Heap} {c : Cs}
def spLeast (c : Cs) : Sp := fun vs H Q _ => ∃ (p : Addr) (k : Sw73.Costs) (s t : Sw73.Tune), vs = [.ref p] ∧ Bes c H p k s t ∧ ∀ H', L2.Same H H' → Q (.int (Sw73.best k s t).cost) H'
theorem scBeside_least_cost : FnScope ["self"] ["self"] (defScope sBeside_least_cost) := ⟨rfl, rfl, rfl, by decide +kernel, rfl, by decide +kernel, by decide +kernel⟩
theorem ok_Beside_least_cost {f : Addr} {fd : FuncData} (F : Fun K "least_cost" "Beside.least_cost" sBeside_least_cost f fd) (T : Txt K mg c) (D_Beside_all_ahead : Mt P w K mg base c.Beside "all_ahead" 5 ["self"] (spAllAhead c)) :
    FnOk P w K mg base CX0 6 f fd ["self"] (spLeast c) := by
  refine F.ok scBeside_least_cost (fun vs H Q E h => ?_) (fun cdv A outer s H vs Q E hr h => ?_)
  · obtain ⟨p, k, s, t, rfl, _⟩ := h
    rfl
  · obtain ⟨p, k, s, t, rfl, Bs, q⟩ := h
    have hu := hu_of hr
    have Bs' := Bs
    obtain ⟨cA, sA, tA, kA, B0⟩ := Bs'
    obtain ⟨dx, hp⟩ := B0.obj
    refine ⟨_, (pss_one (ps_ret (pe_fld (pe_dget hu (pe_mt0 D_Beside_all_ahead T.cl_Beside (hr.mono (by decide)) (pv 0)) (pe_tup (pa_cons pe_int (pa_cons pe_int pa_nil))) (fun _ _ => rfl)) rfl))), ?_⟩
    refine m_ret ?_
    refine v_meth (val_var rfl) hp rfl va_nil ⟨p, k, s, t, rfl, Bs, fun d H1 s1 A => ?_⟩
    obtain ⟨kvs, e, r⟩ := A
    obtain ⟨x, hx, hax⟩ := r 0 0 (Nat.zero_le _) (Nat.zero_le _)
    refine ⟨by show 2 ≤ sizeLine; decide, fun pk nk => ⟨d, .ref x, rfl, ?_, ?_⟩⟩
    · have := DGet.t (k := key2 0 0) (same_upd (o := .tup [.int 0, .int 0]) nk _ _ e) (b := pk) upd_same
      rw [hx] at this
      exact this
    · obtain ⟨dq, hq⟩ := hax.mono (same_upd (o := .tup [.int 0, .int 0]) nk)
      refine ⟨x, c.Ahead, dq, _, _, rfl, hq, T.cl_Ahead, T.n_Ahead_least, rfl, ?_⟩
      rw [best_B]
      exact q _ (L2.Same.trans s1 (same_upd nk))
def spBest (c : Cs) : Sp := fun vs H Q _ => ∃ (p : Addr) (k : Sw73.Costs) (s t : Sw73.Tune), vs = [.ref p] ∧ Bes c H p k s t ∧
  ∀ (q wl : Addr) (H' : Hp), L2.Same H H' → H' q = some (.tup [.int (Sw73.best k s t).cost, .int (Sw73.best k s t).many, .ref wl]) → H' wl = some (.lst ((Sw73.best k s t).way.map fun x => V.int (Sw73.stepOut x))) → Q (.ref q) H'
theorem scBeside_best : FnScope ["self", "known", "way", "a", "b", "step", "take", "taken"] ["self"] (defScope sBeside_best) := ⟨rfl, rfl, rfl, by decide +kernel, rfl, by decide +kernel, by decide +kernel⟩
theorem ok_Beside_best {f : Addr} {fd : FuncData} (F : Fun K "best" "Beside.best" sBeside_best f fd) (T : Txt K mg c) (D_Beside_all_ahead : Mt P w K mg base c.Beside "all_ahead" 5 ["self"] (spAllAhead c)) :
    FnOk P w K mg base CX0 6 f fd ["self"] (spBest c) := by
  refine F.ok scBeside_best (fun vs H Q E h => ?_) (fun cdv A outer s H vs Q E hr h => ?_)
  · obtain ⟨p, k, s, t, rfl, _⟩ := h
    rfl
  · obtain ⟨p, k, s, t, rfl, Bs, q⟩ := h
    have hu := hu_of hr
    have Bs' := Bs
    obtain ⟨cA, sA, tA, kA, B0⟩ := Bs'
    obtain ⟨dx, hp⟩ := B0.obj
    obtain ⟨aT, psT, h_TAKEN, tT, iT⟩ := T.c_TAKEN
    have zs := B0.ls
    have zt := B0.lt
    refine ⟨_, (pss_cons (ps_set (i := 1) scBeside_best.nd rfl (by first | exact Or.inl rfl | exact Or.inr rfl) (pe_mt0 D_Beside_all_ahead T.cl_Beside (hr.mono (by decide)) (pv 0)))
    (pss_cons (ps_set (i := 2) scBeside_best.nd rfl (by first | exact Or.inl rfl | exact Or.inr rfl) (pe_lst pa_nil))
    (pss_cons (ps_set (i := 3) scBeside_best.nd rfl (by first | exact Or.inl rfl | exact Or.inr rfl) pe_int)
    (pss_cons (ps_set (i := 4) scBeside_best.nd rfl (by first | exact Or.inl rfl | exact Or.inr rfl) pe_int)
    (pss_cons (ps_while PassesOwn.never (pt_cmpR op_notN (pe_fld (pe_dget hu (pv 1) (pe_tup (pa_cons (pv 3) (pa_cons (pv 4) pa_nil))) (fun _ _ => rfl)) rfl) pe_non (nomark _))
      (pss_cons (ps_set (i := 5) scBeside_best.nd rfl (by first | exact Or.inl rfl | exact Or.inr rfl) (pe_fld (pe_dget hu (pv 1) (pe_tup (pa_cons (pv 3) (pa_cons (pv 4) pa_nil))) (fun _ _ => rfl)) rfl))
    (pss_cons (ps_expr (pe_bm PySem.F.plainAttrs_list PySem.F.slot_list_append PySem.F.type_list_append mt_append (pv 2) (pa_cons (pv 5) pa_nil)))
    (pss_cons (ps_asg (pe_ix ix_tup (pe_cst h_TAKEN (by rfl)) (pv 5) (fun _ _ => rfl)) (pg_tup rfl (pgs_cons (pg_name (i := 6) scBeside_best.nd rfl (by first | exact Or.inl rfl | exact Or.inr rfl)) (pgs_cons (pg_name (i := 7) scBeside_best.nd rfl (by first | exact Or.inl rfl | exact Or.inr rfl)) pgs_nil))))
    (pss_cons (ps_set (i := 3) scBeside_best.nd rfl (by first | exact Or.inl rfl | exact Or.inr rfl) (pe_op op_add (pv 3) (pv 6)))
    (pss_one (ps_set (i := 4) scBeside_best.nd rfl (by first | exact Or.inl rfl | exact Or.inr rfl) (pe_op op_add (pv 4) (pv 7)))))))))
    (pss_one (ps_ret (pe_tup (pa_cons (pe_fld (pe_dget hu (pv 1) (pe_tup (pa_cons pe_int (pa_cons pe_int pa_nil))) (fun _ _ => rfl)) rfl) (pa_cons (pe_fld (pe_dget hu (pv 1) (pe_tup (pa_cons pe_int (pa_cons pe_int pa_nil))) (fun _ _ => rfl)) rfl) (pa_cons (pv 2) pa_nil))))))))))), ?_⟩
    refine st_seq ?_
    refine m_set ?_
    refine v_meth (val_var rfl) hp rfl va_nil ⟨p, k, s, t, rfl, Bs, fun d H1 s1 A => ?_⟩
    dsimp only
    refine st_seq ?_
    refine ⟨Nat.zero_le _, fun wl nw => ?_⟩
    dsimp only
    refine st_seq ?_
    refine st_set val_c ?_
    dsimp only
    refine st_seq ?_
    refine st_set val_c ?_
    dsimp only
    refine st_seq ?_
    have nwH : H wl = none := s1.free nw
    refine ⟨fun m σ H' => ∃ (a b : Nat) (done : List Sw73.Step) (v5 v6 v7 : Option V), σ = [some (.ref p), some (.ref d), some (.ref wl), some (.int a), some (.int b), v5, v6, v7] ∧ a ≤ s.length ∧ b ≤ t.length ∧ L2.Same H H' ∧ AllAt c H' d k s t ∧
      H' wl = some (.lst (done.map fun x => V.int (Sw73.stepOut x))) ∧ (Sw73.best k s t).way = done ++ (SkM.B k s t a b).way ∧ done.length ≤ a + b ∧ m = (s.length - a) + (t.length - b), ⟨s.length + t.length, 0, 0, [], none, none, none, rfl, Nat.zero_le _, Nat.zero_le _, ?_, A.mono (same_upd nw), upd_same, ?_, Nat.zero_le _, rfl⟩, ?_⟩
    · exact L2.Same.trans s1 (same_upd nw)
    · rw [best_B]
      rfl
    · rintro m σ H2 ⟨a, b, done, v5, v6, v7, rfl, la, lb, s2, A2, hw, ew, ld, rfl⟩
      refine v_known (val_var rfl) (val_var rfl) (val_var rfl) A2 la lb fun H3 x s3 hx => ?_
      obtain ⟨dq, hq⟩ := hx
      refine ⟨x, c.Ahead, dq, _, _, rfl, hq, T.cl_Ahead, T.n_Ahead_step, rfl, rfl, ?_⟩
      by_cases he : a = s.length ∧ b = t.length
      · have e0 : (SkM.B k s t a b).way = [] := by rw [he.1, he.2, B_end]
        rw [e0]
        refine ⟨_, rfl, iteF ?_⟩
        dsimp only
        -- return (known[0, 0].least, known[0, 0].many, way)
        have hw3 := s3 _ _ hw
        have A3 := A2.mono s3
        refine m_ret ?_
        refine v_known (a := 0) (b := 0) (val_var rfl) val_c val_c A3 (Nat.zero_le _) (Nat.zero_le _) fun H4 x4 s4 hx4 => ?_
        obtain ⟨dq4, hq4⟩ := hx4
        refine ⟨x4, c.Ahead, dq4, _, _, rfl, hq4, T.cl_Ahead, T.n_Ahead_least, rfl, ?_⟩
        refine v_known (a := 0) (b := 0) (val_var rfl) val_c val_c (A3.mono s4) (Nat.zero_le _) (Nat.zero_le _) fun H5 x5 s5 hx5 => ?_
        obtain ⟨dq5, hq5⟩ := hx5
        refine ⟨x5, c.Ahead, dq5, _, _, rfl, hq5, T.cl_Ahead, T.n_Ahead_many, rfl, ?_⟩
        refine ⟨_, rfl, by show 3 ≤ sizeLine; decide, fun qp nq => ?_⟩
        rw [best_B]
        have s25 : L2.Same H2 H5 := L2.Same.trans s3 (L2.Same.trans s4 s5)
        have hw5 := s25 _ _ hw
        refine q qp wl _ (L2.Same.trans s2 (L2.Same.trans s25 (same_upd nq))) upd_same ?_
        rw [upd_ne (ne_of_none hw5 nq), hw5, ew, e0, List.append_nil]
      · obtain ⟨j, L⟩ := B_step k s t la lb he
        obtain ⟨j9, hroom⟩ := opts_lt L.mem
        have hr2 := room_iff.mp hroom
        have e0 : (SkM.B k s t a b).way = Sw73.STEPS.getD j .both :: (SkM.B k s t (a + (tk j).1) (b + (tk j).2)).way := L.way
        rw [e0]
        have e9 : Sw73.stepOut (Sw73.STEPS.getD j .both) = (j : Int) := stepOut_at j9
        refine ⟨_, rfl, iteT ⟨_, fun _ _ h => h, ?_⟩⟩
        have hw3 := s3 _ _ hw
        have A3 := A2.mono s3
        refine st_seq ?_
        refine m_set ?_
        refine v_known (val_var rfl) (val_var rfl) (val_var rfl) A3 la lb fun H4 x4 s4 hx4 => ?_
        obtain ⟨dq4, hq4⟩ := hx4
        refine ⟨x4, c.Ahead, dq4, _, _, rfl, hq4, T.cl_Ahead, T.n_Ahead_step, rfl, ?_⟩
        rw [e0]
        dsimp only
        have hw4 := s4 _ _ hw3
        refine st_seq ?_
        refine m_appendV (K := K) (v := .int j) (val_var rfl) hw4 (by rw [List.length_map]; exact small1000 (by omega)) (val_var (by show some (some (V.int (Sw73.stepOut (Sw73.STEPS.getD j .both)))) = _; rw [e9])) ?_
        obtain ⟨u, hu1, hu2⟩ := taken_at j9 (iT (upd H4 wl (.lst ((done.map fun x => V.int (Sw73.stepOut x)) ++ [.int j]))))
        dsimp only
        refine st_seq ?_
        refine m_asg ?_
        refine v_ixT (K := K) (n := j) val_c (tT _) (val_var (by show some (some (V.int (Sw73.stepOut (Sw73.STEPS.getD j .both)))) = _; rw [e9])) (v := .ref u) (by rw [List.getElem?_map, hu1]; rfl) _ ?_
        refine ⟨u, _, rfl, hu2, rfl, _, _, rfl, _, _, rfl, rfl, ?_⟩
        dsimp only
        refine st_seq ?_
        refine st_set (v_add (val_var rfl) (val_var rfl)) ?_
        dsimp only
        refine st_set (v_add (val_var rfl) (val_var rfl)) ?_
        have hs2 := tk_some j9
        have s24 : L2.Same H2 H4 := L2.Same.trans s3 s4
        have nwd : ∀ {y : Addr} {o : HO}, H y = some o → y ≠ wl := fun e => ne_of_none e nwH
        refine ⟨_, ?_, a + (tk j).1, b + (tk j).2, done ++ [Sw73.STEPS.getD j .both], some (.int (Sw73.stepOut (Sw73.STEPS.getD j .both))), some (.int (tk j).1), some (.int (tk j).2), ?_, hr2.1, hr2.2, ?_, ?_, ?_, ?_, ?_, rfl⟩
        · omega
        · rw [Int.natCast_add, Int.natCast_add]
          rfl
        · intro y o e
          rw [upd_ne (nwd e)]
          exact s24 _ _ (s2 _ _ e)
        · obtain ⟨kvs, e, r⟩ := A3.mono s4
          refine ⟨kvs, ?_, fun a' b' h1 h2 => (r a' b' h1 h2).keep fun y dy fs z => ?_⟩
          · rw [upd_ne (ne_of e hw4 (by intro z; cases z))]
            exact e
          · rw [upd_ne (ne_of z hw4 (by intro z; cases z))]
            exact z
        · rw [upd_same, List.map_append]
          show some (HO.lst (_ ++ [V.int j])) = some (HO.lst (_ ++ [V.int (Sw73.stepOut (Sw73.STEPS.getD j .both))]))
          rw [e9]
        · rw [ew, e0, List.append_assoc]
          rfl
        · rw [List.length_append]
          show done.length + 1 ≤ _
          omega
end
end Sk

/-! What a way costs. -/
namespace Sk
open PySem PySem.Spec PyProof.Rows L2 SkR SkM
def optV : Option Nat → V
  | none => .non
  | some n => .int n
def stepsOf (is : List Nat) : List Sw73.Step := is.map fun i => Sw73.STEPS.getD i .both
theorem costOf_cons (k : Sw73.Costs) (s t : Sw73.Tune) (x : Sw73.Step) (l : List Sw73.Step) : Sw73.costOf k s t (x :: l) = if Sw73.STEPS.contains x = false ∨ s.length < x.takes.1 ∨ t.length < x.takes.2 then none else
    (Sw73.costOf k (s.drop x.takes.1) (t.drop x.takes.2) l).map fun n => Sw73.stepCost k (s.take x.takes.1) (t.take x.takes.2) + n := by
  cases s <;> cases t <;> rfl
theorem costOf_nil (k : Sw73.Costs) (s t : Sw73.Tune) : Sw73.costOf k s t [] = if s = [] ∧ t = [] then some 0 else none := by
  cases s <;> cases t <;> simp [Sw73.costOf]
theorem costOf_step (k : Sw73.Costs) (s t : Sw73.Tune) {a b i : Nat} (hi : i < 9) (ha : a ≤ s.length) (hb : b ≤ t.length) (l : List Sw73.Step) : Sw73.costOf k (s.drop a) (t.drop b) (Sw73.STEPS.getD i .both :: l) =
    if room s t a b i = true then (Sw73.costOf k (s.drop (a + (tk i).1)) (t.drop (b + (tk i).2)) l).map (fun n => costAt k s t a b i + n) else none := by
  rw [costOf_cons]
  have hc : Sw73.STEPS.contains (Sw73.STEPS.getD i .both) = true := by
    have : ∀ i, i < 9 → Sw73.STEPS.contains (Sw73.STEPS.getD i .both) = true := by decide
    exact this i hi
  have e1 : (Sw73.STEPS.getD i .both).takes = tk i := rfl
  rw [e1]
  cases hroom : room s t a b i with
  | true =>
    have := room_iff.mp hroom
    rw [if_pos rfl, if_neg]
    · rw [List.drop_drop, List.drop_drop]
      rfl
    · rw [hc, List.length_drop, List.length_drop]
      intro h
      rcases h with h | h | h
      · cases h
      · omega
      · omega
  | false =>
    rw [if_neg Bool.false_ne_true, if_pos]
    have h : ¬ (a + (tk i).1 ≤ s.length ∧ b + (tk i).2 ≤ t.length) := fun h => by rw [room_iff.mpr h] at hroom; cases hroom
    rw [List.length_drop, List.length_drop]
    omega
section
variable {P : Program} {w : World} {K : PySem.W.Frag} {mg : Str → Option Value} {base : Heap} {c : Cs}
def spCostOf (K : PySem.W.Frag) (c : Cs) : Sp := fun vs H Q _ => ∃ (p sa : Addr) (k : Sw73.Costs) (s t : Sw73.Tune) (is : List Nat), vs = [.ref p, .ref sa] ∧ Bes c H p k s t ∧ SqL K H sa (is.map fun (i : Nat) => V.int i) ∧ (∀ i ∈ is, i < 9) ∧
  ∀ H', L2.Same H H' → Q (optV (Sw73.costOf k s t (stepsOf is))) H'
theorem scBeside_cost_of : FnScope ["self", "steps", "found", "a", "b", "step", "take", "taken"] ["self", "steps"] (defScope sBeside_cost_of) := ⟨rfl, rfl, rfl, by decide +kernel, rfl, by decide +kernel, by decide +kernel⟩
theorem ok_Beside_cost_of {f : Addr} {fd : FuncData} (F : Fun K "cost_of" "Beside.cost_of" sBeside_cost_of f fd) (T : Txt K mg c) (D_Beside_has_room : Mt P w K mg base c.Beside "has_room" 1 ["self", "step", "a", "b"] (spRoom c))
    (D_Beside_step_cost : Mt P w K mg base c.Beside "step_cost" 2 ["self", "step", "a", "b"] (spStepCost c)) : FnOk P w K mg base CX0 3 f fd ["self", "steps"] (spCostOf K c) := by
  refine F.ok scBeside_cost_of (fun vs H Q E h => ?_) (fun cdv A outer s H vs Q E hr h => ?_)
  · obtain ⟨p, sa, k, s, t, is, rfl, _⟩ := h
    rfl
  · obtain ⟨p, sa, k, s, t, is, rfl, Bs, hsa, h9, q⟩ := h
    have hu := hu_of hr
    have Bs' := Bs
    obtain ⟨cA, sA, tA, kA, B0⟩ := Bs'
    obtain ⟨aT, psT, h_TAKEN, tT, iT⟩ := T.c_TAKEN
    refine ⟨_, (pss_cons (ps_set (i := 2) scBeside_cost_of.nd rfl (by first | exact Or.inl rfl | exact Or.inr rfl) pe_int)
    (pss_cons (ps_set (i := 3) scBeside_cost_of.nd rfl (by first | exact Or.inl rfl | exact Or.inr rfl) pe_int)
    (pss_cons (ps_set (i := 4) scBeside_cost_of.nd rfl (by first | exact Or.inl rfl | exact Or.inr rfl) pe_int)
    (pss_cons (ps_for PassesOwn.never rfl (pi_list (pv 1)) (pg_name (i := 5) scBeside_cost_of.nd rfl (by first | exact Or.inl rfl | exact Or.inr rfl))
      (pss_cons (ps_if (pt_not (pt_val (pe_mt D_Beside_has_room T.cl_Beside (hr.mono (by decide)) (pv 0) (pa_cons (pv 5) (pa_cons (pv 3) (pa_cons (pv 4) pa_nil)))))) (pss_one (ps_ret pe_non)) pss_nil)
    (pss_cons (ps_set (i := 2) scBeside_cost_of.nd rfl (by first | exact Or.inl rfl | exact Or.inr rfl) (pe_op op_add (pv 2) (pe_mt D_Beside_step_cost T.cl_Beside (hr.mono (by decide)) (pv 0) (pa_cons (pv 5) (pa_cons (pv 3) (pa_cons (pv 4) pa_nil))))))
    (pss_cons (ps_asg (pe_ix ix_tup (pe_cst h_TAKEN (by rfl)) (pv 5) (fun _ _ => rfl)) (pg_tup rfl (pgs_cons (pg_name (i := 6) scBeside_cost_of.nd rfl (by first | exact Or.inl rfl | exact Or.inr rfl)) (pgs_cons (pg_name (i := 7) scBeside_cost_of.nd rfl (by first | exact Or.inl rfl | exact Or.inr rfl)) pgs_nil))))
    (pss_cons (ps_set (i := 3) scBeside_cost_of.nd rfl (by first | exact Or.inl rfl | exact Or.inr rfl) (pe_op op_add (pv 3) (pv 6)))
    (pss_one (ps_set (i := 4) scBeside_cost_of.nd rfl (by first | exact Or.inl rfl | exact Or.inr rfl) (pe_op op_add (pv 4) (pv 7)))))))))
    (pss_cons (ps_if (PW.pt (pw_or (pt_cmpR op_ne (pv 3) (pe_callB call_len_seq (by rfl) T.b_len PySem.boot_len (pa_cons (pe_fld (pv 0) rfl) pa_nil)) (nomark _)) (pw_or1 (pt_cmpR op_ne (pv 4) (pe_callB call_len_seq (by rfl) T.b_len PySem.boot_len (pa_cons (pe_fld (pv 0) rfl) pa_nil)) (nomark _))))) (pss_one (ps_ret pe_non)) pss_nil)
    (pss_one (ps_ret (pv 2)))))))), ?_⟩
    refine st_seq ?_
    refine st_set val_c ?_
    dsimp only
    refine st_seq ?_
    refine st_set val_c ?_
    dsimp only
    refine st_seq ?_
    refine st_set val_c ?_
    dsimp only
    refine st_seq ?_
    refine ⟨_, rfl, sa, rfl, ⟨_, hsa⟩, for_list (K := K) (a := sa) (xs := is.map fun (i : Nat) => V.int i) (fun n σ H' => ∃ (z a b : Nat) (v5 v6 v7 : Option V), σ = [some (.ref p), some (.ref sa), some (.int z), some (.int a), some (.int b), v5, v6, v7] ∧ L2.Same H H' ∧ a ≤ s.length ∧ b ≤ t.length ∧
        Sw73.costOf k s t (stepsOf is) = (Sw73.costOf k (s.drop a) (t.drop b) (stepsOf (is.drop n))).map fun x => z + x)
      ⟨0, 0, 0, none, none, none, rfl, L2.Same.refl H, Nat.zero_le _, Nat.zero_le _, ?_⟩ (fun n σ H' _ ⟨_, _, _, _, _, _, _, s1, _⟩ => s1.seq hsa) ?_ ?_⟩
    · rw [List.drop_zero, List.drop_zero, List.drop_zero]
      cases Sw73.costOf k s t (stepsOf is) with
      | none => rfl
      | some x => show some x = some (0 + x); rw [Nat.zero_add]
    · rintro n x σ H1 hx ⟨z, a, b, v5, v6, v7, rfl, s1, la, lb, e⟩
      obtain ⟨i, hi, rfl⟩ : ∃ i, is[n]? = some i ∧ x = V.int (i : Nat) := by
        rw [List.getElem?_map] at hx
        cases hy : is[n]? with
        | none => rw [hy] at hx; cases hx
        | some y => rw [hy] at hx; exact ⟨y, rfl, (Option.some.inj hx).symm⟩
      have i9 := h9 i (List.mem_of_getElem? hi)
      have ed : stepsOf (is.drop n) = Sw73.STEPS.getD i .both :: stepsOf (is.drop (n + 1)) := by
        rw [List.drop_eq_getElem?_toList_append, hi]
        rfl
      rw [ed, costOf_step k s t i9 la lb] at e
      have B1 := B0.mono s1
      obtain ⟨dx, hp⟩ := B1.obj
      refine st_seq ?_
      refine m_if ?_
      show tMeth _ _ _ _ _ _ _ _ _ _
      refine v_meth (val_var rfl) hp rfl (va_cons (val_var rfl) (va_cons (val_var rfl) (va_cons (val_var rfl) va_nil))) ⟨p, i, a, b, k, s, t, rfl, i9, ⟨cA, sA, tA, kA, B1⟩, _, rfl, ?_⟩
      cases hroom : room s t a b i with
      | false =>
        rw [hroom, if_neg Bool.false_ne_true] at e
        refine iteT ?_
        refine m_ret ?_
        have := q H1 s1
        rw [e] at this
        exact this
      | true =>
        rw [hroom, if_pos rfl] at e
        refine iteF ?_
        refine st_next ?_
        dsimp only
        have hr2 := room_iff.mp hroom
        refine st_seq ?_
        refine m_set ?_
        refine ⟨_, rfl, ?_⟩
        refine v_meth (val_var rfl) hp rfl (va_cons (val_var rfl) (va_cons (val_var rfl) (va_cons (val_var rfl) va_nil))) ⟨p, i, a, b, k, s, t, rfl, i9, ⟨cA, sA, tA, kA, B1⟩, hroom, fun H2 s2 => ⟨_, _, rfl, rfl, ?_⟩⟩
        dsimp only
        obtain ⟨u, hu1, hu2⟩ := taken_at i9 (iT H2)
        refine st_seq ?_
        refine m_asg ?_
        refine v_ixT (K := K) (n := i) val_c (tT H2) (val_var rfl) (v := .ref u) (by rw [List.getElem?_map, hu1]; rfl) _ ?_
        refine ⟨u, _, rfl, hu2, rfl, _, _, rfl, _, _, rfl, rfl, ?_⟩
        dsimp only
        refine st_seq ?_
        refine st_set (v_add (val_var rfl) (val_var rfl)) ?_
        dsimp only
        refine st_set (v_add (val_var rfl) (val_var rfl)) ?_
        refine ⟨z + costAt k s t a b i, a + (tk i).1, b + (tk i).2, some (.int i), some (.int (tk i).1), some (.int (tk i).2), ?_, L2.Same.trans s1 s2, hr2.1, hr2.2, ?_⟩
        · rw [Int.natCast_add, Int.natCast_add, Int.natCast_add]
          rfl
        · rw [e, Option.map_map]
          congr 1
          funext y
          show z + (costAt k s t a b i + y) = z + costAt k s t a b i + y
          omega
    · rintro σ H1 ⟨z, a, b, v5, v6, v7, rfl, s1, la, lb, e⟩
      rw [List.length_map, List.drop_length] at e
      have e : Sw73.costOf k s t (stepsOf is) = (Sw73.costOf k (s.drop a) (t.drop b) []).map fun x => z + x := e
      rw [costOf_nil] at e
      have B1 := B0.mono s1
      obtain ⟨dx, hp⟩ := B1.obj
      obtain ⟨sp, hs, prs⟩ := B1.one
      obtain ⟨tp, ht, prt⟩ := B1.other
      dsimp only
      refine st_seq ?_
      have d1 : (!decide (V.int a = V.int (sp.map V.ref).length)) = decide (a ≠ s.length) := by
        rw [List.length_map, Paired.length prs, dec_int, Bool.eq_iff_iff, decide_eq_true_eq, Bool.not_eq_true', beq_eq_false_iff_ne]
        omega
      have d2 : (!decide (V.int b = V.int (tp.map V.ref).length)) = decide (b ≠ t.length) := by
        rw [List.length_map, Paired.length prt, dec_int, Bool.eq_iff_iff, decide_eq_true_eq, Bool.not_eq_true', beq_eq_false_iff_ne]
        omega
      by_cases ea : a = s.length
      · rw [show decide (a ≠ s.length) = false from decide_eq_false (fun h => h ea)] at d1
        by_cases eb : b = t.length
        · rw [show decide (b ≠ t.length) = false from decide_eq_false (fun h => h eb)] at d2
          refine st_no (ans_or (ans_ne (val_var rfl) (v_len (K := K) (p := sA) (v_Beside_one T (val_var rfl) hp) (SqL.of hs) fun Q q => ⟨_, _, rfl, .inl (SqL.of hs), q⟩) rfl d1)
            (ans_ne (val_var rfl) (v_len (K := K) (p := tA) (v_Beside_other T (val_var rfl) hp) (SqL.of ht) fun Q q => ⟨_, _, rfl, .inl (SqL.of ht), q⟩) rfl d2)) ?_
          refine st_next ?_
          dsimp only
          refine st_ret (val_var rfl) ?_
          have := q H1 s1
          rw [e, if_pos ⟨by rw [ea, List.drop_length], by rw [eb, List.drop_length]⟩] at this
          exact this
        · rw [show decide (b ≠ t.length) = true from decide_eq_true eb] at d2
          refine st_yes (ans_or (ans_ne (val_var rfl) (v_len (K := K) (p := sA) (v_Beside_one T (val_var rfl) hp) (SqL.of hs) fun Q q => ⟨_, _, rfl, .inl (SqL.of hs), q⟩) rfl d1)
            (ans_ne (val_var rfl) (v_len (K := K) (p := tA) (v_Beside_other T (val_var rfl) hp) (SqL.of ht) fun Q q => ⟨_, _, rfl, .inl (SqL.of ht), q⟩) rfl d2)) ?_
          refine st_ret val_c ?_
          have := q H1 s1
          rw [e, if_neg (fun h => eb (by have := List.drop_eq_nil_iff.mp h.2; omega))] at this
          exact this
      · rw [show decide (a ≠ s.length) = true from decide_eq_true ea] at d1
        refine st_yes (ans_or1 (ans_ne (val_var rfl) (v_len (K := K) (p := sA) (v_Beside_one T (val_var rfl) hp) (SqL.of hs) fun Q q => ⟨_, _, rfl, .inl (SqL.of hs), q⟩) rfl d1)) ?_
        refine st_ret val_c ?_
        have := q H1 s1
        rw [e, if_neg (fun h => ea (by have := List.drop_eq_nil_iff.mp h.1; omega))] at this
        exact this
end
end Sk

/-! Shifts; the nearest pair; the tree. Plain Lean. -/
namespace SkM
open Sw73
open SkR (lexOf)

/-! ### shifts -/
theorem outwards_eq : outwards 24 = 0 :: (List.range 24).flatMap fun (i : Nat) => [((i : Int) + 1), -((i : Int) + 1)] := by decide
theorem moved_zero (t : Tune) : moved 0 t = t := by
  unfold moved
  induction t with
  | nil => rfl
  | cons x t ih =>
    rw [List.map_cons, ih]
    congr 1
    obtain ⟨k, l⟩ := x
    cases k with
    | none => rfl
    | some a => show (⟨some (a + 0), l⟩ : Note) = ⟨some a, l⟩; rw [Int.add_zero]
def shiftStep (c : Costs) (s t : Tune) (b : Nat × Int) (k : Int) : Nat × Int := if (best c s (moved k t)).cost < b.1 then ((best c s (moved k t)).cost, k) else b
theorem shift_zero (c : Costs) (s t : Tune) : shiftStep c s t ((best c s t).cost, 0) 0 = ((best c s t).cost, 0) := by
  unfold shiftStep
  rw [moved_zero, if_neg (Nat.lt_irrefl _)]
theorem shift_eq (c : Costs) (s t : Tune) : shift c s t = ((outwards 24).tail).foldl (shiftStep c s t) ((best c s t).cost, 0) := by
  have e : shift c s t = (outwards 24).foldl (shiftStep c s t) ((best c s t).cost, 0) := by
    unfold shift FAR shiftStep
    rfl
  rw [e, outwards_eq, List.foldl_cons, List.tail_cons, shift_zero]

/-! ### the nearest pair -/
def cands (n : Nat) (ins : List Nat) : List (Nat × Nat) := ins.flatMap fun i => ((List.range n).filter fun j => !ins.contains j).map fun j => (i, j)
def less (D : Nat × Nat → Nat) (x y : Nat × Nat) : Prop := D x < D y ∨ (D x = D y ∧ (x.1 < y.1 ∨ (x.1 = y.1 ∧ x.2 < y.2)))
instance (D : Nat × Nat → Nat) (x y : Nat × Nat) : Decidable (less D x y) := by unfold less; infer_instance
def pick (D : Nat × Nat → Nat) (b : Option (Nat × Nat)) (x : Nat × Nat) : Option (Nat × Nat) := match b with
  | none => some x
  | some y => if less D x y then some x else some y
theorem less_trans {D : Nat × Nat → Nat} {x y z : Nat × Nat} (h1 : less D x y) (h2 : less D y z) : less D x z := by
  unfold less at *
  omega
theorem less_irrefl {D : Nat × Nat → Nat} {x : Nat × Nat} : ¬ less D x x := by
  unfold less
  omega
theorem less_anti {D : Nat × Nat → Nat} {x y : Nat × Nat} (h1 : ¬ less D x y) (h2 : ¬ less D y x) : x = y := by
  unfold less at *
  obtain ⟨a, b⟩ := x
  obtain ⟨c, d⟩ := y
  have : a = c ∧ b = d := by
    simp only at *
    omega
  rw [this.1, this.2]
theorem pick_least (D : Nat × Nat → Nat) : ∀ (l p : List (Nat × Nat)) (y : Nat × Nat), y ∈ p → (∀ x ∈ p, ¬ less D x y) → ∃ z, l.foldl (pick D) (some y) = some z ∧ z ∈ p ++ l ∧ ∀ x ∈ p ++ l, ¬ less D x z
  | [], p, y, hy, h => ⟨y, rfl, by rw [List.append_nil]; exact hy, by rw [List.append_nil]; exact h⟩
  | a :: l, p, y, hy, h => by
    rw [List.foldl_cons]
    have e : p ++ a :: l = (p ++ [a]) ++ l := by rw [List.append_assoc]; rfl
    rw [e]
    show ∃ z, l.foldl (pick D) (if less D a y then some a else some y) = some z ∧ _
    by_cases ha : less D a y
    · rw [if_pos ha]
      refine pick_least D l (p ++ [a]) a (by simp) fun x hx => ?_
      rcases List.mem_append.mp hx with hx | hx
      · exact fun hl => h x hx (less_trans hl ha)
      · rw [List.mem_singleton.mp hx]; exact less_irrefl
    · rw [if_neg ha]
      refine pick_least D l (p ++ [a]) y (List.mem_append_left _ hy) fun x hx => ?_
      rcases List.mem_append.mp hx with hx | hx
      · exact h x hx
      · rw [List.mem_singleton.mp hx]; exact ha
theorem nearest_eq (d : List (List Nat)) (ins : List Nat) : nearest d ins = (cands d.length ins).foldl (pick fun x => (d.getD x.1 []).getD x.2 0) none := by
  unfold nearest cands
  congr 1
/-- the triple of a pair -/
def trip (D : Nat × Nat → Nat) (x : Nat × Nat) : List Int := [(D x : Int), (x.1 : Int), (x.2 : Int)]
theorem lex_trip {D : Nat × Nat → Nat} {x y : Nat × Nat} : HT.lexLt (trip D x) (trip D y) = decide (less D x y) := by
  rw [Bool.eq_iff_iff, decide_eq_true_eq]
  unfold trip
  rw [HT.lexLt_cons, HT.lexLt_cons, HT.lexLt_cons, HT.lexLt_nil_nil]
  unfold less
  by_cases e1 : (D x : Int) = D y
  · rw [if_pos e1]
    by_cases e2 : (x.1 : Int) = y.1
    · rw [if_pos e2]
      by_cases e3 : (x.2 : Int) = y.2
      · rw [if_pos e3]
        constructor
        · intro h; cases h
        · intro h; omega
      · rw [if_neg e3, decide_eq_true_eq]; omega
    · rw [if_neg e2, decide_eq_true_eq]; omega
  · rw [if_neg e1, decide_eq_true_eq]; omega
/-- what min picks is the nearest pair -/
theorem trip_min {d : List (List Nat)} {ins : List Nat} {p : Nat} (hne : cands d.length ins ≠ [])
    (hp : PySem.argBest (lexOf ((cands d.length ins).map (trip fun x => (d.getD x.1 []).getD x.2 0))) ((cands d.length ins).length - 1) = p) : nearest d ins = (cands d.length ins)[p]? := by
  have key : ∀ (L : List (Nat × Nat)) (D : Nat × Nat → Nat), L ≠ [] → ∀ p, PySem.argBest (lexOf (L.map (trip D))) (L.length - 1) = p → L.foldl (pick D) none = L[p]? := by
    intro L D hne p hp
    cases L with
    | nil => exact absurd rfl hne
    | cons a l =>
      obtain ⟨z, e, hz, hm⟩ := pick_least D l [a] a (List.mem_singleton_self a) (fun x hx => by rw [List.mem_singleton.mp hx]; exact less_irrefl)
      have e : (a :: l).foldl (pick D) none = some z := e
      rw [e]
      have hz : z ∈ a :: l := hz
      have hm : ∀ x ∈ a :: l, ¬ less D x z := hm
      obtain ⟨q, hq⟩ := List.mem_iff_getElem?.mp hz
      have lq := (List.getElem?_eq_some_iff.mp hq).1
      have lp : p < (a :: l).length := by
        have := argBest_le (lexOf ((a :: l).map (trip D))) ((a :: l).length - 1)
        rw [List.length_cons] at *
        omega
      obtain ⟨y, hy⟩ : ∃ y, (a :: l)[p]? = some y := ⟨_, List.getElem?_eq_getElem lp⟩
      have h1 := argBest_min ((a :: l).map (trip D)) ((a :: l).length - 1) q (by omega)
      rw [hp] at h1
      unfold lexOf at h1
      rw [List.getD_eq_getElem?_getD, List.getD_eq_getElem?_getD, List.getElem?_map, List.getElem?_map, hq, hy] at h1
      have h1 : HT.lexLt (trip D z) (trip D y) = false := h1
      rw [lex_trip, decide_eq_false_iff_not] at h1
      have h2 := hm y (List.mem_of_getElem? hy)
      rw [hy, less_anti h1 h2]
  rw [nearest_eq]
  exact key _ _ hne p hp
/-! ### the distances of a family -/
def dist (k : Costs) (ts : List Tune) : List (List Nat) := (List.range ts.length).map fun i => (List.range ts.length).map fun j => far k ts i j
theorem dist_len (k : Costs) (ts : List Tune) : (dist k ts).length = ts.length := by unfold dist; rw [List.length_map, List.length_range]
theorem dist_at (k : Costs) (ts : List Tune) {i j : Nat} (hi : i < ts.length) (hj : j < ts.length) : ((dist k ts).getD i []).getD j 0 = far k ts i j := by
  have e1 : (dist k ts).getD i [] = (List.range ts.length).map fun j => far k ts i j := by
    unfold dist
    rw [List.getD_eq_getElem?_getD, List.getElem?_map, List.getElem?_range hi]
    rfl
  rw [e1, List.getD_eq_getElem?_getD, List.getElem?_map, List.getElem?_range hj]
  rfl
theorem mem_cands {n : Nat} {ins : List Nat} {x : Nat × Nat} : x ∈ cands n ins ↔ x.1 ∈ ins ∧ x.2 < n ∧ x.2 ∉ ins := by
  unfold cands
  rw [List.mem_flatMap]
  constructor
  · rintro ⟨i, hi, h⟩
    obtain ⟨j, hj, rfl⟩ := List.mem_map.mp h
    obtain ⟨h1, h2⟩ := List.mem_filter.mp hj
    refine ⟨hi, List.mem_range.mp h1, ?_⟩
    simpa using h2
  · rintro ⟨h1, h2, h3⟩
    exact ⟨x.1, h1, List.mem_map.mpr ⟨x.2, List.mem_filter.mpr ⟨List.mem_range.mpr h2, by simpa using h3⟩, rfl⟩⟩
/-- the pigeons -/
theorem nodup_le {α : Type} [DecidableEq α] : ∀ {l m : List α}, l.Nodup → (∀ x ∈ l, x ∈ m) → l.length ≤ m.length
  | [], _, _, _ => Nat.zero_le _
  | a :: l, m, h, hs => by
    have h2 := List.nodup_cons.mp h
    have ha := hs a List.mem_cons_self
    have ih := nodup_le (l := l) (m := m.erase a) h2.2 fun x hx => by
      refine (List.mem_erase_of_ne ?_).mpr (hs x (List.mem_cons_of_mem _ hx))
      intro e
      exact h2.1 (e ▸ hx)
    rw [List.length_erase_of_mem ha] at ih
    have := List.length_pos_of_mem ha
    rw [List.length_cons]
    omega
theorem outside {n : Nat} {ins : List Nat} (hn : ins.Nodup) (hlt : ins.length < n) : ∃ j, j < n ∧ j ∉ ins := by
  refine Classical.byContradiction fun h => ?_
  have : (List.range n).length ≤ ins.length := nodup_le List.nodup_range fun x hx => Classical.byContradiction fun hx' => h ⟨x, List.mem_range.mp hx, hx'⟩
  rw [List.length_range] at this
  omega
theorem inside_all {n : Nat} {ins : List Nat} (hn : ins.Nodup) (hlt : ∀ x ∈ ins, x < n) (he : n ≤ ins.length) : cands n ins = [] := by
  refine List.eq_nil_iff_forall_not_mem.mpr fun x hx => ?_
  obtain ⟨h1, h2, h3⟩ := mem_cands.mp hx
  have h4 : (x.2 :: ins).Nodup := List.nodup_cons.mpr ⟨h3, hn⟩
  have := nodup_le (m := List.range n) h4 fun y hy => by
    rcases List.mem_cons.mp hy with e | hy
    · rw [e]; exact List.mem_range.mpr h2
    · exact List.mem_range.mpr (hlt y hy)
  rw [List.length_cons, List.length_range] at this
  omega
theorem grow_none {d : List (List Nat)} {ins : List Nat} (h : cands d.length ins = []) : ∀ f, growFrom d f ins = []
  | 0 => rfl
  | f + 1 => by
    show (match nearest d ins with | none => [] | some x => x :: growFrom d f (ins ++ [x.2])) = []
    rw [nearest_eq, h]
    rfl
theorem grow_some {d : List (List Nat)} {ins : List Nat} {x : Nat × Nat} {f : Nat} (h : nearest d ins = some x) : growFrom d (f + 1) ins = x :: growFrom d f (ins ++ [x.2]) := by
  show (match nearest d ins with | none => [] | some x => x :: growFrom d f (ins ++ [x.2])) = _
  rw [h]
end SkM

/-! Families: made, put, drop, has, beside. -/
namespace Sk
open PySem PySem.Spec PyProof.Rows L2 SkR SkM
/-- what is known of distances -/
structure Known (kvs : List (List Key × V)) (k : Sw73.Costs) (ts : List Sw73.Tune) : Prop where
  nd : (kvs.map (·.1)).Nodup
  keys : ∀ e ∈ kvs, ∃ i j, i < ts.length ∧ j < ts.length ∧ e.1 = key2 i j
  vals : ∀ i j v, valV kvs (key2 i j) = some v → v = .int (Sw73.far k ts i j)
theorem Known.nil (k : Sw73.Costs) (ts : List Sw73.Tune) : Known [] k ts := ⟨List.nodup_nil, fun e h => (nomatch h), fun i j v h => (nomatch h)⟩
structure FamAt (c : Cs) (H : Hp) (f cA tA kA : Addr) (tps : List Addr) (kvs : List (List Key × V)) (k : Sw73.Costs) (ts : List Sw73.Tune) : Prop where
  obj : ∃ dx, H f = some (.ins c.Family dx (fFamily (.ref cA) (.ref tA) (.ref kA)))
  costs : CostsAt c H cA k
  lst : H tA = some (.lst (tps.map V.ref))
  tunes : Paired (TuneAt c H) tps ts
  apart : tA ∉ tps
  dict : H kA = some (.dT kvs)
  known : Known kvs k ts
  ok : CostsOk k
  ln : ts.length ≤ 8
  lens : ∀ t ∈ ts, t.length ≤ 24
theorem FamAt.mono {c : Cs} {H H' : Hp} {f cA tA kA : Addr} {tps : List Addr} {kvs : List (List Key × V)} {k : Sw73.Costs} {ts : List Sw73.Tune} (h : FamAt c H f cA tA kA tps kvs k ts) (m : L2.Same H H') : FamAt c H' f cA tA kA tps kvs k ts :=
  ⟨let ⟨dx, e⟩ := h.obj; ⟨dx, m _ _ e⟩, h.costs.mono m, m _ _ h.lst, paired_imp (fun _ _ q => q.mono m) h.tunes, h.apart, m _ _ h.dict, h.known, h.ok, h.ln, h.lens⟩
theorem FamAt.at_ {c : Cs} {H : Hp} {f cA tA kA : Addr} {tps : List Addr} {kvs : List (List Key × V)} {k : Sw73.Costs} {ts : List Sw73.Tune} (h : FamAt c H f cA tA kA tps kvs k ts) {i : Nat} (hi : i < ts.length) :
    ∃ u, tps[i]? = some u ∧ TuneAt c H u (ts.getD i []) ∧ (ts.getD i []).length ≤ 24 := by
  obtain ⟨u, hu⟩ : ∃ u, tps[i]? = some u := ⟨_, List.getElem?_eq_getElem (by rw [Paired.length h.tunes]; exact hi)⟩
  obtain ⟨t, ht, r⟩ := LiI.paired_get h.tunes hu
  have e : ts.getD i [] = t := by rw [List.getD_eq_getElem?_getD, ht]; rfl
  rw [e]
  exact ⟨u, hu, r, h.lens t (List.mem_of_getElem? ht)⟩
section
variable {P : Program} {w : World} {K : PySem.W.Frag} {mg : Str → Option Value} {base : Heap} {c : Cs}
def spShifts : Sp := fun vs H Q _ => vs = [] ∧ ∀ (p : Addr) (H' : Hp), L2.Same H H' → H' p = some (.lst ((Sw73.outwards 24).map V.int)) → Q (.ref p) H'
theorem sc_shifts : FnScope ["found", "far"] [] (defScope s_shifts) := ⟨rfl, rfl, rfl, by decide +kernel, rfl, by decide +kernel, by decide +kernel⟩
theorem ok_shifts {f : Addr} {fd : FuncData} (F : Fun K "shifts" "shifts" s_shifts f fd) (T : Txt K mg c) : FnOk P w K mg base CX0 1 f fd [] spShifts := by
  refine F.ok sc_shifts (fun vs H Q E h => ?_) (fun cdv A outer s H vs Q E hr h => ?_)
  · obtain ⟨rfl, _⟩ := h
    rfl
  · obtain ⟨rfl, q⟩ := h
    refine ⟨_, (pss_cons (ps_set (i := 0) sc_shifts.nd rfl (by first | exact Or.inl rfl | exact Or.inr rfl) (pe_lst (pa_cons pe_int pa_nil)))
    (pss_cons (ps_for PassesOwn.never rfl (pi_range2 (by rfl) T.b_range (pa_cons pe_int (pa_cons (pe_op op_add (pe_cst T.c_FARTHEST (by rfl)) pe_int) pa_nil))) (pg_name (i := 1) sc_shifts.nd rfl (by first | exact Or.inl rfl | exact Or.inr rfl))
      (pss_one (ps_expr (pe_bm PySem.F.plainAttrs_list PySem.F.slot_list_extend PySem.F.type_list_extend mt_extend (pv 0) (pa_cons (pe_lst (pa_cons (pv 1) (pa_cons (pe_un un_neg (pv 1)) pa_nil))) pa_nil)))))
    (pss_one (ps_ret (pv 0))))), ?_⟩
    refine st_seq ?_
    refine ⟨by show 1 ≤ sizeLine; decide, fun l nl => ?_⟩
    dsimp only
    refine st_seq ?_
    refine ⟨_, _, rfl, rfl, 1, 25, rfl, by decide, ?_⟩
    refine for_range (lo := 1) (n := 24) (fun i σ H' => ∃ v1 : Option V, σ = [some (.ref l), v1] ∧ L2.Same H H' ∧ H' l = some (.lst ((0 :: (List.range i).flatMap fun (i : Nat) => [((i : Int) + 1), -((i : Int) + 1)]).map V.int)))
      ⟨none, rfl, same_upd nl, upd_same⟩ ?_ ?_
    · rintro i σ H1 hi ⟨v1, rfl, s1, hl⟩
      refine ⟨_, rfl, .inl ⟨rfl, _, SqL.of hl⟩, _, rfl, _, rfl, _, rfl, by show 2 ≤ sizeLine; decide, fun p np => ?_⟩
      have hl1 := same_upd (o := .lst [V.int (1 + (i : Nat)), V.int (-(1 + (i : Nat)))]) np _ _ hl
      refine ⟨l, p, _, _, rfl, rfl, hl1, upd_same, ?_, ?_⟩
      · rw [List.length_map, List.length_cons, List.length_flatMap]
        show ((List.range i).map fun _ => 2).sum + 1 + 2 ≤ sizeLine
        have e : ((List.range i).map fun _ => 2).sum = i * 2 := by
          rw [List.map_const', List.sum_replicate_nat, List.length_range]
        rw [e, sizeLine_eq]
        omega
      · refine ⟨_, rfl, ?_, ?_⟩
        · intro y o e
          have e1 := s1 _ _ e
          rw [upd_ne (ne_of_none e nl), upd_ne (ne_of_none e1 np)]
          exact e1
        · have e : List.map V.int (0 :: (List.range (i + 1)).flatMap fun (i : Nat) => [((i : Int) + 1), -((i : Int) + 1)]) = List.map V.int (0 :: (List.range i).flatMap fun (i : Nat) => [((i : Int) + 1), -((i : Int) + 1)]) ++ [V.int (1 + (i : Nat)), V.int (-(1 + (i : Nat)))] := by
            rw [List.range_succ, List.flatMap_append, ← List.cons_append, List.map_append, Int.add_comm]
            rfl
          rw [upd_same, e]
    · rintro σ H1 ⟨v1, rfl, s1, hl⟩
      dsimp only
      refine st_ret (val_var rfl) (q l H1 s1 ?_)
      rw [hl, outwards_eq]
def spFamilyIni (c : Cs) : Sp := fun vs H Q _ => ∃ (p dx : Addr) (u : V), vs = [.ref p, u] ∧ H p = some (.ins c.Family dx []) ∧
  ∀ (H' : Hp) (tA kA : Addr), Keep p H H' → H' p = some (.ins c.Family dx (fFamily u (.ref tA) (.ref kA))) → H' tA = some (.lst []) → H' kA = some (.dT []) → H tA = none → H kA = none → Q .non H'
theorem scFamily_init : FnScope ["self", "costs"] ["self", "costs"] (defScope sFamily_init) := ⟨rfl, rfl, rfl, by decide +kernel, rfl, by decide +kernel, by decide +kernel⟩
theorem ok_Family_init {f : Addr} {fd : FuncData} (F : Fun K "__init__" "Family.__init__" sFamily_init f fd) (T : Txt K mg c) : FnOk P w K mg base CX0 1 f fd ["self", "costs"] (spFamilyIni c) := by
  refine F.ok scFamily_init (fun vs H Q E h => ?_) (fun cdv A outer s H vs Q E hr h => ?_)
  · obtain ⟨p, dx, u, rfl, _⟩ := h
    rfl
  · obtain ⟨p, dx, u, rfl, hp, q⟩ := h
    refine ⟨_, (pss_cons (ps_fld (pv 0) (pv 1) rfl)
    (pss_cons (ps_fld (pv 0) (pe_lst pa_nil) rfl)
    (pss_one (ps_fld (pv 0) pe_dnewT rfl)))), ?_⟩
    refine st_seq ?_
    refine st_fld (val_var rfl) (val_var rfl) hp T.cl_Family T.n_Family_costs (by show 0 < 1000; decide) ?_
    dsimp only
    refine st_seq ?_
    refine ⟨Nat.zero_le _, fun tA nt => ?_⟩
    refine ⟨_, rfl, p, c.Family, dx, [("costs", u)], rfl, ?_, T.cl_Family, T.n_Family_tunes, (by show 1 < 1000; decide), ?_⟩
    · exact same_upd nt _ _ upd_same
    dsimp only
    refine fun kA nk => ?_
    refine ⟨_, rfl, p, c.Family, dx, [("costs", u), ("tunes", .ref tA)], rfl, ?_, T.cl_Family, T.n_Family_known, (by show 2 < 1000; decide), ?_⟩
    · exact same_upd nk _ _ upd_same
    · have e1 : tA ≠ p := fun e => by rw [e, upd_same] at nt; cases nt
      have nt' : H tA = none := by rw [upd_ne e1] at nt; exact nt
      have e2 : kA ≠ p := fun e => by rw [e, upd_same] at nk; cases nk
      have e3 : kA ≠ tA := fun e => by rw [upd_ne e2, e, upd_same] at nk; cases nk
      have nk' : H kA = none := by rw [upd_ne e2, upd_ne e3, upd_ne e2] at nk; exact nk
      refine q _ tA kA (fun b o e n => ?_) upd_same ?_ ?_ nt' nk'
      · rw [upd_ne n, upd_ne (ne_of_none e nk'), upd_ne n, upd_ne (ne_of_none e nt'), upd_ne n]
        exact e
      · rw [upd_ne e1, upd_ne (Ne.symm e3), upd_ne e1, upd_same]
      · rw [upd_ne e2, upd_same]
end
end Sk

/-! Families: put, drop, has, beside. -/
namespace Sk
open PySem PySem.Spec PyProof.Rows L2 SkR SkM
theorem NoteAt.keep {c : Cs} {a p : Addr} {H H' : Hp} {n : Sw73.Note} {o : HO} (h : NoteAt c H p n) (m : Keep a H H') (ha : H a = some o) (ho : ∀ C dx fs, o ≠ .ins C dx fs) : NoteAt c H' p n :=
  let ⟨dx, e⟩ := h; ⟨dx, m _ _ e (ne_of e ha fun z => ho _ _ _ z.symm)⟩
theorem TuneAt.keep {c : Cs} {a u : Addr} {H H' : Hp} {t : Sw73.Tune} {o : HO} (h : TuneAt c H u t) (m : Keep a H H') (ha : H a = some o) (ho : ∀ C dx fs, o ≠ .ins C dx fs) (ne : u ≠ a) : TuneAt c H' u t :=
  let ⟨ps, e, r⟩ := h; ⟨ps, m _ _ e ne, paired_imp (fun _ _ q => NoteAt.keep q m ha ho) r⟩
theorem paired_mem {α β : Type} {F G : α → β → Prop} : ∀ {xs : List α} {ys : List β}, Paired F xs ys → (∀ a b, a ∈ xs → F a b → G a b) → Paired G xs ys
  | _, _, .nil, _ => .nil
  | _, _, .cons r t, h => .cons (h _ _ List.mem_cons_self r) (paired_mem t fun a b m => h a b (List.mem_cons_of_mem _ m))
theorem paired_erase {α β : Type} {F : α → β → Prop} : ∀ {xs : List α} {ys : List β} (i : Nat), Paired F xs ys → Paired F (xs.eraseIdx i) (ys.eraseIdx i)
  | _, _, _, .nil => .nil
  | _, _, 0, .cons r t => t
  | _, _, i + 1, .cons r t => .cons r (paired_erase i t)
theorem erase_map {α β : Type} (f : α → β) : ∀ (l : List α) (i : Nat), (l.map f).eraseIdx i = (l.eraseIdx i).map f
  | [], _ => rfl
  | _ :: _, 0 => rfl
  | a :: l, i + 1 => by show f a :: (l.map f).eraseIdx i = _; rw [erase_map f l i]; rfl
theorem Known.more {kvs : List (List Key × V)} {k : Sw73.Costs} {ts : List Sw73.Tune} (h : Known kvs k ts) (t : Sw73.Tune) : Known kvs k (ts ++ [t]) := by
  refine ⟨h.nd, fun e he => ?_, fun i j v hv => ?_⟩
  · obtain ⟨i, j, hi, hj, e⟩ := h.keys e he
    exact ⟨i, j, by rw [List.length_append]; omega, by rw [List.length_append]; omega, e⟩
  · obtain ⟨e, he, ek⟩ := List.mem_map.mp (valV_in hv)
    obtain ⟨i', j', hi, hj, e'⟩ := h.keys e he
    rw [e'] at ek
    obtain ⟨rfl, rfl⟩ := key2_inj ek
    rw [h.vals _ _ v hv]
    unfold Sw73.far
    rw [List.getD_eq_getElem?_getD, List.getD_eq_getElem?_getD, List.getD_eq_getElem?_getD, List.getD_eq_getElem?_getD, List.getElem?_append_left hi, List.getElem?_append_left hj]
theorem FamAt.keepK {c : Cs} {H H' : Hp} {f cA tA kA : Addr} {tps : List Addr} {kvs kvs' : List (List Key × V)} {k : Sw73.Costs} {ts : List Sw73.Tune} (h : FamAt c H f cA tA kA tps kvs k ts) (m : Keep kA H H') (hd : H' kA = some (.dT kvs')) (hk : Known kvs' k ts) : FamAt c H' f cA tA kA tps kvs' k ts := by
  have hn : ∀ C dx fs, HO.dT kvs ≠ .ins C dx fs := fun _ _ _ z => by cases z
  refine ⟨let ⟨dx, e⟩ := h.obj; ⟨dx, m _ _ e (ne_of e h.dict (by intro z; cases z))⟩, let ⟨dx, e⟩ := h.costs; ⟨dx, m _ _ e (ne_of e h.dict (by intro z; cases z))⟩, m _ _ h.lst (ne_of h.lst h.dict (by intro z; cases z)), paired_imp (fun u t q => ?_) h.tunes, h.apart, hd, hk, h.ok, h.ln, h.lens⟩
  refine TuneAt.keep q m h.dict hn ?_
  obtain ⟨ps, e, _⟩ := q
  exact ne_of e h.dict (by intro z; cases z)
section
variable {K : PySem.W.Frag} {σ : L2.St} {H : Hp}
theorem m_make1 {C : Addr} {sp : Sp} {ta : TE} {Q : VK} (h : ta σ H fun v H1 => ∀ x dx, H1 x = none → H1 dx = none → dx ≠ x → sp (V.ref x :: ([v] ++ [])) (upd (upd H1 dx (.own x)) x (.ins C dx [])) (fun v H2 => v = .non ∧ Q (.ref x) H2) E0) : tMake C sp [] E0 (tCons ta tNil) σ H Q := h
theorem m_popAt {tx te : TE} {l : Addr} {xs : List V} {D : Ends} {i : Nat} (hx : Val tx σ H (.ref l)) (hl : H l = some (.lst xs)) (hi : i < xs.length) (hz : xs.length ≤ 1000) (h : Val te σ H (.int i)) (q : D.nx σ (upd H l (.lst (xs.eraseIdx i)))) : tDrop (tBM K "list" rPopAt tx (tCons te tNil)) D σ H := by
  refine hx _ ⟨.inl ⟨rfl, _, SqL.of hl⟩, ?_⟩
  obtain ⟨v, hv⟩ : ∃ v, xs[i]? = some v := ⟨_, List.getElem?_eq_getElem hi⟩
  obtain ⟨j, hj1, hj2, _, _, _⟩ := atI_get (atI_nat hv)
  have hij : j = i := by
    unfold seqIndex? at hj1
    have h1 : ¬ ((i : Int) < 0) := by omega
    simp only [h1] at hj1
    simp at hj1
    omega
  subst hij
  refine h _ ⟨l, xs, j, j, v, rfl, rfl, hl, by omega, ?_, hj1, hj2, q⟩
  have h63 : (1000 : Int) < 2 ^ 63 := by decide
  omega
theorem v_makeS {C : Addr} {sp : Sp} {t : TA} {vs : List V} {Q : VK} (h : VA t σ H vs) (q : ∀ (x dx : Addr) (H2 : Hp), L2.Same H H2 → H x = none → H2 x = some (.ins C dx []) → sp (.ref x :: vs) H2 (fun v H3 => v = .non ∧ Q (.ref x) H3) E0) : tMake C sp [] E0 t σ H Q := by
  refine h _ ?_
  intro x dx hx hd ne
  rw [List.append_nil]
  exact q x dx _ (L2.Same.trans (same_upd hd) (same_upd (by rw [upd_ne (Ne.symm ne)]; exact hx))) hx upd_same
end
section
variable {P : Program} {w : World} {K : PySem.W.Frag} {mg : Str → Option Value} {base : Heap} {c : Cs}
def spPut (c : Cs) : Sp := fun vs H Q _ => ∃ (f u cA tA kA : Addr) (tps : List Addr) (kvs : List (List Key × V)) (k : Sw73.Costs) (ts : List Sw73.Tune) (t : Sw73.Tune), vs = [.ref f, .ref u] ∧ FamAt c H f cA tA kA tps kvs k ts ∧ ts.length < 8 ∧ TuneAt c H u t ∧ t.length ≤ 24 ∧ u ≠ tA ∧
  ∀ H', Keep tA H H' → FamAt c H' f cA tA kA (tps ++ [u]) kvs k (ts ++ [t]) → Q (.int ts.length) H'
theorem scFamily_put : FnScope ["self", "tune"] ["self", "tune"] (defScope sFamily_put) := ⟨rfl, rfl, rfl, by decide +kernel, rfl, by decide +kernel, by decide +kernel⟩
theorem ok_Family_put {f : Addr} {fd : FuncData} (F : Fun K "put" "Family.put" sFamily_put f fd) (T : Txt K mg c) : FnOk P w K mg base CX0 1 f fd ["self", "tune"] (spPut c) := by
  refine F.ok scFamily_put (fun vs H Q E h => ?_) (fun cdv A outer s H vs Q E hr h => ?_)
  · obtain ⟨f, u, cA, tA, kA, tps, kvs, k, ts, t, rfl, _⟩ := h
    rfl
  · obtain ⟨f, u, cA, tA, kA, tps, kvs, k, ts, t, rfl, Fm, l8, hu, lt, ne, q⟩ := h
    obtain ⟨dx, hf⟩ := Fm.obj
    have ltp := Paired.length Fm.tunes
    refine ⟨_, (pss_cons (ps_expr (pe_bm PySem.F.plainAttrs_list PySem.F.slot_list_append PySem.F.type_list_append mt_append (pe_fld (pv 0) rfl) (pa_cons (pv 1) pa_nil)))
    (pss_one (ps_ret (pe_op op_sub (pe_callB call_len_seq (by rfl) T.b_len PySem.boot_len (pa_cons (pe_fld (pv 0) rfl) pa_nil)) pe_int)))), ?_⟩
    refine st_seq ?_
    refine m_appendV (K := K) (v_Family_tunes T (val_var rfl) hf) Fm.lst (by rw [List.length_map, ltp]; exact small1000 (by omega)) (val_var rfl) ?_
    dsimp only
    have hn : ∀ C dx fs, HO.lst (tps.map V.ref) ≠ .ins C dx fs := fun _ _ _ z => by cases z
    have kp : Keep tA H (upd H tA (.lst (tps.map V.ref ++ [.ref u]))) := keep_upd
    have hf' := kp _ _ hf (ne_of hf Fm.lst (by intro z; cases z))
    have hl' : upd H tA (.lst (tps.map V.ref ++ [.ref u])) tA = some (.lst (tps.map V.ref ++ [.ref u])) := upd_same
    refine st_ret (v_sub (v_len (K := K) (p := tA) (v_Family_tunes T (val_var rfl) hf') (SqL.of hl') fun Q q => ⟨_, _, rfl, .inl (SqL.of hl'), q⟩) val_c) ?_
    have e : ((tps.map V.ref ++ [V.ref u]).length : Int) - 1 = (ts.length : Int) := by
      rw [List.length_append, List.length_map, ltp]
      show ((ts.length + 1 : Nat) : Int) - 1 = _
      omega
    rw [e]
    refine q _ kp ⟨⟨dx, hf'⟩, let ⟨dx, e⟩ := Fm.costs; ⟨dx, kp _ _ e (ne_of e Fm.lst (by intro z; cases z))⟩, ?_, ?_, ?_, kp _ _ Fm.dict (ne_of Fm.dict Fm.lst (by intro z; cases z)), Fm.known.more t, Fm.ok, ?_, ?_⟩
    · rw [upd_same, List.map_append]
      rfl
    · refine paired_snoc (paired_mem Fm.tunes fun a b m r => TuneAt.keep r kp Fm.lst hn fun z => Fm.apart (z ▸ m)) (TuneAt.keep hu kp Fm.lst hn ne)
    · intro m
      rcases List.mem_append.mp m with m | m
      · exact Fm.apart m
      · exact ne (List.mem_singleton.mp m).symm
    · rw [List.length_append]
      show ts.length + 1 ≤ 8
      omega
    · intro x hx
      rcases List.mem_append.mp hx with hx | hx
      · exact Fm.lens x hx
      · rw [List.mem_singleton.mp hx]
        exact lt
def spDrop (c : Cs) : Sp := fun vs H Q _ => ∃ (f cA tA kA : Addr) (tps : List Addr) (kvs : List (List Key × V)) (k : Sw73.Costs) (ts : List Sw73.Tune) (i : Nat), vs = [.ref f, .int i] ∧ FamAt c H f cA tA kA tps kvs k ts ∧ i < ts.length ∧
  ∀ (H' : Hp) (kA' : Addr), (∀ b o, H b = some o → b ≠ tA → b ≠ f → H' b = some o) → H kA' = none → FamAt c H' f cA tA kA' (tps.eraseIdx i) [] k (ts.eraseIdx i) → Q .non H'
theorem scFamily_drop : FnScope ["self", "k"] ["self", "k"] (defScope sFamily_drop) := ⟨rfl, rfl, rfl, by decide +kernel, rfl, by decide +kernel, by decide +kernel⟩
theorem ok_Family_drop {f : Addr} {fd : FuncData} (F : Fun K "drop" "Family.drop" sFamily_drop f fd) (T : Txt K mg c) : FnOk P w K mg base CX0 1 f fd ["self", "k"] (spDrop c) := by
  refine F.ok scFamily_drop (fun vs H Q E h => ?_) (fun cdv A outer s H vs Q E hr h => ?_)
  · obtain ⟨f, cA, tA, kA, tps, kvs, k, ts, i, rfl, _⟩ := h
    rfl
  · obtain ⟨f, cA, tA, kA, tps, kvs, k, ts, i, rfl, Fm, hi, q⟩ := h
    obtain ⟨dx, hf⟩ := Fm.obj
    have ltp := Paired.length Fm.tunes
    obtain ⟨u, hu, _, _⟩ := Fm.at_ hi
    refine ⟨_, (pss_cons (ps_expr (pe_bm PySem.F.plainAttrs_list PySem.F.slot_list_pop PySem.F.type_list_pop mt_popAt (pe_fld (pv 0) rfl) (pa_cons (pv 1) pa_nil)))
    (pss_one (ps_fld (pv 0) pe_dnewT rfl))), ?_⟩
    refine st_seq ?_
    refine m_popAt (K := K) (v_Family_tunes T (val_var rfl) hf) Fm.lst (by rw [List.length_map, ltp]; exact hi) (by rw [List.length_map, ltp]; exact Nat.le_trans Fm.ln (by decide)) (val_var rfl) ?_
    · dsimp only
      refine fun kA' nk => ?_
      have hn : ∀ C dx fs, HO.lst (tps.map V.ref) ≠ .ins C dx fs := fun _ _ _ z => by cases z
      have hf1 : upd H tA (.lst ((tps.map V.ref).eraseIdx i)) f = some (.ins c.Family dx (fFamily (.ref cA) (.ref tA) (.ref kA))) := by
        rw [upd_ne (ne_of hf Fm.lst (by intro z; cases z))]
        exact hf
      have nt : kA' ≠ tA := fun e => by rw [e, upd_same] at nk; cases nk
      have nk0 : H kA' = none := by rw [upd_ne nt] at nk; exact nk
      have nf : kA' ≠ f := fun e => by rw [e, hf] at nk0; cases nk0
      refine ⟨_, rfl, f, c.Family, dx, _, rfl, same_upd nk _ _ hf1, T.cl_Family, T.n_Family_known, (by show 3 < 1000; decide), ?_⟩
      have kp : ∀ b o, H b = some o → b ≠ tA → b ≠ f → (upd (upd (upd H tA (.lst ((tps.map V.ref).eraseIdx i))) kA' (.dT [])) f (.ins c.Family dx (putF "known" (.ref kA') (fFamily (.ref cA) (.ref tA) (.ref kA))))) b = some o := fun b o e n1 n2 => by
        rw [upd_ne n2, upd_ne (ne_of_none e nk0), upd_ne n1]
        exact e
      refine q _ kA' kp nk0 ⟨⟨dx, upd_same⟩, ?_, ?_, ?_, ?_, ?_, Known.nil _ _, Fm.ok, ?_, ?_⟩
      · obtain ⟨dc, e⟩ := Fm.costs
        refine ⟨dc, kp _ _ e (ne_of e Fm.lst (by intro z; cases z)) fun z => ?_⟩
        rw [z, hf] at e
        exact absurd (show (3 : Nat) = 5 from ins_len e) (by decide)
      · rw [upd_ne (Ne.symm (ne_of hf Fm.lst (by intro z; cases z))), upd_ne (Ne.symm nt), upd_same, erase_map]
      · refine paired_mem (paired_erase i Fm.tunes) fun a b m r => ?_
        have ma : a ∈ tps := List.mem_of_mem_eraseIdx m
        obtain ⟨ps, e, r⟩ := r
        refine ⟨ps, kp _ _ e (fun z => Fm.apart (z ▸ ma)) (ne_of e hf (by intro z; cases z)), paired_imp (fun x n y => ?_) r⟩
        obtain ⟨dn, en⟩ := y
        refine ⟨dn, kp _ _ en (ne_of en Fm.lst (by intro z; cases z)) fun z => ?_⟩
        rw [z, hf] at en
        exact absurd (show (3 : Nat) = 2 from ins_len en) (by decide)
      · exact fun m => Fm.apart (List.mem_of_mem_eraseIdx m)
      · rw [upd_ne nf, upd_same]
      · exact Nat.le_trans (List.length_eraseIdx_le _ _) Fm.ln
      · exact fun t ht => Fm.lens t (List.mem_of_mem_eraseIdx ht)
def spHas (c : Cs) : Sp := fun vs H Q _ => ∃ (f cA tA kA : Addr) (tps : List Addr) (kvs : List (List Key × V)) (k : Sw73.Costs) (ts : List Sw73.Tune) (i : Nat), vs = [.ref f, .int i] ∧ FamAt c H f cA tA kA tps kvs k ts ∧ Q (.bl (decide (i < ts.length))) H
theorem scFamily_has : FnScope ["self", "k"] ["self", "k"] (defScope sFamily_has) := ⟨rfl, rfl, rfl, by decide +kernel, rfl, by decide +kernel, by decide +kernel⟩
theorem ok_Family_has {f : Addr} {fd : FuncData} (F : Fun K "has" "Family.has" sFamily_has f fd) (T : Txt K mg c) : FnOk P w K mg base CX0 1 f fd ["self", "k"] (spHas c) := by
  refine F.ok scFamily_has (fun vs H Q E h => ?_) (fun cdv A outer s H vs Q E hr h => ?_)
  · obtain ⟨f, cA, tA, kA, tps, kvs, k, ts, i, rfl, _⟩ := h
    rfl
  · obtain ⟨f, cA, tA, kA, tps, kvs, k, ts, i, rfl, Fm, q⟩ := h
    obtain ⟨dx, hf⟩ := Fm.obj
    have ltp := Paired.length Fm.tunes
    refine ⟨_, (pss_one (ps_ret (pe_cmpR op_lt (pv 1) (pe_callB call_len_seq (by rfl) T.b_len PySem.boot_len (pa_cons (pe_fld (pv 0) rfl) pa_nil)) (nomark _)))), ?_⟩
    refine st_ret (v_lt (val_var rfl) (v_len (K := K) (p := tA) (v_Family_tunes T (val_var rfl) hf) (SqL.of Fm.lst) fun Q q => ⟨_, _, rfl, .inl (SqL.of Fm.lst), q⟩)) ?_
    have e : decide ((i : Int) < ((tps.map V.ref).length : Nat)) = decide (i < ts.length) := by
      rw [List.length_map, ltp, Bool.eq_iff_iff, decide_eq_true_eq, decide_eq_true_eq]
      omega
    rw [e]
    exact q
def spFamBeside (c : Cs) : Sp := fun vs H Q _ => ∃ (f cA tA kA : Addr) (tps : List Addr) (kvs : List (List Key × V)) (k : Sw73.Costs) (ts : List Sw73.Tune) (i j : Nat), vs = [.ref f, .int i, .int j] ∧ FamAt c H f cA tA kA tps kvs k ts ∧ i < ts.length ∧ j < ts.length ∧
  ∀ (b : Addr) (H' : Hp), L2.Same H H' → Bes c H' b k (ts.getD i []) (ts.getD j []) → Q (.ref b) H'
theorem Same.of_keepN {D : Addr} {H H1 H2 : Hp} (hD : H D = none) (s : L2.Same H H1) (k : Keep D H1 H2) : L2.Same H H2 := fun b o e => k b o (s b o e) (ne_of_none e hD)
theorem scFamily_beside : FnScope ["self", "i", "j"] ["self", "i", "j"] (defScope sFamily_beside) := ⟨rfl, rfl, rfl, by decide +kernel, rfl, by decide +kernel, by decide +kernel⟩
theorem ok_Family_beside {f : Addr} {fd : FuncData} (F : Fun K "beside" "Family.beside" sFamily_beside f fd) (T : Txt K mg c) (M_Beside : Kl P w K mg base "Beside" c.Beside 2 ["self", "costs", "one", "other"] (spBesideIni c)) : FnOk P w K mg base CX0 4 f fd ["self", "i", "j"] (spFamBeside c) := by
  refine F.ok scFamily_beside (fun vs H Q E h => ?_) (fun cdv A outer s H vs Q E hr h => ?_)
  · obtain ⟨f, cA, tA, kA, tps, kvs, k, ts, i, j, rfl, _⟩ := h
    rfl
  · obtain ⟨f, cA, tA, kA, tps, kvs, k, ts, i, j, rfl, Fm, hi, hj, q⟩ := h
    obtain ⟨dx, hf⟩ := Fm.obj
    obtain ⟨u, hu, hut, lu⟩ := Fm.at_ hi
    obtain ⟨v, hv, hvt, lv⟩ := Fm.at_ hj
    refine ⟨_, (pss_one (ps_ret (pe_mk M_Beside (hr.mono (by decide)) (by rfl) (pa_cons (pe_fld (pv 0) rfl) (pa_cons (pe_ix ix_list (pe_fld (pv 0) rfl) (pv 1) (fun _ _ => rfl)) (pa_cons (pe_ix ix_list (pe_fld (pv 0) rfl) (pv 2) (fun _ _ => rfl)) pa_nil)))))), ?_⟩
    refine m_ret ?_
    refine v_makeS (va_cons (v_Family_costs T (val_var rfl) hf) (va_cons (v_ixL (K := K) (n := i) (v_Family_tunes T (val_var rfl) hf) (SqL.of Fm.lst) (val_var rfl) (v := .ref u) (by rw [List.getElem?_map, hu]; rfl))
      (va_cons (v_ixL (K := K) (n := j) (v_Family_tunes T (val_var rfl) hf) (SqL.of Fm.lst) (val_var rfl) (v := .ref v) (by rw [List.getElem?_map, hv]; rfl)) va_nil))) fun x dx2 H2 s2 nx hx => ?_
    exact ⟨x, dx2, cA, u, v, k, ts.getD i [], ts.getD j [], rfl, hx, Fm.costs.mono s2, Fm.ok, hut.mono s2, hvt.mono s2, lu, lv, fun H3 kp Bs => ⟨rfl, q x H3 (Same.of_keepN nx s2 kp) Bs⟩⟩
/-- a family newly made -/
theorem made_family {H : Hp} {cA : Addr} {k : Sw73.Costs} {Q : Addr → Hp → Prop} (hc : CostsAt c H cA k) (ok : CostsOk k) (q : ∀ (f tA kA : Addr) (H' : Hp), L2.Same H H' → H f = none → H tA = none → H kA = none → FamAt c H' f cA tA kA [] [] k [] → Q f H') :
    ∀ x dx, H x = none → H dx = none → dx ≠ x → spFamilyIni c (V.ref x :: ([.ref cA] ++ [])) (upd (upd H dx (.own x)) x (.ins c.Family dx [])) (fun v H2 => v = .non ∧ Q x H2) E0 := by
  intro x dx hx hd ne
  have s2 : L2.Same H (upd (upd H dx (.own x)) x (.ins c.Family dx [])) := L2.Same.trans (same_upd hd) (same_upd (by rw [upd_ne (Ne.symm ne)]; exact hx))
  refine ⟨x, dx, .ref cA, rfl, upd_same, fun H' tA kA kp ho hl hk nt nk => ⟨rfl, ?_⟩⟩
  have s3 := Same.of_keepN hx s2 kp
  exact q x tA kA H' s3 hx (s2.free nt) (s2.free nk) ⟨⟨dx, ho⟩, hc.mono s3, hl, .nil, List.not_mem_nil, hk, Known.nil _ _, ok, Nat.zero_le _, fun t ht => absurd ht List.not_mem_nil⟩
def spFirstFamily (c : Cs) : Sp := fun vs H Q _ => vs = [] ∧ ∀ (f cA tA kA : Addr) (H' : Hp), L2.Same H H' → H f = none → H tA = none → H kA = none → FamAt c H' f cA tA kA [] [] ⟨1, 1, 1, 1, 1⟩ [] → Q (.ref f) H'
theorem sc_first_family : FnScope [] [] (defScope s_first_family) := ⟨rfl, rfl, rfl, by decide +kernel, rfl, by decide +kernel, by decide +kernel⟩
theorem ok_first_family {f : Addr} {fd : FuncData} (F : Fun K "first_family" "first_family" s_first_family f fd) (T : Txt K mg c) (M_Family : Kl P w K mg base "Family" c.Family 1 ["self", "costs"] (spFamilyIni c)) (M_Costs : Kl P w K mg base "Costs" c.Costs 1 ["self", "key", "rest", "long", "gap", "more"] (spCostsIni c)) :
    FnOk P w K mg base CX0 3 f fd [] (spFirstFamily c) := by
  refine F.ok sc_first_family (fun vs H Q E h => ?_) (fun cdv A outer s H vs Q E hr h => ?_)
  · obtain ⟨rfl, _⟩ := h
    rfl
  · obtain ⟨rfl, q⟩ := h
    refine ⟨_, (pss_one (ps_ret (pe_mk M_Family (hr.mono (by decide)) (by rfl) (pa_cons (pe_mk M_Costs (hr.mono (by decide)) (by rfl) (pa_cons pe_int (pa_cons pe_int (pa_cons pe_int (pa_cons pe_int (pa_cons pe_int pa_nil)))))) pa_nil)))), ?_⟩
    refine m_ret ?_
    refine m_make1 ?_
    refine v_make (va_cons val_c (va_cons val_c (va_cons val_c (va_cons val_c (va_cons val_c va_nil))))) rfl fun x dx H2 s2 nx e => ?_
    exact made_family (Q := fun a H3 => Q (.ref a) H3) (k := ⟨1, 1, 1, 1, 1⟩) ⟨dx, e⟩ ⟨by decide, by decide, by decide, by decide, by decide⟩ fun f tA kA H' s3 nf nt nk Fm => q f x tA kA H' (L2.Same.trans s2 s3) (s2.free nf) (s2.free nt) (s2.free nk) Fm
end
end Sk

/-! Families: how far; the best shift. -/
namespace Sk
open PySem PySem.Spec PyProof.Rows L2 SkR SkM
theorem Known.len {kvs : List (List Key × V)} {k : Sw73.Costs} {ts : List Sw73.Tune} (h : Known kvs k ts) (l8 : ts.length ≤ 8) : kvs.length ≤ 64 := by
  have e := nodup_le (m := (List.range 8).flatMap fun i => (List.range 8).map fun j => key2 i j) h.nd fun x hx => by
    obtain ⟨e, he, rfl⟩ := List.mem_map.mp hx
    obtain ⟨i, j, hi, hj, ek⟩ := h.keys e he
    rw [ek]
    exact List.mem_flatMap.mpr ⟨i, List.mem_range.mpr (by omega), List.mem_map.mpr ⟨j, List.mem_range.mpr (by omega), rfl⟩⟩
  rw [List.length_map] at e
  exact e
theorem Known.put {kvs : List (List Key × V)} {k : Sw73.Costs} {ts : List Sw73.Tune} (h : Known kvs k ts) {i j : Nat} (hi : i < ts.length) (hj : j < ts.length) (hv : valV kvs (key2 i j) = none) : Known (putK kvs (key2 i j) (.int (Sw73.far k ts i j))) k ts := by
  refine ⟨nd_putK _ h.nd hv, fun e he => ?_, fun a b v hab => ?_⟩
  · rw [putK_new _ hv] at he
    rcases List.mem_append.mp he with he | he
    · exact h.keys e he
    · rw [List.mem_singleton.mp he]
      exact ⟨i, j, hi, hj, rfl⟩
  · rw [valV_put] at hab
    by_cases e : key2 a b = key2 i j
    · rw [if_pos e] at hab
      obtain ⟨rfl, rfl⟩ := key2_inj e
      exact (Option.some.inj hab).symm
    · rw [if_neg e] at hab
      exact h.vals a b v hab
/-- two tunes newly beside one another -/
theorem made_beside {c : Cs} {H : Hp} {cA sA tA : Addr} {k : Sw73.Costs} {s t : Sw73.Tune} {Q : Addr → Hp → Prop} (hc : CostsAt c H cA k) (ok : CostsOk k) (hs : TuneAt c H sA s) (ht : TuneAt c H tA t) (ls : s.length ≤ 24) (lt : t.length ≤ 24)
    (q : ∀ (b : Addr) (H' : Hp), L2.Same H H' → Bes c H' b k s t → Q b H') :
    ∀ x dx, H x = none → H dx = none → dx ≠ x → spBesideIni c (V.ref x :: ([.ref cA, .ref sA, .ref tA] ++ [])) (upd (upd H dx (.own x)) x (.ins c.Beside dx [])) (fun v H2 => v = .non ∧ Q x H2) E0 := by
  intro x dx hx hd ne
  have s2 : L2.Same H (upd (upd H dx (.own x)) x (.ins c.Beside dx [])) := L2.Same.trans (same_upd hd) (same_upd (by rw [upd_ne (Ne.symm ne)]; exact hx))
  exact ⟨x, dx, cA, sA, tA, k, s, t, rfl, upd_same, hc.mono s2, ok, hs.mono s2, ht.mono s2, ls, lt, fun H' kp Bs => ⟨rfl, q x H' (Same.of_keepN hx s2 kp) Bs⟩⟩
section
variable {P : Program} {w : World} {K : PySem.W.Frag} {mg : Str → Option Value} {base : Heap} {c : Cs}
theorem m_meth {C : Addr} {m : Str} {sp : Sp} {ta : TE} {t : TA} {σ : L2.St} {H : Hp} {Q : VK} (h : ta σ H fun x H1 => ∃ a dx fs, x = .ref a ∧ H1 a = some (.ins C dx fs) ∧ fs.lookup m = none ∧ t σ H1 fun vs H2 => sp (x :: (vs ++ [])) H2 Q E0) : tMeth C m sp [] E0 ta t σ H Q := h
theorem m_make {C : Addr} {sp : Sp} {t : TA} {σ : L2.St} {H : Hp} {Q : VK} (h : t σ H fun vs H1 => ∀ x dx, H1 x = none → H1 dx = none → dx ≠ x → sp (.ref x :: (vs ++ [])) (upd (upd H1 dx (.own x)) x (.ins C dx [])) (fun v H2 => v = .non ∧ Q (.ref x) H2) E0) : tMake C sp [] E0 t σ H Q := h
theorem m_dput {td ty tv : TE} {D : Ends} {σ : L2.St} {H : Hp} (h : tv σ H fun v H1 => td σ H1 fun x H2 => ty σ H2 fun y H3 => ∃ a H4, x = .ref a ∧ DPut H3 a y v H4 ∧ D.nx σ H4) : sDPut td ty tv D σ H := h
theorem m_anil {σ : L2.St} {H : Hp} {G : List V → Hp → Prop} (h : G [] H) : tNil σ H G := h
theorem m_acons {ta : TE} {t : TA} {σ : L2.St} {H : Hp} {G : List V → Hp → Prop} (h : ta σ H fun v H1 => t σ H1 fun vs H2 => G (v :: vs) H2) : tCons ta t σ H G := h
/-- self.known[i, j] -/
theorem v_famknown {tf ta tb : TE} {σ : L2.St} {H : Hp} {f cA tA kA : Addr} {tps : List Addr} {kvs : List (List Key × V)} {k : Sw73.Costs} {ts : List Sw73.Tune} {i j : Nat} {v : V} {Q : VK} (T : Txt K mg c) (hf : Val tf σ H (.ref f)) (ha : Val ta σ H (.int i)) (hb : Val tb σ H (.int j))
    (Fm : FamAt c H f cA tA kA tps kvs k ts) (hv : valV kvs (key2 i j) = some v) (q : ∀ H1, L2.Same H H1 → Q v H1) : tDGet (tFld K tf "known") (tTup (tCons ta (tCons tb tNil))) σ H Q := by
  obtain ⟨dx, ho⟩ := Fm.obj
  refine v_Family_known T hf ho _ ?_
  refine ha _ ?_
  refine hb _ ⟨by show 2 ≤ sizeLine; decide, fun pk nk => ⟨kA, v, rfl, ?_, q _ (same_upd nk)⟩⟩
  have := DGet.t (k := key2 i j) (same_upd (o := .tup [.int i, .int j]) nk _ _ Fm.dict) (b := pk) upd_same
  rw [hv] at this
  exact this
def spFar (c : Cs) : Sp := fun vs H Q _ => ∃ (f cA tA kA : Addr) (tps : List Addr) (kvs : List (List Key × V)) (k : Sw73.Costs) (ts : List Sw73.Tune) (i j : Nat), vs = [.ref f, .int i, .int j] ∧ FamAt c H f cA tA kA tps kvs k ts ∧ i < ts.length ∧ j < ts.length ∧
  ∀ (H' : Hp) (kvs' : List (List Key × V)), Keep kA H H' → FamAt c H' f cA tA kA tps kvs' k ts → Q (.int (Sw73.far k ts i j)) H'
theorem scFamily_far : FnScope ["self", "i", "j"] ["self", "i", "j"] (defScope sFamily_far) := ⟨rfl, rfl, rfl, by decide +kernel, rfl, by decide +kernel, by decide +kernel⟩
theorem ok_Family_far {f : Addr} {fd : FuncData} (F : Fun K "far" "Family.far" sFamily_far f fd) (T : Txt K mg c) (D_Family_beside : Mt P w K mg base c.Family "beside" 4 ["self", "i", "j"] (spFamBeside c)) (D_Beside_least_cost : Mt P w K mg base c.Beside "least_cost" 6 ["self"] (spLeast c)) :
    FnOk P w K mg base CX0 7 f fd ["self", "i", "j"] (spFar c) := by
  refine F.ok scFamily_far (fun vs H Q E h => ?_) (fun cdv A outer s H vs Q E hr h => ?_)
  · obtain ⟨f, cA, tA, kA, tps, kvs, k, ts, i, j, rfl, _⟩ := h
    rfl
  · obtain ⟨f, cA, tA, kA, tps, kvs, k, ts, i, j, rfl, Fm, hi, hj, q⟩ := h
    have hu := hu_of hr
    refine ⟨_, (pss_cons (ps_if (pt_cmp (pc_dnotin hu (pe_tup (pa_cons (pv 1) (pa_cons (pv 2) pa_nil))) (pe_fld (pv 0) rfl))) (pss_one (ps_dput hu (pe_fld (pv 0) rfl) (pe_tup (pa_cons (pv 1) (pa_cons (pv 2) pa_nil))) (pe_mt0 D_Beside_least_cost T.cl_Beside (hr.mono (by decide)) (pe_mt D_Family_beside T.cl_Family (hr.mono (by decide)) (pv 0) (pa_cons (pv 1) (pa_cons (pv 2) pa_nil)))) rfl)) pss_nil)
    (pss_one (ps_ret (pe_dget hu (pe_fld (pv 0) rfl) (pe_tup (pa_cons (pv 1) (pa_cons (pv 2) pa_nil))) (fun _ _ => rfl))))), ?_⟩
    refine st_seq ?_
    refine m_if ?_
    refine m_B ?_
    refine ⟨_, rfl, _, rfl, by show 2 ≤ sizeLine; decide, fun pk nk => ?_⟩
    have s1 : L2.Same H (upd H pk (.tup [.int i, .int j])) := same_upd nk
    have hpk : upd H pk (.tup [.int i, .int j]) pk = some (.tup [.int i, .int j]) := upd_same
    generalize upd H pk (.tup [.int i, .int j]) = H1 at s1 hpk ⊢
    have F1 := Fm.mono s1
    obtain ⟨dx, hf⟩ := F1.obj
    refine ⟨_, rfl, f, c.Family, dx, _, _, rfl, hf, T.cl_Family, T.n_Family_known, rfl, kA, _, rfl, DGet.t (k := key2 i j) F1.dict hpk, _, rfl, ?_⟩
    cases hv : valV kvs (key2 i j) with
    | some v =>
      refine iteF ?_
      refine st_next ?_
      dsimp only
      refine m_ret ?_
      refine v_famknown T (val_var rfl) (val_var rfl) (val_var rfl) F1 hv fun H2 s2 => ?_
      rw [Fm.known.vals i j v hv]
      have s12 := L2.Same.trans s1 s2
      exact q H2 kvs (fun b o e _ => s12 b o e) (Fm.mono s12)
    | none =>
      refine iteT ?_
      refine m_dput ?_
      refine m_meth ?_
      refine v_meth (val_var rfl) hf rfl (va_cons (val_var rfl) (va_cons (val_var rfl) va_nil)) ⟨f, cA, tA, kA, tps, kvs, k, ts, i, j, rfl, F1, hi, hj, fun b H2 s2 Bs => ?_⟩
      have Bs' := Bs
      obtain ⟨bc, bs, bt, bk, B0⟩ := Bs'
      obtain ⟨db, hb⟩ := B0.obj
      refine ⟨b, db, _, rfl, hb, rfl, ⟨b, k, _, _, rfl, Bs, fun H3 s3 => ?_⟩⟩
      have s13 := L2.Same.trans s1 (L2.Same.trans s2 s3)
      have F3 := Fm.mono s13
      obtain ⟨dx3, hf3⟩ := F3.obj
      refine ⟨_, rfl, f, c.Family, dx3, _, _, rfl, hf3, T.cl_Family, T.n_Family_known, rfl, _, rfl, _, rfl, by show 2 ≤ sizeLine; decide, fun p2 n2 => ?_⟩
      have F4 := F3.mono (same_upd (o := .tup [.int i, .int j]) n2)
      refine ⟨kA, _, rfl, DPut.t (k := key2 i j) F4.dict upd_same ?_, ?_⟩
      · exact small1000 (Nat.le_trans (Fm.known.len Fm.ln) (by decide))
      · have kp : Keep kA H (upd (upd H3 p2 (.tup [.int i, .int j])) kA (.dT (putK kvs (key2 i j) (.int (Sw73.best k (ts.getD i []) (ts.getD j [])).cost)))) := fun b o e n => by
          rw [upd_ne n, upd_ne (ne_of_none (s13 _ _ e) n2)]
          exact s13 _ _ e
        have F5 := Fm.keepK kp upd_same (Fm.known.put hi hj hv)
        dsimp only
        refine m_ret ?_
        refine v_famknown T (val_var rfl) (val_var rfl) (val_var rfl) F5 (v := .int (Sw73.far k ts i j)) (by rw [valV_put, if_pos rfl]; rfl) fun H6 s6 => ?_
        exact q H6 _ (fun b o e n => s6 _ _ (kp b o e n)) (F5.mono s6)
def spShift (c : Cs) : Sp := fun vs H Q _ => ∃ (f cA tA kA : Addr) (tps : List Addr) (kvs : List (List Key × V)) (k : Sw73.Costs) (ts : List Sw73.Tune) (i j : Nat), vs = [.ref f, .int i, .int j] ∧ FamAt c H f cA tA kA tps kvs k ts ∧ i < ts.length ∧ j < ts.length ∧
  ∀ (p : Addr) (H' : Hp), L2.Same H H' → H' p = some (.tup [.int (Sw73.shift k (ts.getD i []) (ts.getD j [])).1, .int (Sw73.shift k (ts.getD i []) (ts.getD j [])).2]) → Q (.ref p) H'
def bestUpTo (k : Sw73.Costs) (s t : Sw73.Tune) (n : Nat) : Nat × Int := ((Sw73.outwards 24).take n).tail.foldl (shiftStep k s t) ((Sw73.best k s t).cost, 0)
theorem upTo_one (k : Sw73.Costs) (s t : Sw73.Tune) : bestUpTo k s t 1 = ((Sw73.best k s t).cost, 0) := by
  unfold bestUpTo
  rw [outwards_eq]
  rfl
theorem upTo_succ {k : Sw73.Costs} {s t : Sw73.Tune} {n : Nat} {z : Int} (hn : 0 < n) (hz : (Sw73.outwards 24)[n]? = some z) : bestUpTo k s t (n + 1) = shiftStep k s t (bestUpTo k s t n) z := by
  unfold bestUpTo
  rw [take_snoc hz, List.tail_append_of_ne_nil, List.foldl_append]
  · rfl
  · intro e
    have := congrArg List.length e
    have hl := (List.getElem?_eq_some_iff.mp hz).1
    rw [List.length_take] at this
    have : n = 0 := by
      have e2 : min n (Sw73.outwards 24).length = n := Nat.min_eq_left (by omega)
      rw [e2] at this
      exact this
    omega
theorem upTo_all (k : Sw73.Costs) (s t : Sw73.Tune) : bestUpTo k s t (Sw73.outwards 24).length = Sw73.shift k s t := by
  unfold bestUpTo
  rw [List.take_length, shift_eq]
theorem scFamily_shift : FnScope ["self", "i", "j", "best", "far", "least"] ["self", "i", "j"] (defScope sFamily_shift) := ⟨rfl, rfl, rfl, by decide +kernel, rfl, by decide +kernel, by decide +kernel⟩
theorem ok_Family_shift {f : Addr} {fd : FuncData} (F : Fun K "shift" "Family.shift" sFamily_shift f fd) (T : Txt K mg c) (D_shifts : Df P w K mg base "shifts" 1 [] spShifts) (M_Beside : Kl P w K mg base "Beside" c.Beside 2 ["self", "costs", "one", "other"] (spBesideIni c))
    (D_moved : Df P w K mg base "moved" 4 ["tune", "far"] (spMoved c)) (D_Beside_least_cost : Mt P w K mg base c.Beside "least_cost" 6 ["self"] (spLeast c)) :
    FnOk P w K mg base CX0 7 f fd ["self", "i", "j"] (spShift c) := by
  refine F.ok scFamily_shift (fun vs H Q E h => ?_) (fun cdv A outer s H vs Q E hr h => ?_)
  · obtain ⟨f, cA, tA, kA, tps, kvs, k, ts, i, j, rfl, _⟩ := h
    rfl
  · obtain ⟨f, cA, tA, kA, tps, kvs, k, ts, i, j, rfl, Fm, hi, hj, q⟩ := h
    refine ⟨_, (pss_cons (ps_set (i := 3) scFamily_shift.nd rfl (by first | exact Or.inl rfl | exact Or.inr rfl) pe_non)
    (pss_cons (ps_for PassesOwn.never rfl (pi_list (pe_df0 D_shifts (hr.mono (by decide)) (by rfl))) (pg_name (i := 4) scFamily_shift.nd rfl (by first | exact Or.inl rfl | exact Or.inr rfl))
      (pss_cons (ps_set (i := 5) scFamily_shift.nd rfl (by first | exact Or.inl rfl | exact Or.inr rfl) (pe_mt0 D_Beside_least_cost T.cl_Beside (hr.mono (by decide)) (pe_mk M_Beside (hr.mono (by decide)) (by rfl) (pa_cons (pe_fld (pv 0) rfl) (pa_cons (pe_ix ix_list (pe_fld (pv 0) rfl) (pv 1) (fun _ _ => rfl)) (pa_cons (pe_df D_moved (hr.mono (by decide)) (by rfl) (pa_cons (pe_ix ix_list (pe_fld (pv 0) rfl) (pv 2) (fun _ _ => rfl)) (pa_cons (pv 4) pa_nil))) pa_nil))))))
    (pss_one (ps_if (PW.pt (pw_or (pt_cmpR op_isN (pv 3) pe_non (nomark _)) (pw_or1 (pt_cmpR op_lt (pv 5) (pe_ix ix_tup (pv 3) pe_int (fun _ _ => rfl)) (nomark _))))) (pss_one (ps_set (i := 3) scFamily_shift.nd rfl (by first | exact Or.inl rfl | exact Or.inr rfl) (pe_tup (pa_cons (pv 5) (pa_cons (pv 4) pa_nil))))) pss_nil))))
    (pss_one (ps_ret (pv 3))))), ?_⟩
    refine st_seq ?_
    refine st_set val_c ?_
    dsimp only
    refine st_seq ?_
    obtain ⟨u, hu, hut, lu⟩ := Fm.at_ hi
    obtain ⟨v, hv, hvt, lv⟩ := Fm.at_ hj
    generalize ts.getD i [] = s at *
    generalize ts.getD j [] = t at *
    refine ⟨rfl, fun la H1 s1 hl => ⟨la, rfl, ⟨_, SqL.of hl⟩, for_list (K := K) (a := la) (xs := (Sw73.outwards 24).map V.int) (fun n σ H' => ∃ (x : V) (v4 v5 : Option V), σ = [some (.ref f), some (.int i), some (.int j), some x, v4, v5] ∧ L2.Same H1 H' ∧
        ((n = 0 ∧ x = .non) ∨ (0 < n ∧ ∃ p, x = .ref p ∧ H' p = some (.tup [.int (bestUpTo k s t n).1, .int (bestUpTo k s t n).2]))))
      ⟨.non, none, none, rfl, L2.Same.refl H1, .inl ⟨rfl, rfl⟩⟩ (fun n σ H' _ ⟨_, _, _, _, s2, _⟩ => (SqL.of (s2 _ _ hl))) ?_ ?_⟩⟩
    · rintro n x0 σ H2 hx ⟨x, v4, v5, rfl, s2, hb⟩
      obtain ⟨z, hz, rfl⟩ : ∃ z, (Sw73.outwards 24)[n]? = some z ∧ x0 = V.int z := by
        rw [List.getElem?_map] at hx
        cases hy : (Sw73.outwards 24)[n]? with
        | none => rw [hy] at hx; cases hx
        | some y => rw [hy] at hx; exact ⟨y, rfl, (Option.some.inj hx).symm⟩
      have s02 := L2.Same.trans s1 s2
      have F2 := Fm.mono s02
      obtain ⟨dx, hf⟩ := F2.obj
      refine st_seq ?_
      refine m_set ?_
      refine m_meth ?_
      refine m_make ?_
      refine m_acons ?_
      refine v_Family_costs T (val_var rfl) hf _ ?_
      refine m_acons ?_
      refine v_ixL (K := K) (n := i) (v_Family_tunes T (val_var rfl) hf) (SqL.of F2.lst) (val_var rfl) (v := .ref u) (by rw [List.getElem?_map, hu]; rfl) _ ?_
      refine m_acons ?_
      refine v_call (va_cons (v_ixL (K := K) (n := j) (v_Family_tunes T (val_var rfl) hf) (SqL.of F2.lst) (val_var rfl) (v := .ref v) (by rw [List.getElem?_map, hv]; rfl)) (va_cons (val_var rfl) va_nil)) ⟨v, z, t, rfl, hvt.mono s02, Nat.le_trans lv (by decide), fun m H3 s3 hm => ?_⟩
      have s03 := L2.Same.trans s02 s3
      refine m_anil ?_
      refine made_beside (Fm.costs.mono s03) Fm.ok (hut.mono s03) hm lu (by unfold Sw73.moved; rw [List.length_map]; exact lv) fun b H4 s4 Bs => ?_
      have Bs' := Bs
      obtain ⟨bc, bs, bt, bk, B0⟩ := Bs'
      obtain ⟨db, hbb⟩ := B0.obj
      refine ⟨b, db, _, rfl, hbb, rfl, ⟨b, k, _, _, rfl, Bs, fun H5 s5 => ?_⟩⟩
      have s25 := L2.Same.trans s3 (L2.Same.trans s4 s5)
      have s15 := L2.Same.trans s2 s25
      dsimp only
      rcases hb with ⟨rfl, rfl⟩ | ⟨hn, p, rfl, hp⟩
      · have z0 : z = 0 := by
          rw [outwards_eq] at hz
          exact (Option.some.inj hz).symm
        subst z0
        refine st_yes (ans_or1 (ans_isN (val_var rfl) rfl)) ?_
        refine ⟨_, rfl, _, rfl, by show 2 ≤ sizeLine; decide, fun p np => ⟨.ref p, _, _, rfl, L2.Same.trans s15 (same_upd np), .inr ⟨Nat.one_pos, p, rfl, ?_⟩⟩⟩
        rw [upd_same, upTo_one, moved_zero]
      · have hp5 := s25 _ _ hp
        by_cases hlt : (Sw73.best k s (Sw73.moved z t)).cost < (bestUpTo k s t n).1
        · refine st_yes (ans_or (ans_isN (val_var rfl) rfl) (ans_cmp (val_var rfl) (v_ixT (K := K) (n := 0) (val_var rfl) (SqT.of hp5) val_c rfl) (b := true) fun Q q => ⟨_, _, rfl, rfl, ?_⟩)) ?_
          · dsimp only
            rw [decide_eq_true (Int.ofNat_lt.mpr hlt)]
            exact q
          · refine ⟨_, rfl, _, rfl, by show 2 ≤ sizeLine; decide, fun p np => ⟨.ref p, _, _, rfl, L2.Same.trans s15 (same_upd np), .inr ⟨Nat.succ_pos _, p, rfl, ?_⟩⟩⟩
            rw [upd_same, upTo_succ hn hz]
            unfold shiftStep
            rw [if_pos hlt]
        · refine st_no (ans_or (ans_isN (val_var rfl) rfl) (ans_cmp (val_var rfl) (v_ixT (K := K) (n := 0) (val_var rfl) (SqT.of hp5) val_c rfl) (b := false) fun Q q => ⟨_, _, rfl, rfl, ?_⟩)) ?_
          · dsimp only
            rw [decide_eq_false (fun h => hlt (Int.ofNat_lt.mp h))]
            exact q
          · refine st_next ⟨.ref p, _, _, rfl, s15, .inr ⟨Nat.succ_pos _, p, rfl, ?_⟩⟩
            rw [hp5, upTo_succ hn hz]
            unfold shiftStep
            rw [if_neg hlt]
    · rintro σ H2 ⟨x, v4, v5, rfl, s2, hb⟩
      rw [List.length_map] at hb
      dsimp only
      rcases hb with ⟨h0, _⟩ | ⟨hn, p, rfl, hp⟩
      · rw [outwards_eq] at h0
        exact absurd h0 (by simp)
      · rw [upTo_all] at hp
        exact st_ret (val_var rfl) (q p H2 (L2.Same.trans s1 s2) hp)
end
end Sk

/-! Families: the nearest pair; the tree. -/
namespace Sk
open PySem PySem.Spec PyProof.Rows L2 SkR SkM
section
variable {K : PySem.W.Frag} {σ : L2.St} {H : Hp} {te tx : TE} {D : Ends} {l : Addr} {xs : List V}
theorem m_forR {ta : TA} {g : TG} {tb : TS} {n : Nat} (h : VA ta σ H [.int n]) (hn : n ≤ 1000) (q : ∃ W : Nat → Nat → L2.St → Hp → Prop, (∃ m, W 0 m σ H) ∧ ∀ x m σ H, W x m σ H →
      ((Itr 0 n).stop x H ∧ D.nx σ H) ∨ ((Itr 0 n).go x H ∧ ∃ N : L2.St → Hp → Prop, (∀ σ' H', N σ' H' → ∃ m', m' < m ∧ W (x + 1) m' σ' H') ∧ ∀ y H', (Itr 0 n).yld x H y H' → g y σ H' fun σ2 H2 => tb { D with nx := N, ct := N, bk := D.nx } σ2 H2)) : tFor (iRng1 ta) g tb D σ H := by
  have e62 : (2 : Int) ^ 62 = 4611686018427387904 := by decide
  exact h _ ⟨n, rfl, by omega, by omega, q⟩
/-- a tuple of values is put to a list -/
theorem m_appendR {ta : TA} {vs : List V} {R : Hp → Prop} (hx : Val tx σ H (.ref l)) (hl : H l = some (.lst xs)) (hz : xs.length < sizeLine) (hv : vs.length ≤ sizeLine) (h : ∀ F : List V → Hp → Prop, (∀ H1, R H1 → F vs H1) → ta σ H F)
    (hl1 : ∀ H1, R H1 → H1 l = some (.lst xs)) (q : ∀ (H1 : Hp) (p : Addr), R H1 → H1 p = none → D.nx σ (upd (upd H1 p (.tup vs)) l (.lst (xs ++ [.ref p])))) : tDrop (tBM K "list" rAppend tx (tCons (tTup ta) tNil)) D σ H := by
  refine hx _ ⟨.inl ⟨rfl, _, SqL.of hl⟩, ?_⟩
  refine h _ fun H1 s => ⟨hv, fun p np => ⟨l, xs, .ref p, rfl, rfl, ?_, hz, q H1 p s np⟩⟩
  exact same_upd np _ _ (hl1 H1 s)
end
theorem inV_nat (j : Nat) : ∀ ins : List Nat, inV (.int j) (ins.map fun (i : Nat) => V.int i) = ins.contains j
  | [] => rfl
  | i :: ins => by
    have ih := inV_nat j ins
    rw [List.contains_cons, ← ih]
    show (eqV (V.int i) (V.int j) || _) = _
    congr 1
    show ((i : Int) == (j : Int)) = (j == i)
    rw [Bool.eq_iff_iff, beq_iff_eq, beq_iff_eq]
    omega
theorem flat_ints {α : Type} (f : α → Int) : ∀ l : List α, (l.map fun i => V.int (f i)).all flatV = true
  | [] => rfl
  | _ :: l => flat_ints f l
def candsP (N : Nat) (ins pre : List Nat) : List (Nat × Nat) := pre.flatMap fun i => ((List.range N).filter fun j => !ins.contains j).map fun j => (i, j)
theorem candsP_len (N : Nat) (ins : List Nat) : ∀ pre : List Nat, (candsP N ins pre).length ≤ pre.length * N
  | [] => Nat.zero_le _
  | i :: pre => by
    have ih := candsP_len N ins pre
    have e : candsP N ins (i :: pre) = ((List.range N).filter fun j => !ins.contains j).map (fun j => (i, j)) ++ candsP N ins pre := rfl
    have := List.length_filter_le (fun j => !ins.contains j) (List.range N)
    rw [List.length_range] at this
    rw [e, List.length_append, List.length_map, List.length_cons, Nat.succ_mul]
    omega
theorem candsP_snoc (N : Nat) (ins pre : List Nat) (i : Nat) : candsP N ins (pre ++ [i]) = candsP N ins pre ++ ((List.range N).filter fun j => !ins.contains j).map (fun j => (i, j)) := by
  unfold candsP
  rw [List.flatMap_append]
  congr 1
  exact List.append_nil _
def TripAt (k : Sw73.Costs) (ts : List Sw73.Tune) (H : Hp) (q : Addr) (x : Nat × Nat) : Prop := H q = some (.tup [.int (Sw73.far k ts x.1 x.2), .int x.1, .int x.2])
def EdgeAt (k : Sw73.Costs) (ts : List Sw73.Tune) (H : Hp) (q : Addr) (x : Nat × Nat) : Prop := H q = some (.tup [.int x.1, .int x.2, .int (Sw73.far k ts x.1 x.2)])
theorem nearest_of {k : Sw73.Costs} {ts : List Sw73.Tune} {ins : List Nat} {p : Nat} (hlt : ∀ x ∈ ins, x < ts.length) (hne : cands ts.length ins ≠ []) (hp : PySem.argBest (lexOf ((cands ts.length ins).map (trip fun x => Sw73.far k ts x.1 x.2))) ((cands ts.length ins).length - 1) = p) :
    Sw73.nearest (dist k ts) ins = (cands ts.length ins)[p]? := by
  have e : (cands ts.length ins).map (trip fun x => Sw73.far k ts x.1 x.2) = (cands ts.length ins).map (trip fun x => ((dist k ts).getD x.1 []).getD x.2 0) := by
    refine List.map_congr_left fun x hx => ?_
    obtain ⟨h1, h2, _⟩ := mem_cands.mp hx
    unfold trip
    dsimp only
    rw [dist_at k ts (hlt _ h1) h2]
  rw [e] at hp
  have := trip_min (d := dist k ts) (ins := ins) (p := p)
  rw [dist_len] at this
  exact this hne hp
section
variable {P : Program} {w : World} {K : PySem.W.Frag} {mg : Str → Option Value} {base : Heap} {c : Cs}
def spNext (c : Cs) : Sp := fun vs H Q _ => ∃ (f ia cA tA kA : Addr) (tps : List Addr) (kvs : List (List Key × V)) (k : Sw73.Costs) (ts : List Sw73.Tune) (ins : List Nat), vs = [.ref f, .ref ia] ∧ FamAt c H f cA tA kA tps kvs k ts ∧ H ia = some (.lst (ins.map fun (i : Nat) => V.int i)) ∧
  (∀ x ∈ ins, x < ts.length) ∧ ins.length ≤ 8 ∧ cands ts.length ins ≠ [] ∧
  ∀ (x : Nat × Nat) (p : Addr) (H' : Hp) (kvs' : List (List Key × V)), Sw73.nearest (dist k ts) ins = some x → x ∈ cands ts.length ins → Keep kA H H' → FamAt c H' f cA tA kA tps kvs' k ts → H' p = some (.tup [.int (Sw73.far k ts x.1 x.2), .int x.1, .int x.2]) → Q (.ref p) H'
theorem scFamily_next_pair : FnScope ["self", "inside", "found", "one", "other"] ["self", "inside"] (defScope sFamily_next_pair) := ⟨rfl, rfl, rfl, by decide +kernel, rfl, by decide +kernel, by decide +kernel⟩
theorem ok_Family_next_pair {f : Addr} {fd : FuncData} (F : Fun K "next_pair" "Family.next_pair" sFamily_next_pair f fd) (T : Txt K mg c) (D_Family_far : Mt P w K mg base c.Family "far" 7 ["self", "i", "j"] (spFar c)) :
    FnOk P w K mg base CX0 8 f fd ["self", "inside"] (spNext c) := by
  refine F.ok scFamily_next_pair (fun vs H Q E h => ?_) (fun cdv A outer s H vs Q E hr h => ?_)
  · obtain ⟨f, ia, cA, tA, kA, tps, kvs, k, ts, ins, rfl, _⟩ := h
    rfl
  · obtain ⟨f, ia, cA, tA, kA, tps, kvs, k, ts, ins, rfl, Fm, hia, hlt, l8, hne, q⟩ := h
    have hu := hu_of hr
    have l8t := Fm.ln
    have ltp := Paired.length Fm.tunes
    refine ⟨_, (pss_cons (ps_set (i := 2) scFamily_next_pair.nd rfl (by first | exact Or.inl rfl | exact Or.inr rfl) (pe_lst pa_nil))
    (pss_cons (ps_for PassesOwn.never rfl (pi_list (pv 1)) (pg_name (i := 3) scFamily_next_pair.nd rfl (by first | exact Or.inl rfl | exact Or.inr rfl))
      (pss_one (ps_for PassesOwn.never rfl (pi_range1 (by rfl) T.b_range (pa_cons (pe_callB call_len_seq (by rfl) T.b_len PySem.boot_len (pa_cons (pe_fld (pv 0) rfl) pa_nil)) pa_nil)) (pg_name (i := 4) scFamily_next_pair.nd rfl (by first | exact Or.inl rfl | exact Or.inr rfl))
      (pss_one (ps_if (pt_cmpR op_notIn_seq (pv 4) (pv 1) (by rfl)) (pss_one (ps_expr (pe_bm PySem.F.plainAttrs_list PySem.F.slot_list_append PySem.F.type_list_append mt_append (pv 2) (pa_cons (pe_tup (pa_cons (pe_mt D_Family_far T.cl_Family (hr.mono (by decide)) (pv 0) (pa_cons (pv 3) (pa_cons (pv 4) pa_nil))) (pa_cons (pv 3) (pa_cons (pv 4) pa_nil)))) pa_nil)))) pss_nil)))))
    (pss_one (ps_ret (pe_callB (cr_minT rfl hu) (by rfl) T.b_min (by decide +kernel) (pa_cons (pv 2) pa_nil)))))), ?_⟩
    refine st_seq ?_
    refine ⟨Nat.zero_le _, fun l nl => ?_⟩
    dsimp only
    refine st_seq ?_
    have hin : ∀ {H1 : Hp}, Keep kA H H1 → H1 ia = some (.lst (ins.map fun (i : Nat) => V.int i)) := fun kp => kp _ _ hia (ne_of hia Fm.dict (by intro z; cases z))
    have nekl : kA ≠ l := ne_of_none Fm.dict nl
    refine ⟨_, rfl, ia, rfl, ⟨_, SqL.of (same_upd nl _ _ hia)⟩, for_list (K := K) (a := ia) (xs := ins.map fun (i : Nat) => V.int i) (fun n σ H' => ∃ (v3 v4 : Option V) (kvs' : List (List Key × V)), σ = [some (.ref f), some (.ref ia), some (.ref l), v3, v4] ∧ Keep kA H H' ∧ FamAt c H' f cA tA kA tps kvs' k ts ∧
        RefsAt (TripAt k ts) H' l (candsP ts.length ins (ins.take n)))
      ⟨none, none, kvs, rfl, fun b o e _ => same_upd nl _ _ e, Fm.mono (same_upd nl), [], upd_same, .nil⟩ (fun n σ H' _ ⟨_, _, _, _, kp, _⟩ => SqL.of (hin kp)) ?_ ?_⟩
    · rintro n x0 σ H1 hx ⟨v3, v4, kvs1, rfl, kp1, F1, R1⟩
      obtain ⟨one, ho, rfl⟩ : ∃ i, ins[n]? = some i ∧ x0 = V.int (i : Nat) := by
        rw [List.getElem?_map] at hx
        cases hy : ins[n]? with
        | none => rw [hy] at hx; cases hx
        | some y => rw [hy] at hx; exact ⟨y, rfl, (Option.some.inj hx).symm⟩
      have hn8 : n < ins.length := (List.getElem?_eq_some_iff.mp ho).1
      have hone := hlt one (List.mem_of_getElem? ho)
      have clen := candsP_len ts.length ins (ins.take n)
      have ctake : (ins.take n).length ≤ 8 := by rw [List.length_take]; omega
      have clen2 : (candsP ts.length ins (ins.take n)).length ≤ 64 := Nat.le_trans clen (Nat.mul_le_mul ctake l8t)
      obtain ⟨dx, hf⟩ := F1.obj
      have hlen : ((tps.map V.ref).length : Nat) = ts.length := by rw [List.length_map, ltp]
      refine m_forR (n := ts.length) (va_cons (by
        rw [show V.int (ts.length : Nat) = V.int ((tps.map V.ref).length : Nat) by rw [hlen]]
        exact v_len (K := K) (p := tA) (v_Family_tunes T (val_var rfl) hf) (SqL.of F1.lst) fun Q q => ⟨_, _, rfl, .inl (SqL.of F1.lst), q⟩) va_nil) (Nat.le_trans l8t (by decide)) ?_
      refine for_range (lo := 0) (n := ts.length) (fun m σ H' => ∃ (v4 : Option V) (kvs' : List (List Key × V)), σ = [some (.ref f), some (.ref ia), some (.ref l), some (.int one), v4] ∧ Keep kA H H' ∧ FamAt c H' f cA tA kA tps kvs' k ts ∧
          RefsAt (TripAt k ts) H' l (candsP ts.length ins (ins.take n) ++ ((List.range m).filter fun j => !ins.contains j).map (fun j => (one, j))))
        ⟨v4, kvs1, rfl, kp1, F1, by rw [List.range_zero, List.filter_nil, List.map_nil, List.append_nil]; exact R1⟩ ?_ ?_
      · rintro m σ H2 hm ⟨v4, kvs2, rfl, kp2, F2, ps, hl, pr⟩
        have em : (0 : Int) + (m : Nat) = (m : Nat) := Int.zero_add _
        rw [em]
        have pred : (!inV (V.int m) (ins.map fun (i : Nat) => V.int i)) = (!ins.contains m) := by rw [inV_nat]
        have lps : ps.length ≤ 1000 - 1 := by
          rw [Paired.length pr, List.length_append, List.length_map]
          have := List.length_filter_le (fun j => !ins.contains j) (List.range m)
          rw [List.length_range] at this
          omega
        cases hc : ins.contains m with
        | true =>
          rw [hc] at pred
          refine st_no (ans_cmp (val_var rfl) (val_var rfl) (b := false) fun Q q => ⟨ia, _, rfl, .inl (SqL.of (hin kp2)), rfl, flat_ints _ _, by rw [if_pos rfl, pred]; exact q⟩) ?_
          refine st_next ⟨_, kvs2, rfl, kp2, F2, ps, hl, ?_⟩
          rw [range_filter_succ, hc, if_neg (by decide), List.append_nil]
          exact pr
        | false =>
          rw [hc] at pred
          refine st_yes (ans_cmp (val_var rfl) (val_var rfl) (b := true) fun Q q => ⟨ia, _, rfl, .inl (SqL.of (hin kp2)), rfl, flat_ints _ _, by rw [if_pos rfl, pred]; exact q⟩) ?_
          obtain ⟨dx2, hf2⟩ := F2.obj
          have nel : ∀ {u : HO}, H2 kA = some u → l ≠ kA := fun _ => Ne.symm nekl
          refine m_appendR (K := K) (vs := [.int (Sw73.far k ts one m), .int one, .int m]) (R := fun H3 => Keep kA H2 H3 ∧ ∃ kvs3, FamAt c H3 f cA tA kA tps kvs3 k ts) (val_var rfl) hl (by rw [List.length_map]; exact small1000 (by omega)) (by show 3 ≤ sizeLine; decide) (fun G hG => ?_) (fun H3 r => r.1 _ _ hl (Ne.symm nekl)) (fun H3 p3 r n3 => ?_)
          · refine m_acons ?_
            refine v_meth (val_var rfl) hf2 rfl (va_cons (val_var rfl) (va_cons (val_var rfl) va_nil)) ⟨f, cA, tA, kA, tps, kvs2, k, ts, one, m, rfl, F2, hone, hm, fun H3 kvs3 kp3 F3 => ?_⟩
            exact ⟨_, rfl, _, rfl, hG H3 ⟨kp3, kvs3, F3⟩⟩
          · obtain ⟨kp3, kvs3, F3⟩ := r
            have hl3 := kp3 _ _ hl (Ne.symm nekl)
            have up : ∀ {y : Addr} {o : HO}, H3 y = some o → y ≠ l → upd (upd H3 p3 (.tup [.int (Sw73.far k ts one m), .int one, .int m])) l (.lst (ps.map V.ref ++ [.ref p3])) y = some o := fun {y o} e ne => by
              rw [upd_ne ne, upd_ne (ne_of_none e n3)]
              exact e
            have kp4 : Keep kA H (upd (upd H3 p3 (.tup [.int (Sw73.far k ts one m), .int one, .int m])) l (.lst (ps.map V.ref ++ [.ref p3]))) := fun b o e n => up (kp3 _ _ (kp2 _ _ e n) n) (ne_of_none e nl)
            refine ⟨some (.int m), kvs3, rfl, kp4, Fm.keepK kp4 (up F3.dict nekl) F3.known, ps ++ [p3], ?_, ?_⟩
            · rw [upd_same, List.map_append]
              rfl
            · rw [range_filter_succ, hc, if_pos (by decide), List.map_append, ← List.append_assoc]
              refine paired_snoc (paired_imp (fun y x z => ?_) pr) ?_
              · have z : H2 y = some (.tup [.int (Sw73.far k ts x.1 x.2), .int x.1, .int x.2]) := z
                exact up (kp3 _ _ z (ne_of z F2.dict (by intro z; cases z))) (ne_of z hl (by intro z; cases z))
              · show upd _ _ _ _ = _
                rw [upd_ne (Ne.symm (ne_of_none hl3 n3)), upd_same]
      · rintro σ H2 ⟨v4, kvs2, rfl, kp2, F2, R2⟩
        refine ⟨_, _, kvs2, rfl, kp2, F2, ?_⟩
        rw [take_snoc ho, candsP_snoc]
        exact R2
    · rintro σ H1 ⟨v3, v4, kvs1, rfl, kp1, F1, ps, hl, pr⟩
      rw [List.length_map, List.take_length] at pr
      have pr : Paired (TripAt k ts H1) ps (cands ts.length ins) := pr
      dsimp only
      have prT : Paired (fun (p : Addr) (t : List Int) => SqT K H1 p (t.map V.int)) ps ((cands ts.length ins).map (trip fun x => Sw73.far k ts x.1 x.2)) := paired_mapL (trip fun x => Sw73.far k ts x.1 x.2) (paired_imp (fun _ _ z => SqT.of z) pr)
      refine m_ret ?_
      refine ⟨_, rfl, l, ps, (cands ts.length ins).map (trip fun x => Sw73.far k ts x.1 x.2), rfl, SqL.of hl, prT, by rw [List.length_map]; exact List.length_pos_iff.mpr hne, fun pm hpm => ?_⟩
      rw [List.length_map] at hpm
      have hj := nearest_of (k := k) hlt hne rfl
      obtain ⟨x, hx, hm⟩ := LiI.paired_get pr hpm
      rw [hx] at hj
      exact q x pm H1 kvs1 hj (List.mem_of_getElem? hx) kp1 F1 hm
def spTree (c : Cs) : Sp := fun vs H Q _ => ∃ (f cA tA kA : Addr) (tps : List Addr) (kvs : List (List Key × V)) (k : Sw73.Costs) (ts : List Sw73.Tune) (r : Nat), vs = [.ref f, .int r] ∧ FamAt c H f cA tA kA tps kvs k ts ∧ r < ts.length ∧
  ∀ (p : Addr) (H' : Hp) (kvs' : List (List Key × V)), Keep kA H H' → FamAt c H' f cA tA kA tps kvs' k ts → RefsAt (EdgeAt k ts) H' p (Sw73.tree (dist k ts) r) → (Sw73.tree (dist k ts) r).length ≤ 8 → (∀ x ∈ Sw73.tree (dist k ts) r, x.1 < ts.length ∧ x.2 < ts.length) → Q (.ref p) H'
theorem scFamily_tree : FnScope ["self", "root", "inside", "found", "far", "one", "other"] ["self", "root"] (defScope sFamily_tree) := ⟨rfl, rfl, rfl, by decide +kernel, rfl, by decide +kernel, by decide +kernel⟩
theorem ok_Family_tree {f : Addr} {fd : FuncData} (F : Fun K "tree" "Family.tree" sFamily_tree f fd) (T : Txt K mg c) (D_Family_next_pair : Mt P w K mg base c.Family "next_pair" 8 ["self", "inside"] (spNext c)) :
    FnOk P w K mg base CX0 9 f fd ["self", "root"] (spTree c) := by
  refine F.ok scFamily_tree (fun vs H Q E h => ?_) (fun cdv A outer s H vs Q E hr h => ?_)
  · obtain ⟨f, cA, tA, kA, tps, kvs, k, ts, r, rfl, _⟩ := h
    rfl
  · obtain ⟨f, cA, tA, kA, tps, kvs, k, ts, r, rfl, Fm, hr8, q⟩ := h
    have l8t := Fm.ln
    have ltp := Paired.length Fm.tunes
    refine ⟨_, (pss_cons (ps_set (i := 2) scFamily_tree.nd rfl (by first | exact Or.inl rfl | exact Or.inr rfl) (pe_lst (pa_cons (pv 1) pa_nil)))
    (pss_cons (ps_set (i := 3) scFamily_tree.nd rfl (by first | exact Or.inl rfl | exact Or.inr rfl) (pe_lst pa_nil))
    (pss_cons (ps_while PassesOwn.never (pt_cmpR op_lt (pe_callB call_len_seq (by rfl) T.b_len PySem.boot_len (pa_cons (pv 2) pa_nil)) (pe_callB call_len_seq (by rfl) T.b_len PySem.boot_len (pa_cons (pe_fld (pv 0) rfl) pa_nil)) (nomark _))
      (pss_cons (ps_asg (pe_mt D_Family_next_pair T.cl_Family (hr.mono (by decide)) (pv 0) (pa_cons (pv 2) pa_nil)) (pg_tup rfl (pgs_cons (pg_name (i := 4) scFamily_tree.nd rfl (by first | exact Or.inl rfl | exact Or.inr rfl)) (pgs_cons (pg_name (i := 5) scFamily_tree.nd rfl (by first | exact Or.inl rfl | exact Or.inr rfl)) (pgs_cons (pg_name (i := 6) scFamily_tree.nd rfl (by first | exact Or.inl rfl | exact Or.inr rfl)) pgs_nil)))))
    (pss_cons (ps_expr (pe_bm PySem.F.plainAttrs_list PySem.F.slot_list_append PySem.F.type_list_append mt_append (pv 2) (pa_cons (pv 6) pa_nil)))
    (pss_one (ps_expr (pe_bm PySem.F.plainAttrs_list PySem.F.slot_list_append PySem.F.type_list_append mt_append (pv 3) (pa_cons (pe_tup (pa_cons (pv 5) (pa_cons (pv 6) (pa_cons (pv 4) pa_nil)))) pa_nil)))))))
    (pss_one (ps_ret (pv 3)))))), ?_⟩
    refine st_seq ?_
    refine ⟨_, rfl, by show 1 ≤ sizeLine; decide, fun ia na => ?_⟩
    dsimp only
    refine st_seq ?_
    refine ⟨Nat.zero_le _, fun la nl => ?_⟩
    dsimp only
    refine st_seq ?_
    have nal : ia ≠ la := fun e => by rw [← e, upd_same] at nl; cases nl
    have nl0 : H la = none := by rw [upd_ne (Ne.symm nal)] at nl; exact nl
    have neka : kA ≠ ia := ne_of_none Fm.dict na
    have nekl : kA ≠ la := ne_of_none Fm.dict nl0
    have s0 : L2.Same H (upd (upd H ia (.lst [.int r])) la (.lst [])) := L2.Same.trans (same_upd na) (same_upd nl)
    refine ⟨fun m σ H' => ∃ (ins : List Nat) (done : List (Nat × Nat)) (v4 v5 v6 : Option V) (kvs' : List (List Key × V)), σ = [some (.ref f), some (.int r), some (.ref ia), some (.ref la), v4, v5, v6] ∧ Keep kA H H' ∧ FamAt c H' f cA tA kA tps kvs' k ts ∧ H' ia = some (.lst (ins.map fun (i : Nat) => V.int i)) ∧
        RefsAt (EdgeAt k ts) H' la done ∧ ins.Nodup ∧ (∀ x ∈ ins, x < ts.length) ∧ ins ≠ [] ∧ done.length + 1 = ins.length ∧ ins.length ≤ ts.length ∧ (∀ x ∈ done, x.1 < ts.length ∧ x.2 < ts.length) ∧ m = ts.length - ins.length ∧ Sw73.tree (dist k ts) r = done ++ Sw73.growFrom (dist k ts) (m + 1) ins,
      ⟨ts.length - 1, [r], [], none, none, none, kvs, rfl, fun b o e _ => s0 _ _ e, Fm.mono s0, by rw [upd_ne nal, upd_same]; rfl, ⟨[], upd_same, .nil⟩, by simp, fun x hx => by rw [List.mem_singleton.mp hx]; exact hr8, by simp, rfl, by show 1 ≤ _; omega, fun x hx => absurd hx List.not_mem_nil, rfl, ?_⟩, ?_⟩
    · unfold Sw73.tree
      rw [dist_len, Nat.sub_add_cancel (by omega)]
      rfl
    · rintro m σ H1 ⟨ins, done, v4, v5, v6, kvs1, rfl, kp1, F1, hia, ⟨ps, hla, pr⟩, nd, hlt, nn, ld, li, hdone, rfl, et⟩
      obtain ⟨dx, hf⟩ := F1.obj
      have lps := Paired.length pr
      have hlen : ((tps.map V.ref).length : Nat) = ts.length := by rw [List.length_map, ltp]
      by_cases he : ins.length < ts.length
      · refine ans_cmp (b := true) (v_len (K := K) (p := ia) (val_var rfl) (SqL.of hia) fun Q q => ⟨_, _, rfl, .inl (SqL.of hia), q⟩) (v_len (K := K) (p := tA) (v_Family_tunes T (val_var rfl) hf) (SqL.of F1.lst) fun Q q => ⟨_, _, rfl, .inl (SqL.of F1.lst), q⟩) (fun Q q => ⟨_, _, rfl, rfl, by
          dsimp only
          rw [List.length_map, hlen, decide_eq_true (Int.ofNat_lt.mpr he)]
          exact q⟩) _ ?_
        refine iteT ⟨_, fun _ _ h => h, ?_⟩
        have hne : cands ts.length ins ≠ [] := by
          obtain ⟨j, hj1, hj2⟩ := outside nd he
          obtain ⟨i, hi⟩ := List.exists_mem_of_ne_nil _ nn
          intro e
          have := mem_cands (n := ts.length) (ins := ins) (x := (i, j)) |>.mpr ⟨hi, hj1, hj2⟩
          rw [e] at this
          cases this
        refine st_seq ?_
        refine m_asg ?_
        refine v_meth (val_var rfl) hf rfl (va_cons (val_var rfl) va_nil) ⟨f, ia, cA, tA, kA, tps, kvs1, k, ts, ins, rfl, F1, hia, hlt, by omega, hne, fun x p H2 kvs2 hx mx kp2 F2 hp => ?_⟩
        obtain ⟨x1, x2, x3⟩ := mem_cands.mp mx
        have hx1 := hlt _ x1
        refine ⟨p, _, rfl, SqT.of hp, rfl, _, _, rfl, _, _, rfl, _, _, rfl, rfl, ?_⟩
        dsimp only
        have kpH2 : Keep kA H H2 := fun b o e n => kp2 _ _ (kp1 _ _ e n) n
        have hia2 := kp2 _ _ hia (Ne.symm neka)
        have hla2 := kp2 _ _ hla (Ne.symm nekl)
        refine st_seq ?_
        refine m_appendV (K := K) (v := .int x.2) (val_var rfl) hia2 (by rw [List.length_map]; exact small1000 (by omega)) (val_var rfl) ?_
        have hla3 : upd H2 ia (.lst ((ins.map fun (i : Nat) => V.int i) ++ [.int x.2])) la = some (.lst (ps.map V.ref)) := by rw [upd_ne (Ne.symm nal)]; exact hla2
        dsimp only
        refine m_appendT (K := K) (vs := [.int x.1, .int x.2, .int (Sw73.far k ts x.1 x.2)]) (val_var rfl) hla3 (by rw [List.length_map]; exact small1000 (by omega)) (by show 3 ≤ sizeLine; decide) (fun G hG => ⟨_, rfl, _, rfl, _, rfl, hG _ (L2.Same.refl _)⟩) (fun H4 p4 s4 n4 => ?_)
        have hla4 := s4 _ _ hla3
        have up : ∀ {y : Addr} {o : HO}, H2 y = some o → y ≠ ia → y ≠ la → upd (upd H4 p4 (.tup [.int x.1, .int x.2, .int (Sw73.far k ts x.1 x.2)])) la (.lst (ps.map V.ref ++ [.ref p4])) y = some o := fun {y o} e n1 n2 => by
          have e4 := s4 y o (by rw [upd_ne n1]; exact e)
          rw [upd_ne n2, upd_ne (ne_of_none e4 n4)]
          exact e4
        have kp5 : Keep kA H (upd (upd H4 p4 (.tup [.int x.1, .int x.2, .int (Sw73.far k ts x.1 x.2)])) la (.lst (ps.map V.ref ++ [.ref p4]))) := fun b o e n => up (kpH2 b o e n) (ne_of_none e na) (ne_of_none e nl0)
        have nd' : (ins ++ [x.2]).Nodup := nd_snoc nd x3
        refine ⟨ts.length - (ins ++ [x.2]).length, ?_, ins ++ [x.2], done ++ [x], _, _, _, kvs2, rfl, kp5, Fm.keepK kp5 (up F2.dict neka nekl) F2.known, ?_, ⟨ps ++ [p4], ?_, ?_⟩, nd', ?_, by simp, ?_, ?_, ?_, rfl, ?_⟩
        · rw [List.length_append]
          show ts.length - (ins.length + 1) < ts.length - ins.length
          omega
        · have e4 := s4 ia _ upd_same
          rw [upd_ne nal, upd_ne (ne_of_none e4 n4), e4, List.map_append]
          rfl
        · rw [upd_same, List.map_append]
          rfl
        · refine paired_snoc (paired_imp (fun y z e => ?_) pr) ?_
          · have e : H1 y = some (.tup [.int z.1, .int z.2, .int (Sw73.far k ts z.1 z.2)]) := e
            exact up (kp2 _ _ e (ne_of e F1.dict (by intro z; cases z))) (ne_of e hia (by intro z; cases z)) (ne_of e hla (by intro z; cases z))
          · show upd _ _ _ _ = _
            rw [upd_ne (Ne.symm (ne_of_none hla4 n4)), upd_same]
        · intro y hy
          rcases List.mem_append.mp hy with hy | hy
          · exact hlt y hy
          · rw [List.mem_singleton.mp hy]
            exact x2
        · rw [List.length_append, List.length_append]
          show done.length + 1 + 1 = ins.length + 1
          omega
        · rw [List.length_append]
          show ins.length + 1 ≤ _
          omega
        · intro y hy
          rcases List.mem_append.mp hy with hy | hy
          · exact hdone y hy
          · rw [List.mem_singleton.mp hy]
            exact ⟨hx1, x2⟩
        · have e : ts.length - ins.length = ts.length - (ins ++ [x.2]).length + 1 := by
            rw [List.length_append]
            show ts.length - ins.length = ts.length - (ins.length + 1) + 1
            omega
          rw [et, grow_some hx, List.append_assoc, e]
          rfl
      · refine ans_cmp (b := false) (v_len (K := K) (p := ia) (val_var rfl) (SqL.of hia) fun Q q => ⟨_, _, rfl, .inl (SqL.of hia), q⟩) (v_len (K := K) (p := tA) (v_Family_tunes T (val_var rfl) hf) (SqL.of F1.lst) fun Q q => ⟨_, _, rfl, .inl (SqL.of F1.lst), q⟩) (fun Q q => ⟨_, _, rfl, rfl, by
          dsimp only
          rw [List.length_map, hlen, decide_eq_false (fun h => he (Int.ofNat_lt.mp h))]
          exact q⟩) _ ?_
        refine iteF ?_
        rw [grow_none (by rw [dist_len]; exact inside_all nd hlt (by omega)), List.append_nil] at et
        dsimp only
        refine st_ret (val_var rfl) ?_
        refine q la H1 kvs1 kp1 F1 ?_ ?_ ?_
        · rw [et]
          exact ⟨ps, hla, pr⟩
        · rw [et]
          omega
        · rw [et]
          exact hdone
end
end Sk

/-! Desks: what one holds; the calls that need no walk of their own. -/
namespace Sk
open PySem PySem.Spec PyProof.Rows L2 SkR SkM
structure DeskAt (c : Cs) (H : Hp) (d f cA tA kA : Addr) (tps : List Addr) (kvs : List (List Key × V)) (k : Sw73.Costs) (ts : List Sw73.Tune) : Prop where
  obj : ∃ dx, H d = some (.ins c.Desk dx (fDesk (.ref f)))
  fam : FamAt c H f cA tA kA tps kvs k ts
/-- what a desk may change -/
def Own (d f tA kA : Addr) (tps : List Addr) (b : Addr) : Prop := b = d ∨ b = f ∨ b = tA ∨ b = kA ∨ b ∈ tps
def DeskIn (c : Cs) (H : Hp) (d : Addr) (W : Addr → Prop) (s : Sw73.St) : Prop := ∃ f cA tA kA tps kvs, DeskAt c H d f cA tA kA tps kvs s.costs s.tunes ∧ ∀ b, W b ↔ Own d f tA kA tps b
/-- what is left of the others' -/
def After (W W' : Addr → Prop) (H H' : Hp) : Prop := ∀ b o, H b = some o → (∃ o', H' b = some o') ∧ (¬ W b → H' b = some o ∧ ¬ W' b)
def Told (c : Cs) (H : Hp) (d : Addr) (W : Addr → Prop) (Q : VK) (s : Sw73.St) (A : Sw73.Ans) : Prop := ∀ (p : Addr) (H' : Hp) (W' : Addr → Prop), DeskIn c H' d W' s → After W W' H H' → H p = none → H' p = some (.lst ((Sw73Neutral.out A).map V.int)) → Q (.ref p) H'
theorem DeskAt.mono {c : Cs} {H H' : Hp} {d f cA tA kA : Addr} {tps : List Addr} {kvs : List (List Key × V)} {k : Sw73.Costs} {ts : List Sw73.Tune} (h : DeskAt c H d f cA tA kA tps kvs k ts) (m : L2.Same H H') : DeskAt c H' d f cA tA kA tps kvs k ts :=
  ⟨let ⟨dx, e⟩ := h.obj; ⟨dx, m _ _ e⟩, h.fam.mono m⟩
theorem DeskIn.mono {c : Cs} {H H' : Hp} {d : Addr} {W : Addr → Prop} {s : Sw73.St} (h : DeskIn c H d W s) (m : L2.Same H H') : DeskIn c H' d W s :=
  let ⟨f, cA, tA, kA, tps, kvs, D, e⟩ := h; ⟨f, cA, tA, kA, tps, kvs, D.mono m, e⟩
theorem After.free {W W' : Addr → Prop} {H H' : Hp} (h : After W W' H H') {p : Addr} (n : H' p = none) : H p = none := by
  cases e : H p with
  | none => rfl
  | some o =>
    obtain ⟨⟨o', e'⟩, _⟩ := h p o e
    rw [n] at e'
    cases e'
theorem After.same {W : Addr → Prop} {H H' : Hp} (s : L2.Same H H') : After W W H H' := fun b o e => ⟨⟨o, s _ _ e⟩, fun n => ⟨s _ _ e, n⟩⟩
theorem After.more {W W' : Addr → Prop} {H H1 H' : Hp} (h : After W W' H H1) (s : L2.Same H1 H') : After W W' H H' := fun b o e => ⟨let ⟨o', e'⟩ := (h b o e).1; ⟨o', s _ _ e'⟩, fun n => ⟨s _ _ ((h b o e).2 n).1, ((h b o e).2 n).2⟩⟩
theorem After.pre {W W' : Addr → Prop} {H H1 H' : Hp} (s : L2.Same H H1) (h : After W W' H1 H') : After W W' H H' := fun b o e => h b o (s _ _ e)
/-- the known distances changed -/
theorem DeskAt.keepK {c : Cs} {H H' : Hp} {d f cA tA kA : Addr} {tps : List Addr} {kvs kvs' : List (List Key × V)} {k : Sw73.Costs} {ts : List Sw73.Tune} (h : DeskAt c H d f cA tA kA tps kvs k ts) (m : Keep kA H H') (F : FamAt c H' f cA tA kA tps kvs' k ts) : DeskAt c H' d f cA tA kA tps kvs' k ts :=
  ⟨let ⟨dx, e⟩ := h.obj; ⟨dx, m _ _ e (ne_of e h.fam.dict (by intro z; cases z))⟩, F⟩
theorem After.keepK {H H' : Hp} {kA : Addr} {W : Addr → Prop} {kvs' : List (List Key × V)} (hw : W kA) (m : Keep kA H H') (e' : H' kA = some (.dT kvs')) : After W W H H' := fun b o e => by
  by_cases n : b = kA
  · subst n
    exact ⟨⟨_, e'⟩, fun z => absurd hw z⟩
  · exact ⟨⟨o, m b o e n⟩, fun z => ⟨m b o e n, z⟩⟩
/-- the desk got another family -/
theorem FamAt.keepD {c : Cs} {H H' : Hp} {C dx d f cA tA kA : Addr} {x : Str × V} {tps : List Addr} {kvs : List (List Key × V)} {k : Sw73.Costs} {ts : List Sw73.Tune} (h : FamAt c H f cA tA kA tps kvs k ts) (m : Keep d H H') (hd : H d = some (.ins C dx [x])) : FamAt c H' f cA tA kA tps kvs k ts := by
  have nl : ∀ {b : Addr} {xs : List V}, H b = some (.lst xs) → b ≠ d := fun e => ne_of e hd (by intro z; cases z)
  have ni : ∀ {b C' dx' : Addr} {fs : List (Str × V)}, H b = some (.ins C' dx' fs) → fs.length ≠ 1 → b ≠ d := fun {b C' dx' fs} e n z => by
    rw [z, hd] at e
    exact n (ins_len e).symm
  refine ⟨let ⟨dx, e⟩ := h.obj; ⟨dx, m _ _ e (ni e (by show 3 ≠ 1; decide))⟩, let ⟨dx, e⟩ := h.costs; ⟨dx, m _ _ e (ni e (by show 5 ≠ 1; decide))⟩, m _ _ h.lst (nl h.lst), paired_imp (fun u t q => ?_) h.tunes, h.apart, m _ _ h.dict (ne_of h.dict hd (by intro z; cases z)), h.known, h.ok, h.ln, h.lens⟩
  obtain ⟨ps, e, r⟩ := q
  exact ⟨ps, m _ _ e (nl e), paired_imp (fun a n q => let ⟨dx, e⟩ := q; ⟨dx, m _ _ e (ni e (by show 2 ≠ 1; decide))⟩) r⟩
section
variable {P : Program} {w : World} {K : PySem.W.Frag} {mg : Str → Option Value} {base : Heap} {c : Cs}
theorem m_fld {ta tv : TE} {f : Str} {D : Ends} {σ : L2.St} {H : Hp} (h : tv σ H fun y H1 => ta σ H1 fun x H2 => ∃ a C dx fs, x = .ref a ∧ H2 a = some (.ins C dx fs) ∧ Cls K C ∧ NoAttr K C f ∧ fs.length < 1000 ∧ D.nx σ (upd H2 a (.ins C dx (putF f y fs)))) : sFld K ta tv f D σ H := h
theorem m_list {t : TA} {σ : L2.St} {H : Hp} {Q : VK} (h : t σ H fun xs H1 => xs.length ≤ sizeLine ∧ ∀ p, H1 p = none → Q (.ref p) (upd H1 p (.lst xs))) : tLst t σ H Q := h
/-- a desk made or anew: the family is new -/
theorem new_desk {H H1 H2 : Hp} {d f cA tA kA dx : Addr} {k : Sw73.Costs} {x : Str × V} {W : Addr → Prop} (wd : W d) (s1 : L2.Same H H1) (hd : H1 d = some (.ins c.Desk dx [x])) (nf : H f = none) (nt : H tA = none) (nk : H kA = none) (Fm : FamAt c H1 f cA tA kA [] [] k []) (e2 : H2 = upd H1 d (.ins c.Desk dx (fDesk (.ref f)))) :
    DeskIn c H2 d (Own d f tA kA []) ⟨k, []⟩ ∧ After W (Own d f tA kA []) H H2 := by
  subst e2
  refine ⟨⟨f, cA, tA, kA, [], [], ⟨⟨dx, upd_same⟩, Fm.keepD keep_upd hd⟩, fun _ => Iff.rfl⟩, fun b o e => ?_⟩
  by_cases n : b = d
  · subst n
    exact ⟨⟨_, upd_same⟩, fun z => absurd wd z⟩
  · refine ⟨⟨o, by rw [upd_ne n]; exact s1 _ _ e⟩, fun _ => ⟨by rw [upd_ne n]; exact s1 _ _ e, ?_⟩⟩
    rintro (z | z | z | z | z)
    · exact n z
    · exact ne_of_none e nf z
    · exact ne_of_none e nt z
    · exact ne_of_none e nk z
    · cases z
def spDeskIni (c : Cs) : Sp := fun vs H Q _ => ∃ (p dx : Addr), vs = [.ref p] ∧ H p = some (.ins c.Desk dx []) ∧ ∀ (H' : Hp) (W' : Addr → Prop), Keep p H H' → DeskIn c H' p W' Sw73.init → (∀ b o, H b = some o → b ≠ p → ¬ W' b) → Q .non H'
theorem scDesk_init : FnScope ["self"] ["self"] (defScope sDesk_init) := ⟨rfl, rfl, rfl, by decide +kernel, rfl, by decide +kernel, by decide +kernel⟩
theorem ok_Desk_init {f : Addr} {fd : FuncData} (F : Fun K "__init__" "Desk.__init__" sDesk_init f fd) (T : Txt K mg c) (D_first_family : Df P w K mg base "first_family" 3 [] (spFirstFamily c)) : FnOk P w K mg base CX0 4 f fd ["self"] (spDeskIni c) := by
  refine F.ok scDesk_init (fun vs H Q E h => ?_) (fun cdv A outer s H vs Q E hr h => ?_)
  · obtain ⟨p, dx, rfl, _⟩ := h
    rfl
  · obtain ⟨p, dx, rfl, hp, q⟩ := h
    refine ⟨_, (pss_one (ps_fld (pv 0) (pe_df0 D_first_family (hr.mono (by decide)) (by rfl)) rfl)), ?_⟩
    refine m_fld ?_
    refine v_call va_nil ⟨rfl, fun f cA tA kA H1 s1 nf nt nk Fm => ?_⟩
    have hp1 := s1 _ _ hp
    refine ⟨_, rfl, p, c.Desk, dx, [], rfl, hp1, T.cl_Desk, T.n_Desk_family, (by show 0 < 1000; decide), ?_⟩
    have k2 : Keep p H1 (upd H1 p (.ins c.Desk dx (putF "family" (.ref f) []))) := keep_upd
    refine q _ (Own p f tA kA []) (fun b o e n => k2 _ _ (s1 _ _ e) n) ⟨f, cA, tA, kA, [], [], ⟨⟨dx, upd_same⟩, ?_⟩, fun _ => Iff.rfl⟩ ?_
    case refine_2 =>
      intro b o e n
      rintro (z | z | z | z | z)
      · exact n z
      · exact ne_of_none e nf z
      · exact ne_of_none e nt z
      · exact ne_of_none e nk z
      · cases z
    have nl : ∀ {b : Addr} {xs : List V}, H1 b = some (.lst xs) → b ≠ p := fun e => ne_of e hp1 (by intro z; cases z)
    have ni : ∀ {b C' dx' : Addr} {fs : List (Str × V)}, H1 b = some (.ins C' dx' fs) → fs.length ≠ 0 → b ≠ p := fun {b C' dx' fs} e n z => by
      rw [z, hp1] at e
      exact n (ins_len e).symm
    exact ⟨let ⟨dx, e⟩ := Fm.obj; ⟨dx, k2 _ _ e (ni e (by show 3 ≠ 0; decide))⟩, let ⟨dx, e⟩ := Fm.costs; ⟨dx, k2 _ _ e (ni e (by show 5 ≠ 0; decide))⟩, k2 _ _ Fm.lst (nl Fm.lst), .nil, Fm.apart, k2 _ _ Fm.dict (ne_of Fm.dict hp1 (by intro z; cases z)), Known.nil _ _, Fm.ok, Fm.ln, Fm.lens⟩
def nums (l : List Nat) : List V := l.map fun (n : Nat) => V.int n
def spBegins (K : PySem.W.Frag) (c : Cs) : Sp := fun vs H Q _ => ∃ (d sa : Addr) (W : Addr → Prop) (s : Sw73.St) (k : Sw73.Costs), vs = [.ref d, .ref sa] ∧ DeskIn c H d W s ∧ SqL K H sa (nums [k.key, k.rest, k.long, k.gap, k.more]) ∧ Told c H d W Q (Sw73.step s (.begins k)).1 (Sw73.step s (.begins k)).2
theorem all_bls {α : Type} {f : α → Bool} : ∀ {t : List α} {acc : List V}, Paired (fun (y : V) (n : α) => y = .bl (f n)) acc t → acc = (t.map f).map V.bl
  | [], _, .nil => rfl
  | _ :: t, _, .cons r h => by
    rw [r, all_bls h]
    rfl
theorem scDesk_begins : FnScope ["self", "some", "cost", "key", "rest", "long", "gap", "more"] ["self", "some"] (defScope sDesk_begins) := ⟨rfl, rfl, rfl, by decide +kernel, rfl, by decide +kernel, by decide +kernel⟩
theorem ok_Desk_begins {f : Addr} {fd : FuncData} (F : Fun K "begins" "Desk.begins" sDesk_begins f fd) (T : Txt K mg c) (M_Family : Kl P w K mg base "Family" c.Family 1 ["self", "costs"] (spFamilyIni c)) (M_Costs : Kl P w K mg base "Costs" c.Costs 1 ["self", "key", "rest", "long", "gap", "more"] (spCostsIni c)) :
    FnOk P w K mg base CX0 3 f fd ["self", "some"] (spBegins K c) := by
  refine F.ok scDesk_begins (fun vs H Q E h => ?_) (fun cdv A outer s H vs Q E hr h => ?_)
  · obtain ⟨d, sa, W, s, k, rfl, _⟩ := h
    rfl
  · obtain ⟨d, sa, W, st, k, rfl, D0, hsa, q⟩ := h
    have D0' := D0
    obtain ⟨f, cA, tA, kA, tps, kvs, D1, hW⟩ := D0'
    refine ⟨_, (pss_cons (ps_if (pt_val (pe_callB (cr_any rfl) (by rfl) T.b_any (by decide +kernel) (pa_cons (pe_lc (own := [("cost", 2)]) (g := gName 2) (tt := tYes) (by rfl) scDesk_begins.nd (pi_list (pv 1)) (blkOk_by (by kernel_rfl)) (fun _ _ _ _ _ => (pg_name (i := 2) scDesk_begins.nd rfl (by first | exact Or.inl rfl | exact Or.inr rfl))) (fun _ _ _ _ _ => pts_nil) (fun _ _ _ _ _ => (pe_cmpR op_gt (pv 2) (pe_cst T.c_MOST_COST (by rfl)) (nomark _)))) pa_nil))) (pss_one (ps_ret (pe_lst (pa_cons (pe_cst T.c_WRONG (by rfl)) pa_nil)))) pss_nil)
    (pss_cons (ps_asg (pv 1) (pg_unl rfl (pgs_cons (pg_name (i := 3) scDesk_begins.nd rfl (by first | exact Or.inl rfl | exact Or.inr rfl)) (pgs_cons (pg_name (i := 4) scDesk_begins.nd rfl (by first | exact Or.inl rfl | exact Or.inr rfl)) (pgs_cons (pg_name (i := 5) scDesk_begins.nd rfl (by first | exact Or.inl rfl | exact Or.inr rfl)) (pgs_cons (pg_name (i := 6) scDesk_begins.nd rfl (by first | exact Or.inl rfl | exact Or.inr rfl)) (pgs_cons (pg_name (i := 7) scDesk_begins.nd rfl (by first | exact Or.inl rfl | exact Or.inr rfl)) pgs_nil)))))))
    (pss_cons (ps_fld (pv 0) (pe_mk M_Family (hr.mono (by decide)) (by rfl) (pa_cons (pe_mk M_Costs (hr.mono (by decide)) (by rfl) (pa_cons (pv 3) (pa_cons (pv 4) (pa_cons (pv 5) (pa_cons (pv 6) (pa_cons (pv 7) pa_nil)))))) pa_nil)) rfl)
    (pss_one (ps_ret (pe_lst (pa_cons pe_int pa_nil))))))), ?_⟩
    refine st_seq ?_
    refine m_if ?_
    refine ⟨_, rfl, sa, rfl, ⟨_, hsa⟩, fun D hD => lc_map (K := K) [k.key, k.rest, k.long, k.gap, k.more] (fun _ y n => y = .bl (decide ((10000 : Int) < (n : Nat)))) hD hsa rfl (by show 5 < sizeLine; decide) (fun _ _ _ _ _ _ _ _ _ r => r) ?_ ?_⟩
    · intro i x n H2 acc hx hn hd s2 Z N0 hZ
      have ex : x = .int (n : Nat) := by
        unfold nums at hx
        rw [List.getElem?_map, hn] at hx
        exact (Option.some.inj hx).symm
      subst ex
      refine ⟨rfl, m_yes ?_⟩
      exact v_gt (val_var rfl) val_c _ (hZ _ _ (L2.Same.refl _) rfl)
    · intro H2 acc s2 hd pr2
      rw [all_bls (f := fun (n : Nat) => decide ((10000 : Int) < (n : Nat))) pr2] at hd
      refine ⟨D, _, rfl, SqL.of hd, _, rfl, ?_⟩
      have e1 : (([k.key, k.rest, k.long, k.gap, k.more].map fun (n : Nat) => decide ((10000 : Int) < (n : Nat))).any id) = !Sw73.costsOk k := by
        have e : ∀ n : Nat, decide ((10000 : Int) < (n : Nat)) = !decide (n ≤ Sw73.COST) := fun n => by
          rw [Bool.eq_iff_iff, decide_eq_true_eq, Bool.not_eq_true', decide_eq_false_iff_not]
          unfold Sw73.COST
          omega
        unfold Sw73.costsOk
        simp only [List.map, List.any, List.all, e, id, Bool.not_and, Bool.or_false, Bool.and_true]
      rw [e1]
      have D2 := D0.mono s2
      cases hok : Sw73.costsOk k with
      | false =>
        refine iteT ?_
        refine m_ret ?_
        refine ⟨by show 1 ≤ sizeLine; decide, fun p np => ?_⟩
        have e : Sw73.step st (.begins k) = (st, Sw73.ok (-1)) := by show (if Sw73.costsOk k = false then _ else _) = _; rw [if_pos hok]
        rw [e] at q
        have s3 := L2.Same.trans s2 (same_upd (o := .lst [V.int (-1)]) np)
        exact q p _ W (D0.mono s3) (After.same s3) (s2.free np) upd_same
      | true =>
        refine iteF ?_
        refine st_next ?_
        have e : Sw73.step st (.begins k) = (⟨k, []⟩, Sw73.ok 0) := by show (if Sw73.costsOk k = false then _ else _) = _; rw [if_neg (by rw [hok]; decide)]
        rw [e] at q
        have kok : CostsOk k := by
          unfold Sw73.costsOk at hok
          simp only [List.all, Bool.and_eq_true, decide_eq_true_eq] at hok
          exact ⟨hok.1, hok.2.1, hok.2.2.1, hok.2.2.2.1, hok.2.2.2.2.1⟩
        dsimp only
        refine st_seq ?_
        refine m_asg ?_
        refine ⟨_, rfl, sa, _, rfl, s2.seq hsa, rfl, _, _, rfl, _, _, rfl, _, _, rfl, _, _, rfl, _, _, rfl, rfl, ?_⟩
        dsimp only
        refine st_seq ?_
        refine m_fld ?_
        refine m_make1 ?_
        refine v_make (va_cons (val_var rfl) (va_cons (val_var rfl) (va_cons (val_var rfl) (va_cons (val_var rfl) (va_cons (val_var rfl) va_nil))))) rfl fun x dx H3 s3 nx e => ?_
        refine made_family (k := k) ⟨dx, e⟩ kok fun f' tA' kA' H4 s4 nf nt nk Fm => ?_
        have s24 := L2.Same.trans s2 (L2.Same.trans s3 s4)
        obtain ⟨dd, hd4⟩ := (D1.mono s24).obj
        refine ⟨_, rfl, d, c.Desk, dd, _, rfl, hd4, T.cl_Desk, T.n_Desk_family, (by show 1 < 1000; decide), ?_⟩
        obtain ⟨N1, N2⟩ := new_desk (W := W) ((hW d).mpr (.inl rfl)) s24 hd4 (s2.free (s3.free nf)) (s2.free (s3.free nt)) (s2.free (s3.free nk)) Fm rfl
        dsimp only
        refine m_ret ?_
        refine ⟨by show 1 ≤ sizeLine; decide, fun p np => ?_⟩
        exact q p _ _ (N1.mono (same_upd np)) (N2.more (same_upd np)) (N2.free np) upd_same
def spDeskTune (K : PySem.W.Frag) (c : Cs) : Sp := fun vs H Q _ => ∃ (d ra : Addr) (W : Addr → Prop) (s : Sw73.St) (t : Sw73.Tune), vs = [.ref d, .ref ra] ∧ DeskIn c H d W s ∧ SqL K H ra ((flat t).map V.int) ∧ NatKeys t ∧ t.length ≤ 1000 ∧ Told c H d W Q (Sw73.step s (.tune t)).1 (Sw73.step s (.tune t)).2
theorem scDesk_tune : FnScope ["self", "notes"] ["self", "notes"] (defScope sDesk_tune) := ⟨rfl, rfl, rfl, by decide +kernel, rfl, by decide +kernel, by decide +kernel⟩
theorem ok_Desk_tune {f : Addr} {fd : FuncData} (F : Fun K "tune" "Desk.tune" sDesk_tune f fd) (T : Txt K mg c) (D_is_tune : Df P w K mg base "is_tune" 2 ["numbers"] (spIsTune K)) (D_Family_put : Mt P w K mg base c.Family "put" 1 ["self", "tune"] (spPut c)) (D_tune_of : Df P w K mg base "tune_of" 4 ["numbers"] (spTuneOf K c)) :
    FnOk P w K mg base CX0 5 f fd ["self", "notes"] (spDeskTune K c) := by
  refine F.ok scDesk_tune (fun vs H Q E h => ?_) (fun cdv A outer s H vs Q E hr h => ?_)
  · obtain ⟨d, ra, W, s, t, rfl, _⟩ := h
    rfl
  · obtain ⟨d, ra, W, st, t, rfl, D0, hra, nk, lt, q⟩ := h
    have D0' := D0
    obtain ⟨f, cA, tA, kA, tps, kvs, D1, hW⟩ := D0'
    have ltp := Paired.length D1.fam.tunes
    refine ⟨_, (pss_cons (ps_if (pt_not (pt_val (pe_df D_is_tune (hr.mono (by decide)) (by rfl) (pa_cons (pv 1) pa_nil)))) (pss_one (ps_ret (pe_lst (pa_cons (pe_cst T.c_WRONG (by rfl)) pa_nil)))) pss_nil)
    (pss_cons (ps_if (pt_cmpR op_ge (pe_callB call_len_seq (by rfl) T.b_len PySem.boot_len (pa_cons (pe_fld (pe_fld (pv 0) rfl) rfl) pa_nil)) (pe_cst T.c_MOST_TUNES (by rfl)) (nomark _)) (pss_one (ps_ret (pe_lst (pa_cons (pe_cst T.c_FULL (by rfl)) pa_nil)))) pss_nil)
    (pss_one (ps_ret (pe_lst (pa_cons (pe_mt D_Family_put T.cl_Family (hr.mono (by decide)) (pe_fld (pv 0) rfl) (pa_cons (pe_df D_tune_of (hr.mono (by decide)) (by rfl) (pa_cons (pv 1) pa_nil)) pa_nil)) pa_nil)))))), ?_⟩
    refine st_seq ?_
    refine m_if ?_
    refine v_call (va_cons (val_var rfl) va_nil) ⟨ra, t, rfl, hra, nk, lt, fun H1 s1 => ⟨_, rfl, ?_⟩⟩
    cases hok : Sw73.tuneOk t with
    | false =>
      refine iteT ?_
      refine m_ret ?_
      refine ⟨by show 1 ≤ sizeLine; decide, fun p np => ?_⟩
      have e : Sw73.step st (.tune t) = (st, Sw73.ok (-1)) := by show (if Sw73.tuneOk t = false then _ else _) = _; rw [if_pos hok]
      rw [e] at q
      have s3 := L2.Same.trans s1 (same_upd (o := .lst [V.int (-1)]) np)
      exact q p _ W (D0.mono s3) (After.same s3) (s1.free np) upd_same
    | true =>
      refine iteF ?_
      refine st_next ?_
      dsimp only
      refine st_seq ?_
      have D2 := D1.mono s1
      obtain ⟨dd, hd⟩ := D2.obj
      obtain ⟨df, hf⟩ := D2.fam.obj
      have hlen : ((tps.map V.ref).length : Nat) = st.tunes.length := by rw [List.length_map, ltp]
      by_cases h8 : 8 ≤ st.tunes.length
      · have e : Sw73.step st (.tune t) = (st, Sw73.ok (-5)) := by
          show (if Sw73.tuneOk t = false then _ else if Sw73.TUNES ≤ st.tunes.length then _ else _) = _
          rw [if_neg (by rw [hok]; decide), if_pos (show Sw73.TUNES ≤ st.tunes.length from h8)]
        rw [e] at q
        refine st_yes (ans_cmp (b := true) (v_len (K := K) (p := tA) (v_Family_tunes T (v_Desk_family T (val_var rfl) hd) hf) (SqL.of D2.fam.lst) fun Q q => ⟨_, _, rfl, .inl (SqL.of D2.fam.lst), q⟩) val_c fun Q q => ⟨_, _, rfl, rfl, ?_⟩) ?_
        · dsimp only
          rw [hlen, decide_eq_true (show (8 : Int) ≤ (st.tunes.length : Nat) by omega)]
          exact q
        · refine m_ret ?_
          refine ⟨by show 1 ≤ sizeLine; decide, fun p np => ?_⟩
          have s3 := L2.Same.trans s1 (same_upd (o := .lst [V.int (-5)]) np)
          exact q p _ W (D0.mono s3) (After.same s3) (s1.free np) upd_same
      · have e : Sw73.step st (.tune t) = ({ st with tunes := st.tunes ++ [t] }, Sw73.ok (st.tunes.length : Nat)) := by
          show (if Sw73.tuneOk t = false then _ else if Sw73.TUNES ≤ st.tunes.length then _ else _) = _
          rw [if_neg (by rw [hok]; decide), if_neg (show ¬ Sw73.TUNES ≤ st.tunes.length from h8)]
        rw [e] at q
        have l24 : t.length ≤ 24 := by
          unfold Sw73.tuneOk at hok
          rw [Bool.and_eq_true, decide_eq_true_eq] at hok
          exact hok.1
        refine st_no (ans_cmp (b := false) (v_len (K := K) (p := tA) (v_Family_tunes T (v_Desk_family T (val_var rfl) hd) hf) (SqL.of D2.fam.lst) fun Q q => ⟨_, _, rfl, .inl (SqL.of D2.fam.lst), q⟩) val_c fun Q q => ⟨_, _, rfl, rfl, ?_⟩) ?_
        · dsimp only
          rw [hlen, decide_eq_false (show ¬ (8 : Int) ≤ (st.tunes.length : Nat) by omega)]
          exact q
        · refine st_next ?_
          dsimp only
          refine m_ret ?_
          refine m_list ?_
          refine m_acons ?_
          refine m_meth ?_
          refine v_Desk_family T (val_var rfl) hd _ ?_
          refine ⟨f, df, _, rfl, hf, rfl, ?_⟩
          refine m_acons ?_
          refine v_call (va_cons (val_var rfl) va_nil) ⟨ra, t, rfl, s1.seq hra, nk, lt, fun u H2 s2 nu hu => ?_⟩
          refine m_anil ?_
          have D3 := D2.mono s2
          have nut : u ≠ tA := Ne.symm (ne_of_none D2.fam.lst nu)
          refine ⟨f, u, cA, tA, kA, tps, kvs, st.costs, st.tunes, t, rfl, D3.fam, by omega, hu, l24, nut, fun H3 kp F3 => ?_⟩
          refine m_anil ?_
          refine ⟨by show 1 ≤ sizeLine; decide, fun p np => ?_⟩
          have A3 : After W (Own d f tA kA (tps ++ [u])) H H3 := fun b o e => by
            have e2 := s2 _ _ (s1 _ _ e)
            by_cases n : b = tA
            · subst n
              exact ⟨⟨_, F3.lst⟩, fun z => absurd ((hW b).mpr (.inr (.inr (.inl rfl)))) z⟩
            · refine ⟨⟨o, kp _ _ e2 n⟩, fun z => ⟨kp _ _ e2 n, ?_⟩⟩
              rintro (y | y | y | y | y)
              · exact z ((hW b).mpr (.inl y))
              · exact z ((hW b).mpr (.inr (.inl y)))
              · exact n y
              · exact z ((hW b).mpr (.inr (.inr (.inr (.inl y)))))
              · rcases List.mem_append.mp y with y | y
                · exact z ((hW b).mpr (.inr (.inr (.inr (.inr y)))))
                · exact ne_of_none e (s1.free nu) (List.mem_singleton.mp y)
          obtain ⟨dd3, hd3⟩ := D3.obj
          have D4 : DeskIn c H3 d (Own d f tA kA (tps ++ [u])) { st with tunes := st.tunes ++ [t] } := ⟨f, cA, tA, kA, tps ++ [u], kvs, ⟨⟨dd3, kp _ _ hd3 (ne_of hd3 D3.fam.lst (by intro z; cases z))⟩, F3⟩, fun _ => Iff.rfl⟩
          exact q p _ _ (D4.mono (same_upd np)) (A3.more (same_upd np)) (A3.free np) upd_same
end
end Sk

/-! Desks: drop, best, cost, shift. -/
namespace Sk
open PySem PySem.Spec PyProof.Rows L2 SkR SkM
theorem wayB_len (k : Sw73.Costs) (s t : Sw73.Tune) : ∀ (n a b : Nat), a ≤ s.length → b ≤ t.length → (s.length - a) + (t.length - b) ≤ n → (SkM.B k s t a b).way.length ≤ n
  | 0, a, b, ha, hb, h => by
    have e1 : a = s.length := by omega
    have e2 : b = t.length := by omega
    rw [e1, e2, B_end]
    exact Nat.le_refl _
  | n + 1, a, b, ha, hb, h => by
    by_cases he : a = s.length ∧ b = t.length
    · rw [he.1, he.2, B_end]
      exact Nat.zero_le _
    · obtain ⟨j, L⟩ := B_step k s t ha hb he
      obtain ⟨j9, hroom⟩ := opts_lt L.mem
      have hr2 := room_iff.mp hroom
      have e0 : (SkM.B k s t a b).way = Sw73.STEPS.getD j .both :: (SkM.B k s t (a + (tk j).1) (b + (tk j).2)).way := L.way
      have hs2 := tk_some j9
      have ih := wayB_len k s t n (a + (tk j).1) (b + (tk j).2) hr2.1 hr2.2 (by omega)
      rw [e0, List.length_cons]
      omega
theorem way_len (k : Sw73.Costs) (s t : Sw73.Tune) : (Sw73.best k s t).way.length ≤ s.length + t.length := by
  rw [← best_B]
  exact wayB_len k s t _ 0 0 (Nat.zero_le _) (Nat.zero_le _) (by omega)
theorem out2 (a b : Int) (ws : List Int) : (Sw73Neutral.out ⟨a, [[b], ws]⟩).map V.int = [V.int a, .int 1, .int b] ++ (V.int ws.length :: ws.map V.int) := by
  show List.map V.int (a :: ((1 : Int) :: [b] ++ (((ws.length : Int) :: ws) ++ []))) = _
  rw [List.append_nil]
  rfl
section
variable {K : PySem.W.Frag} {σ : L2.St} {H : Hp}
theorem m_op {r : R2} {ta tb : TE} {Q : VK} (h : ta σ H fun x H1 => tb σ H1 fun y H2 => r x y H2 Q) : tOp r ta tb σ H Q := h
theorem m_call {sp : Sp} {t : TA} {Q : VK} (h : t σ H fun vs H1 => sp (vs ++ []) H1 Q E0) : tCall sp [] E0 t σ H Q := h
theorem v_headed {ta tb : TE} {x y : V} {Q : VK} (ha : Val ta σ H x) (hb : ∀ H1, L2.Same H H1 → Val tb σ H1 y) (q : ∀ (p : Addr) (H' : Hp), L2.Same H H' → H p = none → H' p = some (.lst [x, .int 1, y]) → Q (.ref p) H') :
    tOp rCat (tLst (tCons ta tNil)) (tCall (spCounted K) [] E0 (tCons (tLst (tCons tb tNil)) tNil)) σ H Q := by
  refine m_op ?_
  refine m_list ?_
  refine m_acons ?_
  refine ha _ ?_
  refine m_anil ?_
  refine ⟨by show 1 ≤ sizeLine; decide, fun p np => ?_⟩
  refine m_call ?_
  refine m_acons ?_
  refine m_list ?_
  refine m_acons ?_
  refine hb _ (same_upd np) _ ?_
  refine m_anil ?_
  refine ⟨by show 1 ≤ sizeLine; decide, fun p2 n2 => ?_⟩
  refine m_anil ?_
  refine ⟨p2, [y], rfl, upd_same, by show 1 < 1000000; decide, fun p3 H3 s3 n3 e3 => ?_⟩
  have hp : H3 p = some (.lst [x]) := s3 _ _ (same_upd n2 _ _ upd_same)
  refine ⟨p, p3, [x], [.int 1, y], rfl, rfl, hp, e3, by show 3 ≤ sizeLine; decide, fun p4 n4 => ?_⟩
  have s03 : L2.Same H H3 := L2.Same.trans (same_upd np) (L2.Same.trans (same_upd n2) s3)
  exact q p4 _ (L2.Same.trans s03 (same_upd n4)) (s03.free n4) upd_same
end
section
variable {P : Program} {w : World} {K : PySem.W.Frag} {mg : Str → Option Value} {base : Heap} {c : Cs}
def spDeskDrop (c : Cs) : Sp := fun vs H Q _ => ∃ (d : Addr) (W : Addr → Prop) (s : Sw73.St) (i : Nat), vs = [.ref d, .int i] ∧ DeskIn c H d W s ∧ i < s.tunes.length ∧ Told c H d W Q { s with tunes := s.tunes.eraseIdx i } (Sw73.ok 0)
theorem scDesk_drop : FnScope ["self", "k"] ["self", "k"] (defScope sDesk_drop) := ⟨rfl, rfl, rfl, by decide +kernel, rfl, by decide +kernel, by decide +kernel⟩
theorem ok_Desk_drop {f : Addr} {fd : FuncData} (F : Fun K "drop" "Desk.drop" sDesk_drop f fd) (T : Txt K mg c) (D_Family_drop : Mt P w K mg base c.Family "drop" 1 ["self", "k"] (spDrop c)) : FnOk P w K mg base CX0 2 f fd ["self", "k"] (spDeskDrop c) := by
  refine F.ok scDesk_drop (fun vs H Q E h => ?_) (fun cdv A outer s H vs Q E hr h => ?_)
  · obtain ⟨d, W, s, i, rfl, _⟩ := h
    rfl
  · obtain ⟨d, W, st, i, rfl, D0, hi, q⟩ := h
    obtain ⟨f, cA, tA, kA, tps, kvs, D1, hW⟩ := D0
    obtain ⟨dd, hd⟩ := D1.obj
    obtain ⟨df, hf⟩ := D1.fam.obj
    refine ⟨_, (pss_cons (ps_expr (pe_mt D_Family_drop T.cl_Family (hr.mono (by decide)) (pe_fld (pv 0) rfl) (pa_cons (pv 1) pa_nil)))
    (pss_one (ps_ret (pe_lst (pa_cons pe_int pa_nil))))), ?_⟩
    refine st_seq ?_
    refine m_drop ?_
    refine v_meth (v_Desk_family T (val_var rfl) hd) hf rfl (va_cons (val_var rfl) va_nil) ⟨f, cA, tA, kA, tps, kvs, st.costs, st.tunes, i, rfl, D1.fam, hi, fun H1 kA' kp nk F1 => ?_⟩
    dsimp only
    refine m_ret ?_
    refine ⟨by show 1 ≤ sizeLine; decide, fun p np => ?_⟩
    have A1 : After W (Own d f tA kA' (tps.eraseIdx i)) H H1 := fun b o e => by
      by_cases n1 : b = tA
      · subst n1
        exact ⟨⟨_, F1.lst⟩, fun z => absurd ((hW b).mpr (.inr (.inr (.inl rfl)))) z⟩
      · by_cases n2 : b = f
        · subst n2
          obtain ⟨dx, e'⟩ := F1.obj
          exact ⟨⟨_, e'⟩, fun z => absurd ((hW b).mpr (.inr (.inl rfl))) z⟩
        · refine ⟨⟨o, kp _ _ e n1 n2⟩, fun z => ⟨kp _ _ e n1 n2, ?_⟩⟩
          rintro (y | y | y | y | y)
          · exact z ((hW b).mpr (.inl y))
          · exact n2 y
          · exact n1 y
          · exact ne_of_none e nk y
          · exact z ((hW b).mpr (.inr (.inr (.inr (.inr (List.mem_of_mem_eraseIdx y))))))
    have D4 : DeskIn c H1 d (Own d f tA kA' (tps.eraseIdx i)) { st with tunes := st.tunes.eraseIdx i } := ⟨f, cA, tA, kA', tps.eraseIdx i, [], ⟨⟨dd, kp _ _ hd (ne_of hd D1.fam.lst (by intro z; cases z)) fun z => by
      rw [z, hf] at hd
      exact absurd (show (3 : Nat) = 1 from ins_len hd) (by decide)⟩, F1⟩, fun _ => Iff.rfl⟩
    exact q p _ _ (D4.mono (same_upd np)) (A1.more (same_upd np)) (A1.free np) upd_same
def spDeskBest (c : Cs) : Sp := fun vs H Q _ => ∃ (d : Addr) (W : Addr → Prop) (s : Sw73.St) (i j : Nat), vs = [.ref d, .int i, .int j] ∧ DeskIn c H d W s ∧ i < s.tunes.length ∧ j < s.tunes.length ∧
  Told c H d W Q s ⟨((Sw73.best s.costs (s.at_ i) (s.at_ j)).cost : Nat), [[((Sw73.best s.costs (s.at_ i) (s.at_ j)).many : Int)], (Sw73.best s.costs (s.at_ i) (s.at_ j)).way.map Sw73.stepOut]⟩
theorem scDesk_best : FnScope ["self", "i", "j", "least", "many", "way"] ["self", "i", "j"] (defScope sDesk_best) := ⟨rfl, rfl, rfl, by decide +kernel, rfl, by decide +kernel, by decide +kernel⟩
theorem ok_Desk_best {f : Addr} {fd : FuncData} (F : Fun K "best" "Desk.best" sDesk_best f fd) (T : Txt K mg c) (D_Beside_best : Mt P w K mg base c.Beside "best" 6 ["self"] (spBest c)) (D_Family_beside : Mt P w K mg base c.Family "beside" 4 ["self", "i", "j"] (spFamBeside c))
    (D_counted : Df P w K mg base "counted" 1 ["row"] (spCounted K)) : FnOk P w K mg base CX0 7 f fd ["self", "i", "j"] (spDeskBest c) := by
  refine F.ok scDesk_best (fun vs H Q E h => ?_) (fun cdv A outer s H vs Q E hr h => ?_)
  · obtain ⟨d, W, s, i, j, rfl, _⟩ := h
    rfl
  · obtain ⟨d, W, st, i, j, rfl, D0, hi, hj, q⟩ := h
    have D0' := D0
    obtain ⟨f, cA, tA, kA, tps, kvs, D1, hW⟩ := D0'
    obtain ⟨dd, hd⟩ := D1.obj
    obtain ⟨df, hf⟩ := D1.fam.obj
    refine ⟨_, (pss_cons (ps_asg (pe_mt0 D_Beside_best T.cl_Beside (hr.mono (by decide)) (pe_mt D_Family_beside T.cl_Family (hr.mono (by decide)) (pe_fld (pv 0) rfl) (pa_cons (pv 1) (pa_cons (pv 2) pa_nil)))) (pg_tup rfl (pgs_cons (pg_name (i := 3) scDesk_best.nd rfl (by first | exact Or.inl rfl | exact Or.inr rfl)) (pgs_cons (pg_name (i := 4) scDesk_best.nd rfl (by first | exact Or.inl rfl | exact Or.inr rfl)) (pgs_cons (pg_name (i := 5) scDesk_best.nd rfl (by first | exact Or.inl rfl | exact Or.inr rfl)) pgs_nil)))))
    (pss_one (ps_ret (pe_op op_cat (pe_op op_cat (pe_lst (pa_cons (pv 3) pa_nil)) (pe_df D_counted (hr.mono (by decide)) (by rfl) (pa_cons (pe_lst (pa_cons (pv 4) pa_nil)) pa_nil))) (pe_df D_counted (hr.mono (by decide)) (by rfl) (pa_cons (pv 5) pa_nil)))))), ?_⟩
    refine st_seq ?_
    refine m_asg ?_
    refine m_meth ?_
    refine v_meth (v_Desk_family T (val_var rfl) hd) hf rfl (va_cons (val_var rfl) (va_cons (val_var rfl) va_nil)) ⟨f, cA, tA, kA, tps, kvs, st.costs, st.tunes, i, j, rfl, D1.fam, hi, hj, fun b H2 s2 Bs => ?_⟩
    have Bs' := Bs
    obtain ⟨bc, bs, bt, bk, B0⟩ := Bs'
    obtain ⟨db, hb⟩ := B0.obj
    refine ⟨b, db, _, rfl, hb, rfl, ⟨b, st.costs, _, _, rfl, Bs, fun tp wl H3 s3 htp hwl => ?_⟩⟩
    refine ⟨tp, _, rfl, SqT.of htp, rfl, _, _, rfl, _, _, rfl, _, _, rfl, rfl, ?_⟩
    dsimp only
    refine m_ret ?_
    refine m_op ?_
    refine v_headed (K := K) (x := .int (Sw73.best st.costs (st.tunes.getD i []) (st.tunes.getD j [])).cost) (y := .int (Sw73.best st.costs (st.tunes.getD i []) (st.tunes.getD j [])).many) (val_var rfl) (fun _ _ => val_var rfl) fun p H4 s4 n4 e4 => ?_
    have wl1 := way_len st.costs (st.tunes.getD i []) (st.tunes.getD j [])
    have l1 := B0.ls
    have l2 := B0.lt
    refine v_call (va_cons (val_var rfl) va_nil) ⟨wl, _, rfl, s4 _ _ hwl, by rw [List.length_map]; omega, fun p5 H5 s5 n5 e5 => ?_⟩
    refine ⟨p, p5, _, _, rfl, rfl, s5 _ _ e4, e5, ?_, fun p6 n6 => ?_⟩
    · show 3 + (List.length (List.map _ _) + 1) ≤ sizeLine
      rw [List.length_map]
      exact Nat.le_of_lt (small1000 (by omega))
    · have s35 : L2.Same H H5 := L2.Same.trans s2 (L2.Same.trans s3 (L2.Same.trans s4 s5))
      refine q p6 _ W (D0.mono (L2.Same.trans s35 (same_upd n6))) (After.same (L2.Same.trans s35 (same_upd n6))) (s35.free n6) ?_
      rw [upd_same, out2, List.length_map, List.length_map, List.map_map]
      rfl
def spDeskCost (K : PySem.W.Frag) (c : Cs) : Sp := fun vs H Q _ => ∃ (d sa : Addr) (W : Addr → Prop) (s : Sw73.St) (i j : Nat) (is : List Nat), vs = [.ref d, .int i, .int j, .ref sa] ∧ DeskIn c H d W s ∧ i < s.tunes.length ∧ j < s.tunes.length ∧ SqL K H sa (nums is) ∧ (∀ x ∈ is, x < 9) ∧
  Told c H d W Q s (match Sw73.costOf s.costs (s.at_ i) (s.at_ j) (stepsOf is) with | some n => Sw73.ok (n : Nat) | none => Sw73.ok (-3))
theorem scDesk_cost : FnScope ["self", "i", "j", "steps", "found"] ["self", "i", "j", "steps"] (defScope sDesk_cost) := ⟨rfl, rfl, rfl, by decide +kernel, rfl, by decide +kernel, by decide +kernel⟩
theorem ok_Desk_cost {f : Addr} {fd : FuncData} (F : Fun K "cost" "Desk.cost" sDesk_cost f fd) (T : Txt K mg c) (D_Beside_cost_of : Mt P w K mg base c.Beside "cost_of" 3 ["self", "steps"] (spCostOf K c)) (D_Family_beside : Mt P w K mg base c.Family "beside" 4 ["self", "i", "j"] (spFamBeside c)) :
    FnOk P w K mg base CX0 5 f fd ["self", "i", "j", "steps"] (spDeskCost K c) := by
  refine F.ok scDesk_cost (fun vs H Q E h => ?_) (fun cdv A outer s H vs Q E hr h => ?_)
  · obtain ⟨d, sa, W, s, i, j, is, rfl, _⟩ := h
    rfl
  · obtain ⟨d, sa, W, st, i, j, is, rfl, D0, hi, hj, hsa, h9, q⟩ := h
    have D0' := D0
    obtain ⟨f, cA, tA, kA, tps, kvs, D1, hW⟩ := D0'
    obtain ⟨dd, hd⟩ := D1.obj
    obtain ⟨df, hf⟩ := D1.fam.obj
    refine ⟨_, (pss_cons (ps_set (i := 4) scDesk_cost.nd rfl (by first | exact Or.inl rfl | exact Or.inr rfl) (pe_mt D_Beside_cost_of T.cl_Beside (hr.mono (by decide)) (pe_mt D_Family_beside T.cl_Family (hr.mono (by decide)) (pe_fld (pv 0) rfl) (pa_cons (pv 1) (pa_cons (pv 2) pa_nil))) (pa_cons (pv 3) pa_nil)))
    (pss_cons (ps_if (pt_cmpR op_isN (pv 4) pe_non (nomark _)) (pss_one (ps_ret (pe_lst (pa_cons (pe_cst T.c_NO_WAY (by rfl)) pa_nil)))) pss_nil)
    (pss_one (ps_ret (pe_lst (pa_cons (pv 4) pa_nil)))))), ?_⟩
    refine st_seq ?_
    refine m_set ?_
    refine m_meth ?_
    refine v_meth (v_Desk_family T (val_var rfl) hd) hf rfl (va_cons (val_var rfl) (va_cons (val_var rfl) va_nil)) ⟨f, cA, tA, kA, tps, kvs, st.costs, st.tunes, i, j, rfl, D1.fam, hi, hj, fun b H2 s2 Bs => ?_⟩
    have Bs' := Bs
    obtain ⟨bc, bs, bt, bk, B0⟩ := Bs'
    obtain ⟨db, hb⟩ := B0.obj
    refine ⟨b, db, _, rfl, hb, rfl, ?_⟩
    refine m_acons ?_
    refine ⟨_, rfl, ?_⟩
    refine m_anil ?_
    refine ⟨b, sa, st.costs, _, _, is, rfl, Bs, s2.seq hsa, h9, fun H3 s3 => ?_⟩
    have s03 := L2.Same.trans s2 s3
    dsimp only
    refine st_seq ?_
    have q : Told c H d W Q st (match Sw73.costOf st.costs (st.tunes.getD i []) (st.tunes.getD j []) (stepsOf is) with | some n => Sw73.ok (n : Nat) | none => Sw73.ok (-3)) := q
    cases hc : Sw73.costOf st.costs (st.tunes.getD i []) (st.tunes.getD j []) (stepsOf is) with
    | none =>
      rw [hc] at q
      refine st_yes (ans_isN (val_var rfl) rfl) ?_
      refine m_ret ?_
      refine ⟨by show 1 ≤ sizeLine; decide, fun p np => ?_⟩
      have s4 := L2.Same.trans s03 (same_upd (o := .lst [V.int (-3)]) np)
      exact q p _ W (D0.mono s4) (After.same s4) (s03.free np) upd_same
    | some n =>
      rw [hc] at q
      refine st_no (ans_isN (val_var rfl) rfl) ?_
      refine st_next ?_
      dsimp only
      refine m_ret ?_
      refine m_list ?_
      refine m_acons ?_
      refine ⟨_, rfl, ?_⟩
      refine m_anil ?_
      refine ⟨by show 1 ≤ sizeLine; decide, fun p np => ?_⟩
      have s4 := L2.Same.trans s03 (same_upd (o := .lst [V.int n]) np)
      exact q p _ W (D0.mono s4) (After.same s4) (s03.free np) upd_same
def spDeskShift (c : Cs) : Sp := fun vs H Q _ => ∃ (d : Addr) (W : Addr → Prop) (s : Sw73.St) (i j : Nat), vs = [.ref d, .int i, .int j] ∧ DeskIn c H d W s ∧ i < s.tunes.length ∧ j < s.tunes.length ∧
  Told c H d W Q s ⟨((Sw73.shift s.costs (s.at_ i) (s.at_ j)).1 : Nat), [[(Sw73.shift s.costs (s.at_ i) (s.at_ j)).2]]⟩
theorem scDesk_shift : FnScope ["self", "i", "j", "least", "far"] ["self", "i", "j"] (defScope sDesk_shift) := ⟨rfl, rfl, rfl, by decide +kernel, rfl, by decide +kernel, by decide +kernel⟩
theorem ok_Desk_shift {f : Addr} {fd : FuncData} (F : Fun K "shift" "Desk.shift" sDesk_shift f fd) (T : Txt K mg c) (D_Family_shift : Mt P w K mg base c.Family "shift" 7 ["self", "i", "j"] (spShift c)) (D_counted : Df P w K mg base "counted" 1 ["row"] (spCounted K)) :
    FnOk P w K mg base CX0 8 f fd ["self", "i", "j"] (spDeskShift c) := by
  refine F.ok scDesk_shift (fun vs H Q E h => ?_) (fun cdv A outer s H vs Q E hr h => ?_)
  · obtain ⟨d, W, s, i, j, rfl, _⟩ := h
    rfl
  · obtain ⟨d, W, st, i, j, rfl, D0, hi, hj, q⟩ := h
    have D0' := D0
    obtain ⟨f, cA, tA, kA, tps, kvs, D1, hW⟩ := D0'
    obtain ⟨dd, hd⟩ := D1.obj
    obtain ⟨df, hf⟩ := D1.fam.obj
    refine ⟨_, (pss_cons (ps_asg (pe_mt D_Family_shift T.cl_Family (hr.mono (by decide)) (pe_fld (pv 0) rfl) (pa_cons (pv 1) (pa_cons (pv 2) pa_nil))) (pg_tup rfl (pgs_cons (pg_name (i := 3) scDesk_shift.nd rfl (by first | exact Or.inl rfl | exact Or.inr rfl)) (pgs_cons (pg_name (i := 4) scDesk_shift.nd rfl (by first | exact Or.inl rfl | exact Or.inr rfl)) pgs_nil))))
    (pss_one (ps_ret (pe_op op_cat (pe_lst (pa_cons (pv 3) pa_nil)) (pe_df D_counted (hr.mono (by decide)) (by rfl) (pa_cons (pe_lst (pa_cons (pv 4) pa_nil)) pa_nil)))))), ?_⟩
    refine st_seq ?_
    refine m_asg ?_
    refine v_meth (v_Desk_family T (val_var rfl) hd) hf rfl (va_cons (val_var rfl) (va_cons (val_var rfl) va_nil)) ⟨f, cA, tA, kA, tps, kvs, st.costs, st.tunes, i, j, rfl, D1.fam, hi, hj, fun tp H2 s2 htp => ?_⟩
    refine ⟨tp, _, rfl, SqT.of htp, rfl, _, _, rfl, _, _, rfl, rfl, ?_⟩
    dsimp only
    refine m_ret ?_
    refine v_headed (K := K) (val_var rfl) (fun _ _ => val_var rfl) fun p H4 s4 n4 e4 => ?_
    have s04 := L2.Same.trans s2 s4
    exact q p H4 W (D0.mono s04) (After.same s04) (s2.free n4) e4
end
end Sk

/-! Desks: all distances; the tree. -/
namespace Sk
open PySem PySem.Spec PyProof.Rows L2 SkR SkM
theorem out_snoc (v : Int) (rows : List (List Int)) (r : List Int) : Sw73Neutral.out ⟨v, rows ++ [r]⟩ = Sw73Neutral.out ⟨v, rows⟩ ++ ((r.length : Int) :: r) := by
  show v :: ((rows ++ [r]).flatMap fun r => (r.length : Int) :: r) = v :: (rows.flatMap fun r => (r.length : Int) :: r) ++ _
  rw [List.flatMap_append, List.cons_append]
  congr 2
  exact List.append_nil _
theorem out_len {m : Nat} (v : Int) : ∀ rows : List (List Int), (∀ r ∈ rows, r.length ≤ m) → (Sw73Neutral.out ⟨v, rows⟩).length ≤ 1 + rows.length * (m + 1)
  | [], _ => by show 1 ≤ _; omega
  | r :: rows, h => by
    have ih := out_len v rows fun x hx => h x (List.mem_cons_of_mem _ hx)
    have hr := h r List.mem_cons_self
    have e : (Sw73Neutral.out ⟨v, r :: rows⟩).length = (Sw73Neutral.out ⟨v, rows⟩).length + (r.length + 1) := by
      show (v :: (((r.length : Int) :: r) ++ rows.flatMap fun r => (r.length : Int) :: r)).length = (v :: (rows.flatMap fun r => (r.length : Int) :: r)).length + _
      rw [List.length_cons, List.length_append, List.length_cons, List.length_cons]
      omega
    rw [e, List.length_cons, Nat.succ_mul]
    omega
theorem range_succ_map {α : Type} (g : Nat → α) (n : Nat) : (List.range (n + 1)).map g = (List.range n).map g ++ [g n] := by
  rw [List.range_succ, List.map_append]
  rfl
def rowFar (k : Sw73.Costs) (ts : List Sw73.Tune) (i n : Nat) : List Int := (List.range n).map fun j => ((Sw73.far k ts i j : Nat) : Int)
def rowsFar (k : Sw73.Costs) (ts : List Sw73.Tune) (n : Nat) : List (List Int) := (List.range n).map fun i => rowFar k ts i ts.length
section
variable {P : Program} {w : World} {K : PySem.W.Frag} {mg : Str → Option Value} {base : Heap} {c : Cs}
def spAllFar (c : Cs) : Sp := fun vs H Q _ => ∃ (d : Addr) (W : Addr → Prop) (s : Sw73.St), vs = [.ref d] ∧ DeskIn c H d W s ∧ Told c H d W Q s ⟨(s.tunes.length : Nat), rowsFar s.costs s.tunes s.tunes.length⟩
theorem scDesk_all_far : FnScope ["self", "many", "found", "i", "j"] ["self"] (defScope sDesk_all_far) := ⟨rfl, rfl, rfl, by decide +kernel, rfl, by decide +kernel, by decide +kernel⟩
theorem ok_Desk_all_far {f : Addr} {fd : FuncData} (F : Fun K "all_far" "Desk.all_far" sDesk_all_far f fd) (T : Txt K mg c) (D_Family_far : Mt P w K mg base c.Family "far" 7 ["self", "i", "j"] (spFar c)) (D_counted : Df P w K mg base "counted" 1 ["row"] (spCounted K)) :
    FnOk P w K mg base CX0 8 f fd ["self"] (spAllFar c) := by
  refine F.ok scDesk_all_far (fun vs H Q E h => ?_) (fun cdv A outer s H vs Q E hr h => ?_)
  · obtain ⟨d, W, s, rfl, _⟩ := h
    rfl
  · obtain ⟨d, W, st, rfl, D0, q⟩ := h
    have D0' := D0
    obtain ⟨f, cA, tA, kA, tps, kvs, D1, hW⟩ := D0'
    obtain ⟨dd, hd⟩ := D1.obj
    obtain ⟨df, hf⟩ := D1.fam.obj
    have l8 := D1.fam.ln
    have ltp := Paired.length D1.fam.tunes
    have hlen : ((tps.map V.ref).length : Nat) = st.tunes.length := by rw [List.length_map, ltp]
    refine ⟨_, (pss_cons (ps_set (i := 1) scDesk_all_far.nd rfl (by first | exact Or.inl rfl | exact Or.inr rfl) (pe_callB call_len_seq (by rfl) T.b_len PySem.boot_len (pa_cons (pe_fld (pe_fld (pv 0) rfl) rfl) pa_nil)))
    (pss_cons (ps_set (i := 2) scDesk_all_far.nd rfl (by first | exact Or.inl rfl | exact Or.inr rfl) (pe_lst (pa_cons (pv 1) pa_nil)))
    (pss_cons (ps_for PassesOwn.never rfl (pi_range1 (by rfl) T.b_range (pa_cons (pv 1) pa_nil)) (pg_name (i := 3) scDesk_all_far.nd rfl (by first | exact Or.inl rfl | exact Or.inr rfl))
      (pss_one (ps_expr (pe_bm PySem.F.plainAttrs_list PySem.F.slot_list_extend PySem.F.type_list_extend mt_extend (pv 2) (pa_cons (pe_df D_counted (hr.mono (by decide)) (by rfl) (pa_cons (pe_lc (own := [("j", 4)]) (g := gName 4) (tt := tYes) (te := (tMeth c.Family "far" _ [] E0 (tFld K (tVar 0) "family") (tCons (tVar 3) (tCons (tVar 4) tNil)))) (by rfl) scDesk_all_far.nd (pi_range1 (by rfl) T.b_range (pa_cons (pv 1) pa_nil)) (blkOk_by (by kernel_rfl)) (fun _ _ _ _ _ => (pg_name (i := 4) scDesk_all_far.nd rfl (by first | exact Or.inl rfl | exact Or.inr rfl))) (fun _ _ _ _ _ => pts_nil) (fun _ _ _ _ _ => (pe_mt D_Family_far T.cl_Family (hr.mono (by decide)) (pe_fld (pv 0) rfl) (pa_cons (pv 3) (pa_cons (pv 4) pa_nil))))) pa_nil)) pa_nil)))))
    (pss_one (ps_ret (pv 2)))))), ?_⟩
    refine st_seq ?_
    refine st_set (v_len (K := K) (p := tA) (v_Family_tunes T (v_Desk_family T (val_var rfl) hd) hf) (SqL.of D1.fam.lst) fun Q q => ⟨_, _, rfl, .inl (SqL.of D1.fam.lst), q⟩) ?_
    dsimp only
    rw [hlen]
    refine st_seq ?_
    refine m_set ?_
    refine m_list ?_
    refine m_acons ?_
    refine ⟨_, rfl, ?_⟩
    refine m_anil ?_
    refine ⟨by show 1 ≤ sizeLine; decide, fun l nl => ?_⟩
    dsimp only
    refine st_seq ?_
    have nekl : kA ≠ l := ne_of_none D1.fam.dict nl
    refine m_forR (n := st.tunes.length) (va_cons (val_var rfl) va_nil) (Nat.le_trans l8 (by decide)) ?_
    refine for_range (lo := 0) (n := st.tunes.length) (fun n σ H' => ∃ (v3 v4 : Option V) (kvs' : List (List Key × V)), σ = [some (.ref d), some (.int st.tunes.length), some (.ref l), v3, v4] ∧ Keep kA H H' ∧ DeskAt c H' d f cA tA kA tps kvs' st.costs st.tunes ∧
        H' l = some (.lst ((Sw73Neutral.out ⟨(st.tunes.length : Nat), rowsFar st.costs st.tunes n⟩).map V.int)))
      ⟨none, none, kvs, rfl, fun b o e _ => same_upd nl _ _ e, D1.mono (same_upd nl), upd_same⟩ ?_ ?_
    · rintro n σ H1 hn ⟨v3, v4, kvs1, rfl, kp1, F1, hl⟩
      have en : (0 : Int) + (n : Nat) = (n : Nat) := Int.zero_add _
      rw [en]
      refine ⟨_, rfl, .inl ⟨rfl, _, SqL.of hl⟩, ?_⟩
      refine m_acons ?_
      refine m_call ?_
      refine m_acons ?_
      refine ⟨_, rfl, _, rfl, by have e62 : (2 : Int) ^ 62 = 4611686018427387904 := by decide
                                 omega, by have e62 : (2 : Int) ^ 62 = 4611686018427387904 := by decide
                                           omega, fun D nD => ?_⟩
      refine lc_range (lo := 0) (n := st.tunes.length) (fun m H' => Keep kA H1 H' ∧ (∃ kvs', DeskAt c H' d f cA tA kA tps kvs' st.costs st.tunes) ∧ H' D = some (.lst ((rowFar st.costs st.tunes n m).map V.int)))
        ⟨fun b o e _ => same_upd nD _ _ e, ⟨kvs1, F1.mono (same_upd nD)⟩, upd_same⟩ ?_ ?_
      · rintro m H2 hm ⟨kp2, ⟨kvs2, F2⟩, hD⟩
        have em : (0 : Int) + (m : Nat) = (m : Nat) := Int.zero_add _
        rw [em]
        refine ⟨rfl, m_yes ?_⟩
        obtain ⟨dd2, hd2⟩ := F2.obj
        obtain ⟨df2, hf2⟩ := F2.fam.obj
        refine v_meth (v_Desk_family T (val_var rfl) hd2) hf2 rfl (va_cons (val_var rfl) (va_cons (val_var rfl) va_nil)) ⟨f, cA, tA, kA, tps, kvs2, st.costs, st.tunes, n, m, rfl, F2.fam, hn, hm, fun H3 kvs3 kp3 F3 => ?_⟩
        have neD : kA ≠ D := ne_of_none F1.fam.dict nD
        have hD3 := kp3 _ _ hD (Ne.symm neD)
        have D3 := F2.keepK kp3 F3
        have up : ∀ {y : Addr} {o : HO}, H3 y = some o → y ≠ D → upd H3 D (.lst ((rowFar st.costs st.tunes n m).map V.int ++ [.int (Sw73.far st.costs st.tunes n m)])) y = some o := fun {y o} e ne => by rw [upd_ne ne]; exact e
        have kp4 : Keep kA H1 (upd H3 D (.lst ((rowFar st.costs st.tunes n m).map V.int ++ [.int (Sw73.far st.costs st.tunes n m)]))) := fun b o e ne => up (kp3 _ _ (kp2 _ _ e ne) ne) (ne_of_none e nD)
        refine ⟨_, hD3, ?_, kp4, ⟨kvs3, F1.keepK kp4 (F1.fam.keepK kp4 (up F3.dict neD) F3.known)⟩, ?_⟩
        · unfold rowFar
          rw [List.length_map, List.length_map, List.length_range]
          exact small1000 (by omega)
        · unfold rowFar
          rw [upd_same, range_succ_map, List.map_append]
          rfl
      · rintro H2 ⟨kp2, ⟨kvs2, F2⟩, hD⟩
        refine m_anil ?_
        have lrow : (rowFar st.costs st.tunes n st.tunes.length).length = st.tunes.length := by unfold rowFar; rw [List.length_map, List.length_range]
        refine ⟨D, _, rfl, hD, by rw [List.length_map, lrow]; omega, fun p H3 s3 n3 e3 => ?_⟩
        refine m_anil ?_
        have hl3 := s3 _ _ (kp2 _ _ hl (Ne.symm nekl))
        refine ⟨l, p, _, _, rfl, rfl, hl3, e3, ?_, ?_⟩
        · have := out_len (m := 8) (st.tunes.length : Nat) (rowsFar st.costs st.tunes n) fun r hr => by
            unfold rowsFar at hr
            obtain ⟨i, _, rfl⟩ := List.mem_map.mp hr
            unfold rowFar
            rw [List.length_map, List.length_range]
            exact l8
          have lr : (rowsFar st.costs st.tunes n).length = n := by unfold rowsFar; rw [List.length_map, List.length_range]
          rw [lr] at this
          rw [List.length_map, List.length_cons, List.length_map, lrow]
          exact Nat.le_of_lt (small1000 (by omega))
        · have up : ∀ {y : Addr} {o : HO} {u : HO}, H2 y = some o → y ≠ l → upd H3 l u y = some o := fun {y o u} e ne => by rw [upd_ne ne]; exact s3 _ _ e
          have kp4 : ∀ {u : HO}, Keep kA H (upd H3 l u) := fun {u} b o e ne => up (kp2 _ _ (kp1 _ _ e ne) ne) (ne_of_none e nl)
          refine ⟨_, _, kvs2, rfl, kp4, D1.keepK kp4 (D1.fam.keepK kp4 (up F2.fam.dict nekl) F2.fam.known), ?_⟩
          rw [upd_same]
          have e : rowsFar st.costs st.tunes (n + 1) = rowsFar st.costs st.tunes n ++ [rowFar st.costs st.tunes n st.tunes.length] := range_succ_map _ n
          rw [e, out_snoc, List.map_append, List.length_map]
          rfl
    · rintro σ H1 ⟨v3, v4, kvs1, rfl, kp1, F1, hl⟩
      dsimp only
      refine st_ret (val_var rfl) ?_
      exact q l H1 W ⟨f, cA, tA, kA, tps, kvs1, F1, hW⟩ (After.keepK ((hW kA).mpr (.inr (.inr (.inr (.inl rfl))))) kp1 F1.fam.dict) nl hl
def edgeRow (k : Sw73.Costs) (ts : List Sw73.Tune) (x : Nat × Nat) : List Int := [(x.1 : Int), (x.2 : Int), ((Sw73.far k ts x.1 x.2 : Nat) : Int)]
def spDeskTree (c : Cs) : Sp := fun vs H Q _ => ∃ (d : Addr) (W : Addr → Prop) (s : Sw73.St) (r : Nat), vs = [.ref d, .int r] ∧ DeskIn c H d W s ∧ r < s.tunes.length ∧
  ((∀ x ∈ Sw73.tree (dist s.costs s.tunes) r, x.1 < s.tunes.length ∧ x.2 < s.tunes.length) → Told c H d W Q s ⟨((Sw73.tree (dist s.costs s.tunes) r).length : Nat), (Sw73.tree (dist s.costs s.tunes) r).map (edgeRow s.costs s.tunes)⟩)
theorem scDesk_tree : FnScope ["self", "root", "pairs", "found", "pair"] ["self", "root"] (defScope sDesk_tree) := ⟨rfl, rfl, rfl, by decide +kernel, rfl, by decide +kernel, by decide +kernel⟩
theorem ok_Desk_tree {f : Addr} {fd : FuncData} (F : Fun K "tree" "Desk.tree" sDesk_tree f fd) (T : Txt K mg c) (D_Family_tree : Mt P w K mg base c.Family "tree" 9 ["self", "root"] (spTree c)) (D_counted : Df P w K mg base "counted" 1 ["row"] (spCounted K)) :
    FnOk P w K mg base CX0 10 f fd ["self", "root"] (spDeskTree c) := by
  refine F.ok scDesk_tree (fun vs H Q E h => ?_) (fun cdv A outer s H vs Q E hr h => ?_)
  · obtain ⟨d, W, s, r, rfl, _⟩ := h
    rfl
  · obtain ⟨d, W, st, r, rfl, D0, hr8, q⟩ := h
    have D0' := D0
    obtain ⟨f, cA, tA, kA, tps, kvs, D1, hW⟩ := D0'
    obtain ⟨dd, hd⟩ := D1.obj
    obtain ⟨df, hf⟩ := D1.fam.obj
    refine ⟨_, (pss_cons (ps_set (i := 2) scDesk_tree.nd rfl (by first | exact Or.inl rfl | exact Or.inr rfl) (pe_mt D_Family_tree T.cl_Family (hr.mono (by decide)) (pe_fld (pv 0) rfl) (pa_cons (pv 1) pa_nil)))
    (pss_cons (ps_set (i := 3) scDesk_tree.nd rfl (by first | exact Or.inl rfl | exact Or.inr rfl) (pe_lst (pa_cons (pe_callB call_len_seq (by rfl) T.b_len PySem.boot_len (pa_cons (pv 2) pa_nil)) pa_nil)))
    (pss_cons (ps_for PassesOwn.never rfl (pi_list (pv 2)) (pg_name (i := 4) scDesk_tree.nd rfl (by first | exact Or.inl rfl | exact Or.inr rfl))
      (pss_one (ps_expr (pe_bm PySem.F.plainAttrs_list PySem.F.slot_list_extend PySem.F.type_list_extend mt_extend (pv 3) (pa_cons (pe_df D_counted (hr.mono (by decide)) (by rfl) (pa_cons (pe_callTy call_list_of (by rfl) T.b_list (by decide +kernel) (pa_cons (pv 4) pa_nil)) pa_nil)) pa_nil)))))
    (pss_one (ps_ret (pv 3)))))), ?_⟩
    refine st_seq ?_
    refine m_set ?_
    refine v_meth (v_Desk_family T (val_var rfl) hd) hf rfl (va_cons (val_var rfl) va_nil) ⟨f, cA, tA, kA, tps, kvs, st.costs, st.tunes, r, rfl, D1.fam, hr8, fun p H1 kvs1 kp1 F1 hp l8 hin => ?_⟩
    have q := q hin
    generalize Sw73.tree (dist st.costs st.tunes) r = L at *
    obtain ⟨ps, hps, pr⟩ := hp
    have lps := Paired.length pr
    dsimp only
    refine st_seq ?_
    refine m_set ?_
    refine m_list ?_
    refine m_acons ?_
    refine v_len (K := K) (p := p) (val_var rfl) (SqL.of hps) (fun Q q => ⟨_, _, rfl, .inl (SqL.of hps), q⟩) _ ?_
    refine m_anil ?_
    refine ⟨by show 1 ≤ sizeLine; decide, fun l nl => ?_⟩
    dsimp only
    refine st_seq ?_
    refine ⟨_, rfl, p, rfl, ⟨_, SqL.of (same_upd nl _ _ hps)⟩, for_list (K := K) (a := p) (xs := ps.map V.ref) (fun n σ H' => ∃ (v4 : Option V), σ = [some (.ref d), some (.int r), some (.ref p), some (.ref l), v4] ∧ L2.Same H1 H' ∧
        H' l = some (.lst ((Sw73Neutral.out ⟨(L.length : Nat), (L.take n).map (edgeRow st.costs st.tunes)⟩).map V.int)))
      ⟨none, rfl, same_upd nl, by
        rw [upd_same, List.length_map, lps]
        rfl⟩ (fun n σ H' _ ⟨_, _, s1, _⟩ => SqL.of (s1 _ _ hps)) ?_ ?_⟩
    · rintro n x0 σ H2 hx ⟨v4, rfl, s2, hl⟩
      obtain ⟨y, e, hy, rfl, he, hq⟩ := paired_at pr hx
      have hq : H1 y = some (.tup [.int e.1, .int e.2, .int (Sw73.far st.costs st.tunes e.1 e.2)]) := hq
      have hn : n < L.length := (List.getElem?_eq_some_iff.mp he).1
      refine ⟨_, rfl, .inl ⟨rfl, _, SqL.of hl⟩, ?_⟩
      refine m_acons ?_
      refine m_call ?_
      refine m_acons ?_
      refine ⟨_, rfl, y, _, rfl, .inr (SqT.of (s2 _ _ hq)), fun q1 n1 => ?_⟩
      refine m_anil ?_
      refine ⟨q1, _, rfl, upd_same, by show 3 < 1000000; decide, fun p3 H3 s3 n3 e3 => ?_⟩
      refine m_anil ?_
      have s23 := L2.Same.trans (same_upd n1) s3
      have hl3 := s23 _ _ hl
      refine ⟨l, p3, _, _, rfl, rfl, hl3, e3, ?_, ?_⟩
      · have := out_len (m := 3) (L.length : Nat) ((L.take n).map (edgeRow st.costs st.tunes)) fun r hr => by
          obtain ⟨i, _, rfl⟩ := List.mem_map.mp hr
          exact Nat.le_refl 3
        rw [List.length_map, List.length_take] at this
        rw [List.length_map]
        show _ + 4 ≤ sizeLine
        exact Nat.le_of_lt (small1000 (by omega))
      · refine ⟨_, rfl, fun b o e' => ?_, ?_⟩
        · rw [upd_ne (ne_of_none e' nl)]
          exact s23 _ _ (s2 _ _ e')
        · rw [upd_same, take_snoc he, List.map_append]
          show _ = some (HO.lst (List.map V.int (Sw73Neutral.out ⟨_, _ ++ [edgeRow st.costs st.tunes e]⟩)))
          rw [out_snoc, List.map_append]
          rfl
    · rintro σ H2 ⟨v4, rfl, s2, hl⟩
      rw [List.length_map, lps, List.take_length] at hl
      dsimp only
      refine st_ret (val_var rfl) ?_
      have A1 : After W W H H1 := After.keepK ((hW kA).mpr (.inr (.inr (.inr (.inl rfl))))) kp1 F1.dict
      refine q l H2 W (DeskIn.mono ⟨f, cA, tA, kA, tps, kvs1, D1.keepK kp1 F1, hW⟩ s2) (A1.more s2) (A1.free nl) hl
end
end Sk

/-! A call's numbers, and what they say. Plain Lean. -/
namespace Sk
open PySem PySem.Spec PyProof.Rows L2 SkR SkM
inductive CallIs : Int → List Nat → List Int → Sw73.Call → Prop
  | begins (k : Sw73.Costs) : CallIs 0 [k.key, k.rest, k.long, k.gap, k.more] [] (.begins k)
  | tune (t : Sw73.Tune) (h : NatKeys t) (l : t.length ≤ 1000) : CallIs 1 [] (flat t) (.tune t)
  | drop (i : Nat) : CallIs 2 [i] [] (.drop i)
  | best (i j : Nat) : CallIs 3 [i, j] [] (.best i j)
  | cost (i j : Nat) (is : List Nat) (h : ∀ x ∈ is, x < 9) : CallIs 4 [i, j] (is.map fun (x : Nat) => (x : Int)) (.cost i j (stepsOf is))
  | shift (i j : Nat) : CallIs 5 [i, j] [] (.shift i j)
  | far : CallIs 6 [] [] .far
  | tree (r : Nat) : CallIs 7 [r] [] (.tree r)
/-- a call, as the list has it -/
def enc (p : Int) (ns : List Nat) (rw : List Int) : List Int := p :: ((ns.map fun (n : Nat) => (n : Int)) ++ (if p = 1 ∨ p = 4 then (rw.length : Int) :: rw else []))
theorem nat_of {z : Int} (h : Sw73Neutral.natural z = true) : ((z.toNat : Nat) : Int) = z := by
  unfold Sw73Neutral.natural at h
  rw [Bool.and_eq_true, decide_eq_true_eq] at h
  omega
theorem note_in {l rest : List Int} {n : Sw73.Note} (h : Sw73Neutral.noteIn l = some (n, rest)) : l = numOf n ++ rest ∧ ∀ k, n.key = some k → 0 ≤ k := by
  match l, h with
  | k :: m :: l, h =>
    have h : (if Sw73Neutral.natural m = true then (if k = -1 then some ((⟨none, m.toNat⟩ : Sw73.Note), l) else if Sw73Neutral.natural k = true then some (⟨some k, m.toNat⟩, l) else none) else none) = some (n, rest) := h
    by_cases hm : Sw73Neutral.natural m = true
    · rw [if_pos hm] at h
      by_cases hk : k = -1
      · rw [if_pos hk] at h
        cases h
        refine ⟨?_, fun k e => nomatch e⟩
        show k :: m :: rest = (-1) :: ((m.toNat : Nat) : Int) :: rest
        rw [nat_of hm, hk]
      · rw [if_neg hk] at h
        by_cases hn : Sw73Neutral.natural k = true
        · rw [if_pos hn] at h
          cases h
          refine ⟨?_, fun k' e => ?_⟩
          · show k :: m :: rest = k :: ((m.toNat : Nat) : Int) :: rest
            rw [nat_of hm]
          · cases e
            have := nat_of hn
            omega
        · rw [if_neg hn] at h
          cases h
    · rw [if_neg hm] at h
      cases h
theorem many_cons {A : Type} {p : List Int → Option (A × List Int)} {m : Nat} {l rest : List Int} {xs : List A} (h : Sw73Neutral.many_ p (m + 1) l = some (xs, rest)) : ∃ x l1 ys, p l = some (x, l1) ∧ Sw73Neutral.many_ p m l1 = some (ys, rest) ∧ xs = x :: ys := by
  have h : ((p l).bind fun x => (Sw73Neutral.many_ p m x.2).map fun y => (x.1 :: y.1, y.2)) = some (xs, rest) := h
  cases e : p l with
  | none => rw [e] at h; cases h
  | some y =>
    rw [e] at h
    have h : ((Sw73Neutral.many_ p m y.2).map fun z => (y.1 :: z.1, z.2)) = some (xs, rest) := h
    cases e2 : Sw73Neutral.many_ p m y.2 with
    | none => rw [e2] at h; cases h
    | some z =>
      rw [e2] at h
      cases h
      exact ⟨y.1, y.2, z.1, rfl, e2, rfl⟩
theorem many_notes : ∀ (m : Nat) {l rest : List Int} {t : List Sw73.Note}, Sw73Neutral.many_ Sw73Neutral.noteIn m l = some (t, rest) → l = flat t ++ rest ∧ NatKeys t ∧ t.length = m
  | 0, l, rest, t, h => by
    cases h
    exact ⟨rfl, (fun n hn => nomatch hn), rfl⟩
  | m + 1, l, rest, t, h => by
    obtain ⟨n, l1, ys, h1, h2, rfl⟩ := many_cons h
    obtain ⟨e1, k1⟩ := note_in h1
    obtain ⟨e2, k2, hl⟩ := many_notes m h2
    refine ⟨?_, ?_, ?_⟩
    · rw [e1, e2, ← List.append_assoc]
      rfl
    · intro x hx
      rcases List.mem_cons.mp hx with e | hx
      · rw [e]; exact k1
      · exact k2 x hx
    · rw [List.length_cons, hl]
theorem step_in {l rest : List Int} {x : Sw73.Step} (h : Sw73Neutral.stepIn l = some (x, rest)) : ∃ i : Nat, i < 9 ∧ x = Sw73.STEPS.getD i .both ∧ l = (i : Int) :: rest := by
  match l, h with
  | z :: l, h =>
    unfold Sw73Neutral.stepIn at h
    dsimp only at h
    by_cases h0 : z = 0
    · rw [if_pos h0] at h; cases h; exact ⟨0, by decide, rfl, by rw [h0]; rfl⟩
    · rw [if_neg h0] at h
      by_cases h1 : z = 1
      · rw [if_pos h1] at h; cases h; exact ⟨1, by decide, rfl, by rw [h1]; rfl⟩
      · rw [if_neg h1] at h
        by_cases h2 : z = 2
        · rw [if_pos h2] at h; cases h; exact ⟨2, by decide, rfl, by rw [h2]; rfl⟩
        · rw [if_neg h2] at h
          by_cases h3 : 3 ≤ z ∧ z ≤ 5
          · rw [if_pos h3] at h
            cases h
            have : z = 3 ∨ z = 4 ∨ z = 5 := by omega
            rcases this with rfl | rfl | rfl
            · exact ⟨3, by decide, rfl, rfl⟩
            · exact ⟨4, by decide, rfl, rfl⟩
            · exact ⟨5, by decide, rfl, rfl⟩
          · rw [if_neg h3] at h
            by_cases h6 : 6 ≤ z ∧ z ≤ 8
            · rw [if_pos h6] at h
              cases h
              have : z = 6 ∨ z = 7 ∨ z = 8 := by omega
              rcases this with rfl | rfl | rfl
              · exact ⟨6, by decide, rfl, rfl⟩
              · exact ⟨7, by decide, rfl, rfl⟩
              · exact ⟨8, by decide, rfl, rfl⟩
            · rw [if_neg h6] at h
              cases h
theorem many_steps : ∀ (m : Nat) {l rest : List Int} {xs : List Sw73.Step}, Sw73Neutral.many_ Sw73Neutral.stepIn m l = some (xs, rest) → ∃ is : List Nat, (∀ x ∈ is, x < 9) ∧ xs = stepsOf is ∧ l = (is.map fun (x : Nat) => (x : Int)) ++ rest
  | 0, l, rest, t, h => by
    cases h
    exact ⟨[], (fun n hn => nomatch hn), rfl, rfl⟩
  | m + 1, l, rest, t, h => by
    obtain ⟨n, l1, ys, h1, h2, rfl⟩ := many_cons h
    obtain ⟨i, hi, rfl, rfl⟩ := step_in h1
    obtain ⟨is, k2, rfl, rfl⟩ := many_steps m h2
    refine ⟨i :: is, ?_, rfl, rfl⟩
    intro x hx
    rcases List.mem_cons.mp hx with e | hx
    · rw [e]; exact hi
    · exact k2 x hx
theorem all_of {A : Type} {x : Option (A × List Int)} {a : A} (h : Sw73Neutral.all_ x = some a) : x = some (a, []) := by
  cases x with
  | none => cases h
  | some y =>
    have h : (if y.2.isEmpty = true then some y.1 else none) = some a := h
    by_cases e : y.2.isEmpty = true
    · rw [if_pos e] at h
      cases h
      have : y.2 = [] := List.isEmpty_iff.mp e
      rw [← this]
    · rw [if_neg e] at h
      cases h
theorem list_in {A : Type} {p : List Int → Option (A × List Int)} {n : Int} {l rest : List Int} {xs : List A} (h : Sw73Neutral.listIn p (n :: l) = some (xs, rest)) : n ≤ 60 ∧ Sw73Neutral.many_ p n.toNat l = some (xs, rest) := by
  have h : (if 0 ≤ n ∧ n ≤ 60 then Sw73Neutral.many_ p n.toNat l else none) = some (xs, rest) := h
  by_cases e : 0 ≤ n ∧ n ≤ 60
  · rw [if_pos e] at h
    exact ⟨e.2, h⟩
  · rw [if_neg e] at h
    cases h
theorem map_some {α β : Type} {f : α → β} {o : Option α} {b : β} (h : o.map f = some b) : ∃ a, o = some a ∧ f a = b := by
  cases o with
  | none => cases h
  | some a => exact ⟨a, rfl, Option.some.inj h⟩
theorem row_of {r x t : List Int} (h : PyFlat.row r = some (x, t)) : r = (x.length : Int) :: (x ++ t) := by
  match r, h with
  | n :: r, h =>
    have h : (if 0 ≤ n ∧ n.toNat ≤ r.length then some (r.take n.toNat, r.drop n.toNat) else none) = some (x, t) := h
    by_cases e : 0 ≤ n ∧ n.toNat ≤ r.length
    · rw [if_pos e] at h
      cases h
      rw [List.take_append_drop, List.length_take, Nat.min_eq_left e.2]
      have : ((n.toNat : Nat) : Int) = n := by omega
      rw [this]
    · rw [if_neg e] at h
      cases h
theorem rows_one {r t : List Int} {xs : List (List Int)} (h : PyFlat.rows 1 r = some (xs, t)) : ∃ x, xs = [x] ∧ r = (x.length : Int) :: (x ++ t) := by
  unfold PyFlat.rows at h
  cases e : PyFlat.row r with
  | none => rw [e] at h; cases h
  | some y =>
    obtain ⟨x, s⟩ := y
    rw [e] at h
    have h : some ([x], s) = some (xs, t) := h
    cases h
    exact ⟨x, rfl, row_of e⟩
/-- how a call is read -/
theorem call_parts {p : Int} {r : List Int} {n k : Nat} {c : List (List Int)} {t : List Int} (hs : PySw73.shape p = some (n, k)) (h : PyFlat.call PySw73.shape (p :: r) = some (c, t)) : n ≤ r.length ∧ ∃ xs, PyFlat.rows k (r.drop n) = some (xs, t) ∧ c = (p :: r.take n) :: xs := by
  unfold PyFlat.call at h
  dsimp only at h
  rw [hs] at h
  have h : (if r.length < n then none else match PyFlat.rows k (r.drop n) with | none => none | some (xs, t) => some ((p :: r.take n) :: xs, t)) = some (c, t) := h
  by_cases e : r.length < n
  · rw [if_pos e] at h
    cases h
  · rw [if_neg e] at h
    cases e2 : PyFlat.rows k (r.drop n) with
    | none => rw [e2] at h; cases h
    | some y =>
      obtain ⟨xs, u⟩ := y
      rw [e2] at h
      have h : some ((p :: r.take n) :: xs, u) = some (c, t) := h
      cases h
      exact ⟨by omega, xs, rfl, rfl⟩
theorem split1 {r : List Int} (h : 1 ≤ r.length) : ∃ a r', r = a :: r' := by
  match r, h with
  | a :: r', _ => exact ⟨a, r', rfl⟩
theorem split2 {r : List Int} (h : 2 ≤ r.length) : ∃ a b r', r = a :: b :: r' := by
  match r, h with
  | a :: b :: r', _ => exact ⟨a, b, r', rfl⟩
theorem split5 {r : List Int} (h : 5 ≤ r.length) : ∃ a b c d e r', r = a :: b :: c :: d :: e :: r' := by
  match r, h with
  | a :: b :: c :: d :: e :: r', _ => exact ⟨a, b, c, d, e, r', rfl⟩
theorem if_some {α : Type} {b : Bool} {x y : α} (h : (if b = true then some x else none) = some y) : b = true ∧ x = y := by
  cases b with
  | true => exact ⟨rfl, Option.some.inj h⟩
  | false => cases h
theorem shape_of {p : Int} {nk : Nat × Nat} (h : PySw73.shape p = some nk) : p = 0 ∨ p = 1 ∨ p = 2 ∨ p = 3 ∨ p = 4 ∨ p = 5 ∨ p = 6 ∨ p = 7 := by
  unfold PySw73.shape at h
  refine Classical.byContradiction fun n => ?_
  have h0 : ¬ p = 0 := fun e => n (.inl e)
  have h1 : ¬ p = 1 := fun e => n (.inr (.inl e))
  have h2 : ¬ p = 2 := fun e => n (.inr (.inr (.inl e)))
  have h3 : ¬ p = 3 := fun e => n (.inr (.inr (.inr (.inl e))))
  have h4 : ¬ p = 4 := fun e => n (.inr (.inr (.inr (.inr (.inl e)))))
  have h5 : ¬ p = 5 := fun e => n (.inr (.inr (.inr (.inr (.inr (.inl e))))))
  have h6 : ¬ p = 6 := fun e => n (.inr (.inr (.inr (.inr (.inr (.inr (.inl e)))))))
  have h7 : ¬ p = 7 := fun e => n (.inr (.inr (.inr (.inr (.inr (.inr (.inr e)))))))
  rw [if_neg h0, if_neg h1, if_neg h2, if_neg h3, if_neg h4, if_neg h5, if_neg h6, if_neg h7] at h
  cases h
theorem call_is {p : Int} {r : List Int} {c : List (List Int)} {t : List Int} {x : Sw73.Call} (h : PyFlat.call PySw73.shape (p :: r) = some (c, t)) (hx : Sw73Neutral.callOf ((PySw73.whole c).headD []) = some x) :
    ∃ ns rw, CallIs p ns rw x ∧ p :: r = enc p ns rw ++ t := by
  have hs : ∃ nk, PySw73.shape p = some nk := by
    cases e : PySw73.shape p with
    | none =>
      unfold PyFlat.call at h
      dsimp only at h
      rw [e] at h
      cases h
    | some nk => exact ⟨nk, rfl⟩
  obtain ⟨nk, hs⟩ := hs
  rcases shape_of hs with rfl | rfl | rfl | rfl | rfl | rfl | rfl | rfl
  · obtain ⟨hl, xs, hr, rfl⟩ := call_parts (n := 5) (k := 0) rfl h
    obtain ⟨a, b, cc, d, e, r', rfl⟩ := split5 hl
    have hr : some (([] : List (List Int)), r') = some (xs, t) := hr
    cases hr
    have hx : (if [a, b, cc, d, e].all Sw73Neutral.natural = true then some (Sw73.Call.begins ⟨a.toNat, b.toNat, cc.toNat, d.toNat, e.toNat⟩) else none) = some x := hx
    obtain ⟨hn, rfl⟩ := if_some hx
    simp only [List.all, Bool.and_eq_true, Bool.and_true] at hn
    refine ⟨_, _, .begins _, ?_⟩
    show _ = (0 : Int) :: ([((a.toNat : Nat) : Int), ((b.toNat : Nat) : Int), ((cc.toNat : Nat) : Int), ((d.toNat : Nat) : Int), ((e.toNat : Nat) : Int)] ++ []) ++ t
    rw [nat_of hn.1, nat_of hn.2.1, nat_of hn.2.2.1, nat_of hn.2.2.2.1, nat_of hn.2.2.2.2]
    rfl
  · obtain ⟨hl, xs, hr, rfl⟩ := call_parts (n := 0) (k := 1) rfl h
    obtain ⟨r0, rfl, hr1⟩ := rows_one hr
    have hr1 : r = (r0.length : Int) :: (r0 ++ t) := hr1
    have hx : (Sw73Neutral.all_ (Sw73Neutral.listIn Sw73Neutral.noteIn (((r0.length : Int) / 2) :: r0))).map Sw73.Call.tune = some x := hx
    obtain ⟨tn, h1, rfl⟩ := map_some hx
    obtain ⟨h60, h2⟩ := list_in (all_of h1)
    obtain ⟨e, nk, hlen⟩ := many_notes _ h2
    rw [List.append_nil] at e
    refine ⟨_, _, .tune tn nk (by omega), ?_⟩
    rw [hr1, e]
    rfl
  · obtain ⟨hl, xs, hr, rfl⟩ := call_parts (n := 1) (k := 0) rfl h
    obtain ⟨a, r', rfl⟩ := split1 hl
    have hr : some (([] : List (List Int)), r') = some (xs, t) := hr
    cases hr
    have hx : (if Sw73Neutral.natural a = true then some (Sw73.Call.drop a.toNat) else none) = some x := hx
    obtain ⟨hn, rfl⟩ := if_some hx
    refine ⟨_, _, .drop _, ?_⟩
    show _ = (2 : Int) :: ([((a.toNat : Nat) : Int)] ++ []) ++ t
    rw [nat_of hn]
    rfl
  · obtain ⟨hl, xs, hr, rfl⟩ := call_parts (n := 2) (k := 0) rfl h
    obtain ⟨a, b, r', rfl⟩ := split2 hl
    have hr : some (([] : List (List Int)), r') = some (xs, t) := hr
    cases hr
    have hx : (if (Sw73Neutral.natural a && Sw73Neutral.natural b) = true then some (Sw73.Call.best a.toNat b.toNat) else none) = some x := hx
    obtain ⟨hn, rfl⟩ := if_some hx
    rw [Bool.and_eq_true] at hn
    refine ⟨_, _, .best _ _, ?_⟩
    show _ = (3 : Int) :: ([((a.toNat : Nat) : Int), ((b.toNat : Nat) : Int)] ++ []) ++ t
    rw [nat_of hn.1, nat_of hn.2]
    rfl
  · obtain ⟨hl, xs, hr, rfl⟩ := call_parts (n := 2) (k := 1) rfl h
    obtain ⟨a, b, r', rfl⟩ := split2 hl
    obtain ⟨r0, rfl, hr1⟩ := rows_one hr
    have hr1 : r' = (r0.length : Int) :: (r0 ++ t) := hr1
    have hx : (if (Sw73Neutral.natural a && Sw73Neutral.natural b) = true then (Sw73Neutral.all_ (Sw73Neutral.listIn Sw73Neutral.stepIn ((r0.length : Int) :: r0))).map (fun x => Sw73.Call.cost a.toNat b.toNat x) else none) = some x := hx
    cases hn : (Sw73Neutral.natural a && Sw73Neutral.natural b) with
    | false => rw [hn] at hx; cases hx
    | true =>
      rw [hn, if_pos rfl] at hx
      rw [Bool.and_eq_true] at hn
      obtain ⟨sts, h1, rfl⟩ := map_some hx
      obtain ⟨h60, h2⟩ := list_in (all_of h1)
      obtain ⟨is, h9, rfl, e⟩ := many_steps _ h2
      rw [List.append_nil] at e
      refine ⟨_, _, .cost _ _ is h9, ?_⟩
      rw [hr1, ← e]
      show _ = (4 : Int) :: ([((a.toNat : Nat) : Int), ((b.toNat : Nat) : Int)] ++ _) ++ t
      rw [nat_of hn.1, nat_of hn.2]
      rfl
  · obtain ⟨hl, xs, hr, rfl⟩ := call_parts (n := 2) (k := 0) rfl h
    obtain ⟨a, b, r', rfl⟩ := split2 hl
    have hr : some (([] : List (List Int)), r') = some (xs, t) := hr
    cases hr
    have hx : (if (Sw73Neutral.natural a && Sw73Neutral.natural b) = true then some (Sw73.Call.shift a.toNat b.toNat) else none) = some x := hx
    obtain ⟨hn, rfl⟩ := if_some hx
    rw [Bool.and_eq_true] at hn
    refine ⟨_, _, .shift _ _, ?_⟩
    show _ = (5 : Int) :: ([((a.toNat : Nat) : Int), ((b.toNat : Nat) : Int)] ++ []) ++ t
    rw [nat_of hn.1, nat_of hn.2]
    rfl
  · obtain ⟨hl, xs, hr, rfl⟩ := call_parts (n := 0) (k := 0) rfl h
    have hr : some (([] : List (List Int)), r) = some (xs, t) := hr
    cases hr
    have hx : some Sw73.Call.far = some x := hx
    cases hx
    exact ⟨_, _, .far, rfl⟩
  · obtain ⟨hl, xs, hr, rfl⟩ := call_parts (n := 1) (k := 0) rfl h
    obtain ⟨a, r', rfl⟩ := split1 hl
    have hr : some (([] : List (List Int)), r') = some (xs, t) := hr
    cases hr
    have hx : (if Sw73Neutral.natural a = true then some (Sw73.Call.tree a.toNat) else none) = some x := hx
    obtain ⟨hn, rfl⟩ := if_some hx
    refine ⟨_, _, .tree _, ?_⟩
    show _ = (7 : Int) :: ([((a.toNat : Nat) : Int)] ++ []) ++ t
    rw [nat_of hn]
    rfl
theorem calls_cons {f : Nat} {p : Int} {r : List Int} {raw : List (List (List Int))} (h : PyFlat.calls PySw73.shape f (p :: r) = some raw) : ∃ f' c t cs, PyFlat.call PySw73.shape (p :: r) = some (c, t) ∧ PyFlat.calls PySw73.shape f' t = some cs ∧ raw = c :: cs := by
  cases f with
  | zero => cases h
  | succ f =>
    unfold PyFlat.calls at h
    cases e : PyFlat.call PySw73.shape (p :: r) with
    | none => rw [e] at h; cases h
    | some y =>
      obtain ⟨c, t⟩ := y
      rw [e] at h
      have h : (match PyFlat.calls PySw73.shape f t with | none => none | some cs => some (c :: cs)) = some raw := h
      cases e2 : PyFlat.calls PySw73.shape f t with
      | none => rw [e2] at h; cases h
      | some cs =>
        rw [e2] at h
        have h : some (c :: cs) = some raw := h
        cases h
        exact ⟨f, c, t, cs, rfl, e2, rfl⟩
theorem calls_nil {f : Nat} {raw : List (List (List Int))} (h : PyFlat.calls PySw73.shape f [] = some raw) : raw = [] := by
  cases f with
  | zero => cases h; rfl
  | succ f => cases h; rfl
/-- what the calls are answered, one behind another -/
def toldFrom (s : Sw73.St) (raw : List (List (List Int))) : List Int := PyFlat.told (PyFlat.played (fun s c => Sw73Neutral.step s (c.headD [])) s (raw.map PySw73.whole))
theorem toldFrom_cons {s : Sw73.St} {c : List (List Int)} {cs : List (List (List Int))} {x : Sw73.Call} (hx : Sw73Neutral.callOf ((PySw73.whole c).headD []) = some x) :
    toldFrom s (c :: cs) = (((Sw73Neutral.out (Sw73.step s x).2).length : Int) :: Sw73Neutral.out (Sw73.step s x).2) ++ toldFrom (Sw73.step s x).1 cs := by
  have e : Sw73Neutral.step s ((PySw73.whole c).headD []) = ((Sw73.step s x).1, Sw73Neutral.out (Sw73.step s x).2) := by
    unfold Sw73Neutral.step
    rw [hx]
  show PyFlat.told ((Sw73Neutral.step s ((PySw73.whole c).headD [])).2 :: PyFlat.played _ (Sw73Neutral.step s ((PySw73.whole c).headD [])).1 _) = _
  rw [e]
  rfl
theorem asked_parts {L : List Int} (h : PySw73.answers_asked L = true) : ∃ raw, PyFlat.calls PySw73.shape L.length L = some raw ∧ (∀ c ∈ raw, ∃ x, Sw73Neutral.callOf ((PySw73.whole c).headD []) = some x) ∧ toldFrom Sw73.init raw = PySw73.answers L ∧ (PySw73.answers L).length ≤ 10000000 := by
  unfold PySw73.answers_asked at h
  cases e : PyFlat.calls PySw73.shape L.length L with
  | none => rw [e] at h; cases h
  | some raw =>
    rw [e] at h
    simp only [Bool.and_eq_true] at h
    obtain ⟨⟨⟨⟨_, _⟩, _⟩, h4⟩, h5⟩ := h
    refine ⟨raw, rfl, fun c hc => ?_, ?_, ?_⟩
    · unfold Sw73Neutral.asked at h4
      rw [Bool.and_eq_true] at h4
      have := List.all_eq_true.mp h4.1 ((PySw73.whole c).headD []) (by
        rw [List.map_map]
        exact List.mem_map.mpr ⟨c, hc, rfl⟩)
      unfold Sw73Neutral.asked1 at this
      exact Option.isSome_iff_exists.mp this
    · unfold PySw73.answers PySw73.calls toldFrom
      rw [e]
      rfl
    · unfold PyFlat.short at h5
      exact of_decide_eq_true h5
end Sk

/-! Desks: what is answered to a call; where a call's parts stand. -/
namespace Sk
open PySem PySem.Spec PyProof.Rows L2 SkR SkM
theorem Told.pre {c : Cs} {H H2 : Hp} {d : Addr} {W : Addr → Prop} {Q : VK} {s : Sw73.St} {A : Sw73.Ans} (q : Told c H d W Q s A) (m : L2.Same H H2) : Told c H2 d W Q s A :=
  fun p H' W' D B n e => q p H' W' D (After.pre m B) (m.free n) e
theorem step_far (s : Sw73.St) : Sw73.step s .far = (s, ⟨(s.tunes.length : Nat), rowsFar s.costs s.tunes s.tunes.length⟩) := by
  show (s, (⟨((Sw73.St.far s).length : Nat), (Sw73.St.far s).map fun r => r.map fun n => ((n : Nat) : Int)⟩ : Sw73.Ans)) = _
  have e1 : (Sw73.St.far s).length = s.tunes.length := dist_len s.costs s.tunes
  have e2 : ((Sw73.St.far s).map fun r => r.map fun n => ((n : Nat) : Int)) = rowsFar s.costs s.tunes s.tunes.length := by
    unfold Sw73.St.far rowsFar rowFar
    rw [List.map_map]
    refine List.map_congr_left fun i _ => ?_
    show ((List.range s.tunes.length).map fun j => Sw73.far s.costs s.tunes i j).map (fun n => ((n : Nat) : Int)) = _
    rw [List.map_map]
    rfl
  rw [e1, e2]
theorem step_tree {s : Sw73.St} {r : Nat} (hr : r < s.tunes.length) (h : ∀ x ∈ Sw73.tree (dist s.costs s.tunes) r, x.1 < s.tunes.length ∧ x.2 < s.tunes.length) :
    Sw73.step s (.tree r) = (s, ⟨((Sw73.tree (dist s.costs s.tunes) r).length : Nat), (Sw73.tree (dist s.costs s.tunes) r).map (edgeRow s.costs s.tunes)⟩) := by
  show (if Sw73.here s r = false then (s, Sw73.ok (-2)) else (s, (⟨((Sw73.tree (dist s.costs s.tunes) r).length : Nat), (Sw73.tree (dist s.costs s.tunes) r).map fun x => [(x.1 : Int), (x.2 : Int), ((((dist s.costs s.tunes).getD x.1 []).getD x.2 0 : Nat) : Int)]⟩ : Sw73.Ans))) = _
  have e : Sw73.here s r = true := decide_eq_true hr
  rw [if_neg (by rw [e]; decide)]
  congr 2
  refine List.map_congr_left fun x hx => ?_
  obtain ⟨h1, h2⟩ := h x hx
  rw [dist_at s.costs s.tunes h1 h2]
  rfl
theorem here2 {s : Sw73.St} {i j : Nat} (hi : i < s.tunes.length) (hj : j < s.tunes.length) : ¬ (Sw73.here s i && Sw73.here s j) = false := by
  unfold Sw73.here
  rw [decide_eq_true hi, decide_eq_true hj]
  decide
def lives (s : Sw73.St) (ns : List Nat) : Bool := (ns.map fun n => decide (n < s.tunes.length)).all id
theorem step_dead {s : Sw73.St} {p : Int} {ns : List Nat} {rw_ : List Int} {x : Sw73.Call} (h : CallIs p ns rw_ x) (h0 : ¬ p = 0) (h1 : ¬ p = 1) (h6 : ¬ p = 6) (hl : lives s ns = false) : Sw73.step s x = (s, Sw73.ok (-2)) := by
  have two : ∀ {i j : Nat}, lives s [i, j] = false → (Sw73.here s i && Sw73.here s j) = false := fun {i j} h => by
    have h : (decide (i < s.tunes.length) && (decide (j < s.tunes.length) && true)) = false := h
    rw [Bool.and_true] at h
    exact h
  have one : ∀ {i : Nat}, lives s [i] = false → Sw73.here s i = false := fun {i} h => by
    have h : (decide (i < s.tunes.length) && true) = false := h
    rw [Bool.and_true] at h
    exact h
  cases h with
  | begins k => exact absurd rfl h0
  | tune t hk l => exact absurd rfl h1
  | drop i => show (if Sw73.here s i = false then _ else _) = _; rw [if_pos (one hl)]
  | best i j => show (if (Sw73.here s i && Sw73.here s j) = false then _ else _) = _; rw [if_pos (two hl)]
  | cost i j is h9 => show (if (Sw73.here s i && Sw73.here s j) = false then _ else _) = _; rw [if_pos (two hl)]
  | shift i j => show (if (Sw73.here s i && Sw73.here s j) = false then _ else _) = _; rw [if_pos (two hl)]
  | far => exact absurd rfl h6
  | tree r => show (if Sw73.here s r = false then _ else _) = _; rw [if_pos (one hl)]
theorem lives_at {s : Sw73.St} {ns : List Nat} (h : lives s ns = true) : ∀ n ∈ ns, n < s.tunes.length := fun n hn => by
  unfold lives at h
  rw [List.all_eq_true] at h
  exact of_decide_eq_true (h _ (List.mem_map.mpr ⟨n, hn, rfl⟩))
theorem dec_ne {i j : Int} (h : ¬ i = j) : decide (V.int i = V.int j) = false := decide_eq_false fun e => h (V.int.inj e)
theorem dec_yes {i j : Int} (h : i = j) : decide (V.int i = V.int j) = true := decide_eq_true (by rw [h])
section
variable {P : Program} {w : World} {K : PySem.W.Frag} {mg : Str → Option Value} {base : Heap} {c : Cs}
def spOfTunes (K : PySem.W.Frag) (c : Cs) : Sp := fun vs H Q _ => ∃ (d na ra : Addr) (W : Addr → Prop) (s : Sw73.St) (p : Int) (ns : List Nat) (rw_ : List Int) (x : Sw73.Call), vs = [.ref d, .int p, .ref na, .ref ra] ∧ DeskIn c H d W s ∧ CallIs p ns rw_ x ∧ ¬ p = 0 ∧ ¬ p = 1 ∧ ¬ p = 6 ∧ lives s ns = true ∧
  SqL K H na (nums ns) ∧ SqL K H ra (rw_.map V.int) ∧ Told c H d W Q (Sw73.step s x).1 (Sw73.step s x).2
theorem scDesk_of_tunes : FnScope ["self", "word", "numbers", "row"] ["self", "word", "numbers", "row"] (defScope sDesk_of_tunes) := ⟨rfl, rfl, rfl, by decide +kernel, rfl, by decide +kernel, by decide +kernel⟩
theorem ok_Desk_of_tunes {f : Addr} {fd : FuncData} (F : Fun K "of_tunes" "Desk.of_tunes" sDesk_of_tunes f fd) (T : Txt K mg c) (D_Desk_drop : Mt P w K mg base c.Desk "drop" 2 ["self", "k"] (spDeskDrop c)) (D_Desk_best : Mt P w K mg base c.Desk "best" 7 ["self", "i", "j"] (spDeskBest c))
    (D_Desk_cost : Mt P w K mg base c.Desk "cost" 5 ["self", "i", "j", "steps"] (spDeskCost K c)) (D_Desk_shift : Mt P w K mg base c.Desk "shift" 8 ["self", "i", "j"] (spDeskShift c)) (D_Desk_tree : Mt P w K mg base c.Desk "tree" 10 ["self", "root"] (spDeskTree c)) :
    FnOk P w K mg base CX0 11 f fd ["self", "word", "numbers", "row"] (spOfTunes K c) := by
  refine F.ok scDesk_of_tunes (fun vs H Q E h => ?_) (fun cdv A outer s H vs Q E hr h => ?_)
  · obtain ⟨d, na, ra, W, s, p, ns, rw_, x, rfl, _⟩ := h
    rfl
  · obtain ⟨d, na, ra, W, st, p, ns, rw_, x, rfl, D0, hc, h0, h1, h6, hl, hna, hra, q⟩ := h
    have D0' := D0
    obtain ⟨f, cA, tA, kA, tps, kvs, D1, hW⟩ := D0'
    obtain ⟨dd, hd⟩ := D1.obj
    have live := lives_at hl
    refine ⟨_, (pss_cons (ps_if (pt_cmpR op_eq (pv 1) pe_int (nomark _)) (pss_one (ps_ret (pe_mt D_Desk_drop T.cl_Desk (hr.mono (by decide)) (pv 0) (pa_cons (pe_ix ix_list (pv 2) pe_int (fun _ _ => rfl)) pa_nil)))) pss_nil)
    (pss_cons (ps_if (pt_cmpR op_eq (pv 1) pe_int (nomark _)) (pss_one (ps_ret (pe_mt D_Desk_best T.cl_Desk (hr.mono (by decide)) (pv 0) (pa_cons (pe_ix ix_list (pv 2) pe_int (fun _ _ => rfl)) (pa_cons (pe_ix ix_list (pv 2) pe_int (fun _ _ => rfl)) pa_nil))))) pss_nil)
    (pss_cons (ps_if (pt_cmpR op_eq (pv 1) pe_int (nomark _)) (pss_one (ps_ret (pe_mt D_Desk_cost T.cl_Desk (hr.mono (by decide)) (pv 0) (pa_cons (pe_ix ix_list (pv 2) pe_int (fun _ _ => rfl)) (pa_cons (pe_ix ix_list (pv 2) pe_int (fun _ _ => rfl)) (pa_cons (pv 3) pa_nil)))))) pss_nil)
    (pss_cons (ps_if (pt_cmpR op_eq (pv 1) pe_int (nomark _)) (pss_one (ps_ret (pe_mt D_Desk_shift T.cl_Desk (hr.mono (by decide)) (pv 0) (pa_cons (pe_ix ix_list (pv 2) pe_int (fun _ _ => rfl)) (pa_cons (pe_ix ix_list (pv 2) pe_int (fun _ _ => rfl)) pa_nil))))) pss_nil)
    (pss_one (ps_ret (pe_mt D_Desk_tree T.cl_Desk (hr.mono (by decide)) (pv 0) (pa_cons (pe_ix ix_list (pv 2) pe_int (fun _ _ => rfl)) pa_nil)))))))), ?_⟩
    refine st_seq ?_
    cases hc with
    | begins k => exact absurd rfl h0
    | tune t hk l => exact absurd rfl h1
    | far => exact absurd rfl h6
    | drop i =>
      have hi := live i (by simp)
      refine st_yes (ans_eq (val_var rfl) val_c rfl (dec_yes rfl)) ?_
      refine m_ret ?_
      refine v_meth (val_var rfl) hd rfl (va_cons (v_ixL (K := K) (n := 0) (val_var rfl) hna val_c rfl) va_nil) ⟨d, W, st, i, rfl, D0, hi, ?_⟩
      have e : Sw73.step st (.drop i) = ({ st with tunes := st.tunes.eraseIdx i }, Sw73.ok 0) := by
        show (if Sw73.here st i = false then _ else _) = _
        rw [if_neg (by unfold Sw73.here; rw [decide_eq_true hi]; decide)]
      rw [e] at q
      exact q
    | best i j =>
      have hi := live i (by simp)
      have hj := live j (by simp)
      refine st_no (ans_eq (val_var rfl) val_c rfl (dec_ne (by decide))) ?_
      refine st_next ?_
      dsimp only
      refine st_seq ?_
      refine st_yes (ans_eq (val_var rfl) val_c rfl (dec_yes rfl)) ?_
      refine m_ret ?_
      refine v_meth (val_var rfl) hd rfl (va_cons (v_ixL (K := K) (n := 0) (val_var rfl) hna val_c rfl) (va_cons (v_ixL (K := K) (n := 1) (val_var rfl) hna val_c rfl) va_nil)) ⟨d, W, st, i, j, rfl, D0, hi, hj, ?_⟩
      have e : Sw73.step st (.best i j) = (st, ⟨((Sw73.best st.costs (st.at_ i) (st.at_ j)).cost : Nat), [[((Sw73.best st.costs (st.at_ i) (st.at_ j)).many : Int)], (Sw73.best st.costs (st.at_ i) (st.at_ j)).way.map Sw73.stepOut]⟩) := by
        show (if (Sw73.here st i && Sw73.here st j) = false then _ else _) = _
        rw [if_neg (here2 hi hj)]
      rw [e] at q
      exact q
    | cost i j is h9 =>
      have hi := live i (by simp)
      have hj := live j (by simp)
      refine st_no (ans_eq (val_var rfl) val_c rfl (dec_ne (by decide))) ?_
      refine st_next ?_
      dsimp only
      refine st_seq ?_
      refine st_no (ans_eq (val_var rfl) val_c rfl (dec_ne (by decide))) ?_
      refine st_next ?_
      dsimp only
      refine st_seq ?_
      refine st_yes (ans_eq (val_var rfl) val_c rfl (dec_yes rfl)) ?_
      refine m_ret ?_
      refine v_meth (val_var rfl) hd rfl (va_cons (v_ixL (K := K) (n := 0) (val_var rfl) hna val_c rfl) (va_cons (v_ixL (K := K) (n := 1) (val_var rfl) hna val_c rfl) (va_cons (val_var rfl) va_nil))) ⟨d, ra, W, st, i, j, is, rfl, D0, hi, hj, ?_, h9, ?_⟩
      · rw [List.map_map] at hra
        exact hra
      · have e : Sw73.step st (.cost i j (stepsOf is)) = (st, match Sw73.costOf st.costs (st.at_ i) (st.at_ j) (stepsOf is) with | some n => Sw73.ok (n : Nat) | none => Sw73.ok (-3)) := by
          show (if (Sw73.here st i && Sw73.here st j) = false then _ else _) = _
          rw [if_neg (here2 hi hj)]
          rfl
        rw [e] at q
        exact q
    | shift i j =>
      have hi := live i (by simp)
      have hj := live j (by simp)
      refine st_no (ans_eq (val_var rfl) val_c rfl (dec_ne (by decide))) ?_
      refine st_next ?_
      dsimp only
      refine st_seq ?_
      refine st_no (ans_eq (val_var rfl) val_c rfl (dec_ne (by decide))) ?_
      refine st_next ?_
      dsimp only
      refine st_seq ?_
      refine st_no (ans_eq (val_var rfl) val_c rfl (dec_ne (by decide))) ?_
      refine st_next ?_
      dsimp only
      refine st_seq ?_
      refine st_yes (ans_eq (val_var rfl) val_c rfl (dec_yes rfl)) ?_
      refine m_ret ?_
      refine v_meth (val_var rfl) hd rfl (va_cons (v_ixL (K := K) (n := 0) (val_var rfl) hna val_c rfl) (va_cons (v_ixL (K := K) (n := 1) (val_var rfl) hna val_c rfl) va_nil)) ⟨d, W, st, i, j, rfl, D0, hi, hj, ?_⟩
      have e : Sw73.step st (.shift i j) = (st, ⟨((Sw73.shift st.costs (st.at_ i) (st.at_ j)).1 : Nat), [[(Sw73.shift st.costs (st.at_ i) (st.at_ j)).2]]⟩) := by
        show (if (Sw73.here st i && Sw73.here st j) = false then _ else _) = _
        rw [if_neg (here2 hi hj)]
      rw [e] at q
      exact q
    | tree r =>
      have hi := live r (by simp)
      refine st_no (ans_eq (val_var rfl) val_c rfl (dec_ne (by decide))) ?_
      refine st_next ?_
      dsimp only
      refine st_seq ?_
      refine st_no (ans_eq (val_var rfl) val_c rfl (dec_ne (by decide))) ?_
      refine st_next ?_
      dsimp only
      refine st_seq ?_
      refine st_no (ans_eq (val_var rfl) val_c rfl (dec_ne (by decide))) ?_
      refine st_next ?_
      dsimp only
      refine st_seq ?_
      refine st_no (ans_eq (val_var rfl) val_c rfl (dec_ne (by decide))) ?_
      refine st_next ?_
      dsimp only
      refine m_ret ?_
      refine v_meth (val_var rfl) hd rfl (va_cons (v_ixL (K := K) (n := 0) (val_var rfl) hna val_c rfl) va_nil) ⟨d, W, st, r, rfl, D0, hi, fun hin => ?_⟩
      rw [step_tree hi hin] at q
      exact q
def spAnswered (K : PySem.W.Frag) (c : Cs) : Sp := fun vs H Q _ => ∃ (d na ra : Addr) (W : Addr → Prop) (s : Sw73.St) (p : Int) (ns : List Nat) (rw_ : List Int) (x : Sw73.Call), vs = [.ref d, .int p, .ref na, .ref ra] ∧ DeskIn c H d W s ∧ CallIs p ns rw_ x ∧
  SqL K H na (nums ns) ∧ SqL K H ra (rw_.map V.int) ∧ Told c H d W Q (Sw73.step s x).1 (Sw73.step s x).2
theorem nums_len {p : Int} {ns : List Nat} {rw_ : List Int} {x : Sw73.Call} (h : CallIs p ns rw_ x) : ns.length ≤ 5 := by
  cases h <;> first | exact Nat.le_refl _ | (show _ ≤ 5; simp)
theorem scDesk_answered : FnScope ["self", "word", "numbers", "row", "k"] ["self", "word", "numbers", "row"] (defScope sDesk_answered) := ⟨rfl, rfl, rfl, by decide +kernel, rfl, by decide +kernel, by decide +kernel⟩
theorem ok_Desk_answered {f : Addr} {fd : FuncData} (F : Fun K "answered" "Desk.answered" sDesk_answered f fd) (T : Txt K mg c) (D_Desk_begins : Mt P w K mg base c.Desk "begins" 3 ["self", "some"] (spBegins K c)) (D_Desk_tune : Mt P w K mg base c.Desk "tune" 5 ["self", "notes"] (spDeskTune K c))
    (D_Desk_all_far : Mt P w K mg base c.Desk "all_far" 8 ["self"] (spAllFar c)) (D_Family_has : Mt P w K mg base c.Family "has" 1 ["self", "k"] (spHas c)) (D_Desk_of_tunes : Mt P w K mg base c.Desk "of_tunes" 11 ["self", "word", "numbers", "row"] (spOfTunes K c)) :
    FnOk P w K mg base CX0 12 f fd ["self", "word", "numbers", "row"] (spAnswered K c) := by
  refine F.ok scDesk_answered (fun vs H Q E h => ?_) (fun cdv A outer s H vs Q E hr h => ?_)
  · obtain ⟨d, na, ra, W, s, p, ns, rw_, x, rfl, _⟩ := h
    rfl
  · obtain ⟨d, na, ra, W, st, p, ns, rw_, x, rfl, D0, hc, hna, hra, q⟩ := h
    have D0' := D0
    obtain ⟨f, cA, tA, kA, tps, kvs, D1, hW⟩ := D0'
    obtain ⟨dd, hd⟩ := D1.obj
    refine ⟨_, (pss_cons (ps_if (pt_cmpR op_eq (pv 1) pe_int (nomark _)) (pss_one (ps_ret (pe_mt D_Desk_begins T.cl_Desk (hr.mono (by decide)) (pv 0) (pa_cons (pv 2) pa_nil)))) pss_nil)
    (pss_cons (ps_if (pt_cmpR op_eq (pv 1) pe_int (nomark _)) (pss_one (ps_ret (pe_mt D_Desk_tune T.cl_Desk (hr.mono (by decide)) (pv 0) (pa_cons (pv 3) pa_nil)))) pss_nil)
    (pss_cons (ps_if (pt_cmpR op_eq (pv 1) pe_int (nomark _)) (pss_one (ps_ret (pe_mt0 D_Desk_all_far T.cl_Desk (hr.mono (by decide)) (pv 0)))) pss_nil)
    (pss_cons (ps_if (pt_not (pt_val (pe_callB (cr_all rfl) (by rfl) T.b_all (by decide +kernel) (pa_cons (pe_lc (own := [("k", 4)]) (g := gName 4) (tt := tYes) (te := (tMeth c.Family "has" _ [] E0 (tFld K (tVar 0) "family") (tCons (tVar 4) tNil))) (by rfl) scDesk_answered.nd (pi_list (pv 2)) (blkOk_by (by kernel_rfl)) (fun _ _ _ _ _ => (pg_name (i := 4) scDesk_answered.nd rfl (by first | exact Or.inl rfl | exact Or.inr rfl))) (fun _ _ _ _ _ => pts_nil) (fun _ _ _ _ _ => (pe_mt D_Family_has T.cl_Family (hr.mono (by decide)) (pe_fld (pv 0) rfl) (pa_cons (pv 4) pa_nil)))) pa_nil)))) (pss_one (ps_ret (pe_lst (pa_cons (pe_cst T.c_NO_TUNE (by rfl)) pa_nil)))) pss_nil)
    (pss_one (ps_ret (pe_mt D_Desk_of_tunes T.cl_Desk (hr.mono (by decide)) (pv 0) (pa_cons (pv 1) (pa_cons (pv 2) (pa_cons (pv 3) pa_nil)))))))))), ?_⟩
    refine st_seq ?_
    by_cases h0 : p = 0
    · refine st_yes (ans_eq (val_var rfl) val_c rfl (dec_yes h0)) ?_
      refine m_ret ?_
      cases hc with
      | begins k => exact v_meth (val_var rfl) hd rfl (va_cons (val_var rfl) va_nil) ⟨d, na, W, st, k, rfl, D0, hna, q⟩
      | _ => exact absurd h0 (by decide)
    · refine st_no (ans_eq (val_var rfl) val_c rfl (dec_ne h0)) ?_
      refine st_next ?_
      dsimp only
      refine st_seq ?_
      by_cases h1 : p = 1
      · refine st_yes (ans_eq (val_var rfl) val_c rfl (dec_yes h1)) ?_
        refine m_ret ?_
        cases hc with
        | tune t hk l => exact v_meth (val_var rfl) hd rfl (va_cons (val_var rfl) va_nil) ⟨d, ra, W, st, t, rfl, D0, hra, hk, l, q⟩
        | _ => exact absurd h1 (by decide)
      · refine st_no (ans_eq (val_var rfl) val_c rfl (dec_ne h1)) ?_
        refine st_next ?_
        dsimp only
        refine st_seq ?_
        by_cases h6 : p = 6
        · refine st_yes (ans_eq (val_var rfl) val_c rfl (dec_yes h6)) ?_
          refine m_ret ?_
          cases hc with
          | far =>
            rw [step_far] at q
            exact v_meth (val_var rfl) hd rfl va_nil ⟨d, W, st, rfl, D0, q⟩
          | _ => exact absurd h6 (by decide)
        · refine st_no (ans_eq (val_var rfl) val_c rfl (dec_ne h6)) ?_
          refine st_next ?_
          dsimp only
          refine st_seq ?_
          have l5 := nums_len hc
          refine m_if ?_
          refine ⟨_, rfl, na, rfl, ⟨_, hna⟩, fun D hD => lc_map (K := K) ns (fun _ y n => y = .bl (decide (n < st.tunes.length))) hD hna (by unfold nums; rw [List.length_map]) (by unfold nums; rw [List.length_map]; exact small1000 (by omega)) (fun _ _ _ _ _ _ _ _ _ r => r) ?_ ?_⟩
          · intro i y n H2 acc hx hn hd2 s2 Z N0 hZ
            have ex : y = .int (n : Nat) := by
              unfold nums at hx
              rw [List.getElem?_map, hn] at hx
              exact (Option.some.inj hx).symm
            subst ex
            refine ⟨rfl, m_yes ?_⟩
            have D2 := D1.mono s2
            obtain ⟨dd2, hd3⟩ := D2.obj
            obtain ⟨df2, hf2⟩ := D2.fam.obj
            exact v_meth (v_Desk_family T (val_var rfl) hd3) hf2 rfl (va_cons (val_var rfl) va_nil) ⟨f, cA, tA, kA, tps, kvs, st.costs, st.tunes, n, rfl, D2.fam, hZ _ _ (L2.Same.refl _) rfl⟩
          · intro H2 acc s2 hD2 pr2
            rw [all_bls (f := fun (n : Nat) => decide (n < st.tunes.length)) pr2] at hD2
            refine ⟨D, _, rfl, SqL.of hD2, _, rfl, ?_⟩
            have q2 := q.pre s2
            cases hl : lives st ns with
            | false =>
              have hl' : ((ns.map fun n => decide (n < st.tunes.length)).all id) = false := hl
              rw [hl']
              refine iteT ?_
              refine m_ret ?_
              refine ⟨by show 1 ≤ sizeLine; decide, fun p np => ?_⟩
              rw [step_dead hc h0 h1 h6 hl] at q2
              exact q2 p _ W (D0.mono (L2.Same.trans s2 (same_upd np))) (After.same (same_upd np)) np upd_same
            | true =>
              have hl' : ((ns.map fun n => decide (n < st.tunes.length)).all id) = true := hl
              rw [hl']
              refine iteF ?_
              refine st_next ?_
              dsimp only
              refine m_ret ?_
              have hd2 := s2 _ _ hd
              exact v_meth (val_var rfl) hd2 rfl (va_cons (val_var rfl) (va_cons (val_var rfl) (va_cons (val_var rfl) va_nil))) ⟨d, na, ra, W, st, p, ns, rw_, x, rfl, D0.mono s2, hc, h0, h1, h6, hl, s2.seq hna, s2.seq hra, q2⟩
end
end Sk

/-! The calls one behind another. -/
namespace Sk
open PySem PySem.Spec PyProof.Rows L2 SkR SkM
section
variable {K : PySem.W.Frag} {σ : L2.St} {H : Hp}
theorem v_slice2 {te ta tb : TE} {p : Addr} {xs : List V} {a k : Nat} {i j : Int} {Q : VK} (h : Val te σ H (.ref p)) (ha : Val ta σ H (.int i)) (hb : Val tb σ H (.int j)) (ei : i = (a : Int)) (ej : j = (a : Int) + (k : Int)) (hp : SqL K H p xs) (hle : a + k ≤ xs.length)
    (q : ∀ p2, H p2 = none → Q (.ref p2) (upd H p2 (.lst ((xs.drop a).take k)))) : tSl (rSlL K) te (tPart ta) (tPart tb) σ H Q := by
  subst ei
  subst ej
  refine h _ ?_
  refine ha _ ⟨a, rfl, ?_⟩
  refine hb _ ⟨_, rfl, p, xs, rfl, hp, fun p2 n2 => ?_⟩
  rw [cut_nat hle]
  exact q p2 n2
theorem m_tup {t : TA} {Q : VK} (h : t σ H fun xs H1 => xs.length ≤ sizeLine ∧ ∀ p, H1 p = none → Q (.ref p) (upd H1 p (.tup xs))) : tTup t σ H Q := h
end
theorem inV_row {p : Int} : inV (.int p) ([1, 4].map V.int) = decide (p = 1 ∨ p = 4) := by
  show (((1 : Int) == p) || (((4 : Int) == p) || false)) = _
  rw [Bool.eq_iff_iff, decide_eq_true_eq, Bool.or_false, Bool.or_eq_true, beq_iff_eq, beq_iff_eq]
  omega
theorem call_no {p : Int} {ns : List Nat} {rw_ : List Int} {x : Sw73.Call} (h : CallIs p ns rw_ x) : ∃ n : Nat, p = (n : Int) ∧ (([5, 0, 1, 2, 2, 2, 0, 1] : List Int).map V.int)[n]? = some (.int (ns.length : Nat)) := by
  cases h
  · exact ⟨0, rfl, rfl⟩
  · exact ⟨1, rfl, rfl⟩
  · exact ⟨2, rfl, rfl⟩
  · exact ⟨3, rfl, rfl⟩
  · exact ⟨4, rfl, rfl⟩
  · exact ⟨5, rfl, rfl⟩
  · exact ⟨6, rfl, rfl⟩
  · exact ⟨7, rfl, rfl⟩
theorem no_row {p : Int} {ns : List Nat} {rw_ : List Int} {x : Sw73.Call} (h : CallIs p ns rw_ x) (n : ¬ (p = 1 ∨ p = 4)) : rw_ = [] := by
  cases h
  case tune => exact absurd (.inl rfl) n
  case cost => exact absurd (.inr rfl) n
  all_goals rfl
theorem drop_to {α : Type} {L xs ys : List α} {a : Nat} (h : L.drop a = xs ++ ys) : L.drop (a + xs.length) = ys ∧ (a ≤ L.length → a + xs.length + ys.length = L.length) := by
  refine ⟨by rw [← List.drop_drop, h, List.drop_left], fun ha => ?_⟩
  have := congrArg List.length h
  rw [List.length_drop, List.length_append] at this
  omega
theorem enc_len (p : Int) (ns : List Nat) (rw_ : List Int) : (enc p ns rw_).length = 1 + ns.length + (if p = 1 ∨ p = 4 then rw_.length + 1 else 0) := by
  unfold enc
  rw [List.length_cons, List.length_append, List.length_map]
  split
  · rw [List.length_cons]; omega
  · rw [List.length_nil]; omega
/-- where a call's parts stand -/
structure Parts (L : List Int) (at_ : Nat) (p : Int) (ns : List Nat) (rw_ : List Int) : Prop where
  word : L[at_]? = some p
  room : at_ + 1 + ns.length ≤ L.length
  nums : ((L.map V.int).drop (at_ + 1)).take ns.length = nums ns
  count : (p = 1 ∨ p = 4) → L[at_ + 1 + ns.length]? = some (rw_.length : Int) ∧ at_ + 1 + ns.length + 1 + rw_.length ≤ L.length ∧ ((L.map V.int).drop (at_ + 1 + ns.length + 1)).take rw_.length = rw_.map V.int
theorem get_of_drop {α : Type} {L ys : List α} {a : Nat} {y : α} (h : L.drop a = y :: ys) : L[a]? = some y := by
  have := congrArg (fun l => l[0]?) h
  simpa using this
theorem parts_of {L t : List Int} {at_ : Nat} {p : Int} {ns : List Nat} {rw_ : List Int} (h : L.drop at_ = enc p ns rw_ ++ t) : Parts L at_ p ns rw_ := by
  have w := get_of_drop (y := p) h
  have hat := (List.getElem?_eq_some_iff.mp w).1
  have h1 : L.drop at_ = [p] ++ ((ns.map fun (n : Nat) => (n : Int)) ++ ((if p = 1 ∨ p = 4 then (rw_.length : Int) :: rw_ else []) ++ t)) := by
    rw [h]
    unfold enc
    rw [List.cons_append, List.append_assoc]
    rfl
  have d1 := (drop_to h1).1
  have l1 := (drop_to h1).2 (by omega)
  have d1 : L.drop (at_ + 1) = (ns.map fun (n : Nat) => (n : Int)) ++ ((if p = 1 ∨ p = 4 then (rw_.length : Int) :: rw_ else []) ++ t) := d1
  have d2 := (drop_to d1).1
  have l2 := (drop_to d1).2 (by have : [p].length = 1 := rfl; omega)
  rw [List.length_map] at d2 l2
  refine ⟨w, by omega, ?_, fun hp => ?_⟩
  · rw [← List.map_drop, d1, List.map_append, List.map_map]
    show List.take ns.length (nums ns ++ _) = nums ns
    have e : (nums ns).length = ns.length := List.length_map ..
    rw [← e, List.take_left]
  · rw [if_pos hp] at d2 l2
    have d2 : L.drop (at_ + 1 + ns.length) = [(rw_.length : Int)] ++ (rw_ ++ t) := d2
    have g := get_of_drop (y := (rw_.length : Int)) d2
    have d3 := (drop_to d2).1
    have l3 := (drop_to d2).2 (by omega)
    have d3 : L.drop (at_ + 1 + ns.length + 1) = rw_ ++ t := d3
    have l3 : at_ + 1 + ns.length + 1 + (rw_ ++ t).length = L.length := l3
    rw [List.length_append] at l3
    refine ⟨g, by omega, ?_⟩
    rw [← List.map_drop, d3, List.map_append]
    have e : (rw_.map V.int).length = rw_.length := List.length_map ..
    rw [← e, List.take_left]
theorem SqL.afterK {K : PySem.W.Frag} {H H' : Hp} {a : Addr} {xs : List V} (h : SqL K H a xs) (s : ∀ o, H a = some o → H' a = some o) : SqL K H' a xs := by
  rcases h with (h | ⟨o, h⟩) | h
  · exact .inl (.inl (s _ h))
  · exact .inl (.inr ⟨o, s _ h⟩)
  · exact .inr h
theorem DeskIn.own {c : Cs} {H : Hp} {d : Addr} {W : Addr → Prop} {s : Sw73.St} (h : DeskIn c H d W s) {b : Addr} (hb : W b) : ∃ o, H b = some o := by
  obtain ⟨f, cA, tA, kA, tps, kvs, D, hW⟩ := h
  rcases (hW b).mp hb with rfl | rfl | rfl | rfl | m
  · obtain ⟨dx, e⟩ := D.obj
    exact ⟨_, e⟩
  · obtain ⟨dx, e⟩ := D.fam.obj
    exact ⟨_, e⟩
  · exact ⟨_, D.fam.lst⟩
  · exact ⟨_, D.fam.dict⟩
  · obtain ⟨i, hi⟩ := List.mem_iff_getElem?.mp m
    obtain ⟨t, _, ps, e, _⟩ := LiI.paired_get D.fam.tunes hi
    exact ⟨_, e⟩
theorem DeskIn.keepL {c : Cs} {H H' : Hp} {d l : Addr} {W : Addr → Prop} {s : Sw73.St} {xs : List V} (h : DeskIn c H d W s) (m : Keep l H H') (hl : H l = some (.lst xs)) (n : ¬ W l) : DeskIn c H' d W s := by
  obtain ⟨f, cA, tA, kA, tps, kvs, D, hW⟩ := h
  have hn : ∀ C dx fs, HO.lst xs ≠ .ins C dx fs := fun _ _ _ z => by cases z
  have ni : ∀ {b C dx : Addr} {fs : List (Str × V)}, H b = some (.ins C dx fs) → b ≠ l := fun e => ne_of e hl (by intro z; cases z)
  refine ⟨f, cA, tA, kA, tps, kvs, ⟨let ⟨dx, e⟩ := D.obj; ⟨dx, m _ _ e (ni e)⟩, ⟨let ⟨dx, e⟩ := D.fam.obj; ⟨dx, m _ _ e (ni e)⟩, let ⟨dx, e⟩ := D.fam.costs; ⟨dx, m _ _ e (ni e)⟩, m _ _ D.fam.lst fun z => n ((hW l).mpr (.inr (.inr (.inl z.symm)))), ?_, D.fam.apart, m _ _ D.fam.dict (ne_of D.fam.dict hl (by intro z; cases z)), D.fam.known, D.fam.ok, D.fam.ln, D.fam.lens⟩⟩, hW⟩
  exact paired_mem D.fam.tunes fun u t mu r => TuneAt.keep r m hl hn fun z => n ((hW l).mpr (.inr (.inr (.inr (.inr (z ▸ mu))))))
section
variable {P : Program} {w : World} {K : PySem.W.Frag} {mg : Str → Option Value} {base : Heap} {c : Cs}
def spCallAt (K : PySem.W.Frag) : Sp := fun vs H Q _ => ∃ (ca : Addr) (at_ : Nat) (L : List Int) (p : Int) (ns : List Nat) (rw_ : List Int) (x : Sw73.Call), vs = [.ref ca, .int at_] ∧ SqL K H ca (L.map V.int) ∧ Parts L at_ p ns rw_ ∧ CallIs p ns rw_ x ∧
  ∀ (q na ra : Addr) (H' : Hp), L2.Same H H' → H' na = some (.lst (nums ns)) → H' ra = some (.lst (rw_.map V.int)) → H' q = some (.tup [.ref na, .ref ra, .int ((at_ + (enc p ns rw_).length : Nat) : Int)]) → Q (.ref q) H'
theorem sc_call_at : FnScope ["calls", "at", "behind", "numbers", "begin"] ["calls", "at"] (defScope s_call_at) := ⟨rfl, rfl, rfl, by decide +kernel, rfl, by decide +kernel, by decide +kernel⟩
theorem ok_call_at {f : Addr} {fd : FuncData} (F : Fun K "call_at" "call_at" s_call_at f fd) (T : Txt K mg c) : FnOk P w K mg base CX0 1 f fd ["calls", "at"] (spCallAt K) := by
  refine F.ok sc_call_at (fun vs H Q E h => ?_) (fun cdv A outer s H vs Q E hr h => ?_)
  · obtain ⟨ca, at_, L, p, ns, rw_, x, rfl, _⟩ := h
    rfl
  · obtain ⟨ca, at_, L, p, ns, rw_, x, rfl, hca, Pt, hc, q⟩ := h
    obtain ⟨aN, h_NUMBERS, tN⟩ := T.c_NUMBERS
    obtain ⟨aW, h_WITH_ROW, tW⟩ := T.c_WITH_ROW
    obtain ⟨n, hn, hk⟩ := call_no hc
    have hw : (L.map V.int)[at_]? = some (.int p) := by rw [List.getElem?_map, Pt.word]; rfl
    have lm : (L.map V.int).length = L.length := List.length_map ..
    refine ⟨_, (pss_cons (ps_set (i := 2) sc_call_at.nd rfl (by first | exact Or.inl rfl | exact Or.inr rfl) (pe_op op_add (pe_op op_add (pv 1) pe_int) (pe_ix ix_tup (pe_cst h_NUMBERS (by rfl)) (pe_ix ix_list (pv 0) (pv 1) (fun _ _ => rfl)) (fun _ _ => rfl))))
    (pss_cons (ps_set (i := 3) sc_call_at.nd rfl (by first | exact Or.inl rfl | exact Or.inr rfl) (pe_slice sl_list (pv 0) (po_some (pe_op op_add (pv 1) pe_int)) (po_some (pv 2))))
    (pss_cons (ps_if (pt_cmpR op_notIn_seq (pe_ix ix_list (pv 0) (pv 1) (fun _ _ => rfl)) (pe_cst h_WITH_ROW (by rfl)) (by rfl)) (pss_one (ps_ret (pe_tup (pa_cons (pv 3) (pa_cons (pe_lst pa_nil) (pa_cons (pv 2) pa_nil)))))) pss_nil)
    (pss_cons (ps_set (i := 4) sc_call_at.nd rfl (by first | exact Or.inl rfl | exact Or.inr rfl) (pe_op op_add (pv 2) pe_int))
    (pss_cons (ps_set (i := 2) sc_call_at.nd rfl (by first | exact Or.inl rfl | exact Or.inr rfl) (pe_op op_add (pv 4) (pe_ix ix_list (pv 0) (pv 2) (fun _ _ => rfl))))
    (pss_one (ps_ret (pe_tup (pa_cons (pv 3) (pa_cons (pe_slice sl_list (pv 0) (po_some (pv 4)) (po_some (pv 2))) (pa_cons (pv 2) pa_nil))))))))))), ?_⟩
    refine st_seq ?_
    refine st_set (v_add (v_add (val_var rfl) val_c) (v_ixT (K := K) (n := n) val_c (tN H) (by rw [← hn]; exact v_ixL (K := K) (n := at_) (val_var rfl) hca (val_var rfl) hw) hk)) ?_
    dsimp only
    refine st_seq ?_
    refine m_set ?_
    refine v_slice2 (K := K) (a := at_ + 1) (k := ns.length) (val_var rfl) (v_add (val_var rfl) val_c) (val_var rfl) (by rw [Int.natCast_add]; rfl) (by rw [Int.natCast_add]; rfl) hca (by rw [lm]; exact Pt.room) fun na nna => ?_
    rw [Pt.nums]
    have s1 : L2.Same H (upd H na (.lst (nums ns))) := same_upd nna
    have hna : upd H na (.lst (nums ns)) na = some (.lst (nums ns)) := upd_same
    generalize upd H na (.lst (nums ns)) = H1 at s1 hna ⊢
    have hca1 := s1.seq hca
    dsimp only
    refine st_seq ?_
    by_cases hrow : p = 1 ∨ p = 4
    · obtain ⟨g1, g2, g3⟩ := Pt.count hrow
      have hw2 : (L.map V.int)[at_ + 1 + ns.length]? = some (.int (rw_.length : Nat)) := by rw [List.getElem?_map, g1]; rfl
      refine st_no (ans_cmp (b := false) (v_ixL (K := K) (n := at_) (val_var rfl) hca1 (val_var rfl) hw) val_c fun Q q => ⟨aW, _, rfl, .inr (tW H1), rfl, flat_ints _ _, by rw [if_pos rfl, inV_row, decide_eq_true hrow]; exact q⟩) ?_
      refine st_next ?_
      dsimp only
      refine st_seq ?_
      refine st_set (v_add (val_var rfl) val_c) ?_
      dsimp only
      refine st_seq ?_
      refine st_set (v_add (val_var rfl) (v_ixL (K := K) (n := at_ + 1 + ns.length) (val_var rfl) hca1 (val_var (by
        show some (some (V.int _)) = some (some (V.int _))
        rw [Int.natCast_add, Int.natCast_add]
        rfl)) hw2)) ?_
      dsimp only
      refine m_ret ?_
      refine m_tup ?_
      refine m_acons ?_
      refine ⟨_, rfl, ?_⟩
      refine m_acons ?_
      refine v_slice2 (K := K) (a := at_ + 1 + ns.length + 1) (k := rw_.length) (val_var rfl) (val_var rfl) (val_var rfl) (by rw [Int.natCast_add, Int.natCast_add, Int.natCast_add]; rfl) (by rw [Int.natCast_add, Int.natCast_add, Int.natCast_add]; rfl) hca1 (by rw [lm]; exact g2) fun ra nra => ?_
      rw [g3]
      refine m_acons ?_
      refine ⟨_, rfl, ?_⟩
      refine m_anil ?_
      refine ⟨by show 3 ≤ sizeLine; decide, fun pq npq => ?_⟩
      have s2 : L2.Same H1 (upd H1 ra (.lst (rw_.map V.int))) := same_upd nra
      refine q pq na ra _ (L2.Same.trans s1 (L2.Same.trans s2 (same_upd npq))) (same_upd npq _ _ (s2 _ _ hna)) (same_upd npq _ _ upd_same) ?_
      rw [upd_same, enc_len, if_pos hrow]
      have e : ((at_ + (1 + ns.length + (rw_.length + 1)) : Nat) : Int) = (at_ : Int) + 1 + (ns.length : Nat) + 1 + (rw_.length : Nat) := by omega
      rw [e]
    · refine st_yes (ans_cmp (b := true) (v_ixL (K := K) (n := at_) (val_var rfl) hca1 (val_var rfl) hw) val_c fun Q q => ⟨aW, _, rfl, .inr (tW H1), rfl, flat_ints _ _, by rw [if_pos rfl, inV_row, decide_eq_false hrow]; exact q⟩) ?_
      refine m_ret ?_
      refine m_tup ?_
      refine m_acons ?_
      refine ⟨_, rfl, ?_⟩
      refine m_acons ?_
      refine m_list ?_
      refine m_anil ?_
      refine ⟨Nat.zero_le _, fun ra nra => ?_⟩
      refine m_acons ?_
      refine ⟨_, rfl, ?_⟩
      refine m_anil ?_
      refine ⟨by show 3 ≤ sizeLine; decide, fun pq npq => ?_⟩
      have s2 : L2.Same H1 (upd H1 ra (.lst [])) := same_upd nra
      have er := no_row hc hrow
      refine q pq na ra _ (L2.Same.trans s1 (L2.Same.trans s2 (same_upd npq))) (same_upd npq _ _ (s2 _ _ hna)) (by rw [er]; exact same_upd npq _ _ upd_same) ?_
      rw [upd_same, enc_len, if_neg hrow]
      have e : ((at_ + (1 + ns.length + 0) : Nat) : Int) = (at_ : Int) + 1 + (ns.length : Nat) := by omega
      rw [e]
def spAns (K : PySem.W.Frag) : Sp := fun vs H Q _ => ∃ (ca : Addr) (L : List Int), vs = [.ref ca] ∧ SqL K H ca (L.map V.int) ∧ PySw73.answers_asked L = true ∧ ∀ (H' : Hp) (p : Addr), H' p = some (.lst ((PySw73.answers L).map V.int)) → Q (.ref p) H'
theorem sc_answers : FnScope ["calls", "desk", "found", "at", "answer", "numbers", "row", "behind"] ["calls"] (defScope s_answers) := ⟨rfl, rfl, rfl, by decide +kernel, rfl, by decide +kernel, by decide +kernel⟩
theorem ok_answers {f : Addr} {fd : FuncData} (F : Fun K "answers" "answers" s_answers f fd) (T : Txt K mg c) (M_Desk : Kl P w K mg base "Desk" c.Desk 4 ["self"] (spDeskIni c)) (D_call_at : Df P w K mg base "call_at" 1 ["calls", "at"] (spCallAt K))
    (D_Desk_answered : Mt P w K mg base c.Desk "answered" 12 ["self", "word", "numbers", "row"] (spAnswered K c)) : FnOk P w K mg base CX0 13 f fd ["calls"] (spAns K) := by
  refine F.ok sc_answers (fun vs H Q E h => ?_) (fun cdv A outer s H vs Q E hr h => ?_)
  · obtain ⟨ca, L, rfl, _⟩ := h
    rfl
  · obtain ⟨ca, L, rfl, hca, ask, q⟩ := h
    obtain ⟨raw0, hraw0, hx0, et0, hshort⟩ := asked_parts ask
    refine ⟨_, (pss_cons (ps_set (i := 1) sc_answers.nd rfl (by first | exact Or.inl rfl | exact Or.inr rfl) (pe_mk0 M_Desk (hr.mono (by decide)) (by rfl)))
    (pss_cons (ps_set (i := 2) sc_answers.nd rfl (by first | exact Or.inl rfl | exact Or.inr rfl) (pe_lst pa_nil))
    (pss_cons (ps_set (i := 3) sc_answers.nd rfl (by first | exact Or.inl rfl | exact Or.inr rfl) pe_int)
    (pss_cons (ps_while PassesOwn.never (pt_cmpR op_lt (pv 3) (pe_callB call_len_seq (by rfl) T.b_len PySem.boot_len (pa_cons (pv 0) pa_nil)) (nomark _))
      (pss_cons (ps_asg (pe_df D_call_at (hr.mono (by decide)) (by rfl) (pa_cons (pv 0) (pa_cons (pv 3) pa_nil))) (pg_tup rfl (pgs_cons (pg_name (i := 5) sc_answers.nd rfl (by first | exact Or.inl rfl | exact Or.inr rfl)) (pgs_cons (pg_name (i := 6) sc_answers.nd rfl (by first | exact Or.inl rfl | exact Or.inr rfl)) (pgs_cons (pg_name (i := 7) sc_answers.nd rfl (by first | exact Or.inl rfl | exact Or.inr rfl)) pgs_nil)))))
    (pss_cons (ps_set (i := 4) sc_answers.nd rfl (by first | exact Or.inl rfl | exact Or.inr rfl) (pe_mt D_Desk_answered T.cl_Desk (hr.mono (by decide)) (pv 1) (pa_cons (pe_ix ix_list (pv 0) (pv 3) (fun _ _ => rfl)) (pa_cons (pv 5) (pa_cons (pv 6) pa_nil)))))
    (pss_cons (ps_expr (pe_bm PySem.F.plainAttrs_list PySem.F.slot_list_append PySem.F.type_list_append mt_append (pv 2) (pa_cons (pe_callB call_len_seq (by rfl) T.b_len PySem.boot_len (pa_cons (pv 4) pa_nil)) pa_nil)))
    (pss_cons (ps_expr (pe_bm PySem.F.plainAttrs_list PySem.F.slot_list_extend PySem.F.type_list_extend mt_extend (pv 2) (pa_cons (pv 4) pa_nil)))
    (pss_one (ps_set (i := 3) sc_answers.nd rfl (by first | exact Or.inl rfl | exact Or.inr rfl) (pv 7))))))))
    (pss_one (ps_ret (pv 2))))))), ?_⟩
    refine st_seq ?_
    refine m_set ?_
    refine v_makeS va_nil fun d dx H1 s1 nd hd => ⟨d, dx, rfl, hd, fun H2 W2 kp D2 fr => ⟨rfl, ?_⟩⟩
    have s2 : L2.Same H H2 := Same.of_keepN nd s1 kp
    have fr2 : ∀ b o, H b = some o → ¬ W2 b := fun b o e => fr b o (s1 _ _ e) (ne_of_none e nd)
    dsimp only
    refine st_seq ?_
    refine ⟨Nat.zero_le _, fun l nl => ?_⟩
    dsimp only
    refine st_seq ?_
    refine st_set val_c ?_
    dsimp only
    refine st_seq ?_
    have s3 : L2.Same H (upd H2 l (.lst [])) := L2.Same.trans s2 (same_upd nl)
    have nlH : H l = none := s2.free nl
    have nW : ¬ W2 l := fun z => by
      obtain ⟨o, e⟩ := D2.own z
      rw [nl] at e
      cases e
    refine ⟨fun m σ H' => ∃ (at_ fuel : Nat) (st : Sw73.St) (raw : List (List (List Int))) (F : List Int) (W : Addr → Prop) (v4 v5 v6 v7 : Option V), σ = [some (.ref ca), some (.ref d), some (.ref l), some (.int at_), v4, v5, v6, v7] ∧ L2.Same H H' ∧ (∀ b o, H b = some o → ¬ W b) ∧ DeskIn c H' d W st ∧
        H' l = some (.lst (F.map V.int)) ∧ ¬ W l ∧ PyFlat.calls PySw73.shape fuel (L.drop at_) = some raw ∧ (∀ c ∈ raw, ∃ x, Sw73Neutral.callOf ((PySw73.whole c).headD []) = some x) ∧ F ++ toldFrom st raw = PySw73.answers L ∧ m = L.length - at_,
      ⟨L.length, 0, L.length, Sw73.init, raw0, [], W2, none, none, none, none, rfl, s3, fr2, D2.mono (same_upd nl), upd_same, nW, hraw0, hx0, et0, rfl⟩, ?_⟩
    rintro m σ H4 ⟨at_, fuel, st, raw, FF, W, v4, v5, v6, v7, rfl, s4, fr4, D4, hl, nWl, hraw, hx, et, rfl⟩
    have hca4 := s4.seq hca
    have lm : (L.map V.int).length = L.length := List.length_map ..
    by_cases hlt : at_ < L.length
    · refine ans_cmp (b := true) (val_var rfl) (v_len (K := K) (p := ca) (val_var rfl) hca4 fun Q q => ⟨_, _, rfl, .inl hca4, q⟩) (fun Q q => ⟨_, _, rfl, rfl, by
        dsimp only
        rw [lm, decide_eq_true (Int.ofNat_lt.mpr hlt)]
        exact q⟩) _ ?_
      refine iteT ⟨_, fun _ _ h => h, ?_⟩
      obtain ⟨p, r, hpr⟩ : ∃ p r, L.drop at_ = p :: r := ⟨_, _, List.drop_eq_getElem_cons hlt⟩
      rw [hpr] at hraw
      obtain ⟨f', cc, t, cs, h1, h2, rfl⟩ := calls_cons hraw
      obtain ⟨x, hxx⟩ := hx cc List.mem_cons_self
      obtain ⟨ns, rw_, hc, he⟩ := call_is h1 hxx
      rw [he] at hpr
      have Pt := parts_of hpr
      rw [toldFrom_cons hxx] at et
      have hdt := (drop_to hpr).1
      have hel := enc_len p ns rw_
      have hF := congrArg List.length et
      rw [List.length_append, List.length_append, List.length_cons] at hF
      have hb : FF.length + 1 + (Sw73Neutral.out (Sw73.step st x).2).length ≤ 10000000 := by omega
      refine st_seq ?_
      refine m_asg ?_
      refine v_call (va_cons (val_var rfl) (va_cons (val_var rfl) va_nil)) ⟨ca, at_, L, p, ns, rw_, x, rfl, hca4, Pt, hc, fun tq na ra H5 s5 hna hra htq => ?_⟩
      refine ⟨tq, _, rfl, SqT.of htq, rfl, _, _, rfl, _, _, rfl, _, _, rfl, rfl, ?_⟩
      dsimp only
      refine st_seq ?_
      refine m_set ?_
      have D5 := D4.mono s5
      have D5' := D5
      obtain ⟨f5, cA5, tA5, kA5, tps5, kvs5, DA5, hW5⟩ := D5'
      obtain ⟨dd5, hd5⟩ := DA5.obj
      have hca5 := s5.seq hca4
      refine v_meth (val_var rfl) hd5 rfl (va_cons (v_ixL (K := K) (n := at_) (val_var rfl) hca5 (val_var rfl) (v := .int p) (by rw [List.getElem?_map, Pt.word]; rfl)) (va_cons (val_var rfl) (va_cons (val_var rfl) va_nil))) ⟨d, na, ra, W, st, p, ns, rw_, x, rfl, D5, hc, SqL.of hna, SqL.of hra, fun ap H6 W6 D6 A6 nap hap => ?_⟩
      dsimp only
      have hl5 := s5 _ _ hl
      obtain ⟨hl6, nWl6⟩ := (A6 l _ hl5).2 nWl
      have s6 : L2.Same H H6 := fun b o e => ((A6 b o (s5 _ _ (s4 _ _ e))).2 (fr4 b o e)).1
      have fr6 : ∀ b o, H b = some o → ¬ W6 b := fun b o e => ((A6 b o (s5 _ _ (s4 _ _ e))).2 (fr4 b o e)).2
      have nal : ap ≠ l := Ne.symm (ne_of_none hl5 nap)
      refine st_seq ?_
      have hs : (10000000 : Nat) < sizeLine := by rw [sizeLine_eq]; decide
      refine m_appendV (K := K) (val_var rfl) hl6 (by rw [List.length_map]; omega) (v_len (K := K) (p := ap) (val_var rfl) (SqL.of hap) fun Q q => ⟨_, _, rfl, .inl (SqL.of hap), q⟩) ?_
      dsimp only
      refine st_seq ?_
      have hap7 : upd H6 l (.lst (FF.map V.int ++ [.int (((Sw73Neutral.out (Sw73.step st x).2).map V.int).length : Nat)])) ap = some (.lst ((Sw73Neutral.out (Sw73.step st x).2).map V.int)) := by rw [upd_ne nal]; exact hap
      refine ⟨_, rfl, .inl ⟨rfl, _, SqL.of upd_same⟩, _, rfl, l, ap, _, _, rfl, rfl, upd_same, hap7, ?_, ?_⟩
      · rw [List.length_append, List.length_map, List.length_map]
        show FF.length + 1 + _ ≤ sizeLine
        omega
      · dsimp only
        refine st_set (val_var rfl) ?_
        rw [upd_upd]
        have k8 : ∀ {u : HO}, Keep l H6 (upd H6 l u) := fun {u} => keep_upd
        refine ⟨_, ?_, at_ + (enc p ns rw_).length, f', (Sw73.step st x).1, cs, FF ++ (((Sw73Neutral.out (Sw73.step st x).2).length : Int) :: Sw73Neutral.out (Sw73.step st x).2), W6, _, _, _, _, rfl, fun b o e => k8 _ _ (s6 _ _ e) (ne_of_none e nlH), fr6, D6.keepL k8 hl6 nWl6, ?_, nWl6, ?_, fun c' hc' => hx c' (List.mem_cons_of_mem _ hc'), ?_, rfl⟩
        · omega
        · rw [upd_same, List.map_append, List.length_map, List.append_assoc]
          rfl
        · rw [hdt]
          exact h2
        · rw [List.append_assoc]
          exact et
    · refine ans_cmp (b := false) (val_var rfl) (v_len (K := K) (p := ca) (val_var rfl) hca4 fun Q q => ⟨_, _, rfl, .inl hca4, q⟩) (fun Q q => ⟨_, _, rfl, rfl, by
        dsimp only
        rw [lm, decide_eq_false (fun h => hlt (Int.ofNat_lt.mp h))]
        exact q⟩) _ ?_
      refine iteF ?_
      dsimp only
      have hdn : L.drop at_ = [] := List.drop_eq_nil_iff.mpr (by omega)
      rw [hdn] at hraw
      have := calls_nil hraw
      subst this
      have e : FF = PySw73.answers L := by
        rw [← et]
        exact (List.append_nil _).symm
      refine st_ret (val_var rfl) (q H4 l ?_)
      rw [hl, e]
end
end Sk

/-! What the top has left; the end. Printed by mkE.py. -/
namespace Sk
open PySem PySem.Spec PyProof.Rows L2 SkR SkM
abbrev FnF (K : PySem.W.Frag) (x : Str) (st : Stmt) : Prop := ∃ (f : Addr) (fd : FuncData), PySem.W.nsIn K mainGlobals x = some (some (.ref f)) ∧ Fun K x x st f fd
abbrev MtF (K : PySem.W.Frag) (C : Addr) (m q : Str) (st : Stmt) : Prop := ∃ (f : Addr) (fd : FuncData), PySem.W.findIn K (.ref C) m = some (some (.ref f)) ∧ PySem.W.isFn K (.ref f) = true ∧ Fun K m q st f fd
abbrev ClF (K : PySem.W.Frag) (C : Addr) : Prop := Cls K C ∧ PySem.W.makesIn K C = true ∧ PySem.W.keepIn K (.ref C) = true
abbrev CsF (K : PySem.W.Frag) (x : Str) (i : Int) : Prop := ∃ t : Nat, PySem.W.nsIn K mainGlobals x = some (some (.int i t))
abbrev TpF (K : PySem.W.Frag) (a : Addr) (xs : List V) : Prop := ∃ (o : Obj) (its : Array Value) (n : Nat), K.lookup a = some o ∧ o.cls = .type "tuple" ∧ o.data = .seq its n ∧ its.size ≤ sizeLine ∧ Vals xs its.toList
abbrev TiF (K : PySem.W.Frag) (x : Str) (l : List Int) : Prop := ∃ a : Addr, PySem.W.nsIn K mainGlobals x = some (some (.ref a)) ∧ TpF K a (l.map V.int)
abbrev TkF (K : PySem.W.Frag) (us : List Value) (ts : List (Nat × Nat)) : Prop := Paired (fun (u : Value) (t : Nat × Nat) => ∃ p : Addr, u = Value.ref p ∧ TpF K p [.int t.1, .int t.2]) us ts
abbrev TaF (K : PySem.W.Frag) : Prop := ∃ a : Addr, PySem.W.nsIn K mainGlobals "TAKEN" = some (some (.ref a)) ∧ ∃ (o : Obj) (its : Array Value) (n : Nat), K.lookup a = some o ∧ o.cls = .type "tuple" ∧ o.data = .seq its n ∧ its.size ≤ sizeLine ∧ TkF K its.toList [(1, 1), (1, 0), (0, 1), (1, 2), (1, 3), (1, 4), (2, 1), (3, 1), (4, 1)]
theorem refs_ofK {K : PySem.W.Frag} : ∀ {us : List Value} {ts : List (Nat × Nat)}, TkF K us ts → ∃ ps : List Addr, Vals (ps.map V.ref) us ∧ Paired (fun (p : Addr) (t : Nat × Nat) => TpF K p [.int t.1, .int t.2]) ps ts
  | _, _, .nil => ⟨[], .nil, .nil⟩
  | _, _, .cons ⟨p, e, t⟩ h => let ⟨ps, h1, h2⟩ := refs_ofK h; ⟨p :: ps, .cons e h1, .cons t h2⟩
theorem fnF_mk {K : PySem.W.Frag} {x : Str} {st : Stmt} {f : Addr} {fd : FuncData} (a : PySem.W.nsIn K mainGlobals x = some (some (.ref f))) (F : Fun K x x st f fd) : FnF K x st := ⟨f, fd, a, F⟩
theorem mtF_mk {K : PySem.W.Frag} {C f : Addr} {m q : Str} {st : Stmt} {fd : FuncData} (a : PySem.W.findIn K (.ref C) m = some (some (.ref f))) (i : PySem.W.isFn K (.ref f) = true) (F : Fun K m q st f fd) : MtF K C m q st := ⟨f, fd, a, i, F⟩
theorem csF_mk {K : PySem.W.Frag} {x : Str} {i : Int} {t : Nat} (a : PySem.W.nsIn K mainGlobals x = some (some (.int i t))) : CsF K x i := ⟨t, a⟩
theorem tpF_mk {K : PySem.W.Frag} {a : Addr} {xs : List V} {o : Obj} {its : Array Value} {n : Nat} (h1 : K.lookup a = some o) (h2 : o.cls = .type "tuple") (h3 : o.data = .seq its n) (h4 : its.size ≤ sizeLine) (h5 : Vals xs its.toList) : TpF K a xs := ⟨o, its, n, h1, h2, h3, h4, h5⟩
theorem tiF_mk {K : PySem.W.Frag} {x : Str} {l : List Int} {a : Addr} (h : PySem.W.nsIn K mainGlobals x = some (some (.ref a))) (t : TpF K a (l.map V.int)) : TiF K x l := ⟨a, h, t⟩
theorem taF_mk {K : PySem.W.Frag} {a : Addr} {o : Obj} {its : Array Value} {n : Nat} (h : PySem.W.nsIn K mainGlobals "TAKEN" = some (some (.ref a))) (h1 : K.lookup a = some o) (h2 : o.cls = .type "tuple") (h3 : o.data = .seq its n) (h4 : its.size ≤ sizeLine) (h5 : TkF K its.toList [(1, 1), (1, 0), (0, 1), (1, 2), (1, 3), (1, 4), (2, 1), (3, 1), (4, 1)]) : TaF K := ⟨a, h, o, its, n, h1, h2, h3, h4, h5⟩
theorem tk1_mk {K : PySem.W.Frag} {p : Addr} {i j : Nat} (t : TpF K p [.int i, .int j]) : ∃ q : Addr, Value.ref p = Value.ref q ∧ TpF K q [.int i, .int j] := ⟨p, rfl, t⟩
theorem relRef (a : Addr) : RelV (.ref a) (.ref a) := rfl
section
variable {K : PySem.W.Frag} {h : Heap} {mg : Str → Option Value}
theorem cs_of (X : K.In h) (G : h.Ns mainGlobals mg) {x : Str} {i : Int} (c : CsF K x i) : ∃ u, mg x = some u ∧ RelV (.int i) u := let ⟨t, e⟩ := c; ⟨_, PySem.W.mg_of X G e, t, rfl⟩
theorem tp_of {a : Addr} {xs : List V} (t : TpF K a xs) (H : Hp) : SqT K H a xs := let ⟨o, its, n, h1, h2, h3, h4, h5⟩ := t; .inr ⟨o, its, n, h1, h2, h3, h4, h5⟩
theorem ti_of (X : K.In h) (G : h.Ns mainGlobals mg) {x : Str} {l : List Int} (c : TiF K x l) : ∃ a : Addr, (∃ u, mg x = some u ∧ RelV (.ref a) u) ∧ ∀ H : Hp, SqT K H a (l.map V.int) := let ⟨a, e, t⟩ := c; ⟨a, ⟨_, PySem.W.mg_of X G e, rfl⟩, tp_of t⟩
end
theorem all_mk {P : Program} {w : World} {K : PySem.W.Frag} {h : Heap} {mg : Str → Option Value} {fa : Addr} {CNote CCosts CAhead CBeside CFamily CDesk : Addr} (X : K.In h) (G : h.Ns mainGlobals mg) (hfa : mg "answers" = some (.ref fa))
    (a_Note : PySem.W.nsIn K mainGlobals "Note" = some (some (.ref CNote)))
    (a_Costs : PySem.W.nsIn K mainGlobals "Costs" = some (some (.ref CCosts)))
    (a_Ahead : PySem.W.nsIn K mainGlobals "Ahead" = some (some (.ref CAhead)))
    (a_Beside : PySem.W.nsIn K mainGlobals "Beside" = some (some (.ref CBeside)))
    (a_Family : PySem.W.nsIn K mainGlobals "Family" = some (some (.ref CFamily)))
    (a_Desk : PySem.W.nsIn K mainGlobals "Desk" = some (some (.ref CDesk)))
    (k_Note : ClF K CNote)
    (k_Costs : ClF K CCosts)
    (k_Ahead : ClF K CAhead)
    (k_Beside : ClF K CBeside)
    (k_Family : ClF K CFamily)
    (k_Desk : ClF K CDesk)
    (n_Note_key : PySem.W.findIn K (.ref CNote) "key" = some none)
    (n_Note_long : PySem.W.findIn K (.ref CNote) "long" = some none)
    (n_Costs_key : PySem.W.findIn K (.ref CCosts) "key" = some none)
    (n_Costs_rest : PySem.W.findIn K (.ref CCosts) "rest" = some none)
    (n_Costs_long : PySem.W.findIn K (.ref CCosts) "long" = some none)
    (n_Costs_gap : PySem.W.findIn K (.ref CCosts) "gap" = some none)
    (n_Costs_more : PySem.W.findIn K (.ref CCosts) "more" = some none)
    (n_Ahead_least : PySem.W.findIn K (.ref CAhead) "least" = some none)
    (n_Ahead_many : PySem.W.findIn K (.ref CAhead) "many" = some none)
    (n_Ahead_step : PySem.W.findIn K (.ref CAhead) "step" = some none)
    (n_Beside_costs : PySem.W.findIn K (.ref CBeside) "costs" = some none)
    (n_Beside_one : PySem.W.findIn K (.ref CBeside) "one" = some none)
    (n_Beside_other : PySem.W.findIn K (.ref CBeside) "other" = some none)
    (n_Beside_key_costs : PySem.W.findIn K (.ref CBeside) "key_costs" = some none)
    (n_Family_costs : PySem.W.findIn K (.ref CFamily) "costs" = some none)
    (n_Family_tunes : PySem.W.findIn K (.ref CFamily) "tunes" = some none)
    (n_Family_known : PySem.W.findIn K (.ref CFamily) "known" = some none)
    (n_Desk_family : PySem.W.findIn K (.ref CDesk) "family" = some none)
    (g_Note_init : MtF K CNote "__init__" "Note.__init__" sNote_init)
    (g_Note_moved : MtF K CNote "moved" "Note.moved" sNote_moved)
    (g_Costs_apart : MtF K CCosts "apart" "Costs.apart" sCosts_apart)
    (g_pairs_of : FnF K "pairs_of" s_pairs_of)
    (g_is_note : FnF K "is_note" s_is_note)
    (g_is_tune : FnF K "is_tune" s_is_tune)
    (g_note_of : FnF K "note_of" s_note_of)
    (g_tune_of : FnF K "tune_of" s_tune_of)
    (g_moved : FnF K "moved" s_moved)
    (g_Costs_init : MtF K CCosts "__init__" "Costs.__init__" sCosts_init)
    (g_Ahead_init : MtF K CAhead "__init__" "Ahead.__init__" sAhead_init)
    (g_counted : FnF K "counted" s_counted)
    (g_Beside_init : MtF K CBeside "__init__" "Beside.__init__" sBeside_init)
    (g_Beside_has_room : MtF K CBeside "has_room" "Beside.has_room" sBeside_has_room)
    (g_Beside_both_cost : MtF K CBeside "both_cost" "Beside.both_cost" sBeside_both_cost)
    (g_Beside_step_cost : MtF K CBeside "step_cost" "Beside.step_cost" sBeside_step_cost)
    (g_Beside_steps_at : MtF K CBeside "steps_at" "Beside.steps_at" sBeside_steps_at)
    (g_Beside_ahead_of : MtF K CBeside "ahead_of" "Beside.ahead_of" sBeside_ahead_of)
    (g_Beside_all_ahead : MtF K CBeside "all_ahead" "Beside.all_ahead" sBeside_all_ahead)
    (g_Beside_least_cost : MtF K CBeside "least_cost" "Beside.least_cost" sBeside_least_cost)
    (g_Beside_best : MtF K CBeside "best" "Beside.best" sBeside_best)
    (g_Beside_cost_of : MtF K CBeside "cost_of" "Beside.cost_of" sBeside_cost_of)
    (g_shifts : FnF K "shifts" s_shifts)
    (g_Family_init : MtF K CFamily "__init__" "Family.__init__" sFamily_init)
    (g_Family_put : MtF K CFamily "put" "Family.put" sFamily_put)
    (g_Family_drop : MtF K CFamily "drop" "Family.drop" sFamily_drop)
    (g_Family_has : MtF K CFamily "has" "Family.has" sFamily_has)
    (g_Family_beside : MtF K CFamily "beside" "Family.beside" sFamily_beside)
    (g_first_family : FnF K "first_family" s_first_family)
    (g_Family_far : MtF K CFamily "far" "Family.far" sFamily_far)
    (g_Family_shift : MtF K CFamily "shift" "Family.shift" sFamily_shift)
    (g_Family_next_pair : MtF K CFamily "next_pair" "Family.next_pair" sFamily_next_pair)
    (g_Family_tree : MtF K CFamily "tree" "Family.tree" sFamily_tree)
    (g_Desk_init : MtF K CDesk "__init__" "Desk.__init__" sDesk_init)
    (g_Desk_begins : MtF K CDesk "begins" "Desk.begins" sDesk_begins)
    (g_Desk_tune : MtF K CDesk "tune" "Desk.tune" sDesk_tune)
    (g_Desk_drop : MtF K CDesk "drop" "Desk.drop" sDesk_drop)
    (g_Desk_best : MtF K CDesk "best" "Desk.best" sDesk_best)
    (g_Desk_cost : MtF K CDesk "cost" "Desk.cost" sDesk_cost)
    (g_Desk_shift : MtF K CDesk "shift" "Desk.shift" sDesk_shift)
    (g_Desk_all_far : MtF K CDesk "all_far" "Desk.all_far" sDesk_all_far)
    (g_Desk_tree : MtF K CDesk "tree" "Desk.tree" sDesk_tree)
    (g_Desk_of_tunes : MtF K CDesk "of_tunes" "Desk.of_tunes" sDesk_of_tunes)
    (g_Desk_answered : MtF K CDesk "answered" "Desk.answered" sDesk_answered)
    (g_call_at : FnF K "call_at" s_call_at)
    (g_answers : FnF K "answers" s_answers)
    (i_MOST_KEY : CsF K "MOST_KEY" 127)
    (i_MOST_LONG : CsF K "MOST_LONG" 1000)
    (i_MOST_NOTES : CsF K "MOST_NOTES" 24)
    (i_REST : CsF K "REST" (-1))
    (i_FIRST_ALONE : CsF K "FIRST_ALONE" 1)
    (i_SECOND_ALONE : CsF K "SECOND_ALONE" 2)
    (i_FARTHEST : CsF K "FARTHEST" 24)
    (i_WRONG : CsF K "WRONG" (-1))
    (i_NO_TUNE : CsF K "NO_TUNE" (-2))
    (i_NO_WAY : CsF K "NO_WAY" (-3))
    (i_FULL : CsF K "FULL" (-5))
    (i_MOST_COST : CsF K "MOST_COST" 10000)
    (i_MOST_TUNES : CsF K "MOST_TUNES" 8)
    (t_NUMBERS : TiF K "NUMBERS" [5, 0, 1, 2, 2, 2, 0, 1])
    (t_WITH_ROW : TiF K "WITH_ROW" [1, 4])
    (t_TAKEN : TaF K)
    (z_len : PySem.W.nsIn K mainGlobals "len" = some none)
    (z_any : PySem.W.nsIn K mainGlobals "any" = some none)
    (z_all : PySem.W.nsIn K mainGlobals "all" = some none)
    (z_sum : PySem.W.nsIn K mainGlobals "sum" = some none)
    (z_min : PySem.W.nsIn K mainGlobals "min" = some none)
    (z_max : PySem.W.nsIn K mainGlobals "max" = some none)
    (z_abs : PySem.W.nsIn K mainGlobals "abs" = some none)
    (z_list : PySem.W.nsIn K mainGlobals "list" = some none)
    (z_zip : PySem.W.nsIn K mainGlobals "zip" = some none)
    (z_enumerate : PySem.W.nsIn K mainGlobals "enumerate" = some none)
    (z_range : PySem.W.nsIn K mainGlobals "range" = some none) :
    ∃ fd : FuncData, (∀ (s : Shared) (us : List Value), us.length = (["calls"] : List Str).length → BindsTo s fd ⟨us, []⟩ ((["calls"] : List Str).zip us)) ∧ ∀ base : Heap, K.In base → base.Ns mainGlobals mg → FnOk P w K mg base CX0 13 fa fd ["calls"] (spAns K) := by
  obtain ⟨f_Note_init, d_Note_init, a_Note_init, i_Note_init, F_Note_init⟩ := g_Note_init
  obtain ⟨f_Note_moved, d_Note_moved, a_Note_moved, i_Note_moved, F_Note_moved⟩ := g_Note_moved
  obtain ⟨f_Costs_apart, d_Costs_apart, a_Costs_apart, i_Costs_apart, F_Costs_apart⟩ := g_Costs_apart
  obtain ⟨f_pairs_of, d_pairs_of, a_pairs_of, F_pairs_of⟩ := g_pairs_of
  obtain ⟨f_is_note, d_is_note, a_is_note, F_is_note⟩ := g_is_note
  obtain ⟨f_is_tune, d_is_tune, a_is_tune, F_is_tune⟩ := g_is_tune
  obtain ⟨f_note_of, d_note_of, a_note_of, F_note_of⟩ := g_note_of
  obtain ⟨f_tune_of, d_tune_of, a_tune_of, F_tune_of⟩ := g_tune_of
  obtain ⟨f_moved, d_moved, a_moved, F_moved⟩ := g_moved
  obtain ⟨f_Costs_init, d_Costs_init, a_Costs_init, i_Costs_init, F_Costs_init⟩ := g_Costs_init
  obtain ⟨f_Ahead_init, d_Ahead_init, a_Ahead_init, i_Ahead_init, F_Ahead_init⟩ := g_Ahead_init
  obtain ⟨f_counted, d_counted, a_counted, F_counted⟩ := g_counted
  obtain ⟨f_Beside_init, d_Beside_init, a_Beside_init, i_Beside_init, F_Beside_init⟩ := g_Beside_init
  obtain ⟨f_Beside_has_room, d_Beside_has_room, a_Beside_has_room, i_Beside_has_room, F_Beside_has_room⟩ := g_Beside_has_room
  obtain ⟨f_Beside_both_cost, d_Beside_both_cost, a_Beside_both_cost, i_Beside_both_cost, F_Beside_both_cost⟩ := g_Beside_both_cost
  obtain ⟨f_Beside_step_cost, d_Beside_step_cost, a_Beside_step_cost, i_Beside_step_cost, F_Beside_step_cost⟩ := g_Beside_step_cost
  obtain ⟨f_Beside_steps_at, d_Beside_steps_at, a_Beside_steps_at, i_Beside_steps_at, F_Beside_steps_at⟩ := g_Beside_steps_at
  obtain ⟨f_Beside_ahead_of, d_Beside_ahead_of, a_Beside_ahead_of, i_Beside_ahead_of, F_Beside_ahead_of⟩ := g_Beside_ahead_of
  obtain ⟨f_Beside_all_ahead, d_Beside_all_ahead, a_Beside_all_ahead, i_Beside_all_ahead, F_Beside_all_ahead⟩ := g_Beside_all_ahead
  obtain ⟨f_Beside_least_cost, d_Beside_least_cost, a_Beside_least_cost, i_Beside_least_cost, F_Beside_least_cost⟩ := g_Beside_least_cost
  obtain ⟨f_Beside_best, d_Beside_best, a_Beside_best, i_Beside_best, F_Beside_best⟩ := g_Beside_best
  obtain ⟨f_Beside_cost_of, d_Beside_cost_of, a_Beside_cost_of, i_Beside_cost_of, F_Beside_cost_of⟩ := g_Beside_cost_of
  obtain ⟨f_shifts, d_shifts, a_shifts, F_shifts⟩ := g_shifts
  obtain ⟨f_Family_init, d_Family_init, a_Family_init, i_Family_init, F_Family_init⟩ := g_Family_init
  obtain ⟨f_Family_put, d_Family_put, a_Family_put, i_Family_put, F_Family_put⟩ := g_Family_put
  obtain ⟨f_Family_drop, d_Family_drop, a_Family_drop, i_Family_drop, F_Family_drop⟩ := g_Family_drop
  obtain ⟨f_Family_has, d_Family_has, a_Family_has, i_Family_has, F_Family_has⟩ := g_Family_has
  obtain ⟨f_Family_beside, d_Family_beside, a_Family_beside, i_Family_beside, F_Family_beside⟩ := g_Family_beside
  obtain ⟨f_first_family, d_first_family, a_first_family, F_first_family⟩ := g_first_family
  obtain ⟨f_Family_far, d_Family_far, a_Family_far, i_Family_far, F_Family_far⟩ := g_Family_far
  obtain ⟨f_Family_shift, d_Family_shift, a_Family_shift, i_Family_shift, F_Family_shift⟩ := g_Family_shift
  obtain ⟨f_Family_next_pair, d_Family_next_pair, a_Family_next_pair, i_Family_next_pair, F_Family_next_pair⟩ := g_Family_next_pair
  obtain ⟨f_Family_tree, d_Family_tree, a_Family_tree, i_Family_tree, F_Family_tree⟩ := g_Family_tree
  obtain ⟨f_Desk_init, d_Desk_init, a_Desk_init, i_Desk_init, F_Desk_init⟩ := g_Desk_init
  obtain ⟨f_Desk_begins, d_Desk_begins, a_Desk_begins, i_Desk_begins, F_Desk_begins⟩ := g_Desk_begins
  obtain ⟨f_Desk_tune, d_Desk_tune, a_Desk_tune, i_Desk_tune, F_Desk_tune⟩ := g_Desk_tune
  obtain ⟨f_Desk_drop, d_Desk_drop, a_Desk_drop, i_Desk_drop, F_Desk_drop⟩ := g_Desk_drop
  obtain ⟨f_Desk_best, d_Desk_best, a_Desk_best, i_Desk_best, F_Desk_best⟩ := g_Desk_best
  obtain ⟨f_Desk_cost, d_Desk_cost, a_Desk_cost, i_Desk_cost, F_Desk_cost⟩ := g_Desk_cost
  obtain ⟨f_Desk_shift, d_Desk_shift, a_Desk_shift, i_Desk_shift, F_Desk_shift⟩ := g_Desk_shift
  obtain ⟨f_Desk_all_far, d_Desk_all_far, a_Desk_all_far, i_Desk_all_far, F_Desk_all_far⟩ := g_Desk_all_far
  obtain ⟨f_Desk_tree, d_Desk_tree, a_Desk_tree, i_Desk_tree, F_Desk_tree⟩ := g_Desk_tree
  obtain ⟨f_Desk_of_tunes, d_Desk_of_tunes, a_Desk_of_tunes, i_Desk_of_tunes, F_Desk_of_tunes⟩ := g_Desk_of_tunes
  obtain ⟨f_Desk_answered, d_Desk_answered, a_Desk_answered, i_Desk_answered, F_Desk_answered⟩ := g_Desk_answered
  obtain ⟨f_call_at, d_call_at, a_call_at, F_call_at⟩ := g_call_at
  obtain ⟨f_answers, d_answers, a_answers, F_answers⟩ := g_answers
  obtain ⟨aT, aTe, oT, iT, nT, lT, cT, dT, zT, kT⟩ := t_TAKEN
  obtain ⟨psT, vT, aTp⟩ := refs_ofK kT
  have T : Txt K mg ⟨CNote, CCosts, CAhead, CBeside, CFamily, CDesk⟩ :=
    { cl_Note := k_Note.1,
      cl_Costs := k_Costs.1,
      cl_Ahead := k_Ahead.1,
      cl_Beside := k_Beside.1,
      cl_Family := k_Family.1,
      cl_Desk := k_Desk.1,
      n_Note_key := n_Note_key,
      n_Note_long := n_Note_long,
      n_Costs_key := n_Costs_key,
      n_Costs_rest := n_Costs_rest,
      n_Costs_long := n_Costs_long,
      n_Costs_gap := n_Costs_gap,
      n_Costs_more := n_Costs_more,
      n_Ahead_least := n_Ahead_least,
      n_Ahead_many := n_Ahead_many,
      n_Ahead_step := n_Ahead_step,
      n_Beside_costs := n_Beside_costs,
      n_Beside_one := n_Beside_one,
      n_Beside_other := n_Beside_other,
      n_Beside_key_costs := n_Beside_key_costs,
      n_Family_costs := n_Family_costs,
      n_Family_tunes := n_Family_tunes,
      n_Family_known := n_Family_known,
      n_Desk_family := n_Desk_family,
      c_MOST_KEY := cs_of X G i_MOST_KEY,
      c_MOST_LONG := cs_of X G i_MOST_LONG,
      c_MOST_NOTES := cs_of X G i_MOST_NOTES,
      c_REST := cs_of X G i_REST,
      c_FIRST_ALONE := cs_of X G i_FIRST_ALONE,
      c_SECOND_ALONE := cs_of X G i_SECOND_ALONE,
      c_FARTHEST := cs_of X G i_FARTHEST,
      c_WRONG := cs_of X G i_WRONG,
      c_NO_TUNE := cs_of X G i_NO_TUNE,
      c_NO_WAY := cs_of X G i_NO_WAY,
      c_FULL := cs_of X G i_FULL,
      c_MOST_COST := cs_of X G i_MOST_COST,
      c_MOST_TUNES := cs_of X G i_MOST_TUNES,
      c_TAKEN := ⟨aT, psT, ⟨_, PySem.W.mg_of X G aTe, rfl⟩, tp_of ⟨oT, iT, nT, lT, cT, dT, zT, vT⟩, fun H => paired_imp (fun _ _ t => tp_of t H) aTp⟩,
      c_NUMBERS := ti_of X G t_NUMBERS,
      c_WITH_ROW := ti_of X G t_WITH_ROW,
      b_len := PySem.W.mg_none_of X G z_len,
      b_any := PySem.W.mg_none_of X G z_any,
      b_all := PySem.W.mg_none_of X G z_all,
      b_sum := PySem.W.mg_none_of X G z_sum,
      b_min := PySem.W.mg_none_of X G z_min,
      b_max := PySem.W.mg_none_of X G z_max,
      b_abs := PySem.W.mg_none_of X G z_abs,
      b_list := PySem.W.mg_none_of X G z_list,
      b_zip := PySem.W.mg_none_of X G z_zip,
      b_enumerate := PySem.W.mg_none_of X G z_enumerate,
      b_range := PySem.W.mg_none_of X G z_range }
  have e := hfa.symm.trans (PySem.W.mg_of X G a_answers)
  cases e
  have Fx := F_answers.ex
  obtain ⟨oc, od, kV, doc, pm, an, cdv, ct, osl, rfl, lk, hcd⟩ := Fx
  refine ⟨PySem.W.fnOf "answers" "answers" (defArgs s_answers) (defBody s_answers) (defScope s_answers) .none kV doc pm an cdv ct, fun s us hu => match us, hu with | [_], _ => .of_eq rfl, fun base _ _ => ?_⟩
  have M_Note : Kl P w K mg base "Note" CNote 1 ["self", "key", "long"] (spNoteIni (⟨CNote, CCosts, CAhead, CBeside, CFamily, CDesk⟩ : Cs)) := ⟨_, _, ok_Note_init F_Note_init T, ⟨k_Note.2.1, a_Note_init, i_Note_init, k_Note.2.2⟩, PySem.W.mg_of X G a_Note, F_Note_init.binds (ps := ["self", "key", "long"]) fun _ _ _ _ _ _ us hl => match us, hl with | [_, _, _], _ => rfl⟩
  have D_Note_moved : Mt P w K mg base CNote "moved" 3 ["self", "far"] (spNoteMoved (⟨CNote, CCosts, CAhead, CBeside, CFamily, CDesk⟩ : Cs)) := ⟨_, _, ok_Note_moved F_Note_moved T M_Note, ⟨a_Note_moved, i_Note_moved, F_Note_moved.kp⟩, F_Note_moved.binds (ps := ["self", "far"]) fun _ _ _ _ _ _ us hl => match us, hl with | [_, _], _ => rfl⟩
  have D_Costs_apart : Mt P w K mg base CCosts "apart" 1 ["self", "note", "other"] (spApart (⟨CNote, CCosts, CAhead, CBeside, CFamily, CDesk⟩ : Cs)) := ⟨_, _, ok_Costs_apart F_Costs_apart T, ⟨a_Costs_apart, i_Costs_apart, F_Costs_apart.kp⟩, F_Costs_apart.binds (ps := ["self", "note", "other"]) fun _ _ _ _ _ _ us hl => match us, hl with | [_, _, _], _ => rfl⟩
  have D_pairs_of : Df P w K mg base "pairs_of" 1 ["numbers"] (spPairs K) := ⟨_, _, ok_pairs_of F_pairs_of T, PySem.W.mg_of X G a_pairs_of, F_pairs_of.kp, F_pairs_of.binds (ps := ["numbers"]) fun _ _ _ _ _ _ us hl => match us, hl with | [_], _ => rfl⟩
  have D_is_note : Df P w K mg base "is_note" 1 ["key", "long"] spIsNote := ⟨_, _, ok_is_note F_is_note T, PySem.W.mg_of X G a_is_note, F_is_note.kp, F_is_note.binds (ps := ["key", "long"]) fun _ _ _ _ _ _ us hl => match us, hl with | [_, _], _ => rfl⟩
  have D_is_tune : Df P w K mg base "is_tune" 2 ["numbers"] (spIsTune K) := ⟨_, _, ok_is_tune F_is_tune T D_pairs_of D_is_note, PySem.W.mg_of X G a_is_tune, F_is_tune.kp, F_is_tune.binds (ps := ["numbers"]) fun _ _ _ _ _ _ us hl => match us, hl with | [_], _ => rfl⟩
  have D_note_of : Df P w K mg base "note_of" 3 ["key", "long"] (spNoteOf (⟨CNote, CCosts, CAhead, CBeside, CFamily, CDesk⟩ : Cs)) := ⟨_, _, ok_note_of F_note_of T M_Note, PySem.W.mg_of X G a_note_of, F_note_of.kp, F_note_of.binds (ps := ["key", "long"]) fun _ _ _ _ _ _ us hl => match us, hl with | [_, _], _ => rfl⟩
  have D_tune_of : Df P w K mg base "tune_of" 4 ["numbers"] (spTuneOf K (⟨CNote, CCosts, CAhead, CBeside, CFamily, CDesk⟩ : Cs)) := ⟨_, _, ok_tune_of F_tune_of T D_pairs_of D_note_of, PySem.W.mg_of X G a_tune_of, F_tune_of.kp, F_tune_of.binds (ps := ["numbers"]) fun _ _ _ _ _ _ us hl => match us, hl with | [_], _ => rfl⟩
  have D_moved : Df P w K mg base "moved" 4 ["tune", "far"] (spMoved (⟨CNote, CCosts, CAhead, CBeside, CFamily, CDesk⟩ : Cs)) := ⟨_, _, ok_moved F_moved T D_Note_moved, PySem.W.mg_of X G a_moved, F_moved.kp, F_moved.binds (ps := ["tune", "far"]) fun _ _ _ _ _ _ us hl => match us, hl with | [_, _], _ => rfl⟩
  have M_Costs : Kl P w K mg base "Costs" CCosts 1 ["self", "key", "rest", "long", "gap", "more"] (spCostsIni (⟨CNote, CCosts, CAhead, CBeside, CFamily, CDesk⟩ : Cs)) := ⟨_, _, ok_Costs_init F_Costs_init T, ⟨k_Costs.2.1, a_Costs_init, i_Costs_init, k_Costs.2.2⟩, PySem.W.mg_of X G a_Costs, F_Costs_init.binds (ps := ["self", "key", "rest", "long", "gap", "more"]) fun _ _ _ _ _ _ us hl => match us, hl with | [_, _, _, _, _, _], _ => rfl⟩
  have M_Ahead : Kl P w K mg base "Ahead" CAhead 1 ["self", "least", "many", "step"] (spAheadIni (⟨CNote, CCosts, CAhead, CBeside, CFamily, CDesk⟩ : Cs)) := ⟨_, _, ok_Ahead_init F_Ahead_init T, ⟨k_Ahead.2.1, a_Ahead_init, i_Ahead_init, k_Ahead.2.2⟩, PySem.W.mg_of X G a_Ahead, F_Ahead_init.binds (ps := ["self", "least", "many", "step"]) fun _ _ _ _ _ _ us hl => match us, hl with | [_, _, _, _], _ => rfl⟩
  have D_counted : Df P w K mg base "counted" 1 ["row"] (spCounted K) := ⟨_, _, ok_counted F_counted T, PySem.W.mg_of X G a_counted, F_counted.kp, F_counted.binds (ps := ["row"]) fun _ _ _ _ _ _ us hl => match us, hl with | [_], _ => rfl⟩
  have M_Beside : Kl P w K mg base "Beside" CBeside 2 ["self", "costs", "one", "other"] (spBesideIni (⟨CNote, CCosts, CAhead, CBeside, CFamily, CDesk⟩ : Cs)) := ⟨_, _, ok_Beside_init F_Beside_init T D_Costs_apart, ⟨k_Beside.2.1, a_Beside_init, i_Beside_init, k_Beside.2.2⟩, PySem.W.mg_of X G a_Beside, F_Beside_init.binds (ps := ["self", "costs", "one", "other"]) fun _ _ _ _ _ _ us hl => match us, hl with | [_, _, _, _], _ => rfl⟩
  have D_Beside_has_room : Mt P w K mg base CBeside "has_room" 1 ["self", "step", "a", "b"] (spRoom (⟨CNote, CCosts, CAhead, CBeside, CFamily, CDesk⟩ : Cs)) := ⟨_, _, ok_Beside_has_room F_Beside_has_room T, ⟨a_Beside_has_room, i_Beside_has_room, F_Beside_has_room.kp⟩, F_Beside_has_room.binds (ps := ["self", "step", "a", "b"]) fun _ _ _ _ _ _ us hl => match us, hl with | [_, _, _, _], _ => rfl⟩
  have D_Beside_both_cost : Mt P w K mg base CBeside "both_cost" 1 ["self", "a", "b", "take", "taken"] (spBoth (⟨CNote, CCosts, CAhead, CBeside, CFamily, CDesk⟩ : Cs)) := ⟨_, _, ok_Beside_both_cost F_Beside_both_cost T, ⟨a_Beside_both_cost, i_Beside_both_cost, F_Beside_both_cost.kp⟩, F_Beside_both_cost.binds (ps := ["self", "a", "b", "take", "taken"]) fun _ _ _ _ _ _ us hl => match us, hl with | [_, _, _, _, _], _ => rfl⟩
  have D_Beside_step_cost : Mt P w K mg base CBeside "step_cost" 2 ["self", "step", "a", "b"] (spStepCost (⟨CNote, CCosts, CAhead, CBeside, CFamily, CDesk⟩ : Cs)) := ⟨_, _, ok_Beside_step_cost F_Beside_step_cost T D_Beside_both_cost, ⟨a_Beside_step_cost, i_Beside_step_cost, F_Beside_step_cost.kp⟩, F_Beside_step_cost.binds (ps := ["self", "step", "a", "b"]) fun _ _ _ _ _ _ us hl => match us, hl with | [_, _, _, _], _ => rfl⟩
  have D_Beside_steps_at : Mt P w K mg base CBeside "steps_at" 3 ["self", "a", "b"] (spStepsAt (⟨CNote, CCosts, CAhead, CBeside, CFamily, CDesk⟩ : Cs)) := ⟨_, _, ok_Beside_steps_at F_Beside_steps_at T D_Beside_has_room D_Beside_step_cost, ⟨a_Beside_steps_at, i_Beside_steps_at, F_Beside_steps_at.kp⟩, F_Beside_steps_at.binds (ps := ["self", "a", "b"]) fun _ _ _ _ _ _ us hl => match us, hl with | [_, _, _], _ => rfl⟩
  have D_Beside_ahead_of : Mt P w K mg base CBeside "ahead_of" 4 ["self", "a", "b", "known"] (spAheadOf (⟨CNote, CCosts, CAhead, CBeside, CFamily, CDesk⟩ : Cs)) := ⟨_, _, ok_Beside_ahead_of F_Beside_ahead_of T D_Beside_steps_at M_Ahead, ⟨a_Beside_ahead_of, i_Beside_ahead_of, F_Beside_ahead_of.kp⟩, F_Beside_ahead_of.binds (ps := ["self", "a", "b", "known"]) fun _ _ _ _ _ _ us hl => match us, hl with | [_, _, _, _], _ => rfl⟩
  have D_Beside_all_ahead : Mt P w K mg base CBeside "all_ahead" 5 ["self"] (spAllAhead (⟨CNote, CCosts, CAhead, CBeside, CFamily, CDesk⟩ : Cs)) := ⟨_, _, ok_Beside_all_ahead F_Beside_all_ahead T D_Beside_ahead_of, ⟨a_Beside_all_ahead, i_Beside_all_ahead, F_Beside_all_ahead.kp⟩, F_Beside_all_ahead.binds (ps := ["self"]) fun _ _ _ _ _ _ us hl => match us, hl with | [_], _ => rfl⟩
  have D_Beside_least_cost : Mt P w K mg base CBeside "least_cost" 6 ["self"] (spLeast (⟨CNote, CCosts, CAhead, CBeside, CFamily, CDesk⟩ : Cs)) := ⟨_, _, ok_Beside_least_cost F_Beside_least_cost T D_Beside_all_ahead, ⟨a_Beside_least_cost, i_Beside_least_cost, F_Beside_least_cost.kp⟩, F_Beside_least_cost.binds (ps := ["self"]) fun _ _ _ _ _ _ us hl => match us, hl with | [_], _ => rfl⟩
  have D_Beside_best : Mt P w K mg base CBeside "best" 6 ["self"] (spBest (⟨CNote, CCosts, CAhead, CBeside, CFamily, CDesk⟩ : Cs)) := ⟨_, _, ok_Beside_best F_Beside_best T D_Beside_all_ahead, ⟨a_Beside_best, i_Beside_best, F_Beside_best.kp⟩, F_Beside_best.binds (ps := ["self"]) fun _ _ _ _ _ _ us hl => match us, hl with | [_], _ => rfl⟩
  have D_Beside_cost_of : Mt P w K mg base CBeside "cost_of" 3 ["self", "steps"] (spCostOf K (⟨CNote, CCosts, CAhead, CBeside, CFamily, CDesk⟩ : Cs)) := ⟨_, _, ok_Beside_cost_of F_Beside_cost_of T D_Beside_has_room D_Beside_step_cost, ⟨a_Beside_cost_of, i_Beside_cost_of, F_Beside_cost_of.kp⟩, F_Beside_cost_of.binds (ps := ["self", "steps"]) fun _ _ _ _ _ _ us hl => match us, hl with | [_, _], _ => rfl⟩
  have D_shifts : Df P w K mg base "shifts" 1 [] spShifts := ⟨_, _, ok_shifts F_shifts T, PySem.W.mg_of X G a_shifts, F_shifts.kp, F_shifts.binds (ps := []) fun _ _ _ _ _ _ us hl => match us, hl with | [], _ => rfl⟩
  have M_Family : Kl P w K mg base "Family" CFamily 1 ["self", "costs"] (spFamilyIni (⟨CNote, CCosts, CAhead, CBeside, CFamily, CDesk⟩ : Cs)) := ⟨_, _, ok_Family_init F_Family_init T, ⟨k_Family.2.1, a_Family_init, i_Family_init, k_Family.2.2⟩, PySem.W.mg_of X G a_Family, F_Family_init.binds (ps := ["self", "costs"]) fun _ _ _ _ _ _ us hl => match us, hl with | [_, _], _ => rfl⟩
  have D_Family_put : Mt P w K mg base CFamily "put" 1 ["self", "tune"] (spPut (⟨CNote, CCosts, CAhead, CBeside, CFamily, CDesk⟩ : Cs)) := ⟨_, _, ok_Family_put F_Family_put T, ⟨a_Family_put, i_Family_put, F_Family_put.kp⟩, F_Family_put.binds (ps := ["self", "tune"]) fun _ _ _ _ _ _ us hl => match us, hl with | [_, _], _ => rfl⟩
  have D_Family_drop : Mt P w K mg base CFamily "drop" 1 ["self", "k"] (spDrop (⟨CNote, CCosts, CAhead, CBeside, CFamily, CDesk⟩ : Cs)) := ⟨_, _, ok_Family_drop F_Family_drop T, ⟨a_Family_drop, i_Family_drop, F_Family_drop.kp⟩, F_Family_drop.binds (ps := ["self", "k"]) fun _ _ _ _ _ _ us hl => match us, hl with | [_, _], _ => rfl⟩
  have D_Family_has : Mt P w K mg base CFamily "has" 1 ["self", "k"] (spHas (⟨CNote, CCosts, CAhead, CBeside, CFamily, CDesk⟩ : Cs)) := ⟨_, _, ok_Family_has F_Family_has T, ⟨a_Family_has, i_Family_has, F_Family_has.kp⟩, F_Family_has.binds (ps := ["self", "k"]) fun _ _ _ _ _ _ us hl => match us, hl with | [_, _], _ => rfl⟩
  have D_Family_beside : Mt P w K mg base CFamily "beside" 4 ["self", "i", "j"] (spFamBeside (⟨CNote, CCosts, CAhead, CBeside, CFamily, CDesk⟩ : Cs)) := ⟨_, _, ok_Family_beside F_Family_beside T M_Beside, ⟨a_Family_beside, i_Family_beside, F_Family_beside.kp⟩, F_Family_beside.binds (ps := ["self", "i", "j"]) fun _ _ _ _ _ _ us hl => match us, hl with | [_, _, _], _ => rfl⟩
  have D_first_family : Df P w K mg base "first_family" 3 [] (spFirstFamily (⟨CNote, CCosts, CAhead, CBeside, CFamily, CDesk⟩ : Cs)) := ⟨_, _, ok_first_family F_first_family T M_Family M_Costs, PySem.W.mg_of X G a_first_family, F_first_family.kp, F_first_family.binds (ps := []) fun _ _ _ _ _ _ us hl => match us, hl with | [], _ => rfl⟩
  have D_Family_far : Mt P w K mg base CFamily "far" 7 ["self", "i", "j"] (spFar (⟨CNote, CCosts, CAhead, CBeside, CFamily, CDesk⟩ : Cs)) := ⟨_, _, ok_Family_far F_Family_far T D_Family_beside D_Beside_least_cost, ⟨a_Family_far, i_Family_far, F_Family_far.kp⟩, F_Family_far.binds (ps := ["self", "i", "j"]) fun _ _ _ _ _ _ us hl => match us, hl with | [_, _, _], _ => rfl⟩
  have D_Family_shift : Mt P w K mg base CFamily "shift" 7 ["self", "i", "j"] (spShift (⟨CNote, CCosts, CAhead, CBeside, CFamily, CDesk⟩ : Cs)) := ⟨_, _, ok_Family_shift F_Family_shift T D_shifts M_Beside D_moved D_Beside_least_cost, ⟨a_Family_shift, i_Family_shift, F_Family_shift.kp⟩, F_Family_shift.binds (ps := ["self", "i", "j"]) fun _ _ _ _ _ _ us hl => match us, hl with | [_, _, _], _ => rfl⟩
  have D_Family_next_pair : Mt P w K mg base CFamily "next_pair" 8 ["self", "inside"] (spNext (⟨CNote, CCosts, CAhead, CBeside, CFamily, CDesk⟩ : Cs)) := ⟨_, _, ok_Family_next_pair F_Family_next_pair T D_Family_far, ⟨a_Family_next_pair, i_Family_next_pair, F_Family_next_pair.kp⟩, F_Family_next_pair.binds (ps := ["self", "inside"]) fun _ _ _ _ _ _ us hl => match us, hl with | [_, _], _ => rfl⟩
  have D_Family_tree : Mt P w K mg base CFamily "tree" 9 ["self", "root"] (spTree (⟨CNote, CCosts, CAhead, CBeside, CFamily, CDesk⟩ : Cs)) := ⟨_, _, ok_Family_tree F_Family_tree T D_Family_next_pair, ⟨a_Family_tree, i_Family_tree, F_Family_tree.kp⟩, F_Family_tree.binds (ps := ["self", "root"]) fun _ _ _ _ _ _ us hl => match us, hl with | [_, _], _ => rfl⟩
  have M_Desk : Kl P w K mg base "Desk" CDesk 4 ["self"] (spDeskIni (⟨CNote, CCosts, CAhead, CBeside, CFamily, CDesk⟩ : Cs)) := ⟨_, _, ok_Desk_init F_Desk_init T D_first_family, ⟨k_Desk.2.1, a_Desk_init, i_Desk_init, k_Desk.2.2⟩, PySem.W.mg_of X G a_Desk, F_Desk_init.binds (ps := ["self"]) fun _ _ _ _ _ _ us hl => match us, hl with | [_], _ => rfl⟩
  have D_Desk_begins : Mt P w K mg base CDesk "begins" 3 ["self", "some"] (spBegins K (⟨CNote, CCosts, CAhead, CBeside, CFamily, CDesk⟩ : Cs)) := ⟨_, _, ok_Desk_begins F_Desk_begins T M_Family M_Costs, ⟨a_Desk_begins, i_Desk_begins, F_Desk_begins.kp⟩, F_Desk_begins.binds (ps := ["self", "some"]) fun _ _ _ _ _ _ us hl => match us, hl with | [_, _], _ => rfl⟩
  have D_Desk_tune : Mt P w K mg base CDesk "tune" 5 ["self", "notes"] (spDeskTune K (⟨CNote, CCosts, CAhead, CBeside, CFamily, CDesk⟩ : Cs)) := ⟨_, _, ok_Desk_tune F_Desk_tune T D_is_tune D_Family_put D_tune_of, ⟨a_Desk_tune, i_Desk_tune, F_Desk_tune.kp⟩, F_Desk_tune.binds (ps := ["self", "notes"]) fun _ _ _ _ _ _ us hl => match us, hl with | [_, _], _ => rfl⟩
  have D_Desk_drop : Mt P w K mg base CDesk "drop" 2 ["self", "k"] (spDeskDrop (⟨CNote, CCosts, CAhead, CBeside, CFamily, CDesk⟩ : Cs)) := ⟨_, _, ok_Desk_drop F_Desk_drop T D_Family_drop, ⟨a_Desk_drop, i_Desk_drop, F_Desk_drop.kp⟩, F_Desk_drop.binds (ps := ["self", "k"]) fun _ _ _ _ _ _ us hl => match us, hl with | [_, _], _ => rfl⟩
  have D_Desk_best : Mt P w K mg base CDesk "best" 7 ["self", "i", "j"] (spDeskBest (⟨CNote, CCosts, CAhead, CBeside, CFamily, CDesk⟩ : Cs)) := ⟨_, _, ok_Desk_best F_Desk_best T D_Beside_best D_Family_beside D_counted, ⟨a_Desk_best, i_Desk_best, F_Desk_best.kp⟩, F_Desk_best.binds (ps := ["self", "i", "j"]) fun _ _ _ _ _ _ us hl => match us, hl with | [_, _, _], _ => rfl⟩
  have D_Desk_cost : Mt P w K mg base CDesk "cost" 5 ["self", "i", "j", "steps"] (spDeskCost K (⟨CNote, CCosts, CAhead, CBeside, CFamily, CDesk⟩ : Cs)) := ⟨_, _, ok_Desk_cost F_Desk_cost T D_Beside_cost_of D_Family_beside, ⟨a_Desk_cost, i_Desk_cost, F_Desk_cost.kp⟩, F_Desk_cost.binds (ps := ["self", "i", "j", "steps"]) fun _ _ _ _ _ _ us hl => match us, hl with | [_, _, _, _], _ => rfl⟩
  have D_Desk_shift : Mt P w K mg base CDesk "shift" 8 ["self", "i", "j"] (spDeskShift (⟨CNote, CCosts, CAhead, CBeside, CFamily, CDesk⟩ : Cs)) := ⟨_, _, ok_Desk_shift F_Desk_shift T D_Family_shift D_counted, ⟨a_Desk_shift, i_Desk_shift, F_Desk_shift.kp⟩, F_Desk_shift.binds (ps := ["self", "i", "j"]) fun _ _ _ _ _ _ us hl => match us, hl with | [_, _, _], _ => rfl⟩
  have D_Desk_all_far : Mt P w K mg base CDesk "all_far" 8 ["self"] (spAllFar (⟨CNote, CCosts, CAhead, CBeside, CFamily, CDesk⟩ : Cs)) := ⟨_, _, ok_Desk_all_far F_Desk_all_far T D_Family_far D_counted, ⟨a_Desk_all_far, i_Desk_all_far, F_Desk_all_far.kp⟩, F_Desk_all_far.binds (ps := ["self"]) fun _ _ _ _ _ _ us hl => match us, hl with | [_], _ => rfl⟩
  have D_Desk_tree : Mt P w K mg base CDesk "tree" 10 ["self", "root"] (spDeskTree (⟨CNote, CCosts, CAhead, CBeside, CFamily, CDesk⟩ : Cs)) := ⟨_, _, ok_Desk_tree F_Desk_tree T D_Family_tree D_counted, ⟨a_Desk_tree, i_Desk_tree, F_Desk_tree.kp⟩, F_Desk_tree.binds (ps := ["self", "root"]) fun _ _ _ _ _ _ us hl => match us, hl with | [_, _], _ => rfl⟩
  have D_Desk_of_tunes : Mt P w K mg base CDesk "of_tunes" 11 ["self", "word", "numbers", "row"] (spOfTunes K (⟨CNote, CCosts, CAhead, CBeside, CFamily, CDesk⟩ : Cs)) := ⟨_, _, ok_Desk_of_tunes F_Desk_of_tunes T D_Desk_drop D_Desk_best D_Desk_cost D_Desk_shift D_Desk_tree, ⟨a_Desk_of_tunes, i_Desk_of_tunes, F_Desk_of_tunes.kp⟩, F_Desk_of_tunes.binds (ps := ["self", "word", "numbers", "row"]) fun _ _ _ _ _ _ us hl => match us, hl with | [_, _, _, _], _ => rfl⟩
  have D_Desk_answered : Mt P w K mg base CDesk "answered" 12 ["self", "word", "numbers", "row"] (spAnswered K (⟨CNote, CCosts, CAhead, CBeside, CFamily, CDesk⟩ : Cs)) := ⟨_, _, ok_Desk_answered F_Desk_answered T D_Desk_begins D_Desk_tune D_Desk_all_far D_Family_has D_Desk_of_tunes, ⟨a_Desk_answered, i_Desk_answered, F_Desk_answered.kp⟩, F_Desk_answered.binds (ps := ["self", "word", "numbers", "row"]) fun _ _ _ _ _ _ us hl => match us, hl with | [_, _, _, _], _ => rfl⟩
  have D_call_at : Df P w K mg base "call_at" 1 ["calls", "at"] (spCallAt K) := ⟨_, _, ok_call_at F_call_at T, PySem.W.mg_of X G a_call_at, F_call_at.kp, F_call_at.binds (ps := ["calls", "at"]) fun _ _ _ _ _ _ us hl => match us, hl with | [_, _], _ => rfl⟩
  exact ok_answers F_answers T M_Desk D_call_at D_Desk_answered
end Sk

open PySem PySem.W PyProof.Rows
set_option maxRecDepth 100000 in
set_option maxHeartbeats 0 in
theorem PySem.Challenge.cw_songkin_s01_answers_holds : PySem.Challenge.rw_songkin_s01_answers.Holds := by
  w_on; k_headS; (case hw => exact ⟨[.list [.int 6]], by decide +kernel, by decide +kernel⟩)
  k_fillS
  refine L2.walk_specK (r := PySem.Challenge.rw_songkin_s01_answers) (k := 13) (CX := L2.CX0) (ps := ["calls"]) (sp := Sk.spAns) (by decide +kernel) rfl rfl ⟨rfl, by decide, by decide⟩ (fun w h Y => PySem.W.kIn_of Y) ?F ?S (fun _ _ _ _ z => z)
  case F =>
    intro w mg fa h Y KX G hmg
    refine' Sk.all_mk KX G hmg ?a_Note ?a_Costs ?a_Ahead ?a_Beside ?a_Family ?a_Desk ?k_Note ?k_Costs ?k_Ahead ?k_Beside ?k_Family ?k_Desk ?n_Note_key ?n_Note_long ?n_Costs_key ?n_Costs_rest ?n_Costs_long ?n_Costs_gap ?n_Costs_more ?n_Ahead_least ?n_Ahead_many ?n_Ahead_step ?n_Beside_costs ?n_Beside_one ?n_Beside_other ?n_Beside_key_costs ?n_Family_costs ?n_Family_tunes ?n_Family_known ?n_Desk_family ?g_Note_init ?g_Note_moved ?g_Costs_apart ?g_pairs_of ?g_is_note ?g_is_tune ?g_note_of ?g_tune_of ?g_moved ?g_Costs_init ?g_Ahead_init ?g_counted ?g_Beside_init ?g_Beside_has_room ?g_Beside_both_cost ?g_Beside_step_cost ?g_Beside_steps_at ?g_Beside_ahead_of ?g_Beside_all_ahead ?g_Beside_least_cost ?g_Beside_best ?g_Beside_cost_of ?g_shifts ?g_Family_init ?g_Family_put ?g_Family_drop ?g_Family_has ?g_Family_beside ?g_first_family ?g_Family_far ?g_Family_shift ?g_Family_next_pair ?g_Family_tree ?g_Desk_init ?g_Desk_begins ?g_Desk_tune ?g_Desk_drop ?g_Desk_best ?g_Desk_cost ?g_Desk_shift ?g_Desk_all_far ?g_Desk_tree ?g_Desk_of_tunes ?g_Desk_answered ?g_call_at ?g_answers ?i_MOST_KEY ?i_MOST_LONG ?i_MOST_NOTES ?i_REST ?i_FIRST_ALONE ?i_SECOND_ALONE ?i_FARTHEST ?i_WRONG ?i_NO_TUNE ?i_NO_WAY ?i_FULL ?i_MOST_COST ?i_MOST_TUNES ?t_NUMBERS ?t_WITH_ROW ?t_TAKEN ?z_len ?z_any ?z_all ?z_sum ?z_min ?z_max ?z_abs ?z_list ?z_zip ?z_enumerate ?z_range
    (case a_Note => k_is)
    (case a_Costs => k_is)
    (case a_Ahead => k_is)
    (case a_Beside => k_is)
    (case a_Family => k_is)
    (case a_Desk => k_is)
    (case k_Note => refine' ⟨⟨?pg1, ?hd1, ?po1, ?sa1⟩, ?mk1, ?kc1⟩; (case pg1 => k_is); (case hd1 => k_is); (case po1 => k_is); (case sa1 => k_is); (case mk1 => k_is); (case kc1 => k_is))
    (case k_Costs => refine' ⟨⟨?pg2, ?hd2, ?po2, ?sa2⟩, ?mk2, ?kc2⟩; (case pg2 => k_is); (case hd2 => k_is); (case po2 => k_is); (case sa2 => k_is); (case mk2 => k_is); (case kc2 => k_is))
    (case k_Ahead => refine' ⟨⟨?pg3, ?hd3, ?po3, ?sa3⟩, ?mk3, ?kc3⟩; (case pg3 => k_is); (case hd3 => k_is); (case po3 => k_is); (case sa3 => k_is); (case mk3 => k_is); (case kc3 => k_is))
    (case k_Beside => refine' ⟨⟨?pg4, ?hd4, ?po4, ?sa4⟩, ?mk4, ?kc4⟩; (case pg4 => k_is); (case hd4 => k_is); (case po4 => k_is); (case sa4 => k_is); (case mk4 => k_is); (case kc4 => k_is))
    (case k_Family => refine' ⟨⟨?pg5, ?hd5, ?po5, ?sa5⟩, ?mk5, ?kc5⟩; (case pg5 => k_is); (case hd5 => k_is); (case po5 => k_is); (case sa5 => k_is); (case mk5 => k_is); (case kc5 => k_is))
    (case k_Desk => refine' ⟨⟨?pg6, ?hd6, ?po6, ?sa6⟩, ?mk6, ?kc6⟩; (case pg6 => k_is); (case hd6 => k_is); (case po6 => k_is); (case sa6 => k_is); (case mk6 => k_is); (case kc6 => k_is))
    (case n_Note_key => k_is)
    (case n_Note_long => k_is)
    (case n_Costs_key => k_is)
    (case n_Costs_rest => k_is)
    (case n_Costs_long => k_is)
    (case n_Costs_gap => k_is)
    (case n_Costs_more => k_is)
    (case n_Ahead_least => k_is)
    (case n_Ahead_many => k_is)
    (case n_Ahead_step => k_is)
    (case n_Beside_costs => k_is)
    (case n_Beside_one => k_is)
    (case n_Beside_other => k_is)
    (case n_Beside_key_costs => k_is)
    (case n_Family_costs => k_is)
    (case n_Family_tunes => k_is)
    (case n_Family_known => k_is)
    (case n_Desk_family => k_is)
    (case g_Note_init => refine' Sk.mtF_mk ?a7 ?i7 (L2.fun_mk ?l7 ?c7 ?k7); (case a7 => k_is); (case i7 => k_is); (case l7 => k_is); (case c7 => k_is); (case k7 => k_is))
    (case g_Note_moved => refine' Sk.mtF_mk ?a8 ?i8 (L2.fun_mk ?l8 ?c8 ?k8); (case a8 => k_is); (case i8 => k_is); (case l8 => k_is); (case c8 => k_is); (case k8 => k_is))
    (case g_Costs_apart => refine' Sk.mtF_mk ?a9 ?i9 (L2.fun_mk ?l9 ?c9 ?k9); (case a9 => k_is); (case i9 => k_is); (case l9 => k_is); (case c9 => k_is); (case k9 => k_is))
    (case g_pairs_of => refine' Sk.fnF_mk ?a10 (L2.fun_mk ?l10 ?c10 ?k10); (case a10 => k_is); (case l10 => k_is); (case c10 => k_is); (case k10 => k_is))
    (case g_is_note => refine' Sk.fnF_mk ?a11 (L2.fun_mk ?l11 ?c11 ?k11); (case a11 => k_is); (case l11 => k_is); (case c11 => k_is); (case k11 => k_is))
    (case g_is_tune => refine' Sk.fnF_mk ?a12 (L2.fun_mk ?l12 ?c12 ?k12); (case a12 => k_is); (case l12 => k_is); (case c12 => k_is); (case k12 => k_is))
    (case g_note_of => refine' Sk.fnF_mk ?a13 (L2.fun_mk ?l13 ?c13 ?k13); (case a13 => k_is); (case l13 => k_is); (case c13 => k_is); (case k13 => k_is))
    (case g_tune_of => refine' Sk.fnF_mk ?a14 (L2.fun_mk ?l14 ?c14 ?k14); (case a14 => k_is); (case l14 => k_is); (case c14 => k_is); (case k14 => k_is))
    (case g_moved => refine' Sk.fnF_mk ?a15 (L2.fun_mk ?l15 ?c15 ?k15); (case a15 => k_is); (case l15 => k_is); (case c15 => k_is); (case k15 => k_is))
    (case g_Costs_init => refine' Sk.mtF_mk ?a16 ?i16 (L2.fun_mk ?l16 ?c16 ?k16); (case a16 => k_is); (case i16 => k_is); (case l16 => k_is); (case c16 => k_is); (case k16 => k_is))
    (case g_Ahead_init => refine' Sk.mtF_mk ?a17 ?i17 (L2.fun_mk ?l17 ?c17 ?k17); (case a17 => k_is); (case i17 => k_is); (case l17 => k_is); (case c17 => k_is); (case k17 => k_is))
    (case g_counted => refine' Sk.fnF_mk ?a18 (L2.fun_mk ?l18 ?c18 ?k18); (case a18 => k_is); (case l18 => k_is); (case c18 => k_is); (case k18 => k_is))
    (case g_Beside_init => refine' Sk.mtF_mk ?a19 ?i19 (L2.fun_mk ?l19 ?c19 ?k19); (case a19 => k_is); (case i19 => k_is); (case l19 => k_is); (case c19 => k_is); (case k19 => k_is))
    (case g_Beside_has_room => refine' Sk.mtF_mk ?a20 ?i20 (L2.fun_mk ?l20 ?c20 ?k20); (case a20 => k_is); (case i20 => k_is); (case l20 => k_is); (case c20 => k_is); (case k20 => k_is))
    (case g_Beside_both_cost => refine' Sk.mtF_mk ?a21 ?i21 (L2.fun_mk ?l21 ?c21 ?k21); (case a21 => k_is); (case i21 => k_is); (case l21 => k_is); (case c21 => k_is); (case k21 => k_is))
    (case g_Beside_step_cost => refine' Sk.mtF_mk ?a22 ?i22 (L2.fun_mk ?l22 ?c22 ?k22); (case a22 => k_is); (case i22 => k_is); (case l22 => k_is); (case c22 => k_is); (case k22 => k_is))
    (case g_Beside_steps_at => refine' Sk.mtF_mk ?a23 ?i23 (L2.fun_mk ?l23 ?c23 ?k23); (case a23 => k_is); (case i23 => k_is); (case l23 => k_is); (case c23 => k_is); (case k23 => k_is))
    (case g_Beside_ahead_of => refine' Sk.mtF_mk ?a24 ?i24 (L2.fun_mk ?l24 ?c24 ?k24); (case a24 => k_is); (case i24 => k_is); (case l24 => k_is); (case c24 => k_is); (case k24 => k_is))
    (case g_Beside_all_ahead => refine' Sk.mtF_mk ?a25 ?i25 (L2.fun_mk ?l25 ?c25 ?k25); (case a25 => k_is); (case i25 => k_is); (case l25 => k_is); (case c25 => k_is); (case k25 => k_is))
    (case g_Beside_least_cost => refine' Sk.mtF_mk ?a26 ?i26 (L2.fun_mk ?l26 ?c26 ?k26); (case a26 => k_is); (case i26 => k_is); (case l26 => k_is); (case c26 => k_is); (case k26 => k_is))
    (case g_Beside_best => refine' Sk.mtF_mk ?a27 ?i27 (L2.fun_mk ?l27 ?c27 ?k27); (case a27 => k_is); (case i27 => k_is); (case l27 => k_is); (case c27 => k_is); (case k27 => k_is))
    (case g_Beside_cost_of => refine' Sk.mtF_mk ?a28 ?i28 (L2.fun_mk ?l28 ?c28 ?k28); (case a28 => k_is); (case i28 => k_is); (case l28 => k_is); (case c28 => k_is); (case k28 => k_is))
    (case g_shifts => refine' Sk.fnF_mk ?a29 (L2.fun_mk ?l29 ?c29 ?k29); (case a29 => k_is); (case l29 => k_is); (case c29 => k_is); (case k29 => k_is))
    (case g_Family_init => refine' Sk.mtF_mk ?a30 ?i30 (L2.fun_mk ?l30 ?c30 ?k30); (case a30 => k_is); (case i30 => k_is); (case l30 => k_is); (case c30 => k_is); (case k30 => k_is))
    (case g_Family_put => refine' Sk.mtF_mk ?a31 ?i31 (L2.fun_mk ?l31 ?c31 ?k31); (case a31 => k_is); (case i31 => k_is); (case l31 => k_is); (case c31 => k_is); (case k31 => k_is))
    (case g_Family_drop => refine' Sk.mtF_mk ?a32 ?i32 (L2.fun_mk ?l32 ?c32 ?k32); (case a32 => k_is); (case i32 => k_is); (case l32 => k_is); (case c32 => k_is); (case k32 => k_is))
    (case g_Family_has => refine' Sk.mtF_mk ?a33 ?i33 (L2.fun_mk ?l33 ?c33 ?k33); (case a33 => k_is); (case i33 => k_is); (case l33 => k_is); (case c33 => k_is); (case k33 => k_is))
    (case g_Family_beside => refine' Sk.mtF_mk ?a34 ?i34 (L2.fun_mk ?l34 ?c34 ?k34); (case a34 => k_is); (case i34 => k_is); (case l34 => k_is); (case c34 => k_is); (case k34 => k_is))
    (case g_first_family => refine' Sk.fnF_mk ?a35 (L2.fun_mk ?l35 ?c35 ?k35); (case a35 => k_is); (case l35 => k_is); (case c35 => k_is); (case k35 => k_is))
    (case g_Family_far => refine' Sk.mtF_mk ?a36 ?i36 (L2.fun_mk ?l36 ?c36 ?k36); (case a36 => k_is); (case i36 => k_is); (case l36 => k_is); (case c36 => k_is); (case k36 => k_is))
    (case g_Family_shift => refine' Sk.mtF_mk ?a37 ?i37 (L2.fun_mk ?l37 ?c37 ?k37); (case a37 => k_is); (case i37 => k_is); (case l37 => k_is); (case c37 => k_is); (case k37 => k_is))
    (case g_Family_next_pair => refine' Sk.mtF_mk ?a38 ?i38 (L2.fun_mk ?l38 ?c38 ?k38); (case a38 => k_is); (case i38 => k_is); (case l38 => k_is); (case c38 => k_is); (case k38 => k_is))
    (case g_Family_tree => refine' Sk.mtF_mk ?a39 ?i39 (L2.fun_mk ?l39 ?c39 ?k39); (case a39 => k_is); (case i39 => k_is); (case l39 => k_is); (case c39 => k_is); (case k39 => k_is))
    (case g_Desk_init => refine' Sk.mtF_mk ?a40 ?i40 (L2.fun_mk ?l40 ?c40 ?k40); (case a40 => k_is); (case i40 => k_is); (case l40 => k_is); (case c40 => k_is); (case k40 => k_is))
    (case g_Desk_begins => refine' Sk.mtF_mk ?a41 ?i41 (L2.fun_mk ?l41 ?c41 ?k41); (case a41 => k_is); (case i41 => k_is); (case l41 => k_is); (case c41 => k_is); (case k41 => k_is))
    (case g_Desk_tune => refine' Sk.mtF_mk ?a42 ?i42 (L2.fun_mk ?l42 ?c42 ?k42); (case a42 => k_is); (case i42 => k_is); (case l42 => k_is); (case c42 => k_is); (case k42 => k_is))
    (case g_Desk_drop => refine' Sk.mtF_mk ?a43 ?i43 (L2.fun_mk ?l43 ?c43 ?k43); (case a43 => k_is); (case i43 => k_is); (case l43 => k_is); (case c43 => k_is); (case k43 => k_is))
    (case g_Desk_best => refine' Sk.mtF_mk ?a44 ?i44 (L2.fun_mk ?l44 ?c44 ?k44); (case a44 => k_is); (case i44 => k_is); (case l44 => k_is); (case c44 => k_is); (case k44 => k_is))
    (case g_Desk_cost => refine' Sk.mtF_mk ?a45 ?i45 (L2.fun_mk ?l45 ?c45 ?k45); (case a45 => k_is); (case i45 => k_is); (case l45 => k_is); (case c45 => k_is); (case k45 => k_is))
    (case g_Desk_shift => refine' Sk.mtF_mk ?a46 ?i46 (L2.fun_mk ?l46 ?c46 ?k46); (case a46 => k_is); (case i46 => k_is); (case l46 => k_is); (case c46 => k_is); (case k46 => k_is))
    (case g_Desk_all_far => refine' Sk.mtF_mk ?a47 ?i47 (L2.fun_mk ?l47 ?c47 ?k47); (case a47 => k_is); (case i47 => k_is); (case l47 => k_is); (case c47 => k_is); (case k47 => k_is))
    (case g_Desk_tree => refine' Sk.mtF_mk ?a48 ?i48 (L2.fun_mk ?l48 ?c48 ?k48); (case a48 => k_is); (case i48 => k_is); (case l48 => k_is); (case c48 => k_is); (case k48 => k_is))
    (case g_Desk_of_tunes => refine' Sk.mtF_mk ?a49 ?i49 (L2.fun_mk ?l49 ?c49 ?k49); (case a49 => k_is); (case i49 => k_is); (case l49 => k_is); (case c49 => k_is); (case k49 => k_is))
    (case g_Desk_answered => refine' Sk.mtF_mk ?a50 ?i50 (L2.fun_mk ?l50 ?c50 ?k50); (case a50 => k_is); (case i50 => k_is); (case l50 => k_is); (case c50 => k_is); (case k50 => k_is))
    (case g_call_at => refine' Sk.fnF_mk ?a51 (L2.fun_mk ?l51 ?c51 ?k51); (case a51 => k_is); (case l51 => k_is); (case c51 => k_is); (case k51 => k_is))
    (case g_answers => refine' Sk.fnF_mk ?a52 (L2.fun_mk ?l52 ?c52 ?k52); (case a52 => k_is); (case l52 => k_is); (case c52 => k_is); (case k52 => k_is))
    (case i_MOST_KEY => refine' Sk.csF_mk ?a53; (case a53 => k_is))
    (case i_MOST_LONG => refine' Sk.csF_mk ?a54; (case a54 => k_is))
    (case i_MOST_NOTES => refine' Sk.csF_mk ?a55; (case a55 => k_is))
    (case i_REST => refine' Sk.csF_mk ?a56; (case a56 => k_is))
    (case i_FIRST_ALONE => refine' Sk.csF_mk ?a57; (case a57 => k_is))
    (case i_SECOND_ALONE => refine' Sk.csF_mk ?a58; (case a58 => k_is))
    (case i_FARTHEST => refine' Sk.csF_mk ?a59; (case a59 => k_is))
    (case i_WRONG => refine' Sk.csF_mk ?a60; (case a60 => k_is))
    (case i_NO_TUNE => refine' Sk.csF_mk ?a61; (case a61 => k_is))
    (case i_NO_WAY => refine' Sk.csF_mk ?a62; (case a62 => k_is))
    (case i_FULL => refine' Sk.csF_mk ?a63; (case a63 => k_is))
    (case i_MOST_COST => refine' Sk.csF_mk ?a64; (case a64 => k_is))
    (case i_MOST_TUNES => refine' Sk.csF_mk ?a65; (case a65 => k_is))
    (case t_NUMBERS => refine' Sk.tiF_mk ?a66 ?b66; (case a66 => k_is); (case b66 => refine' Sk.tpF_mk ?u67 ?v67 ?w67 ?x67 ?y67; (case u67 => k_is); (case v67 => exact rfl); (case w67 => exact rfl); (case x67 => show 8 ≤ sizeLine; decide); (case y67 => exact (.cons ⟨_, rfl⟩ (.cons ⟨_, rfl⟩ (.cons ⟨_, rfl⟩ (.cons ⟨_, rfl⟩ (.cons ⟨_, rfl⟩ (.cons ⟨_, rfl⟩ (.cons ⟨_, rfl⟩ (.cons ⟨_, rfl⟩ .nil)))))))))))
    (case t_WITH_ROW => refine' Sk.tiF_mk ?a68 ?b68; (case a68 => k_is); (case b68 => refine' Sk.tpF_mk ?u69 ?v69 ?w69 ?x69 ?y69; (case u69 => k_is); (case v69 => exact rfl); (case w69 => exact rfl); (case x69 => show 2 ≤ sizeLine; decide); (case y69 => exact (.cons ⟨_, rfl⟩ (.cons ⟨_, rfl⟩ .nil)))))
    (case t_TAKEN => refine' Sk.taF_mk ?a70 ?u70 ?v70 ?w70 ?x70 ?y70; (case a70 => k_is); (case u70 => k_is); (case v70 => exact rfl); (case w70 => exact rfl); (case x70 => show 9 ≤ sizeLine; decide); (case y70 => refine' (.cons ?q0 (.cons ?q1 (.cons ?q2 (.cons ?q3 (.cons ?q4 (.cons ?q5 (.cons ?q6 (.cons ?q7 (.cons ?q8 .nil))))))))); (case q0 => refine' Sk.tk1_mk (Sk.tpF_mk ?u71 ?v71 ?w71 ?x71 ?y71); (case u71 => k_is); (case v71 => exact rfl); (case w71 => exact rfl); (case x71 => show 2 ≤ sizeLine; decide); (case y71 => exact (.cons ⟨_, rfl⟩ (.cons ⟨_, rfl⟩ .nil)))); (case q1 => refine' Sk.tk1_mk (Sk.tpF_mk ?u72 ?v72 ?w72 ?x72 ?y72); (case u72 => k_is); (case v72 => exact rfl); (case w72 => exact rfl); (case x72 => show 2 ≤ sizeLine; decide); (case y72 => exact (.cons ⟨_, rfl⟩ (.cons ⟨_, rfl⟩ .nil)))); (case q2 => refine' Sk.tk1_mk (Sk.tpF_mk ?u73 ?v73 ?w73 ?x73 ?y73); (case u73 => k_is); (case v73 => exact rfl); (case w73 => exact rfl); (case x73 => show 2 ≤ sizeLine; decide); (case y73 => exact (.cons ⟨_, rfl⟩ (.cons ⟨_, rfl⟩ .nil)))); (case q3 => refine' Sk.tk1_mk (Sk.tpF_mk ?u74 ?v74 ?w74 ?x74 ?y74); (case u74 => k_is); (case v74 => exact rfl); (case w74 => exact rfl); (case x74 => show 2 ≤ sizeLine; decide); (case y74 => exact (.cons ⟨_, rfl⟩ (.cons ⟨_, rfl⟩ .nil)))); (case q4 => refine' Sk.tk1_mk (Sk.tpF_mk ?u75 ?v75 ?w75 ?x75 ?y75); (case u75 => k_is); (case v75 => exact rfl); (case w75 => exact rfl); (case x75 => show 2 ≤ sizeLine; decide); (case y75 => exact (.cons ⟨_, rfl⟩ (.cons ⟨_, rfl⟩ .nil)))); (case q5 => refine' Sk.tk1_mk (Sk.tpF_mk ?u76 ?v76 ?w76 ?x76 ?y76); (case u76 => k_is); (case v76 => exact rfl); (case w76 => exact rfl); (case x76 => show 2 ≤ sizeLine; decide); (case y76 => exact (.cons ⟨_, rfl⟩ (.cons ⟨_, rfl⟩ .nil)))); (case q6 => refine' Sk.tk1_mk (Sk.tpF_mk ?u77 ?v77 ?w77 ?x77 ?y77); (case u77 => k_is); (case v77 => exact rfl); (case w77 => exact rfl); (case x77 => show 2 ≤ sizeLine; decide); (case y77 => exact (.cons ⟨_, rfl⟩ (.cons ⟨_, rfl⟩ .nil)))); (case q7 => refine' Sk.tk1_mk (Sk.tpF_mk ?u78 ?v78 ?w78 ?x78 ?y78); (case u78 => k_is); (case v78 => exact rfl); (case w78 => exact rfl); (case x78 => show 2 ≤ sizeLine; decide); (case y78 => exact (.cons ⟨_, rfl⟩ (.cons ⟨_, rfl⟩ .nil)))); (case q8 => refine' Sk.tk1_mk (Sk.tpF_mk ?u79 ?v79 ?w79 ?x79 ?y79); (case u79 => k_is); (case v79 => exact rfl); (case w79 => exact rfl); (case x79 => show 2 ≤ sizeLine; decide); (case y79 => exact (.cons ⟨_, rfl⟩ (.cons ⟨_, rfl⟩ .nil))))))
    (case z_len => k_is)
    (case z_any => k_is)
    (case z_all => k_is)
    (case z_sum => k_is)
    (case z_min => k_is)
    (case z_max => k_is)
    (case z_abs => k_is)
    (case z_list => k_is)
    (case z_zip => k_is)
    (case z_enumerate => k_is)
    (case z_range => k_is)
  case S =>
    intro K H xs a hO hwi hask hx
    cases hx with
    | cons h1 h2 =>
      cases h2
      cases h1 with
      | lst hs ha =>
        have e := L2.ints_dw a.1 _ ha
        subst e
        exact ⟨_, a.1, rfl, hs, hask, fun H' p hp => .lst (L2.SqL.of hp) (L2.dw_ints _)⟩
#print axioms PySem.Challenge.cw_songkin_s01_answers_holds

