import PyProof.Rows.All
import Wide.All
import OpenK.AllK
import Wide.FinOn
import KE.KStateDown
import HandS.Head0
import HandS.Head1
import HandS.Head2
import HandS.HeadEnd
import HandS.HeadHook1
import HandS.HeadHook2
import HandS.HeadHook4
import HandS.ForMost
import HandS.ForExc
import HandS.Set
import HandS.Strs
import HandS.Wide
import HandS.WideBits
import HandS.TupAny
import HandS.TupMul
import HandS.Style
import HandS.TupLe
import HandS.IsInst
import HandS.SortInts
import HandS.TupLen
import HandS.More
import HandS.Dict
import HandS.WordsDict
import HandS.Codes
import HandS.Sort
import HandS.DictComp
import HandS.Small
import HandS.Zip
import HandS.Iter
import HandS.Defaults
import HandS.MakeKw
import HandS.ExcOwn
import PyProof.ExcBaseAll.ValueError
import PySem.Challenge.RW_mixedmoney_k10_whole_ledgers_and_balance
set_option Elab.async false
set_option linter.all false
set_option maxRecDepth 100000
set_option maxHeartbeats 4000000
/-! sets of texts: set(list), sorted(set); turned from the layer's sets of ints -/
namespace DL
open PySem PySem.Spec PyProof.Rows L2
def txtOf (e : Int × Value) : Str := match e.2 with | .str k _ => k | _ => Str.empty
def GoodS (w : World) (e : Int × Value) : Prop := ∃ k tk, e.2 = Value.str k tk ∧ e.1 = hashStr w k

/-- the set of ints at a: S its members, n their number; its table rises and can be walked -/
def SetS (w : World) (h : Heap) (a : Addr) (S : Str → Bool) (n : Nat) : Prop :=
  ∃ o es ep t, h.get? a = some o ∧ o.ExactSet ∧ o.data = .set es ep t ∧ (∀ e ∈ es.toList, GoodS w e) ∧ (es.toList.map txtOf).Nodup ∧ (∀ k, S k = true ↔ k ∈ es.toList.map txtOf) ∧
    es.size < scanBound ∧ t.fits es.size = true ∧ es.size = n ∧ Ris t.place.toList ∧ (w.params.followText "set-order" = true ∨ t.led = true)

section
variable {P : Program} {w : World} {h h' : Heap} {a : Addr} {S : Str → Bool} {n : Nat}

theorem SetS.at (R : SetS w h a S n) (k : ∀ o, h.get? a = some o → h'.get? a = some o) : SetS w h' a S n := by
  obtain ⟨o, es, ep, t, ho, r⟩ := R
  exact ⟨o, es, ep, t, k o ho, r⟩
theorem SetS.lt (R : SetS w h a S n) : a < h.objs.size := by
  obtain ⟨o, es, ep, t, ho, r⟩ := R
  exact Heap.lt_size ho
theorem SetS.congr {S' : Str → Bool} (R : SetS w h a S n) (e : ∀ k, S' k = S k) : SetS w h a S' n := by
  have q : S' = S := funext e
  rw [q]; exact R
theorem goodS_elems {l : List (Int × Value)} (g : ∀ e ∈ l, GoodS w e) : ElemsOf (PySem.strKind P w) l := fun e he => by
  obtain ⟨k, tk, h1, h2⟩ := g e he
  exact ⟨⟨k, by rw [h1]; exact PySem.strKind_is P w k tk, h2⟩, by rw [h1] <;> rfl⟩
theorem goodS_is {e : Int × Value} (g : GoodS w e) (k : Str) : (PySem.strKind P w).is k e.2 = true ↔ txtOf e = k := by
  obtain ⟨k0, tk, h1, _⟩ := g
  unfold txtOf
  rw [h1]
  show ((PySem.strKind P w).is k (.str k0 tk) = true) ↔ k0 = k
  simp [PySem.strKind, Value.isStrOf]
theorem goodS_mem {l : List (Int × Value)} (g : ∀ e ∈ l, GoodS w e) (k : Str) : k ∈ l.map txtOf ↔ ∃ e ∈ l, (PySem.strKind P w).is k e.2 = true := by
  rw [List.mem_map]
  constructor
  · rintro ⟨e, he, q⟩
    exact ⟨e, he, (goodS_is (g e he) k).2 q⟩
  · rintro ⟨e, he, q⟩
    exact ⟨e, he, (goodS_is (g e he) k).1 q⟩
theorem SetS.setOf (R : SetS w h a S n) : h.SetOf (PySem.strKind P w) a S n := by
  obtain ⟨o, es, ep, t, ho, hx, hd, g, nd, hm, hb, hf, hn, _⟩ := R
  exact ⟨o, es, ep, t, ho, hx, hd, goodS_elems g, fun k => (hm k).trans (goodS_mem g k), hb, hf, hn⟩
end

section
variable {P : Program} {w : World} {A : Around} {E : Value → Shared → Prop} {s : Shared} {a : Addr} {S : Str → Bool} {n : Nat}

/-! ### add -/

theorem setS_add_tail {g : Bool → Sem Unit} (hg : ∀ (b : Bool) (s₁ : Shared) (Q' : Unit → Shared → Prop), Q' () s₁ → wpAny (model P w) A (g b) Q' E s₁)
    {o : Obj} {es : Array (Int × Value)} {ep : Nat} {t : SetTable} (ho : s.heap.get? a = some o) (hex : o.ExactSet) (hd : o.data = .set es ep t)
    {es1 : Array (Int × Value)} {t2 : SetTable} {S' : Str → Bool} (g1 : ∀ e ∈ es1.toList, GoodS w e) (nd1 : (es1.toList.map txtOf).Nodup) (m1 : ∀ k, S' k = true ↔ k ∈ es1.toList.map txtOf)
    (hb1 : es1.size < scanBound) (hf2 : t2.fits es1.size = true) (hr : Ris t2.place.toList) (hl : w.params.followText "set-order" = true ∨ t2.led = true) {wasDummy : Bool} {R : Option Bool → Shared → Prop}
    (hR : ∀ h', Heap.SameBut a s.heap h' → SetS w h' a S' es1.size → R (some true) { s with heap := h' }) :
    wpAny (model P w) A (do
        storeSet a es1 t2
        if (!wasDummy && t2.tooFull) = true then do
            g (relayAll t2 es1 (SetTable.grown es1.size)).2.2
            storeSet a (relayAll t2 es1 (SetTable.grown es1.size)).1 (relayAll t2 es1 (SetTable.grown es1.size)).2.1
            pure (some true)
          else pure (some true)) R E s := by
  refine wpAny_bind (wpAny_storeSet_of ho hd ?_ (fits_of_scanBound hb1))
  have ho1 := store_at (es' := es1) (t' := t2) ho hd
  have sb1 := Heap.SameBut.update s.heap a (Obj.putSet es1 t2)
  split
  · have pm := relayAll_perm t2 es1 (SetTable.grown es1.size)
    have hf3 := relayAll_fits t2 es1 (SetTable.grown es1.size)
    have hr3 := relayAll_ris t2 es1 (SetTable.grown es1.size)
    have hl3 := relayAll_led t2 es1 (SetTable.grown es1.size)
    generalize relayAll t2 es1 (SetTable.grown es1.size) = Z at pm hf3 hr3 hl3 ⊢
    obtain ⟨es2, t3, gave⟩ := Z
    dsimp only at pm hf3 hr3 hl3 ⊢
    have hsz : es2.size = es1.size := by rw [← Array.length_toList, pm.length_eq, Array.length_toList]
    have hb2 : es2.size < scanBound := by rw [hsz]; exact hb1
    refine wpAny_bind (hg _ _ _ ?_)
    refine wpAny_bind (wpAny_storeSet_of ho1 rfl ?_ (fits_of_scanBound hb2))
    have ho2 := store_at (es' := es2) (t' := t3) ho1 rfl
    refine wpAny_pure (hR _ (sb1.trans (Heap.SameBut.update _ a _)) ?_)
    exact ⟨_, es2, _, t3, ho2, hex, rfl, fun e he => g1 e (pm.mem_iff.mp he), (pm.map txtOf).nodup_iff.mpr nd1, fun k => (m1 k).trans (pm.map txtOf).mem_iff.symm, hb2, hf3, hsz, hr3,
      hl.imp id fun z => by rw [hl3]; exact z⟩
  · exact wpAny_pure (hR _ sb1 ⟨_, es1, _, t2, ho1, hex, rfl, g1, nd1, m1, hb1, hf2, rfl, hr, hl⟩)

theorem setS_add_hashed {k : Str} {tk : Tok} {Q : Bool → Shared → Prop} (R : SetS w s.heap a S n) (room : n + 1 < scanBound)
    (hQ : ∀ h', Heap.SameBut a s.heap h' → SetS w h' a (fun j => S j || decide (j = k)) (if S k = true then n else n + 1) → Q (!S k) { s with heap := h' }) :
    wpAny (model P w) A (setAddHashed a (.str k tk) ((PySem.strKind P w).hash k)) Q E s := by
  obtain ⟨o, es, ep, t, ho, hex, hd, g, nd, hm, hb, hf, hn, hr, hl⟩ := R
  have hkey : (PySem.strKind P w).is k (.str k tk) = true := PySem.strKind_is P w k tk
  have hsc : (Value.str k tk).scannable = true := rfl
  have hel : ElemsOf (PySem.strKind P w) es.toList := goodS_elems g
  unfold setAddHashed setAddHashedIn
  refine wpAny_holding (wpAny_bind (wpAny_setState_of ho hd hf ?_))
  dsimp only
  rw [byScan_of hsc hb hel]
  simp only [↓reduceIte]
  unfold setAddByScan
  refine wpAny_bind ?_
  refine wpAny_bind (wpAny_rule ?_)
  refine wpAny_bind (wpAny_setScan_of hkey ho hd hf hel ?_)
  cases hfi : List.findIdx? (fun e => (PySem.strKind P w).is k e.2) es.toList with
  | some j =>
    dsimp only
    obtain ⟨hj, pj, _⟩ := List.findIdx?_eq_some_iff_getElem.mp hfi
    have hSk : S k = true := (hm k).2 ((goodS_mem (P := P) (w := w) g k).2 ⟨es.toList[j], List.getElem_mem hj, pj⟩)
    refine wpAny_pure (wpAny_pure ?_)
    have q := hQ s.heap (Heap.SameBut.refl a s.heap) ⟨o, es, ep, t, ho, hex, hd, g, nd, fun i => by
      rw [Bool.or_eq_true, decide_eq_true_eq, ← hm i]
      exact ⟨fun z => z.elim id (fun e => e ▸ hSk), .inl⟩, hb, hf, by rw [if_pos hSk]; exact hn, hr, hl⟩
    rw [hSk] at q
    exact q
  | none =>
    dsimp only
    have hnk : k ∉ es.toList.map txtOf := fun z => by
      obtain ⟨e, he, q⟩ := (goodS_mem (P := P) (w := w) g k).1 z
      have c := List.findIdx?_eq_none_iff.mp hfi e he
      rw [q] at c
      cases c
    have hSk : S k = false := by
      cases q : S k with
      | false => rfl
      | true => exact absurd ((hm k).1 q) hnk
    have hgw : ∀ (b : Bool) {s₁ : Shared} {Q' : Unit → Shared → Prop}, Q' () s₁ → wpAny (model P w) A (match b with | true => rule "set.scan.the-table-gave-way" | false => pure ()) Q' E s₁ :=
      fun b s₁ Q' q => by cases b <;> first | exact wpAny_pure q | exact wpAny_rule q
    have pm := layNew_perm t es ((PySem.strKind P w).hash k) (.str k tk)
    have hf1 := layNew_fits t es ((PySem.strKind P w).hash k) (.str k tk)
    have hr1 := layNew_ris t es ((PySem.strKind P w).hash k) (.str k tk) hr
    have hl1 := layNew_led t es ((PySem.strKind P w).hash k) (.str k tk)
    generalize layNew t es ((PySem.strKind P w).hash k) (.str k tk) = Z at pm hf1 hr1 hl1 ⊢
    obtain ⟨es1, t1, wasDummy, gave⟩ := Z
    dsimp only at pm hf1 hr1 hl1 ⊢
    rw [Array.toList_push] at pm
    have pc : es1.toList.Perm (((PySem.strKind P w).hash k, Value.str k tk) :: es.toList) := pm.trans (List.perm_append_singleton _ _)
    have pk : (es1.toList.map txtOf).Perm (k :: es.toList.map txtOf) := pc.map txtOf
    have g1 : ∀ e ∈ es1.toList, GoodS w e := fun e he => by
      rcases List.mem_cons.mp (pc.mem_iff.mp he) with z | z
      · rw [z]; exact ⟨k, tk, rfl, rfl⟩
      · exact g e z
    have nd1 : (es1.toList.map txtOf).Nodup := pk.nodup_iff.mpr (List.nodup_cons.mpr ⟨hnk, nd⟩)
    have m1 : ∀ i, (S i || decide (i = k)) = true ↔ i ∈ es1.toList.map txtOf := fun i => by
      rw [Bool.or_eq_true, decide_eq_true_eq, hm i, pk.mem_iff, List.mem_cons]
      exact Or.comm
    have hsz : es1.size = n + 1 := by rw [← Array.length_toList, pc.length_eq, List.length_cons, Array.length_toList, hn]
    have hb1 : es1.size < scanBound := by rw [hsz]; exact room
    have hled : w.params.followText "set-order" = true ∨ t1.led = true := hl.imp id fun z => by rw [hl1]; exact z
    have fin : ∀ h', Heap.SameBut a s.heap h' → SetS w h' a (fun j => S j || decide (j = k)) es1.size → Q true { s with heap := h' } := fun h' sb r => by
      have q := hQ h' sb
      rw [hSk] at q
      rw [hsz] at r
      exact q r
    refine wpAny_bind (hgw _ ?_)
    split
    · refine wpAny_bind ?_
      rw [hashByValue_scannable 8 hsc]
      refine wpAny_pure ?_
      refine setS_add_tail ?_ ho hex hd g1 nd1 m1 hb1 ?_ ?_ ?_ ?_
      · intro b s₁ Q' q; cases b <;> first | exact wpAny_pure q | exact wpAny_rule q
      · first | (split <;> first | exact hf1 | exact SetTable.fits_plain_off hf1) | exact hf1
      · first | (split <;> exact hr1) | exact hr1
      · first | (split <;> exact hled) | exact hled
      · intro h' sb r; dsimp only; exact wpAny_pure (fin h' sb r)
    · refine wpAny_bind (wpAny_pure ?_)
      simp only [↓reduceIte]
      refine setS_add_tail ?_ ho hex hd g1 nd1 m1 hb1 hf1 hr1 hled ?_
      · intro b s₁ Q' q; cases b <;> first | exact wpAny_pure q | exact wpAny_rule q
      · intro h' sb r; dsimp only; exact wpAny_pure (fin h' sb r)

end
theorem strs_at : ∀ {vs : List Value} {xs : List Str}, StrsAre vs xs → ∀ (i : Nat) (v : Value), vs[i]? = some v → ∃ t x, v = .str x t ∧ xs[i]? = some x
  | _, _, .nil, i, v, h => by simp at h
  | _, _, .cons n t hr, 0, v, h => by simp at h; exact ⟨t, n, h.symm, rfl⟩
  | _, _, .cons n t hr, i + 1, v, h => by
    simp only [List.getElem?_cons_succ] at h
    obtain ⟨t', x, e, e2⟩ := strs_at hr i v h
    exact ⟨t', x, e, by simpa using e2⟩
theorem takeS_succ {xs : List Str} {i : Nat} {x : Str} (h : xs[i]? = some x) (k : Str) : ((xs.take i).contains k || decide (k = x)) = (xs.take (i + 1)).contains k := by
  rw [List.take_add_one, h, Bool.eq_iff_iff]
  simp
section
variable {P : Program} {w : World} {A : Around} {R : Result → Shared → Prop} {I : Addr} {fp wr : List Addr} {G : Array GenState → Array GenState → Prop} {n : Nat} {Pv : Nat → Value → Prop} {St : Nat → Shared → Prop}
theorem set_update_strs (W : WalksS P w A.in1 I fp wr G n Pv St) (D : Addr) (hSf : D ∉ fp) (xs : List Str) (hval : ∀ i v, Pv i v → ∃ t x, v = .str x t ∧ xs[i]? = some x) (hb : n + 1 < scanBound) :
    ∀ (k i : Nat) (s : Shared), n - i = k → i ≤ n → St i s → (∃ m, m ≤ i ∧ SetS w s.heap D (fun k' => (xs.take i).contains k') m) →
      (∀ s' m, Moved (D :: wr) G s s' → m ≤ n → SetS w s'.heap D (fun k' => (xs.take n).contains k') m → R (.ok (.ret .none)) s') →
      codeAny (model P w) A (.builtin "set.update.loop" ⟨[.ref D, .ref I], []⟩) R s := by
  have hSw : D ∉ wr := fun h => hSf (W.sub _ h)
  have hsub : ∀ b ∈ wr, b ∈ D :: wr := fun b hb => List.mem_cons_of_mem _ hb
  intro k
  induction k with
  | zero =>
    intro i s hk hi hst ⟨m, hm1, hS⟩ hR
    have hin : i = n := by omega
    subst hin
    refine codeAny_builtin PyProof.Rows.F.entry_set_update_loop ?_
    rw [Around.under_plainId PyProof.Rows.F.plain_set_update_loop _]
    show wpAny _ A.in1 (pyNext (.ref I) >>= _) _ _ s
    refine wpAny_bind (W.done s _ _ hst fun s' hm => ?_)
    show wpAny _ A.in1 (ret Value.none) _ _ s'
    exact wpAny_pure (hR s' m (hm.mono hsub) hm1 (hS.at fun o ho => hm.heap D _ hSw ho))
  | succ k ih =>
    intro i s hk hi hst ⟨m, hm1, hS⟩ hR
    have hlt : i < n := by omega
    refine codeAny_builtin PyProof.Rows.F.entry_set_update_loop ?_
    rw [Around.under_plainId PyProof.Rows.F.plain_set_update_loop _]
    show wpAny _ A.in1 (pyNext (.ref I) >>= _) _ _ s
    refine wpAny_bind (W.item i s _ _ hlt hst fun v s' hP hst' hm => ?_)
    obtain ⟨t, x, rfl, hx⟩ := hval i v hP
    have hS' : SetS w s'.heap D (fun k' => (xs.take i).contains k') m := hS.at fun o ho => hm.heap D _ hSw ho
    show wpAny _ A.in1 (holding [Value.str x t] (setAdd D (.str x t)) >>= _) _ _ s'
    refine wpAny_bind (wpAny_holding ?_)
    unfold setAdd
    refine wpAny_holding ?_
    refine wpAny_bind ((PySem.strKind P w).pyHash (k := x) (strKind_is _ _ _ _) ?_)
    refine setS_add_hashed (P := P) (s := { s' with toks := s'.toks + 1 }) hS' (by unfold scanBound at *; omega) fun h' hsb hS2 => ?_
    have hSi : ∃ m', m' ≤ i + 1 ∧ SetS w h' D (fun k' => (xs.take (i + 1)).contains k') m' := by
      refine ⟨_, ?_, hS2.congr fun k' => (takeS_succ hx k').symm⟩
      split <;> omega
    refine wpAny_pure ⟨plainId_quiet PyProof.Rows.F.plain_set_update_loop _, ih (i + 1) _ (by omega) hlt (W.frame _ s' _ _ hst' (Nat.le_succ _) fun b hb o e => ?_) hSi fun s'' m'' hm'' h1 hS'' => ?_⟩
    · rw [hsb.2 b (fun h : b = D => hSf (by rw [← h]; exact hb))]; exact e
    · refine hR s'' m'' (Moved.trans W.gtrans ((hm.mono hsub).then_heap (Nat.le_succ _) fun b o hb e => ?_) hm'') h1 hS''
      rw [hsb.2 b (fun h : b = D => hb (by rw [h]; exact List.mem_cons_self))]; exact e
end

section
variable {P : Program} {w : World} {A : Around} {E : Value → Shared → Prop} {s : Shared}

theorem code_setL (a : Value) {Q₁ : Value → Shared → Prop}
    (h : Q₁ (.ref s.heap.objs.size) { s with heap := s.heap.push { cls := .type "set", dict := none, data := .set #[] 0 (.fresh 0 0 (!w.params.followText "set-order")) } }) :
    codeAny (model P w) A (.call (.builtin "set.__new__") ⟨[.type "set", a], []⟩) (wants Q₁ E) s := by
  refine codeAny_of_tree ?_
  show wpAny _ A.in1 (do checkBuiltinCall "set.__new__" ⟨[.type "set", a], []⟩; again (.builtin "set.__new__" ⟨[.type "set", a], []⟩)) _ _ s
  refine wpAny_bind (wpAny_of_eq (PySem.F.newCall_set_1 a) (wpAny_pure ⟨plainId_quiet PySem.F.plain_set_new _, codeAny_builtin PySem.F.entry_set_new ?_⟩))
  rw [Around.under_plainId PySem.F.plain_set_new _]
  unfold Builtin.«set.__new__» Builtin.Frozenset.newClass
  have hsub := sub_set_self
  obtain ⟨hp, g, d, tk, os⟩ := s
  dsimp only
  wp_walk
  refine wpAny_askSetting (wpAny_pure ?_)
  dsimp only
  simp only [newObj]
  refine wpAny_bind (wpAny_alloc (wpAny_pure ?_))
  exact wpAny_pure h
theorem setS_fresh {h : Heap} (w : World) : SetS w (h.push { cls := .type "set", dict := none, data := .set #[] 0 (.fresh 0 0 (!w.params.followText "set-order")) }) h.objs.size (fun k => ([] : List Str).contains k) 0 :=
  ⟨_, #[], 0, _, Heap.get?_push_size _ rfl, ⟨rfl, rfl, rfl⟩, rfl, (fun e he => by simp at he), (by simp), (fun k => by simp), (by decide), (by rfl), rfl, List.Pairwise.nil, by
    show _ ∨ (!w.params.followText "set-order") = true
    cases w.params.followText "set-order"
    · exact .inr rfl
    · exact .inl rfl⟩
theorem call_set_strs {l : Addr} {items : Array Value} {xs : List Str} {Q : Value → Shared → Prop}
    (hh : A.handled = none) (hl : s.heap.IsList l items) (hi : StrsAre items.toList xs) (hb : items.size + 1 < scanBound)
    (h : ∀ (h' : Heap) (tk : Nat) (m : Nat), m ≤ items.size → SetS w h' s.heap.objs.size (fun k' => xs.contains k') m →
      (∀ b o, b < s.heap.objs.size → s.heap.get? b = some o → h'.get? b = some o) → Q (.ref s.heap.objs.size) { s with heap := h', toks := tk }) :
    wpAny (model P w) A (call (.type "set") [.ref l]) Q E s := by
  obtain ⟨c, tl, hmro⟩ := PySem.F.called_set.mro
  have hmade := PySem.F.called_set.made
  have hsub := PySem.F.called_set.sub
  refine wpAny_call (codeAny_of_tree ?_)
  show wpAny _ _ (callAny (.type "set") _) _ _ _
  refine wpAny_pure ⟨Code.quiet_builtin _ (by decide +kernel), codeAny_builtin PySem.F.entry_type_call ?_⟩
  rw [Around.under_plain (weight_type_call_type "set" [.ref l] []) rfl]
  have h1 := PySem.F.called_set.notType
  have h2 := PySem.F.called_set.canCreate
  have hct := PySem.F.typeCall_set_1 (.ref l)
  repeat (any_goals (first | assumption | wp_step))

  refine codeAny_mono (code_setL (.ref l) (E := E) (Q₁ := fun obj s₁ => obj = .ref s.heap.objs.size ∧ s₁ = { s with heap := s.heap.push { cls := .type "set", dict := none, data := .set #[] 0 (.fresh 0 0 (!w.params.followText "set-order")) } }) ⟨rfl, rfl⟩) fun r s₁ hr => ?_
  cases r with
  | error e => exact hr
  | ok fl =>
    cases fl with
    | ret obj =>
      obtain ⟨rfl, rfl⟩ := hr
      have hS : (s.heap.push { cls := .type "set", dict := none, data := .set #[] 0 (.fresh 0 0 (!w.params.followText "set-order")) }).get? s.heap.objs.size = some { cls := .type "set", dict := none, data := .set #[] 0 (.fresh 0 0 (!w.params.followText "set-order")) } := Heap.get?_push_size _ rfl
      have hT : Shared.TypeIs { s with heap := s.heap.push { cls := .type "set", dict := none, data := .set #[] 0 (.fresh 0 0 (!w.params.followText "set-order")) } } (.ref s.heap.objs.size) "set" := ⟨_, hS, rfl⟩
      have hli := PySem.F.called_set.init.lookup
      have hbi := PySem.F.called_set.init.bind (.ref s.heap.objs.size)
      repeat (any_goals (first | assumption | wp_step))

      refine codeAny_mono (codeAny_call_builtin (R := wants (fun r s₂ => r = .none ∧ ∃ h' tk, s₂ = { s with heap := h', toks := tk } ∧
          (∃ m, m ≤ items.size ∧ SetS w h' s.heap.objs.size (fun k' => xs.contains k') m) ∧
          (∀ b o, b < s.heap.objs.size → s.heap.get? b = some o → h'.get? b = some o)) E) PySem.F.called_set.init.plain PySem.F.entry_set_init (check_set_init_1 hT ?_)) fun r₂ s₂ hr₂ => ?_
      · obtain ⟨ol, hol, hcl, nl, hdl⟩ := hl
        obtain ⟨ocls, odict, odata, oslots⟩ := ol
        simp only at hcl hdl
        subst hcl; subst hdl
        have hol' : (s.heap.push { cls := .type "set", dict := none, data := .set #[] 0 (.fresh 0 0 (!w.params.followText "set-order")) }).get? l = some { cls := .type "list", dict := odict, data := .seq items nl, slots := oslots } := Heap.get?_push_of_some _ hol
        have hsls := PySem.F.sub_list_set
        have hslf := PySem.F.sub_list_frozenset
        have hne : (Value.type "list" == Value.type "dict") = false := by decide
        have hl1 : (s.heap.push { cls := .type "set", dict := none, data := .set #[] 0 (.fresh 0 0 (!w.params.followText "set-order")) }).IsList l items := ⟨_, hol', rfl, nl, rfl⟩
        unfold Builtin.«set.__init__» noKeywords Builtin.Frozenset.updateFrom
        generalize hPI : pyIter = PI
        wp_walk
        subst hPI

        refine wpAny_pyIter_list hl1 ?_
        refine wpAny_bind (wpAny_runValue ?_)
        have hlS : l < s.heap.objs.size := Heap.lt_size hol
        have hh3 : A.in1.in1.in1.handled = none := by simp [hh]
        have hneI : l ≠ (s.heap.push { cls := .type "set", dict := none, data := .set #[] 0 (.fresh 0 0 (!w.params.followText "set-order")) }).objs.size := by
          rw [Heap.size_push]; exact Nat.ne_of_lt (Nat.lt_succ_of_lt hlS)
        have hSf : s.heap.objs.size ∉ [(s.heap.push { cls := .type "set", dict := none, data := .set #[] 0 (.fresh 0 0 (!w.params.followText "set-order")) }).objs.size, l] := by
          rw [Heap.size_push]; simp only [List.mem_cons, List.mem_singleton, List.not_mem_nil, or_false, not_or]
          exact ⟨Nat.ne_of_lt (Nat.lt_succ_self _), Nat.ne_of_gt hlS⟩
        have hval : ∀ (i : Nat) (v : Value), items[i]? = some v → ∃ t x, v = .str x t ∧ xs[i]? = some x := fun i v hv =>
          strs_at hi i v (by rw [Array.getElem?_toList]; exact hv)
        have hlen : items.size = xs.length := by rw [← hi.length, Array.length_toList]
        refine set_update_strs (P := P) ((Walks.list hh3 _ l hneI items).toS) s.heap.objs.size
          hSf xs hval hb (items.size - 0) 0 _ (by omega) (Nat.zero_le _)
          ⟨⟨_, Heap.get?_push_size _ rfl, rfl, rfl⟩, (hl1.push _)⟩ ?hS0 ?hR
        case hS0 =>
          have hget : ((s.heap.push { cls := .type "set", dict := none, data := .set #[] 0 (.fresh 0 0 (!w.params.followText "set-order")) }).push { cls := .type "list_iterator", data := .fields #[.ref l, .int 0 0] }).get? s.heap.objs.size
              = some { cls := .type "set", dict := none, data := .set #[] 0 (.fresh 0 0 (!w.params.followText "set-order")) } := Heap.get?_push_of_some _ hS
          refine ⟨0, Nat.le_refl _, SetS.at (h := s.heap.push { cls := .type "set", dict := none, data := .set #[] 0 (.fresh 0 0 (!w.params.followText "set-order")) }) ?_ fun o e => Heap.get?_push_of_some _ e⟩
          exact (setS_fresh (h := s.heap) w).congr fun _ => rfl
        case hR =>
          intro s' mm hm hmm hS'
          obtain ⟨h', g', d', tk', os'⟩ := s'
          have eg : g' = s.gens := hm.gens
          have ed : d' = s.drawn := hm.drawn
          have eo : os' = s.os := hm.os
          subst eg; subst ed; subst eo
          show wpAny _ _ _ _ _ _
          refine wpAny_pure ?_
          show wpAny _ _ (ret Value.none) _ _ _
          rw [hlen, List.take_length] at hS'
          refine wpAny_pure ⟨rfl, h', tk', rfl, ⟨mm, hmm, hS'⟩, fun b o hb e => ?_⟩
          have hb1 : b ≠ s.heap.objs.size := Nat.ne_of_lt hb
          have hb2 : b ≠ (s.heap.push { cls := .type "set", dict := none, data := .set #[] 0 (.fresh 0 0 (!w.params.followText "set-order")) }).objs.size := by
            rw [Heap.size_push]; exact Nat.ne_of_lt (Nat.lt_succ_of_lt hb)
          exact hm.heap b o (by simp only [List.mem_cons, List.mem_singleton, List.not_mem_nil, or_false, not_or]; exact ⟨hb1, hb2⟩) (Heap.get?_push_of_some _ (Heap.get?_push_of_some _ e))

      · cases r₂ with
        | error e => exact hr₂
        | ok fl₂ =>
          cases fl₂ with
          | ret r =>
            obtain ⟨rfl, h', tk, rfl, ⟨mm, hmm, hS'⟩, hk'⟩ := hr₂
            repeat (any_goals (first | assumption | wp_step))
            exact h _ _ mm hmm hS' hk'
          | _ => exact hr₂.elim
    | _ => exact hr.elim
end
end DL

set_option Elab.async false
set_option linter.all false
set_option maxRecDepth 100000
set_option maxHeartbeats 4000000
/-! sorted(set(texts)) -/
namespace DL
open PySem PySem.Spec PyProof.Rows L2
theorem ss_strs_of : ∀ (l : List Value), (∀ v ∈ l, ∃ k tk, v = Value.str k tk) → StrsAre l (l.map fun v => txtOf (0, v))
  | [], _ => .nil
  | v :: l, h => by
    obtain ⟨k, tk, e⟩ := h v List.mem_cons_self
    subst e
    exact .cons k tk (ss_strs_of l fun u hu => h u (List.mem_cons_of_mem _ hu))
section
variable {P : Program} {w : World} {A : Around} {E : Value → Shared → Prop} {s : Shared} {a : Addr}
theorem sorted_setS {S : Str → Bool} {n : Nat} {Q : Value → Shared → Prop} (R : SetS w s.heap a S n) (hh : A.handled = none) (h64 : n < 64)
    (hQ : ∀ s' p (out : Array Value) (c : Nat) (ys : List Str), (∀ b o, s.heap.get? b = some o → s'.heap.get? b = some o) → s'.gens = s.gens → s'.os = s.os → s.heap.objs.size ≤ p →
      s'.heap.get? p = some (seqObj "list" out c) → StrsAre out.toList ys → sortedS ys = true → ys.Nodup → (∀ k, k ∈ ys ↔ S k = true) → ys.length = n → Q (.ref p) s') :
    wpAny (model P w) A (call (.builtin "sorted") [.ref a]) Q E s := by
  obtain ⟨o, es, ep, t, ho, hex, hd, g, nd, hm, hb, hf, hn, hr, hl⟩ := R
  refine Calls.call_function_entry kind_sorted plain_sorted entry_sorted (args_sorted1 _) ?_
  unfold Builtin.«sorted»
  refine wpAny_bind (m := checkCount "sorted" 1 1 _) (wpAny_pure ?_)
  refine wpAny_bind (collect_set (A := A.in1) hh ⟨o, ho, hex.1, hd⟩ hf hb hr hl fun s1 vs k1 hz g1 o1 pm => ?_)
  have hvl : vs.length = n := by
    rw [pm.length_eq, List.length_map, Array.length_toList]
    exact hn
  have hS : StrsAre vs (vs.map fun v => txtOf (0, v)) := ss_strs_of vs fun v hv => by
    obtain ⟨e, he, q⟩ := List.mem_map.mp (pm.mem_iff.mp hv)
    obtain ⟨k, tk, h1, _⟩ := g e he
    exact ⟨k, tk, by rw [← q]; exact h1⟩
  have pk : (vs.map fun v => txtOf (0, v)).Perm (es.toList.map txtOf) := by
    have q := pm.map fun v => txtOf (0, v)
    rw [List.map_map] at q
    exact q
  refine wpAny_bind (wpAny_newList ?_ (by rw [hvl, sizeLine_eq]; omega))
  have hoL : (s1.heap.push (seqObj "list" vs.toArray 0)).get? s1.heap.objs.size = some (seqObj "list" vs.toArray 0) := Heap.get?_push_size _ rfl
  refine wpAny_bind (wpAny_holding (wpAny_call_entry slot_list_sort ⟨_, hoL, rfl⟩ entry_list_sort
    (list_sort_treeK strKind_oneLt hoL hS.keysOf (fun v₁ v₂ rest e => keyKind_strs (by rw [← e]; exact hS)) (by rw [hvl]; exact h64) fun st' hp hs => ⟨_, rfl, ?_⟩) (args_list_sort _)))
  obtain ⟨ys, a1, a2, a3⟩ := sorted_out_str hS hp hs
  obtain ⟨c, hc⟩ := sortedHeap_at (vs := vs) (out := (arrOf st').map (·.2)) hoL
  have pn : ys.Perm (es.toList.map txtOf) := a2.trans pk
  refine wpAny_pure ⟨_, rfl, hQ _ s1.heap.objs.size _ c ys (fun b u e => ?_) g1 o1 hz hc a1 a3 (pn.nodup_iff.mpr nd) (fun k => by rw [pn.mem_iff, ← hm k]) ?_⟩
  · have q := k1 b u e
    have hlt := Heap.lt_size q
    show (sortedHeap (s1.heap.push (seqObj "list" vs.toArray 0)) s1.heap.objs.size vs _).get? b = some u
    rw [sortedHeap_old (Nat.ne_of_lt hlt) (by rw [size_push']; exact Nat.lt_succ_of_lt hlt)]
    exact Heap.get?_push_of_some _ q
  · rw [pn.length_eq, List.length_map, Array.length_toList]
    exact hn
end
/-! over the layer -/
def SetSO (w : World) (a : Addr) (S : Str → Bool) (n : Nat) : HO := .ext fun h => SetS w h a S n
section
variable {X : Cx}
theorem strs_of_vals : ∀ {xs : List Str} {us : List Value}, Vals (xs.map V.str) us → StrsAre us xs
  | [], _, .nil => .nil
  | x :: xs, _, .cons r t => by
    obtain ⟨tk, rfl⟩ := r
    exact .cons x tk (strs_of_vals t)
theorem vals_of_strs : ∀ {us : List Value} {xs : List Str}, StrsAre us xs → Vals (xs.map V.str) us
  | _, _, .nil => .nil
  | _, _, .cons x tk t => .cons ⟨tk, rfl⟩ (vals_of_strs t)
theorem SetS.len {w : World} {h : Heap} {a : Addr} {S : Str → Bool} {n : Nat} (R : SetS w h a S n) {l : List Str} (nd : l.Nodup) (hl : ∀ k, k ∈ l ↔ S k = true) : n = l.length := by
  obtain ⟨o, es, ep, t, ho, hex, hd, g, nd2, hm, hb, hf, hn, _⟩ := R
  have p : l.Perm (es.toList.map txtOf) := (List.perm_ext_iff_of_nodup nd nd2).mpr fun k => by rw [hl k, hm k]
  rw [p.length_eq, List.length_map, Array.length_toList]
  exact hn.symm
def rSetS (w : World) (K : PySem.W.Frag) : List V → Hp → VK → Prop := fun xs H Q => ∃ (l : Addr) (ys : List Str), xs = [V.ref l] ∧ SqL K H l (ys.map V.str) ∧ ys.length < 4000 ∧
  ∀ a n, H a = none → (∀ l : List Str, l.Nodup → (∀ k, k ∈ l ↔ ys.contains k = true) → n = l.length) → Q (.ref a) (upd H a (SetSO w a (fun k => ys.contains k) n))
theorem cr_setS (hc : X.calm = true) : CallR X (.type "set") (rSetS X.w X.K) := by
  intro pins s σ H xs us Q I r h
  obtain ⟨l, ys, rfl, hl, hf, q⟩ := h
  obtain ⟨u, e1, e2⟩ := Vals.one r
  subst e1
  obtain rfl : u = Value.ref l := e2
  obtain ⟨its, rv, pl, hz⟩ := I.list hl
  have hn : H s.heap.objs.size = none := I.hok.fresh (Nat.le_refl _)
  have hlen : its.length = ys.length := by rw [← rv.length, List.length_map]
  refine call_set_strs (P := X.prog) (w := X.w) (I.ok.hd hc) pl.isList (strs_of_vals (by simpa using rv)) (by rw [List.size_toArray, hlen]; unfold scanBound; omega) fun h' tk m hm R k => ?_
  rw [List.size_toArray, hlen] at hm
  refine ⟨.ref s.heap.objs.size, upd H s.heap.objs.size (SetSO X.w s.heap.objs.size (fun k => ys.contains k) m), I.laid (t' := tk) (fun b o e => k b o (Heap.lt_size e) e) (Nat.le_refl _) ?_, rfl, q _ _ hn fun l nd hl => R.len nd hl⟩
  refine ⟨R, ?_, fun h1 h2 r1 kk => r1.at kk⟩
  obtain ⟨o, _, _, _, ho, _⟩ := R
  exact ⟨o, ho⟩
def rSortSetS (w : World) : List V → Hp → VK → Prop := fun vs H Q => ∃ (a : Addr) (S : Str → Bool) (n : Nat), vs = [V.ref a] ∧ H a = some (SetSO w a S n) ∧ n < 64 ∧
  ∀ (ys : List Str) (p : Addr), sortedS ys = true → ys.Nodup → (∀ k, k ∈ ys ↔ S k = true) → H p = none → Q (.ref p) (upd H p (.lst (ys.map V.str)))
theorem cr_sortSetS (hc : X.calm = true) : CallR X (.builtin "sorted") (rSortSetS X.w) := by
  intro pins s σ H vs us Q I r h
  obtain ⟨a, S, n, rfl, ha, h64, q⟩ := h
  obtain ⟨u, e1, e2⟩ := Vals.one r
  subst e1
  obtain rfl : u = Value.ref a := e2
  have R : SetS X.w s.heap a S n := (I.hok a _ ha).1
  refine sorted_setS R (I.ok.hd hc) h64 fun s' p out c ys k g o hp hg hout a3 nd mem hl => ?_
  have hlen : (ys.map V.str).length ≤ sizeLine := by rw [List.length_map, sizeLine_eq]; omega
  have hn : H p = none := I.hok.fresh hp
  have J : Inv X pins σ (upd H p (.lst (ys.map V.str))) { s with heap := s'.heap, gens := s'.gens, drawn := s'.drawn, toks := s'.toks } :=
    I.call (ch := []) (Un.laid k hp hn) (I.hok.laid k hp ⟨hlen, out.toList, c, vals_of_strs hout, hg⟩) (by rw [g]; exact I.bare) (fun _ z => nomatch z)
  have e : s' = { s with heap := s'.heap, gens := s'.gens, drawn := s'.drawn, toks := s'.toks } := by
    cases s'
    cases s
    cases o
    rfl
  rw [e]
  exact ⟨.ref p, _, J, rfl, q ys p a3 nd mem hn⟩
end
end DL

set_option Elab.async false
set_option linter.all false
set_option maxRecDepth 100000
/-! A layer over HandS: data by value (D), a store of living objects by number, worlds. -/
namespace DL
open PySem PySem.Spec PyProof.Rows L2

/-- what hangs on k: the looks at a term leave k as it is -/
class Fz {β : Type u} (k : β) : Type where
instance {β : Type u} (k : β) : Fz k := ⟨⟩
/-- a datum: tuples, lists and dicts by value; loc l: the living object number l; gl a: what stands at a in the written part -/
inductive D where
  | non | bl (b : Bool) | int (i : Int) | str (x : Str)
  | tup (ds : List D) | lst (ds : List D) | dct (kvs : List (Key × D)) | dcT (kvs : List (List Key × D))
  | loc (l : Nat) | gl (a : Addr) | ty (n : String) | scr (ns : List Int) | ktp (ds : List D)
  deriving Inhabited
/-- a living object -/
inductive Ob where
  | lst (ds : List D) | dct (kvs : List (Key × D)) | dcT (kvs : List (List Key × D)) | ins (C : Addr) (fs : List (Str × D))
/-- an exception: its class, its one field -/
structure Xn where
  C : Addr
  f : Option (Str × D) := none
/-- a world: what stands by value, where the living objects stand, what is held back -/
structure Wd where
  F : Hp
  φ : List Addr
  R : Hp
def Wd.sub (W W' : Wd) : Prop := Same W.F W'.F ∧ ∀ (l : Nat) (a : Addr), W.φ[l]? = some a → W'.φ[l]? = some a
theorem Wd.sub.trans {W W1 W2 : Wd} (a : W.sub W1) (b : W1.sub W2) : W.sub W2 := ⟨a.1.trans b.1, fun l x h => b.2 l x (a.2 l x h)⟩
def Wd.le (W W' : Wd) : Prop := W.sub W' ∧ W.R = W'.R
theorem Wd.le.refl (W : Wd) : W.le W := ⟨⟨Same.refl _, fun _ _ h => h⟩, rfl⟩
theorem Wd.le.trans {W W1 W2 : Wd} (a : W.le W1) (b : W1.le W2) : W.le W2 := ⟨a.1.trans b.1, a.2.trans b.2⟩

mutual
def Rp (K : PySem.W.Frag) (W : Wd) : D → V → Prop
  | .non, v => v = .non
  | .bl b, v => v = .bl b
  | .int i, v => v = .int i
  | .str x, v => v = .str x
  | .ty n, v => v = .ty n
  | .gl a, v => v = .ref a
  | .loc l, v => ∃ a, v = .ref a ∧ W.φ[l]? = some a
  | .tup ds, v => ∃ a vs, v = .ref a ∧ W.F a = some (.tup vs) ∧ RpL K W ds vs
  | .ktp ds, v => ∃ a vs, v = .ref a ∧ SqT K W.F a vs ∧ RpL K W ds vs
  | .lst ds, v => ∃ a vs, v = .ref a ∧ W.F a = some (.lst vs) ∧ RpL K W ds vs
  | .scr ns, v => ∃ a, v = .ref a ∧ SqL K W.F a (ns.map V.int)
  | .dct kvs, v => ∃ a kws, v = .ref a ∧ W.F a = some (.dK kws) ∧ RpK K W kvs kws
  | .dcT kvs, v => ∃ a kws, v = .ref a ∧ W.F a = some (.dT kws) ∧ RpT K W kvs kws
termination_by structural d => d
def RpL (K : PySem.W.Frag) (W : Wd) : List D → List V → Prop
  | [], vs => vs = []
  | d :: ds, vs => ∃ v r, vs = v :: r ∧ Rp K W d v ∧ RpL K W ds r
termination_by structural d => d
def RpP (K : PySem.W.Frag) (W : Wd) : Key × D → Key × V → Prop
  | (k, d), p => p.1 = k ∧ Rp K W d p.2
termination_by structural d => d
def RpK (K : PySem.W.Frag) (W : Wd) : List (Key × D) → List (Key × V) → Prop
  | [], vs => vs = []
  | d :: ds, vs => ∃ v r, vs = v :: r ∧ RpP K W d v ∧ RpK K W ds r
termination_by structural d => d
def RpQ (K : PySem.W.Frag) (W : Wd) : List Key × D → List Key × V → Prop
  | (k, d), p => p.1 = k ∧ Rp K W d p.2
termination_by structural d => d
def RpT (K : PySem.W.Frag) (W : Wd) : List (List Key × D) → List (List Key × V) → Prop
  | [], vs => vs = []
  | d :: ds, vs => ∃ v r, vs = v :: r ∧ RpQ K W d v ∧ RpT K W ds r
termination_by structural d => d
end

theorem seqT {K : PySem.W.Frag} {H H' : Hp} {a : Addr} {xs : List V} (e : Same H H') (h : SqT K H a xs) : SqT K H' a xs := by
  rcases h with (h | ⟨o, h⟩) | h
  · exact .inl (.inl (e _ _ h))
  · exact .inl (.inr ⟨o, e _ _ h⟩)
  · exact .inr h
section
variable {K : PySem.W.Frag} {W W' W1 W2 : Wd}
theorem rbl {b : Bool} : Rp K W (.bl b) (.bl b) := rfl
theorem rint {i : Int} : Rp K W (.int i) (.int i) := rfl
theorem rstr {x : Str} : Rp K W (.str x) (.str x) := rfl
theorem rnon : Rp K W .non .non := rfl
mutual
theorem Rp.sub (h : W.sub W') : ∀ (d : D) (v : V), Rp K W d v → Rp K W' d v
  | .non, v, r => r
  | .bl b, v, r => r
  | .int i, v, r => r
  | .str x, v, r => r
  | .ty n, v, r => r
  | .gl a, v, r => r
  | .loc l, v, ⟨a, e, q⟩ => ⟨a, e, h.2 _ _ q⟩
  | .tup ds, v, ⟨a, vs, e, q, r⟩ => ⟨a, vs, e, h.1 _ _ q, RpL.sub h ds vs r⟩
  | .ktp ds, v, ⟨a, vs, e, q, r⟩ => ⟨a, vs, e, seqT h.1 q, RpL.sub h ds vs r⟩
  | .lst ds, v, ⟨a, vs, e, q, r⟩ => ⟨a, vs, e, h.1 _ _ q, RpL.sub h ds vs r⟩
  | .scr ns, v, ⟨a, e, q⟩ => ⟨a, e, h.1.seq q⟩
  | .dct ds, v, ⟨a, vs, e, q, r⟩ => ⟨a, vs, e, h.1 _ _ q, RpK.sub h ds vs r⟩
  | .dcT ds, v, ⟨a, vs, e, q, r⟩ => ⟨a, vs, e, h.1 _ _ q, RpT.sub h ds vs r⟩
termination_by structural d => d
theorem RpL.sub (h : W.sub W') : ∀ (ds : List D) (vs : List V), RpL K W ds vs → RpL K W' ds vs
  | [], vs, r => r
  | d :: ds, vs, ⟨v, q, e, r, t⟩ => ⟨v, q, e, Rp.sub h d v r, RpL.sub h ds q t⟩
termination_by structural d => d
theorem RpP.sub (h : W.sub W') : ∀ (p : Key × D) (q : Key × V), RpP K W p q → RpP K W' p q
  | (k, d), q, ⟨e, r⟩ => ⟨e, Rp.sub h d q.2 r⟩
termination_by structural d => d
theorem RpK.sub (h : W.sub W') : ∀ (ds : List (Key × D)) (vs : List (Key × V)), RpK K W ds vs → RpK K W' ds vs
  | [], vs, r => r
  | d :: ds, vs, ⟨v, q, e, r, t⟩ => ⟨v, q, e, RpP.sub h d v r, RpK.sub h ds q t⟩
termination_by structural d => d
theorem RpQ.sub (h : W.sub W') : ∀ (p : List Key × D) (q : List Key × V), RpQ K W p q → RpQ K W' p q
  | (k, d), q, ⟨e, r⟩ => ⟨e, Rp.sub h d q.2 r⟩
termination_by structural d => d
theorem RpT.sub (h : W.sub W') : ∀ (ds : List (List Key × D)) (vs : List (List Key × V)), RpT K W ds vs → RpT K W' ds vs
  | [], vs, r => r
  | d :: ds, vs, ⟨v, q, e, r, t⟩ => ⟨v, q, e, RpQ.sub h d v r, RpT.sub h ds q t⟩
termination_by structural d => d
end
theorem Rp.mono (h : W.le W') (d : D) (v : V) (r : Rp K W d v) : Rp K W' d v := Rp.sub h.1 d v r
theorem RpL_iff : ∀ {ds : List D} {vs : List V}, RpL K W ds vs ↔ Paired (Rp K W) ds vs
  | [], vs => ⟨fun h => by rw [show vs = [] from h]; exact .nil, fun h => by cases h; rfl⟩
  | d :: ds, vs => ⟨fun ⟨v, r, e, h, t⟩ => by rw [e]; exact .cons h (RpL_iff.mp t), fun h => by
      cases h with
      | cons a b => exact ⟨_, _, rfl, a, RpL_iff.mpr b⟩⟩
/-- a dict's rows -/
abbrev RK (K : PySem.W.Frag) (W : Wd) {κ : Type} : List (κ × D) → List (κ × V) → Prop := Paired fun p q => q.1 = p.1 ∧ Rp K W p.2 q.2
theorem RpK_iff : ∀ {ds : List (Key × D)} {vs : List (Key × V)}, RpK K W ds vs ↔ RK K W ds vs
  | [], vs => ⟨fun h => by rw [show vs = [] from h]; exact .nil, fun h => by cases h; rfl⟩
  | (k, d) :: ds, vs => ⟨fun ⟨v, r, e, h, t⟩ => by rw [e]; exact .cons h (RpK_iff.mp t), fun h => by
      cases h with
      | cons a b => exact ⟨_, _, rfl, a, RpK_iff.mpr b⟩⟩
theorem RpT_iff : ∀ {ds : List (List Key × D)} {vs : List (List Key × V)}, RpT K W ds vs ↔ RK K W ds vs
  | [], vs => ⟨fun h => by rw [show vs = [] from h]; exact .nil, fun h => by cases h; rfl⟩
  | (k, d) :: ds, vs => ⟨fun ⟨v, r, e, h, t⟩ => by rw [e]; exact .cons h (RpT_iff.mp t), fun h => by
      cases h with
      | cons a b => exact ⟨_, _, rfl, a, RpT_iff.mpr b⟩⟩
abbrev RL (K : PySem.W.Frag) (W : Wd) : List D → List V → Prop := Paired (Rp K W)
theorem RL.sub (h : W.sub W') {ds : List D} {vs : List V} (r : RL K W ds vs) : RL K W' ds vs := Paired.mapP r fun d v q => Rp.sub h d v q
theorem RK.sub (h : W.sub W') {κ : Type} {ds : List (κ × D)} {vs : List (κ × V)} (r : RK K W ds vs) : RK K W' ds vs := Paired.mapP r fun d v q => ⟨q.1, Rp.sub h d.2 v.2 q.2⟩
theorem RL.mono (h : W.le W') {ds : List D} {vs : List V} (r : RL K W ds vs) : RL K W' ds vs := Paired.mapP r fun d v q => Rp.mono h d v q
theorem RK.mono (h : W.le W') {κ : Type} {ds : List (κ × D)} {vs : List (κ × V)} (r : RK K W ds vs) : RK K W' ds vs := Paired.mapP r fun d v q => ⟨q.1, Rp.mono h d.2 v.2 q.2⟩
theorem Paired.get {α β : Type} {F : α → β → Prop} : ∀ {xs : List α} {us : List β} {i : Nat} {x : α}, Paired F xs us → xs[i]? = some x → ∃ u, us[i]? = some u ∧ F x u
  | _, _, _, _, .nil, e => by simp at e
  | _, _, 0, _, .cons r _, e => by simp at e; subst e; exact ⟨_, rfl, r⟩
  | _, _, i + 1, x, .cons _ t, e => by
    obtain ⟨u, h1, h2⟩ := Paired.get (i := i) (x := x) t (by simpa using e)
    exact ⟨u, by simpa using h1, h2⟩
theorem Paired.getR {α β : Type} {F : α → β → Prop} : ∀ {xs : List α} {us : List β} {i : Nat} {u : β}, Paired F xs us → us[i]? = some u → ∃ x, xs[i]? = some x ∧ F x u
  | _, _, _, _, .nil, e => by simp at e
  | _, _, 0, _, .cons r _, e => by simp at e; subst e; exact ⟨_, rfl, r⟩
  | _, _, i + 1, x, .cons _ t, e => by
    obtain ⟨u, h1, h2⟩ := Paired.getR (i := i) (u := x) t (by simpa using e)
    exact ⟨u, by simpa using h1, h2⟩
theorem Paired.app {α β : Type} {F : α → β → Prop} : ∀ {xs ys : List α} {us ws : List β}, Paired F xs us → Paired F ys ws → Paired F (xs ++ ys) (us ++ ws)
  | _, _, _, _, .nil, s => s
  | _, _, _, _, .cons r t, s => .cons r (Paired.app t s)
theorem Paired.set' {α β : Type} {F : α → β → Prop} {x : α} {u : β} (r : F x u) : ∀ {xs : List α} {us : List β} (i : Nat), Paired F xs us → Paired F (xs.set i x) (us.set i u)
  | _, _, _, .nil => .nil
  | _, _, 0, .cons _ t => .cons r t
  | _, _, i + 1, .cons q t => .cons q (Paired.set' r i t)
theorem Paired.take' {α β : Type} {F : α → β → Prop} : ∀ {xs : List α} {us : List β} (n : Nat), Paired F xs us → Paired F (xs.take n) (us.take n)
  | _, _, 0, _ => .nil
  | _, _, _ + 1, .nil => .nil
  | _, _, n + 1, .cons r t => .cons r (Paired.take' n t)
theorem Paired.drop' {α β : Type} {F : α → β → Prop} : ∀ {xs : List α} {us : List β} (n : Nat), Paired F xs us → Paired F (xs.drop n) (us.drop n)
  | _, _, 0, r => r
  | _, _, _ + 1, .nil => .nil
  | _, _, n + 1, .cons _ t => Paired.drop' n t
theorem Paired.rev {α β : Type} {F : α → β → Prop} : ∀ {xs : List α} {us : List β}, Paired F xs us → Paired F xs.reverse us.reverse
  | _, _, .nil => .nil
  | _, _, .cons r t => by
    rw [List.reverse_cons, List.reverse_cons]
    exact Paired.app (Paired.rev t) (.cons r .nil)

/-! ### states -/
def ROb (K : PySem.W.Frag) (W : Wd) : Ob → HO → Prop
  | .lst ds, o => ∃ vs, o = .lst vs ∧ RL K W ds vs
  | .dct kvs, o => ∃ kws, o = .dK kws ∧ RK K W kvs kws
  | .dcT kvs, o => ∃ kws, o = .dT kws ∧ RK K W kvs kws
  | .ins C fs, o => ∃ dx fv, o = .ins C dx fv ∧ RK K W fs fv
theorem ROb.sub (h : W.sub W') : ∀ {o : Ob} {u : HO}, ROb K W o u → ROb K W' o u
  | .lst _, _, ⟨vs, e, r⟩ => ⟨vs, e, r.sub h⟩
  | .dct _, _, ⟨vs, e, r⟩ => ⟨vs, e, RK.sub h r⟩
  | .dcT _, _, ⟨vs, e, r⟩ => ⟨vs, e, RK.sub h r⟩
  | .ins _ _, _, ⟨dx, fv, e, r⟩ => ⟨dx, fv, e, RK.sub h r⟩
theorem ROb.mono (h : W.le W') {o : Ob} {u : HO} (r : ROb K W o u) : ROb K W' o u := r.sub h.1
structure Rl (K : PySem.W.Frag) (W : Wd) (S : List Ob) (H : Hp) : Prop where
  same : Same W.F H
  len : W.φ.length = S.length
  nd : W.φ.Nodup
  at_ : ∀ (l : Nat) (o : Ob), S[l]? = some o → ∃ a u, W.φ[l]? = some a ∧ W.F a = none ∧ H a = some u ∧ ROb K W o u
  rsv : ∀ (a : Addr) (o : HO), W.R a = some o → W.F a = none ∧ a ∉ W.φ ∧ H a = some o
abbrev Rh := List (Option D)
def Re (K : PySem.W.Frag) (W : Wd) (ρ : Rh) (σ : L2.St) : Prop := Paired (fun o v => ∀ d, o = some d → ∃ u, v = some u ∧ Rp K W d u) ρ σ
theorem Re.sub (h : W.sub W') {ρ : Rh} {σ : L2.St} (r : Re K W ρ σ) : Re K W' ρ σ := Paired.mapP r fun o v q d e => by
  obtain ⟨u, e1, e2⟩ := q d e
  exact ⟨u, e1, Rp.sub h d u e2⟩
theorem Re.mono (h : W.le W') {ρ : Rh} {σ : L2.St} (r : Re K W ρ σ) : Re K W' ρ σ := r.sub h.1
theorem Re.get {ρ : Rh} {σ : L2.St} (r : Re K W ρ σ) {i : Nat} {d : D} (e : ρ[i]? = some (some d)) : ∃ u, σ[i]? = some (some u) ∧ Rp K W d u := by
  obtain ⟨v, e1, q⟩ := Paired.get r e
  obtain ⟨u, rfl, q'⟩ := q d rfl
  exact ⟨u, e1, q'⟩
theorem Re.set {ρ : Rh} {σ : L2.St} (r : Re K W ρ σ) (i : Nat) {d : D} {u : V} (q : Rp K W d u) : Re K W (ρ.set i (some d)) (σ.set i (some u)) :=
  Paired.set' (fun e h => by cases h; exact ⟨u, rfl, q⟩) i r
theorem Re.unset {ρ : Rh} {σ : L2.St} (r : Re K W ρ σ) (i : Nat) (o : Option V) : Re K W (ρ.set i none) (σ.set i o) :=
  Paired.set' (fun e h => by cases h) i r
/-- a new thing by value -/
def Wd.keep (W : Wd) (p : Addr) (o : HO) : Wd := ⟨upd W.F p o, W.φ, W.R⟩
/-- a new living object -/
def Wd.more (W : Wd) (p : Addr) : Wd := ⟨W.F, W.φ ++ [p], W.R⟩
variable {S : List Ob} {H : Hp}
theorem Rl.freeF (r : Rl K W S H) {p : Addr} (hp : H p = none) : W.F p = none := Same.free r.same hp
theorem Rl.mem (r : Rl K W S H) {l : Nat} {a : Addr} (h : W.φ[l]? = some a) : ∃ o u, S[l]? = some o ∧ W.F a = none ∧ H a = some u ∧ ROb K W o u := by
  have hl : l < S.length := by rw [← r.len]; exact (List.getElem?_eq_some_iff.mp h).1
  obtain ⟨a', u, h1, h2, h3, h4⟩ := r.at_ l S[l] (List.getElem?_eq_getElem hl)
  rw [h] at h1
  cases h1
  exact ⟨S[l], u, List.getElem?_eq_getElem hl, h2, h3, h4⟩
theorem Wd.le_keep {p : Addr} {o : HO} (h : W.F p = none) : W.le (W.keep p o) := ⟨⟨fun b u e => by
  show upd W.F p o b = _
  rw [upd_ne (ne_of_none e h)]
  exact e, fun _ _ h => h⟩, rfl⟩
theorem Wd.le_more {p : Addr} : W.le (W.more p) := ⟨⟨Same.refl _, fun l a h => by
  show (W.φ ++ [p])[l]? = _
  rw [List.getElem?_append_left (List.getElem?_eq_some_iff.mp h).1]
  exact h⟩, rfl⟩
/-- a new object p stands as o, by value -/
theorem Rl.keep (r : Rl K W S H) {p : Addr} {o : HO} (hp : H p = none) : W.le (W.keep p o) ∧ Rl K (W.keep p o) S (upd H p o) := by
  have hF := r.freeF hp
  refine ⟨Wd.le_keep hF, ?_, r.len, r.nd, fun l ob e => ?_, fun a u e => ?_⟩
  · intro b u e
    show upd H p o b = _
    have e : upd W.F p o b = some u := e
    by_cases hb : b = p
    · subst hb
      rw [upd_same] at e ⊢
      exact e
    · rw [upd_ne hb] at e ⊢
      exact r.same _ _ e
  · obtain ⟨a, u, h1, h2, h3, h4⟩ := r.at_ l ob e
    have ne : a ≠ p := ne_of_none h3 hp
    refine ⟨a, u, h1, ?_, ?_, h4.mono (Wd.le_keep hF)⟩
    · show upd W.F p o a = none
      rw [upd_ne ne]
      exact h2
    · rw [upd_ne ne]
      exact h3
  · obtain ⟨h1, h2, h3⟩ := r.rsv a u e
    have ne : a ≠ p := ne_of_none h3 hp
    exact ⟨(upd_ne ne).trans h1, h2, (upd_ne ne).trans h3⟩
theorem Rl.more (r : Rl K W S H) {p : Addr} {o : HO} {ob : Ob} (hp : H p = none) (q : ROb K W ob o) : W.le (W.more p) ∧ Rl K (W.more p) (S ++ [ob]) (upd H p o) ∧ (W.more p).φ[S.length]? = some p := by
  have hF := r.freeF hp
  have hnew : (W.more p).φ[S.length]? = some p := by
    show (W.φ ++ [p])[S.length]? = some p
    rw [← r.len, List.getElem?_append_right (Nat.le_refl _), Nat.sub_self]
    rfl
  refine ⟨Wd.le_more, ⟨?_, ?_, ?_, fun l o' e => ?_, fun a u e => ?_⟩, hnew⟩
  · intro b u e
    rw [upd_ne (ne_of_none (r.same _ _ e) hp)]
    exact r.same _ _ e
  · show (W.φ ++ [p]).length = _
    rw [List.length_append, List.length_append, r.len]
    rfl
  · show (W.φ ++ [p]).Nodup
    refine List.nodup_append.mpr ⟨r.nd, by simp, fun a ha b hb => ?_⟩
    obtain rfl : b = p := by simpa using hb
    obtain ⟨l, hl⟩ := List.getElem?_of_mem ha
    obtain ⟨_, u, _, _, h3, _⟩ := r.mem hl
    exact ne_of_none h3 hp
  · by_cases hl : l < S.length
    · rw [List.getElem?_append_left hl] at e
      obtain ⟨a, u, h1, h2, h3, h4⟩ := r.at_ l o' e
      exact ⟨a, u, Wd.le_more.1.2 l a h1, h2, by rw [upd_ne (ne_of_none h3 hp)]; exact h3, h4.mono Wd.le_more⟩
    · have hl2 : l < (S ++ [ob]).length := (List.getElem?_eq_some_iff.mp e).1
      have el : l = S.length := by rw [List.length_append] at hl2; simp at hl2; omega
      subst el
      rw [List.getElem?_append_right (Nat.le_refl _), Nat.sub_self] at e
      cases e
      exact ⟨p, o, hnew, hF, upd_same, q.mono Wd.le_more⟩
  · obtain ⟨h1, h2, h3⟩ := r.rsv a u e
    have ne : a ≠ p := ne_of_none h3 hp
    refine ⟨h1, fun z => ?_, (upd_ne ne).trans h3⟩
    rcases List.mem_append.mp z with z | z
    · exact h2 z
    · exact ne (List.mem_singleton.mp z)
/-- a living object is written -/
theorem Rl.put (r : Rl K W S H) {l : Nat} {a : Addr} {o : HO} {ob : Ob} (ha : W.φ[l]? = some a) (q : ROb K W ob o) : Rl K W (S.set l ob) (upd H a o) := by
  obtain ⟨_, _, _, hF, _, _⟩ := r.mem ha
  refine ⟨fun b u e => ?_, by rw [List.length_set]; exact r.len, r.nd, fun m o' e => ?_, fun b u e => ?_⟩
  · rw [upd_ne (ne_of_none e hF)]
    exact r.same _ _ e
  · by_cases hm : m = l
    · subst hm
      have hl : m < S.length := by rw [← r.len]; exact (List.getElem?_eq_some_iff.mp ha).1
      rw [List.getElem?_set_self hl] at e
      cases e
      exact ⟨a, o, ha, hF, upd_same, q⟩
    · rw [List.getElem?_set_ne (Ne.symm hm)] at e
      obtain ⟨b, u, h1, h2, h3, h4⟩ := r.at_ m o' e
      have ne : b ≠ a := fun z => hm (by
        obtain ⟨hlm, em⟩ := List.getElem?_eq_some_iff.mp h1
        obtain ⟨hll, el⟩ := List.getElem?_eq_some_iff.mp ha
        exact (List.getElem_inj r.nd).mp (em.trans (z.trans el.symm)))
      exact ⟨b, u, h1, h2, by rw [upd_ne ne]; exact h3, h4⟩
  · obtain ⟨h1, h2, h3⟩ := r.rsv b u e
    have ne : b ≠ a := fun z => h2 (by rw [z]; exact List.mem_of_getElem? ha)
    exact ⟨h1, h2, (upd_ne ne).trans h3⟩
/-- p held back as o -/
def Wd.hold (W : Wd) (p : Addr) (o : HO) : Wd := ⟨W.F, W.φ, upd W.R p o⟩
theorem Wd.sub_hold {p : Addr} {o : HO} : W.sub (W.hold p o) := ⟨Same.refl _, fun _ _ h => h⟩
theorem Rl.offphi (r : Rl K W S H) {p : Addr} (hp : H p = none) : p ∉ W.φ := fun z => by
  obtain ⟨l, hl⟩ := List.getElem?_of_mem z
  obtain ⟨_, u, _, _, h3, _⟩ := r.mem hl
  rw [hp] at h3
  cases h3
theorem Rl.hold (r : Rl K W S H) {p : Addr} {o : HO} (hp : H p = none) : Rl K (W.hold p o) S (upd H p o) := by
  have hF := r.freeF hp
  refine ⟨fun b u e => ?_, r.len, r.nd, fun l ob e => ?_, fun a u e => ?_⟩
  · rw [upd_ne (ne_of_none (r.same _ _ e) hp)]
    exact r.same _ _ e
  · obtain ⟨a, u, h1, h2, h3, h4⟩ := r.at_ l ob e
    exact ⟨a, u, h1, h2, by rw [upd_ne (ne_of_none h3 hp)]; exact h3, h4.sub Wd.sub_hold⟩
  · have e : upd W.R p o a = some u := e
    by_cases ha : a = p
    · subst ha
      rw [upd_same] at e
      cases e
      exact ⟨hF, r.offphi hp, upd_same⟩
    · rw [upd_ne ha] at e
      obtain ⟨h1, h2, h3⟩ := r.rsv a u e
      exact ⟨h1, h2, (upd_ne ha).trans h3⟩
/-- what is held back is changed -/
theorem Rl.reset (r : Rl K W S H) {p : Addr} {o o' : HO} (hp : W.R p = some o) : Rl K (W.hold p o') S (upd H p o') := by
  obtain ⟨hF, hφ, hH⟩ := r.rsv p o hp
  refine ⟨fun b u e => ?_, r.len, r.nd, fun l ob e => ?_, fun a u e => ?_⟩
  · rw [upd_ne (ne_of_none e hF)]
    exact r.same _ _ e
  · obtain ⟨a, u, h1, h2, h3, h4⟩ := r.at_ l ob e
    have ne : a ≠ p := fun z => hφ (by rw [← z]; exact List.mem_of_getElem? h1)
    exact ⟨a, u, h1, h2, by rw [upd_ne ne]; exact h3, h4.sub Wd.sub_hold⟩
  · have e : upd W.R p o' a = some u := e
    by_cases ha : a = p
    · subst ha
      rw [upd_same] at e
      cases e
      exact ⟨hF, hφ, upd_same⟩
    · rw [upd_ne ha] at e
      obtain ⟨h1, h2, h3⟩ := r.rsv a u e
      exact ⟨h1, h2, (upd_ne ha).trans h3⟩
/-- what was held back stands by value from now on -/
theorem Rl.give (r : Rl K W S H) {p : Addr} {o : HO} {R : Hp} (hp : W.R p = some o) (hR : R p = none) (hR' : ∀ a, a ≠ p → R a = W.R a) : W.sub ⟨upd W.F p o, W.φ, R⟩ ∧ Rl K ⟨upd W.F p o, W.φ, R⟩ S H := by
  obtain ⟨hF, hφ, hH⟩ := r.rsv p o hp
  have sub : W.sub ⟨upd W.F p o, W.φ, R⟩ := ⟨fun b u e => by
    show upd W.F p o b = _
    rw [upd_ne (ne_of_none e hF)]
    exact e, fun _ _ h => h⟩
  refine ⟨sub, fun b u e => ?_, r.len, r.nd, fun l ob e => ?_, fun a u e => ?_⟩
  · have e : upd W.F p o b = some u := e
    by_cases hb : b = p
    · subst hb
      rw [upd_same] at e
      rw [hH]
      exact e
    · rw [upd_ne hb] at e
      exact r.same _ _ e
  · obtain ⟨a, u, h1, h2, h3, h4⟩ := r.at_ l ob e
    have ne : a ≠ p := fun z => hφ (by rw [← z]; exact List.mem_of_getElem? h1)
    exact ⟨a, u, h1, (upd_ne ne).trans h2, h3, h4.sub sub⟩
  · have e : R a = some u := e
    have ne : a ≠ p := fun z => by
      rw [z, hR] at e
      cases e
    rw [hR' a ne] at e
    obtain ⟨h1, h2, h3⟩ := r.rsv a u e
    exact ⟨(upd_ne ne).trans h1, h2, h3⟩
/-- .. as a living object -/
theorem Rl.liven (r : Rl K W S H) {p : Addr} {o : HO} {ob : Ob} {R : Hp} (hp : W.R p = some o) (hR : R p = none) (hR' : ∀ a, a ≠ p → R a = W.R a) (q : ROb K W ob o) :
    W.sub ⟨W.F, W.φ ++ [p], R⟩ ∧ Rl K ⟨W.F, W.φ ++ [p], R⟩ (S ++ [ob]) H ∧ (W.φ ++ [p])[S.length]? = some p := by
  obtain ⟨hF, hφ, hH⟩ := r.rsv p o hp
  have hnew : (W.φ ++ [p])[S.length]? = some p := by
    rw [← r.len, List.getElem?_append_right (Nat.le_refl _), Nat.sub_self]
    rfl
  have sub : W.sub ⟨W.F, W.φ ++ [p], R⟩ := ⟨Same.refl _, fun l a h => by
    show (W.φ ++ [p])[l]? = _
    rw [List.getElem?_append_left (List.getElem?_eq_some_iff.mp h).1]
    exact h⟩
  refine ⟨sub, ⟨r.same, ?_, ?_, fun l o' e => ?_, fun a u e => ?_⟩, hnew⟩
  · show (W.φ ++ [p]).length = _
    rw [List.length_append, List.length_append, r.len]
    rfl
  · show (W.φ ++ [p]).Nodup
    refine List.nodup_append.mpr ⟨r.nd, by simp, fun a ha b hb => ?_⟩
    obtain rfl : b = p := by simpa using hb
    exact fun z => hφ (z ▸ ha)
  · by_cases hl : l < S.length
    · rw [List.getElem?_append_left hl] at e
      obtain ⟨a, u, h1, h2, h3, h4⟩ := r.at_ l o' e
      exact ⟨a, u, sub.2 l a h1, h2, h3, h4.sub sub⟩
    · have hl2 : l < (S ++ [ob]).length := (List.getElem?_eq_some_iff.mp e).1
      have el : l = S.length := by rw [List.length_append] at hl2; simp at hl2; omega
      subst el
      rw [List.getElem?_append_right (Nat.le_refl _), Nat.sub_self] at e
      cases e
      exact ⟨p, o, hnew, hF, hH, q.sub sub⟩
  · have e : R a = some u := e
    have ne : a ≠ p := fun z => by
      rw [z, hR] at e
      cases e
    rw [hR' a ne] at e
    obtain ⟨h1, h2, h3⟩ := r.rsv a u e
    refine ⟨h1, fun z => ?_, h3⟩
    rcases List.mem_append.mp z with z | z
    · exact h2 z
    · exact ne (List.mem_singleton.mp z)
end
end DL

set_option Elab.async false
set_option linter.all false
set_option maxRecDepth 100000
/-! the judgements: an expression's reading over data -/
namespace DL
open PySem PySem.Spec PyProof.Rows L2

abbrev Sto := List Ob
abbrev DE (α : Type) := Rh → Sto → (α → Sto → Prop) → (Xn → Sto → Prop) → Prop
def RX (K : PySem.W.Frag) (W : Wd) (H : Hp) (x : Xn) (c : Value) (dd : Option Addr) : Prop :=
  c = .ref x.C ∧ match x.f with
    | none => dd = none
    | some (f, d) => ∃ a v, dd = some a ∧ H a = some (.xd [(f, v)]) ∧ Rp K W d v
/-- a promise over data, at a state -/
structure Ct (K : PySem.W.Frag) (E : XK) {α β : Type} (R : Wd → α → β → Prop) (W : Wd) (S : Sto) (H : Hp) (q : (α → Sto → Prop) → (Xn → Sto → Prop) → Prop) (Q : β → Hp → Prop) : Prop where
  rl : Rl K W S H
  ex : ∃ Qd Ed, q Qd Ed ∧ (∀ W' S' H' d v, W.le W' → Rl K W' S' H' → R W' d v → Qd d S' → Q v H') ∧
    ∀ W' S' H' x c dd, W.le W' → Rl K W' S' H' → RX K W' H' x c dd → Ed x S' → E c dd H'
def lf (K : PySem.W.Frag) (E : XK) {α β : Type} (R : Wd → α → β → Prop) (w : DE α) : L2.St → Hp → (β → Hp → Prop) → Prop := fun σ H Q =>
  ∃ W ρ S, Re K W ρ σ ∧ Ct K E R W S H (w ρ S) Q
abbrev rBool : Wd → Bool → Bool → Prop := fun _ a b => a = b
def PD (X : Cx) (E : XK) (e : Expr) (w : DE D) : Prop := PE X e (lf X.K E (Rp X.K) w)
def PDT (X : Cx) (E : XK) (e : Expr) (w : DE Bool) : Prop := PT X e (lf X.K E rBool w)
def PDW (X : Cx) (E : XK) (e : Expr) (w : DE Bool) : Prop := PW X e (lf X.K E rBool w)
def PDA (X : Cx) (E : XK) (es : List Expr) (w : DE (List D)) : Prop := PA X es (lf X.K E (RL X.K) w)
section
variable {K : PySem.W.Frag} {E : XK} {α β γ δ : Type} {R : Wd → α → β → Prop} {R' : Wd → γ → δ → Prop} {W W1 : Wd} {S : Sto} {H : Hp}
theorem Ct.bind {w : (α → Sto → Prop) → (Xn → Sto → Prop) → Prop} {k : α → Sto → (γ → Sto → Prop) → (Xn → Sto → Prop) → Prop} {Q : δ → Hp → Prop}
    (h : Ct K E R' W S H (fun Qd Ed => w (fun a S1 => k a S1 Qd Ed) Ed) Q) :
    Ct K E R W S H w (fun b H1 => ∃ W1 S1 a, W.le W1 ∧ R W1 a b ∧ Ct K E R' W1 S1 H1 (k a S1) Q) := by
  obtain ⟨rl, Qd, Ed, q, hq, he⟩ := h
  exact ⟨rl, _, Ed, q, fun W1 S1 H1 a b l r rb z => ⟨W1, S1, a, l, rb, r, Qd, Ed, z, fun W' S' H' d v l' => hq W' S' H' d v (l.trans l'), fun W' S' H' x c dd l' => he W' S' H' x c dd (l.trans l')⟩, he⟩
/-- the end -/
theorem Ct.pure {d : α} {v : β} {Q : β → Hp → Prop} (h : Ct K E R W S H (fun Qd _ => Qd d S) Q) (r : R W d v) : Q v H := by
  obtain ⟨rl, Qd, Ed, q, hq, he⟩ := h
  exact hq W S H d v (.refl W) rl r q
/-- the end, another world -/
theorem Ct.done {d : α} {v : β} {Q : β → Hp → Prop} {S' : Sto} {H' : Hp} (h : Ct K E R W S H (fun Qd _ => Qd d S') Q) (l : W.le W1) (rl : Rl K W1 S' H') (r : R W1 d v) : Q v H' := by
  obtain ⟨_, Qd, Ed, q, hq, he⟩ := h
  exact hq W1 S' H' d v l rl r q
theorem Ct.imp {w w' : (α → Sto → Prop) → (Xn → Sto → Prop) → Prop} {Q Q' : β → Hp → Prop} (h : Ct K E R W S H w Q) (hw : ∀ Qd Ed, w Qd Ed → w' Qd Ed) (hQ : ∀ b H, Q b H → Q' b H) : Ct K E R W S H w' Q' := by
  obtain ⟨rl, Qd, Ed, q, hq, he⟩ := h
  exact ⟨rl, Qd, Ed, hw _ _ q, fun W' S' H' d v l r rb z => hQ _ _ (hq W' S' H' d v l r rb z), he⟩
/-- a way that cannot be -/
theorem Ct.no {Q : β → Hp → Prop} {P : Prop} (h : Ct K E R W S H (fun _ _ => False) Q) : P := by
  obtain ⟨_, _, _, q, _⟩ := h
  exact q.elim
end
section
variable {X : Cx} {E : XK}
theorem PE.of {e : Expr} {t t' : TE} (h : PE X e t) (i : ∀ σ H Q, t' σ H Q → t σ H Q) : PE X e t' := ⟨fun pins s σ H Q I z => h.run pins s σ H Q I (i _ _ _ z)⟩
theorem PT.of {e : Expr} {t t' : TT} (h : PT X e t) (i : ∀ σ H Q, t' σ H Q → t σ H Q) : PT X e t' := ⟨fun pins s σ H Q I z => h.run pins s σ H Q I (i _ _ _ z)⟩
theorem PW.of {e : Expr} {t t' : TT} (h : PW X e t) (i : ∀ σ H Q, t' σ H Q → t σ H Q) : PW X e t' := ⟨fun w pins s σ H Q I z => h.run w pins s σ H Q I (i _ _ _ z)⟩
theorem PA.of {e : List Expr} {t t' : TA} (h : PA X e t) (i : ∀ σ H Q, t' σ H Q → t σ H Q) : PA X e t' := ⟨fun pos pins s σ H Q I z => h.run pos pins s σ H Q I (i _ _ _ z)⟩
theorem PS.of {e : Stmt} {t t' : TS} (h : PS X e t) (i : ∀ D σ H, t' D σ H → t D σ H) : PS X e t' := ⟨fun pins s σ H D I z => h.run pins s σ H D I (i _ _ _ z)⟩
theorem PSs.of {e : List Stmt} {t t' : TS} (h : PSs X e t) (i : ∀ D σ H, t' D σ H → t D σ H) : PSs X e t' := ⟨fun pins s σ H D I z => h.run pins s σ H D I (i _ _ _ z)⟩
/-- what every lemma asks of the place -/
structure Cn (X : Cx) (E : XK) : Prop where
  calm : X.calm = true
  hu : X.A.units + 64 < cLine
  pass : Passes (L2.CX X.prog X.w) X E
  nd : X.N.Nodup
theorem Cn.blk (c : Cn X E) {s : Shared} {H : Hp} {scope : Scope} {cenv : Env} {fp : List Addr} : Cn (X.blk s H scope cenv fp) E0 := ⟨c.calm, c.hu, passL, c.nd⟩

/-! ### values -/
def wVar (i : Nat) : DE D := fun ρ S Q _ => match ρ[i]? with
  | some (some d) => Q d S
  | _ => False
def wC (d : D) : DE D := fun _ S Q _ => Q d S
theorem pd_var (i : Nat) {x : Str} {pos : Pos} (hN : X.N[i]? = some x := by rfl) (hv : Vis X.env.scope x := by first | exact Or.inl rfl | exact Or.inr (Or.inl rfl) | exact Or.inr (Or.inr rfl)) (hd : (x == ("__debug__" : Str)) = false := by decide)
    (hcd : (x == ("__classdict__" : Str)) = false := by decide) : PD X E (.Name x pos) (wVar i) := by
  refine PE.of (pe_var (i := i) hN hv hd hcd) fun σ H Q ⟨W, ρ, S, re, c⟩ => ?_
  unfold wVar at c
  split at c
  · rename_i d e
    obtain ⟨u, e1, r⟩ := re.get e
    exact ⟨u, e1, c.pure r⟩
  · exact c.no
theorem pd_const {e : Expr} {d : D} {v : V} (h : PE X e (tC v)) (r : ∀ W, Rp X.K W d v) : PD X E e (wC d) := PE.of h fun σ H Q ⟨W, ρ, S, re, c⟩ => c.pure (r W)
theorem pd_int {i : Int} {j} {pos} : PD X E (.Constant (.int i) j pos) (wC (.int i)) := pd_const pe_int fun _ => rfl
theorem pd_bl {i : Bool} {j} {pos} : PD X E (.Constant (.bool i) j pos) (wC (.bl i)) := pd_const pe_bl fun _ => rfl
theorem pd_non {j} {pos} : PD X E (.Constant .none j pos) (wC .non) := pd_const pe_non fun _ => rfl
theorem pd_str {i : Str} {j} {pos} : PD X E (.Constant (.str i) j pos) (wC (.str i)) := pd_const pe_str fun _ => rfl
/-- a global of the module -/
theorem pd_glob {x : Str} {d : D} {v : V} {u : Value} {pos : Pos} (hg : Gl X x) (hm : X.mg x = some u) (r : RelV v u) (rp : ∀ W, Rp X.K W d v) (hd : (x == ("__debug__" : Str)) = false := by decide) : PD X E (.Name x pos) (wC d) := pd_const (pe_glob hg hm r hd) rp
/-- a name of a built-in -/
theorem pd_bltn {x : Str} {d : D} {v : V} {u : Value} {pos : Pos} (hg : Gl X x) (hm : X.mg x = none) (hv : bootBuiltins x = some u) (r : RelV v u) (rp : ∀ W, Rp X.K W d v) (hn : x ≠ "__name__" := by decide) (hd : (x == ("__debug__" : Str)) = false := by decide) : PD X E (.Name x pos) (wC d) :=
  pd_const (pe_bltn hg hm hv r hn hd) rp

/-! ### arguments -/
def wNil : DE (List D) := fun _ S Q _ => Q [] S
def wCons (a : DE D) (r : DE (List D)) : DE (List D) := fun ρ S Q Ex => a ρ S (fun x S1 => r ρ S1 (fun xs S2 => Q (x :: xs) S2) Ex) Ex
theorem pda_nil : PDA X E [] wNil := PA.of pa_nil fun σ H Q ⟨W, ρ, S, re, c⟩ => c.pure .nil
theorem pda_cons {e : Expr} {es : List Expr} {w : DE D} {r : DE (List D)} (h : PD X E e w) (hr : PDA X E es r) (hs : starEach (e :: es) X.env = (false, eval e X.env) :: starEach es X.env := by rfl) : PDA X E (e :: es) (wCons w r) := by
  refine PA.of (pa_cons h hr hs) fun σ H Q ⟨W, ρ, S, re, c⟩ => ?_
  refine ⟨W, ρ, S, re, (Ct.bind (k := fun x S1 Qd Ed => r ρ S1 (fun xs S2 => Qd (x :: xs) S2) Ed) c).imp (fun _ _ z => z) ?_⟩
  rintro v H1 ⟨W1, S1, x, l1, rx, c1⟩
  refine ⟨W1, ρ, S1, re.mono l1, (Ct.bind (k := fun xs S2 Qd Ed => Qd (x :: xs) S2) c1).imp (fun _ _ z => z) ?_⟩
  rintro vs H2 ⟨W2, S2, xs, l2, rxs, c2⟩
  exact c2.pure (.cons (Rp.mono l2 _ _ rx) rxs)
end
end DL

set_option Elab.async false
set_option linter.all false
set_option maxRecDepth 100000
/-! operators over data -/
namespace DL
open PySem PySem.Spec PyProof.Rows L2

abbrev Pr := Sto → (D → Sto → Prop) → Prop
def wB1 (f : D → Pr) (a : DE D) : DE D := fun ρ S Q Ex => a ρ S (fun x S1 => f x S1 Q) Ex
def wB2 (f : D → D → Pr) (a b : DE D) : DE D := fun ρ S Q Ex => a ρ S (fun x S1 => b ρ S1 (fun y S2 => f x y S2 Q) Ex) Ex
section
variable {X : Cx} {E : XK}
theorem Ct.pr {K : PySem.W.Frag} {W : Wd} {S : Sto} {H : Hp} {q : (D → Sto → Prop) → Prop} {Q : VK} (h : Ct K E (Rp K) W S H (fun Qd _ => q Qd) Q) : Ct K E0 (Rp K) W S H (fun Qd _ => q Qd) Q := by
  obtain ⟨rl, Qd, Ed, q, hq, he⟩ := h
  exact ⟨rl, Qd, fun _ _ => False, q, hq, fun _ _ _ _ _ _ _ _ _ z => z.elim⟩
def l2 (K : PySem.W.Frag) (g : D → D → Pr) : R2 := fun x y H Q => ∃ W S d e, Rp K W d x ∧ Rp K W e y ∧ Ct K E0 (Rp K) W S H (fun Qd _ => g d e S Qd) Q
def l1 (K : PySem.W.Frag) (g : D → Pr) : V → Hp → VK → Prop := fun x H Q => ∃ W S d, Rp K W d x ∧ Ct K E0 (Rp K) W S H (fun Qd _ => g d S Qd) Q
abbrev Op2 (X : Cx) (f : Value → Value → Sem Value) (g : D → D → Pr) : Prop := OpR X f (l2 X.K g)
theorem lf_two {K : PySem.W.Frag} {g : D → D → Pr} {wa wb : DE D} {σ : L2.St} {H : Hp} {Q : VK} (h : lf K E (Rp K) (wB2 g wa wb) σ H Q) : tOp (l2 K g) (lf K E (Rp K) wa) (lf K E (Rp K) wb) σ H Q := by
  obtain ⟨W, ρ, S, re, c⟩ := h
  refine ⟨W, ρ, S, re, (Ct.bind (k := fun x S1 Qd Ed => wb ρ S1 (fun y S2 => g x y S2 Qd) Ed) c).imp (fun _ _ z => z) ?_⟩
  rintro v H1 ⟨W1, S1, x, l1, rx, c1⟩
  refine ⟨W1, ρ, S1, re.mono l1, (Ct.bind (k := fun y S2 Qd Ed => g x y S2 Qd) c1).imp (fun _ _ z => z) ?_⟩
  rintro u H2 ⟨W2, S2, y, l2, ry, c2⟩
  exact ⟨W2, S2, x, y, Rp.mono l2 _ _ rx, ry, c2.pr⟩
theorem lf_one {K : PySem.W.Frag} {g : D → Pr} {wa : DE D} {σ : L2.St} {H : Hp} {Q : VK} (h : lf K E (Rp K) (wB1 g wa) σ H Q) : tUn (l1 K g) (lf K E (Rp K) wa) σ H Q := by
  obtain ⟨W, ρ, S, re, c⟩ := h
  refine ⟨W, ρ, S, re, (Ct.bind (k := fun x S1 Qd Ed => g x S1 Qd) c).imp (fun _ _ z => z) ?_⟩
  rintro v H1 ⟨W1, S1, x, l1, rx, c1⟩
  exact ⟨W1, S1, x, rx, c1.pr⟩
theorem pd_op {a b : Expr} {op : Operator} {g : D → D → Pr} {wa wb : DE D} {pos : Pos} (ho : Op2 X (binaryOp op) g) (ha : PD X E a wa) (hb : PD X E b wb) : PD X E (.BinOp a op b pos) (wB2 g wa wb) :=
  PE.of (pe_op ho ha hb) fun _ _ _ h => lf_two h
theorem pd_cmp {a b : Expr} {op : CmpOp} {g : D → D → Pr} {wa wb : DE D} {pos : Pos} (ho : Op2 X (compareOp op) g) (ha : PD X E a wa) (hb : PD X E b wb) (hm : behindInMarks op b = false := by rfl) : PD X E (.Compare a [op] [b] pos) (wB2 g wa wb) :=
  PE.of (pe_cmpR ho ha hb hm) fun _ _ _ h => lf_two h
theorem pd_un {a : Expr} {op : UnaryOp} {g : D → Pr} {wa : DE D} {pos : Pos} (ho : UnR X (unaryOp op) (l1 X.K g)) (ha : PD X E a wa) : PD X E (.UnaryOp op a pos) (wB1 g wa) :=
  PE.of (pe_un ho ha) fun _ _ _ h => lf_one h

/-! ### lists, tuples, dicts that are read -/
def obL : Option Ob → Option (List D)
  | some (.lst ds) => some ds
  | _ => none
theorem obL_of {o : Option Ob} {ds : List D} (h : obL o = some ds) : o = some (.lst ds) := by
  unfold obL at h
  split at h
  · cases h
    rfl
  · cases h
def asL (S : Sto) : D → Option (List D)
  | .lst ds => some ds
  | .loc l => obL S[l]?
  | _ => none
def asT : D → Option (List D)
  | .tup ds => some ds
  | _ => none
def obD : Option Ob → Option (List (Key × D))
  | some (.dct ds) => some ds
  | _ => none
theorem obD_of {o : Option Ob} {ds : List (Key × D)} (h : obD o = some ds) : o = some (.dct ds) := by
  unfold obD at h
  split at h
  · cases h
    rfl
  · cases h
def asD (S : Sto) : D → Option (List (Key × D))
  | .dct ds => some ds
  | .loc l => obD S[l]?
  | _ => none
def obDT : Option Ob → Option (List (List Key × D))
  | some (.dcT ds) => some ds
  | _ => none
theorem obDT_of {o : Option Ob} {ds : List (List Key × D)} (h : obDT o = some ds) : o = some (.dcT ds) := by
  unfold obDT at h
  split at h
  · cases h
    rfl
  · cases h
def asDT (S : Sto) : D → Option (List (List Key × D))
  | .dcT ds => some ds
  | .loc l => obDT S[l]?
  | _ => none
/-- a list, a tuple, the script -/
def asS (S : Sto) : D → Option (List D)
  | .tup ds => some ds
  | .ktp ds => some ds
  | .scr ns => some (ns.map D.int)
  | d => asL S d
section
variable {K : PySem.W.Frag} {W : Wd} {S : Sto} {H : Hp} {d : D} {v : V} {ds : List D}
theorem asL_of (rl : Rl K W S H) (r : Rp K W d v) (h : asL S d = some ds) : ∃ a vs, v = .ref a ∧ H a = some (.lst vs) ∧ RL K W ds vs := by
  cases d with
  | lst es =>
    cases h
    obtain ⟨a, vs, e, q, t⟩ := r
    exact ⟨a, vs, e, rl.same _ _ q, RpL_iff.mp t⟩
  | loc l =>
    have e := obL_of (show obL S[l]? = some ds from h)
    obtain ⟨a, rfl, ha⟩ := r
    obtain ⟨b, u, hb, _, hu, vs, rfl, t⟩ := rl.at_ l _ e
    rw [ha] at hb
    cases hb
    exact ⟨a, vs, rfl, hu, t⟩
  | _ => cases h
theorem asD_of {ds : List (Key × D)} (rl : Rl K W S H) (r : Rp K W d v) (h : asD S d = some ds) : ∃ a vs, v = .ref a ∧ H a = some (.dK vs) ∧ RK K W ds vs := by
  cases d with
  | dct es =>
    cases h
    obtain ⟨a, vs, e, q, t⟩ := r
    exact ⟨a, vs, e, rl.same _ _ q, RpK_iff.mp t⟩
  | loc l =>
    have e := obD_of (show obD S[l]? = some ds from h)
    obtain ⟨a, rfl, ha⟩ := r
    obtain ⟨b, u, hb, _, hu, vs, rfl, t⟩ := rl.at_ l _ e
    rw [ha] at hb
    cases hb
    exact ⟨a, vs, rfl, hu, t⟩
  | _ => cases h
theorem asDT_of {ds : List (List Key × D)} (rl : Rl K W S H) (r : Rp K W d v) (h : asDT S d = some ds) : ∃ a vs, v = .ref a ∧ H a = some (.dT vs) ∧ RK K W ds vs := by
  cases d with
  | dcT es =>
    cases h
    obtain ⟨a, vs, e, q, t⟩ := r
    exact ⟨a, vs, e, rl.same _ _ q, RpT_iff.mp t⟩
  | loc l =>
    have e := obDT_of (show obDT S[l]? = some ds from h)
    obtain ⟨a, rfl, ha⟩ := r
    obtain ⟨b, u, hb, _, hu, vs, rfl, t⟩ := rl.at_ l _ e
    rw [ha] at hb
    cases hb
    exact ⟨a, vs, rfl, hu, t⟩
  | _ => cases h
theorem asT_of (rl : Rl K W S H) (r : Rp K W d v) (h : asT d = some ds) : ∃ a vs, v = .ref a ∧ H a = some (.tup vs) ∧ RL K W ds vs := by
  cases d with
  | tup es =>
    cases h
    obtain ⟨a, vs, e, q, t⟩ := r
    exact ⟨a, vs, e, rl.same _ _ q, RpL_iff.mp t⟩
  | _ => cases h
theorem RL.ints : ∀ ns : List Int, RL K W (ns.map D.int) (ns.map V.int)
  | [] => .nil
  | n :: ns => .cons rfl (RL.ints ns)
theorem RL.strs : ∀ ns : List Str, RL K W (ns.map D.str) (ns.map V.str)
  | [] => .nil
  | n :: ns => .cons rfl (RL.strs ns)
theorem RL.ints_inv : ∀ {ns : List Int} {vs : List V}, RL K W (ns.map D.int) vs → vs = ns.map V.int
  | [], _, .nil => rfl
  | n :: ns, _, .cons r t => by rw [show _ = V.int n from r, RL.ints_inv t, List.map_cons]
theorem RL.strs_inv : ∀ {ns : List Str} {vs : List V}, RL K W (ns.map D.str) vs → vs = ns.map V.str
  | [], _, .nil => rfl
  | n :: ns, _, .cons r t => by rw [show _ = V.str n from r, RL.strs_inv t, List.map_cons]
theorem asS_of (rl : Rl K W S H) (r : Rp K W d v) (h : asS S d = some ds) : ∃ a vs, v = .ref a ∧ (SqL K H a vs ∨ SqT K H a vs) ∧ RL K W ds vs := by
  cases d with
  | tup es =>
    cases h
    obtain ⟨a, vs, e, q, t⟩ := r
    exact ⟨a, vs, e, .inr (SqT.of (rl.same _ _ q)), RpL_iff.mp t⟩
  | ktp es =>
    cases h
    obtain ⟨a, vs, e, q, t⟩ := r
    exact ⟨a, vs, e, .inr (seqT rl.same q), RpL_iff.mp t⟩
  | scr ns =>
    cases h
    obtain ⟨a, e, q⟩ := r
    exact ⟨a, _, e, .inl (rl.same.seq q), RL.ints ns⟩
  | lst es =>
    obtain ⟨a, vs, e, q, t⟩ := asL_of rl r (show asL S (.lst es) = some ds from h)
    exact ⟨a, vs, e, .inl (SqL.of q), t⟩
  | loc l =>
    obtain ⟨a, vs, e, q, t⟩ := asL_of rl r (show asL S (.loc l) = some ds from h)
    exact ⟨a, vs, e, .inl (SqL.of q), t⟩
  | _ => cases h
/-- a new list by value -/
theorem Ct.newL {Q : VK} {es : List D} {vs : List V} (c : Ct K E0 (Rp K) W S H (fun Qd _ => Qd (.lst es) S) Q) (t : RL K W es vs) : ∀ p, H p = none → Q (.ref p) (upd H p (.lst vs)) := fun p hp => by
  obtain ⟨l, rl⟩ := c.rl.keep (o := .lst vs) hp
  exact c.done l rl ⟨p, vs, rfl, upd_same, RpL_iff.mpr (t.mono l)⟩
theorem Ct.newT {Q : VK} {es : List D} {vs : List V} (c : Ct K E0 (Rp K) W S H (fun Qd _ => Qd (.tup es) S) Q) (t : RL K W es vs) : ∀ p, H p = none → Q (.ref p) (upd H p (.tup vs)) := fun p hp => by
  obtain ⟨l, rl⟩ := c.rl.keep (o := .tup vs) hp
  exact c.done l rl ⟨p, vs, rfl, upd_same, RpL_iff.mpr (t.mono l)⟩
end
/-! ### arithmetic -/
def mulOk (i j : Int) : Prop := CMul i j ∨ CMulX i j
def dAdd (x y : D) : Pr := fun S Q => match x, y with
  | .int i, .int j => Q (.int (i + j)) S
  | .str a, .str b => a.length + b.length ≤ sizeLine ∧ Q (.str (a ++ b)) S
  | .tup a, .tup b => a.length + b.length ≤ sizeLine ∧ Q (.tup (a ++ b)) S
  | x, y => match asL S x, asL S y with
    | some a, some b => a.length + b.length ≤ sizeLine ∧ Q (.lst (a ++ b)) S
    | _, _ => False
def dSub (x y : D) : Pr := fun S Q => match x, y with
  | .int i, .int j => Q (.int (i - j)) S
  | _, _ => False
def dMul (x y : D) : Pr := fun S Q => match x, y with
  | .int i, .int j => mulOk i j ∧ Q (.int (i * j)) S
  | x, .int k => match asL S x with
    | some a => -(2 ^ 63) ≤ k ∧ k < 2 ^ 63 ∧ a.length * k.toNat ≤ sizeLine ∧ Q (.lst (List.replicate k.toNat a).flatten) S
    | _ => False
  | _, _ => False
def dFdiv (x y : D) : Pr := fun S Q => match x, y with
  | .int i, .int j => CDivW i j ∧ Q (.int (i / j)) S
  | _, _ => False
def dMod (x y : D) : Pr := fun S Q => match x, y with
  | .int i, .int j => 0 < j ∧ Q (.int (i % j)) S
  | _, _ => False
def dPow (x y : D) : Pr := fun S Q => match x, y with
  | .int i, .int j => CPow i j ∧ Q (.int (i ^ j.toNat)) S
  | _, _ => False
def dNeg (x : D) : Pr := fun S Q => match x with
  | .int i => Q (.int (-i)) S
  | _ => False
theorem Ct.and {K : PySem.W.Frag} {E : XK} {α β : Type} {R : Wd → α → β → Prop} {W : Wd} {S : Sto} {H : Hp} {P : Prop} {q : (α → Sto → Prop) → (Xn → Sto → Prop) → Prop} {Q : β → Hp → Prop} (c : Ct K E R W S H (fun Qd Ed => P ∧ q Qd Ed) Q) : P ∧ Ct K E R W S H q Q := by
  obtain ⟨rl, Qd, Ed, ⟨p, q⟩, hq, he⟩ := c
  exact ⟨p, rl, Qd, Ed, q, hq, he⟩
theorem o_int {f : Value → Value → Sem Value} {C : Int → Int → Prop} {k : Int → Int → V} {kd : Int → Int → D} {g : D → D → Pr} (h : OpR X f (rI C k)) (hk : ∀ W i j, Rp X.K W (kd i j) (k i j))
    (hg : ∀ x y S Q, g x y S Q → ∃ i j, x = .int i ∧ y = .int j ∧ C i j ∧ Q (kd i j) S) : Op2 X f g := by
  intro pins s σ H x y v u Q I rx ry ⟨W, S, d, e, rd, re, rl, Qd, Ed, q, hq, he⟩
  obtain ⟨i, j, rfl, rfl, c, q⟩ := hg _ _ _ _ q
  obtain rfl : x = V.int i := rd
  obtain rfl : y = V.int j := re
  exact h pins s σ H _ _ v u Q I rx ry ⟨i, j, rfl, rfl, c, hq W S H _ _ (Wd.le.refl W) rl (hk W i j) q⟩
theorem o_sub : Op2 X (binaryOp .Sub) dSub := o_int (C := fun _ _ => True) (k := fun i j => .int (i - j)) (kd := fun i j => .int (i - j)) (fun pins s σ H x y v u Q I rx ry ⟨i, j, e1, e2, _, q⟩ => op_sub pins s σ H x y v u Q I rx ry ⟨i, j, e1, e2, q⟩) (fun _ _ _ => rfl) fun x y S Q h => by
  unfold dSub at h
  split at h
  · exact ⟨_, _, rfl, rfl, trivial, h⟩
  · exact h.elim
theorem o_fdiv : Op2 X (binaryOp .FloorDiv) dFdiv := o_int (C := CDivW) (k := fun i j => .int (i / j)) (kd := fun i j => .int (i / j)) op_fdivW (fun _ _ _ => rfl) fun x y S Q h => by
  unfold dFdiv at h
  split at h
  · exact ⟨_, _, rfl, rfl, h⟩
  · exact h.elim
theorem o_mod : Op2 X (binaryOp .Mod) dMod := o_int (C := fun _ j => 0 < j) (k := fun i j => .int (i % j)) (kd := fun i j => .int (i % j)) op_mod (fun _ _ _ => rfl) fun x y S Q h => by
  unfold dMod at h
  split at h
  · exact ⟨_, _, rfl, rfl, h⟩
  · exact h.elim
theorem o_pow : Op2 X (binaryOp .Pow) dPow := o_int (C := CPow) (k := fun i j => .int (i ^ j.toNat)) (kd := fun i j => .int (i ^ j.toNat)) op_pow (fun _ _ _ => rfl) fun x y S Q h => by
  unfold dPow at h
  split at h
  · exact ⟨_, _, rfl, rfl, h⟩
  · exact h.elim
theorem u_neg : UnR X (unaryOp .USub) (l1 X.K dNeg) := by
  intro pins s σ H x v Q I rx ⟨W, S, d, rd, c⟩
  unfold dNeg at c
  split at c
  · rename_i i
    obtain rfl : x = V.int i := rd
    exact un_neg pins s σ H _ v Q I rx ⟨i, rfl, c.pure rfl⟩
  · exact c.no
theorem o_mul : Op2 X (binaryOp .Mult) dMul := by
  intro pins s σ H x y v u Q I rx ry ⟨W, S, d, e, rd, re, c⟩
  unfold dMul at c
  split at c
  · rename_i i j
    obtain ⟨m, c⟩ := c.and
    obtain rfl : x = V.int i := rd
    obtain rfl : y = V.int j := re
    rcases m with m | m
    · exact op_mul pins s σ H _ _ v u Q I rx ry ⟨i, j, rfl, rfl, m, c.pure rfl⟩
    · exact op_mulX pins s σ H _ _ v u Q I rx ry ⟨i, j, rfl, rfl, m, c.pure rfl⟩
  · rename_i k hx
    obtain rfl : y = V.int k := re
    split at c
    · rename_i a ea
      obtain ⟨b1, c⟩ := c.and
      obtain ⟨b2, c⟩ := c.and
      obtain ⟨b3, c⟩ := c.and
      obtain ⟨p, vs, rfl, hp, t⟩ := asL_of c.rl rd ea
      refine op_rep pins s σ H _ _ v u Q I rx ry ⟨p, k, vs, rfl, rfl, hp, b1, b2, by rw [← Paired.length t]; exact b3, c.newL ?_⟩
      have rp : ∀ n : Nat, RL X.K W (List.replicate n a).flatten (List.replicate n vs).flatten := fun n => by
        induction n with
        | zero => exact .nil
        | succ n ih =>
          rw [List.replicate_succ, List.replicate_succ, List.flatten_cons, List.flatten_cons]
          exact Paired.app t ih
      exact rp _
    · exact c.no
  · exact c.no
theorem o_add : Op2 X (binaryOp .Add) dAdd := by
  intro pins s σ H x y v u Q I rx ry ⟨W, S, d, e, rd, re, c⟩
  unfold dAdd at c
  split at c
  · rename_i i j
    obtain rfl : x = V.int i := rd
    obtain rfl : y = V.int j := re
    exact op_add pins s σ H _ _ v u Q I rx ry ⟨i, j, rfl, rfl, c.pure rfl⟩
  · rename_i i j
    obtain rfl : x = V.str i := rd
    obtain rfl : y = V.str j := re
    obtain ⟨b, c⟩ := c.and
    exact op_add_str pins s σ H _ _ v u Q I rx ry ⟨i, j, rfl, rfl, b, c.pure rfl⟩
  · rename_i a b
    obtain ⟨hl, c⟩ := c.and
    obtain ⟨p, vs, rfl, hp, t⟩ := asT_of (ds := a) c.rl rd rfl
    obtain ⟨q, ws, rfl, hq, t'⟩ := asT_of (ds := b) c.rl re rfl
    refine op_catA pins s σ H _ _ v u Q I rx ry ⟨p, q, vs, ws, rfl, rfl, SqT.of hp, SqT.of hq, by rw [← Paired.length t, ← Paired.length t']; exact hl, fun e => ?_, fun _ e => ?_, fun _ _ => c.newT (Paired.app t t')⟩
    · subst e
      cases t
      exact c.pure re
    · subst e
      cases t'
      rw [List.append_nil] at c
      exact c.pure rd
  · split at c
    · rename_i a b ea eb
      obtain ⟨hl, c⟩ := c.and
      obtain ⟨p, vs, rfl, hp, t⟩ := asL_of c.rl rd ea
      obtain ⟨q, ws, rfl, hq, t'⟩ := asL_of c.rl re eb
      exact op_cat pins s σ H _ _ v u Q I rx ry ⟨p, q, vs, ws, rfl, rfl, hp, hq, by rw [← Paired.length t, ← Paired.length t']; exact hl, c.newL (Paired.app t t')⟩
    · exact c.no
end
end DL

set_option Elab.async false
set_option linter.all false
set_option maxRecDepth 100000
/-! comparisons, tests -/
namespace DL
open PySem PySem.Spec PyProof.Rows L2

mutual
def toPy : D → PyData
  | .non => .none
  | .bl b => .bool b
  | .int i => .int i
  | .str x => .str x
  | .tup ds => .tuple (toPyL ds)
  | .ktp ds => .tuple (toPyL ds)
  | .lst ds => .list (toPyL ds)
  | .scr ns => .list (ns.map .int)
  | .dct _ => .dict []
  | .dcT _ => .dict []
  | .loc _ => .dict []
  | .gl _ => .dict []
  | .ty _ => .dict []
termination_by structural d => d
def toPyL : List D → List PyData
  | [] => []
  | d :: ds => toPy d :: toPyL ds
termination_by structural d => d
end
def okD (d : D) : Bool := SeqAt.shaped (toPy d)
def eqD (a b : D) : Bool := PyData.eqv (toPy a) (toPy b)
def eqL (a b : List D) : Bool := PyData.eqvAll (toPyL a) (toPyL b)
/-- a living list as a value -/
def bv (S : Sto) (d : D) : D := match asL S d with
  | some ds => .lst ds
  | none => d
section
variable {K : PySem.W.Frag} {W : Wd} {S : Sto} {H : Hp}
theorem Dp.ints {K : PySem.W.Frag} {H : Hp} : ∀ ns : List Int, DpAll K H (ns.map V.int) (ns.map PyData.int)
  | [] => .nil
  | n :: ns => .cons (.int n) (Dp.ints ns)
mutual
theorem dp_of (rl : Rl K W S H) : ∀ (d : D) (v : V), Rp K W d v → (toPy d).canLay0 = true → Dp K H v (toPy d)
  | .non, _, r, _ => by rw [show _ = V.non from r]; exact .non
  | .bl b, _, r, _ => by rw [show _ = V.bl b from r]; exact .bl b
  | .int b, _, r, _ => by rw [show _ = V.int b from r]; exact .int b
  | .str b, _, r, _ => by rw [show _ = V.str b from r]; exact .str b
  | .tup ds, _, ⟨a, vs, e, q, t⟩, h => by
    rw [e]
    exact .tup (SqT.of (rl.same _ _ q)) (dp_all rl ds vs t (by simpa [toPy, PyData.canLay0] using h))
  | .ktp ds, _, ⟨a, vs, e, q, t⟩, h => by
    rw [e]
    exact .tup (seqT rl.same q) (dp_all rl ds vs t (by simpa [toPy, PyData.canLay0] using h))
  | .lst ds, _, ⟨a, vs, e, q, t⟩, h => by
    rw [e]
    exact .lst (SqL.of (rl.same _ _ q)) (dp_all rl ds vs t (by simpa [toPy, PyData.canLay0] using h))
  | .scr ns, _, ⟨a, e, q⟩, _ => by
    rw [e]
    exact .lst (rl.same.seq q) (Dp.ints ns)
  | .dct _, _, _, h => by simp [toPy, PyData.canLay0] at h
  | .dcT _, _, _, h => by simp [toPy, PyData.canLay0] at h
  | .loc _, _, _, h => by simp [toPy, PyData.canLay0] at h
  | .gl _, _, _, h => by simp [toPy, PyData.canLay0] at h
  | .ty _, _, _, h => by simp [toPy, PyData.canLay0] at h
termination_by structural d => d
theorem dp_all (rl : Rl K W S H) : ∀ (ds : List D) (vs : List V), RpL K W ds vs → PyData.canLayAll0 (toPyL ds) = true → DpAll K H vs (toPyL ds)
  | [], vs, r, _ => by rw [show vs = [] from r]; exact .nil
  | d :: ds, vs, ⟨v, q, e, r, t⟩, h => by
    have h' : (toPy d).canLay0 = true ∧ PyData.canLayAll0 (toPyL ds) = true := by simpa [toPyL, PyData.canLayAll0] using h
    rw [e]
    exact .cons (dp_of rl d v r h'.1) (dp_all rl ds q t h'.2)
termination_by structural d => d
end
theorem bv_of {d : D} {v : V} (rl : Rl K W S H) (r : Rp K W d v) (h : okD (bv S d) = true) : Dp K H v (toPy (bv S d)) := by
  have hc : (toPy (bv S d)).canLay0 = true := SeqAt.canLay_of_shaped h
  cases e : asL S d with
  | some ds =>
    have eb : bv S d = .lst ds := by
      unfold bv
      rw [e]
    rw [eb] at hc ⊢
    obtain ⟨a, vs, rfl, q, t⟩ := asL_of rl r e
    exact .lst (SqL.of q) (dp_all rl ds vs (RpL_iff.mpr t) (by simpa [toPy, PyData.canLay0] using hc))
  | none =>
    have eb : bv S d = d := by
      unfold bv
      rw [e]
    rw [eb] at hc ⊢
    exact dp_of rl d v r hc
end
def dEq (x y : D) : Pr := fun S Q => okD (bv S x) = true ∧ okD (bv S y) = true ∧ Q (.bl (eqD (bv S x) (bv S y))) S
def dNe (x y : D) : Pr := fun S Q => okD (bv S x) = true ∧ okD (bv S y) = true ∧ Q (.bl (!eqD (bv S x) (bv S y))) S
def strLt (a b : Str) : Bool := decide (a.cps.toList < b.cps.toList)
def dLt (x y : D) : Pr := fun S Q => match x, y with
  | .int i, .int j => Q (.bl (decide (i < j))) S
  | .str i, .str j => Q (.bl (strLt i j)) S
  | _, _ => False
def dLe (x y : D) : Pr := fun S Q => match x, y with
  | .int i, .int j => Q (.bl (decide (i ≤ j))) S
  | .str i, .str j => Q (.bl (!strLt j i)) S
  | _, _ => False
def dGt (x y : D) : Pr := fun S Q => match x, y with
  | .int i, .int j => Q (.bl (decide (j < i))) S
  | .str i, .str j => Q (.bl (strLt j i)) S
  | _, _ => False
def dGe (x y : D) : Pr := fun S Q => match x, y with
  | .int i, .int j => Q (.bl (decide (j ≤ i))) S
  | .str i, .str j => Q (.bl (!strLt i j)) S
  | _, _ => False
def flatD : D → Bool
  | .non => true
  | .bl _ => true
  | .int _ => true
  | .str _ => true
  | _ => false
def isNon : D → Bool
  | .non => true
  | _ => false
def dIs (x y : D) : Pr := fun S Q => match x, y with
  | x, .non => Q (.bl (isNon x)) S
  | .bl a, .bl b => Q (.bl (decide (a = b))) S
  | _, _ => False
def dIsNot (x y : D) : Pr := fun S Q => match x, y with
  | x, .non => Q (.bl (!isNon x)) S
  | .bl a, .bl b => Q (.bl (!decide (a = b))) S
  | _, _ => False
/-- a key -/
def asK : D → Option Key
  | .int i => some (.inl i)
  | .str x => some (.inr x)
  | _ => none
/-- a tuple of keys as a key -/
def asKs : List D → Option (List Key)
  | [] => some []
  | d :: ds => match asK d, asKs ds with
    | some k, some ks => some (k :: ks)
    | _, _ => none
def asKT : D → Option (List Key)
  | .tup ds => asKs ds
  | _ => none
def valD {κ : Type} [DecidableEq κ] (kvs : List (κ × D)) (k : κ) : Option D := (kvs.find? fun kv => decide (kv.1 = k)).map (·.2)
def inL (x : D) (ds : List D) : Bool := ds.any fun y => eqD y x
def dIn (neg : Bool) (x y : D) : Pr := fun S Q => match asS S y with
  | some ds => flatD x = true ∧ ds.all flatD = true ∧ Q (.bl (if neg then !inL x ds else inL x ds)) S
  | none => match asD S y with
    | some kvs => ∃ k, asK x = some k ∧ Q (.bl (if neg then !(valD kvs k).isSome else (valD kvs k).isSome)) S
    | none => match asDT S y with
      | some kvs => ∃ k, asKT x = some k ∧ Q (.bl (if neg then !(valD kvs k).isSome else (valD kvs k).isSome)) S
      | none => match x, y with
        | .str a, .str b => ∃ c, a = ⟨#[c]⟩ ∧ Q (.bl (if neg then !decide (c ∈ b.cps.toList) else decide (c ∈ b.cps.toList))) S
        | _, _ => False
section
variable {X : Cx} {E : XK}
theorem o_eq (c : Cn X E) : Op2 X (compareOp .Eq) dEq := by
  intro pins s σ H x y v u Q I rx ry ⟨W, S, d, e, rd, re, rl, Qd, Ed, ⟨h1, h2, q⟩, hq, he⟩
  exact op_eqD c.hu pins s σ H x y v u Q I rx ry ⟨_, _, bv_of rl rd h1, bv_of rl re h2, h1, h2, hq W S H _ _ (Wd.le.refl W) rl rbl q⟩
theorem o_ne (c : Cn X E) : Op2 X (compareOp .NotEq) dNe := by
  intro pins s σ H x y v u Q I rx ry ⟨W, S, d, e, rd, re, rl, Qd, Ed, ⟨h1, h2, q⟩, hq, he⟩
  exact op_neD c.hu pins s σ H x y v u Q I rx ry ⟨_, _, bv_of rl rd h1, bv_of rl re h2, h1, h2, hq W S H _ _ (Wd.le.refl W) rl rbl q⟩
theorem o_ord {op : CmpOp} {g : D → D → Pr} {ki : Int → Int → Bool} {ks : Str → Str → Bool} (hi : OpR X (compareOp op) (rI0 fun i j => .bl (ki i j)))
    (hs : OpR X (compareOp op) (fun x y H Q => ∃ i j, x = .str i ∧ y = .str j ∧ Q (.bl (ks i j)) H))
    (hg : ∀ x y S Q, g x y S Q → (∃ i j, x = .int i ∧ y = .int j ∧ Q (.bl (ki i j)) S) ∨ ∃ i j, x = .str i ∧ y = .str j ∧ Q (.bl (ks i j)) S) : Op2 X (compareOp op) g := by
  intro pins s σ H x y v u Q I rx ry ⟨W, S, d, e, rd, re, rl, Qd, Ed, q, hq, he⟩
  rcases hg _ _ _ _ q with ⟨i, j, rfl, rfl, q'⟩ | ⟨i, j, rfl, rfl, q'⟩
  · obtain rfl : x = V.int i := rd
    obtain rfl : y = V.int j := re
    exact hi pins s σ H _ _ v u Q I rx ry ⟨i, j, rfl, rfl, hq W S H _ _ (Wd.le.refl W) rl rbl q'⟩
  · obtain rfl : x = V.str i := rd
    obtain rfl : y = V.str j := re
    exact hs pins s σ H _ _ v u Q I rx ry ⟨i, j, rfl, rfl, hq W S H _ _ (Wd.le.refl W) rl rbl q'⟩
theorem o_lt : Op2 X (compareOp .Lt) dLt := o_ord (ki := fun i j => decide (i < j)) (ks := strLt) op_lt op_lt_str fun x y S Q h => by
  unfold dLt at h
  split at h
  · exact .inl ⟨_, _, rfl, rfl, h⟩
  · exact .inr ⟨_, _, rfl, rfl, h⟩
  · exact h.elim
theorem o_le : Op2 X (compareOp .LtE) dLe := o_ord (ki := fun i j => decide (i ≤ j)) (ks := fun i j => !strLt j i) op_le op_le_str fun x y S Q h => by
  unfold dLe at h
  split at h
  · exact .inl ⟨_, _, rfl, rfl, h⟩
  · exact .inr ⟨_, _, rfl, rfl, h⟩
  · exact h.elim
theorem o_gt : Op2 X (compareOp .Gt) dGt := o_ord (ki := fun i j => decide (j < i)) (ks := fun i j => strLt j i) op_gt op_gt_str fun x y S Q h => by
  unfold dGt at h
  split at h
  · exact .inl ⟨_, _, rfl, rfl, h⟩
  · exact .inr ⟨_, _, rfl, rfl, h⟩
  · exact h.elim
theorem o_ge : Op2 X (compareOp .GtE) dGe := o_ord (ki := fun i j => decide (j ≤ i)) (ks := fun i j => !strLt i j) op_ge op_ge_str fun x y S Q h => by
  unfold dGe at h
  split at h
  · exact .inl ⟨_, _, rfl, rfl, h⟩
  · exact .inr ⟨_, _, rfl, rfl, h⟩
  · exact h.elim
theorem isNon_of {K : PySem.W.Frag} {W : Wd} {d : D} {v : V} (r : Rp K W d v) : decide (v = .non) = isNon d := by
  cases d with
  | non => rw [show v = V.non from r]; rfl
  | bl b => rw [show v = V.bl b from r]; rfl
  | int b => rw [show v = V.int b from r]; rfl
  | str b => rw [show v = V.str b from r]; rfl
  | ty b => rw [show v = V.ty b from r]; rfl
  | gl b => rw [show v = V.ref b from r]; rfl
  | loc l => obtain ⟨a, rfl, _⟩ := r; rfl
  | tup l => obtain ⟨a, _, rfl, _⟩ := r; rfl
  | ktp l => obtain ⟨a, _, rfl, _⟩ := r; rfl
  | lst l => obtain ⟨a, _, rfl, _⟩ := r; rfl
  | dct l => obtain ⟨a, _, rfl, _⟩ := r; rfl
  | dcT l => obtain ⟨a, _, rfl, _⟩ := r; rfl
  | scr l => obtain ⟨a, rfl, _⟩ := r; rfl
theorem o_is : Op2 X (compareOp .Is) dIs := by
  intro pins s σ H x y v u Q I rx ry ⟨W, S, d, e, rd, re, c⟩
  unfold dIs at c
  split at c
  · obtain rfl : y = V.non := re
    exact op_isN pins s σ H x _ v u Q I rx ry ⟨rfl, by rw [isNon_of rd]; exact c.pure rfl⟩
  · rename_i a b
    obtain rfl : x = V.bl a := rd
    obtain rfl : y = V.bl b := re
    exact op_is_bl pins s σ H _ _ v u Q I rx ry ⟨a, b, rfl, rfl, c.pure rfl⟩
  · exact c.no
theorem o_isNot : Op2 X (compareOp .IsNot) dIsNot := by
  intro pins s σ H x y v u Q I rx ry ⟨W, S, d, e, rd, re, c⟩
  unfold dIsNot at c
  split at c
  · obtain rfl : y = V.non := re
    exact op_notN pins s σ H x _ v u Q I rx ry ⟨rfl, by rw [isNon_of rd]; exact c.pure rfl⟩
  · rename_i a b
    obtain rfl : x = V.bl a := rd
    obtain rfl : y = V.bl b := re
    exact op_isnot_bl pins s σ H _ _ v u Q I rx ry ⟨a, b, rfl, rfl, c.pure rfl⟩
  · exact c.no
/-! ### in -/
theorem flat_of {K : PySem.W.Frag} {W : Wd} {d : D} {v : V} (r : Rp K W d v) (h : flatD d = true) : flatV v = true := by
  cases d with
  | non => rw [show v = V.non from r]; rfl
  | bl b => rw [show v = V.bl b from r]; rfl
  | int b => rw [show v = V.int b from r]; rfl
  | str b => rw [show v = V.str b from r]; rfl
  | _ => cases h
theorem eqV_of {K : PySem.W.Frag} {W : Wd} {d e : D} {v u : V} (r : Rp K W d v) (q : Rp K W e u) (h : flatD d = true) (h' : flatD e = true) : eqV v u = eqD d e := by
  cases d with
  | non => cases e with
    | non => rw [show v = V.non from r, show u = V.non from q]; rfl
    | bl b => rw [show v = V.non from r, show u = V.bl b from q]; rfl
    | int b => rw [show v = V.non from r, show u = V.int b from q]; rfl
    | str b => rw [show v = V.non from r, show u = V.str b from q]; rfl
    | _ => cases h'
  | bl a => cases e with
    | non => rw [show v = V.bl a from r, show u = V.non from q]; rfl
    | bl b => rw [show v = V.bl a from r, show u = V.bl b from q]; rfl
    | int b => rw [show v = V.bl a from r, show u = V.int b from q]; rfl
    | str b => rw [show v = V.bl a from r, show u = V.str b from q]; rfl
    | _ => cases h'
  | int a => cases e with
    | non => rw [show v = V.int a from r, show u = V.non from q]; rfl
    | bl b => rw [show v = V.int a from r, show u = V.bl b from q]; rfl
    | int b => rw [show v = V.int a from r, show u = V.int b from q]; rfl
    | str b => rw [show v = V.int a from r, show u = V.str b from q]; rfl
    | _ => cases h'
  | str a => cases e with
    | non => rw [show v = V.str a from r, show u = V.non from q]; rfl
    | bl b => rw [show v = V.str a from r, show u = V.bl b from q]; rfl
    | int b => rw [show v = V.str a from r, show u = V.int b from q]; rfl
    | str b => rw [show v = V.str a from r, show u = V.str b from q]; rfl
    | _ => cases h'
  | _ => cases h
theorem flats_of {K : PySem.W.Frag} {W : Wd} : ∀ {ds : List D} {vs : List V}, RL K W ds vs → ds.all flatD = true → vs.all flatV = true
  | _, _, .nil, _ => rfl
  | d :: ds, v :: vs, .cons r t, h => by
    rw [List.all_cons, Bool.and_eq_true] at h ⊢
    exact ⟨flat_of r h.1, flats_of t h.2⟩
theorem inV_of {K : PySem.W.Frag} {W : Wd} {d : D} {v : V} (r : Rp K W d v) (h : flatD d = true) : ∀ {ds : List D} {vs : List V}, RL K W ds vs → ds.all flatD = true → inV v vs = inL d ds
  | _, _, .nil, _ => rfl
  | e :: ds, u :: vs, .cons q t, h' => by
    rw [List.all_cons, Bool.and_eq_true] at h'
    unfold inV inL
    rw [List.any_cons, List.any_cons, eqV_of q r h'.1 h]
    congr 1
    exact inV_of r h t h'.2
theorem key_of {K : PySem.W.Frag} {W : Wd} {d : D} {v : V} {k : Key} (r : Rp K W d v) (h : asK d = some k) : v = kV k := by
  cases d with
  | int i => cases h; exact r
  | str i => cases h; exact r
  | _ => cases h
theorem val_of {K : PySem.W.Frag} {W : Wd} {κ : Type} [DecidableEq κ] {k : κ} : ∀ {ds : List (κ × D)} {vs : List (κ × V)}, RK K W ds vs →
    (valD ds k = none ∧ valV vs k = none) ∨ ∃ d v, valD ds k = some d ∧ valV vs k = some v ∧ Rp K W d v
  | _, _, .nil => .inl ⟨rfl, rfl⟩
  | (a, d) :: ds, (b, v) :: vs, .cons r t => by
    obtain ⟨e, r⟩ := r
    have e : b = a := e
    subst e
    unfold valD valV
    rw [List.find?_cons, List.find?_cons]
    by_cases h : b = k
    · simp only [h, decide_true]
      exact .inr ⟨d, v, rfl, rfl, r⟩
    · simp only [h, decide_false]
      exact val_of t
theorem val_isSome {K : PySem.W.Frag} {W : Wd} {κ : Type} [DecidableEq κ] {ds : List (κ × D)} {vs : List (κ × V)} (t : RK K W ds vs) (k : κ) : (valV vs k).isSome = (valD ds k).isSome := by
  rcases val_of (k := k) t with ⟨e1, e2⟩ | ⟨_, _, e1, e2, _⟩
  · rw [e1, e2]
    rfl
  · rw [e1, e2]
    rfl
theorem keys_of {K : PySem.W.Frag} {W : Wd} : ∀ {ds : List D} {vs : List V} {ks : List Key}, RL K W ds vs → asKs ds = some ks → vs = ks.map kV
  | _, _, ks, .nil, h => by cases h; rfl
  | d :: ds, v :: vs, ks, .cons r t, h => by
    unfold asKs at h
    split at h
    · rename_i k ks' e1 e2
      cases h
      rw [List.map_cons, key_of r e1, keys_of t e2]
    · cases h
theorem keyT_of {K : PySem.W.Frag} {W : Wd} {S : Sto} {H : Hp} {d : D} {v : V} {k : List Key} (rl : Rl K W S H) (r : Rp K W d v) (h : asKT d = some k) : ∃ b, v = .ref b ∧ H b = some (.tup (k.map kV)) := by
  cases d with
  | tup ds =>
    obtain ⟨a, vs, e, q, t⟩ := r
    refine ⟨a, e, ?_⟩
    rw [← keys_of (RpL_iff.mp t) h]
    exact rl.same _ _ q
  | _ => cases h
theorem in_dict {pins : List (Addr × Obj)} {s : Shared} {σ : L2.St} {H : Hp} {y : V} {a : Addr} {v u : Value} {Q : VK} {r : Option V} {z : Bool} (e : r.isSome = z) (c : Cn X E) (I : Inv X pins σ H s) (ry : RelV y v) (ra : RelV (.ref a) u) (g : DGet H a y r)
    (neg : Bool) {op : CmpOp} (hop : op = if neg then .NotIn else .In) (q : ∀ b, b = V.bl (if neg then !z else z) → Q b H) : wpAny (model X.prog X.w) X.A (compareOp op v u) (EP X pins σ Q) X.xe s := by
  have hu : X.A.units + 1 < cLine := Nat.lt_of_le_of_lt (Nat.add_le_add_left (by decide : 1 ≤ 64) _) c.hu
  obtain rfl : u = Value.ref a := ra
  subst e
  cases neg with
  | false =>
    subst hop
    exact d_in hu I g ry fun s3 I3 => ⟨.bl r.isSome, H, I3, rfl, q _ rfl⟩
  | true =>
    subst hop
    exact d_notIn hu I g ry fun s3 I3 => ⟨.bl (!r.isSome), H, I3, rfl, q _ rfl⟩
theorem o_in (hc : Cn X E) (neg : Bool) (op : CmpOp) (hop : op = if neg then .NotIn else .In) : Op2 X (compareOp op) (dIn neg) := by
  intro pins s σ H x y v u Q I rx ry ⟨W, S, d, e, rd, re, c⟩
  unfold dIn at c
  split at c
  · rename_i ds ea
    obtain ⟨f1, c⟩ := c.and
    obtain ⟨f2, c⟩ := c.and
    obtain ⟨p, vs, rfl, hp, t⟩ := asS_of c.rl re ea
    have fx := flat_of rd f1
    have fs := flats_of t f2
    have ei := inV_of rd f1 t f2
    cases neg with
    | false =>
      subst hop
      exact op_in_seq pins s σ H _ _ v u Q I rx ry ⟨p, vs, rfl, hp, fx, fs, by rw [ei]; exact c.pure rfl⟩
    | true =>
      subst hop
      exact op_notIn_seq pins s σ H _ _ v u Q I rx ry ⟨p, vs, rfl, hp, fx, fs, by rw [ei]; exact c.pure rfl⟩
  · split at c
    · rename_i kvs ea
      obtain ⟨rl, Qd, Ed, ⟨k, hk, q⟩, hq, he⟩ := c
      obtain ⟨p, vs, rfl, hp, t⟩ := asD_of rl re ea
      obtain rfl := key_of rd hk
      exact in_dict (val_isSome t k) hc I rx ry (.inl ⟨vs, k, .inl hp, rfl, rfl⟩) neg hop (fun b eb => hq W S H _ _ (Wd.le.refl W) rl (by rw [eb]; exact rbl) q)
    · split at c
      · rename_i kvs ea
        obtain ⟨rl, Qd, Ed, ⟨k, hk, q⟩, hq, he⟩ := c
        obtain ⟨p, vs, rfl, hp, t⟩ := asDT_of rl re ea
        obtain ⟨b, rfl, hb⟩ := keyT_of rl rd hk
        exact in_dict (val_isSome t k) hc I rx ry (.inr ⟨vs, k, b, .inl hp, rfl, hb, rfl⟩) neg hop (fun b eb => hq W S H _ _ (Wd.le.refl W) rl (by rw [eb]; exact rbl) q)
      · split at c
        · rename_i a b _ _ _
          obtain rfl : x = V.str a := rd
          obtain rfl : y = V.str b := re
          obtain ⟨rl, Qd, Ed, ⟨k, hk, q⟩, hq, he⟩ := c
          cases neg with
          | false =>
            subst hop
            exact op_in_sign pins s σ H _ _ v u Q I rx ry ⟨k, b, by rw [hk], rfl, hq W S H _ _ (Wd.le.refl W) rl rbl q⟩
          | true =>
            subst hop
            exact op_notIn_sign pins s σ H _ _ v u Q I rx ry ⟨k, b, by rw [hk], rfl, hq W S H _ _ (Wd.le.refl W) rl rbl q⟩
        · exact c.no
end
end DL

set_option Elab.async false
set_option linter.all false
set_option maxRecDepth 100000
/-! tests, and, or, not, if, chains -/
namespace DL
open PySem PySem.Spec PyProof.Rows L2

def asB : D → Option Bool
  | .bl b => some b
  | _ => none
/-- an expression's value as a test: it must be a bool -/
def wT (a : DE D) : DE Bool := fun ρ S Q Ex => a ρ S (fun x S1 => match x with
  | .bl b => Q b S1
  | _ => False) Ex
def wAnd (a b : DE Bool) : DE Bool := fun ρ S Q Ex => a ρ S (fun c S1 => if c = true then b ρ S1 Q Ex else Q false S1) Ex
def wOr (a b : DE Bool) : DE Bool := fun ρ S Q Ex => a ρ S (fun c S1 => if c = true then Q true S1 else b ρ S1 Q Ex) Ex
def wNot (a : DE Bool) : DE Bool := fun ρ S Q Ex => a ρ S (fun c S1 => Q (!c) S1) Ex
def wIf {α : Type} (t : DE Bool) (a b : DE α) : DE α := fun ρ S Q Ex => t ρ S (fun c S1 => if c = true then a ρ S1 Q Ex else b ρ S1 Q Ex) Ex
/-- .. as values -/
def wB (t : DE Bool) : DE D := fun ρ S Q Ex => t ρ S (fun c S1 => Q (.bl c) S1) Ex
/-- a op1 b op2 c -/
def onB (z : D) (t f : Prop) : Prop := match z with
  | .bl b => if b = true then t else f
  | _ => False
def wChain (f g : D → D → Pr) (a b c : DE D) : DE D := fun ρ S Q Ex => a ρ S (fun x S1 => b ρ S1 (fun y S2 => f x y S2 fun z S3 => onB z (c ρ S3 (fun u S4 => g y u S4 Q) Ex) (Q (.bl false) S3)) Ex) Ex
section
variable {X : Cx} {E : XK}
/-- a bool's test -/
theorem Ct.test {K : PySem.W.Frag} {W : Wd} {S : Sto} {H : Hp} {w : (D → Sto → Prop) → (Xn → Sto → Prop) → Prop} {Q : Bool → Hp → Prop}
    (h : Ct K E rBool W S H (fun Qd Ed => w (fun x S1 => match x with
      | .bl b => Qd b S1
      | _ => False) Ed) Q) : Ct K E (Rp K) W S H w (fun x H1 => ∃ k, x = .bl k ∧ Q k H1) := by
  obtain ⟨rl, Qd, Ed, q, hq, he⟩ := h
  refine ⟨rl, _, Ed, q, fun W1 S1 H1 d v l r rv z => ?_, he⟩
  split at z
  · rename_i b
    exact ⟨b, rv, hq W1 S1 H1 _ _ l r rfl z⟩
  · exact z.elim
theorem pdt_val {e : Expr} {w : DE D} (h : PD X E e w) (he : ∀ whole, isTrue e X.env whole = (do let v ← whole; standAt e.pos; holding [v] (truthy v)) := by intro _; rfl) : PDT X E e (wT w) :=
  PT.of (pt_val h he) fun σ H Q ⟨W, ρ, S, re, c⟩ => ⟨W, ρ, S, re, c.test⟩
theorem pdt_cmp {a b : Expr} {op : CmpOp} {g : D → D → Pr} {wa wb : DE D} {pos : Pos} (ho : Op2 X (compareOp op) g) (ha : PD X E a wa) (hb : PD X E b wb) (hm : behindInMarks op b = false := by rfl) : PDT X E (.Compare a [op] [b] pos) (wT (wB2 g wa wb)) :=
  PT.of (pt_cmpR ho ha hb hm) fun σ H Q ⟨W, ρ, S, re, c⟩ => lf_two ⟨W, ρ, S, re, c.test⟩
theorem lf_bindB {K : PySem.W.Frag} {α β : Type} {R : Wd → α → β → Prop} {a : DE Bool} {k : Bool → DE α} {σ : L2.St} {H : Hp} {Q : β → Hp → Prop}
    (h : lf K E R (fun ρ S Qd Ed => a ρ S (fun c S1 => k c ρ S1 Qd Ed) Ed) σ H Q) : lf K E rBool a σ H (fun c H1 => lf K E R (k c) σ H1 Q) := by
  obtain ⟨W, ρ, S, re, c⟩ := h
  refine ⟨W, ρ, S, re, (Ct.bind (k := fun x S1 Qd Ed => k x ρ S1 Qd Ed) c).imp (fun _ _ z => z) ?_⟩
  rintro v H1 ⟨W1, S1, x, l1, rx, c1⟩
  have rx : x = v := rx
  subst rx
  exact ⟨W1, ρ, S1, re.mono l1, c1⟩
theorem lf_pureB {K : PySem.W.Frag} {b : Bool} {σ : L2.St} {H : Hp} {Q : Bool → Hp → Prop} (h : lf K E rBool (fun _ S Qd _ => Qd b S) σ H Q) : Q b H := by
  obtain ⟨W, ρ, S, re, c⟩ := h
  exact c.pure rfl
theorem lf_pureV {K : PySem.W.Frag} {b : Bool} {σ : L2.St} {H : Hp} {Q : VK} (h : lf K E (Rp K) (fun _ S Qd _ => Qd (.bl b) S) σ H Q) : Q (.bl b) H := by
  obtain ⟨W, ρ, S, re, c⟩ := h
  exact c.pure rfl
variable {a b : Expr} {rest : List Expr} {wa wb : DE Bool} {pos : Pos}
theorem pdw_and1 (ha : PDT X E a wa) : PDW X E (.BoolOp .And [a] pos) wa := pw_and1 ha
theorem pdw_or1 (ha : PDT X E a wa) : PDW X E (.BoolOp .Or [a] pos) wa := pw_or1 ha
theorem pdw_and (ha : PDT X E a wa) (hb : PDW X E (.BoolOp .And (b :: rest) pos) wb) : PDW X E (.BoolOp .And (a :: b :: rest) pos) (wAnd wa wb) := by
  refine PW.of (pw_and ha hb) fun σ H Q h => ?_
  have h := lf_bindB (k := fun c ρ S Qd Ed => if c = true then wb ρ S Qd Ed else Qd false S) h
  obtain ⟨W, ρ, S, re, c⟩ := h
  refine ⟨W, ρ, S, re, c.imp (fun _ _ z => z) fun k H1 z => ?_⟩
  cases k with
  | true => exact z
  | false => exact lf_pureB (E := E) z
theorem pdw_or (ha : PDT X E a wa) (hb : PDW X E (.BoolOp .Or (b :: rest) pos) wb) : PDW X E (.BoolOp .Or (a :: b :: rest) pos) (wOr wa wb) := by
  refine PW.of (pw_or ha hb) fun σ H Q h => ?_
  have h := lf_bindB (k := fun c ρ S Qd Ed => if c = true then Qd true S else wb ρ S Qd Ed) h
  obtain ⟨W, ρ, S, re, c⟩ := h
  refine ⟨W, ρ, S, re, c.imp (fun _ _ z => z) fun k H1 z => ?_⟩
  cases k with
  | true => exact lf_pureB (E := E) z
  | false => exact z
theorem pdt_w {e : Expr} {w : DE Bool} (h : PDW X E e w) : PDT X E e w := PW.pt h
theorem pdt_not (ha : PDT X E a wa) : PDT X E (.UnaryOp .Not a pos) (wNot wa) := by
  refine PT.of (pt_not ha) fun σ H Q h => ?_
  have h := lf_bindB (k := fun c ρ S Qd Ed => Qd (!c) S) h
  obtain ⟨W, ρ, S, re, c⟩ := h
  exact ⟨W, ρ, S, re, c.imp (fun _ _ z => z) fun k H1 z => lf_pureB (E := E) z⟩
theorem pd_ife {c : Expr} {wc : DE Bool} {va vb : DE D} (hc : PDT X E c wc) (ha : PD X E a va) (hb : PD X E b vb) : PD X E (.IfExp c a b pos) (wIf wc va vb) := by
  refine PE.of (pe_ifExp hc ha hb) fun σ H Q h => ?_
  have h := lf_bindB (k := fun c ρ S Qd Ed => if c = true then va ρ S Qd Ed else vb ρ S Qd Ed) h
  obtain ⟨W, ρ, S, re, c⟩ := h
  refine ⟨W, ρ, S, re, c.imp (fun _ _ z => z) fun k H1 z => ?_⟩
  cases k with
  | true => exact z
  | false => exact z
/-! values -/
def wAndV (a b : DE D) : DE D := fun ρ S Q Ex => wT a ρ S (fun c S1 => if c = true then b ρ S1 Q Ex else Q (.bl false) S1) Ex
def wOrV (a b : DE D) : DE D := fun ρ S Q Ex => wT a ρ S (fun c S1 => if c = true then Q (.bl true) S1 else b ρ S1 Q Ex) Ex
def wNotV (a : DE D) : DE D := fun ρ S Q Ex => wT a ρ S (fun c S1 => Q (.bl (!c)) S1) Ex
theorem lf_testV {K : PySem.W.Frag} {α β : Type} {R : Wd → α → β → Prop} {a : DE D} {k : Bool → DE α} {σ : L2.St} {H : Hp} {Q : β → Hp → Prop}
    (h : lf K E R (fun ρ S Qd Ed => wT a ρ S (fun c S1 => k c ρ S1 Qd Ed) Ed) σ H Q) : lf K E (Rp K) a σ H (fun x H1 => ∃ c, x = .bl c ∧ lf K E R (k c) σ H1 Q) := by
  obtain ⟨W, ρ, S, re, c⟩ := lf_bindB h
  exact ⟨W, ρ, S, re, Ct.test c⟩
variable {va vb : DE D}
theorem pd_one {op} (h : PD X E a va) : PD X E (.BoolOp op [a] pos) va := pe_one h
theorem pd_and (ha : PD X E a va) (hb : PD X E (.BoolOp .And (b :: rest) pos) vb) : PD X E (.BoolOp .And (a :: b :: rest) pos) (wAndV va vb) := by
  refine PE.of (pe_and ha hb) fun σ H Q h => ?_
  obtain ⟨W, ρ, S, re, c⟩ := lf_testV (k := fun c ρ S Qd Ed => if c = true then vb ρ S Qd Ed else Qd (.bl false) S) h
  refine ⟨W, ρ, S, re, c.imp (fun _ _ z => z) fun x H1 ⟨k, e, z⟩ => ⟨k, e, ?_⟩⟩
  cases k with
  | true => exact z
  | false => exact lf_pureV (E := E) z
theorem pd_or (ha : PD X E a va) (hb : PD X E (.BoolOp .Or (b :: rest) pos) vb) : PD X E (.BoolOp .Or (a :: b :: rest) pos) (wOrV va vb) := by
  refine PE.of (pe_or ha hb) fun σ H Q h => ?_
  obtain ⟨W, ρ, S, re, c⟩ := lf_testV (k := fun c ρ S Qd Ed => if c = true then Qd (.bl true) S else vb ρ S Qd Ed) h
  refine ⟨W, ρ, S, re, c.imp (fun _ _ z => z) fun x H1 ⟨k, e, z⟩ => ⟨k, e, ?_⟩⟩
  cases k with
  | true => exact lf_pureV (E := E) z
  | false => exact z
theorem pd_not (ha : PD X E a va) : PD X E (.UnaryOp .Not a pos) (wNotV va) := by
  refine PE.of (pe_not ha) fun σ H Q h => ?_
  obtain ⟨W, ρ, S, re, c⟩ := lf_testV (α := D) (k := fun c ρ S Qd Ed => Qd (D.bl (!c)) S) h
  exact ⟨W, ρ, S, re, c.imp (fun _ _ z => z) fun x H1 ⟨k, e, z⟩ => ⟨k, e, lf_pureV (E := E) z⟩⟩
theorem lf_chain {K : PySem.W.Frag} {f g : D → D → Pr} {wa wb wc : DE D} {σ : L2.St} {H : Hp} {Q : VK} (h : lf K E (Rp K) (wChain f g wa wb wc) σ H Q) :
    tChain (l2 K f) (l2 K g) (lf K E (Rp K) wa) (lf K E (Rp K) wb) (lf K E (Rp K) wc) σ H Q := by
  obtain ⟨W, ρ, S, re, c⟩ := h
  refine ⟨W, ρ, S, re, (Ct.bind (k := fun x S1 Qd Ed => wb ρ S1 (fun y S2 => f x y S2 fun z S3 => onB z (wc ρ S3 (fun u S4 => g y u S4 Qd) Ed) (Qd (.bl false) S3)) Ed) c).imp (fun _ _ z => z) ?_⟩
  rintro v H1 ⟨W1, S1, x, l1, rx, c1⟩
  refine ⟨W1, ρ, S1, re.mono l1, (Ct.bind (k := fun y S2 Qd Ed => f x y S2 fun z S3 => onB z (wc ρ S3 (fun u S4 => g y u S4 Qd) Ed) (Qd (.bl false) S3)) c1).imp (fun _ _ z => z) ?_⟩
  rintro u H2 ⟨W2, S2, y, l2, ry, c2⟩
  have c3 := (Ct.bind (R := Rp K) (w := fun Qd _ => f x y S2 Qd) (k := fun z S3 Qd Ed => onB z (wc ρ S3 (fun u S4 => g y u S4 Qd) Ed) (Qd (.bl false) S3)) c2)
  refine ⟨W2, S2, x, y, Rp.mono l2 _ _ rx, ry, c3.pr.imp (fun _ _ z => z) ?_⟩
  rintro z H3 ⟨W3, S3, zd, l3, rz, c4⟩
  unfold onB at c4
  split at c4
  · rename_i zb
    cases zb with
    | true =>
      simp only [reduceIte] at c4
      refine ⟨true, rz, ?_⟩
      refine ⟨W3, ρ, S3, (re.mono l1).mono (l2.trans l3), (Ct.bind (k := fun u S4 Qd Ed => g y u S4 Qd) c4).imp (fun _ _ z => z) ?_⟩
      rintro w4 H4 ⟨W4, S4, u4, l4, ru, c5⟩
      exact ⟨W4, S4, y, u4, Rp.mono (l3.trans l4) _ _ ry, ru, c5.pr⟩
    | false =>
      simp only [Bool.false_eq_true, reduceIte] at c4
      exact ⟨false, rz, c4.pure rfl⟩
  · exact c4.no
theorem pd_chain {c : Expr} {op op' : CmpOp} {f g : D → D → Pr} {wa wb wc : DE D} (ho : Op2 X (compareOp op) f) (ho' : Op2 X (compareOp op') g) (ha : PD X E a wa) (hb : PD X E b wb) (hc : PD X E c wc)
    (hm : lastMarks [op, op'] [b, c] = false := by with_unfolding_all rfl) : PD X E (.Compare a [op, op'] [b, c] pos) (wChain f g wa wb wc) :=
  PE.of (pe_chain ho ho' ha hb hc hm) fun _ _ _ h => lf_chain h
theorem pdt_chain {c : Expr} {op op' : CmpOp} {f g : D → D → Pr} {wa wb wc : DE D} (ho : Op2 X (compareOp op) f) (ho' : Op2 X (compareOp op') g) (ha : PD X E a wa) (hb : PD X E b wb) (hc : PD X E c wc)
    (hm : lastMarks [op, op'] [b, c] = false := by with_unfolding_all rfl) : PDT X E (.Compare a [op, op'] [b, c] pos) (wT (wChain f g wa wb wc)) :=
  PT.of (pt_chain ho ho' ha hb hc hm) fun σ H Q ⟨W, ρ, S, re, c⟩ => lf_chain ⟨W, ρ, S, re, c.test⟩
end
end DL

set_option Elab.async false
set_option linter.all false
/-! the order of texts; sorted lists are one -/
namespace DL
open PySem PySem.Spec PyProof.Rows L2
def leS (a b : Str) : Bool := !strLt b a
theorem Str.ext' {a b : Str} (h : a.cps.toList = b.cps.toList) : a = b := by
  cases a with
  | mk a =>
    cases b with
    | mk b =>
      have e : a = b := by
        cases a
        cases b
        simp at h
        rw [h]
      rw [e]
theorem leS_iff {a b : Str} : leS a b = true ↔ a.cps.toList ≤ b.cps.toList := by
  unfold leS strLt
  rw [Bool.not_eq_true', decide_eq_false_iff_not, List.not_lt]
theorem strLt_iff {a b : Str} : strLt a b = true ↔ a.cps.toList < b.cps.toList := by
  unfold strLt
  rw [decide_eq_true_eq]
theorem leS_trans {a b c : Str} (h : leS a b = true) (k : leS b c = true) : leS a c = true := leS_iff.mpr (List.le_trans (leS_iff.mp h) (leS_iff.mp k))
theorem leS_anti {a b : Str} (h : leS a b = true) (k : leS b a = true) : a = b := Str.ext' (List.le_antisymm (leS_iff.mp h) (leS_iff.mp k))
theorem leS_total (a b : Str) : leS a b = true ∨ leS b a = true := (List.le_total a.cps.toList b.cps.toList).imp leS_iff.mpr leS_iff.mpr
theorem leS_refl (a : Str) : leS a a = true := (leS_total a a).elim id id
theorem strLt_of {a b : Str} (h : leS a b = true) (k : a ≠ b) : strLt a b = true := by
  cases q : strLt a b with
  | true => rfl
  | false => exact absurd (leS_anti h (by unfold leS; rw [q]; rfl)) k
theorem leS_of {a b : Str} (h : strLt a b = true) : leS a b = true := leS_iff.mpr (List.le_of_lt (strLt_iff.mp h))
theorem strLt_irrefl (a : Str) : strLt a a = false := by
  unfold strLt
  exact decide_eq_false (List.lt_irrefl _)
theorem ne_of_strLt {a b : Str} (h : strLt a b = true) : a ≠ b := fun e => by
  subst e
  rw [strLt_irrefl] at h
  cases h
theorem strLt_trans {a b c : Str} (h : strLt a b = true) (k : strLt b c = true) : strLt a c = true := strLt_iff.mpr (List.lt_trans (strLt_iff.mp h) (strLt_iff.mp k))
theorem rising_pw : ∀ (r : List Str) (p : Str), risingS p r = true → (p :: r).Pairwise (fun a b => leS a b = true)
  | [], p, _ => by simp
  | x :: r, p, h => by
    have h' : (!ltCps x.cps.toList p.cps.toList && risingS x r) = true := h
    rw [Bool.and_eq_true] at h'
    have ih := rising_pw r x h'.2
    have e : leS p x = true := by
      have q := h'.1
      rw [ltCps_eq] at q
      exact q
    refine List.pairwise_cons.mpr ⟨fun y hy => ?_, ih⟩
    rcases List.mem_cons.mp hy with rfl | hy
    · exact e
    · exact leS_trans e ((List.pairwise_cons.mp ih).1 y hy)
theorem sortedS_pw {l : List Str} (h : sortedS l = true) : l.Pairwise (fun a b => leS a b = true) := by
  cases l with
  | nil => exact .nil
  | cons x r => exact rising_pw r x h
/-- two risings of the same items are one -/
theorem perm_one {α : Type} {r : α → α → Prop} (anti : ∀ a b, r a b → r b a → a = b) : ∀ {l m : List α}, l.Perm m → l.Pairwise r → m.Pairwise r → l = m
  | [], m, p, _, _ => by rw [List.Perm.eq_nil p.symm]
  | x :: l, m, p, hl, hm => by
    cases m with
    | nil => exact absurd p.eq_nil (by simp)
    | cons y m =>
      obtain ⟨hx, hl'⟩ := List.pairwise_cons.mp hl
      obtain ⟨hy, hm'⟩ := List.pairwise_cons.mp hm
      have e : x = y := by
        rcases List.mem_cons.mp (p.mem_iff.mp List.mem_cons_self) with e | e
        · exact e
        · rcases List.mem_cons.mp (p.symm.mem_iff.mp List.mem_cons_self) with e' | e'
          · exact e'.symm
          · exact anti _ _ (hx y e') (hy x e)
      subst e
      rw [perm_one anti (List.Perm.cons_inv p) hl' hm']
/-- sorted(xs) -/
def srtS (xs : List Str) : List Str := xs.mergeSort leS
theorem srtS_perm (xs : List Str) : (srtS xs).Perm xs := List.mergeSort_perm ..
theorem srtS_pw (xs : List Str) : (srtS xs).Pairwise (fun a b => leS a b = true) :=
  List.pairwise_mergeSort (le := leS) (fun a b c => leS_trans) (fun a b => by simpa using leS_total a b) xs
theorem srtS_one {xs ys : List Str} (p : ys.Perm xs) (h : sortedS ys = true) : ys = srtS xs := perm_one (fun a b => leS_anti) (p.trans (srtS_perm xs).symm) (sortedS_pw h) (srtS_pw xs)
def ddS : List Str → List Str
  | [] => []
  | x :: xs => if x ∈ xs then ddS xs else x :: ddS xs
theorem mem_ddS {x : Str} : ∀ {xs : List Str}, x ∈ ddS xs ↔ x ∈ xs
  | [] => Iff.rfl
  | y :: xs => by
    unfold ddS
    split
    · rename_i h
      rw [mem_ddS, List.mem_cons]
      exact ⟨.inr, fun z => z.elim (fun e => e ▸ h) id⟩
    · rw [List.mem_cons, List.mem_cons, mem_ddS]
theorem nodup_ddS : ∀ xs : List Str, (ddS xs).Nodup
  | [] => .nil
  | y :: xs => by
    unfold ddS
    split
    · exact nodup_ddS xs
    · rename_i h
      exact List.nodup_cons.mpr ⟨fun z => h (mem_ddS.mp z), nodup_ddS xs⟩
/-- sorted(set(xs)) -/
def setS (xs : List Str) : List Str := srtS (ddS xs)
theorem mem_setS {xs : List Str} {x : Str} : x ∈ setS xs ↔ x ∈ xs := by
  unfold setS
  rw [(srtS_perm _).mem_iff, mem_ddS]
theorem nodup_setS (xs : List Str) : (setS xs).Nodup := (srtS_perm _).nodup_iff.mpr (nodup_ddS xs)
theorem setS_pw (xs : List Str) : (setS xs).Pairwise (fun a b => strLt a b = true) := by
  refine List.Pairwise.imp₂ (fun a b h k => strLt_of h k) (srtS_pw _) (nodup_setS xs)
/-- a strictly rising list with the same members -/
theorem setS_one {xs ys : List Str} (h : sortedS ys = true) (nd : ys.Nodup) (m : ∀ k, k ∈ ys ↔ xs.contains k = true) : ys = setS xs := by
  refine perm_one (fun a b => leS_anti) ?_ (sortedS_pw h) (srtS_pw _)
  refine (List.perm_ext_iff_of_nodup nd (nodup_setS xs)).mpr fun a => ?_
  rw [m a, mem_setS]
  simp
theorem rise_one {xs ys : List Str} (h : xs.Pairwise (fun a b => strLt a b = true)) (k : ys.Pairwise (fun a b => strLt a b = true)) (m : ∀ a, a ∈ xs ↔ a ∈ ys) : xs = ys := by
  have nd : ∀ {l : List Str}, l.Pairwise (fun a b => strLt a b = true) → l.Nodup := fun h => h.imp fun q => ne_of_strLt q
  exact perm_one (fun a b => leS_anti) ((List.perm_ext_iff_of_nodup (nd h) (nd k)).mpr m) (h.imp leS_of) (k.imp leS_of)
end DL

set_option Elab.async false
set_option linter.all false
set_option maxRecDepth 100000
/-! built-in functions over data -/
namespace DL
open PySem PySem.Spec PyProof.Rows L2

abbrev Pn := List D → Pr
def lN (K : PySem.W.Frag) (g : Pn) : List V → Hp → VK → Prop := fun xs H Q => ∃ W S ds, RL K W ds xs ∧ Ct K E0 (Rp K) W S H (fun Qd _ => g ds S Qd) Q
abbrev Bl (X : Cx) (f : Value) (g : Pn) : Prop := CallR X f (lN X.K g)
def wP (g : Pn) (a : DE (List D)) : DE D := fun ρ S Q Ex => a ρ S (fun xs S1 => g xs S1 Q) Ex
section
variable {X : Cx} {E : XK}
theorem lf_args {K : PySem.W.Frag} {g : Pn} {w : DE (List D)} {σ : L2.St} {H : Hp} {Q : VK} (h : lf K E (Rp K) (wP g w) σ H Q) : tCB (lN K g) (lf K E (RL K) w) σ H Q := by
  obtain ⟨W, ρ, S, re, c⟩ := h
  refine ⟨W, ρ, S, re, (Ct.bind (k := fun x S1 Qd Ed => g x S1 Qd) c).imp (fun _ _ z => z) ?_⟩
  rintro v H1 ⟨W1, S1, x, l1, rx, c1⟩
  exact ⟨W1, S1, x, rx, c1.pr⟩
theorem pd_bf {x : Str} {id : String} {g : Pn} {e : Expr} {es : List Expr} {w : DE (List D)} {p pos : Pos} (hc : Bl X (.builtin id) g) (hv : bootBuiltins x = some (.builtin id)) (hm : X.mg x = none) (ha : PDA X E (e :: es) w) (hg : Gl X x := by rfl) (hn : x ≠ "__name__" := by decide) (hdb : (x == ("__debug__" : Str)) = false := by decide)
    (he : starEach (e :: es) X.env = (false, eval e X.env) :: starEach es X.env := by rfl) (hpl : (backTo pos (starEach es X.env)).any (·.1) = false := by rfl) : PD X E (.Call (.Name x p) (e :: es) [] pos) (wP g w) :=
  PE.of (pe_callB hc hg hm hv ha hn hdb he hpl) fun _ _ _ h => lf_args h
theorem pd_bt {x : Str} {T : String} {g : Pn} {e : Expr} {es : List Expr} {w : DE (List D)} {p pos : Pos} (hc : Bl X (.type T) g) (hv : bootBuiltins x = some (.type T)) (hm : X.mg x = none) (ha : PDA X E (e :: es) w) (hg : Gl X x := by rfl) (hn : x ≠ "__name__" := by decide) (hdb : (x == ("__debug__" : Str)) = false := by decide)
    (he : starEach (e :: es) X.env = (false, eval e X.env) :: starEach es X.env := by rfl) (hpl : (backTo pos (starEach es X.env)).any (·.1) = false := by rfl) : PD X E (.Call (.Name x p) (e :: es) [] pos) (wP g w) :=
  PE.of (pe_callTy hc hg hm hv ha hn hdb he hpl) fun _ _ _ h => lf_args h

/-! ### new lists and dicts, by value or living -/
def alL (b : Bool) (ds : List D) : Pr := fun S Q => if b = true then Q (.loc S.length) (S ++ [.lst ds]) else Q (.lst ds) S
def alD (b : Bool) (ds : List (Key × D)) : Pr := fun S Q => if b = true then Q (.loc S.length) (S ++ [.dct ds]) else Q (.dct ds) S
def alDT (b : Bool) (ds : List (List Key × D)) : Pr := fun S Q => if b = true then Q (.loc S.length) (S ++ [.dcT ds]) else Q (.dcT ds) S
section
variable {K : PySem.W.Frag} {W : Wd} {S : Sto} {H : Hp} {Q : VK}
theorem Ct.loc {ob : Ob} {o : HO} (c : Ct K E0 (Rp K) W S H (fun Qd _ => Qd (.loc S.length) (S ++ [ob])) Q) (t : ROb K W ob o) : ∀ p, H p = none → Q (.ref p) (upd H p o) := fun p hp => by
  obtain ⟨l, rl, e⟩ := c.rl.more (o := o) hp t
  exact c.done l rl ⟨p, rfl, e⟩
theorem Ct.alL {b : Bool} {es : List D} {vs : List V} (c : Ct K E0 (Rp K) W S H (fun Qd _ => alL b es S Qd) Q) (t : RL K W es vs) : ∀ p, H p = none → Q (.ref p) (upd H p (.lst vs)) := by
  cases b with
  | false => exact Ct.newL c t
  | true => exact Ct.loc (ob := .lst es) c ⟨vs, rfl, t⟩
theorem Ct.alD {b : Bool} {es : List (Key × D)} {vs : List (Key × V)} (c : Ct K E0 (Rp K) W S H (fun Qd _ => alD b es S Qd) Q) (t : RK K W es vs) : ∀ p, H p = none → Q (.ref p) (upd H p (.dK vs)) := by
  cases b with
  | false =>
    intro p hp
    obtain ⟨l, rl⟩ := c.rl.keep (o := .dK vs) hp
    exact Ct.done c l rl ⟨p, vs, rfl, upd_same, RpK_iff.mpr (RK.mono l t)⟩
  | true => exact Ct.loc (ob := .dct es) c ⟨vs, rfl, t⟩
theorem Ct.alDT {b : Bool} {es : List (List Key × D)} {vs : List (List Key × V)} (c : Ct K E0 (Rp K) W S H (fun Qd _ => alDT b es S Qd) Q) (t : RK K W es vs) : ∀ p, H p = none → Q (.ref p) (upd H p (.dT vs)) := by
  cases b with
  | false =>
    intro p hp
    obtain ⟨l, rl⟩ := c.rl.keep (o := .dT vs) hp
    exact Ct.done c l rl ⟨p, vs, rfl, upd_same, RpT_iff.mpr (RK.mono l t)⟩
  | true => exact Ct.loc (ob := .dcT es) c ⟨vs, rfl, t⟩
end

/-! ### what stands in lists -/
def asInts : List D → Option (List Int)
  | [] => some []
  | .int i :: ds => (asInts ds).map (i :: ·)
  | _ :: _ => none
def asStrs : List D → Option (List Str)
  | [] => some []
  | .str i :: ds => (asStrs ds).map (i :: ·)
  | _ :: _ => none
def asBls : List D → Option (List Bool)
  | [] => some []
  | .bl i :: ds => (asBls ds).map (i :: ·)
  | _ :: _ => none
theorem asInts_of : ∀ {ds : List D} {ns : List Int}, asInts ds = some ns → ds = ns.map D.int
  | [], _, h => by cases h; rfl
  | .int i :: ds, _, h => by
    obtain ⟨ms, e, rfl⟩ := Option.map_eq_some_iff.mp h
    rw [asInts_of e]
    rfl
theorem asStrs_of : ∀ {ds : List D} {ns : List Str}, asStrs ds = some ns → ds = ns.map D.str
  | [], _, h => by cases h; rfl
  | .str i :: ds, _, h => by
    obtain ⟨ms, e, rfl⟩ := Option.map_eq_some_iff.mp h
    rw [asStrs_of e]
    rfl
theorem asBls_of : ∀ {ds : List D} {ns : List Bool}, asBls ds = some ns → ds = ns.map D.bl
  | [], _, h => by cases h; rfl
  | .bl i :: ds, _, h => by
    obtain ⟨ms, e, rfl⟩ := Option.map_eq_some_iff.mp h
    rw [asBls_of e]
    rfl
theorem asInts_map (ns : List Int) : asInts (ns.map D.int) = some ns := by
  induction ns with
  | nil => rfl
  | cons n ns ih =>
    show (asInts (ns.map D.int)).map (n :: ·) = _
    rw [ih]
    rfl
theorem asStrs_map (ns : List Str) : asStrs (ns.map D.str) = some ns := by
  induction ns with
  | nil => rfl
  | cons n ns ih =>
    show (asStrs (ns.map D.str)).map (n :: ·) = _
    rw [ih]
    rfl
theorem asBls_map (ns : List Bool) : asBls (ns.map D.bl) = some ns := by
  induction ns with
  | nil => rfl
  | cons n ns ih =>
    show (asBls (ns.map D.bl)).map (n :: ·) = _
    rw [ih]
    rfl
theorem RL.bls_inv {K : PySem.W.Frag} {W : Wd} : ∀ {ns : List Bool} {vs : List V}, RL K W (ns.map D.bl) vs → vs = ns.map V.bl
  | [], _, .nil => rfl
  | n :: ns, _, .cons r t => by rw [show _ = V.bl n from r, RL.bls_inv t, List.map_cons]

/-! ### the functions -/
def kD : Key → D
  | .inl i => .int i
  | .inr x => .str x
theorem kD_of {K : PySem.W.Frag} {W : Wd} (k : Key) : Rp K W (kD k) (kV k) := by
  cases k with
  | inl i => exact rint
  | inr i => exact rstr
def bLen : Pn := fun ds S Q => match ds with
  | [.str x] => x.length ≤ sizeLine ∧ Q (.int x.length) S
  | [d] => match asS S d with
    | some es => Q (.int es.length) S
    | none => match asD S d with
      | some es => Q (.int es.length) S
      | none => match asDT S d with
        | some es => Q (.int es.length) S
        | none => False
  | _ => False
def bAbs : Pn := fun ds S Q => match ds with
  | [.int i] => Q (.int (if i < 0 then -i else i)) S
  | _ => False
def bInt : Pn := fun ds S Q => match ds with
  | [.int i] => Q (.int i) S
  | [.bl i] => Q (.int (if i then 1 else 0)) S
  | _ => False
def bSum : Pn := fun ds S Q => match ds with
  | [d] => ∃ es ns, asL S d = some es ∧ asInts es = some ns ∧ Q (.int ns.sum) S
  | _ => False
def bAll : Pn := fun ds S Q => match ds with
  | [d] => ∃ es ns, asL S d = some es ∧ asBls es = some ns ∧ Q (.bl (ns.all id)) S
  | _ => False
def bAny : Pn := fun ds S Q => match ds with
  | [d] => ∃ es ns, asL S d = some es ∧ asBls es = some ns ∧ Q (.bl (ns.any id)) S
  | _ => False
def maxI : List Int → Int
  | [] => 0
  | x :: xs => xs.foldl (fun a b => if b > a then b else a) x
def minI : List Int → Int
  | [] => 0
  | x :: xs => xs.foldl (fun a b => if b < a then b else a) x
def bMin : Pn := fun ds S Q => match ds with
  | [.int i, .int j] => Q (.int (if j < i then j else i)) S
  | [d] => ∃ es ns, asL S d = some es ∧ asInts es = some ns ∧ ns ≠ [] ∧ Q (.int (minI ns)) S
  | _ => False
def bMax : Pn := fun ds S Q => match ds with
  | [.int i, .int j] => Q (.int (if j > i then j else i)) S
  | [d] => ∃ es ns, asL S d = some es ∧ asInts es = some ns ∧ ns ≠ [] ∧ Q (.int (maxI ns)) S
  | _ => False
def bSorted (b : Bool) : Pn := fun ds S Q => match ds with
  | [d] => match asL S d with
    | some es => ∃ xs, asStrs es = some xs ∧ xs.length < 64 ∧ alL b ((srtS xs).map D.str) S Q
    | none => match asD S d with
      | some kvs => ∃ xs : List Str, kvs.map (·.1) = xs.map Sum.inr ∧ xs.length < 64 ∧ alL b ((srtS xs).map D.str) S Q
      | none => False
  | _ => False
def bTuple : Pn := fun ds S Q => match ds with
  | [.tup es] => Q (.tup es) S
  | [.ktp es] => Q (.ktp es) S
  | [d] => match asL S d with
    | some es => Q (.tup es) S
    | none => False
  | _ => False
def bList (b : Bool) : Pn := fun ds S Q => match ds with
  | [d] => match asS S d with
    | some es => alL b es S Q
    | none => match asD S d with
      | some kvs => alL b (kvs.map fun kv => kD kv.1) S Q
      | none => False
  | _ => False
theorem op_one {P : List D → Prop} {ds : List D} {d : D} (h : ds = [d]) : ds = [d] := h
section
variable {K : PySem.W.Frag} {W : Wd}
theorem RL.one {ds : List D} {xs : List V} {d : D} (r : RL K W [d] xs) : ∃ v, xs = [v] ∧ Rp K W d v := by
  cases r with
  | cons a b =>
    cases b
    exact ⟨_, rfl, a⟩
theorem RL.two {xs : List V} {d e : D} (r : RL K W [d, e] xs) : ∃ v u, xs = [v, u] ∧ Rp K W d v ∧ Rp K W e u := by
  cases r with
  | cons a b =>
    cases b with
    | cons b c =>
      cases c
      exact ⟨_, _, rfl, a, b⟩
end
theorem c_len : Bl X (.builtin "len") bLen := by
  intro pins s σ H xs us Q I r ⟨W, S, ds, rd, c⟩
  unfold bLen at c
  split at c
  · rename_i x
    obtain ⟨v, rfl, e⟩ := RL.one (ds := []) rd
    obtain rfl : v = V.str x := e
    obtain ⟨h, c⟩ := c.and
    exact call_len_str pins s σ H _ us Q I r ⟨x, rfl, h, c.pure rfl⟩
  · rename_i d _
    obtain ⟨v, rfl, e⟩ := RL.one (ds := []) rd
    split at c
    · rename_i es ea
      obtain ⟨a, vs, rfl, h, t⟩ := asS_of c.rl e ea
      exact call_len_seq pins s σ H _ us Q I r ⟨a, vs, rfl, h, by rw [← Paired.length t]; exact c.pure rfl⟩
    · split at c
      · rename_i es ea
        obtain ⟨a, vs, rfl, h, t⟩ := asD_of c.rl e ea
        exact call_lenD pins s σ H _ us Q I r ⟨a, vs, rfl, h, by rw [← Paired.length t]; exact c.pure rfl⟩
      · split at c
        · rename_i es ea
          obtain ⟨a, vs, rfl, h, t⟩ := asDT_of c.rl e ea
          exact call_len_dT pins s σ H _ us Q I r ⟨a, vs, rfl, h, by rw [← Paired.length t]; exact c.pure rfl⟩
        · exact c.no
  · exact c.no
theorem c_abs : Bl X (.builtin "abs") bAbs := by
  intro pins s σ H xs us Q I r ⟨W, S, ds, rd, c⟩
  unfold bAbs at c
  split at c
  · rename_i i
    obtain ⟨v, rfl, e⟩ := RL.one (ds := []) rd
    obtain rfl : v = V.int i := e
    exact call_abs pins s σ H _ us Q I r ⟨i, rfl, c.pure rfl⟩
  · exact c.no
theorem c_int : Bl X (.type "int") bInt := by
  intro pins s σ H xs us Q I r ⟨W, S, ds, rd, c⟩
  unfold bInt at c
  split at c
  · rename_i i
    obtain ⟨v, rfl, e⟩ := RL.one (ds := []) rd
    obtain rfl : v = V.int i := e
    exact call_int1 pins s σ H _ us Q I r (.inl ⟨i, rfl, c.pure rfl⟩)
  · rename_i i
    obtain ⟨v, rfl, e⟩ := RL.one (ds := []) rd
    obtain rfl : v = V.bl i := e
    exact call_int1 pins s σ H _ us Q I r (.inr ⟨i, rfl, c.pure rfl⟩)
  · exact c.no
/-- one list of ints -/
theorem ints_arg {K : PySem.W.Frag} {W : Wd} {S : Sto} {H : Hp} {d : D} {v : V} {es : List D} {ns : List Int} (rl : Rl K W S H) (r : Rp K W d v) (h : asL S d = some es) (k : asInts es = some ns) : ∃ a, v = .ref a ∧ H a = some (.lst (ns.map V.int)) := by
  obtain ⟨a, vs, e, q, t⟩ := asL_of rl r h
  rw [asInts_of k] at t
  rw [RL.ints_inv t] at q
  exact ⟨a, e, q⟩
theorem strs_arg {K : PySem.W.Frag} {W : Wd} {S : Sto} {H : Hp} {d : D} {v : V} {es : List D} {ns : List Str} (rl : Rl K W S H) (r : Rp K W d v) (h : asL S d = some es) (k : asStrs es = some ns) : ∃ a, v = .ref a ∧ H a = some (.lst (ns.map V.str)) := by
  obtain ⟨a, vs, e, q, t⟩ := asL_of rl r h
  rw [asStrs_of k] at t
  rw [RL.strs_inv t] at q
  exact ⟨a, e, q⟩
theorem bls_arg {K : PySem.W.Frag} {W : Wd} {S : Sto} {H : Hp} {d : D} {v : V} {es : List D} {ns : List Bool} (rl : Rl K W S H) (r : Rp K W d v) (h : asL S d = some es) (k : asBls es = some ns) : ∃ a, v = .ref a ∧ H a = some (.lst (ns.map V.bl)) := by
  obtain ⟨a, vs, e, q, t⟩ := asL_of rl r h
  rw [asBls_of k] at t
  rw [RL.bls_inv t] at q
  exact ⟨a, e, q⟩
theorem c_sum (hc : Cn X E) : Bl X (.builtin "sum") bSum := by
  intro pins s σ H xs us Q I r ⟨W, S, ds, rd, c⟩
  unfold bSum at c
  split at c
  · obtain ⟨v, rfl, e⟩ := RL.one (ds := []) rd
    obtain ⟨rl, Qd, Ed, ⟨es, ns, h1, h2, q⟩, hq, he⟩ := c
    obtain ⟨a, rfl, h⟩ := ints_arg rl e h1 h2
    exact cr_sum hc.calm pins s σ H _ us Q I r ⟨a, ns, rfl, SqL.of h, hq W S H _ _ (Wd.le.refl W) rl rint q⟩
  · exact c.no
theorem c_all (hc : Cn X E) : Bl X (.builtin "all") bAll := by
  intro pins s σ H xs us Q I r ⟨W, S, ds, rd, c⟩
  unfold bAll at c
  split at c
  · obtain ⟨v, rfl, e⟩ := RL.one (ds := []) rd
    obtain ⟨rl, Qd, Ed, ⟨es, ns, h1, h2, q⟩, hq, he⟩ := c
    obtain ⟨a, rfl, h⟩ := bls_arg rl e h1 h2
    exact cr_all hc.calm pins s σ H _ us Q I r ⟨a, ns, rfl, SqL.of h, hq W S H _ _ (Wd.le.refl W) rl rbl q⟩
  · exact c.no
theorem c_any (hc : Cn X E) : Bl X (.builtin "any") bAny := by
  intro pins s σ H xs us Q I r ⟨W, S, ds, rd, c⟩
  unfold bAny at c
  split at c
  · obtain ⟨v, rfl, e⟩ := RL.one (ds := []) rd
    obtain ⟨rl, Qd, Ed, ⟨es, ns, h1, h2, q⟩, hq, he⟩ := c
    obtain ⟨a, rfl, h⟩ := bls_arg rl e h1 h2
    exact cr_any hc.calm pins s σ H _ us Q I r ⟨a, ns, rfl, SqL.of h, hq W S H _ _ (Wd.le.refl W) rl rbl q⟩
  · exact c.no
theorem foldmin : ∀ (xs : List Int) (x : Int), xs.foldl (fun a b => if b < a then b else a) x ≤ x ∧ (∀ y ∈ xs, xs.foldl (fun a b => if b < a then b else a) x ≤ y) ∧ (xs.foldl (fun a b => if b < a then b else a) x = x ∨ xs.foldl (fun a b => if b < a then b else a) x ∈ xs)
  | [], x => ⟨Int.le_refl _, by simp, .inl rfl⟩
  | y :: xs, x => by
    rw [List.foldl_cons]
    obtain ⟨h1, h2, h3⟩ := foldmin xs (if y < x then y else x)
    generalize xs.foldl (fun a b => if b < a then b else a) (if y < x then y else x) = m at h1 h2 h3
    refine ⟨by split at h1 <;> omega, fun z hz => ?_, ?_⟩
    · rcases List.mem_cons.mp hz with rfl | hz
      · split at h1 <;> omega
      · exact h2 z hz
    · rcases h3 with e | e
      · split at e
        · exact .inr (by rw [e]; exact List.mem_cons_self)
        · exact .inl e
      · exact .inr (List.mem_cons_of_mem _ e)
theorem foldmax : ∀ (xs : List Int) (x : Int), x ≤ xs.foldl (fun a b => if b > a then b else a) x ∧ (∀ y ∈ xs, y ≤ xs.foldl (fun a b => if b > a then b else a) x) ∧ (xs.foldl (fun a b => if b > a then b else a) x = x ∨ xs.foldl (fun a b => if b > a then b else a) x ∈ xs)
  | [], x => ⟨Int.le_refl _, by simp, .inl rfl⟩
  | y :: xs, x => by
    rw [List.foldl_cons]
    obtain ⟨h1, h2, h3⟩ := foldmax xs (if y > x then y else x)
    generalize xs.foldl (fun a b => if b > a then b else a) (if y > x then y else x) = m at h1 h2 h3
    refine ⟨by split at h1 <;> omega, fun z hz => ?_, ?_⟩
    · rcases List.mem_cons.mp hz with rfl | hz
      · split at h1 <;> omega
      · exact h2 z hz
    · rcases h3 with e | e
      · split at e
        · exact .inr (by rw [e]; exact List.mem_cons_self)
        · exact .inl e
      · exact .inr (List.mem_cons_of_mem _ e)
theorem minI_mem {ns : List Int} (h : ns ≠ []) : minI ns ∈ ns := by
  cases ns with
  | nil => exact absurd rfl h
  | cons x xs =>
    rcases (foldmin xs x).2.2 with e | e
    · show xs.foldl (fun a b => if b < a then b else a) x ∈ _
      rw [e]
      exact List.mem_cons_self
    · exact List.mem_cons_of_mem _ e
theorem minI_le {ns : List Int} : ∀ y ∈ ns, minI ns ≤ y := by
  cases ns with
  | nil => simp
  | cons x xs =>
    intro y hy
    rcases List.mem_cons.mp hy with rfl | hy
    · exact (foldmin xs y).1
    · exact (foldmin xs x).2.1 y hy
theorem maxI_mem {ns : List Int} (h : ns ≠ []) : maxI ns ∈ ns := by
  cases ns with
  | nil => exact absurd rfl h
  | cons x xs =>
    rcases (foldmax xs x).2.2 with e | e
    · show xs.foldl (fun a b => if b > a then b else a) x ∈ _
      rw [e]
      exact List.mem_cons_self
    · exact List.mem_cons_of_mem _ e
theorem le_maxI {ns : List Int} : ∀ y ∈ ns, y ≤ maxI ns := by
  cases ns with
  | nil => simp
  | cons x xs =>
    intro y hy
    rcases List.mem_cons.mp hy with rfl | hy
    · exact (foldmax xs y).1
    · exact (foldmax xs x).2.1 y hy
theorem c_min (hc : Cn X E) : Bl X (.builtin "min") bMin := by
  intro pins s σ H xs us Q I r ⟨W, S, ds, rd, c⟩
  unfold bMin at c
  split at c
  · rename_i i j
    obtain ⟨v, u, rfl, e1, e2⟩ := RL.two rd
    obtain rfl : v = V.int i := e1
    obtain rfl : u = V.int j := e2
    exact call_min2 hc.calm pins s σ H _ us Q I r ⟨i, j, rfl, c.pure rfl⟩
  · obtain ⟨v, rfl, e⟩ := RL.one (ds := []) rd
    obtain ⟨rl, Qd, Ed, ⟨es, ns, h1, h2, h3, q⟩, hq, he⟩ := c
    obtain ⟨a, rfl, h⟩ := ints_arg rl e h1 h2
    refine cr_min hc.calm pins s σ H _ us Q I r ⟨a, ns, rfl, SqL.of h, List.length_pos_iff.mpr h3, fun m hm hl => ?_⟩
    have em : m = minI ns := Int.le_antisymm (hl _ (minI_mem h3)) (minI_le m hm)
    rw [em]
    exact hq W S H _ _ (Wd.le.refl W) rl rint q
  · exact c.no
theorem c_max (hc : Cn X E) : Bl X (.builtin "max") bMax := by
  intro pins s σ H xs us Q I r ⟨W, S, ds, rd, c⟩
  unfold bMax at c
  split at c
  · rename_i i j
    obtain ⟨v, u, rfl, e1, e2⟩ := RL.two rd
    obtain rfl : v = V.int i := e1
    obtain rfl : u = V.int j := e2
    exact call_max2 hc.calm pins s σ H _ us Q I r ⟨i, j, rfl, c.pure rfl⟩
  · obtain ⟨v, rfl, e⟩ := RL.one (ds := []) rd
    obtain ⟨rl, Qd, Ed, ⟨es, ns, h1, h2, h3, q⟩, hq, he⟩ := c
    obtain ⟨a, rfl, h⟩ := ints_arg rl e h1 h2
    refine cr_max hc.calm pins s σ H _ us Q I r ⟨a, ns, rfl, SqL.of h, List.length_pos_iff.mpr h3, fun m hm hl => ?_⟩
    have em : m = maxI ns := Int.le_antisymm (le_maxI m hm) (hl _ (maxI_mem h3))
    rw [em]
    exact hq W S H _ _ (Wd.le.refl W) rl rint q
  · exact c.no
theorem RK.keys {K : PySem.W.Frag} {W : Wd} {κ : Type} : ∀ {ds : List (κ × D)} {vs : List (κ × V)}, RK K W ds vs → vs.map (·.1) = ds.map (·.1)
  | _, _, .nil => rfl
  | _, _, .cons r t => by rw [List.map_cons, List.map_cons, RK.keys t, r.1]
theorem c_sorted (hc : Cn X E) (b : Bool) : Bl X (.builtin "sorted") (bSorted b) := by
  intro pins s σ H xs us Q I r ⟨W, S, ds, rd, c⟩
  unfold bSorted at c
  split at c
  · obtain ⟨v, rfl, e⟩ := RL.one (ds := []) rd
    split at c
    · rename_i es ea
      obtain ⟨rl, Qd, Ed, ⟨xs, h1, h2, q⟩, hq, he⟩ := c
      obtain ⟨a, rfl, h⟩ := strs_arg rl e ea h1
      refine cr_sortedS pins s σ H _ us Q I r ⟨a, xs, rfl, SqL.of h, h2, fun ys p pm so hp => ?_⟩
      rw [srtS_one pm so]
      exact Ct.alL (b := b) ⟨rl, Qd, Ed, q, hq, he⟩ (RL.strs _) p hp
    · split at c
      · rename_i kvs ea
        obtain ⟨rl, Qd, Ed, ⟨xs, h1, h2, q⟩, hq, he⟩ := c
        obtain ⟨a, vs, rfl, h, t⟩ := asD_of rl e ea
        refine call_sortedD hc.calm pins s σ H _ us Q I r ⟨a, vs, xs, rfl, .inl h, by rw [RK.keys t]; exact h1, h2, fun ys p pm so hp => ?_⟩
        rw [srtS_one pm so]
        exact Ct.alL (b := b) ⟨rl, Qd, Ed, q, hq, he⟩ (RL.strs _) p hp
      · exact c.no
  · exact c.no
theorem c_tuple : Bl X (.type "tuple") bTuple := by
  intro pins s σ H xs us Q I r ⟨W, S, ds, rd, c⟩
  unfold bTuple at c
  split at c
  · obtain ⟨v, rfl, e⟩ := RL.one (ds := []) rd
    obtain ⟨a, vs, ev, q, t⟩ := e
    obtain rfl := ev
    exact call_tupleT pins s σ H _ us Q I r ⟨a, vs, rfl, SqT.of (c.rl.same _ _ q), c.pure ⟨a, vs, rfl, q, t⟩⟩
  · obtain ⟨v, rfl, e⟩ := RL.one (ds := []) rd
    obtain ⟨a, vs, ev, q, t⟩ := e
    obtain rfl := ev
    exact call_tupleT pins s σ H _ us Q I r ⟨a, vs, rfl, seqT c.rl.same q, c.pure ⟨a, vs, rfl, q, t⟩⟩
  · obtain ⟨v, rfl, e⟩ := RL.one (ds := []) rd
    split at c
    · rename_i es ea
      obtain ⟨a, vs, rfl, h, t⟩ := asL_of c.rl e ea
      exact call_tuple_of pins s σ H _ us Q I r ⟨a, vs, rfl, .inl ⟨SqL.of h, c.newT t⟩⟩
    · exact c.no
  · exact c.no
theorem c_list (hc : Cn X E) (b : Bool) : Bl X (.type "list") (bList b) := by
  intro pins s σ H xs us Q I r ⟨W, S, ds, rd, c⟩
  unfold bList at c
  split at c
  · obtain ⟨v, rfl, e⟩ := RL.one (ds := []) rd
    split at c
    · rename_i es ea
      obtain ⟨a, vs, rfl, h, t⟩ := asS_of c.rl e ea
      exact call_list_of pins s σ H _ us Q I r ⟨a, vs, rfl, h, c.alL t⟩
    · split at c
      · rename_i kvs ea
        obtain ⟨a, vs, rfl, h, t⟩ := asD_of c.rl e ea
        refine call_listD hc.calm pins s σ H _ us Q I r ⟨a, vs, rfl, .inl h, c.alL ?_⟩
        clear c h ea r e rd
        induction t with
        | nil => exact .nil
        | cons r t ih =>
          rename_i p q _ _
          obtain ⟨e, _⟩ := r
          refine .cons ?_ ih
          show Rp X.K W (kD p.1) (kV q.1)
          rw [e]
          exact kD_of _
      · exact c.no
  · exact c.no
end
end DL

set_option Elab.async false
set_option linter.all false
set_option maxRecDepth 100000
/-! t[::-1] of tuples -/
namespace HT
open PySem PyProof.Rows
section
variable {prog : Program} {w : World} {A : Around} {E : Value → Shared → Prop} {s : Shared}
theorem rev_places (n : Nat) : Builtin.Slice.slicePlaces ((n : Int) - 1) (-1) (-1) = n := by
  unfold Builtin.Slice.slicePlaces
  simp
  omega
theorem rev_adjust (n : Nat) : Builtin.Slice.sliceAdjust none none (-1) (n : Int) = ((n : Int) - 1, -1) := by
  unfold Builtin.Slice.sliceAdjust
  simp
theorem sliceApplied_rev {sl : Addr} {vs : Value} {n : Nat} {Q : Int × Int × Nat → Shared → Prop} (hs : s.heap.IsSliceOf sl .none .none vs) (ps : IsPart vs (some (-1))) (h : Q ((n : Int) - 1, -1, n) s) :
    wpAny (model prog w) A (Builtin.Slice.sliceApplied (.ref sl) (pure (n : Int))) Q E s := by
  obtain ⟨os, hos, hcs, hds⟩ := id hs
  unfold Builtin.Slice.sliceApplied Builtin.Slice.sliceFields
  refine wpAny_bind (wpAny_bind (wpAny_field hos hds (x := .none) rfl (wpAny_bind (wpAny_field hos hds (x := .none) rfl (wpAny_bind (wpAny_field hos hds (x := vs) rfl (wpAny_pure ?_)))))))
  refine wpAny_bind (slicePart_ ps ?_)
  show wpAny _ _ (if ((-1 : Int) == 0) = true then _ else _) _ _ s
  rw [if_neg (by decide)]
  refine wpAny_bind (slicePart_none (wpAny_bind (slicePart_none (wpAny_bind (wpAny_pure ?_)))))
  show wpAny _ _ (match Builtin.Slice.sliceAdjust none none (-1) (n : Int) with | (lo, hi) => pure (lo, (-1 : Int), Builtin.Slice.slicePlaces lo hi (-1))) _ _ s
  rw [rev_adjust]
  show wpAny _ _ (pure ((n : Int) - 1, (-1 : Int), Builtin.Slice.slicePlaces ((n : Int) - 1) (-1) (-1))) _ _ s
  rw [rev_places]
  exact wpAny_pure h
theorem rev_pick (xs : Array Value) : ((List.range xs.size).filterMap fun (m : Nat) => xs[((xs.size : Int) - 1 + (m : Int) * (-1)).toNat]?).toArray = xs.toList.reverse.toArray := by
  congr 1
  have e : ∀ l : List Value, (List.range l.length).filterMap (fun (m : Nat) => l[((l.length : Int) - 1 + (m : Int) * (-1)).toNat]?) = l.reverse := by
    intro l
    have h0 : ∀ q : List Nat, (∀ m ∈ q, m < l.length) → q.filterMap (fun (m : Nat) => l[((l.length : Int) - 1 + (m : Int) * (-1)).toNat]?) = q.filterMap (fun m => l.reverse[m]?) := by
      intro q hq
      induction q with
      | nil => rfl
      | cons m q ih =>
        have hm : m < l.length := hq m List.mem_cons_self
        have e1 : l[((l.length : Int) - 1 + (m : Int) * (-1)).toNat]? = l.reverse[m]? := by
          rw [List.getElem?_reverse hm]
          congr 1
          omega
        rw [List.filterMap_cons, List.filterMap_cons, e1, ih fun k hk => hq k (List.mem_cons_of_mem _ hk)]
    have h1 := h0 (List.range l.length) fun m hm => List.mem_range.mp hm
    rw [h1]
    have h2 : ∀ k : List Value, (List.range k.length).filterMap (fun m => k[m]?) = k := by
      intro k
      induction k with
      | nil => rfl
      | cons x k ih =>
        rw [List.length_cons, List.range_succ_eq_map, List.filterMap_cons]
        simp [List.filterMap_map, Function.comp_def]
        exact ih
    have h3 := h2 l.reverse
    rw [List.length_reverse] at h3
    exact h3
  have := e xs.toList
  simpa using this
theorem getItem_tuple_rev {t sl : Addr} {items : Array Value} {vs : Value} {Q : Value → Shared → Prop} (ht : IsTup s.heap t items) (hs : s.heap.IsSliceOf sl .none .none vs) (ps : IsPart vs (some (-1)))
    (h : Q (.ref s.heap.objs.size) { s with heap := s.heap.push { cls := .type "tuple", data := .seq items.toList.reverse.toArray } })
    (hsz : items.size ≤ sizeLine) : wpAny (model prog w) A (getItem (.ref t) (.ref sl)) Q E s := by
  have htake : sizeOk (.seq items.toList.reverse.toArray) := by
    show items.toList.reverse.toArray.size ≤ sizeLine
    rw [List.size_toArray, List.length_reverse, Array.length_toList]
    exact hsz
  obtain ⟨os, hos, hcs, hds⟩ := id hs
  have hTs : s.TypeIs (.ref sl) "slice" := ⟨os, hos, hcs⟩
  unfold getItem
  try with_reducible refine wpAny_holding ?_
  first | refine wpAny_bind (wpAny_pure ?_) | skip
  refine wpAny_bind (wpAny_sequenceKey ht.typeIs (by decide) ?_)
  refine wpAny_bind (wpAny_callSpecial?_slot (name := Str.ofString "__getitem__") ht.typeIs PyProof.Rows.slot_tuple_getitem
    (wpAny_call_entry PyProof.Rows.slot_tuple_getitem ht.typeIs entry_tuple_getitem ?_ (args_tuple_getitem _ _)))
  show wpAny _ _ (Builtin.Tuple.tupleItemsOf (.ref t) >>= _) _ _ s
  refine wpAny_bind (tupleItemsOf_ ht ?_)
  refine wpAny_bind (wpAny_typeOf hTs ?_)
  rw [if_pos (by decide)]
  refine wpAny_bind (sliceApplied_rev hs ps ?_)
  have hno : ¬ ((((items.size : Int) - 1 == 0) && ((-1 : Int) == 1) && (items.size == items.size)) = true) := by simp
  show wpAny _ _ (if (((items.size : Int) - 1 == 0) && ((-1 : Int) == 1) && (items.size == items.size)) = true then _ else _) _ _ s
  rw [if_neg hno, rev_pick]
  first
    | exact wpAny_bind (m := Builtin.Tuple.tupleExact _) (wpAny_newObj_type (wpAny_pure ⟨_, rfl, wpAny_pure h⟩) htake)
    | exact wpAny_bind (m := Builtin.Tuple.tupleExact _) (wpAny_newObj_type (wpAny_bind (wpAny_pure (wpAny_pure ⟨_, rfl, wpAny_pure h⟩))) htake)
    | exact wpAny_bind (wpAny_bind (m := Builtin.Tuple.tupleExact _) (wpAny_newObj_type (wpAny_pure (wpAny_pure ⟨_, rfl, wpAny_pure h⟩)) htake))
    | exact wpAny_bind (wpAny_bind (m := Builtin.Tuple.tupleExact _) (wpAny_newObj_type (wpAny_pure ⟨_, rfl, wpAny_pure h⟩) htake))
end
end HT
namespace DL
open PySem PySem.Spec PyProof.Rows L2
def tRevA (K : PySem.W.Frag) (te : TE) : TE := fun σ H Q => te σ H fun x H1 => ∃ a xs, x = .ref a ∧ ((SqL K H1 a xs ∧ ∀ p, H1 p = none → Q (.ref p) (upd H1 p (.lst xs.reverse))) ∨ (SqT K H1 a xs ∧ ∀ p, H1 p = none → Q (.ref p) (upd H1 p (.tup xs.reverse))))
section
variable {X : Cx}
theorem pe_revA {e : Expr} {te : TE} {k : Nat} {p1 p2 p3 pos : Pos} (he : PE X e te) : PE X (.Subscript e (.Slice none none (some (.UnaryOp .USub (.Constant (.int 1) k p1) p2)) p3) pos) (tRevA X.K te) := by
  refine ⟨fun pins s σ H Q I h => ?_⟩
  refine Subscript_ (thn (he.run pins s σ H _ I h) fun v s1 ⟨x, H1, I1, r1, q1⟩ => ?_)
  obtain ⟨a, xs, ex, q⟩ := q1
  subst ex
  cases r1
  have hst : PO X (some (.UnaryOp .USub (.Constant (.int 1) k p1) p2)) (tPart (tUn (rU fun i => .int (-i)) (tC (.int 1)))) := po_some (pe_un un_neg pe_int)
  refine wpAny_Slice (thn (po_none.run pins s1 σ H1 (fun o H2 => o = none ∧ H2 = H1) I1 ⟨rfl, rfl⟩) fun vl s2 ⟨l, H2, I2, pl, el, e2⟩ => ?_)
  subst el e2
  refine thn (po_none.run pins s2 σ H2 (fun o H3 => o = none ∧ H3 = H2) I2 ⟨rfl, rfl⟩) fun vu s3 ⟨u, H3, I3, pu, eu, e3⟩ => ?_
  subst eu e3
  refine thn (hst.run pins s3 σ H3 (fun o H4 => o = some (-1) ∧ H4 = H3) I3 ⟨1, rfl, -1, rfl, rfl, rfl⟩) fun vs s4 ⟨o, H4, I4, ps, eo, e4⟩ => ?_
  subst eo e4
  have I5 : Inv X pins σ H4 { s4 with heap := s4.heap.push { cls := .type "slice", data := .fields #[vl, vu, vs] } } := I4.kept (t' := s4.toks) fun b ob q => Heap.get?_push_of_some _ q
  have evl : vl = Value.none := by
    rcases pl with h | h
    · rfl
  have evu : vu = Value.none := by
    rcases pu with h | h
    · rfl
  subst evl evu
  rcases q with ⟨hx, q⟩ | ⟨hx, q⟩
  · obtain ⟨its, r, ht, hz⟩ := I5.list hx
    have hlen := r.length
    refine tail_any (ops := [.ref a, .ref s4.heap.objs.size]) ht.isList.typeIs (PySem.slot_list_getitem.lookup) ?_ (by with_unfolding_all rfl)
    refine wpAny_getItem_list_slice ht.isList (Heap.IsSliceOf.new _ _ _ vs) pl pu ps (by decide) ?_ (by rw [List.size_toArray]; omega)
    rw [PySem.W.krv_pick]
    refine ⟨.ref _, _, I5.laid (t' := s4.toks) (o := .lst xs.reverse) (fun b ob q => Heap.get?_push_of_some _ q) (Nat.le_refl _) ?_, rfl, q _ (I5.hok.fresh (Nat.le_refl _))⟩
    exact ⟨by rw [List.length_reverse]; exact hz, _, 0, r.reverse, Heap.get?_push_size _ rfl⟩
  · obtain ⟨its, r, ht, hz⟩ := I5.tuple hx
    have hlen := r.length
    refine tail_any (ops := [.ref a, .ref s4.heap.objs.size]) ht.typeIs (PyProof.Rows.slot_tuple_getitem.lookup) ?_ (by with_unfolding_all rfl)
    refine HT.getItem_tuple_rev ht (Heap.IsSliceOf.new _ _ _ vs) ps ?_ (by rw [List.size_toArray]; omega)
    refine ⟨.ref _, _, I5.laid (t' := s4.toks) (o := .tup xs.reverse) (fun b ob q => Heap.get?_push_of_some _ q) (Nat.le_refl _) ?_, rfl, q _ (I5.hok.fresh (Nat.le_refl _))⟩
    exact ⟨by rw [List.length_reverse]; exact hz, its.reverse, r.reverse, IsTup.new _ _⟩
end
end DL

set_option Elab.async false
set_option linter.all false
set_option maxRecDepth 100000
/-! subscripts, slices, displays, dicts, isinstance -/
namespace DL
open PySem PySem.Spec PyProof.Rows L2
/-! ### a[i] -/
def oQ {α : Type} (o : Option α) (k : α → Prop) [Fz k] : Prop := match o with
  | some d => k d
  | none => False
theorem oQ_some {α : Type} {o : Option α} {k : α → Prop} (h : oQ o k) : ∃ d, o = some d ∧ k d := by
  cases o with
  | some d => exact ⟨d, rfl, h⟩
  | none => exact h.elim
def asI : D → Option Int
  | .int i => some i
  | _ => none
def dIx (x y : D) : Pr := fun S Q => match asS S x with
  | some ds => oQ (asI y) fun i => oQ (atI ds i) fun d => Q d S
  | none => match asD S x with
    | some kvs => oQ (asK y) fun k => oQ (valD kvs k) fun d => Q d S
    | none => match asDT S x with
      | some kvs => oQ (asKT y) fun k => oQ (valD kvs k) fun d => Q d S
      | none => match x with
        | .str z => z.length ≤ sizeLine ∧ oQ (asI y) fun i => oQ (atI z.cps.toList i) fun c => Q (.str ⟨#[c]⟩) S
        | _ => False
section
variable {X : Cx} {E : XK}
theorem ix_dict (hu : X.A.units + 1 < cLine) : IxR X (fun x y H Q => ∃ a v, x = .ref a ∧ DGet H a y (some v) ∧ Q v H) := by
  intro value slice pins s σ H x y v u Q I rx ry ⟨a, z, ex, g, q⟩ hs
  subst ex
  obtain rfl : v = Value.ref a := rx
  exact tail_any (dict_typeIs I g) PySem.F.slot_dict_getitem.lookup (d_getItem hu I g ry fun w' s3 I3 rw' => ⟨z, H, I3, rw', q⟩) hs
theorem Cn.hu1 (c : Cn X E) : X.A.units + 1 < cLine := Nat.lt_of_le_of_lt (Nat.add_le_add_left (by decide : 1 ≤ 64) _) c.hu
theorem Ct.oQ {K : PySem.W.Frag} {E : XK} {α β γ : Type} {R : Wd → α → β → Prop} {W : Wd} {S : Sto} {H : Hp} {o : Option γ} {q : γ → (α → Sto → Prop) → (Xn → Sto → Prop) → Prop} {Q : β → Hp → Prop} (c : Ct K E R W S H (fun Qd Ed => oQ o fun d => q d Qd Ed) Q) :
    ∃ d, o = some d ∧ Ct K E R W S H (q d) Q := by
  obtain ⟨rl, Qd, Ed, q, hq, he⟩ := c
  obtain ⟨d, e, z⟩ := oQ_some q
  exact ⟨d, e, rl, Qd, Ed, z, hq, he⟩
theorem atI_rl {K : PySem.W.Frag} {W : Wd} {ds : List D} {vs : List V} {i : Int} {d : D} (t : RL K W ds vs) (h : atI ds i = some d) : ∃ v, atI vs i = some v ∧ Rp K W d v := by
  unfold atI at h ⊢
  rw [← Paired.length t]
  cases e : ixN ds.length i with
  | none => rw [e] at h; cases h
  | some j =>
    rw [e] at h
    exact Paired.get t h
theorem asI_of {K : PySem.W.Frag} {W : Wd} {d : D} {v : V} {i : Int} (r : Rp K W d v) (h : asI d = some i) : v = .int i := by
  cases d with
  | int j => cases h; exact r
  | _ => cases h
theorem o_ix (hc : Cn X E) : IxR X (l2 X.K dIx) := by
  intro value slice pins s σ H x y v u Q I rx ry ⟨W, S, d, e, rd, re, c⟩ hs
  unfold dIx at c
  split at c
  · rename_i ds ea
    obtain ⟨i, ei, c⟩ := c.oQ
    obtain ⟨z, ez, c⟩ := c.oQ
    obtain ⟨a, vs, rfl, h, t⟩ := asS_of c.rl rd ea
    obtain rfl := asI_of re ei
    obtain ⟨w, ew, rw'⟩ := atI_rl t ez
    refine ix_seq value slice pins s σ H _ _ v u Q I rx ry ?_ hs
    rcases h with h | h
    · exact .inl ⟨a, vs, i, w, rfl, rfl, h, ew, c.pure rw'⟩
    · exact .inr (.inl ⟨a, vs, i, w, rfl, rfl, h, ew, c.pure rw'⟩)
  · split at c
    · rename_i kvs ea
      obtain ⟨k, ek, c⟩ := c.oQ
      obtain ⟨z, ez, c⟩ := c.oQ
      obtain ⟨a, vs, rfl, h, t⟩ := asD_of c.rl rd ea
      obtain rfl := key_of re ek
      rcases val_of (k := k) t with ⟨e1, _⟩ | ⟨z', w, e1, e2, r⟩
      · rw [e1] at ez; cases ez
      · rw [e1] at ez
        cases ez
        exact ix_dict hc.hu1 value slice pins s σ H _ _ v u Q I rx ry ⟨a, w, rfl, .inl ⟨vs, k, .inl h, rfl, e2.symm⟩, c.pure r⟩ hs
    · split at c
      · rename_i kvs ea
        obtain ⟨k, ek, c⟩ := c.oQ
        obtain ⟨z, ez, c⟩ := c.oQ
        obtain ⟨a, vs, rfl, h, t⟩ := asDT_of c.rl rd ea
        obtain ⟨b, rfl, hb⟩ := keyT_of c.rl re ek
        rcases val_of (k := k) t with ⟨e1, _⟩ | ⟨z', w, e1, e2, r⟩
        · rw [e1] at ez; cases ez
        · rw [e1] at ez
          cases ez
          exact ix_dict hc.hu1 value slice pins s σ H _ _ v u Q I rx ry ⟨a, w, rfl, .inr ⟨vs, k, b, .inl h, rfl, hb, e2.symm⟩, c.pure r⟩ hs
      · split at c
        · rename_i z _ _ _
          obtain ⟨hl, c⟩ := c.and
          obtain ⟨i, ei, c⟩ := c.oQ
          obtain ⟨k, ek, c⟩ := c.oQ
          obtain rfl := asI_of re ei
          obtain rfl : x = V.str z := rd
          exact ix_seq value slice pins s σ H _ _ v u Q I rx ry (.inr (.inr ⟨z, i, k, rfl, rfl, hl, ek, c.pure rstr⟩)) hs
        · exact c.no
theorem pd_ix (hc : Cn X E) {a b : Expr} {wa wb : DE D} {pos : Pos} (ha : PD X E a wa) (hb : PD X E b wb) (hs : PlainIx b := by exact fun _ _ => rfl) : PD X E (.Subscript a b pos) (wB2 dIx wa wb) :=
  PE.of (pe_ix (o_ix hc) ha hb hs) fun _ _ _ h => lf_two h

/-! ### slices -/
def cutD {α : Type} (xs : List α) (lo hi : Option Int) : List α := (xs.drop (HT.sIx xs.length 0 lo)).take (HT.sIx xs.length xs.length hi - HT.sIx xs.length 0 lo)
def dSl (b : Bool) (x : D) (lo hi : Option Int) : Pr := fun S Q => match x with
  | .tup ds => Q (.tup (cutD ds lo hi)) S
  | .str z => z.length ≤ sizeLine ∧ Q (.str (Txt.slice z lo hi)) S
  | x => match asL S x with
    | some ds => alL b (cutD ds lo hi) S Q
    | none => False
/-- a slice's bound -/
def wOpt : Option (DE D) → DE (Option Int)
  | none => fun _ S Q _ => Q none S
  | some w => fun ρ S Q Ex => w ρ S (fun x S1 => match x with
    | .int i => Q (some i) S1
    | _ => False) Ex
def wSl (b : Bool) (a : DE D) (lo hi : Option (DE D)) : DE D := fun ρ S Q Ex => a ρ S (fun x S1 => wOpt lo ρ S1 (fun l S2 => wOpt hi ρ S2 (fun h S3 => dSl b x l h S3 Q) Ex) Ex) Ex
abbrev rOpt : Wd → Option Int → Option Int → Prop := fun _ a b => a = b
def PDO (X : Cx) (E : XK) (e : Option Expr) (w : Option (DE D)) : Prop := PO X e (lf X.K E rOpt (wOpt w))
theorem PO.of {e : Option Expr} {t t' : TO} (h : PO X e t) (i : ∀ σ H Q, t' σ H Q → t σ H Q) : PO X e t' := ⟨fun pins s σ H Q I z => h.run pins s σ H Q I (i _ _ _ z)⟩
theorem pdo_none : PDO X E none none := PO.of po_none fun σ H Q ⟨W, ρ, S, re, c⟩ => c.pure rfl
theorem pdo_some {e : Expr} {w : DE D} (h : PD X E e w) : PDO X E (some e) (some w) := by
  refine PO.of (po_some h) fun σ H Q ⟨W, ρ, S, re, c⟩ => ⟨W, ρ, S, re, ?_⟩
  obtain ⟨rl, Qd, Ed, q, hq, he⟩ := c
  refine ⟨rl, _, Ed, q, fun W1 S1 H1 d v l r rv z => ?_, he⟩
  split at z
  · rename_i i
    exact ⟨i, rv, hq W1 S1 H1 _ _ l r rfl z⟩
  · exact z.elim
theorem cut_rl {K : PySem.W.Frag} {W : Wd} {ds : List D} {vs : List V} (t : RL K W ds vs) (lo hi : Option Int) : RL K W (cutD ds lo hi) (cutV vs lo hi) := by
  unfold cutD cutV
  rw [← Paired.length t]
  exact Paired.take' _ (Paired.drop' _ t)
theorem SlR.or {r r' : V → Option Int → Option Int → Hp → VK → Prop} (h : SlR X r) (h' : SlR X r') : SlR X (fun x lo hi H Q => r x lo hi H Q ∨ r' x lo hi H Q) := by
  intro pins s σ H x v vl vu lo hi sl Q I rx hs pl pu q
  rcases q with q | q
  · exact h pins s σ H x v vl vu lo hi sl Q I rx hs pl pu q
  · exact h' pins s σ H x v vl vu lo hi sl Q I rx hs pl pu q
theorem cutD_whole {α : Type} {xs : List α} {lo hi : Option Int} (h : HT.sIx xs.length 0 lo = 0 ∧ HT.sIx xs.length xs.length hi = xs.length) : cutD xs lo hi = xs := by
  unfold cutD
  rw [h.1, h.2]
  simp
theorem pd_sl (b : Bool) {e : Expr} {lo hi : Option Expr} {w : DE D} {wl wh : Option (DE D)} {p2 pos : Pos} (he : PD X E e w) (hl : PDO X E lo wl) (hh : PDO X E hi wh) : PD X E (.Subscript e (.Slice lo hi none p2) pos) (wSl b w wl wh) := by
  refine PE.of (pe_slice (sl_tupA.or (sl_list.or C8.sl_txt)) he hl hh) fun σ H Q ⟨W, ρ, S, re, c⟩ => ?_
  refine ⟨W, ρ, S, re, (Ct.bind (k := fun x S1 Qd Ed => wOpt wl ρ S1 (fun l S2 => wOpt wh ρ S2 (fun h S3 => dSl b x l h S3 Qd) Ed) Ed) c).imp (fun _ _ z => z) ?_⟩
  rintro v H1 ⟨W1, S1, x, l1, rx, c1⟩
  refine ⟨W1, ρ, S1, re.mono l1, (Ct.bind (k := fun l S2 Qd Ed => wOpt wh ρ S2 (fun h S3 => dSl b x l h S3 Qd) Ed) c1).imp (fun _ _ z => z) ?_⟩
  rintro o H2 ⟨W2, S2, o', l2, ro, c2⟩
  obtain rfl : o' = o := ro
  refine ⟨W2, ρ, S2, (re.mono l1).mono l2, (Ct.bind (k := fun h S3 Qd Ed => dSl b x o' h S3 Qd) c2).imp (fun _ _ z => z) ?_⟩
  rintro q H3 ⟨W3, S3, q', l3, rq, c3⟩
  obtain rfl : q' = q := rq
  have rx3 := Rp.mono (l2.trans l3) _ _ rx
  replace c3 := c3.pr
  unfold dSl at c3
  split at c3
  · obtain ⟨a, vs, rfl, h, t⟩ := asT_of c3.rl rx3 rfl
    refine .inl ⟨a, vs, rfl, SqT.of h, fun hw => ?_, fun hw => ?_⟩
    · rw [← Paired.length t] at hw
      rw [cutD_whole hw] at c3
      exact c3.pure rx3
    · exact c3.newT (cut_rl t _ _)
  · obtain ⟨hz, c3⟩ := c3.and
    exact .inr (.inr ⟨_, rx3, hz, c3.pure rstr⟩)
  · split at c3
    · rename_i ds ea
      obtain ⟨a, vs, rfl, h, t⟩ := asL_of c3.rl rx3 ea
      exact .inr (.inl ⟨a, vs, rfl, SqL.of h, c3.alL (cut_rl t _ _)⟩)
    · exact c3.no
def dRev (b : Bool) (x : D) : Pr := fun S Q => match x with
  | .tup ds => Q (.tup ds.reverse) S
  | x => match asL S x with
    | some ds => alL b ds.reverse S Q
    | none => False
theorem pd_rev (b : Bool) {e : Expr} {w : DE D} {k : Nat} {p1 p2 p3 pos : Pos} (he : PD X E e w) : PD X E (.Subscript e (.Slice none none (some (.UnaryOp .USub (.Constant (.int 1) k p1) p2)) p3) pos) (wB1 (dRev b) w) := by
  refine PE.of (pe_revA he) fun σ H Q h => ?_
  obtain ⟨W, ρ, S, re, c⟩ := lf_one h
  refine ⟨W, ρ, S, re, c.imp (fun _ _ z => z) fun v H1 ⟨W1, S1, d, rd, c1⟩ => ?_⟩
  unfold dRev at c1
  split at c1
  · rename_i ds
    obtain ⟨a, vs, rfl, h, t⟩ := asT_of (ds := ds) c1.rl rd rfl
    exact ⟨a, vs, rfl, .inr ⟨SqT.of h, c1.newT (Paired.rev t)⟩⟩
  · split at c1
    · rename_i ds ea
      obtain ⟨a, vs, rfl, h, t⟩ := asL_of c1.rl rd ea
      exact ⟨a, vs, rfl, .inl ⟨SqL.of h, c1.alL (Paired.rev t)⟩⟩
    · exact c1.no

/-! ### displays -/
def dTup : Pn := fun xs S Q => xs.length ≤ sizeLine ∧ Q (.tup xs) S
def dLst (b : Bool) : Pn := fun xs S Q => xs.length ≤ sizeLine ∧ alL b xs S Q
theorem pd_tup {es : List Expr} {k : Nat} {w : DE (List D)} {pos : Pos} (h : PDA X E es w) : PD X E (.Tuple es k pos) (wP dTup w) := by
  refine PE.of (pe_tup h) fun σ H Q h => ?_
  obtain ⟨W, ρ, S, re, c⟩ := lf_args h
  refine ⟨W, ρ, S, re, c.imp (fun _ _ z => z) fun v H1 ⟨W1, S1, d, rd, c1⟩ => ?_⟩
  obtain ⟨hl, c1⟩ := c1.and
  exact ⟨by rw [← Paired.length rd]; exact hl, c1.newT rd⟩
theorem pd_lst (b : Bool) {es : List Expr} {w : DE (List D)} {pos : Pos} (h : PDA X E es w) : PD X E (.List es pos) (wP (dLst b) w) := by
  refine PE.of (pe_lst h) fun σ H Q h => ?_
  obtain ⟨W, ρ, S, re, c⟩ := lf_args h
  refine ⟨W, ρ, S, re, c.imp (fun _ _ z => z) fun v H1 ⟨W1, S1, d, rd, c1⟩ => ?_⟩
  obtain ⟨hl, c1⟩ := c1.and
  exact ⟨by rw [← Paired.length rd]; exact hl, c1.alL rd⟩

/-! ### isinstance -/
end
def tyOf (S : Sto) : D → Option String
  | .non => some "NoneType"
  | .bl _ => some "bool"
  | .int _ => some "int"
  | .str _ => some "str"
  | .tup _ => some "tuple"
  | .lst _ => some "list"
  | .dct _ => some "dict"
  | .dcT _ => some "dict"
  | .loc l => match S[l]? with
    | some (.lst _) => some "list"
    | some (.dct _) => some "dict"
    | some (.dcT _) => some "dict"
    | _ => none
  | _ => none
def isSub (a b : String) : Bool := a == b || (a == "bool" && b == "int")
def kinds : List String := ["NoneType", "bool", "int", "str", "tuple", "list", "dict"]
theorem kit_all : (kinds.all fun a => kinds.all fun b => kitB a b == some (isSub a b)) = true := by decide +kernel
theorem kit_one {a b : String} (ha : a ∈ kinds) (hb : b ∈ kinds) : kitB a b = some (isSub a b) := by
  have h := List.all_eq_true.mp kit_all a ha
  exact eq_of_beq (List.all_eq_true.mp h b hb)
def bIsi : Pn := fun ds S Q => match ds with
  | [x, .ty n] => n ∈ kinds ∧ oQ (tyOf S x) fun t => Q (.bl (isSub t n)) S
  | _ => False
section
variable {X : Cx} {E : XK}
theorem tyOf_of {K : PySem.W.Frag} {W : Wd} {S : Sto} {H : Hp} {d : D} {v : V} {t : String} (rl : Rl K W S H) (r : Rp K W d v) (h : tyOf S d = some t) : t ∈ kinds ∧ TyX K H v (.type t) := by
  cases d with
  | non => cases h; rw [show v = V.non from r]; exact ⟨by decide, .base .non⟩
  | bl b => cases h; rw [show v = V.bl b from r]; exact ⟨by decide, .base (.bl b)⟩
  | int b => cases h; rw [show v = V.int b from r]; exact ⟨by decide, .base (.int b)⟩
  | str b => cases h; rw [show v = V.str b from r]; exact ⟨by decide, .base (.str b)⟩
  | tup ds =>
    cases h
    obtain ⟨a, vs, rfl, q, _⟩ := r
    exact ⟨by decide, .base (.tup (rl.same _ _ q))⟩
  | lst ds =>
    cases h
    obtain ⟨a, vs, rfl, q, _⟩ := r
    exact ⟨by decide, .base (.lst (rl.same _ _ q))⟩
  | dct ds =>
    cases h
    obtain ⟨a, vs, rfl, q, _⟩ := r
    exact ⟨by decide, .base (.dK (rl.same _ _ q))⟩
  | dcT ds =>
    cases h
    obtain ⟨a, vs, rfl, q, _⟩ := r
    exact ⟨by decide, .base (.dT (rl.same _ _ q))⟩
  | loc l =>
    obtain ⟨a, rfl, ha⟩ := r
    obtain ⟨o, u, e1, _, hu, ro⟩ := rl.mem ha
    have h : (match S[l]? with
      | some (.lst _) => some "list"
      | some (.dct _) => some "dict"
      | some (.dcT _) => some "dict"
      | _ => none) = some t := h
    rw [e1] at h
    cases o with
    | lst ds =>
      cases h
      obtain ⟨vs, rfl, _⟩ := ro
      exact ⟨by decide, .base (.lst hu)⟩
    | dct ds =>
      cases h
      obtain ⟨vs, rfl, _⟩ := ro
      exact ⟨by decide, .base (.dK hu)⟩
    | dcT ds =>
      cases h
      obtain ⟨vs, rfl, _⟩ := ro
      exact ⟨by decide, .base (.dT hu)⟩
    | ins C fs => cases h
  | _ => cases h
theorem c_isi : Bl X (.builtin "isinstance") bIsi := by
  intro pins s σ H xs us Q I r ⟨W, S, ds, rd, c⟩
  unfold bIsi at c
  split at c
  · rename_i x n
    obtain ⟨hn, c⟩ := c.and
    obtain ⟨t, et, c⟩ := c.oQ
    obtain ⟨v, u, rfl, e1, e2⟩ := RL.two rd
    obtain rfl : u = V.ty n := e2
    obtain ⟨ht, ty⟩ := tyOf_of c.rl e1 et
    exact call_isi pins s σ H _ us Q I r ⟨v, .ty n, .type t, .type n, isSub t n, rfl, .ty n, ty, kit_ty (kit_one ht hn), c.pure rbl⟩
  · exact c.no

/-! ### dicts: get, a copy, of pairs, min(d.values()) -/
/-- d.get(k, e) -/
def wGet2 (o a b : DE D) : DE D := fun ρ S Q Ex => o ρ S (fun x S1 => ((asD S1 x).isSome = true ∨ (asDT S1 x).isSome = true) ∧ a ρ S1 (fun k S2 => b ρ S2 (fun z S3 => match asD S3 x with
  | some kvs => oQ (asK k) fun k => Q ((valD kvs k).getD z) S3
  | none => match asDT S3 x with
    | some kvs => oQ (asKT k) fun k => Q ((valD kvs k).getD z) S3
    | none => False) Ex) Ex) Ex
theorem Ct.and' {K : PySem.W.Frag} {E : XK} {α β : Type} {R : Wd → α → β → Prop} {W : Wd} {S : Sto} {H : Hp} {P : Prop} {q : (α → Sto → Prop) → (Xn → Sto → Prop) → Prop} {Q : β → Hp → Prop} (c : Ct K E R W S H (fun Qd Ed => P ∧ q Qd Ed) Q) : P ∧ Ct K E R W S H q Q := c.and
theorem getD_val {K : PySem.W.Frag} {W : Wd} {κ : Type} [DecidableEq κ] {ds : List (κ × D)} {vs : List (κ × V)} (t : RK K W ds vs) (k : κ) {z : D} {v : V} (r : Rp K W z v) : Rp K W ((valD ds k).getD z) ((valV vs k).getD v) := by
  rcases val_of (k := k) t with ⟨e1, e2⟩ | ⟨d, w, e1, e2, r'⟩
  · rw [e1, e2]
    exact r
  · rw [e1, e2]
    exact r'
theorem pd_get2 (hc : Cn X E) {o e f : Expr} {wo we wf : DE D} {apos cpos : Pos} (m : M2 X o "get" apos e f cpos) (ho : PD X E o wo) (he : PD X E e we) (hf : PD X E f wf) : PD X E (.Call (.Attribute o "get" apos) [e, f] [] cpos) (wGet2 wo we wf) := by
  refine PE.of (pe_dget2 hc.hu1 ho he hf m) fun σ H Q ⟨W, ρ, S, re, c⟩ => ?_
  refine ⟨W, ρ, S, re, (Ct.bind (k := fun x S1 Qd Ed => ((asD S1 x).isSome = true ∨ (asDT S1 x).isSome = true) ∧ we ρ S1 (fun k S2 => wf ρ S2 (fun z S3 => match asD S3 x with
    | some kvs => oQ (asK k) fun k => Qd ((valD kvs k).getD z) S3
    | none => match asDT S3 x with
      | some kvs => oQ (asKT k) fun k => Qd ((valD kvs k).getD z) S3
      | none => False) Ed) Ed) c).imp (fun _ _ z => z) ?_⟩
  rintro v H1 ⟨W1, S1, x, l1, rx, c1⟩
  obtain ⟨hd, c1⟩ := c1.and
  have ha : ∃ a, v = .ref a ∧ IsD H1 a := by
    rcases hd with hd | hd
    · obtain ⟨kvs, ek⟩ := Option.isSome_iff_exists.mp hd
      obtain ⟨a, vs, rfl, h, _⟩ := asD_of c1.rl rx ek
      exact ⟨a, rfl, .inl ⟨vs, .inl h⟩⟩
    · obtain ⟨kvs, ek⟩ := Option.isSome_iff_exists.mp hd
      obtain ⟨a, vs, rfl, h, _⟩ := asDT_of c1.rl rx ek
      exact ⟨a, rfl, .inr ⟨vs, .inl h⟩⟩
  obtain ⟨a, rfl, hd⟩ := ha
  refine ⟨a, rfl, hd, W1, ρ, S1, re.mono l1, (Ct.bind (k := fun k S2 Qd Ed => wf ρ S2 (fun z S3 => match asD S3 x with
    | some kvs => oQ (asK k) fun k => Qd ((valD kvs k).getD z) S3
    | none => match asDT S3 x with
      | some kvs => oQ (asKT k) fun k => Qd ((valD kvs k).getD z) S3
      | none => False) Ed) c1).imp (fun _ _ z => z) ?_⟩
  rintro kv H2 ⟨W2, S2, k, l2, rk, c2⟩
  refine ⟨W2, ρ, S2, (re.mono l1).mono l2, (Ct.bind (k := fun z S3 Qd Ed => match asD S3 x with
    | some kvs => oQ (asK k) fun k => Qd ((valD kvs k).getD z) S3
    | none => match asDT S3 x with
      | some kvs => oQ (asKT k) fun k => Qd ((valD kvs k).getD z) S3
      | none => False) c2).imp (fun _ _ z => z) ?_⟩
  rintro zv H3 ⟨W3, S3, z, l3, rz, c3⟩
  have rx3 := Rp.mono (l2.trans l3) _ _ rx
  have rk3 := Rp.mono l3 _ _ rk
  split at c3
  · rename_i kvs ek
    obtain ⟨k', e', c3⟩ := c3.oQ
    obtain ⟨b, vs, eb, h, t⟩ := asD_of c3.rl rx3 ek
    cases eb
    obtain rfl := key_of rk3 e'
    exact ⟨valV vs k', .inl ⟨vs, k', .inl h, rfl, rfl⟩, c3.pure (getD_val t k' rz)⟩
  · split at c3
    · rename_i kvs ek
      obtain ⟨k', e', c3⟩ := c3.oQ
      obtain ⟨b, vs, eb, h, t⟩ := asDT_of c3.rl rx3 ek
      cases eb
      obtain ⟨p, rfl, hp⟩ := keyT_of c3.rl rk3 e'
      exact ⟨valV vs k', .inr ⟨vs, k', p, .inl h, rfl, hp, rfl⟩, c3.pure (getD_val t k' rz)⟩
    · exact c3.no
/-- dict(d), dict of a list of pairs -/
def asPs : List D → Option (List (Key × D))
  | [] => some []
  | .tup [k, v] :: ds => match asK k, asPs ds with
    | some k, some r => some ((k, v) :: r)
    | _, _ => none
  | _ :: _ => none
def putD {κ : Type} [DecidableEq κ] (kvs : List (κ × D)) (k : κ) (v : D) : List (κ × D) :=
  if (kvs.any fun kv => decide (kv.1 = k)) = true then kvs.map (fun kv => if kv.1 = k then (kv.1, v) else kv) else kvs ++ [(k, v)]
def mergeD (kvs more : List (Key × D)) : List (Key × D) := more.foldl (fun acc kv => putD acc kv.1 kv.2) kvs
theorem put_rk {K : PySem.W.Frag} {W : Wd} {κ : Type} [DecidableEq κ] {ds : List (κ × D)} {vs : List (κ × V)} (t : RK K W ds vs) (k : κ) {d : D} {v : V} (r : Rp K W d v) : RK K W (putD ds k d) (putK vs k v) := by
  have ea : (ds.any fun kv => decide (kv.1 = k)) = (vs.any fun kv => decide (kv.1 = k)) := by
    clear r
    induction t with
    | nil => rfl
    | cons r t ih =>
      rw [List.any_cons, List.any_cons, ih, r.1]
  have em : RK K W (ds.map fun kv => if kv.1 = k then (kv.1, d) else kv) (vs.map fun kv => if kv.1 = k then (kv.1, v) else kv) := by
    clear ea
    induction t with
    | nil => exact .nil
    | @cons p u l m q t ih =>
      refine .cons ?_ ih
      obtain ⟨e, q⟩ := q
      dsimp only
      rw [e]
      by_cases h : p.1 = k
      · simp only [h, if_true]
        exact ⟨trivial, r⟩
      · simp only [h, if_false]
        exact ⟨e, q⟩
  unfold putD putK
  rw [ea]
  split
  · exact em
  · exact Paired.app t (.cons ⟨rfl, r⟩ .nil)
theorem merge_rk {K : PySem.W.Frag} {W : Wd} : ∀ {more : List (Key × D)} {mv : List (Key × V)} {ds : List (Key × D)} {vs : List (Key × V)}, RK K W more mv → RK K W ds vs → RK K W (mergeD ds more) (mergeK vs mv)
  | _, _, _, _, .nil, t => t
  | _, _, _, _, .cons r m, t => by
    unfold mergeD mergeK
    rw [List.foldl_cons, List.foldl_cons, r.1]
    exact merge_rk m (put_rk t _ r.2)
def bDict (b : Bool) : Pn := fun ds S Q => match ds with
  | [d] => match asD S d with
    | some kvs => alD b kvs S Q
    | none => oQ (asL S d) fun es => oQ (asPs es) fun ps => alD b (mergeD [] ps) S Q
  | _ => False
theorem pairs_of {K : PySem.W.Frag} {W : Wd} {S : Sto} {H : Hp} (rl : Rl K W S H) : ∀ {es : List D} {vs : List V} {ps : List (Key × D)}, RL K W es vs → asPs es = some ps → ∃ (as : List Addr) (kvs : List (Key × V)), vs = as.map V.ref ∧ Paired (fun p kv => SqT K H p [kV kv.1, kv.2]) as kvs ∧ RK K W ps kvs
  | _, _, ps, .nil, h => by
    cases h
    exact ⟨[], [], rfl, .nil, .nil⟩
  | e :: es, v :: vs, ps, .cons r t, h => by
    unfold asPs at h
    split at h
    · cases ‹_ :: _ = []›
    · rename_i k d ds heq
      cases heq
      split at h
      · rename_i k' r' e1 e2
        cases h
        obtain ⟨as, kvs, rfl, p1, p2⟩ := pairs_of rl t e2
        obtain ⟨a, ws, rfl, hw, tw⟩ := asT_of (ds := [k, d]) rl r rfl
        obtain ⟨x, y, rfl, rx, ry⟩ := RL.two tw
        obtain rfl := key_of rx e1
        exact ⟨a :: as, (k', y) :: kvs, rfl, .cons (SqT.of hw) p1, .cons ⟨rfl, ry⟩ p2⟩
      · cases h
    · cases h
theorem c_dict (hc : Cn X E) (b : Bool) : Bl X (.type "dict") (bDict b) := by
  intro pins s σ H xs us Q I r ⟨W, S, ds, rd, c⟩
  unfold bDict at c
  split at c
  · obtain ⟨v, rfl, e⟩ := RL.one (ds := []) rd
    split at c
    · rename_i kvs ea
      obtain ⟨a, vs, rfl, h, t⟩ := asD_of c.rl e ea
      exact call_dictD pins s σ H _ us Q I r ⟨a, vs, rfl, .inl h, c.alD t⟩
    · obtain ⟨es, ee, c⟩ := c.oQ
      obtain ⟨ps, ep, c⟩ := c.oQ
      obtain ⟨a, vs, rfl, h, t⟩ := asL_of c.rl e ee
      obtain ⟨as, kvs, rfl, p1, p2⟩ := pairs_of c.rl t ep
      exact call_dictP hc.calm pins s σ H _ us Q I r ⟨a, as, kvs, rfl, SqL.of h, p1, c.alD (merge_rk p2 .nil)⟩
  · exact c.no
/-- min(d.values()) -/
def dMinV (x : D) : Pr := fun S Q => oQ (asD S x) fun kvs => oQ (asInts (kvs.map (·.2))) fun ns => ns ≠ [] ∧ Q (.int (minI ns)) S
theorem RK.vals {K : PySem.W.Frag} {W : Wd} {κ : Type} : ∀ {ds : List (κ × D)} {vs : List (κ × V)}, RK K W ds vs → RL K W (ds.map (·.2)) (vs.map (·.2))
  | _, _, .nil => .nil
  | _, _, .cons r t => .cons r.2 (RK.vals t)
theorem pd_minV (hc : Cn X E) {o : Expr} {w : DE D} {p apos mpos pos : Pos} (hm : X.mg "min" = none) (h : PD X E o w) (hg : Gl X "min" := by rfl) (hbase : attributeBase o "values" X.env (eval o X.env) = eval o X.env := by rfl) (hline : (apos.endLine == mpos.line) = true := by rfl)
    (hse : starEach [Expr.Call (.Attribute o "values" apos) [] [] mpos] X.env = [(false, eval (Expr.Call (.Attribute o "values" apos) [] [] mpos) X.env)] := by rfl) :
    PD X E (.Call (.Name "min" p) [.Call (.Attribute o "values" apos) [] [] mpos] [] pos) (wB1 dMinV w) := by
  refine PE.of (pe_minVals hc.calm hg hm h hbase hline hse) fun σ H Q h => ?_
  obtain ⟨W, ρ, S, re, c⟩ := lf_one h
  refine ⟨W, ρ, S, re, c.imp (fun _ _ z => z) fun v H1 ⟨W1, S1, d, rd, c1⟩ => ?_⟩
  obtain ⟨kvs, ek, c1⟩ := c1.oQ
  obtain ⟨ns, en, c1⟩ := c1.oQ
  obtain ⟨h0, c1⟩ := c1.and
  obtain ⟨a, vs, rfl, h, t⟩ := asD_of c1.rl rd ek
  have tv := RK.vals t
  rw [asInts_of en] at tv
  refine ⟨a, vs, ns, rfl, h, RL.ints_inv tv, h0, fun m hm hl => ?_⟩
  have em : m = minI ns := Int.le_antisymm (hl _ (minI_mem h0)) (minI_le m hm)
  rw [em]
  exact c1.pure rint
/-- sorted(set(xs)) -/
def dSetS (b : Bool) (x : D) : Pr := fun S Q => oQ (asL S x) fun es => oQ (asStrs es) fun xs => (xs.length < 4000 ∧ (setS xs).length < 64) ∧ alL b ((setS xs).map D.str) S Q
theorem pd_setS (hc : Cn X E) (b : Bool) {e : Expr} {w : DE D} {p1 p2 q1 q2 : Pos} (hm1 : X.mg "sorted" = none) (hm2 : X.mg "set" = none) (h : PD X E e w) (hg1 : Gl X "sorted" := by rfl) (hg2 : Gl X "set" := by rfl)
    (he1 : starEach [e] X.env = [(false, eval e X.env)] := by rfl) (he2 : starEach [Expr.Call (.Name "set" p2) [e] [] q2] X.env = [(false, eval (Expr.Call (.Name "set" p2) [e] [] q2) X.env)] := by rfl)
    (hpl : (backTo q2 (starEach [] X.env)).any (·.1) = false := by rfl) (hpl2 : (backTo q1 (starEach [] X.env)).any (·.1) = false := by rfl) :
    PD X E (.Call (.Name "sorted" p1) [.Call (.Name "set" p2) [e] [] q2] [] q1) (wB1 (dSetS b) w) := by
  have pe := pe_callB (x := "sorted") (p := p1) (pos := q1) (cr_sortSetS hc.calm) hg1 hm1 (by decide +kernel) (pa_cons (pe_callTy (x := "set") (p := p2) (pos := q2) (cr_setS hc.calm) hg2 hm2 (by decide +kernel) (pa_cons h pa_nil he1) (by decide) (by decide) he1 hpl) pa_nil he2) (by decide) (by decide) he2 hpl2
  refine PE.of pe fun σ H Q h => ?_
  obtain ⟨W, ρ, S, re, c⟩ := lf_one h
  refine ⟨W, ρ, S, re, c.imp (fun _ _ z => z) fun v H1 ⟨W1, S1, d, rd, c1⟩ => ?_⟩
  obtain ⟨es, ee, c1⟩ := c1.oQ
  obtain ⟨xs, ex, c1⟩ := c1.oQ
  obtain ⟨h64, c1⟩ := c1.and
  obtain ⟨a, rfl, h⟩ := strs_arg c1.rl rd ee ex
  refine ⟨a, xs, rfl, SqL.of h, h64.1, fun q n hq hn => ?_⟩
  have hn := hn (setS xs) (nodup_setS xs) fun k => by rw [mem_setS]; simp
  refine ⟨q, _, n, rfl, upd_same, by omega, fun ys p so nd mem hp => ?_⟩
  rw [setS_one so nd mem]
  obtain ⟨l1, rl1⟩ := c1.rl.keep (o := SetSO X.w q (fun k => xs.contains k) n) hq
  have c2 : Ct X.K E0 (Rp X.K) (W1.keep q (SetSO X.w q (fun k => xs.contains k) n)) S1 (upd H1 q (SetSO X.w q (fun k => xs.contains k) n)) (fun Qd _ => alL b ((setS xs).map D.str) S1 Qd) Q := by
    obtain ⟨_, Qd, Ed, q, hq, he⟩ := c1
    exact ⟨rl1, Qd, Ed, q, fun W' S' H' d v l => hq W' S' H' d v (l1.trans l), fun W' S' H' x c dd l => he W' S' H' x c dd (l1.trans l)⟩
  exact c2.alL (RL.strs _) p hp
end
end DL

set_option Elab.async false
set_option linter.all false
set_option maxRecDepth 100000
/-! statements over data -/
namespace DL
open PySem PySem.Spec PyProof.Rows L2

structure DEnds where
  nx : Rh → Sto → Prop
  rt : D → Sto → Prop
  bk : Rh → Sto → Prop
  ct : Rh → Sto → Prop
abbrev DX := Xn → Sto → Prop
abbrev DS := DEnds → DX → Rh → Sto → Prop
/-- what follows, from a world on -/
structure Kn (K : PySem.W.Frag) (E : XK) (W : Wd) (Dd : DEnds) (Ed : DX) (D : Ends) : Prop where
  nx : ∀ W' ρ' S' σ' H', W.le W' → Rl K W' S' H' → Re K W' ρ' σ' → Dd.nx ρ' S' → D.nx σ' H'
  bk : ∀ W' ρ' S' σ' H', W.le W' → Rl K W' S' H' → Re K W' ρ' σ' → Dd.bk ρ' S' → D.bk σ' H'
  ct : ∀ W' ρ' S' σ' H', W.le W' → Rl K W' S' H' → Re K W' ρ' σ' → Dd.ct ρ' S' → D.ct σ' H'
  rt : ∀ W' S' H' d v, W.le W' → Rl K W' S' H' → Rp K W' d v → Dd.rt d S' → D.rt v H'
  xe : ∀ W' S' H' x c dd, W.le W' → Rl K W' S' H' → RX K W' H' x c dd → Ed x S' → E c dd H'
theorem Kn.mono {K : PySem.W.Frag} {E : XK} {W W1 : Wd} {Dd : DEnds} {Ed : DX} {D : Ends} (k : Kn K E W Dd Ed D) (l : W.le W1) : Kn K E W1 Dd Ed D :=
  ⟨fun W' ρ S σ H h => k.nx W' ρ S σ H (l.trans h), fun W' ρ S σ H h => k.bk W' ρ S σ H (l.trans h), fun W' ρ S σ H h => k.ct W' ρ S σ H (l.trans h), fun W' S H d v h => k.rt W' S H d v (l.trans h), fun W' S H x c dd h => k.xe W' S H x c dd (l.trans h)⟩
structure Cs (K : PySem.W.Frag) (E : XK) (W : Wd) (ρ : Rh) (S : Sto) (σ : L2.St) (H : Hp) (q : DEnds → DX → Prop) (D : Ends) : Prop where
  rl : Rl K W S H
  re : Re K W ρ σ
  ex : ∃ Dd Ed, q Dd Ed ∧ Kn K E W Dd Ed D
def lfS (K : PySem.W.Frag) (E : XK) (w : DS) : TS := fun D σ H => ∃ W ρ S, Cs K E W ρ S σ H (fun Dd Ed => w Dd Ed ρ S) D
def PDS (X : Cx) (E : XK) (st : Stmt) (w : DS) : Prop := PS X st (lfS X.K E w)
def PDSs (X : Cx) (E : XK) (st : List Stmt) (w : DS) : Prop := PSs X st (lfS X.K E w)
section
variable {K : PySem.W.Frag} {E : XK} {W : Wd} {ρ : Rh} {S : Sto} {σ : L2.St} {H : Hp} {D : Ends}
/-- an expression, then the rest of a statement -/
theorem Cs.bind {α β : Type} {R : Wd → α → β → Prop} {w : DE α} {k : α → Sto → DEnds → DX → Prop} (h : Cs K E W ρ S σ H (fun Dd Ed => w ρ S (fun a S1 => k a S1 Dd Ed) Ed) D) :
    lf K E R w σ H (fun b H1 => ∃ W1 S1 a, W.le W1 ∧ R W1 a b ∧ Cs K E W1 ρ S1 σ H1 (k a S1) D) := by
  obtain ⟨rl, re, Dd, Ed, q, kn⟩ := h
  exact ⟨W, ρ, S, re, rl, _, Ed, q, fun W1 S1 H1 a b l r rb z => ⟨W1, S1, a, l, rb, r, re.mono l, Dd, Ed, z, kn.mono l⟩, kn.xe⟩
theorem Cs.next (h : Cs K E W ρ S σ H (fun Dd _ => Dd.nx ρ S) D) : D.nx σ H := by
  obtain ⟨rl, re, Dd, Ed, q, kn⟩ := h
  exact kn.nx W ρ S σ H (.refl W) rl re q
theorem Cs.next' {W1 : Wd} {ρ' : Rh} {S' : Sto} {σ' : L2.St} {H' : Hp} (h : Cs K E W ρ S σ H (fun Dd _ => Dd.nx ρ' S') D) (l : W.le W1) (rl : Rl K W1 S' H') (re : Re K W1 ρ' σ') : D.nx σ' H' := by
  obtain ⟨_, _, Dd, Ed, q, kn⟩ := h
  exact kn.nx W1 ρ' S' σ' H' l rl re q
theorem Cs.retn {d : DL.D} {v : V} (h : Cs K E W ρ S σ H (fun Dd _ => Dd.rt d S) D) (r : Rp K W d v) : D.rt v H := by
  obtain ⟨rl, re, Dd, Ed, q, kn⟩ := h
  exact kn.rt W S H d v (.refl W) rl r q
theorem Cs.no {P : Prop} (h : Cs K E W ρ S σ H (fun _ _ => False) D) : P := by
  obtain ⟨_, _, _, _, q, _⟩ := h
  exact q.elim
theorem Cs.and {P : Prop} {q : DEnds → DX → Prop} (h : Cs K E W ρ S σ H (fun Dd Ed => P ∧ q Dd Ed) D) : P ∧ Cs K E W ρ S σ H q D := by
  obtain ⟨rl, re, Dd, Ed, ⟨p, q⟩, kn⟩ := h
  exact ⟨p, rl, re, Dd, Ed, q, kn⟩
theorem Cs.oQ {γ : Type} {o : Option γ} {q : γ → DEnds → DX → Prop} (h : Cs K E W ρ S σ H (fun Dd Ed => oQ o fun d => q d Dd Ed) D) : ∃ d, o = some d ∧ Cs K E W ρ S σ H (q d) D := by
  obtain ⟨rl, re, Dd, Ed, q, kn⟩ := h
  obtain ⟨d, e, z⟩ := oQ_some q
  exact ⟨d, e, rl, re, Dd, Ed, z, kn⟩
/-- a statement's reading at a state -/
theorem Cs.lf {w : DS} (h : Cs K E W ρ S σ H (fun Dd Ed => w Dd Ed ρ S) D) : lfS K E w D σ H := ⟨W, ρ, S, h⟩
theorem Cs.with_nx {w : DS} {N : DEnds → DX → Rh → Sto → Prop} {nx : L2.St → Hp → Prop} (h : Cs K E W ρ S σ H (fun Dd Ed => w { Dd with nx := N Dd Ed } Ed ρ S) D)
    (hn : ∀ W1 ρ1 S1 σ1 H1, W.le W1 → Cs K E W1 ρ1 S1 σ1 H1 (fun Dd Ed => N Dd Ed ρ1 S1) D → nx σ1 H1) : lfS K E w { D with nx := nx } σ H := by
  obtain ⟨rl, re, Dd, Ed, q, kn⟩ := h
  exact ⟨W, ρ, S, rl, re, _, Ed, q, fun W' ρ' S' σ' H' l r1 r2 z => hn W' ρ' S' σ' H' l ⟨r1, r2, Dd, Ed, z, kn.mono l⟩, kn.bk, kn.ct, kn.rt, kn.xe⟩
end
def wSkip : DS := fun D _ ρ S => D.nx ρ S
def wSeq (t u : DS) : DS := fun D Ed ρ S => t { D with nx := fun ρ' S' => u D Ed ρ' S' } Ed ρ S
def wDrop (e : DE D) : DS := fun D Ed ρ S => e ρ S (fun _ S1 => D.nx ρ S1) Ed
def wRet (e : DE D) : DS := fun D Ed ρ S => e ρ S (fun x S1 => D.rt x S1) Ed
def wRetN : DS := fun D _ _ S => D.rt .non S
def wBrk : DS := fun D _ ρ S => D.bk ρ S
def wCnt : DS := fun D _ ρ S => D.ct ρ S
def wIfS (c : DE Bool) (t u : DS) : DS := fun D Ed ρ S => c ρ S (fun b S1 => if b = true then t D Ed ρ S1 else u D Ed ρ S1) Ed
def wSet (i : Nat) (e : DE D) : DS := fun D Ed ρ S => e ρ S (fun x S1 => D.nx (ρ.set i (some x)) S1) Ed
/-- a, b = x, y -/
def wPar (i j : Nat) (e : DE (List D)) : DS := fun D Ed ρ S => e ρ S (fun xs S1 => match xs with
  | [x, y] => D.nx ((ρ.set i (some x)).set j (some y)) S1
  | _ => False) Ed
section
variable {X : Cx} {E : XK} {st : Stmt} {rest : List Stmt} {t u : DS} {e : Expr} {w : DE D} {pos : Pos}
theorem pdss_nil : PDSs X E [] wSkip := PSs.of pss_nil fun D σ H ⟨W, ρ, S, c⟩ => Cs.next c
theorem pdss_cons (h1 : PDS X E st t) (h2 : PDSs X E rest u) : PDSs X E (st :: rest) (wSeq t u) :=
  PSs.of (pss_cons h1 h2) fun D σ H ⟨W, ρ, S, c⟩ => Cs.with_nx (w := t) (N := fun Dd Ed ρ' S' => u Dd Ed ρ' S') c fun W1 ρ1 S1 σ1 H1 l z => z.lf
theorem pdss_one (h1 : PDS X E st t) : PDSs X E [st] t := pss_one h1
theorem pds_pass : PDS X E (.Pass pos) wSkip := PS.of ps_pass fun D σ H ⟨W, ρ, S, c⟩ => Cs.next c
theorem pds_doc {x j p} : PDS X E (.Expr (.Constant (.str x) j p) pos) wSkip := PS.of ps_doc fun D σ H ⟨W, ρ, S, c⟩ => Cs.next c
theorem pds_break : PDS X E (.Break pos) wBrk := PS.of ps_break fun D σ H ⟨W, ρ, S, rl, re, Dd, Ed, q, kn⟩ => kn.bk W ρ S σ H (.refl W) rl re q
theorem pds_cont : PDS X E (.Continue pos) wCnt := PS.of ps_continue fun D σ H ⟨W, ρ, S, rl, re, Dd, Ed, q, kn⟩ => kn.ct W ρ S σ H (.refl W) rl re q
theorem pds_expr (he : PD X E e w) (hs : swapsWith e none pos.line X.env = pure false := by rfl) : PDS X E (.Expr e pos) (wDrop w) := by
  refine PS.of (ps_expr he hs) fun D σ H ⟨W, ρ, S, c⟩ => ?_
  obtain ⟨W0, ρ0, S0, re, c0⟩ := Cs.bind (R := Rp X.K) (w := w) (k := fun _ S1 Dd _ => Dd.nx ρ S1) c
  exact ⟨W0, ρ0, S0, re, c0.imp (fun _ _ z => z) fun v H1 ⟨W1, S1, a, l, r, c1⟩ => c1.next⟩
theorem pds_ret (he : PD X E e w) : PDS X E (.Return (some e) pos) (wRet w) := by
  refine PS.of (ps_ret he) fun D σ H ⟨W, ρ, S, c⟩ => ?_
  obtain ⟨W0, ρ0, S0, re, c0⟩ := Cs.bind (R := Rp X.K) (w := w) (k := fun x S1 Dd _ => Dd.rt x S1) c
  exact ⟨W0, ρ0, S0, re, c0.imp (fun _ _ z => z) fun v H1 ⟨W1, S1, a, l, r, c1⟩ => c1.retn r⟩
theorem pds_retN : PDS X E (.Return none pos) wRetN := PS.of ps_retN fun D σ H ⟨W, ρ, S, c⟩ => Cs.retn c rnon
theorem pds_if {c : Expr} {a b : List Stmt} {wc : DE Bool} (hc : PDT X E c wc) (ha : PDSs X E a t) (hb : PDSs X E b u) : PDS X E (.If c a b pos) (wIfS wc t u) := by
  refine PS.of (ps_if hc ha hb) fun D σ H ⟨W, ρ, S, c⟩ => ?_
  obtain ⟨W0, ρ0, S0, re, c0⟩ := Cs.bind (R := rBool) (w := wc) (k := fun b S1 Dd Ed => if b = true then t Dd Ed ρ S1 else u Dd Ed ρ S1) c
  refine ⟨W0, ρ0, S0, re, c0.imp (fun _ _ z => z) fun v H1 ⟨W1, S1, a, l, r, c1⟩ => ?_⟩
  obtain rfl : a = v := r
  cases a with
  | true => exact Cs.lf c1
  | false => exact Cs.lf c1
theorem pds_set {i : Nat} {x : Str} {p : Pos} (hc : Cn X E) (he : PD X E e w) (hi : X.N[i]? = some x := by rfl) (hx : Loc X.env.scope x := by first | exact Or.inl rfl | exact Or.inr rfl) (hs : swapsWith e (some (.Name x p)) pos.line X.env = pure false := by rfl)
    (hf : X.fn x = true ∨ X.env.scope.names.lookup x = some .local := by first | exact .inl rfl | exact .inr rfl) : PDS X E (.Assign [.Name x p] e pos) (wSet i w) := by
  refine PS.of (ps_set hc.nd hi hx he hs hf) fun D σ H ⟨W, ρ, S, c⟩ => ?_
  obtain ⟨W0, ρ0, S0, re, c0⟩ := Cs.bind (R := Rp X.K) (w := w) (k := fun x S1 Dd _ => Dd.nx (ρ.set i (some x)) S1) c
  exact ⟨W0, ρ0, S0, re, c0.imp (fun _ _ z => z) fun v H1 ⟨W1, S1, a, l, r, c1⟩ => c1.next' (.refl _) c1.rl (c1.re.set i r)⟩
theorem pds_par {i j : Nat} {x y : Str} {a b : Expr} {wa : DE (List D)} {px py pt : Pos} {kt k2 pt2} (hc : Cn X E) (ha : PDA X E [a, b] wa)
    (hi : X.N[i]? = some x := by rfl) (hj : X.N[j]? = some y := by rfl) (hij : i ≠ j := by decide)
    (hx : X.env.scope.names.lookup x = some .local := by rfl) (hy : X.env.scope.names.lookup y = some .local := by rfl)
    (hw : swappedStores [.Tuple [.Name x px, .Name y py] kt pt] (.Tuple [a, b] k2 pt2) X.env = pure (some [x, y]) := by rfl)
    (hs : swapsWithSole [.Tuple [.Name x px, .Name y py] kt pt] (.Tuple [a, b] k2 pt2) pos.line X.env = pure false := by rfl) :
    PDS X E (.Assign [.Tuple [.Name x px, .Name y py] kt pt] (.Tuple [a, b] k2 pt2) pos) (wPar i j wa) := by
  refine PS.of (ps_par hc.calm hc.nd hi hj hij hx hy ha hw hs) fun D σ H ⟨W, ρ, S, c⟩ => ?_
  obtain ⟨W0, ρ0, S0, re, c0⟩ := Cs.bind (R := RL X.K) (w := wa) (k := fun xs S1 Dd _ => match xs with
    | [x, y] => Dd.nx ((ρ.set i (some x)).set j (some y)) S1
    | _ => False) c
  refine ⟨W0, ρ0, S0, re, c0.imp (fun _ _ z => z) fun v H1 ⟨W1, S1, a, l, r, c1⟩ => ?_⟩
  split at c1
  · obtain ⟨v1, v2, rfl, r1, r2⟩ := RL.two r
    exact ⟨v1, v2, rfl, c1.next' (.refl _) c1.rl ((c1.re.set i r1).set j r2)⟩
  · exact c1.no
end
/-! ### targets: a name, a flat tuple of names -/
inductive Tg where
  | nm (i : Nat)
  | tp (is : List Nat)
def setAll (ρ : Rh) : List Nat → List D → Option Rh
  | [], [] => some ρ
  | i :: is, d :: ds => setAll (ρ.set i (some d)) is ds
  | _, _ => none
def asTK : D → Option (List D)
  | .tup ds => some ds
  | .ktp ds => some ds
  | _ => none
def tgSet (t : Tg) (d : D) (ρ : Rh) (Q : Rh → Prop) : Prop := match t with
  | .nm i => Q (ρ.set i (some d))
  | .tp is => oQ (asTK d) fun ds => oQ (setAll ρ is ds) Q
def gMany : List Nat → TGs
  | [] => gNil
  | i :: is => gCons (gName i) (gMany is)
def tgV (K : PySem.W.Frag) : Tg → TG
  | .nm i => gName i
  | .tp is => gTup K is.length (gMany is)
def Tg.ix : Tg → List Nat
  | .nm i => [i]
  | .tp is => is
/-- the target e is read by t -/
def PDG (X : Cx) (e : Expr) (t : Tg) : Prop := PG X e (tgV X.K t)
section
variable {X : Cx} {E : XK} {pos : Pos}
theorem pdg_nm {i : Nat} {x : Str} (hc : Cn X E) (hi : X.N[i]? = some x := by rfl) (hx : Loc X.env.scope x := by first | exact Or.inl rfl | exact Or.inr rfl)
    (hf : X.fn x = true ∨ X.env.scope.names.lookup x = some .local := by first | exact .inl rfl | exact .inr rfl) : PDG X (.Name x pos) (.nm i) := pg_name hc.nd hi hx hf
def PDGs (X : Cx) (es : List Expr) (is : List Nat) : Prop := PGs X es (gMany is)
theorem pdgs_nil : PDGs X [] [] := pgs_nil
theorem pdgs_cons {e : Expr} {es : List Expr} {i : Nat} {is : List Nat} (h : PDG X e (.nm i)) (h2 : PDGs X es is) (hs : (assignEach (e :: es) X.env).map (·.2) = assign e X.env :: (assignEach es X.env).map (·.2) := by rfl) : PDGs X (e :: es) (i :: is) := pgs_cons h h2 hs
theorem pdg_tp {es : List Expr} {k : Nat} {is : List Nat} (hc : Cn X E) (h : PDGs X es is) (hn : (assignEach es X.env).length = is.length := by rfl) (hst : (assignEach es X.env).findIdx? (·.1) = none := by rfl) : PDG X (.Tuple es k pos) (.tp is) := pg_tup hc.calm h hn hst
/-- slots' values behind a flat tuple -/
def setAllV (σ : L2.St) : List Nat → List V → L2.St
  | i :: is, v :: vs => setAllV (σ.set i (some v)) is vs
  | _, _ => σ
theorem gMany_of {K : PySem.W.Frag} {W : Wd} {H : Hp} : ∀ {is : List Nat} {ds : List D} {vs : List V} {ρ ρ' : Rh} {σ : L2.St} {Q : L2.St → Hp → Prop}, RL K W ds vs → Re K W ρ σ → setAll ρ is ds = some ρ' → (Re K W ρ' (setAllV σ is vs) → Q (setAllV σ is vs) H) → gMany is vs σ H Q
  | [], _, _, ρ, ρ', σ, Q, .nil, re, e, q => by
    cases e
    exact ⟨rfl, q re⟩
  | i :: is, _, _, ρ, ρ', σ, Q, .cons r t, re, e, q => ⟨_, _, rfl, gMany_of t (re.set i r) e q⟩
  | [], _, _, ρ, ρ', σ, Q, .cons _ _, re, e, q => by cases e
  | i :: is, _, _, ρ, ρ', σ, Q, .nil, re, e, q => by cases e
theorem setAll_len {ρ' : Rh} : ∀ {is : List Nat} {ds : List D} {ρ : Rh}, setAll ρ is ds = some ρ' → is.length = ds.length
  | [], [], _, _ => rfl
  | i :: is, d :: ds, ρ, h => by
    show is.length + 1 = ds.length + 1
    rw [setAll_len (ρ := ρ.set i (some d)) h]
  | [], _ :: _, _, h => by cases h
  | _ :: _, [], _, h => by cases h
theorem asTK_of {K : PySem.W.Frag} {W : Wd} {S : Sto} {H : Hp} {d : D} {v : V} {ds : List D} (rl : Rl K W S H) (r : Rp K W d v) (h : asTK d = some ds) : ∃ a vs, v = .ref a ∧ SqT K H a vs ∧ RL K W ds vs := by
  cases d with
  | tup es =>
    cases h
    obtain ⟨a, vs, e, q, t⟩ := r
    exact ⟨a, vs, e, SqT.of (rl.same _ _ q), RpL_iff.mp t⟩
  | ktp es =>
    cases h
    obtain ⟨a, vs, e, q, t⟩ := r
    exact ⟨a, vs, e, seqT rl.same q, RpL_iff.mp t⟩
  | _ => cases h
/-- the slots behind a target -/
def tgσ (t : Tg) (σ : L2.St) (v : V) (vs : List V) : L2.St := match t with
  | .nm i => σ.set i (some v)
  | .tp is => setAllV σ is vs
theorem tg_of {K : PySem.W.Frag} {W : Wd} {S : Sto} {H : Hp} {t : Tg} {d : D} {v : V} {ρ : Rh} {σ : L2.St} {P : Rh → Prop} {Q : L2.St → Hp → Prop} (rl : Rl K W S H) (re : Re K W ρ σ) (r : Rp K W d v) (h : tgSet t d ρ P) (q : ∀ ρ' vs, P ρ' → Re K W ρ' (tgσ t σ v vs) → Q (tgσ t σ v vs) H) : tgV K t v σ H Q := by
  cases t with
  | nm i => exact q _ [] h (re.set i r)
  | tp is =>
    obtain ⟨ds, e1, h⟩ := oQ_some h
    obtain ⟨ρ', e2, h⟩ := oQ_some h
    obtain ⟨a, vs, rfl, hs, t⟩ := asTK_of rl r e1
    refine ⟨a, vs, rfl, hs, by rw [← Paired.length t, setAll_len e2], gMany_of t re e2 fun re' => q ρ' vs h re'⟩
theorem wipe_set {σ : L2.St} {i : Nat} {v : V} : ∀ {ws : List Nat}, i ∈ ws → wipe (σ.set i (some v)) ws = wipe σ ws
  | w :: ws, h => by
    unfold wipe
    rcases List.mem_cons.mp h with e | h
    · subst e
      by_cases hm : i ∈ ws
      · rw [wipe_set hm]
      · have : ∀ ws : List Nat, i ∉ ws → (wipe (σ.set i (some v)) ws).set i none = (wipe σ ws).set i none := by
          intro ws
          induction ws with
          | nil =>
            intro _
            unfold wipe
            rw [List.set_set]
          | cons w ws ih =>
            intro hm
            have h1 : i ≠ w := fun e => hm (by rw [e]; exact List.mem_cons_self)
            have h2 : i ∉ ws := fun e => hm (List.mem_cons_of_mem _ e)
            unfold wipe
            rw [List.set_comm _ _ h1.symm, List.set_comm (l := wipe σ ws) _ _ h1.symm, ih h2]
        exact this ws hm
    · rw [wipe_set h]
theorem wipe_all : ∀ {is : List Nat} {vs : List V} {σ : L2.St} {ws : List Nat}, (∀ i ∈ is, i ∈ ws) → wipe (setAllV σ is vs) ws = wipe σ ws
  | [], _, _, _, _ => rfl
  | i :: is, [], _, _, _ => rfl
  | i :: is, v :: vs, σ, ws, h => by
    show wipe (setAllV (σ.set i (some v)) is vs) ws = _
    rw [wipe_all fun j hj => h j (List.mem_cons_of_mem _ hj), wipe_set (h i List.mem_cons_self)]
theorem wipe_tg {t : Tg} {σ : L2.St} {v : V} {vs : List V} {ws : List Nat} (h : ∀ i ∈ t.ix, i ∈ ws) : wipe (tgσ t σ v vs) ws = wipe σ ws := by
  cases t with
  | nm i => exact wipe_set (h i (by simp [Tg.ix]))
  | tp is => exact wipe_all h
/-- target = value, the target a tuple -/
def wTup (t : Tg) (e : DE D) : DS := fun D Ed ρ S => e ρ S (fun x S1 => tgSet t x ρ fun ρ' => D.nx ρ' S1) Ed
theorem pds_tup {tg e : Expr} {w : DE D} {t : Tg} (he : PD X E e w) (hg : PDG X tg t) (hs : swapsWithSole [tg] e pos.line X.env = pure false := by rfl) (hw : swappedStores [tg] e X.env = pure none := by rfl)
    (h1 : (assignEach [tg] X.env).map (·.2) = [assign tg X.env] := by rfl) : PDS X E (.Assign [tg] e pos) (wTup t w) := by
  refine PS.of (ps_asg he hg hs hw h1) fun D σ H ⟨W, ρ, S, c⟩ => ?_
  obtain ⟨W0, ρ0, S0, re, c0⟩ := Cs.bind (R := Rp X.K) (w := w) (k := fun x S1 Dd _ => tgSet t x ρ fun ρ' => Dd.nx ρ' S1) c
  refine ⟨W0, ρ0, S0, re, c0.imp (fun _ _ z => z) fun v H1 ⟨W1, S1, a, l, r, c1⟩ => ?_⟩
  obtain ⟨rl, re, Dd, Ed, q, kn⟩ := c1
  exact tg_of rl re r q fun ρ' vs z re' => kn.nx W1 ρ' S1 _ H1 (.refl _) rl re' z
end
/-! ### o[i] = v, o.f = v -/
def dPutV (x y v : D) (S : Sto) (Q : Sto → Prop) : Prop := match x with
  | .loc l => match S[l]? with
    | some (.lst ds) => oQ (asI y) fun i => oQ (ixN ds.length i) fun j => Q (S.set l (.lst (ds.set j v)))
    | some (.dct kvs) => oQ (asK y) fun k => kvs.length < sizeLine ∧ Q (S.set l (.dct (putD kvs k v)))
    | some (.dcT kvs) => oQ (asKT y) fun k => kvs.length < sizeLine ∧ Q (S.set l (.dcT (putD kvs k v)))
    | _ => False
  | _ => False
def wPut (o i : DE D) (e : DE D) : DS := fun D Ed ρ S => e ρ S (fun v S1 => o ρ S1 (fun x S2 => i ρ S2 (fun y S3 => dPutV x y v S3 fun S4 => D.nx ρ S4) Ed) Ed) Ed
section
variable {X : Cx} {E : XK} {pos : Pos}
theorem PSet.or {t t' : TSet} (h : PSet X t) (h' : PSet X t') : PSet X (fun o i v H Q => t o i v H Q ∨ t' o i v H Q) := by
  intro pins s σ H o i v ov iv u Q I ro ri rv q
  rcases q with q | q
  · exact h pins s σ H o i v ov iv u Q I ro ri rv q
  · exact h' pins s σ H o i v ov iv u Q I ro ri rv q
theorem pds_put (hc : Cn X E) {o i e : Expr} {wo wi w : DE D} {p : Pos} (ho : PD X E o wo) (hi : PD X E i wi) (he : PD X E e w)
    (ha : ∀ v, assign (.Subscript o i p) X.env v = (do
      let ov ← holding [v] (eval o X.env)
      let iv ← holding [v, ov] (eval i X.env)
      standAt p
      holding [v, ov, iv] (setItem ov iv v)
      release [v, ov, iv] []) := by intro _; rfl) (hs : swapsWithSole [Expr.Subscript o i p] e pos.line X.env = pure false := by rfl) (hw : swappedStores [Expr.Subscript o i p] e X.env = pure none := by rfl)
    (h1 : (assignEach [Expr.Subscript o i p] X.env).map (·.2) = [assign (.Subscript o i p) X.env] := by rfl) : PDS X E (.Assign [.Subscript o i p] e pos) (wPut wo wi w) := by
  refine PS.of (ps_asg he (pg_sub ho hi (PSet.or set_list (set_dict hc.hu1)) ha) hs hw h1) fun D σ H ⟨W, ρ, S, c⟩ => ?_
  obtain ⟨W0, ρ0, S0, re, c0⟩ := Cs.bind (R := Rp X.K) (w := w) (k := fun v S1 Dd Ed => wo ρ S1 (fun x S2 => wi ρ S2 (fun y S3 => dPutV x y v S3 fun S4 => Dd.nx ρ S4) Ed) Ed) c
  refine ⟨W0, ρ0, S0, re, c0.imp (fun _ _ z => z) fun v H1 ⟨W1, S1, a, l, r, c1⟩ => ?_⟩
  obtain ⟨W0, ρ0, S0, re, c0⟩ := Cs.bind (R := Rp X.K) (w := wo) (k := fun x S2 Dd Ed => wi ρ S2 (fun y S3 => dPutV x y a S3 fun S4 => Dd.nx ρ S4) Ed) c1
  refine ⟨W0, ρ0, S0, re, c0.imp (fun _ _ z => z) fun xv H2 ⟨W2, S2, x, l2, rx, c2⟩ => ?_⟩
  obtain ⟨W0, ρ0, S0, re, c0⟩ := Cs.bind (R := Rp X.K) (w := wi) (k := fun y S3 Dd Ed => dPutV x y a S3 fun S4 => Dd.nx ρ S4) c2
  refine ⟨W0, ρ0, S0, re, c0.imp (fun _ _ z => z) fun yv H3 ⟨W3, S3, y, l3, ry, c3⟩ => ?_⟩
  have rx3 := Rp.mono l3 _ _ rx
  have r3 := Rp.mono (l2.trans l3) _ _ r
  obtain ⟨rl, re, Dd, Ed, q, kn⟩ := c3
  unfold dPutV at q
  split at q
  · rename_i lc
    obtain ⟨b, rfl, hb⟩ := rx3
    obtain ⟨o, u, e1, _, hu, ro⟩ := rl.mem hb
    rw [e1] at q
    cases o with
    | lst ds =>
      obtain ⟨i, ei, q⟩ := oQ_some q
      obtain ⟨j, ej, q⟩ := oQ_some q
      obtain ⟨vs, rfl, t⟩ := ro
      obtain rfl := asI_of ry ei
      refine .inl ⟨b, vs, i, j, rfl, rfl, hu, by rw [← Paired.length t]; exact ej, ?_⟩
      have rl4 := rl.put (ob := .lst (ds.set j a)) (o := .lst (vs.set j v)) hb ⟨_, rfl, Paired.set' r3 j t⟩
      exact kn.nx W3 ρ _ σ _ (.refl _) rl4 re q
    | dct kvs =>
      obtain ⟨k, ek, hl, q⟩ := oQ_some q
      obtain ⟨vs, rfl, t⟩ := ro
      obtain rfl := key_of ry ek
      refine .inr ⟨b, _, rfl, .inl ⟨vs, k, hu, rfl, by rw [← Paired.length t]; exact hl, rfl⟩, ?_⟩
      have rl4 := rl.put (ob := .dct (putD kvs k a)) (o := .dK (putK vs k v)) hb ⟨_, rfl, put_rk t k r3⟩
      exact kn.nx W3 ρ _ σ _ (.refl _) rl4 re q
    | dcT kvs =>
      obtain ⟨k, ek, hl, q⟩ := oQ_some q
      obtain ⟨vs, rfl, t⟩ := ro
      obtain ⟨p, rfl, hp⟩ := keyT_of rl ry ek
      refine .inr ⟨b, _, rfl, .inr ⟨vs, k, p, hu, rfl, hp, by rw [← Paired.length t]; exact hl, rfl⟩, ?_⟩
      have rl4 := rl.put (ob := .dcT (putD kvs k a)) (o := .dT (putK vs k v)) hb ⟨_, rfl, put_rk t k r3⟩
      exact kn.nx W3 ρ _ σ _ (.refl _) rl4 re q
    | ins C fs => exact q.elim
  · exact q.elim
end
end DL

set_option Elab.async false
set_option linter.all false
set_option maxRecDepth 100000
/-! loops and comprehensions over data -/
namespace DL
open PySem PySem.Spec PyProof.Rows L2 RZ
/-- what is walked: its items; what must stay true of the store -/
structure Itd where
  ds : List D
  g : Sto → Prop
/-- at a state the iterator gives just these items -/
def RI (K : PySem.W.Frag) (W : Wd) (it : Itd) (J : It) : Prop := ∀ (W' : Wd) (S' : Sto) (H' : Hp), W.sub W' → Rl K W' S' H' → it.g S' →
  (∀ (i : Nat) (d : D), it.ds[i]? = some d → J.go i H' ∧ ∀ x H'', J.yld i H' x H'' → ∃ W'', W'.le W'' ∧ Rl K W'' S' H'' ∧ Rp K W'' d x) ∧ J.stop it.ds.length H'
abbrev DI := DE Itd
def PDI (X : Cx) (E : XK) (tg e : Expr) (w : DI) : Prop := PI X tg e (lf X.K E (RI X.K) w)
def noG : Sto → Prop := fun _ => True
/-- the items of a list; of a tuple; of any of these or a text -/
def lstOf (S : Sto) (d : D) : Option Itd := match d with
  | .lst ds => some ⟨ds, noG⟩
  | .scr ns => some ⟨ns.map D.int, noG⟩
  | .loc l => (obL S[l]?).map fun ds => ⟨ds, fun S' => S'[l]? = some (.lst ds)⟩
  | _ => none
def itOf (S : Sto) (d : D) : Option Itd := match lstOf S d with
  | some it => some it
  | none => match asTK d with
    | some ds => some ⟨ds, noG⟩
    | none => match d with
      | .str x => some ⟨x.cps.toList.map fun c => D.str ⟨#[c]⟩, noG⟩
      | _ => none
def wSeqI (e : DE D) : DI := fun ρ S Q Ex => e ρ S (fun x S1 => oQ (itOf S1 x) fun it => Q it S1) Ex
theorem lstOf_of {K : PySem.W.Frag} {W : Wd} {S : Sto} {H : Hp} {d : D} {v : V} {it : Itd} (rl : Rl K W S H) (r : Rp K W d v) (h : lstOf S d = some it) : ∃ a, v = .ref a ∧ (∀ W' S' H', W.sub W' → Rl K W' S' H' → it.g S' → ∃ vs, SqL K H' a vs ∧ RL K W' it.ds vs) ∧ it.g S := by
  cases d with
  | lst ds =>
    cases h
    obtain ⟨a, vs, e, q, t⟩ := r
    exact ⟨a, e, fun W' S' H' l rl _ => ⟨vs, SqL.of (rl.same _ _ (l.1 _ _ q)), RL.sub l (RpL_iff.mp t)⟩, trivial⟩
  | scr ns =>
    cases h
    obtain ⟨a, e, q⟩ := r
    exact ⟨a, e, fun W' S' H' l rl _ => ⟨_, rl.same.seq (l.1.seq q), RL.ints ns⟩, trivial⟩
  | loc lc =>
    obtain ⟨ds, ed, rfl⟩ := Option.map_eq_some_iff.mp h
    have ed := obL_of ed
    obtain ⟨a, e, ha⟩ := r
    refine ⟨a, e, fun W' S' H' l rl e => ?_, ed⟩
    obtain ⟨b, u, hb, _, hu, vs, rfl, t⟩ := rl.at_ lc _ e
    rw [l.2 _ _ ha] at hb
    cases hb
    exact ⟨vs, SqL.of hu, t⟩
  | _ => cases h
theorem tupOf_of {K : PySem.W.Frag} {W : Wd} {d : D} {v : V} {ds : List D} (r : Rp K W d v) (h : asTK d = some ds) : ∃ a, v = .ref a ∧ (∀ W' S' H', W.sub W' → Rl K W' S' H' → ∃ vs, SqT K H' a vs ∧ RL K W' ds vs) := by
  cases d with
  | tup es =>
    cases h
    obtain ⟨a, vs, e, q, t⟩ := r
    exact ⟨a, e, fun W' S' H' l rl => ⟨vs, SqT.of (rl.same _ _ (l.1 _ _ q)), RL.sub l (RpL_iff.mp t)⟩⟩
  | ktp es =>
    cases h
    obtain ⟨a, vs, e, q, t⟩ := r
    exact ⟨a, e, fun W' S' H' l rl => ⟨vs, seqT rl.same (seqT l.1 q), RL.sub l (RpL_iff.mp t)⟩⟩
  | _ => cases h
section
variable {X : Cx} {E : XK}
theorem PI.of {tg e : Expr} {t t' : TI} (h : PI X tg e t) (i : ∀ σ H R, t' σ H R → t σ H R) : PI X tg e t' := ⟨fun pins s σ H R I z => h.run pins s σ H R I (i _ _ _ z)⟩
/-- a list, a tuple, a text -/
theorem pi_seq {tg l : Expr} {tl : TE} (hl : PE X l tl) : PI X tg l (fun σ H R => tl σ H fun x H1 => (∃ a, x = .ref a ∧ (∃ xs, SqL X.K H1 a xs) ∧ R (Itl X.K a) H1) ∨ (∃ a, x = .ref a ∧ (∃ xs, SqT X.K H1 a xs) ∧ R (Itt X.K a) H1) ∨ ∃ z, x = .str z ∧ R (Its z) H1) := by
  refine ⟨fun pins s σ H R I h => ?_⟩
  refine thn (hl.run pins s σ H _ I h) fun v s1 ⟨x, H1, I1, r1, q1⟩ => ?_
  rcases q1 with ⟨a, e, ⟨xs, hq⟩, q⟩ | ⟨a, e, ⟨xs, hq⟩, q⟩ | ⟨z, e, q⟩
  · subst e
    cases r1
    obtain ⟨its, rv, p, hz⟩ := I1.list hq
    exact wpAny_pyIter_list p.isList (pi_one (tk := s1.toks) I1 _ (turn_list a _) ⟨_, Heap.get?_push_size _ rfl, rfl, rfl⟩ q)
  · subst e
    cases r1
    obtain ⟨its, rv, p, hz⟩ := I1.tuple hq
    exact wpAny_pyIter_tuple (show s1.heap.IsTuple a its.toArray from p) (pi_one (tk := s1.toks) I1 _ (turn_tuple a _) ⟨_, Heap.get?_push_size _ rfl, rfl, rfl⟩ q)
  · subst e
    obtain ⟨t, rfl⟩ := r1
    cases ha : z.cps.all (· < 128)
    · exact wpAny_pyIter_wide ha (pi_one (tk := s1.toks) I1 _ (turn_str _ z t "str_iterator" (.inr rfl)) ⟨_, Heap.get?_push_size _ rfl, rfl, rfl⟩ q)
    · exact wpAny_pyIter_ascii ha (pi_one (tk := s1.toks) I1 _ (turn_str _ z t "str_ascii_iterator" (.inl rfl)) ⟨_, Heap.get?_push_size _ rfl, rfl, rfl⟩ q)
theorem ri_lst {K : PySem.W.Frag} {W : Wd} {a : Addr} {vs : List V} {ds : List D} {g : Sto → Prop} (h : ∀ W' S' H', W.sub W' → Rl K W' S' H' → g S' → ∃ vs, SqL K H' a vs ∧ RL K W' ds vs) : RI K W ⟨ds, g⟩ (Itl K a) := by
  intro W' S' H' l rl hg
  obtain ⟨vs, hv, t⟩ := h W' S' H' l rl hg
  refine ⟨fun i d e => ?_, vs, hv, Nat.le_of_eq (Paired.length t).symm⟩
  obtain ⟨v, ev, r⟩ := Paired.get t e
  refine ⟨⟨vs, v, hv, ev⟩, fun x H'' ⟨e1, e2⟩ => ?_⟩
  subst e1
  have q := e2 vs hv
  rw [ev] at q
  cases q
  exact ⟨W', .refl _, rl, r⟩
theorem ri_tup {K : PySem.W.Frag} {W : Wd} {a : Addr} {ds : List D} {g : Sto → Prop} (h : ∀ W' S' H', W.sub W' → Rl K W' S' H' → g S' → ∃ vs, SqT K H' a vs ∧ RL K W' ds vs) : RI K W ⟨ds, g⟩ (Itt K a) := by
  intro W' S' H' l rl hg
  obtain ⟨vs, hv, t⟩ := h W' S' H' l rl hg
  refine ⟨fun i d e => ?_, vs, hv, Nat.le_of_eq (Paired.length t).symm⟩
  obtain ⟨v, ev, r⟩ := Paired.get t e
  refine ⟨⟨vs, v, hv, ev⟩, fun x H'' ⟨e1, e2⟩ => ?_⟩
  subst e1
  have q := e2 vs hv
  rw [ev] at q
  cases q
  exact ⟨W', .refl _, rl, r⟩
theorem pdi_seq {tg e : Expr} {w : DE D} (h : PD X E e w) : PDI X E tg e (wSeqI w) := by
  refine PI.of (pi_seq h) fun σ H R ⟨W, ρ, S, re, c⟩ => ?_
  refine ⟨W, ρ, S, re, (Ct.bind (k := fun x S1 Qd Ed => oQ (itOf S1 x) fun it => Qd it S1) c).imp (fun _ _ z => z) ?_⟩
  rintro v H1 ⟨W1, S1, d, l1, rd, c1⟩
  obtain ⟨it, ei, c1⟩ := c1.oQ
  unfold itOf at ei
  split at ei
  · rename_i it' el
    cases ei
    obtain ⟨a, rfl, q, g0⟩ := lstOf_of c1.rl rd el
    obtain ⟨vs, hv, _⟩ := q W1 S1 H1 ⟨Same.refl _, fun _ _ h => h⟩ c1.rl g0
    exact .inl ⟨a, rfl, ⟨vs, hv⟩, c1.pure (ri_lst (vs := vs) q)⟩
  · split at ei
    · rename_i ds et
      cases ei
      obtain ⟨a, rfl, q⟩ := tupOf_of rd et
      obtain ⟨vs, hv, _⟩ := q W1 S1 H1 ⟨Same.refl _, fun _ _ h => h⟩ c1.rl
      exact .inr (.inl ⟨a, rfl, ⟨vs, hv⟩, c1.pure (ri_tup fun W' S' H' l rl _ => q W' S' H' l rl)⟩)
    · split at ei
      · rename_i z _ _
        cases ei
        refine .inr (.inr ⟨z, rd, c1.pure ?_⟩)
        intro W' S' H' l rl _
        refine ⟨fun i d e => ?_, ?_⟩
        · rw [List.getElem?_map] at e
          cases ec : z.cps.toList[i]? with
          | none => rw [ec] at e; cases e
          | some c =>
            rw [ec] at e
            cases e
            rw [Array.getElem?_toList] at ec
            refine ⟨(Array.getElem?_eq_some_iff.mp ec).1, fun x H'' ⟨e1, c', e2, e3⟩ => ?_⟩
            rw [ec] at e2
            cases e2
            subst e1 e3
            exact ⟨W', .refl _, rl, rstr⟩
        · show z.cps.size ≤ (z.cps.toList.map _).length
          rw [List.length_map, Array.length_toList]
          exact Nat.le_refl _
      · cases ei
/-- range(n), range(a, b) -/
def rng1Q (x : D) (S : Sto) (Q : Itd → Sto → Prop) [Fz Q] : Prop := oQ (asI x) fun j => (-(2 ^ 62) ≤ j ∧ j < 2 ^ 62) ∧ Q ⟨(List.range j.toNat).map fun k => D.int (0 + (k : Nat)), noG⟩ S
def rng2Q (x y : D) (S : Sto) (Q : Itd → Sto → Prop) [Fz Q] : Prop := oQ (asI x) fun i => oQ (asI y) fun j => (-(2 ^ 62) ≤ i ∧ i < 2 ^ 62 ∧ -(2 ^ 62) ≤ j ∧ j < 2 ^ 62) ∧ Q ⟨(List.range (j - i).toNat).map fun k => D.int (i + (k : Nat)), noG⟩ S
def wRng1 (a : DE D) : DI := fun ρ S Q Ex => a ρ S (fun x S1 => rng1Q x S1 Q) Ex
def wRng2 (a b : DE D) : DI := fun ρ S Q Ex => a ρ S (fun x S1 => b ρ S1 (fun y S2 => rng2Q x y S2 Q) Ex) Ex
theorem ri_rng {K : PySem.W.Frag} {W : Wd} {lo : Int} {n : Nat} {ds : List D} (h : ds = (List.range n).map fun k => D.int (lo + (k : Nat))) : RI K W ⟨ds, noG⟩ (Itr lo n) := by
  subst h
  intro W' S' H' l rl _
  refine ⟨fun i d e => ?_, ?_⟩
  · rw [List.getElem?_map] at e
    cases ei : (List.range n)[i]? with
    | none => rw [ei] at e; cases e
    | some k =>
      rw [ei] at e
      cases e
      obtain ⟨h1, h2⟩ := List.getElem?_eq_some_iff.mp ei
      have hi : i < n := by simpa using h1
      have hk : i = k := by simpa using h2
      subst hk
      refine ⟨hi, fun x H'' ⟨e1, e2⟩ => ?_⟩
      subst e1 e2
      exact ⟨W', .refl _, rl, rint⟩
  · show n ≤ _
    rw [List.length_map, List.length_range]
    exact Nat.le_refl _
/-- two arguments' readings -/
theorem pda_two {a b : Expr} {wa wb : DE D} (ha : PD X E a wa) (hb : PD X E b wb) (hs : starEach [a, b] X.env = (false, eval a X.env) :: starEach [b] X.env := by rfl) (hs2 : starEach [b] X.env = (false, eval b X.env) :: starEach [] X.env := by rfl) : PA X [a, b] (fun σ H Q => lf X.K E (Rp X.K) wa σ H fun x H1 => lf X.K E (Rp X.K) wb σ H1 fun y H2 => Q [x, y] H2) :=
  PA.of (pa_cons ha (pa_cons hb pa_nil hs2) hs) fun σ H Q h => h
theorem pdi_rng1 {tg a : Expr} {w : DE D} {p pos : Pos} (hm : X.mg "range" = none) (ha : PD X E a w) (hg : Gl X "range" := by rfl) (hs : starEach [a] X.env = [(false, eval a X.env)] := by rfl) : PDI X E tg (.Call (.Name "range" p) [a] [] pos) (wRng1 w) := by
  refine PI.of (pi_range1 hg hm (pa_cons ha pa_nil hs) hs) fun σ H R ⟨W, ρ, S, re, c⟩ => ?_
  refine ⟨W, ρ, S, re, (Ct.bind (k := fun x S1 Qd _ => rng1Q x S1 Qd) c).imp (fun _ _ z => z) ?_⟩
  rintro v H1 ⟨W1, S1, d, l1, rd, c1⟩
  unfold rng1Q at c1
  obtain ⟨j, ej, c1⟩ := c1.oQ
  obtain ⟨⟨h1, h2⟩, c1⟩ := c1.and
  cases asI_of rd ej
  exact ⟨j, rfl, h1, h2, c1.pure (ri_rng rfl)⟩
theorem pdi_rng2 {tg a b : Expr} {wa wb : DE D} {p pos : Pos} (hm : X.mg "range" = none) (ha : PD X E a wa) (hb : PD X E b wb) (hg : Gl X "range" := by rfl) (hs : starEach [a, b] X.env = [(false, eval a X.env), (false, eval b X.env)] := by rfl) (hs2 : starEach [b] X.env = [(false, eval b X.env)] := by rfl) (hs3 : starEach [a, b] X.env = (false, eval a X.env) :: starEach [b] X.env := by rfl) : PDI X E tg (.Call (.Name "range" p) [a, b] [] pos) (wRng2 wa wb) := by
  refine PI.of (pi_range2 hg hm (pa_cons ha (pa_cons hb pa_nil hs2) hs3) hs hs2) fun σ H R ⟨W, ρ, S, re, c⟩ => ?_
  refine ⟨W, ρ, S, re, (Ct.bind (k := fun x S1 Qd Ed => wb ρ S1 (fun y S2 => rng2Q x y S2 Qd) Ed) c).imp (fun _ _ z => z) ?_⟩
  rintro v H1 ⟨W1, S1, x, l1, rx, c1⟩
  refine ⟨W1, ρ, S1, re.mono l1, (Ct.bind (k := fun y S2 Qd _ => rng2Q x y S2 Qd) c1).imp (fun _ _ z => z) ?_⟩
  rintro u H2 ⟨W2, S2, y, l2, ry, c2⟩
  unfold rng2Q at c2
  obtain ⟨i, ei, c2⟩ := c2.oQ
  obtain ⟨j, ej, c2⟩ := c2.oQ
  obtain ⟨h, c2⟩ := c2.and
  cases asI_of rx ei
  cases asI_of ry ej
  exact ⟨i, j, rfl, h, c2.pure (ri_rng rfl)⟩
/-! enumerate, zip -/
def enumL (ds : List D) : List D := (List.range ds.length).zipWith (fun k d => D.tup [.int (k : Nat), d]) ds
def enumI (it : Itd) : Itd := ⟨enumL it.ds, it.g⟩
def wEnum (a : DE D) : DI := fun ρ S Q Ex => a ρ S (fun x S1 => oQ (lstOf S1 x) fun it => Q (enumI it) S1) Ex
theorem enumL_get {ds : List D} {i : Nat} {d : D} (h : (enumL ds)[i]? = some d) : ∃ e, ds[i]? = some e ∧ d = .tup [.int (i : Nat), e] := by
  unfold enumL at h
  rw [List.getElem?_zipWith] at h
  cases ei : ds[i]? with
  | none => rw [ei] at h; cases er : (List.range ds.length)[i]? <;> rw [er] at h <;> cases h
  | some e =>
    rw [ei, List.getElem?_range (List.getElem?_eq_some_iff.mp ei).1] at h
    cases h
    exact ⟨e, rfl, rfl⟩
theorem enumL_len {ds : List D} : (enumL ds).length = ds.length := by
  unfold enumL
  rw [List.length_zipWith, List.length_range, Nat.min_self]
/-- a new tuple of two -/
theorem new_pair {K : PySem.W.Frag} {W : Wd} {S : Sto} {H : Hp} {T : Addr} {d e : D} {x y : V} (rl : Rl K W S H) (hT : H T = none) (r1 : Rp K W d x) (r2 : Rp K W e y) : ∃ W'', W.le W'' ∧ Rl K W'' S (upd H T (.tup [x, y])) ∧ Rp K W'' (.tup [d, e]) (.ref T) := by
  obtain ⟨l, rl'⟩ := rl.keep (o := .tup [x, y]) hT
  exact ⟨_, l, rl', T, [x, y], rfl, upd_same, RpL_iff.mpr (.cons (Rp.mono l _ _ r1) (.cons (Rp.mono l _ _ r2) .nil))⟩
theorem pdi_enum {e : Expr} {w : DE D} {p pos tpos : Pos} {elts : List Expr} {kk : Nat} (hm : X.mg "enumerate" = none) (ha : PD X E e w) (hg : Gl X "enumerate" := by rfl) (hs : starEach [e] X.env = [(false, eval e X.env)] := by rfl) : PDI X E (.Tuple elts kk tpos) (.Call (.Name "enumerate" p) [e] [] pos) (wEnum w) := by
  refine PI.of (pi_enum hg hm (pa_cons ha pa_nil hs) hs) fun σ H R ⟨W, ρ, S, re, c⟩ => ?_
  refine ⟨W, ρ, S, re, (Ct.bind (k := fun x S1 Qd _ => oQ (lstOf S1 x) fun it => Qd (enumI it) S1) c).imp (fun _ _ z => z) ?_⟩
  rintro v H1 ⟨W1, S1, d, l1, rd, c1⟩
  obtain ⟨it, ei, c1⟩ := c1.oQ
  obtain ⟨a, rfl, q, g0⟩ := lstOf_of c1.rl rd ei
  obtain ⟨vs, hv, _⟩ := q W1 S1 H1 ⟨Same.refl _, fun _ _ h => h⟩ c1.rl g0
  refine ⟨a, vs, rfl, hv, c1.pure ?_⟩
  intro W' S' H' l rl hg
  obtain ⟨vs, hv, t⟩ := q W' S' H' l rl hg
  refine ⟨fun i d e => ?_, vs, hv, by show _ ≤ (enumL it.ds).length; rw [enumL_len, ← Paired.length t]; exact Nat.le_refl _⟩
  obtain ⟨d', ed, rfl⟩ := enumL_get e
  obtain ⟨v, ev, r⟩ := Paired.get t ed
  refine ⟨⟨vs, v, hv, ev⟩, fun x H'' ⟨T, y, e1, hT, e2, e3⟩ => ?_⟩
  subst e1 e2
  have q := e3 vs hv
  rw [ev] at q
  cases q
  exact new_pair rl hT rint r
/-- both lists, or both tuples -/
def zipOf (S : Sto) (x y : D) : Option Itd := match lstOf S x with
  | some i => (lstOf S y).map fun j => ⟨i.ds.zipWith (fun a b => D.tup [a, b]) j.ds, fun S => i.g S ∧ j.g S⟩
  | none => (asTK x).bind fun xs => (asTK y).map fun ys => ⟨xs.zipWith (fun a b => D.tup [a, b]) ys, noG⟩
def wZip (a b : DE D) : DI := fun ρ S Q Ex => a ρ S (fun x S1 => b ρ S1 (fun y S2 => oQ (zipOf S2 x y) fun it => Q it S2) Ex) Ex
theorem zip_get {xs ys : List D} {i : Nat} {d : D} (h : (xs.zipWith (fun a b => D.tup [a, b]) ys)[i]? = some d) : ∃ a b, xs[i]? = some a ∧ ys[i]? = some b ∧ d = .tup [a, b] := by
  rw [List.getElem?_zipWith] at h
  cases ea : xs[i]? with
  | none => rw [ea] at h; cases h
  | some a =>
    cases eb : ys[i]? with
    | none => rw [ea, eb] at h; cases h
    | some b => rw [ea, eb] at h; cases h; exact ⟨a, b, rfl, rfl, rfl⟩
theorem pdi_zip {e e2 : Expr} {w w2 : DE D} {p pos tpos : Pos} {elts : List Expr} {kk : Nat} (hm : X.mg "zip" = none) (ha : PD X E e w) (hb : PD X E e2 w2) (hg : Gl X "zip" := by rfl) (hs : starEach [e, e2] X.env = (false, eval e X.env) :: starEach [e2] X.env := by rfl) (hs2 : starEach [e2] X.env = [(false, eval e2 X.env)] := by rfl) (hpl : (backTo pos (starEach [e2] X.env)).any (·.1) = false := by rfl) : PDI X E (.Tuple elts kk tpos) (.Call (.Name "zip" p) [e, e2] [] pos) (wZip w w2) := by
  refine PI.of (RZ.pi_zipA hg hm (pa_cons ha (pa_cons hb pa_nil hs2) hs) hs hpl) fun σ H R ⟨W, ρ, S, re, c⟩ => ?_
  refine ⟨W, ρ, S, re, (Ct.bind (k := fun x S1 Qd Ed => w2 ρ S1 (fun y S2 => oQ (zipOf S2 x y) fun it => Qd it S2) Ed) c).imp (fun _ _ z => z) ?_⟩
  rintro v H1 ⟨W1, S1, d, l1, rd, c1⟩
  refine ⟨W1, ρ, S1, re.mono l1, (Ct.bind (k := fun y S2 Qd _ => oQ (zipOf S2 d y) fun it => Qd it S2) c1).imp (fun _ _ z => z) ?_⟩
  rintro u H2 ⟨W2, S2, y, l2, ry, c2⟩
  obtain ⟨it, ei, c2⟩ := c2.oQ
  have rd := Rp.mono l2 _ _ rd
  unfold zipOf at ei
  split at ei
  · rename_i i el
    obtain ⟨j, ej, rfl⟩ := Option.map_eq_some_iff.mp ei
    obtain ⟨a, rfl, q, g0⟩ := lstOf_of c2.rl rd el
    obtain ⟨b, rfl, q', g1⟩ := lstOf_of c2.rl ry ej
    obtain ⟨vs, hv, _⟩ := q W2 S2 H2 ⟨Same.refl _, fun _ _ h => h⟩ c2.rl g0
    obtain ⟨us, hu, _⟩ := q' W2 S2 H2 ⟨Same.refl _, fun _ _ h => h⟩ c2.rl g1
    refine ⟨a, b, vs, us, rfl, .inl ⟨hv, hu, c2.pure ?_⟩⟩
    intro W' S' H' l rl ⟨hg, hg'⟩
    obtain ⟨vs, hv, t⟩ := q W' S' H' l rl hg
    obtain ⟨us, hu, t'⟩ := q' W' S' H' l rl hg'
    refine ⟨fun i d e => ?_, vs, us, hv, hu, ?_⟩
    · obtain ⟨x, y, e1, e2, rfl⟩ := zip_get e
      obtain ⟨v, ev, r⟩ := Paired.get t e1
      obtain ⟨u, eu, r'⟩ := Paired.get t' e2
      refine ⟨⟨vs, us, v, u, hv, hu, ev, eu⟩, fun x H'' ⟨T, x', y', e1, hT, e2, e3, e4⟩ => ?_⟩
      subst e1 e2
      have q1 := e3 vs hv
      rw [ev] at q1
      cases q1
      have q2 := e4 us hu
      rw [eu] at q2
      cases q2
      exact new_pair rl hT r r'
    · show _ ≤ (List.zipWith _ _ _).length ∨ _ ≤ (List.zipWith _ _ _).length
      rw [List.length_zipWith, ← Paired.length t, ← Paired.length t']
      omega
  · obtain ⟨xs, ex, ei⟩ := Option.bind_eq_some_iff.mp ei
    obtain ⟨ys, ey, rfl⟩ := Option.map_eq_some_iff.mp ei
    obtain ⟨a, rfl, q⟩ := tupOf_of rd ex
    obtain ⟨b, rfl, q'⟩ := tupOf_of ry ey
    obtain ⟨vs, hv, _⟩ := q W2 S2 H2 ⟨Same.refl _, fun _ _ h => h⟩ c2.rl
    obtain ⟨us, hu, _⟩ := q' W2 S2 H2 ⟨Same.refl _, fun _ _ h => h⟩ c2.rl
    refine ⟨a, b, vs, us, rfl, .inr ⟨hv, hu, c2.pure ?_⟩⟩
    intro W' S' H' l rl _
    obtain ⟨vs, hv, t⟩ := q W' S' H' l rl
    obtain ⟨us, hu, t'⟩ := q' W' S' H' l rl
    refine ⟨fun i d e => ?_, vs, us, hv, hu, ?_⟩
    · obtain ⟨x, y, e1, e2, rfl⟩ := zip_get e
      obtain ⟨v, ev, r⟩ := Paired.get t e1
      obtain ⟨u, eu, r'⟩ := Paired.get t' e2
      refine ⟨⟨vs, us, v, u, hv, hu, ev, eu⟩, fun x H'' ⟨T, x', y', e1, hT, e2, e3, e4⟩ => ?_⟩
      subst e1 e2
      have q1 := e3 vs hv
      rw [ev] at q1
      cases q1
      have q2 := e4 us hu
      rw [eu] at q2
      cases q2
      exact new_pair rl hT r r'
    · show _ ≤ (List.zipWith _ _ _).length ∨ _ ≤ (List.zipWith _ _ _).length
      rw [List.length_zipWith, ← Paired.length t, ← Paired.length t']
      omega
end
/-! ### for, while -/
def forGo (g : Sto → Prop) (t : Tg) (tb : DS) (Dd : DEnds) (Ed : DX) [Fz tb] [Fz Dd] [Fz Ed] : List D → Rh → Sto → Prop
  | [], ρ, S => g S ∧ Dd.nx ρ S
  | d :: r, ρ, S => g S ∧ tgSet t d ρ fun ρ2 => tb ⟨fun ρ3 S3 => forGo g t tb Dd Ed r ρ3 S3, Dd.rt, Dd.nx, fun ρ3 S3 => forGo g t tb Dd Ed r ρ3 S3⟩ Ed ρ2 S
def wFor (t : Tg) (wi : DI) (tb : DS) : DS := fun Dd Ed ρ S => wi ρ S (fun it S1 => forGo it.g t tb Dd Ed it.ds ρ S1) Ed
theorem drop_cons {α : Type} {xs : List α} {i : Nat} (h : i < xs.length) : ∃ x, xs[i]? = some x ∧ xs.drop i = x :: xs.drop (i + 1) :=
  ⟨xs[i], List.getElem?_eq_getElem h, List.drop_eq_getElem_cons h⟩
section
variable {X : Cx} {E : XK}
theorem pds_for {tg iter : Expr} {body : List Stmt} {wi : DI} {t : Tg} {tb : DS} {pos : Pos} (hc : Cn X E) (ho : PassesOwn (model X.prog X.w) X.A X.env X.xe) (hi : PDI X E tg iter wi) (hg : PDG X tg t) (hb : PDSs X E body tb)
    (hs : ∀ x, foldedSetIterable iter X.env x = pure x := by intro _; rfl) : PDS X E (.For tg iter body [] pos) (wFor t wi tb) := by
  refine PS.of (ps_for ho hc.calm hi hg hb hs) fun D σ H ⟨W, ρ, S, c⟩ => ?_
  obtain ⟨W0, ρ0, S0, re, c0⟩ := Cs.bind (R := RI X.K) (w := wi) (k := fun it S1 Dd Ed => forGo it.g t tb Dd Ed it.ds ρ S1) c
  refine ⟨W0, ρ0, S0, re, c0.imp (fun _ _ z => z) fun J H1 ⟨W1, S1, it, l1, ri, c1⟩ => ?_⟩
  obtain ⟨rl, re, Dd, Ed, q, kn⟩ := c1
  refine ⟨fun i m σ' H' => i + m = it.ds.length ∧ ∃ W' ρ' S', W1.le W' ∧ Rl X.K W' S' H' ∧ Re X.K W' ρ' σ' ∧ forGo it.g t tb Dd Ed (it.ds.drop i) ρ' S', ⟨it.ds.length, by rw [Nat.zero_add], W1, ρ, S1, .refl _, rl, re, q⟩, ?_⟩
  rintro i m σ' H' ⟨hm, W', ρ', S', l', rl', re', q'⟩
  by_cases hi : i < it.ds.length
  · obtain ⟨d, ed, e⟩ := drop_cons hi
    rw [e] at q'
    obtain ⟨g', q'⟩ := q'
    obtain ⟨ri1, _⟩ := ri W' S' H' l'.1 rl' g'
    obtain ⟨go, yl⟩ := ri1 i d ed
    refine .inr ⟨go, fun σ2 H2 => i + 1 + (m - 1) = it.ds.length ∧ ∃ W' ρ' S', W1.le W' ∧ Rl X.K W' S' H2 ∧ Re X.K W' ρ' σ2 ∧ forGo it.g t tb Dd Ed (it.ds.drop (i + 1)) ρ' S', fun σ2 H2 z => ⟨m - 1, by omega, z⟩, fun x H'' hy => ?_⟩
    obtain ⟨W2, l2, rl2, r2⟩ := yl x H'' hy
    refine tg_of rl2 (re'.mono l2) r2 q' fun ρ2 vs q2 re2 => ?_
    have kn2 := kn.mono (l'.trans l2)
    have hm' : i + 1 + (m - 1) = it.ds.length := by omega
    exact ⟨W2, ρ2, S', rl2, re2, _, Ed, q2, fun W3 ρ3 S3 σ3 H3 l3 rl3 re3 z => ⟨hm', W3, ρ3, S3, (l'.trans l2).trans l3, rl3, re3, z⟩, kn2.nx, fun W3 ρ3 S3 σ3 H3 l3 rl3 re3 z => ⟨hm', W3, ρ3, S3, (l'.trans l2).trans l3, rl3, re3, z⟩, kn2.rt, kn2.xe⟩
  · have hi : i = it.ds.length := by omega
    rw [hi, List.drop_length] at q'
    obtain ⟨g', q'⟩ := q'
    obtain ⟨_, st⟩ := ri W' S' H' l'.1 rl' g'
    exact .inl ⟨hi ▸ st, kn.nx W' ρ' S' σ' H' l' rl' re' q'⟩
/-- some number of turns is enough -/
def whN (c : DE Bool) (tb : DS) (Dd : DEnds) (Ed : DX) [Fz c] [Fz tb] [Fz Dd] [Fz Ed] : Nat → Rh → Sto → Prop
  | 0, _, _ => False
  | n + 1, ρ, S => c ρ S (fun b S1 => if b = true then tb ⟨whN c tb Dd Ed n, Dd.rt, Dd.nx, whN c tb Dd Ed n⟩ Ed ρ S1 else Dd.nx ρ S1) Ed
def wWhile (c : DE Bool) (tb : DS) : DS := fun Dd Ed ρ S => ∃ n, whN c tb Dd Ed n ρ S
theorem pds_while {c : Expr} {body : List Stmt} {wc : DE Bool} {tb : DS} {pos : Pos} (ho : PassesOwn (model X.prog X.w) X.A X.env X.xe) (hcc : PDT X E c wc) (hb : PDSs X E body tb) : PDS X E (.While c body [] pos) (wWhile wc tb) := by
  refine PS.of (ps_while ho hcc hb) fun D σ H ⟨W, ρ, S, rl, re, Dd, Ed, ⟨n0, v0⟩, kn⟩ => ?_
  refine ⟨fun m σ' H' => ∃ W' ρ' S', W.le W' ∧ Rl X.K W' S' H' ∧ Re X.K W' ρ' σ' ∧ whN wc tb Dd Ed m ρ' S', ⟨n0, W, ρ, S, .refl _, rl, re, v0⟩, ?_⟩
  rintro m σ1 H1 ⟨W1, ρ1, S1, l1, rl1, re1, v1⟩
  cases m with
  | zero => exact v1.elim
  | succ m =>
    have v1 : wc ρ1 S1 (fun b S1 => if b = true then tb ⟨whN wc tb Dd Ed m, Dd.rt, Dd.nx, whN wc tb Dd Ed m⟩ Ed ρ1 S1 else Dd.nx ρ1 S1) Ed := v1
    refine ⟨W1, ρ1, S1, re1, rl1, _, Ed, v1, fun W2 S2 H2 b b' l2 rl2 eb z => ?_, (kn.mono l1).xe⟩
    obtain rfl : b = b' := eb
    have kn2 := kn.mono (l1.trans l2)
    have re2 := re1.mono l2
    cases b with
    | true =>
      refine ⟨fun σ' H' => ∃ m', m' < m + 1 ∧ ∃ W' ρ' S', W.le W' ∧ Rl X.K W' S' H' ∧ Re X.K W' ρ' σ' ∧ whN wc tb Dd Ed m' ρ' S', fun σ' H' z => z, W2, ρ1, S2, rl2, re2, _, Ed, z, ?_, kn2.nx, ?_, kn2.rt, kn2.xe⟩
      · intro W3 ρ3 S3 σ3 H3 l3 rl3 re3 v3
        exact ⟨m, Nat.lt_succ_self m, W3, ρ3, S3, (l1.trans l2).trans l3, rl3, re3, v3⟩
      · intro W3 ρ3 S3 σ3 H3 l3 rl3 re3 v3
        exact ⟨m, Nat.lt_succ_self m, W3, ρ3, S3, (l1.trans l2).trans l3, rl3, re3, v3⟩
    | false => exact kn2.nx W2 ρ1 S2 σ1 H2 (.refl _) rl2 re2 z
end
/-! ### comprehensions -/
def noX : DX := fun _ _ => False
def wipeD (ρ : Rh) : List Nat → Rh
  | [] => ρ
  | v :: vs => (wipeD ρ vs).set v none
theorem Re.wipe {K : PySem.W.Frag} {W : Wd} {ρ : Rh} {σ : L2.St} (r : Re K W ρ σ) : ∀ vs : List Nat, Re K W (wipeD ρ vs) (L2.wipe σ vs)
  | [] => r
  | v :: vs => (Re.wipe r vs).unset v none
theorem wipe_twice {σ : L2.St} : ∀ {vs ws : List Nat}, (∀ i ∈ vs, i ∈ ws) → wipe (wipe σ vs) ws = wipe σ ws
  | [], _, _ => rfl
  | v :: vs, ws, h => by
    have key : ∀ (τ : L2.St) (ws : List Nat), v ∈ ws → wipe (τ.set v none) ws = wipe τ ws := by
      intro τ ws
      induction ws with
      | nil => intro h; cases h
      | cons w ws ih =>
        intro hv
        unfold wipe
        by_cases hm : v ∈ ws
        · rw [ih hm]
        · have e : v = w := (List.mem_cons.mp hv).resolve_right hm
          subst e
          have : ∀ ws : List Nat, v ∉ ws → (wipe (τ.set v none) ws).set v none = (wipe τ ws).set v none := by
            intro ws
            induction ws with
            | nil =>
              intro _
              unfold wipe
              rw [List.set_set]
            | cons w ws ih =>
              intro hm
              have h1 : v ≠ w := fun e => hm (by rw [e]; exact List.mem_cons_self)
              have h2 : v ∉ ws := fun e => hm (List.mem_cons_of_mem _ e)
              unfold wipe
              rw [List.set_comm _ _ h1.symm, List.set_comm (l := wipe τ ws) _ _ h1.symm, ih h2]
          exact this ws hm
    show wipe ((wipe σ vs).set v none) ws = _
    rw [key _ ws (h v List.mem_cons_self)]
    exact wipe_twice fun i hi => h i (List.mem_cons_of_mem _ hi)
def lcGo (g : Sto → Prop) (t : Tg) (tt : DE Bool) (te : DE D) (ρ : Rh) (Kd : List D → Sto → Prop) [Fz Kd] : List D → List D → Sto → Prop
  | [], acc, S => g S ∧ Kd acc S
  | d :: r, acc, S => g S ∧ tgSet t d ρ fun ρ2 => tt ρ2 S (fun b S2 => if b = true then te ρ2 S2 (fun y S3 => lcGo g t tt te ρ Kd r (acc ++ [y]) S3) noX else lcGo g t tt te ρ Kd r acc S2) noX
def lcQ (b : Bool) (t : Tg) (tt : DE Bool) (te : DE D) (ρ : Rh) (it : Itd) (S : Sto) (Q : D → Sto → Prop) : Prop := it.ds.length ≤ sizeLine ∧ lcGo it.g t tt te ρ (fun acc S2 => alL b acc S2 Q) it.ds [] S
def wLc (b : Bool) (vs : List Nat) (t : Tg) (wi : DI) (tt : DE Bool) (te : DE D) : DE D := fun ρ S Q Ex => wi ρ S (fun it S1 => lcQ b t tt te (wipeD ρ vs) it S1 Q) Ex
def PDTs (X : Cx) (E : XK) (ifs : List Expr) (w : DE Bool) : Prop := PTs X ifs (lf X.K E rBool w)
def wYes : DE Bool := fun _ S Q _ => Q true S
section
variable {X : Cx} {E : XK}
theorem pdts_nil : PDTs X E [] wYes := ⟨fun pins s σ H Q I ⟨W, ρ, S, re, c⟩ => pts_nil.run pins s σ H Q I (c.pure rfl)⟩
theorem pdts_one {c : Expr} {w : DE Bool} (h : PDT X E c w) : PDTs X E [c] w := pts_one h
theorem lc_of {K : PySem.W.Frag} {b : Bool} {vs : List Nat} {t : Tg} {tt : DE Bool} {te : DE D} {W1 : Wd} {ρ : Rh} {S1 : Sto} {σ : L2.St} {H1 : Hp} {Q : V → Hp → Prop} {it : Itd} {J : It} {Da : Addr} (hv : ∀ i ∈ t.ix, i ∈ vs) (re : Re K W1 ρ σ) (ri : RI K W1 it J) (c : Ct K E (Rp K) W1 S1 H1 (fun Qd _ => lcQ b t tt te (wipeD ρ vs) it S1 Qd) Q) (hD : H1 Da = none) :
    ∃ V : Nat → Nat → Hp → Prop, (∃ m, V 0 m (upd H1 Da (.lst []))) ∧ ∀ i m H, V i m H →
      (J.stop i H ∧ Q (.ref Da) H) ∨ (J.go i H ∧ ∃ Nx : Hp → Prop, (∀ H', Nx H' → ∃ m', m' < m ∧ V (i + 1) m' H') ∧ ∀ x H', J.yld i H x H' → tgV K t x (wipe σ vs) H' fun σ2 H2 => wipe σ2 vs = wipe σ vs ∧ lf K E0 rBool tt σ2 H2 fun b H3 =>
        if b = true then lf K E0 (Rp K) te σ2 H3 fun y H4 => ∃ acc, H4 Da = some (.lst acc) ∧ acc.length < sizeLine ∧ Nx (upd H4 Da (.lst (acc ++ [y]))) else Nx H3) := by
  obtain ⟨rl, Qd, Ed, ⟨hn, q⟩, hq, he⟩ := c
  have hR : W1.R Da = none := by
    cases e : W1.R Da with
    | none => rfl
    | some o =>
      have z := (rl.rsv Da o e).2.2
      rw [hD] at z
      cases z
  let In : Nat → Hp → Prop := fun i H => ∃ W' S' acc us, W1.sub W' ∧ W'.R Da = some (.lst us) ∧ (∀ a, a ≠ Da → W1.R a = W'.R a) ∧ Rl K W' S' H ∧ RL K W' acc us ∧ acc.length ≤ i ∧ lcGo it.g t tt te (wipeD ρ vs) (fun acc S2 => alL b acc S2 Qd) (it.ds.drop i) acc S'
  refine ⟨fun i m H => i + m = it.ds.length ∧ In i H, ⟨it.ds.length, by rw [Nat.zero_add], W1.hold Da (.lst []), S1, [], [], Wd.sub_hold, upd_same, fun a ha => (upd_ne ha).symm, rl.hold hD, .nil, Nat.le_refl _, q⟩, ?_⟩
  rintro i m H ⟨hm, W', S', acc, us, l', hD', hR', rl', ra, hl, q'⟩
  by_cases hi : i < it.ds.length
  · obtain ⟨d, ed, e⟩ := drop_cons hi
    rw [e] at q'
    obtain ⟨g', q'⟩ := q'
    obtain ⟨ri1, _⟩ := ri W' S' H l' rl' g'
    obtain ⟨go, yl⟩ := ri1 i d ed
    have hm' : i + 1 + (m - 1) = it.ds.length := by omega
    refine .inr ⟨go, fun H' => In (i + 1) H', fun H' z => ⟨m - 1, by omega, hm', z⟩, fun x H'' hy => ?_⟩
    obtain ⟨W2, l2, rl2, r2⟩ := yl x H'' hy
    refine tg_of rl2 ((re.wipe vs).sub (l'.trans l2.1)) r2 q' fun ρ2 ws q2 re2 => ⟨by rw [wipe_tg hv, wipe_twice fun _ h => h], ?_⟩
    refine ⟨W2, ρ2, S', re2, rl2, _, noX, q2, fun W3 S3 H3 b1 b2 l3 rl3 eb z => ?_, fun _ _ _ _ _ _ _ _ _ z => z.elim⟩
    obtain rfl : b1 = b2 := eb
    have l23 := l2.trans l3
    cases b1 with
    | true =>
      rw [if_pos rfl] at z
      rw [if_pos rfl]
      refine ⟨W3, ρ2, S3, re2.mono l3, rl3, _, noX, z, fun W4 S4 H4 y yv l4 rl4 ry z4 => ?_, fun _ _ _ _ _ _ _ _ _ z => z.elim⟩
      have l24 := l23.trans l4
      have hD4 : W4.R Da = some (.lst us) := by rw [← l24.2]; exact hD'
      have hl2 := Paired.length ra
      refine ⟨us, (rl4.rsv Da _ hD4).2.2, by omega, W4.hold Da (.lst (us ++ [yv])), S4, acc ++ [y], us ++ [yv], (l'.trans l24.1).trans Wd.sub_hold, upd_same, fun a ha => ?_, rl4.reset hD4, Paired.app (RL.sub (l24.1.trans Wd.sub_hold) ra) (.cons (Rp.sub Wd.sub_hold _ _ ry) .nil), by rw [List.length_append]; simp; omega, z4⟩
      rw [hR' a ha, l24.2]
      exact (upd_ne ha).symm
    | false =>
      rw [if_neg Bool.false_ne_true] at z
      rw [if_neg Bool.false_ne_true]
      exact ⟨W3, S3, acc, us, l'.trans l23.1, by rw [← l23.2]; exact hD', fun a ha => by rw [hR' a ha, l23.2], rl3, RL.sub l23.1 ra, Nat.le_succ_of_le hl, z⟩
  · have hi : i = it.ds.length := by omega
    rw [hi, List.drop_length] at q'
    obtain ⟨g', q'⟩ := q'
    obtain ⟨_, st⟩ := ri W' S' H l' rl' g'
    refine .inl ⟨hi ▸ st, ?_⟩
    unfold alL at q'
    split at q'
    · obtain ⟨l2, rl2, e2⟩ := rl'.liven (R := W1.R) (ob := .lst acc) hD' hR hR' ⟨_, rfl, ra⟩
      exact hq _ _ _ (.loc S'.length) _ ⟨l'.trans l2, rfl⟩ rl2 ⟨_, rfl, e2⟩ q'
    · obtain ⟨l2, rl2⟩ := rl'.give (R := W1.R) hD' hR hR'
      exact hq _ _ _ (.lst acc) _ ⟨l'.trans l2, rfl⟩ rl2 ⟨_, us, rfl, upd_same, RpL_iff.mpr (RL.sub l2 ra)⟩ q'
theorem pd_lc {b : Bool} {elt tg iter : Expr} {ifs : List Expr} {scope : Scope} {own : List (Str × Nat)} {pos : Pos} {wi : DI} {t : Tg} {tt : DE Bool} {te : DE D} (hc : Cn X E) (hi : PDI X E tg iter wi) (ok : BlkOk X.N X.env.scope scope own) (hv : ∀ i ∈ t.ix, i ∈ own.map (·.2))
    (hg : ∀ (s : Shared) (H : Hp) (C : Addr) (cl : List (Str × Addr)) (fp : List Addr), PDG (X.blk s H scope (compEnvC scope cl C X.env) fp) tg t) (ht : ∀ (s : Shared) (H : Hp) (C : Addr) (cl : List (Str × Addr)) (fp : List Addr), PDTs (X.blk s H scope (compEnvC scope cl C X.env) fp) E0 ifs tt)
    (he : ∀ (s : Shared) (H : Hp) (C : Addr) (cl : List (Str × Addr)) (fp : List Addr), PD (X.blk s H scope (compEnvC scope cl C X.env) fp) E0 elt te) (hs : ∀ x, foldedSetIterable iter X.env x = pure x := by intro _; rfl) :
    PD X E (.ListComp elt [⟨tg, iter, ifs, 0⟩] scope pos) (wLc b (own.map (·.2)) t wi tt te) := by
  refine PE.of (pe_lc (g := tgV X.K t) (tt := lf X.K E0 rBool tt) (te := lf X.K E0 (Rp X.K) te) hc.calm hc.nd hi ok hg ht he hs) fun σ H Q ⟨W, ρ, S, re, c⟩ => ?_
  refine ⟨W, ρ, S, re, (Ct.bind (k := fun it S1 Qd _ => lcQ b t tt te (wipeD ρ (own.map (·.2))) it S1 Qd) c).imp (fun _ _ z => z) ?_⟩
  rintro J H1 ⟨W1, S1, it, l1, ri, c1⟩
  intro Da hD
  exact lc_of hv (re.mono l1) ri c1 hD
theorem pds_setLc {b : Bool} {i : Nat} {y : Str} {py : Pos} {elt tg iter : Expr} {ifs : List Expr} {scope : Scope} {own : List (Str × Nat)} {pos spos : Pos} {wi : DI} {t : Tg} {tt : DE Bool} {te : DE D} (hc : Cn X E) (hi : PDI X E tg iter wi) (ok : BlkOk X.N X.env.scope scope own) (hv : ∀ i ∈ t.ix, i ∈ own.map (·.2))
    (hg : ∀ (s : Shared) (H : Hp) (C : Addr) (cl : List (Str × Addr)) (fp : List Addr), PDG (X.blk s H scope (compEnvC scope cl C X.env) fp) tg t) (ht : ∀ (s : Shared) (H : Hp) (C : Addr) (cl : List (Str × Addr)) (fp : List Addr), PDTs (X.blk s H scope (compEnvC scope cl C X.env) fp) E0 ifs tt)
    (he : ∀ (s : Shared) (H : Hp) (C : Addr) (cl : List (Str × Addr)) (fp : List Addr), PD (X.blk s H scope (compEnvC scope cl C X.env) fp) E0 elt te)
    (hsw : swapsWith (.ListComp elt [⟨tg, iter, ifs, 0⟩] scope pos) (some (.Name y py)) spos.line X.env = pure true) (hy : X.N[i]? = some y := by rfl) (hyl : X.env.scope.names.lookup y = some .local := by rfl) (hs : ∀ x, foldedSetIterable iter X.env x = pure x := by intro _; rfl) :
    PDS X E (.Assign [.Name y py] (.ListComp elt [⟨tg, iter, ifs, 0⟩] scope pos) spos) (wSet i (wLc b (own.map (·.2)) t wi tt te)) := by
  refine PS.of (ps_setLc (g := tgV X.K t) (tt := lf X.K E0 rBool tt) (te := lf X.K E0 (Rp X.K) te) hc.calm hc.nd hy hyl hsw hi ok hg ht he hs) fun D σ H ⟨W, ρ, S, c⟩ => ?_
  obtain ⟨W0, ρ0, S0, re, c0⟩ := Cs.bind (R := RI X.K) (w := wi) (k := fun it S1 Dd _ => lcQ b t tt te (wipeD ρ (own.map (·.2))) it S1 fun x S2 => Dd.nx (ρ.set i (some x)) S2) c
  refine ⟨W0, ρ0, S0, re, c0.imp (fun _ _ z => z) fun J H1 ⟨W1, S1, it, l1, ri, c1⟩ Da hD => ?_⟩
  obtain ⟨rl, re1, Dd, Ed, q, kn⟩ := c1
  refine lc_of (Q := fun x H2 => gName i x σ H2 D.nx) hv re1 ri ⟨rl, _, Ed, q, fun W2 S2 H2 d v l r rv z => ?_, kn.xe⟩ hD
  exact kn.nx W2 _ S2 _ H2 l r ((re1.mono l).set i rv) z
def dcGo (g : Sto → Prop) (t : Tg) (tt : DE Bool) (tk te : DE D) (ρ : Rh) (Kd : List (Key × D) → Sto → Prop) [Fz Kd] : List D → List (Key × D) → Sto → Prop
  | [], acc, S => g S ∧ Kd acc S
  | d :: r, acc, S => g S ∧ tgSet t d ρ fun ρ2 => tt ρ2 S (fun b S2 => if b = true then tk ρ2 S2 (fun k S3 => te ρ2 S3 (fun y S4 => oQ (asK k) fun k => dcGo g t tt tk te ρ Kd r (putD acc k y) S4) noX) noX else dcGo g t tt tk te ρ Kd r acc S2) noX
def dcQ (b : Bool) (t : Tg) (tt : DE Bool) (tk te : DE D) (ρ : Rh) (it : Itd) (S : Sto) (Q : D → Sto → Prop) : Prop := it.ds.length ≤ sizeLine ∧ dcGo it.g t tt tk te ρ (fun acc S2 => alD b acc S2 Q) it.ds [] S
def wDc (b : Bool) (vs : List Nat) (t : Tg) (wi : DI) (tt : DE Bool) (tk te : DE D) : DE D := fun ρ S Q Ex => wi ρ S (fun it S1 => dcQ b t tt tk te (wipeD ρ vs) it S1 Q) Ex
theorem putD_len {κ : Type} [DecidableEq κ] {k : κ} {y : D} : ∀ {kvs : List (κ × D)}, (putD kvs k y).length ≤ kvs.length + 1 := by
  intro kvs
  unfold putD
  split
  · rw [List.length_map]
    exact Nat.le_succ _
  · rw [List.length_append]
    exact Nat.le_refl _
theorem dc_of {K : PySem.W.Frag} {b : Bool} {vs : List Nat} {t : Tg} {tt : DE Bool} {tk te : DE D} {W1 : Wd} {ρ : Rh} {S1 : Sto} {σ : L2.St} {H1 : Hp} {Q : V → Hp → Prop} {it : Itd} {J : It} {Da : Addr} (hv : ∀ i ∈ t.ix, i ∈ vs) (re : Re K W1 ρ σ) (ri : RI K W1 it J) (c : Ct K E (Rp K) W1 S1 H1 (fun Qd _ => dcQ b t tt tk te (wipeD ρ vs) it S1 Qd) Q) (hD : H1 Da = none) :
    ∃ V : Nat → Nat → Hp → Prop, (∃ m, V 0 m (upd H1 Da (.dK []))) ∧ ∀ i m H, V i m H →
      (J.stop i H ∧ Q (.ref Da) H) ∨ (J.go i H ∧ ∃ Nx : Hp → Prop, (∀ H', Nx H' → ∃ m', m' < m ∧ V (i + 1) m' H') ∧ ∀ x H', J.yld i H x H' → tgV K t x (wipe σ vs) H' fun σ2 H2 => wipe σ2 vs = wipe σ vs ∧ lf K E0 rBool tt σ2 H2 fun b H3 =>
        if b = true then lf K E0 (Rp K) tk σ2 H3 fun y H4 => lf K E0 (Rp K) te σ2 H4 fun z H5 => ∃ kvs k, y = kV k ∧ H5 Da = some (.dK kvs) ∧ kvs.length < sizeLine ∧ Nx (upd H5 Da (.dK (putK kvs k z))) else Nx H3) := by
  obtain ⟨rl, Qd, Ed, ⟨hn, q⟩, hq, he⟩ := c
  have hR : W1.R Da = none := by
    cases e : W1.R Da with
    | none => rfl
    | some o =>
      have z := (rl.rsv Da o e).2.2
      rw [hD] at z
      cases z
  let In : Nat → Hp → Prop := fun i H => ∃ W' S' acc us, W1.sub W' ∧ W'.R Da = some (.dK us) ∧ (∀ a, a ≠ Da → W1.R a = W'.R a) ∧ Rl K W' S' H ∧ RK K W' acc us ∧ acc.length ≤ i ∧ dcGo it.g t tt tk te (wipeD ρ vs) (fun acc S2 => alD b acc S2 Qd) (it.ds.drop i) acc S'
  refine ⟨fun i m H => i + m = it.ds.length ∧ In i H, ⟨it.ds.length, by rw [Nat.zero_add], W1.hold Da (.dK []), S1, [], [], Wd.sub_hold, upd_same, fun a ha => (upd_ne ha).symm, rl.hold hD, .nil, Nat.le_refl _, q⟩, ?_⟩
  rintro i m H ⟨hm, W', S', acc, us, l', hD', hR', rl', ra, hl, q'⟩
  by_cases hi : i < it.ds.length
  · obtain ⟨d, ed, e⟩ := drop_cons hi
    rw [e] at q'
    obtain ⟨g', q'⟩ := q'
    obtain ⟨ri1, _⟩ := ri W' S' H l' rl' g'
    obtain ⟨go, yl⟩ := ri1 i d ed
    have hm' : i + 1 + (m - 1) = it.ds.length := by omega
    refine .inr ⟨go, fun H' => In (i + 1) H', fun H' z => ⟨m - 1, by omega, hm', z⟩, fun x H'' hy => ?_⟩
    obtain ⟨W2, l2, rl2, r2⟩ := yl x H'' hy
    refine tg_of rl2 ((re.wipe vs).sub (l'.trans l2.1)) r2 q' fun ρ2 ws q2 re2 => ⟨by rw [wipe_tg hv, wipe_twice fun _ h => h], ?_⟩
    refine ⟨W2, ρ2, S', re2, rl2, _, noX, q2, fun W3 S3 H3 b1 b2 l3 rl3 eb z => ?_, fun _ _ _ _ _ _ _ _ _ z => z.elim⟩
    obtain rfl : b1 = b2 := eb
    have l23 := l2.trans l3
    cases b1 with
    | true =>
      rw [if_pos rfl] at z
      rw [if_pos rfl]
      refine ⟨W3, ρ2, S3, re2.mono l3, rl3, _, noX, z, fun W4 S4 H4 k kv l4 rl4 rk z4 => ?_, fun _ _ _ _ _ _ _ _ _ z => z.elim⟩
      refine ⟨W4, ρ2, S4, re2.mono (l3.trans l4), rl4, _, noX, z4, fun W5 S5 H5 y yv l5 rl5 ry z5 => ?_, fun _ _ _ _ _ _ _ _ _ z => z.elim⟩
      obtain ⟨k', ek, z5⟩ := oQ_some z5
      have l25 := (l23.trans l4).trans l5
      have hD5 : W5.R Da = some (.dK us) := by rw [← l25.2]; exact hD'
      have hl2 := Paired.length ra
      obtain rfl := key_of rk ek
      refine ⟨us, k', rfl, (rl5.rsv Da _ hD5).2.2, by omega, W5.hold Da (.dK (putK us k' yv)), S5, putD acc k' y, putK us k' yv, (l'.trans l25.1).trans Wd.sub_hold, upd_same, fun a ha => ?_, rl5.reset hD5, put_rk (RK.sub (l25.1.trans Wd.sub_hold) ra) k' (Rp.sub Wd.sub_hold _ _ ry), Nat.le_trans putD_len (Nat.succ_le_succ hl), z5⟩
      rw [hR' a ha, l25.2]
      exact (upd_ne ha).symm
    | false =>
      rw [if_neg Bool.false_ne_true] at z
      rw [if_neg Bool.false_ne_true]
      exact ⟨W3, S3, acc, us, l'.trans l23.1, by rw [← l23.2]; exact hD', fun a ha => by rw [hR' a ha, l23.2], rl3, RK.sub l23.1 ra, Nat.le_succ_of_le hl, z⟩
  · have hi : i = it.ds.length := by omega
    rw [hi, List.drop_length] at q'
    obtain ⟨g', q'⟩ := q'
    obtain ⟨_, st⟩ := ri W' S' H l' rl' g'
    refine .inl ⟨hi ▸ st, ?_⟩
    unfold alD at q'
    split at q'
    · obtain ⟨l2, rl2, e2⟩ := rl'.liven (R := W1.R) (ob := .dct acc) hD' hR hR' ⟨_, rfl, ra⟩
      exact hq _ _ _ (.loc S'.length) _ ⟨l'.trans l2, rfl⟩ rl2 ⟨_, rfl, e2⟩ q'
    · obtain ⟨l2, rl2⟩ := rl'.give (R := W1.R) hD' hR hR'
      exact hq _ _ _ (.dct acc) _ ⟨l'.trans l2, rfl⟩ rl2 ⟨_, us, rfl, upd_same, RpK_iff.mpr (RK.sub l2 ra)⟩ q'
theorem pd_dc {b : Bool} {kx vx tg iter : Expr} {ifs : List Expr} {scope : Scope} {own : List (Str × Nat)} {pos : Pos} {wi : DI} {t : Tg} {tt : DE Bool} {tk te : DE D} (hc : Cn X E) (hi : PDI X E tg iter wi) (ok : BlkOk X.N X.env.scope scope own) (hv : ∀ i ∈ t.ix, i ∈ own.map (·.2))
    (hg : ∀ (s : Shared) (H : Hp) (C : Addr) (cl : List (Str × Addr)) (fp : List Addr), PDG (X.blk s H scope (compEnvC scope cl C X.env) fp) tg t) (ht : ∀ (s : Shared) (H : Hp) (C : Addr) (cl : List (Str × Addr)) (fp : List Addr), PDTs (X.blk s H scope (compEnvC scope cl C X.env) fp) E0 ifs tt)
    (hk : ∀ (s : Shared) (H : Hp) (C : Addr) (cl : List (Str × Addr)) (fp : List Addr), PD (X.blk s H scope (compEnvC scope cl C X.env) fp) E0 kx tk)
    (he : ∀ (s : Shared) (H : Hp) (C : Addr) (cl : List (Str × Addr)) (fp : List Addr), PD (X.blk s H scope (compEnvC scope cl C X.env) fp) E0 vx te) (hs : ∀ x, foldedSetIterable iter X.env x = pure x := by intro _; rfl) :
    PD X E (.DictComp kx vx [⟨tg, iter, ifs, 0⟩] scope pos) (wDc b (own.map (·.2)) t wi tt tk te) := by
  refine PE.of (pe_dc (g := tgV X.K t) (tt := lf X.K E0 rBool tt) (tk := lf X.K E0 (Rp X.K) tk) (tv := lf X.K E0 (Rp X.K) te) hc.calm hc.nd hi ok hg ht hk he hs) fun σ H Q ⟨W, ρ, S, re, c⟩ => ?_
  refine ⟨W, ρ, S, re, (Ct.bind (k := fun it S1 Qd _ => dcQ b t tt tk te (wipeD ρ (own.map (·.2))) it S1 Qd) c).imp (fun _ _ z => z) ?_⟩
  rintro J H1 ⟨W1, S1, it, l1, ri, c1⟩
  intro Da hD
  exact dc_of hv (re.mono l1) ri c1 hD
end
end DL

set_option Elab.async false
set_option linter.all false
set_option maxRecDepth 100000
/-! methods of living lists, displays of dicts, own calls, returning -/
namespace DL
open PySem PySem.Spec PyProof.Rows L2 RZ
def asLoc : D → Option Nat
  | .loc l => some l
  | _ => none
abbrev Mf := List D → List D → Option (List D × D)
def wM (f : Mf) (o : DE D) (as : DE (List D)) : DE D := fun ρ S Q Ex => o ρ S (fun x S1 => oQ (asLoc x) fun l => (obL S1[l]?).isSome = true ∧ as ρ S1 (fun ys S2 => oQ (obL S2[l]?) fun ds => oQ (f ds ys) fun p => Q p.2 (S2.set l (.lst p.1))) Ex) Ex
def lM (K : PySem.W.Frag) (f : Mf) : V → List V → Hp → VK → Prop := fun x xs H Q => ∃ W S l ds ys p, Rp K W (.loc l) x ∧ RL K W ys xs ∧ S[l]? = some (.lst ds) ∧ f ds ys = some p ∧ Ct K E0 (Rp K) W S H (fun Qd _ => Qd p.2 (S.set l (.lst p.1))) Q
theorem tyV_lst {K : PySem.W.Frag} {H : Hp} {a : Addr} {vs : List V} (h : H a = some (.lst vs)) : tyV K "list" (.ref a) H := .inl ⟨rfl, vs, SqL.of h⟩
theorem at_lst {K : PySem.W.Frag} {W : Wd} {S : Sto} {H : Hp} {l : Nat} {x : V} {ds : List D} (rl : Rl K W S H) (r : Rp K W (.loc l) x) (e : S[l]? = some (.lst ds)) : ∃ a vs, x = .ref a ∧ W.φ[l]? = some a ∧ H a = some (.lst vs) ∧ RL K W ds vs := by
  obtain ⟨a, rfl, ha⟩ := r
  obtain ⟨b, u, hb, _, hu, vs, rfl, t⟩ := rl.at_ l _ e
  rw [ha] at hb
  cases hb
  exact ⟨a, vs, rfl, ha, hu, t⟩
section
variable {X : Cx} {E : XK}
theorem lf_M {f : Mf} {wo : DE D} {wa : DE (List D)} {σ : L2.St} {H : Hp} {Q : VK} (h : lf X.K E (Rp X.K) (wM f wo wa) σ H Q) : tBM X.K "list" (lM X.K f) (lf X.K E (Rp X.K) wo) (lf X.K E (RL X.K) wa) σ H Q := by
  obtain ⟨W, ρ, S, re, c⟩ := h
  refine ⟨W, ρ, S, re, (Ct.bind (k := fun x S1 Qd Ed => oQ (asLoc x) fun l => (obL S1[l]?).isSome = true ∧ wa ρ S1 (fun ys S2 => oQ (obL S2[l]?) fun ds => oQ (f ds ys) fun p => Qd p.2 (S2.set l (.lst p.1))) Ed) c).imp (fun _ _ z => z) ?_⟩
  rintro v H1 ⟨W1, S1, x, l1, rx, c1⟩
  obtain ⟨l, el, c2⟩ := c1.oQ
  clear c1
  obtain ⟨hs, c1⟩ := c2.and
  clear c2
  cases x with
  | loc l' =>
    cases el
    obtain ⟨ds0, e0⟩ := Option.isSome_iff_exists.mp hs
    obtain ⟨a, vs, rfl, ha, hu, t⟩ := at_lst c1.rl rx (obL_of e0)
    refine ⟨tyV_lst hu, W1, ρ, S1, re.mono l1, (Ct.bind (k := fun ys S2 Qd _ => oQ (obL S2[l]?) fun ds => oQ (f ds ys) fun p => Qd p.2 (S2.set l (.lst p.1))) c1).imp (fun _ _ z => z) ?_⟩
    rintro us H2 ⟨W2, S2, ys, l2, ry, c2⟩
    obtain ⟨ds, ed, c2⟩ := c2.oQ
    obtain ⟨p, ep, c2⟩ := c2.oQ
    obtain ⟨rl, Qd, Ed, q, hq, _⟩ := c2
    exact ⟨W2, S2, l, ds, ys, p, Rp.mono l2 _ _ rx, ry, obL_of ed, ep, rl, Qd, noX, q, hq, fun _ _ _ _ _ _ _ _ _ z => z.elim⟩
  | _ => cases el
theorem pd_bm {id : String} {f : Mf} {o e : Expr} {es : List Expr} {wo : DE D} {wa : DE (List D)} {name : Str} {apos cpos : Pos} (slot : Slot "list" name id) (hty : typeOf (.builtin id) = pure (.type "method_descriptor")) (hm : MtR X id (lM X.K f)) (ho : PD X E o wo) (ha : PDA X E (e :: es) wa)
    (hbase : attributeBase o name X.env (eval o X.env) = eval o X.env := by rfl)
    (hfew : ((backTo cpos (starEach (e :: es) X.env)).all (fun x => !x.1) && (backToKw cpos (keywordEach [] X.env)).all (fun x => x.1.isSome)
      && decide ((e :: es).length + ([] : List Keyword).length + (if ([] : List Keyword).isEmpty then 0 else 1) < 30)) = true := by rfl)
    (hline : (apos.endLine == cpos.line) = true := by rfl) (hs : starEach (e :: es) X.env = (false, eval e X.env) :: starEach es X.env := by rfl) (hplain : (backTo cpos (starEach es X.env)).any (·.1) = false := by rfl) :
    PD X E (.Call (.Attribute o name apos) (e :: es) [] cpos) (wM f wo wa) :=
  PE.of (pe_bm PySem.F.plainAttrs_list slot hty hm ho ha hbase hfew hline hs hplain) fun _ _ _ h => lf_M h
theorem pd_bm0 {id : String} {f : Mf} {o : Expr} {wo : DE D} {name : Str} {apos cpos : Pos} (slot : Slot "list" name id) (hty : typeOf (.builtin id) = pure (.type "method_descriptor")) (hm : MtR X id (lM X.K f)) (ho : PD X E o wo)
    (hbase : attributeBase o name X.env (eval o X.env) = eval o X.env := by rfl) (hline : (apos.endLine == cpos.line) = true := by rfl) :
    PD X E (.Call (.Attribute o name apos) [] [] cpos) (wM f wo wNil) := by
  refine PE.of (pe_bm0 PySem.F.plainAttrs_list slot hty hm ho hbase hline) fun σ H Q h => ?_
  obtain ⟨W, ρ, S, re, c⟩ := lf_M h
  refine ⟨W, ρ, S, re, c.imp (fun _ _ z => z) ?_⟩
  rintro v H1 ⟨ty, W1, ρ1, S1, re1, c1⟩
  exact ⟨ty, c1.pure .nil⟩
/-! the methods -/
def mApp : Mf := fun ds ys => match ys with
  | [y] => if ds.length < sizeLine then some (ds ++ [y], .non) else none
  | _ => none
def mPop : Mf := fun ds ys => match ys with
  | [] => (ds[ds.length - 1]?).map fun y => (ds.dropLast, y)
  | [.int i] => (ixN ds.length i).bind fun k => (ds[k]?).map fun y => (ds.eraseIdx k, y)
  | _ => none
theorem Paired.dropLast {α β : Type} {F : α → β → Prop} : ∀ {xs : List α} {us : List β}, Paired F xs us → Paired F xs.dropLast us.dropLast
  | _, _, .nil => .nil
  | _, _, .cons r .nil => .nil
  | _, _, .cons r (.cons q t) => .cons r (Paired.dropLast (.cons q t))
theorem Paired.eraseIdx {α β : Type} {F : α → β → Prop} : ∀ {xs : List α} {us : List β} (i : Nat), Paired F xs us → Paired F (xs.eraseIdx i) (us.eraseIdx i)
  | _, _, _, .nil => .nil
  | _, _, 0, .cons _ t => t
  | _, _, i + 1, .cons r t => .cons r (Paired.eraseIdx i t)
theorem m_app : MtR X "list.append" (lM X.K mApp) := by
  intro pins s σ H x xs v us Q I rx rxs ⟨W, S, l, ds, ys, p, rl, ry, es, ep, c⟩
  unfold mApp at ep
  split at ep
  · rename_i y
    split at ep
    · rename_i hz
      cases ep
      obtain ⟨a, vs, rfl, ha, hu, t⟩ := at_lst c.rl rl es
      obtain ⟨u, rfl, r⟩ := RL.one (ds := []) ry
      exact mt_append pins s σ H _ _ v us Q I rx rxs ⟨a, vs, u, rfl, rfl, hu, by rw [← Paired.length t]; exact hz, c.done (.refl W) (c.rl.put ha ⟨_, rfl, Paired.app t (.cons r .nil)⟩) rnon⟩
    · cases ep
  · cases ep
theorem m_pop : MtR X "list.pop" (lM X.K mPop) := by
  intro pins s σ H x xs v us Q I rx rxs ⟨W, S, l, ds, ys, p, rl, ry, es, ep, c⟩
  obtain ⟨a, vs, rfl, ha, hu, t⟩ := at_lst c.rl rl es
  unfold mPop at ep
  split at ep
  · obtain ⟨y, ey, rfl⟩ := Option.map_eq_some_iff.mp ep
    cases ry
    obtain ⟨u, eu, r⟩ := Paired.get t ey
    exact mt_pop pins s σ H _ _ v us Q I rx rxs ⟨a, vs, u, rfl, rfl, hu, by rw [← Paired.length t]; exact eu, c.done (.refl W) (c.rl.put ha ⟨_, rfl, Paired.dropLast t⟩) r⟩
  · rename_i i
    obtain ⟨k, ek, ep⟩ := Option.bind_eq_some_iff.mp ep
    obtain ⟨y, ey, rfl⟩ := Option.map_eq_some_iff.mp ep
    obtain ⟨z, rfl, r⟩ := RL.one (ds := []) ry
    obtain rfl : z = V.int i := r
    obtain ⟨u, eu, r⟩ := Paired.get t ey
    obtain ⟨q1, q2, q3, q4⟩ := ixN_seq ek
    have hz := (I.lstM hu).1
    have el := Paired.length t
    have e2 := sizeLine_eq
    exact mt_popAt pins s σ H _ _ v us Q I rx rxs ⟨a, vs, i, k, u, rfl, rfl, hu, by omega, by omega, by rw [← el]; exact q1, eu, c.done (.refl W) (c.rl.put ha ⟨_, rfl, Paired.eraseIdx k t⟩) r⟩
  · cases ep
end
/-! ### {k: v, ..} -/
def dispGo (ρ : Rh) (Ex : DX) (Kd : List (Key × D) → Sto → Prop) : List (DE D × DE D) → List (Key × D) → Sto → Prop
  | [], acc, S => Kd acc S
  | p :: r, acc, S => p.1 ρ S (fun k S1 => p.2 ρ S1 (fun y S2 => oQ (asK k) fun k => dispGo ρ Ex Kd r (acc ++ [(k, y)]) S2) Ex) Ex
def wDisp (b : Bool) (ps : List (DE D × DE D)) : DE D := fun ρ S Q Ex => dispGo ρ Ex (fun acc S1 => acc.length ≤ 15 ∧ alD b (mergeD [] acc) S1 Q) ps [] S
def wDict0 (b : Bool) : DE D := fun _ S Q _ => alD b [] S Q
def wDict0T (b : Bool) : DE D := fun _ S Q _ => alDT b [] S Q
def PDD (X : Cx) (E : XK) (pos : Pos) (keys : List (Option Expr)) (values : List Expr) (ps : List (DE D × DE D)) : Prop := PPs X pos keys values (ps.map fun p => (lf X.K E (Rp X.K) p.1, lf X.K E (Rp X.K) p.2))
section
variable {X : Cx} {E : XK} {pos : Pos}
theorem Rl.drop {K : PySem.W.Frag} {W : Wd} {S : Sto} {H : Hp} {R : Hp} (r : Rl K W S H) (hR : ∀ a o, R a = some o → W.R a = some o) : Rl K ⟨W.F, W.φ, R⟩ S H :=
  ⟨r.same, r.len, r.nd, fun l o e => by
    obtain ⟨a, u, h1, h2, h3, h4⟩ := r.at_ l o e
    exact ⟨a, u, h1, h2, h3, ROb.sub (W := W) (W' := ⟨W.F, W.φ, R⟩) ⟨Same.refl W.F, fun _ _ h => h⟩ h4⟩, fun a o e => r.rsv a o (hR a o e)⟩
theorem pdd_nil : PDD X E pos [] [] [] := pps_nil
theorem pdd_cons {k v : Expr} {ks : List (Option Expr)} {vs : List Expr} {wk wv : DE D} {ps : List (DE D × DE D)} (hk : PD X E k wk) (hv : PD X E v wv) (h : PDD X E pos ks vs ps) : PDD X E pos (some k :: ks) (v :: vs) ((wk, wv) :: ps) := pps_cons hk hv h
theorem pairs_run {K : PySem.W.Frag} {ρ : Rh} {σ : L2.St} {Kd : List (Key × D) → Sto → Prop} {Ed : DX} : ∀ {ps : List (DE D × DE D)} {Q : List (V × V) → Hp → Prop} {acc : List (Key × D)} {W : Wd} {S : Sto} {H : Hp}, Re K W ρ σ → Rl K W S H → dispGo ρ Ed Kd ps acc S →
    (∀ W' S' H' more us, W.le W' → Rl K W' S' H' → RK K W' more us → Kd (acc ++ more) S' → Q (us.map fun kv => (kV kv.1, kv.2)) H') →
    (∀ W' S' H' x c dd, W.le W' → Rl K W' S' H' → RX K W' H' x c dd → Ed x S' → E c dd H') → tPairs (ps.map fun p => (lf K E (Rp K) p.1, lf K E (Rp K) p.2)) σ H Q
  | [], Q, acc, W, S, H, re, rl, q, hq, _ => hq W S H [] [] (.refl W) rl .nil (by rw [List.append_nil]; exact q)
  | (wk, wv) :: ps, Q, acc, W, S, H, re, rl, q, hq, hx => by
    refine ⟨W, ρ, S, re, rl, _, Ed, q, fun W1 S1 H1 k kv l1 rl1 rk z => ?_, hx⟩
    have hx1 := fun W' S' H' x c dd (l : W1.le W') => hx W' S' H' x c dd (l1.trans l)
    refine ⟨W1, ρ, S1, re.mono l1, rl1, _, Ed, z, fun W2 S2 H2 y yv l2 rl2 ry z => ?_, hx1⟩
    obtain ⟨k', ek, z⟩ := oQ_some z
    have l12 := l1.trans l2
    refine pairs_run (re.mono l12) rl2 z (fun W3 S3 H3 more us l3 rl3 rk3 kd => ?_) fun W' S' H' x c dd l => hx W' S' H' x c dd (l12.trans l)
    obtain rfl := key_of rk ek
    have q2 := hq W3 S3 H3 ((k', y) :: more) ((k', yv) :: us) (l12.trans l3) rl3 (.cons ⟨rfl, Rp.mono l3 _ _ ry⟩ rk3) (by rw [List.append_assoc] at kd; exact kd)
    exact q2
theorem pd_disp {b : Bool} {keys : List (Option Expr)} {values : List Expr} {ps : List (DE D × DE D)} (h : PDD X E pos keys values ps) (hall : keys.all (·.isSome) = true := by rfl) (hl : keys.length = values.length := by rfl) (h0 : keys ≠ [] := by exact fun e => nomatch e)
    (h15 : keys.length ≤ 15 := by decide) : PD X E (.Dict keys values pos) (wDisp b ps) := by
  refine PE.of (pe_disp h hall hl h0 h15) fun σ H Q ⟨W, ρ, S, re, rl, Qd, Ed, q, hq, hx⟩ => ?_
  intro p hp
  have hR : W.R p = none := by
    cases e : W.R p with
    | none => rfl
    | some o =>
      have z := (rl.rsv p o e).2.2
      rw [hp] at z
      cases z
  have giveR : ∀ W' : Wd, (W.hold p (.dK [])).le W' → W'.R p = some (.dK []) ∧ (∀ a, a ≠ p → W.R a = W'.R a) := fun W' l => ⟨by rw [← l.2]; exact upd_same, fun a ha => by rw [← l.2]; exact (upd_ne ha).symm⟩
  refine pairs_run (W := W.hold p (.dK [])) (re.sub Wd.sub_hold) (rl.hold hp) q (fun W' S' H' more us l rl' rk kd => ?_) fun W' S' H' x c dd l rl' rx e => ?_
  · obtain ⟨g1, g2⟩ := giveR W' l
    obtain ⟨h15, kd⟩ := kd
    refine ⟨(rl'.rsv p _ g1).2.2, us, rfl, by rw [← Paired.length rk]; exact h15, ?_⟩
    have rk2 : RK X.K W' (mergeD [] more) (mergeK [] us) := merge_rk rk .nil
    have rl2 := rl'.reset (o' := .dK (mergeK [] us)) g1
    unfold alD at kd
    split at kd
    · obtain ⟨l2, rl3, e2⟩ := rl2.liven (p := p) (R := W.R) (ob := .dct (mergeD [] more)) (o := .dK (mergeK [] us)) upd_same hR (fun a ha => (g2 a ha).trans (upd_ne ha).symm) ⟨_, rfl, RK.sub Wd.sub_hold rk2⟩
      exact hq _ _ _ (.loc S'.length) _ ⟨(Wd.sub_hold.trans l.1).trans (Wd.sub_hold.trans l2), rfl⟩ rl3 ⟨_, rfl, e2⟩ kd
    · obtain ⟨l2, rl3⟩ := rl2.give (p := p) (R := W.R) (o := .dK (mergeK [] us)) upd_same hR (fun a ha => (g2 a ha).trans (upd_ne ha).symm)
      exact hq _ _ _ (.dct (mergeD [] more)) _ ⟨(Wd.sub_hold.trans l.1).trans (Wd.sub_hold.trans l2), rfl⟩ rl3 ⟨_, _, rfl, upd_same, RpK_iff.mpr (RK.sub (Wd.sub_hold.trans l2) rk2)⟩ kd
  · obtain ⟨g1, g2⟩ := giveR W' l
    have rl2 : Rl X.K ⟨W'.F, W'.φ, W.R⟩ S' H' := rl'.drop fun a o e => by
      by_cases ha : a = p
      · subst ha
        rw [hR] at e
        cases e
      · rw [← g2 a ha]
        exact e
    have sb : Wd.sub W' ⟨W'.F, W'.φ, W.R⟩ := ⟨Same.refl _, fun _ _ h => h⟩
    refine hx ⟨W'.F, W'.φ, W.R⟩ S' H' x c dd ⟨Wd.sub_hold.trans (l.1.trans sb), rfl⟩ rl2 ?_ e
    obtain ⟨e1, e2⟩ := rx
    refine ⟨e1, ?_⟩
    revert e2
    cases x.f with
    | none => exact id
    | some fd =>
      obtain ⟨f, d⟩ := fd
      rintro ⟨a, v, h1, h2, h3⟩
      exact ⟨a, v, h1, h2, Rp.sub sb _ _ h3⟩
theorem pd_dict0 (b : Bool) : PD X E (.Dict [] [] pos) (wDict0 b) := by
  refine PE.of pe_dnewK fun σ H Q ⟨W, ρ, S, re, c⟩ => ?_
  obtain ⟨rl, Qd, Ed, q, hq, _⟩ := c
  exact Ct.alD ⟨rl, Qd, noX, q, hq, fun _ _ _ _ _ _ _ _ _ z => z.elim⟩ .nil
theorem pd_dict0T (b : Bool) : PD X E (.Dict [] [] pos) (wDict0T b) := by
  refine PE.of pe_dnewT fun σ H Q ⟨W, ρ, S, re, c⟩ => ?_
  obtain ⟨rl, Qd, Ed, q, hq, _⟩ := c
  exact Ct.alDT ⟨rl, Qd, noX, q, hq, fun _ _ _ _ _ _ _ _ _ z => z.elim⟩ .nil
end
end DL

set_option Elab.async false
set_option linter.all false
set_option maxRecDepth 100000
/-! what is returned stands by value -/
namespace DL
open PySem PySem.Spec PyProof.Rows L2 RZ
mutual
def sbD (k : Nat → Option D) : D → Option D
  | .loc l => k l
  | .tup ds => (sbL k ds).map .tup
  | .ktp ds => (sbL k ds).map .ktp
  | .lst ds => (sbL k ds).map .lst
  | .dct ds => (sbK k ds).map .dct
  | .dcT ds => (sbT k ds).map .dcT
  | .non => some .non
  | .bl b => some (.bl b)
  | .int i => some (.int i)
  | .str x => some (.str x)
  | .gl a => some (.gl a)
  | .ty n => some (.ty n)
  | .scr ns => some (.scr ns)
termination_by structural d => d
def sbL (k : Nat → Option D) : List D → Option (List D)
  | [] => some []
  | d :: ds => match sbD k d with
    | some d' => (sbL k ds).map fun r => d' :: r
    | none => none
termination_by structural d => d
def sbP (k : Nat → Option D) : Key × D → Option (Key × D)
  | (a, d) => (sbD k d).map fun d' => (a, d')
termination_by structural d => d
def sbK (k : Nat → Option D) : List (Key × D) → Option (List (Key × D))
  | [] => some []
  | d :: ds => match sbP k d with
    | some d' => (sbK k ds).map fun r => d' :: r
    | none => none
termination_by structural d => d
def sbQ (k : Nat → Option D) : List Key × D → Option (List Key × D)
  | (a, d) => (sbD k d).map fun d' => (a, d')
termination_by structural d => d
def sbT (k : Nat → Option D) : List (List Key × D) → Option (List (List Key × D))
  | [] => some []
  | d :: ds => match sbQ k d with
    | some d' => (sbT k ds).map fun r => d' :: r
    | none => none
termination_by structural d => d
end
def sbF (k : Nat → Option D) : List (Str × D) → Option (List (Str × D))
  | [] => some []
  | (x, d) :: ds => match sbD k d with
    | some d' => (sbF k ds).map fun r => (x, d') :: r
    | none => none
def sbO (k : Nat → Option D) : Ob → Option Ob
  | .lst ds => (sbL k ds).map .lst
  | .dct ds => (sbK k ds).map .dct
  | .dcT ds => (sbT k ds).map .dcT
  | .ins C fs => (sbF k fs).map (.ins C)
/-- the objects from m on by value -/
def frz (S : Sto) (m : Nat) : Nat → Nat → Option D
  | 0, l => if l < m then some (.loc l) else none
  | f + 1, l => if l < m then some (.loc l) else match S[l]? with
    | some (.lst ds) => (sbL (frz S m f) ds).map .lst
    | some (.dct ds) => (sbK (frz S m f) ds).map .dct
    | some (.dcT ds) => (sbT (frz S m f) ds).map .dcT
    | _ => none
def sbS (k : Nat → Option D) : Sto → Option Sto
  | [] => some []
  | o :: S => match sbO k o with
    | some o' => (sbS k S).map fun r => o' :: r
    | none => none
def frzS (S : Sto) (m : Nat) (f : Nat) : Option Sto := sbS (frz S m f) (S.take m)
section
variable {K : PySem.W.Frag} {W W' : Wd} {k : Nat → Option D}
mutual
theorem sbRp (hF : Same W.F W'.F) (hk : ∀ l d' a, k l = some d' → W.φ[l]? = some a → Rp K W' d' (.ref a)) : ∀ (d : D) (v : V) (d' : D), Rp K W d v → sbD k d = some d' → Rp K W' d' v
  | .loc l, v, d', ⟨a, e, q⟩, h => by subst e; exact hk l d' a h q
  | .tup ds, v, d', ⟨a, vs, e, q, r⟩, h => by
    obtain ⟨es, e1, rfl⟩ := Option.map_eq_some_iff.mp h
    exact ⟨a, vs, e, hF _ _ q, sbRpL hF hk ds vs es r e1⟩
  | .ktp ds, v, d', ⟨a, vs, e, q, r⟩, h => by
    obtain ⟨es, e1, rfl⟩ := Option.map_eq_some_iff.mp h
    exact ⟨a, vs, e, seqT hF q, sbRpL hF hk ds vs es r e1⟩
  | .lst ds, v, d', ⟨a, vs, e, q, r⟩, h => by
    obtain ⟨es, e1, rfl⟩ := Option.map_eq_some_iff.mp h
    exact ⟨a, vs, e, hF _ _ q, sbRpL hF hk ds vs es r e1⟩
  | .dct ds, v, d', ⟨a, vs, e, q, r⟩, h => by
    obtain ⟨es, e1, rfl⟩ := Option.map_eq_some_iff.mp h
    exact ⟨a, vs, e, hF _ _ q, sbRpK hF hk ds vs es r e1⟩
  | .dcT ds, v, d', ⟨a, vs, e, q, r⟩, h => by
    obtain ⟨es, e1, rfl⟩ := Option.map_eq_some_iff.mp h
    exact ⟨a, vs, e, hF _ _ q, sbRpT hF hk ds vs es r e1⟩
  | .non, v, d', r, h => by cases h; exact r
  | .bl b, v, d', r, h => by cases h; exact r
  | .int i, v, d', r, h => by cases h; exact r
  | .str x, v, d', r, h => by cases h; exact r
  | .gl a, v, d', r, h => by cases h; exact r
  | .ty n, v, d', r, h => by cases h; exact r
  | .scr ns, v, d', ⟨a, e, q⟩, h => by cases h; exact ⟨a, e, hF.seq q⟩
termination_by structural d => d
theorem sbRpL (hF : Same W.F W'.F) (hk : ∀ l d' a, k l = some d' → W.φ[l]? = some a → Rp K W' d' (.ref a)) : ∀ (ds : List D) (vs : List V) (es : List D), RpL K W ds vs → sbL k ds = some es → RpL K W' es vs
  | [], vs, es, r, h => by cases h; exact r
  | d :: ds, vs, es, ⟨v, q, e, r, t⟩, h => by
    show RpL K W' es vs
    have h : (match sbD k d with
      | some d' => (sbL k ds).map fun r => d' :: r
      | none => none) = some es := h
    cases e1 : sbD k d with
    | none => rw [e1] at h; cases h
    | some d' =>
      rw [e1] at h
      obtain ⟨es', e2, rfl⟩ := Option.map_eq_some_iff.mp h
      exact ⟨v, q, e, sbRp hF hk d v d' r e1, sbRpL hF hk ds q es' t e2⟩
termination_by structural d => d
theorem sbRpP (hF : Same W.F W'.F) (hk : ∀ l d' a, k l = some d' → W.φ[l]? = some a → Rp K W' d' (.ref a)) : ∀ (p : Key × D) (q : Key × V) (p' : Key × D), RpP K W p q → sbP k p = some p' → RpP K W' p' q
  | (a, d), q, p', ⟨e, r⟩, h => by
    obtain ⟨d', e1, rfl⟩ := Option.map_eq_some_iff.mp (show (sbD k d).map (fun d' => (a, d')) = some p' from h)
    exact ⟨e, sbRp hF hk d q.2 d' r e1⟩
termination_by structural d => d
theorem sbRpK (hF : Same W.F W'.F) (hk : ∀ l d' a, k l = some d' → W.φ[l]? = some a → Rp K W' d' (.ref a)) : ∀ (ds : List (Key × D)) (vs : List (Key × V)) (es : List (Key × D)), RpK K W ds vs → sbK k ds = some es → RpK K W' es vs
  | [], vs, es, r, h => by cases h; exact r
  | d :: ds, vs, es, ⟨v, q, e, r, t⟩, h => by
    have h : (match sbP k d with
      | some d' => (sbK k ds).map fun r => d' :: r
      | none => none) = some es := h
    cases e1 : sbP k d with
    | none => rw [e1] at h; cases h
    | some d' =>
      rw [e1] at h
      obtain ⟨es', e2, rfl⟩ := Option.map_eq_some_iff.mp h
      exact ⟨v, q, e, sbRpP hF hk d v d' r e1, sbRpK hF hk ds q es' t e2⟩
termination_by structural d => d
theorem sbRpQ (hF : Same W.F W'.F) (hk : ∀ l d' a, k l = some d' → W.φ[l]? = some a → Rp K W' d' (.ref a)) : ∀ (p : List Key × D) (q : List Key × V) (p' : List Key × D), RpQ K W p q → sbQ k p = some p' → RpQ K W' p' q
  | (a, d), q, p', ⟨e, r⟩, h => by
    obtain ⟨d', e1, rfl⟩ := Option.map_eq_some_iff.mp (show (sbD k d).map (fun d' => (a, d')) = some p' from h)
    exact ⟨e, sbRp hF hk d q.2 d' r e1⟩
termination_by structural d => d
theorem sbRpT (hF : Same W.F W'.F) (hk : ∀ l d' a, k l = some d' → W.φ[l]? = some a → Rp K W' d' (.ref a)) : ∀ (ds : List (List Key × D)) (vs : List (List Key × V)) (es : List (List Key × D)), RpT K W ds vs → sbT k ds = some es → RpT K W' es vs
  | [], vs, es, r, h => by cases h; exact r
  | d :: ds, vs, es, ⟨v, q, e, r, t⟩, h => by
    have h : (match sbQ k d with
      | some d' => (sbT k ds).map fun r => d' :: r
      | none => none) = some es := h
    cases e1 : sbQ k d with
    | none => rw [e1] at h; cases h
    | some d' =>
      rw [e1] at h
      obtain ⟨es', e2, rfl⟩ := Option.map_eq_some_iff.mp h
      exact ⟨v, q, e, sbRpQ hF hk d v d' r e1, sbRpT hF hk ds q es' t e2⟩
termination_by structural d => d
end
theorem sbRF (hF : Same W.F W'.F) (hk : ∀ l d' a, k l = some d' → W.φ[l]? = some a → Rp K W' d' (.ref a)) : ∀ {ds : List (Str × D)} {vs : List (Str × V)} {es : List (Str × D)}, RK K W ds vs → sbF k ds = some es → RK K W' es vs
  | [], _, es, .nil, h => by cases h; exact .nil
  | (x, d) :: ds, _, es, .cons r t, h => by
    have h : (match sbD k d with
      | some d' => (sbF k ds).map fun r => (x, d') :: r
      | none => none) = some es := h
    cases e1 : sbD k d with
    | none => rw [e1] at h; cases h
    | some d' =>
      rw [e1] at h
      obtain ⟨es', e2, rfl⟩ := Option.map_eq_some_iff.mp h
      exact .cons ⟨r.1, sbRp hF hk d _ d' r.2 e1⟩ (sbRF hF hk t e2)
theorem sbRO (hF : Same W.F W'.F) (hk : ∀ l d' a, k l = some d' → W.φ[l]? = some a → Rp K W' d' (.ref a)) : ∀ {o o' : Ob} {u : HO}, ROb K W o u → sbO k o = some o' → ROb K W' o' u
  | .lst ds, o', _, ⟨vs, e, r⟩, h => by
    obtain ⟨es, e1, rfl⟩ := Option.map_eq_some_iff.mp h
    exact ⟨vs, e, RpL_iff.mp (sbRpL hF hk ds vs es (RpL_iff.mpr r) e1)⟩
  | .dct ds, o', _, ⟨vs, e, r⟩, h => by
    obtain ⟨es, e1, rfl⟩ := Option.map_eq_some_iff.mp h
    exact ⟨vs, e, RpK_iff.mp (sbRpK hF hk ds vs es (RpK_iff.mpr r) e1)⟩
  | .dcT ds, o', _, ⟨vs, e, r⟩, h => by
    obtain ⟨es, e1, rfl⟩ := Option.map_eq_some_iff.mp h
    exact ⟨vs, e, RpT_iff.mp (sbRpT hF hk ds vs es (RpT_iff.mpr r) e1)⟩
  | .ins C fs, o', _, ⟨dx, fv, e, r⟩, h => by
    obtain ⟨es, e1, rfl⟩ := Option.map_eq_some_iff.mp h
    exact ⟨dx, fv, e, sbRF hF hk r e1⟩
/-- the world behind the return -/
def Wd.fz (W : Wd) (m : Nat) (H : Hp) : Wd := ⟨fun a => match W.F a with
  | some o => some o
  | none => if a ∈ W.φ.drop m then H a else none, W.φ.take m, W.R⟩
theorem fz_same {m : Nat} {H : Hp} : Same W.F (W.fz m H).F := fun a o e => by
  show (match W.F a with
    | some o => some o
    | none => if a ∈ W.φ.drop m then H a else none) = some o
  rw [e]
theorem fz_le {W0 : Wd} {m : Nat} {H : Hp} (l : W0.le W) (h : W0.φ.length ≤ m) : W0.le (W.fz m H) := ⟨⟨l.1.1.trans fz_same, fun i a e => by
  show (W.φ.take m)[i]? = some a
  rw [List.getElem?_take_of_lt (Nat.lt_of_lt_of_le (List.getElem?_eq_some_iff.mp e).1 h)]
  exact l.1.2 i a e⟩, l.2⟩
theorem fz_at {S : Sto} {H : Hp} {m l : Nat} {a : Addr} {o : Ob} (rl : Rl K W S H) (hl : ¬ l < m) (e : W.φ[l]? = some a) (eo : S[l]? = some o) : ∃ u, (W.fz m H).F a = some u ∧ H a = some u ∧ ROb K W o u := by
  obtain ⟨b, u, h1, h2, h3, h4⟩ := rl.at_ l o eo
  rw [e] at h1
  cases h1
  refine ⟨u, ?_, h3, h4⟩
  show (match W.F a with
    | some o => some o
    | none => if a ∈ W.φ.drop m then H a else none) = some u
  rw [h2]
  have hm : a ∈ W.φ.drop m := by
    refine List.mem_of_getElem? (i := l - m) ?_
    rw [List.getElem?_drop, show m + (l - m) = l by omega]
    exact e
  show (if a ∈ W.φ.drop m then H a else none) = some u
  rw [if_pos hm]
  exact h3
theorem fz_k {S : Sto} {H : Hp} {m : Nat} (rl : Rl K W S H) : ∀ (f l : Nat) (d' : D) (a : Addr), frz S m f l = some d' → W.φ[l]? = some a → Rp K (W.fz m H) d' (.ref a) := by
  intro f
  have low : ∀ {l : Nat} {a : Addr}, l < m → W.φ[l]? = some a → Rp K (W.fz m H) (.loc l) (.ref a) := fun {l a} hl e => ⟨a, rfl, by
    show (W.φ.take m)[l]? = some a
    rw [List.getElem?_take_of_lt hl]
    exact e⟩
  induction f with
  | zero =>
    intro l d' a h e
    unfold frz at h
    split at h
    · rename_i hl
      cases h
      exact low hl e
    · cases h
  | succ f ih =>
    intro l d' a h e
    unfold frz at h
    split at h
    · rename_i hl
      cases h
      exact low hl e
    · rename_i hl
      split at h
      · rename_i ds eo
        obtain ⟨es, e1, rfl⟩ := Option.map_eq_some_iff.mp h
        obtain ⟨u, h1, _, vs, rfl, r⟩ := fz_at rl hl e eo
        exact ⟨a, vs, rfl, h1, sbRpL fz_same ih ds vs es (RpL_iff.mpr r) e1⟩
      · rename_i ds eo
        obtain ⟨es, e1, rfl⟩ := Option.map_eq_some_iff.mp h
        obtain ⟨u, h1, _, vs, rfl, r⟩ := fz_at rl hl e eo
        exact ⟨a, vs, rfl, h1, sbRpK fz_same ih ds vs es (RpK_iff.mpr r) e1⟩
      · rename_i ds eo
        obtain ⟨es, e1, rfl⟩ := Option.map_eq_some_iff.mp h
        obtain ⟨u, h1, _, vs, rfl, r⟩ := fz_at rl hl e eo
        exact ⟨a, vs, rfl, h1, sbRpT fz_same ih ds vs es (RpT_iff.mpr r) e1⟩
      · cases h
theorem sbS_get {k : Nat → Option D} : ∀ {S S' : Sto} {l : Nat} {o' : Ob}, sbS k S = some S' → S'[l]? = some o' → ∃ o, S[l]? = some o ∧ sbO k o = some o'
  | [], S', l, o', h, e => by cases h; simp at e
  | o :: S, S', l, o', h, e => by
    have h : (match sbO k o with
      | some o' => (sbS k S).map fun r => o' :: r
      | none => none) = some S' := h
    cases e1 : sbO k o with
    | none => rw [e1] at h; cases h
    | some o1 =>
      rw [e1] at h
      obtain ⟨S1, e2, rfl⟩ := Option.map_eq_some_iff.mp h
      cases l with
      | zero =>
        simp at e
        subst e
        exact ⟨o, rfl, e1⟩
      | succ l =>
        obtain ⟨o2, e3, e4⟩ := sbS_get e2 (l := l) (o' := o') (by simpa using e)
        exact ⟨o2, by simpa using e3, e4⟩
theorem sbS_len {k : Nat → Option D} : ∀ {S S' : Sto}, sbS k S = some S' → S'.length = S.length
  | [], S', h => by cases h; rfl
  | o :: S, S', h => by
    have h : (match sbO k o with
      | some o' => (sbS k S).map fun r => o' :: r
      | none => none) = some S' := h
    cases e1 : sbO k o with
    | none => rw [e1] at h; cases h
    | some o1 =>
      rw [e1] at h
      obtain ⟨S1, e2, rfl⟩ := Option.map_eq_some_iff.mp h
      show S1.length + 1 = S.length + 1
      rw [sbS_len e2]
theorem fz_rl {S S' : Sto} {H : Hp} {m f : Nat} (rl : Rl K W S H) (h : frzS S m f = some S') : Rl K (W.fz m H) S' H := by
  unfold frzS at h
  have hlen := sbS_len h
  refine ⟨fun a o e => ?_, ?_, rl.nd.sublist (List.take_sublist _ _), fun l o' e => ?_, fun a o e => ?_⟩
  · have e : (match W.F a with
      | some o => some o
      | none => if a ∈ W.φ.drop m then H a else none) = some o := e
    cases e1 : W.F a with
    | some o1 =>
      rw [e1] at e
      cases e
      exact rl.same _ _ e1
    | none =>
      rw [e1] at e
      have e : (if a ∈ W.φ.drop m then H a else none) = some o := e
      split at e
      · exact e
      · cases e
  · show (W.φ.take m).length = S'.length
    rw [hlen, List.length_take, List.length_take, rl.len]
  · obtain ⟨o, e1, e2⟩ := sbS_get h e
    have hl : l < m := by
      have := (List.getElem?_eq_some_iff.mp e1).1
      rw [List.length_take] at this
      omega
    rw [List.getElem?_take_of_lt hl] at e1
    obtain ⟨a, u, h1, h2, h3, h4⟩ := rl.at_ l o e1
    refine ⟨a, u, ?_, ?_, h3, sbRO fz_same (fz_k rl f) h4 e2⟩
    · show (W.φ.take m)[l]? = some a
      rw [List.getElem?_take_of_lt hl]
      exact h1
    · show (match W.F a with
        | some o => some o
        | none => if a ∈ W.φ.drop m then H a else none) = none
      rw [h2]
      show (if a ∈ W.φ.drop m then H a else none) = none
      rw [if_neg fun hm => ?_]
      obtain ⟨j, hj⟩ := List.getElem?_of_mem hm
      rw [List.getElem?_drop] at hj
      obtain ⟨q1, q2⟩ := List.getElem?_eq_some_iff.mp h1
      obtain ⟨q3, q4⟩ := List.getElem?_eq_some_iff.mp hj
      have := (List.getElem_inj rl.nd).mp (q2.trans q4.symm)
      omega
  · obtain ⟨h1, h2, h3⟩ := rl.rsv a o e
    refine ⟨?_, fun hm => h2 (List.mem_of_mem_take hm), h3⟩
    show (match W.F a with
      | some o => some o
      | none => if a ∈ W.φ.drop m then H a else none) = none
    rw [h1]
    exact if_neg fun hm => h2 (List.mem_of_mem_drop hm)
/-! closed data -/
abbrev Kid (n : Nat) (k : Nat → Option D) : Prop := ∀ l, l < n → k l = some (.loc l)
def clD (n : Nat) (d : D) : Prop := ∀ k, Kid n k → sbD k d = some d
def clO (n : Nat) (d : Ob) : Prop := ∀ k, Kid n k → sbO k d = some d
def clS (S : Sto) : Prop := ∀ o ∈ S, clO S.length o
mutual
theorem cl_rp {k : Nat → Option D} (hk : Kid W.φ.length k) : ∀ (d : D) (v : V), Rp K W d v → sbD k d = some d
  | .loc l, v, ⟨a, e, q⟩ => hk l (List.getElem?_eq_some_iff.mp q).1
  | .tup ds, v, ⟨a, vs, e, q, r⟩ => congrArg (Option.map D.tup) (cl_rpL hk ds vs r)
  | .ktp ds, v, ⟨a, vs, e, q, r⟩ => congrArg (Option.map D.ktp) (cl_rpL hk ds vs r)
  | .lst ds, v, ⟨a, vs, e, q, r⟩ => congrArg (Option.map D.lst) (cl_rpL hk ds vs r)
  | .dct ds, v, ⟨a, vs, e, q, r⟩ => congrArg (Option.map D.dct) (cl_rpK hk ds vs r)
  | .dcT ds, v, ⟨a, vs, e, q, r⟩ => congrArg (Option.map D.dcT) (cl_rpT hk ds vs r)
  | .non, v, r => rfl
  | .bl b, v, r => rfl
  | .int i, v, r => rfl
  | .str x, v, r => rfl
  | .gl a, v, r => rfl
  | .ty n, v, r => rfl
  | .scr ns, v, r => rfl
termination_by structural d => d
theorem cl_rpL {k : Nat → Option D} (hk : Kid W.φ.length k) : ∀ (ds : List D) (vs : List V), RpL K W ds vs → sbL k ds = some ds
  | [], vs, r => rfl
  | d :: ds, vs, ⟨v, q, e, r, t⟩ => by
    show (match sbD k d with
      | some d' => (sbL k ds).map fun r => d' :: r
      | none => none) = _
    rw [cl_rp hk d v r, cl_rpL hk ds q t]
    rfl
termination_by structural d => d
theorem cl_rpP {k : Nat → Option D} (hk : Kid W.φ.length k) : ∀ (p : Key × D) (q : Key × V), RpP K W p q → sbP k p = some p
  | (a, d), q, ⟨e, r⟩ => congrArg (Option.map fun d' => (a, d')) (cl_rp hk d q.2 r)
termination_by structural d => d
theorem cl_rpK {k : Nat → Option D} (hk : Kid W.φ.length k) : ∀ (ds : List (Key × D)) (vs : List (Key × V)), RpK K W ds vs → sbK k ds = some ds
  | [], vs, r => rfl
  | d :: ds, vs, ⟨v, q, e, r, t⟩ => by
    show (match sbP k d with
      | some d' => (sbK k ds).map fun r => d' :: r
      | none => none) = _
    rw [cl_rpP hk d v r, cl_rpK hk ds q t]
    rfl
termination_by structural d => d
theorem cl_rpQ {k : Nat → Option D} (hk : Kid W.φ.length k) : ∀ (p : List Key × D) (q : List Key × V), RpQ K W p q → sbQ k p = some p
  | (a, d), q, ⟨e, r⟩ => congrArg (Option.map fun d' => (a, d')) (cl_rp hk d q.2 r)
termination_by structural d => d
theorem cl_rpT {k : Nat → Option D} (hk : Kid W.φ.length k) : ∀ (ds : List (List Key × D)) (vs : List (List Key × V)), RpT K W ds vs → sbT k ds = some ds
  | [], vs, r => rfl
  | d :: ds, vs, ⟨v, q, e, r, t⟩ => by
    show (match sbQ k d with
      | some d' => (sbT k ds).map fun r => d' :: r
      | none => none) = _
    rw [cl_rpQ hk d v r, cl_rpT hk ds q t]
    rfl
termination_by structural d => d
end
theorem cl_rf {k : Nat → Option D} (hk : Kid W.φ.length k) : ∀ {ds : List (Str × D)} {vs : List (Str × V)}, RK K W ds vs → sbF k ds = some ds
  | [], _, .nil => rfl
  | (x, d) :: ds, _, .cons r t => by
    show (match sbD k d with
      | some d' => (sbF k ds).map fun r => (x, d') :: r
      | none => none) = _
    rw [cl_rp hk d _ r.2, cl_rf hk t]
    rfl
theorem cl_ro {k : Nat → Option D} (hk : Kid W.φ.length k) : ∀ {o : Ob} {u : HO}, ROb K W o u → sbO k o = some o
  | .lst ds, _, ⟨vs, e, r⟩ => congrArg (Option.map Ob.lst) (cl_rpL hk ds vs (RpL_iff.mpr r))
  | .dct ds, _, ⟨vs, e, r⟩ => congrArg (Option.map Ob.dct) (cl_rpK hk ds vs (RpK_iff.mpr r))
  | .dcT ds, _, ⟨vs, e, r⟩ => congrArg (Option.map Ob.dcT) (cl_rpT hk ds vs (RpT_iff.mpr r))
  | .ins C fs, _, ⟨dx, fv, e, r⟩ => congrArg (Option.map (Ob.ins C)) (cl_rf hk r)
theorem Rl.cl {S : Sto} {H : Hp} (rl : Rl K W S H) : clS S := fun o ho k hk => by
  obtain ⟨l, e⟩ := List.getElem?_of_mem ho
  obtain ⟨a, u, h1, h2, h3, h4⟩ := rl.at_ l o e
  exact cl_ro (by rw [rl.len]; exact hk) h4
theorem RL.cl {S : Sto} {H : Hp} {ds : List D} {vs : List V} (rl : Rl K W S H) (r : RL K W ds vs) : ∀ d ∈ ds, clD S.length d := fun d hd k hk => by
  obtain ⟨l, e⟩ := List.getElem?_of_mem hd
  obtain ⟨v, _, r1⟩ := Paired.get r e
  exact cl_rp (by rw [rl.len]; exact hk) d v r1
theorem kid_frz {S : Sto} {m f : Nat} : Kid m (frz S m f) := fun l hl => by
  cases f <;> (unfold frz; rw [if_pos hl])
theorem sbS_id {k : Nat → Option D} : ∀ {S : Sto}, (∀ o ∈ S, sbO k o = some o) → sbS k S = some S
  | [], _ => rfl
  | o :: S, h => by
    show (match sbO k o with
      | some o' => (sbS k S).map fun r => o' :: r
      | none => none) = _
    rw [h o List.mem_cons_self, sbS_id fun o ho => h o (List.mem_cons_of_mem _ ho)]
    rfl
theorem frzS_app {S L : Sto} {f : Nat} (h : clS S) : frzS (S ++ L) S.length f = some S := by
  unfold frzS
  rw [List.take_left]
  exact sbS_id fun o ho => h o ho _ kid_frz
theorem frzS_self {S : Sto} {f : Nat} (h : clS S) : frzS S S.length f = some S := by
  have := frzS_app (L := []) (f := f) h
  rwa [List.append_nil] at this
theorem sbS_set {k : Nat → Option D} {o o' : Ob} (ho : sbO k o = some o') : ∀ {S : Sto} (l : Nat), (∀ o ∈ S, sbO k o = some o) → sbS k (S.set l o) = some (S.set l o')
  | [], _, _ => rfl
  | o1 :: S, 0, h => by
    show (match sbO k o with
      | some o' => (sbS k S).map fun r => o' :: r
      | none => none) = _
    rw [ho, sbS_id fun o ho => h o (List.mem_cons_of_mem _ ho)]
    rfl
  | o1 :: S, l + 1, h => by
    show (match sbO k o1 with
      | some o' => (sbS k (S.set l o)).map fun r => o' :: r
      | none => none) = _
    rw [h o1 List.mem_cons_self, sbS_set ho l fun o ho => h o (List.mem_cons_of_mem _ ho)]
    rfl
theorem frzS_set {S L : Sto} {l f : Nat} {o o' : Ob} (h : clS S) (ho : sbO (frz (S.set l o ++ L) S.length f) o = some o') : frzS (S.set l o ++ L) S.length f = some (S.set l o') := by
  unfold frzS
  rw [← List.length_set (as := S) (i := l) (a := o), List.take_left]
  rw [List.length_set]
  exact sbS_set ho l fun o ho => h o ho _ kid_frz
end
end DL

set_option Elab.async false
set_option linter.all false
set_option maxRecDepth 100000
/-! own calls, raise, a def keeps its promise -/
namespace DL
open PySem PySem.Spec PyProof.Rows L2 RZ
abbrev DSp := List D → Sto → (D → Sto → Prop) → (Xn → Sto → Prop) → Prop
def liftSp (K : PySem.W.Frag) (g : DSp) : Sp := fun vs H Q E => ∃ W S ds, RL K W ds vs ∧ Ct K E (Rp K) W S H (g ds S) Q
def wCall (g : DSp) (as : DE (List D)) : DE D := fun ρ S Q Ex => as ρ S (fun xs S1 => g xs S1 Q Ex) Ex
def permL {α : Type} (idx : List Nat) (xs : List α) : List α := idx.filterMap fun i => xs[i]?
def wCallK (g : DSp) (n m : Nat) (idx : List Nat) (as ks : DE (List D)) : DE D := fun ρ S Q Ex => as ρ S (fun xs S1 => ks ρ S1 (fun ys S2 => (xs.length = n ∧ ys.length = m) ∧ g (permL idx (xs ++ ys)) S2 Q Ex) Ex) Ex
abbrev Fn (X : Cx) (k : Nat) (f : Addr) (fd : FuncData) (ps : List Str) (g : DSp) : Prop := FnOk X.prog X.w X.K X.mg X.base (L2.CX X.prog X.w) k f fd ps (liftSp X.K g)
def PDK (X : Cx) (E : XK) (kws : List Keyword) (w : DE (List D)) : Prop := PK X kws (lf X.K E (RL X.K) w)
section
variable {X : Cx} {E : XK} {k : Nat} {f : Addr} {fd : FuncData} {ps ks : List Str} {g : DSp} {x : Str} {p pos : Pos} {e : Expr} {es : List Expr} {kws : List Keyword} {wa wk : DE (List D)}
theorem pd_call (hc : Cn X E) (F : Fn X k f fd ps g) (hr : Room k X.A) (hm : X.mg x = some (.ref f)) (hk : PySem.W.keepIn X.K (.ref f) = true) (hb : Binds X.K fd ps []) (ha : PDA X E (e :: es) wa) (hg : Gl X x := by rfl) (hdb : (x == ("__debug__" : Str)) = false := by decide)
    (he : starEach (e :: es) X.env = (false, eval e X.env) :: starEach es X.env := by rfl) (hpl : (backTo pos (starEach es X.env)).any (·.1) = false := by rfl) : PD X E (.Call (.Name x p) (e :: es) [] pos) (wCall g wa) := by
  refine PE.of (pe_call F hr hg hm hk hb .nil hc.pass ha hdb he hpl) fun σ H Q ⟨W, ρ, S, re, c⟩ => ?_
  refine ⟨W, ρ, S, re, (Ct.bind (k := fun xs S1 Qd Ed => g xs S1 Qd Ed) c).imp (fun _ _ z => z) ?_⟩
  rintro vs H1 ⟨W1, S1, xs, l1, rx, c1⟩
  rw [List.append_nil]
  exact ⟨W1, S1, xs, rx, c1⟩
theorem pd_call0 (hc : Cn X E) (F : Fn X k f fd ps g) (hr : Room k X.A) (hm : X.mg x = some (.ref f)) (hk : PySem.W.keepIn X.K (.ref f) = true) (hb : Binds X.K fd ps []) (hg : Gl X x := by rfl) (hdb : (x == ("__debug__" : Str)) = false := by decide) :
    PD X E (.Call (.Name x p) [] [] pos) (wCall g wNil) := by
  refine PE.of (pe_call0 F hr hg hm hk hb .nil hc.pass hdb) fun σ H Q ⟨W, ρ, S, re, c⟩ => ?_
  exact ⟨W, S, [], .nil, c⟩
/-! keywords -/
theorem lf_cons {K : PySem.W.Frag} {w : DE D} {r : DE (List D)} {σ : L2.St} {H : Hp} {Q : List V → Hp → Prop} (h : lf K E (RL K) (wCons w r) σ H Q) : tCons (lf K E (Rp K) w) (lf K E (RL K) r) σ H Q := by
  obtain ⟨W, ρ, S, re, c⟩ := h
  refine ⟨W, ρ, S, re, (Ct.bind (k := fun x S1 Qd Ed => r ρ S1 (fun xs S2 => Qd (x :: xs) S2) Ed) c).imp (fun _ _ z => z) ?_⟩
  rintro v H1 ⟨W1, S1, x, l1, rx, c1⟩
  refine ⟨W1, ρ, S1, re.mono l1, (Ct.bind (k := fun xs S2 Qd Ed => Qd (x :: xs) S2) c1).imp (fun _ _ z => z) ?_⟩
  rintro vs H2 ⟨W2, S2, xs, l2, rxs, c2⟩
  exact c2.pure (.cons (Rp.mono l2 _ _ rx) rxs)
theorem PK.of {t t' : TA} (h : PK X kws t) (i : ∀ σ H Q, t' σ H Q → t σ H Q) : PK X kws t' := ⟨fun pos pins s σ H Q I z => h.run pos pins s σ H Q I (i _ _ _ z)⟩
theorem pdk_nil : PDK X E [] wNil := PK.of pk_nil fun σ H Q ⟨W, ρ, S, re, c⟩ => c.pure .nil
theorem pdk_cons {w : DE D} {nm : Option Str} {kpos : Pos} (ha : PD X E e w) (hr : PDK X E kws wk) : PDK X E (⟨nm, e, kpos⟩ :: kws) (wCons w wk) := PK.of (pk_cons ha hr) fun _ _ _ h => lf_cons h
theorem Paired.perm {α β : Type} {F : α → β → Prop} {xs : List α} {us : List β} (t : Paired F xs us) : ∀ idx : List Nat, Paired F (permL idx xs) (permL idx us)
  | [] => .nil
  | i :: idx => by
    unfold permL
    rw [List.filterMap_cons, List.filterMap_cons]
    cases e : xs[i]? with
    | none =>
      have e2 : us[i]? = none := by
        rw [List.getElem?_eq_none_iff] at e ⊢
        rw [← Paired.length t]
        exact e
      rw [e2]
      exact Paired.perm t idx
    | some x =>
      obtain ⟨u, e2, r⟩ := Paired.get t e
      rw [e2]
      exact .cons r (Paired.perm t idx)
theorem pe_callN0 {n : Nat} {CX : CXT} {sp : Sp} {tk : TA} {g : List Value → List Value → List Value} {gV : List V → List V → List V} (F : FnOk X.prog X.w X.K X.mg X.base CX k f fd ps sp) (hr : Room k X.A) (hg : Gl X x) (hm : X.mg x = some (.ref f)) (hk : PySem.W.keepIn X.K (.ref f) = true) (hb : KBn X.K fd ps 0 ks g gV) (hx : Passes CX X E)
    (hkw : PK X kws tk) (hall : (backToKw pos (keywordEach kws X.env)).all (·.1.isSome) = true) (hks : (backToKw pos (keywordEach kws X.env)).filterMap (·.1) = ks)
    (hdb : (x == ("__debug__" : Str)) = false)
    (hpl : ((backTo pos (starEach [] X.env)).any (·.1) || (backToKw pos (keywordEach kws X.env)).any (·.1.isNone)) = false) :
    PE X (.Call (.Name x p) [] kws pos) (tCallN 0 ks.length sp gV E tNil tk) := by
  refine ⟨fun pins s σ H Q I h => ?_⟩
  refine wpAny_Call_Name_kw (ld_glob I hg hm ?_ hdb)
  refine PySem.W.callWith_KW0 (h₀ := X.base) I.ok.mod.kin hk hall (thn (hkw.run pos pins s σ H _ I h) fun ws s2 ⟨zs, H2, I2, rz, l1, l2, q2⟩ => ⟨I2.kIn, ?_⟩) hpl
  rw [hks]
  exact run_fnN F hr hb hx I2 .nil rz rfl l2 q2
/-- f(k = v, ..) -/
theorem pd_callK0 (idx : List Nat) (hc : Cn X E) (F : Fn X k f fd ps g) (hr : Room k X.A) (hm : X.mg x = some (.ref f)) (hk : PySem.W.keepIn X.K (.ref f) = true)
    (hb : ∀ (s : Shared) (us ws : List Value), us.length = 0 → ws.length = ks.length → BindsTo s fd ⟨us, ks.zip ws⟩ (ps.zip (permL idx (us ++ ws)))) (ha : PDK X E kws wk)
    (hall : (backToKw pos (keywordEach kws X.env)).all (·.1.isSome) = true := by rfl) (hks : (backToKw pos (keywordEach kws X.env)).filterMap (·.1) = ks := by rfl) (hg : Gl X x := by rfl) (hdb : (x == ("__debug__" : Str)) = false := by decide)
    (hpl : ((backTo pos (starEach [] X.env)).any (·.1) || (backToKw pos (keywordEach kws X.env)).any (·.1.isNone)) = false := by rfl) : PD X E (.Call (.Name x p) [] kws pos) (wCallK g 0 ks.length idx wNil wk) := by
  refine PE.of (pe_callN0 (n := 0) (gV := fun us ws => permL idx (us ++ ws)) F hr hg hm hk ⟨fun s us ws _ h1 h2 => hb s us ws h1 h2, fun r1 r2 => ?_⟩ hc.pass ha hall hks hdb hpl) fun σ H Q ⟨W, ρ, S, re, c⟩ => ?_
  · exact Paired.perm (Paired.app r1 r2) idx
  · refine ⟨W, ρ, S, re, (Ct.bind (k := fun ys S2 Qd Ed => (([] : List D).length = 0 ∧ ys.length = ks.length) ∧ g (permL idx ([] ++ ys)) S2 Qd Ed) c).imp (fun _ _ z => z) ?_⟩
    rintro vs H1 ⟨W1, S1, ys, l1, ry, c1⟩
    obtain ⟨⟨_, h2⟩, c1⟩ := c1.and
    exact ⟨rfl, by rw [← Paired.length ry]; exact h2, W1, S1, _, Paired.perm (Paired.app .nil ry) idx, c1⟩
/-- f(e, .., k = v, ..) -/
theorem pd_callK (n : Nat) (idx : List Nat) (hc : Cn X E) (F : Fn X k f fd ps g) (hr : Room k X.A) (hm : X.mg x = some (.ref f)) (hk : PySem.W.keepIn X.K (.ref f) = true)
    (hb : ∀ (s : Shared) (us ws : List Value), us.length = n → ws.length = ks.length → BindsTo s fd ⟨us, ks.zip ws⟩ (ps.zip (permL idx (us ++ ws)))) (ha : PDA X E (e :: es) wa) (hkw : PDK X E kws wk)
    (hall : (backToKw pos (keywordEach kws X.env)).all (·.1.isSome) = true := by rfl) (hks : (backToKw pos (keywordEach kws X.env)).filterMap (·.1) = ks := by rfl) (hg : Gl X x := by rfl) (hdb : (x == ("__debug__" : Str)) = false := by decide)
    (he : starEach (e :: es) X.env = (false, eval e X.env) :: starEach es X.env := by rfl)
    (hpl : ((backTo pos (starEach (e :: es) X.env)).any (·.1) || (backToKw pos (keywordEach kws X.env)).any (·.1.isNone)) = false := by rfl) : PD X E (.Call (.Name x p) (e :: es) kws pos) (wCallK g n ks.length idx wa wk) := by
  refine PE.of (pe_callN (n := n) (gV := fun us ws => permL idx (us ++ ws)) F hr hg hm hk ⟨fun s us ws _ h1 h2 => hb s us ws h1 h2, fun r1 r2 => ?_⟩ hc.pass ha hkw hall hks hdb he hpl) fun σ H Q ⟨W, ρ, S, re, c⟩ => ?_
  · exact Paired.perm (Paired.app r1 r2) idx
  · refine ⟨W, ρ, S, re, (Ct.bind (k := fun xs S1 Qd Ed => wk ρ S1 (fun ys S2 => (xs.length = n ∧ ys.length = ks.length) ∧ g (permL idx (xs ++ ys)) S2 Qd Ed) Ed) c).imp (fun _ _ z => z) ?_⟩
    rintro vs H1 ⟨W1, S1, xs, l1, rx, c1⟩
    refine ⟨W1, ρ, S1, re.mono l1, (Ct.bind (k := fun ys S2 Qd Ed => (xs.length = n ∧ ys.length = ks.length) ∧ g (permL idx (xs ++ ys)) S2 Qd Ed) c1).imp (fun _ _ z => z) ?_⟩
    rintro us H2 ⟨W2, S2, ys, l2, ry, c2⟩
    obtain ⟨⟨h1, h2⟩, c2⟩ := c2.and
    exact ⟨by rw [← Paired.length rx]; exact h1, by rw [← Paired.length ry]; exact h2, W2, S2, _, Paired.perm (Paired.app (RL.mono l2 rx) ry) idx, c2⟩
end
/-! ### raise -/
def wRaise (C : Addr) : DS := fun _ Ed _ S => Ed ⟨C, none⟩ S
/-- what a def's body has -/
structure Bd (X : Cx) (E : XK) : Prop where
  cn : Cn X E
  ow : PassesOwn (model X.prog X.w) X.A X.env X.xe
  tk : Takes X (fun cls d _ H => E cls d H)
structure ExC (K : PySem.W.Frag) (C : Addr) : Prop where
  ex : PySem.W.excIn K C He.veBase "ValueError.__new__" = true
  kp : PySem.W.keepIn K (.ref C) = true
  sub : PySem.W.subIn K (.ref C) (.type "BaseException") = some true
  ty : PySem.W.typeIn K (.ref C) = some (.type "type")
theorem pds_raise {X : Cx} {E : XK} {C : Addr} {x m : Str} {j : Nat} {p p2 pos' pos : Pos} (b : Bd X E) (c : ExC X.K C) (hm : X.mg x = some (.ref C)) (hg : Gl X x := by rfl) (hdb : (x == ("__debug__" : Str)) = false := by decide) :
    PDS X E (.Raise (some (.Call (.Name x p) [.Constant (.str m) j p2] [] pos')) none pos) (wRaise C) := by
  refine PS.of (ps_raise b.cn.calm b.tk (pmk_own PySem.F.excBase_ValueError c.ex hm c.kp (raises_own c.sub c.ty) hg hdb)) fun D σ H ⟨W, ρ, S, rl, re, Dd, Ed, q, kn⟩ => ?_
  exact kn.xe W S H ⟨C, none⟩ _ none (.refl W) rl ⟨rfl, rfl⟩ q
/-! ### a def -/
def startD (N : Nat) (ds : List D) : Rh := ds.map some ++ List.replicate (N - ds.length) none
def sbX (k : Nat → Option D) (x : Xn) : Option Xn := match x.f with
  | none => some x
  | some (f, d) => (sbD k d).map fun d' => ⟨x.C, some (f, d')⟩
open Classical in
/-- what stood ahead: what was changed stands by value -/
noncomputable def frzC (k : Nat → Option D) : Sto → Sto → Option Sto
  | [], _ => some []
  | o :: S, o' :: S' => match (if o' = o then some o else sbO k o') with
    | some u => (frzC k S S').map fun r => u :: r
    | none => none
  | _ :: _, [] => none
noncomputable def frzR (S S' : Sto) : Option Sto := frzC (frz S' S.length 6) S S'
open Classical in
theorem frzC_eq {k : Nat → Option D} : ∀ {S S' S'' : Sto}, (∀ o ∈ S, sbO k o = some o) → frzC k S S' = some S'' → sbS k (S'.take S.length) = some S''
  | [], S', S'', _, h => h
  | o :: S, [], S'', _, h => by cases h
  | o :: S, o' :: S', S'', hk, h => by
    unfold frzC at h
    have e : (if o' = o then some o else sbO k o') = sbO k o' := by
      split
      · rename_i e
        rw [e, hk o List.mem_cons_self]
      · rfl
    rw [e] at h
    show (match sbO k o' with
      | some o' => (sbS k (S'.take S.length)).map fun r => o' :: r
      | none => none) = _
    cases e1 : sbO k o' with
    | none => rw [e1] at h; cases h
    | some u =>
      rw [e1] at h
      obtain ⟨r, e2, rfl⟩ := Option.map_eq_some_iff.mp h
      rw [frzC_eq (fun o ho => hk o (List.mem_cons_of_mem _ ho)) e2]
      rfl
theorem frzR_eq {S S' S'' : Sto} (hS : clS S) (h : frzR S S' = some S'') : frzS S' S.length 6 = some S'' :=
  frzC_eq (fun o ho => hS o ho _ kid_frz) h
def rtQ (fr : Bool) (S : Sto) (d : D) (S' : Sto) (Q : D → Sto → Prop) : Prop := if fr = true then oQ (sbD (frz S' S.length 6) d) fun d' => oQ (frzR S S') fun S'' => Q d' S'' else Q d S'
def xQ (fr : Bool) (S : Sto) (x : Xn) (S' : Sto) (Q : Xn → Sto → Prop) : Prop := if fr = true then oQ (sbX (frz S' S.length 6) x) fun x' => oQ (frzR S S') fun S'' => Q x' S'' else Q x S'
/-- what a body is to reach -/
def body (fr : Bool) (w : DS) (N : Nat) (ds : List D) (S : Sto) (Q : D → Sto → Prop) (Ex : Xn → Sto → Prop) : Prop :=
  w ⟨fun _ S' => rtQ fr S .non S' Q, fun d S' => rtQ fr S d S' Q, fun _ _ => False, fun _ _ => False⟩ (fun x S' => xQ fr S x S' Ex) (startD N ds) S
theorem re_start {K : PySem.W.Frag} {W : Wd} {N : List Str} {ds : List D} {vs : List V} (r : RL K W ds vs) : Re K W (startD N.length ds) (L2.start N vs) := by
  unfold startD L2.start
  rw [Paired.length r]
  refine Paired.app ?_ ?_
  · induction r with
    | nil => exact .nil
    | cons a b ih => exact .cons (fun d e => by cases e; exact ⟨_, rfl, a⟩) ih
  · generalize N.length - vs.length = n
    induction n with
    | zero => exact .nil
    | succ n ih =>
      rw [List.replicate_succ, List.replicate_succ]
      exact .cons (fun d e => by cases e) ih
theorem fn_data {P : Program} {w : World} {K : PySem.W.Frag} {mg : Str → Option Value} {base : Heap} {k : Nat} {f : Addr} {fd : FuncData} {name qual : Str} {pa : Arguments} {bd : List Stmt} {sc : Scope} {dvs : List V} {kws : List (Str × V)} {N ps : List Str}
    (F : FunD K name qual pa bd sc dvs kws f fd) (Sc : FnScope N ps sc) (g : DSp) (fr : Bool) (rd : DS) (len : ∀ ds S Q Ex, g ds S Q Ex → ds.length = ps.length)
    (hder : ∀ (cdv : Value) (A : Around) (outer : List Env) (s : Shared) (H : Hp) (E : XK), Room k (A.deeper (envOfC qual sc s.heap.objs.size f cdv)) → Bd (cxOf (L2.CX P w) P w K mg base N qual sc f cdv A outer s H E) E → PDSs (cxOf (L2.CX P w) P w K mg base N qual sc f cdv A outer s H E) E bd rd)
    (hcon : ∀ ds S Q Ex, g ds S Q Ex → body fr rd N.length ds S Q Ex) : FnOk P w K mg base (L2.CX P w) (k + 1) f fd ps (liftSp K g) := by
  refine F.ok Sc (fun vs H Q E ⟨W, S, ds, r, c⟩ => ?_) fun cdv A outer s H vs Q E hr ⟨W, S, ds, r, rl, Qd, Ed, q, hq, hx⟩ => ?_
  · obtain ⟨rl, Qd, Ed, q, _⟩ := c
    rw [← Paired.length r]
    exact len ds S Qd Ed q
  · have tk : Takes (cxOf (L2.CX P w) P w K mg base N qual sc f cdv A outer s H E) (fun cls d _ H => E cls d H) := takes_of rfl rfl rfl rfl
    have bd' : Bd (cxOf (L2.CX P w) P w K mg base N qual sc f cdv A outer s H E) E := ⟨⟨rfl, by have := hr.un; show (A.deeper _).units + 64 < cLine; omega, passes_call tk fun _ _ _ _ h => h, Sc.nd⟩, passes_of rfl, tk⟩
    refine ⟨_, hder cdv A outer s H E hr bd', W, startD N.length ds, S, rl, re_start r, _, _, hcon ds S Qd Ed q, ?_⟩
    have rt : ∀ W' S' H' d v, W.le W' → Rl K W' S' H' → Rp K W' d v → rtQ fr S d S' Qd → Q v H' := by
      intro W' S' H' d v l rl' rd z
      unfold rtQ at z
      split at z
      · obtain ⟨d', e1, z⟩ := oQ_some z
        obtain ⟨S'', e2, z⟩ := oQ_some z
        replace e2 := frzR_eq rl.cl e2
        exact hq (W'.fz S.length H') S'' H' d' v (fz_le l (Nat.le_of_eq rl.len)) (fz_rl rl' e2) (sbRp fz_same (fz_k rl' 6) d v d' rd e1) z
      · exact hq W' S' H' d v l rl' rd z
    refine ⟨fun W' ρ' S' σ' H' l rl' _ z => rt W' S' H' .non .non l rl' rnon z, fun _ _ _ _ _ _ _ _ z => z.elim, fun _ _ _ _ _ _ _ _ z => z.elim, rt, fun W' S' H' x c dd l rl' rx z => ?_⟩
    unfold xQ at z
    split at z
    · obtain ⟨x', e1, z⟩ := oQ_some z
      obtain ⟨S'', e2, z⟩ := oQ_some z
      replace e2 := frzR_eq rl.cl e2
      refine hx (W'.fz S.length H') S'' H' x' c dd (fz_le l (Nat.le_of_eq rl.len)) (fz_rl rl' e2) ?_ z
      obtain ⟨r1, r2⟩ := rx
      unfold sbX at e1
      cases ef : x.f with
      | none =>
        rw [ef] at e1 r2
        cases e1
        refine ⟨r1, ?_⟩
        rw [ef]
        exact r2
      | some fd =>
        obtain ⟨fn, d⟩ := fd
        rw [ef] at e1 r2
        obtain ⟨d', e3, rfl⟩ := Option.map_eq_some_iff.mp e1
        obtain ⟨a, v, h1, h2, h3⟩ := r2
        exact ⟨r1, a, v, h1, h2, sbRp fz_same (fz_k rl' 6) d v d' h3 e3⟩
    · exact hx W' S' H' x c dd l rl' rx z
end DL

set_option Elab.async false
set_option linter.all false
set_option maxRecDepth 100000
/-! the written part's facts by name -/
namespace DL
open PySem PySem.Spec PyProof.Rows L2 RZ
def noTab : List He.Tab := []
def noDfn : List He.Defn := []
structure Fx (fa : List He.Fa) (fn : List He.DefD) (ex : PySem.W.Frag → Bool) (K : PySem.W.Frag) (mg : Str → Option Value) : Prop where
  so : ∃ (w : World) (h : Heap), K.In h ∧ h.Ns mainGlobals mg ∧ He.SaysX fa fn noTab noDfn ex w h K
section
variable {fa : List He.Fa} {fn : List He.DefD} {ex : PySem.W.Frag → Bool} {K : PySem.W.Frag} {mg : Str → Option Value}
theorem Fx.g (F : Fx fa fn ex K mg) (i : Nat) {x : Str} (e : fa[i]? = some (.glo x) := by rfl) : mg x = some (.ref (He.ga K x)) := let ⟨_, _, X, G, c⟩ := F.so; He.glo_ok X G (c.t.d.fact i e)
theorem Fx.f (F : Fx fa fn ex K mg) (i : Nat) {x : Str} (e : fa[i]? = some (.free x) := by rfl) : mg x = none := let ⟨_, _, X, G, c⟩ := F.so; He.free_ok X G (c.t.d.fact i e)
theorem Fx.n (F : Fx fa fn ex K mg) (i : Nat) {x : Str} {j : Int} (e : fa[i]? = some (.int x j) := by rfl) : ∃ t, mg x = some (.int j t) := let ⟨_, _, X, G, c⟩ := F.so; He.int_ok X G (c.t.d.fact i e)
theorem Fx.s (F : Fx fa fn ex K mg) (i : Nat) {x z : Str} (e : fa[i]? = some (.str x z) := by rfl) : ∃ t, mg x = some (.str z t) := let ⟨_, _, X, G, c⟩ := F.so; He.str_ok X G (c.t.d.fact i e)
theorem Fx.x (F : Fx fa fn ex K mg) (i : Nat) {x : Str} (e : fa[i]? = some (.exc x) := by rfl) : ExC K (He.ga K x) := let ⟨_, _, X, G, c⟩ := F.so; let ⟨h1, h2, h3, h4⟩ := He.exc_ok (c.t.d.fact i e); ⟨h1, h2, h3, h4⟩
theorem Fx.m (F : Fx fa fn ex K mg) : ex K = true := let ⟨_, _, _, _, c⟩ := F.so; c.more
theorem Fx.d (F : Fx fa fn ex K mg) (i : Nat) {d : He.DefD} (e : fn[i]? = some d := by rfl) : ∃ fd, FunD K d.name d.qual d.params d.body d.scope (d.dvs K) (d.kws K) (He.fAd K d.at_) fd := let ⟨_, _, _, _, c⟩ := F.so; c.t.d.def_ i e
end
/-- a def of the module, called by its name -/
structure Has (P : Program) (w : World) (K : PySem.W.Frag) (mg : Str → Option Value) (base : Heap) (k : Nat) (x : Str) (st : Stmt) (ps : List Str) (g : DSp) : Prop where
  ex : ∃ (f : Addr) (fd : FuncData), FnOk P w K mg base (L2.CX P w) k f fd ps (liftSp K g) ∧ mg x = some (.ref f) ∧ FunD K x x (defArgs st) (defBody st) (defScope st) [] [] f fd
/-- positional arguments bind -/
def BindP (x : Str) (st : Stmt) (ps : List Str) : Prop := ∀ (kV doc pm : Value) (an : Option Addr) (cdv ct : Value) (us : List Value), us.length = ps.length → bindArgs (PySem.W.fnOf x x (defArgs st) (defBody st) (defScope st) .none kV doc pm an cdv ct) ⟨us, []⟩ = pure (ps.zip us)
def BindKw (x : Str) (st : Stmt) (ps ks : List Str) (n : Nat) (idx : List Nat) : Prop := ∀ (kV doc pm : Value) (an : Option Addr) (cdv ct : Value) (us ws : List Value), us.length = n → ws.length = ks.length → bindArgs (PySem.W.fnOf x x (defArgs st) (defBody st) (defScope st) .none kV doc pm an cdv ct) ⟨us, ks.zip ws⟩ = pure (ps.zip (permL idx (us ++ ws)))
theorem bindKw_to {K : PySem.W.Frag} {x : Str} {st : Stmt} {ps ks : List Str} {n : Nat} {idx : List Nat} {f : Addr} {fd : FuncData} (F : FunD K x x (defArgs st) (defBody st) (defScope st) [] [] f fd) (h : BindKw x st ps ks n idx) (s : Shared) (us ws : List Value) (h1 : us.length = n) (h2 : ws.length = ks.length) : BindsTo s fd ⟨us, ks.zip ws⟩ (ps.zip (permL idx (us ++ ws))) := by
  obtain ⟨oc, od, dV, kV, doc, pm, an, cdv, ct, osl, rfl, lk, hcd, hD, hK⟩ := F.ex
  rcases hD with ⟨_, rfl⟩ | ⟨e, _⟩
  · exact .of_eq (h kV doc pm an cdv ct us ws h1 h2)
  · exact absurd rfl e
section
variable {X : Cx} {E : XK} {k j : Nat} {ps : List Str} {st : Stmt} {g : DSp} {x : Str} {p pos : Pos} {e : Expr} {es : List Expr} {wa : DE (List D)}
theorem pd_gint {i : Int} (h : ∃ t, X.mg x = some (.int i t)) (hg : Gl X x := by rfl) (hd : (x == ("__debug__" : Str)) = false := by decide) : PD X E (.Name x pos) (wC (.int i)) := by
  obtain ⟨t, h⟩ := h
  exact pd_glob (v := .int i) hg h ⟨t, rfl⟩ (fun _ => rfl) hd
theorem pd_gstr {i : Str} (h : ∃ t, X.mg x = some (.str i t)) (hg : Gl X x := by rfl) (hd : (x == ("__debug__" : Str)) = false := by decide) : PD X E (.Name x pos) (wC (.str i)) := by
  obtain ⟨t, h⟩ := h
  exact pd_glob (v := .str i) hg h ⟨t, rfl⟩ (fun _ => rfl) hd
/-- a tuple of texts -/
theorem pd_gtup {xs : List Str} (h : X.mg x = some (.ref (He.ga X.K x))) (t : He.tupB X.K x (xs.map He.Dv.str) = true) (hg : Gl X x := by rfl) (hd : (x == ("__debug__" : Str)) = false := by decide) : PD X E (.Name x pos) (wC (.ktp (xs.map D.str))) := by
  refine pd_glob (v := .ref (He.ga X.K x)) hg h rfl (fun W => ⟨_, xs.map V.str, rfl, ?_, RpL_iff.mpr (RL.strs xs)⟩) hd
  have q := He.tupB_ok t W.F
  have e : (xs.map He.Dv.str).map (He.Dv.v X.K) = xs.map V.str := by rw [List.map_map]; rfl
  rw [e] at q
  exact q
theorem pd_gty {n : String} (hm : X.mg x = none) (hv : bootBuiltins x = some (.type n)) (hg : Gl X x := by rfl) (hn : x ≠ "__name__" := by decide) (hd : (x == ("__debug__" : Str)) = false := by decide) : PD X E (.Name x pos) (wC (.ty n)) :=
  pd_bltn (v := .ty n) hg hm hv rfl (fun _ => rfl) hn hd
theorem pd_callH (hc : Cn X E) (h : Has X.prog X.w X.K X.mg X.base k x st ps g) (hb : BindP x st ps) (hr : Room j X.A) (hk : k ≤ j) (ha : PDA X E (e :: es) wa) (hg : Gl X x := by rfl) (hdb : (x == ("__debug__" : Str)) = false := by decide)
    (he : starEach (e :: es) X.env = (false, eval e X.env) :: starEach es X.env := by rfl) (hpl : (backTo pos (starEach es X.env)).any (·.1) = false := by rfl) : PD X E (.Call (.Name x p) (e :: es) [] pos) (wCall g wa) := by
  obtain ⟨f, fd, F, hm, FD⟩ := h.ex
  exact pd_call hc F (hr.mono hk) hm FD.kp (FD.bindsN hb) ha hg hdb he hpl
theorem pd_callH0 (hc : Cn X E) (h : Has X.prog X.w X.K X.mg X.base k x st ps g) (hb : BindP x st ps) (hr : Room j X.A) (hk : k ≤ j) (hg : Gl X x := by rfl) (hdb : (x == ("__debug__" : Str)) = false := by decide) : PD X E (.Call (.Name x p) [] [] pos) (wCall g wNil) := by
  obtain ⟨f, fd, F, hm, FD⟩ := h.ex
  exact pd_call0 hc F (hr.mono hk) hm FD.kp (FD.bindsN hb) hg hdb
theorem pd_callHK0 {kws : List Keyword} {ks : List Str} {wk : DE (List D)} (idx : List Nat) (hc : Cn X E) (h : Has X.prog X.w X.K X.mg X.base k x st ps g) (hb : BindKw x st ps ks 0 idx) (hr : Room j X.A) (hk : k ≤ j) (ha : PDK X E kws wk)
    (hall : (backToKw pos (keywordEach kws X.env)).all (·.1.isSome) = true := by rfl) (hks : (backToKw pos (keywordEach kws X.env)).filterMap (·.1) = ks := by rfl) (hg : Gl X x := by rfl) (hdb : (x == ("__debug__" : Str)) = false := by decide)
    (hpl : ((backTo pos (starEach [] X.env)).any (·.1) || (backToKw pos (keywordEach kws X.env)).any (·.1.isNone)) = false := by rfl) : PD X E (.Call (.Name x p) [] kws pos) (wCallK g 0 ks.length idx wNil wk) := by
  obtain ⟨f, fd, F, hm, FD⟩ := h.ex
  exact pd_callK0 idx hc F (hr.mono hk) hm FD.kp (fun s us ws h1 h2 => bindKw_to FD hb s us ws h1 h2) ha hall hks hg hdb hpl
theorem pd_callHK {kws : List Keyword} {ks : List Str} {wk : DE (List D)} (n : Nat) (idx : List Nat) (hc : Cn X E) (h : Has X.prog X.w X.K X.mg X.base k x st ps g) (hb : BindKw x st ps ks n idx) (hr : Room j X.A) (hk : k ≤ j) (ha : PDA X E (e :: es) wa) (hkw : PDK X E kws wk)
    (hall : (backToKw pos (keywordEach kws X.env)).all (·.1.isSome) = true := by rfl) (hks : (backToKw pos (keywordEach kws X.env)).filterMap (·.1) = ks := by rfl) (hg : Gl X x := by rfl) (hdb : (x == ("__debug__" : Str)) = false := by decide)
    (he : starEach (e :: es) X.env = (false, eval e X.env) :: starEach es X.env := by rfl)
    (hpl : ((backTo pos (starEach (e :: es) X.env)).any (·.1) || (backToKw pos (keywordEach kws X.env)).any (·.1.isNone)) = false := by rfl) : PD X E (.Call (.Name x p) (e :: es) kws pos) (wCallK g n ks.length idx wa wk) := by
  obtain ⟨f, fd, F, hm, FD⟩ := h.ex
  exact pd_callK n idx hc F (hr.mono hk) hm FD.kp (fun s us ws h1 h2 => bindKw_to FD hb s us ws h1 h2) ha hkw hall hks hg hdb he hpl
theorem oQ_some' {α : Type} {k : α → Prop} {d : α} : oQ (some d) k = k d := rfl
/-- a, b = x, y: as the tuple's way -/
theorem pds_parT {i j : Nat} {x y : Str} {a b : Expr} {wa : DE (List D)} {px py pt : Pos} {kt k2 pt2} (hc : Cn X E) (ha : PDA X E [a, b] wa)
    (hi : X.N[i]? = some x := by rfl) (hj : X.N[j]? = some y := by rfl) (hij : i ≠ j := by decide)
    (hx : X.env.scope.names.lookup x = some .local := by rfl) (hy : X.env.scope.names.lookup y = some .local := by rfl)
    (hw : swappedStores [.Tuple [.Name x px, .Name y py] kt pt] (.Tuple [a, b] k2 pt2) X.env = pure (some [x, y]) := by rfl)
    (hs : swapsWithSole [.Tuple [.Name x px, .Name y py] kt pt] (.Tuple [a, b] k2 pt2) pos.line X.env = pure false := by rfl) :
    PDS X E (.Assign [.Tuple [.Name x px, .Name y py] kt pt] (.Tuple [a, b] k2 pt2) pos) (wTup (.tp [i, j]) (wP dTup wa)) := by
  refine PS.of (ps_par hc.calm hc.nd hi hj hij hx hy ha hw hs) fun D σ H ⟨W, ρ, S, c⟩ => ?_
  obtain ⟨W0, ρ0, S0, re, c0⟩ := Cs.bind (R := RL X.K) (w := wa) (k := fun xs S1 Dd _ => dTup xs S1 fun x S2 => tgSet (.tp [i, j]) x ρ fun ρ' => Dd.nx ρ' S2) c
  refine ⟨W0, ρ0, S0, re, c0.imp (fun _ _ z => z) fun v H1 ⟨W1, S1, xs, l, r, c1⟩ => ?_⟩
  obtain ⟨rl, re, Dd, Ed, ⟨_, q⟩, kn⟩ := c1
  obtain ⟨ρ', e2, q⟩ := oQ_some (o := setAll ρ [i, j] xs) q
  match xs, r, e2 with
  | [d1, d2], r, e2 =>
    cases e2
    obtain ⟨v1, v2, rfl, r1, r2⟩ := RL.two r
    exact ⟨v1, v2, rfl, kn.nx W1 _ S1 _ H1 (.refl _) rl ((re.set i r1).set j r2) q⟩
theorem RL.three {K : PySem.W.Frag} {W : Wd} {d e f : D} {vs : List V} (r : RL K W [d, e, f] vs) : ∃ u v w, vs = [u, v, w] ∧ Rp K W d u ∧ Rp K W e v ∧ Rp K W f w := by
  cases r with
  | cons a t =>
    obtain ⟨v, w, rfl, h1, h2⟩ := RL.two t
    exact ⟨_, v, w, rfl, a, h1, h2⟩
theorem pds_par3T {i j l : Nat} {x y z : Str} {a b c : Expr} {wa : DE (List D)} {px py pz pt : Pos} {kt k2 pt2} (hc : Cn X E) (ha : PDA X E [a, b, c] wa)
    (hi : X.N[i]? = some x := by rfl) (hj : X.N[j]? = some y := by rfl) (hl : X.N[l]? = some z := by rfl) (hij : i ≠ j := by decide) (hil : i ≠ l := by decide) (hjl : j ≠ l := by decide)
    (hx : X.env.scope.names.lookup x = some .local := by rfl) (hy : X.env.scope.names.lookup y = some .local := by rfl) (hz : X.env.scope.names.lookup z = some .local := by rfl)
    (hw : swappedStores [.Tuple [.Name x px, .Name y py, .Name z pz] kt pt] (.Tuple [a, b, c] k2 pt2) X.env = pure (some [x, y, z]) := by rfl)
    (hs : swapsWithSole [.Tuple [.Name x px, .Name y py, .Name z pz] kt pt] (.Tuple [a, b, c] k2 pt2) pos.line X.env = pure false := by rfl) :
    PDS X E (.Assign [.Tuple [.Name x px, .Name y py, .Name z pz] kt pt] (.Tuple [a, b, c] k2 pt2) pos) (wTup (.tp [i, j, l]) (wP dTup wa)) := by
  refine PS.of (ps_par3 hc.calm hc.nd hi hj hl hij hil hjl hx hy hz ha hw hs) fun D σ H ⟨W, ρ, S, c⟩ => ?_
  obtain ⟨W0, ρ0, S0, re, c0⟩ := Cs.bind (R := RL X.K) (w := wa) (k := fun xs S1 Dd _ => dTup xs S1 fun x S2 => tgSet (.tp [i, j, l]) x ρ fun ρ' => Dd.nx ρ' S2) c
  refine ⟨W0, ρ0, S0, re, c0.imp (fun _ _ z => z) fun v H1 ⟨W1, S1, xs, _, r, c1⟩ => ?_⟩
  obtain ⟨rl, re, Dd, Ed, ⟨_, q⟩, kn⟩ := c1
  obtain ⟨ρ', e2, q⟩ := oQ_some (o := setAll ρ [i, j, l] xs) q
  match xs, r, e2 with
  | [d1, d2, d3], r, e2 =>
    cases e2
    obtain ⟨v1, v2, v3, rfl, r1, r2, r3⟩ := RL.three r
    exact ⟨v1, v2, v3, rfl, kn.nx W1 _ S1 _ H1 (.refl _) rl (((re.set i r1).set j r2).set l r3) q⟩
end
/-- a call reaches what the body reaches -/
def spb (fr : Bool) (rd : DS) (n k : Nat) : DSp := fun ds S Q Ex => ds.length = k ∧ body fr rd n ds S Q Ex
/-- a def keeps its promise, by its body's reading -/
theorem has_of {fa : List He.Fa} {fn : List He.DefD} {ex : PySem.W.Frag → Bool} {P : Program} {w : World} {K : PySem.W.Frag} {mg : Str → Option Value} {base : Heap} {k : Nat} {x : Str} {st : Stmt} {N ps : List Str} (fx : Fx fa fn ex K mg) (i j : Nat)
    (hd : fn[i]? = some ⟨(x, none), x, x, defArgs st, defBody st, defScope st, [], []⟩) (hg : fa[j]? = some (.glo x)) (he : He.ga K x = He.fAd K (x, none)) (Sc : FnScope N ps (defScope st)) (g : DSp) (fr : Bool) (rd : DS) (len : ∀ ds S Q Ex, g ds S Q Ex → ds.length = ps.length)
    (hder : ∀ (f : Addr) (cdv : Value) (A : Around) (outer : List Env) (s : Shared) (H : Hp) (E : XK), Room k (A.deeper (envOfC x (defScope st) s.heap.objs.size f cdv)) → Bd (cxOf (L2.CX P w) P w K mg base N x (defScope st) f cdv A outer s H E) E → PDSs (cxOf (L2.CX P w) P w K mg base N x (defScope st) f cdv A outer s H E) E (defBody st) rd)
    (hcon : ∀ ds S Q Ex, g ds S Q Ex → body fr rd N.length ds S Q Ex) : Has P w K mg base (k + 1) x st ps g := by
  obtain ⟨fd, F⟩ := fx.d i hd
  have hm := fx.g j hg
  rw [he] at hm
  exact ⟨_, fd, fn_data F Sc g fr rd len (hder _) hcon, hm, F⟩
theorem has_b {fa : List He.Fa} {fn : List He.DefD} {ex : PySem.W.Frag → Bool} {P : Program} {w : World} {K : PySem.W.Frag} {mg : Str → Option Value} {base : Heap} {k : Nat} {x : Str} {st : Stmt} {N ps : List Str} {g : DSp} (fr : Bool) (rd : DS) (fx : Fx fa fn ex K mg) (i j : Nat)
    (hd : fn[i]? = some ⟨(x, none), x, x, defArgs st, defBody st, defScope st, [], []⟩) (hg : fa[j]? = some (.glo x)) (he : He.ga K x = He.fAd K (x, none)) (Sc : FnScope N ps (defScope st)) (e : g = spb fr rd N.length ps.length)
    (hder : ∀ (f : Addr) (cdv : Value) (A : Around) (outer : List Env) (s : Shared) (H : Hp) (E : XK), Room k (A.deeper (envOfC x (defScope st) s.heap.objs.size f cdv)) → Bd (cxOf (L2.CX P w) P w K mg base N x (defScope st) f cdv A outer s H E) E → PDSs (cxOf (L2.CX P w) P w K mg base N x (defScope st) f cdv A outer s H E) E (defBody st) rd) :
    Has P w K mg base (k + 1) x st ps g := by
  subst e
  exact has_of fx i j hd hg he Sc _ fr rd (fun _ _ _ _ h => h.1) hder fun _ _ _ _ h => h.2
end DL

set_option Elab.async false
set_option linter.all false
set_option maxRecDepth 100000
/-! reading the readings: lemmas for contracts -/
namespace DL
open PySem PySem.Spec PyProof.Rows L2 RZ
/-! equality -/
theorem eqD_int {a b : Int} : eqD (.int a) (.int b) = decide (a = b) := by
  unfold eqD
  simp only [toPy, PyData.eqv]
  by_cases h : a = b <;> simp [h]
theorem eqD_str {a b : Str} : eqD (.str a) (.str b) = decide (a = b) := by
  unfold eqD
  simp only [toPy, PyData.eqv]
  by_cases h : a = b <;> simp [h]
theorem eqD_bl {a b : Bool} : eqD (.bl a) (.bl b) = (a == b) := by
  unfold eqD
  simp only [toPy, PyData.eqv]
theorem eqL_nil : eqL [] [] = true := by unfold eqL; simp only [toPyL, PyData.eqvAll]
theorem eqL_cons {a b : D} {as bs : List D} : eqL (a :: as) (b :: bs) = (eqD a b && eqL as bs) := by
  unfold eqL eqD
  simp only [toPyL, PyData.eqvAll]
theorem eqL_nc {b : D} {bs : List D} : eqL [] (b :: bs) = false := by unfold eqL; simp only [toPyL, PyData.eqvAll]
theorem eqL_cn {b : D} {bs : List D} : eqL (b :: bs) [] = false := by unfold eqL; simp only [toPyL, PyData.eqvAll]
theorem eqD_tup {as bs : List D} : eqD (.tup as) (.tup bs) = eqL as bs := by
  unfold eqL eqD
  simp only [toPy, PyData.eqv]
theorem eqD_lst {as bs : List D} : eqD (.lst as) (.lst bs) = eqL as bs := by
  unfold eqL eqD
  simp only [toPy, PyData.eqv]
theorem eqL_map {α : Type} [DecidableEq α] {f : α → D} (h : ∀ a b, eqD (f a) (f b) = decide (a = b)) : ∀ {xs ys : List α}, eqL (xs.map f) (ys.map f) = decide (xs = ys)
  | [], [] => by simp [eqL_nil]
  | [], y :: ys => by simp [eqL_nc]
  | x :: xs, [] => by simp [eqL_cn]
  | x :: xs, y :: ys => by
    rw [List.map_cons, List.map_cons, eqL_cons, h, eqL_map h]
    by_cases e : x = y <;> by_cases e2 : xs = ys <;> simp [e, e2]
/-! shapes that are compared -/
def hasD (k : Nat) (d : D) : Prop := (toPy d).canLay0 = true ∧ (toPy d).depth ≤ k
def hasL (k : Nat) (ds : List D) : Prop := PyData.canLayAll0 (toPyL ds) = true ∧ PyData.depthAll (toPyL ds) ≤ k
theorem ok_has {k : Nat} {d : D} (h : hasD k d) (hk : k ≤ 64) : okD d = true := by
  unfold okD SeqAt.shaped
  rw [h.1, Bool.true_and]
  exact decide_eq_true (Nat.le_trans h.2 hk)
theorem has_int {k : Nat} {i : Int} : hasD k (.int i) := ⟨by simp only [toPy, PyData.canLay0], by simp only [toPy, PyData.depth]; exact Nat.zero_le _⟩
theorem has_bl {k : Nat} {i : Bool} : hasD k (.bl i) := ⟨by simp only [toPy, PyData.canLay0], by simp only [toPy, PyData.depth]; exact Nat.zero_le _⟩
theorem has_non {k : Nat} : hasD k .non := ⟨by simp only [toPy, PyData.canLay0], by simp only [toPy, PyData.depth]; exact Nat.zero_le _⟩
theorem has_str {k : Nat} {x : Str} (h : PyData.strOk x = true) : hasD k (.str x) := ⟨by simp only [toPy, PyData.canLay0]; exact h, by simp only [toPy, PyData.depth]; exact Nat.zero_le _⟩
theorem hasL_nil {k : Nat} : hasL k [] := ⟨by simp only [toPyL, PyData.canLayAll0], by simp only [toPyL, PyData.depthAll]; exact Nat.zero_le _⟩
theorem hasL_cons {k : Nat} {d : D} {ds : List D} (h : hasD k d) (t : hasL k ds) : hasL k (d :: ds) := ⟨by simp only [toPyL, PyData.canLayAll0]; rw [h.1, t.1]; rfl, by simp only [toPyL, PyData.depthAll]; exact Nat.max_le.mpr ⟨h.2, t.2⟩⟩
theorem hasL_all {k : Nat} : ∀ {ds : List D}, (∀ d ∈ ds, hasD k d) → hasL k ds
  | [], _ => hasL_nil
  | d :: ds, h => hasL_cons (h d List.mem_cons_self) (hasL_all fun e he => h e (List.mem_cons_of_mem _ he))
theorem has_tup {k : Nat} {ds : List D} (h : hasL k ds) : hasD (k + 1) (.tup ds) := ⟨by simp only [toPy, PyData.canLay0]; exact h.1, by simp only [toPy, PyData.depth]; exact Nat.succ_le_succ h.2⟩
theorem has_lst {k : Nat} {ds : List D} (h : hasL k ds) : hasD (k + 1) (.lst ds) := ⟨by simp only [toPy, PyData.canLay0]; exact h.1, by simp only [toPy, PyData.depth]; exact Nat.succ_le_succ h.2⟩
theorem ok_int {i : Int} : okD (.int i) = true := ok_has (k := 0) has_int (by decide)
theorem ok_bl {i : Bool} : okD (.bl i) = true := ok_has (k := 0) has_bl (by decide)
theorem ok_str {x : Str} (h : PyData.strOk x = true) : okD (.str x) = true := ok_has (k := 0) (has_str h) (by decide)
theorem ok_nil : okD (.lst []) = true := ok_has (k := 1) (has_lst hasL_nil) (by decide)
theorem ok_strs {xs : List Str} (h : ∀ x ∈ xs, PyData.strOk x = true) : okD (.lst (xs.map D.str)) = true := ok_has (k := 1) (has_lst (hasL_all fun d hd => by
  obtain ⟨x, hx, rfl⟩ := List.mem_map.mp hd
  exact has_str (h x hx))) (by decide)
theorem ok_tstrs {xs : List Str} (h : ∀ x ∈ xs, PyData.strOk x = true) : okD (.tup (xs.map D.str)) = true := ok_has (k := 1) (has_tup (hasL_all fun d hd => by
  obtain ⟨x, hx, rfl⟩ := List.mem_map.mp hd
  exact has_str (h x hx))) (by decide)
theorem ok_ints {xs : List Int} : okD (.lst (xs.map D.int)) = true := ok_has (k := 1) (has_lst (hasL_all fun d hd => by
  obtain ⟨x, hx, rfl⟩ := List.mem_map.mp hd
  exact has_int)) (by decide)
theorem bv_int {S : Sto} {i : Int} : bv S (.int i) = .int i := rfl
theorem bv_bl {S : Sto} {i : Bool} : bv S (.bl i) = .bl i := rfl
theorem bv_str {S : Sto} {i : Str} : bv S (.str i) = .str i := rfl
theorem bv_tup {S : Sto} {i : List D} : bv S (.tup i) = .tup i := rfl
theorem bv_lst {S : Sto} {i : List D} : bv S (.lst i) = .lst i := rfl
theorem bv_non {S : Sto} : bv S .non = .non := rfl
/-! subscripts -/
theorem atI_nat {α : Type} {xs : List α} {k : Nat} : atI xs (k : Int) = xs[k]? := by
  unfold atI ixN
  rw [if_pos (by omega)]
  by_cases h : k < xs.length
  · rw [if_pos (by omega)]
    simp
  · rw [if_neg (by omega), List.getElem?_eq_none (by omega)]
    rfl
theorem atI_last {α : Type} {xs : List α} : atI xs (-1) = xs.getLast? := by
  unfold atI ixN
  rw [if_neg (by omega)]
  cases xs with
  | nil => rfl
  | cons x xs =>
    rw [if_pos (by rw [List.length_cons]; omega), List.getLast?_eq_getElem?]
    show (x :: xs)[(-1 + (((x :: xs).length : Nat) : Int)).toNat]? = _
    rw [List.length_cons, show (-1 + ((xs.length + 1 : Nat) : Int)).toNat = xs.length + 1 - 1 by omega]
theorem atI_app_last {α : Type} {xs : List α} {x : α} : atI (xs ++ [x]) (-1) = some x := by
  rw [atI_last, List.getLast?_concat]
theorem atI0 {α : Type} {a : α} {xs : List α} : atI (a :: xs) 0 = some a := atI_nat (k := 0)
theorem atI1 {α : Type} {a b : α} {xs : List α} : atI (a :: b :: xs) 1 = some b := atI_nat (k := 1)
theorem atI2 {α : Type} {a b c : α} {xs : List α} : atI (a :: b :: c :: xs) 2 = some c := atI_nat (k := 2)
theorem atI3 {α : Type} {a b c d : α} {xs : List α} : atI (a :: b :: c :: d :: xs) 3 = some d := atI_nat (k := 3)
theorem atI4 {α : Type} {a b c d e : α} {xs : List α} : atI (a :: b :: c :: d :: e :: xs) 4 = some e := atI_nat (k := 4)
theorem oQ_s {α : Type} {k : α → Prop} {d : α} : oQ (some d) k = k d := rfl
theorem oQ_n {α : Type} {k : α → Prop} : oQ (none : Option α) k = False := rfl
theorem if_t {α : Sort u} {a b : α} : (if true = true then a else b) = a := rfl
theorem if_f {α : Sort u} {a b : α} : (if false = true then a else b) = b := rfl

theorem atI_nat' {α : Type} {xs : List α} {k : Nat} : atI xs (0 + (k : Int)) = xs[k]? := by rw [show (0 + (k : Int)) = ((k : Nat) : Int) by omega, atI_nat]
theorem atI_succ {α : Type} {xs : List α} {k : Nat} : atI xs ((k : Int) + 1) = xs[k + 1]? := by rw [show (k : Int) + 1 = ((k + 1 : Nat) : Int) by omega, atI_nat]
theorem atI_app_last' {α : Type} {xs : List α} {x : α} : atI (xs ++ [x]) (-1) = some x := by
  rw [atI_last, List.getLast?_concat]
/-! loops -/
theorem for_inv {g : Sto → Prop} {t : Tg} {tb : DS} {n kk cc : Rh → Sto → Prop} {r : D → Sto → Prop} {Ed : DX} {α : Type} (enc : α → D) (I : List α → Rh → Sto → Prop) (hg : ∀ l ρ S, I l ρ S → g S)
    (step : ∀ x l ρ S, I (x :: l) ρ S → ∀ N : Rh → Sto → Prop, (∀ ρ' S', I l ρ' S' → N ρ' S') → tgSet t (enc x) ρ fun ρ2 => tb ⟨N, r, n, N⟩ Ed ρ2 S) (hend : ∀ ρ S, I [] ρ S → n ρ S) :
    ∀ {xs : List α} {ρ : Rh} {S : Sto}, I xs ρ S → forGo g t tb ⟨n, r, kk, cc⟩ Ed (xs.map enc) ρ S
  | [], ρ, S, h => ⟨hg _ _ _ h, hend _ _ h⟩
  | x :: xs, ρ, S, h => ⟨hg _ _ _ h, step x xs ρ S h _ fun ρ' S' h' => for_inv enc I hg step hend h'⟩
theorem for_fold {g : Sto → Prop} {t : Tg} {tb : DS} {n kk cc : Rh → Sto → Prop} {r : D → Sto → Prop} {Ed : DX} {α β : Type} (enc : α → D) (ρs : β → Rh) (Ss : β → Sto) (step : β → α → β) (J : List α → β → Prop) (hg : ∀ l b, J l b → g (Ss b))
    (h : ∀ x l b, J (x :: l) b → J l (step b x) ∧ ∀ N : Rh → Sto → Prop, (tgSet t (enc x) (ρs b) fun ρ2 => tb ⟨N, r, n, N⟩ Ed ρ2 (Ss b)) = N (ρs (step b x)) (Ss (step b x))) :
    ∀ {xs : List α} {b : β}, J xs b → forGo g t tb ⟨n, r, kk, cc⟩ Ed (xs.map enc) (ρs b) (Ss b) = n (ρs (xs.foldl step b)) (Ss (xs.foldl step b))
  | [], b, j => by
    show (g (Ss b) ∧ n (ρs b) (Ss b)) = _
    exact propext ⟨fun z => z.2, fun z => ⟨hg _ _ j, z⟩⟩
  | x :: xs, b, j => by
    show (g (Ss b) ∧ tgSet t (enc x) (ρs b) fun ρ2 => tb ⟨_, r, n, _⟩ Ed ρ2 (Ss b)) = _
    obtain ⟨j', e⟩ := h x xs b j
    have e2 := e (fun ρ3 S3 => forGo g t tb ⟨n, r, kk, cc⟩ Ed (xs.map enc) ρ3 S3)
    rw [e2, for_fold enc ρs Ss step J hg h j']
    exact propext ⟨fun z => z.2, fun z => ⟨hg _ _ j, z⟩⟩
/-- a loop that may be left: what it reaches, R -/
theorem for_rec {g : Sto → Prop} {t : Tg} {tb : DS} {n kk cc : Rh → Sto → Prop} {r : D → Sto → Prop} {Ed : DX} {α β : Type} (enc : α → D) (ρs : β → Rh) (Ss : β → Sto) (J : List α → β → Prop) (R : List α → β → Prop) (hg : ∀ l b, J l b → g (Ss b))
    (hnil : ∀ b, J [] b → n (ρs b) (Ss b) = R [] b)
    (hcons : ∀ x l b, J (x :: l) b → ∀ N : Rh → Sto → Prop, (∀ b', J l b' → N (ρs b') (Ss b') = R l b') → (tgSet t (enc x) (ρs b) fun ρ2 => tb ⟨N, r, n, N⟩ Ed ρ2 (Ss b)) = R (x :: l) b) :
    ∀ {xs : List α} {b : β}, J xs b → forGo g t tb ⟨n, r, kk, cc⟩ Ed (xs.map enc) (ρs b) (Ss b) = R xs b
  | [], b, j => by
    show (g (Ss b) ∧ n (ρs b) (Ss b)) = _
    rw [hnil b j]
    exact propext ⟨fun z => z.2, fun z => ⟨hg _ _ j, z⟩⟩
  | x :: xs, b, j => by
    show (g (Ss b) ∧ tgSet t (enc x) (ρs b) fun ρ2 => tb ⟨_, r, n, _⟩ Ed ρ2 (Ss b)) = _
    have e2 := hcons x xs b j (fun ρ3 S3 => forGo g t tb ⟨n, r, kk, cc⟩ Ed (xs.map enc) ρ3 S3) fun b' j' => for_rec enc ρs Ss J R hg hnil hcons j'
    rw [e2]
    exact propext ⟨fun z => z.2, fun z => ⟨hg _ _ j, z⟩⟩
theorem lc_inv {g : Sto → Prop} {t : Tg} {tt : DE Bool} {te : DE D} {ρ : Rh} {Kd : List D → Sto → Prop} {α : Type} (enc : α → D) (I : List α → List D → Sto → Prop) (hg : ∀ l a S, I l a S → g S)
    (step : ∀ x l a S, I (x :: l) a S → ∀ (Ky : D → Sto → Prop) (Kn : Sto → Prop), (∀ y S', I l (a ++ [y]) S' → Ky y S') → (∀ S', I l a S' → Kn S') → tgSet t (enc x) ρ fun ρ2 => tt ρ2 S (fun b S2 => if b = true then te ρ2 S2 Ky noX else Kn S2) noX)
    (hend : ∀ a S, I [] a S → Kd a S) : ∀ {xs : List α} {a : List D} {S : Sto}, I xs a S → lcGo g t tt te ρ Kd (xs.map enc) a S
  | [], a, S, h => ⟨hg _ _ _ h, hend _ _ h⟩
  | x :: xs, a, S, h => ⟨hg _ _ _ h, step x xs a S h _ _ (fun y S' h' => lc_inv enc I hg step hend h') fun S' h' => lc_inv enc I hg step hend h'⟩
/-- a comprehension over encoded things -/
def lcB {α : Type} (g : Sto → Prop) (body : α → Sto → (D → Sto → Prop) → (Sto → Prop) → Prop) (Kd : List D → Sto → Prop) [Fz Kd] : List α → List D → Sto → Prop
  | [], acc, S => g S ∧ Kd acc S
  | x :: r, acc, S => g S ∧ body x S (fun y S3 => lcB g body Kd r (acc ++ [y]) S3) (fun S2 => lcB g body Kd r acc S2)
theorem e_lc {g : Sto → Prop} {t : Tg} {tt : DE Bool} {te : DE D} {ρ : Rh} {Kd : List D → Sto → Prop} {α : Type} {enc : α → D} : ∀ {xs : List α} {a : List D} {S : Sto}, lcGo g t tt te ρ Kd (xs.map enc) a S = lcB g (fun x S Ky Kn => tgSet t (enc x) ρ fun ρ2 => tt ρ2 S (fun b S2 => if b = true then te ρ2 S2 Ky noX else Kn S2) noX) Kd xs a S
  | [], a, S => rfl
  | x :: xs, a, S => by
    show (g S ∧ tgSet t (enc x) ρ fun ρ2 => tt ρ2 S (fun b S2 => if b = true then te ρ2 S2 (fun y S3 => lcGo g t tt te ρ Kd (xs.map enc) (a ++ [y]) S3) noX else lcGo g t tt te ρ Kd (xs.map enc) a S2) noX) = _
    have e : ∀ a S, lcGo g t tt te ρ Kd (xs.map enc) a S = lcB g (fun x S Ky Kn => tgSet t (enc x) ρ fun ρ2 => tt ρ2 S (fun b S2 => if b = true then te ρ2 S2 Ky noX else Kn S2) noX) Kd xs a S := fun a S => e_lc
    simp only [e]
    rfl
theorem lcB_inv {α : Type} {g : Sto → Prop} {body : α → Sto → (D → Sto → Prop) → (Sto → Prop) → Prop} {Kd : List D → Sto → Prop} (I : List α → List D → Sto → Prop) (hg : ∀ l a S, I l a S → g S)
    (step : ∀ x l a S, I (x :: l) a S → ∀ (Ky : D → Sto → Prop) (Kn : Sto → Prop), (∀ y S', I l (a ++ [y]) S' → Ky y S') → (∀ S', I l a S' → Kn S') → body x S Ky Kn) (hend : ∀ a S, I [] a S → Kd a S) :
    ∀ {xs : List α} {a : List D} {S : Sto}, I xs a S → lcB g body Kd xs a S
  | [], a, S, h => ⟨hg _ _ _ h, hend _ _ h⟩
  | x :: xs, a, S, h => ⟨hg _ _ _ h, step x xs a S h _ _ (fun y S' h' => lcB_inv I hg step hend h') fun S' h' => lcB_inv I hg step hend h'⟩
/-- at a store that stays -/
theorem lcB_at {α : Type} {g : Sto → Prop} {body : α → Sto → (D → Sto → Prop) → (Sto → Prop) → Prop} {Kd : List D → Sto → Prop} {S : Sto} (p : α → Bool) (f : α → D) : ∀ {xs : List α} {a : List D}, (∀ x ∈ xs, ∀ Ky Kn, body x S Ky Kn = (if p x = true then Ky (f x) S else Kn S)) → lcB g body Kd xs a S = (g S ∧ Kd (a ++ (xs.filter p).map f) S)
  | [], a, _ => by simp only [lcB, List.filter_nil, List.map_nil, List.append_nil]
  | x :: xs, a, h => by
    show (g S ∧ body x S _ _) = _
    rw [h x List.mem_cons_self]
    cases hp : p x
    · rw [if_neg Bool.false_ne_true, lcB_at p f (fun y hy => h y (List.mem_cons_of_mem _ hy)), List.filter_cons_of_neg (by rw [hp]; exact Bool.false_ne_true)]
      exact propext ⟨fun z => z.2, fun z => ⟨z.1, z⟩⟩
    · rw [if_pos rfl, lcB_at p f (fun y hy => h y (List.mem_cons_of_mem _ hy)), List.filter_cons_of_pos hp]
      simp only [List.map_cons, List.append_assoc, List.cons_append, List.nil_append]
      exact propext ⟨fun z => z.2, fun z => ⟨z.1, z⟩⟩
theorem lcB_mem {α : Type} {g : Sto → Prop} {body : α → Sto → (D → Sto → Prop) → (Sto → Prop) → Prop} {Kd : List D → Sto → Prop} {S : Sto} (f : α → D) {xs : List α} {a : List D} (h : ∀ x ∈ xs, ∀ Ky Kn, body x S Ky Kn = Ky (f x) S) : lcB g body Kd xs a S = (g S ∧ Kd (a ++ xs.map f) S) := by
  rw [lcB_at (fun _ => true) f (fun x hx Ky Kn => by rw [if_pos rfl]; exact h x hx Ky Kn), List.filter_eq_self.mpr fun _ _ => rfl]
theorem e_lcB_if {α : Type} {g : Sto → Prop} {Kd : List D → Sto → Prop} {S : Sto} {p : α → Bool} {f : α → D} {xs : List α} {a : List D} : lcB g (fun x S Ky Kn => if p x = true then Ky (f x) S else Kn S) Kd xs a S = (g S ∧ Kd (a ++ (xs.filter p).map f) S) :=
  lcB_at p f fun _ _ _ _ => rfl
theorem e_lcB_ifn {α : Type} {g : Sto → Prop} {Kd : List D → Sto → Prop} {S : Sto} {p : α → Bool} {f : α → D} {xs : List α} {a : List D} : lcB g (fun x S Ky Kn => if p x = true then Kn S else Ky (f x) S) Kd xs a S = (g S ∧ Kd (a ++ (xs.filter fun x => !p x).map f) S) :=
  lcB_at (fun x => !p x) f fun x _ Ky Kn => by cases p x <;> rfl
theorem e_lcB_t {α : Type} {g : Sto → Prop} {Kd : List D → Sto → Prop} {S : Sto} {f : α → D} {xs : List α} {a : List D} : lcB g (fun x S Ky Kn => Ky (f x) S) Kd xs a S = (g S ∧ Kd (a ++ xs.map f) S) :=
  lcB_mem f fun _ _ _ _ => rfl
theorem e_lcB_if2 {α : Type} {g : Sto → Prop} {Kd : List D → Sto → Prop} {S : Sto} {p q : α → Bool} {f : α → D} {xs : List α} {a : List D} : lcB g (fun x S Ky Kn => if p x = true then (if q x = true then Ky (f x) S else Kn S) else Kn S) Kd xs a S = (g S ∧ Kd (a ++ (xs.filter fun x => p x && q x).map f) S) :=
  lcB_at (fun x => p x && q x) f fun x _ Ky Kn => by cases p x <;> rfl
theorem e_noG {S : Sto} : noG S = True := rfl
theorem e_lc_nil {g : Sto → Prop} {t : Tg} {tt : DE Bool} {te : DE D} {ρ : Rh} {Kd : List D → Sto → Prop} {a : List D} {S : Sto} : lcGo g t tt te ρ Kd [] a S = (g S ∧ Kd a S) := rfl
theorem e_lc_cons {g : Sto → Prop} {t : Tg} {tt : DE Bool} {te : DE D} {ρ : Rh} {Kd : List D → Sto → Prop} {d : D} {r a : List D} {S : Sto} : lcGo g t tt te ρ Kd (d :: r) a S = (g S ∧ tgSet t d ρ fun ρ2 => tt ρ2 S (fun b S2 => if b = true then te ρ2 S2 (fun y S3 => lcGo g t tt te ρ Kd r (a ++ [y]) S3) noX else lcGo g t tt te ρ Kd r a S2) noX) := rfl
theorem e_for_nil {g : Sto → Prop} {t : Tg} {tb : DS} {n k c : Rh → Sto → Prop} {r : D → Sto → Prop} {Ed : DX} {ρ : Rh} {S : Sto} : forGo g t tb ⟨n, r, k, c⟩ Ed [] ρ S = (g S ∧ n ρ S) := rfl
theorem e_nx {n k c : Rh → Sto → Prop} {r : D → Sto → Prop} {ρ : Rh} {S : Sto} : DEnds.nx ⟨n, r, k, c⟩ ρ S = n ρ S := rfl
theorem for_cons {g : Sto → Prop} {t : Tg} {tb : DS} {Dd : DEnds} {Ed : DX} {ρ : Rh} {S : Sto} {d : D} {r : List D} : forGo g t tb Dd Ed (d :: r) ρ S = (g S ∧ tgSet t d ρ fun ρ2 => tb ⟨fun ρ3 S3 => forGo g t tb Dd Ed r ρ3 S3, Dd.rt, Dd.nx, fun ρ3 S3 => forGo g t tb Dd Ed r ρ3 S3⟩ Ed ρ2 S) := rfl
/-- .. of a dict comprehension -/
def dcB {α : Type} (g : Sto → Prop) (body : α → Sto → (D → D → Sto → Prop) → (Sto → Prop) → Prop) (Kd : List (Key × D) → Sto → Prop) [Fz Kd] : List α → List (Key × D) → Sto → Prop
  | [], acc, S => g S ∧ Kd acc S
  | x :: r, acc, S => g S ∧ body x S (fun k y S3 => oQ (asK k) fun k => dcB g body Kd r (putD acc k y) S3) (fun S2 => dcB g body Kd r acc S2)
theorem e_dc {g : Sto → Prop} {t : Tg} {tt : DE Bool} {tk te : DE D} {ρ : Rh} {Kd : List (Key × D) → Sto → Prop} {α : Type} {enc : α → D} : ∀ {xs : List α} {a : List (Key × D)} {S : Sto}, dcGo g t tt tk te ρ Kd (xs.map enc) a S = dcB g (fun x S Ky Kn => tgSet t (enc x) ρ fun ρ2 => tt ρ2 S (fun b S2 => if b = true then tk ρ2 S2 (fun k S3 => te ρ2 S3 (fun y S4 => Ky k y S4) noX) noX else Kn S2) noX) Kd xs a S
  | [], a, S => rfl
  | x :: xs, a, S => by
    show (g S ∧ tgSet t (enc x) ρ fun ρ2 => tt ρ2 S (fun b S2 => if b = true then tk ρ2 S2 (fun k S3 => te ρ2 S3 (fun y S4 => oQ (asK k) fun k => dcGo g t tt tk te ρ Kd (xs.map enc) (putD a k y) S4) noX) noX else dcGo g t tt tk te ρ Kd (xs.map enc) a S2) noX) = _
    have e : dcGo g t tt tk te ρ Kd (xs.map enc) = dcB g (fun x S Ky Kn => tgSet t (enc x) ρ fun ρ2 => tt ρ2 S (fun b S2 => if b = true then tk ρ2 S2 (fun k S3 => te ρ2 S3 (fun y S4 => Ky k y S4) noX) noX else Kn S2) noX) Kd xs := funext fun a => funext fun S => e_dc
    rw [e]
    rfl
theorem asK_kD {k : Key} : asK (kD k) = some k := by cases k <;> rfl
theorem dcB_at {α : Type} {g : Sto → Prop} {body : α → Sto → (D → D → Sto → Prop) → (Sto → Prop) → Prop} {Kd : List (Key × D) → Sto → Prop} {S : Sto} (k : α → Key) (f : α → D) : ∀ {xs : List α} {a : List (Key × D)}, (∀ x ∈ xs, ∀ Ky Kn, body x S Ky Kn = Ky (kD (k x)) (f x) S) → dcB g body Kd xs a S = (g S ∧ Kd (xs.foldl (fun a x => putD a (k x) (f x)) a) S)
  | [], a, _ => rfl
  | x :: xs, a, h => by
    show (g S ∧ body x S _ _) = _
    rw [h x List.mem_cons_self, asK_kD]
    show (g S ∧ dcB g body Kd xs (putD a (k x) (f x)) S) = _
    rw [dcB_at k f fun y hy => h y (List.mem_cons_of_mem _ hy)]
    exact propext ⟨fun z => z.2, fun z => ⟨z.1, z⟩⟩
theorem e_dcB_s {α : Type} {g : Sto → Prop} {Kd : List (Key × D) → Sto → Prop} {S : Sto} {k : α → Str} {f : α → D} {xs : List α} {a : List (Key × D)} : dcB g (fun x S Ky Kn => Ky (.str (k x)) (f x) S) Kd xs a S = (g S ∧ Kd (xs.foldl (fun a x => putD a (.inr (k x)) (f x)) a) S) :=
  dcB_at (fun x => .inr (k x)) f fun _ _ _ _ => rfl
theorem fold_put_nd {α κ : Type} [DecidableEq κ] {k : α → κ} {f : α → D} : ∀ {xs : List α} {a : List (κ × D)}, (a.map (·.1) ++ xs.map k).Nodup → xs.foldl (fun a x => putD a (k x) (f x)) a = a ++ xs.map fun x => (k x, f x)
  | [], a, _ => by simp
  | x :: xs, a, h => by
    rw [List.foldl_cons]
    have hp : putD a (k x) (f x) = a ++ [(k x, f x)] := by
      unfold putD
      rw [if_neg]
      intro z
      obtain ⟨q, hq, e⟩ := List.any_eq_true.mp z
      have e := of_decide_eq_true e
      rw [List.map_cons] at h
      exact (List.nodup_append.mp h).2.2 q.1 (List.mem_map_of_mem hq) (k x) List.mem_cons_self e
    rw [hp, fold_put_nd]
    · simp
    · simpa using h
/-! stores -/
theorem sto_at {S L : Sto} {k : Nat} : (S ++ L)[S.length + k]? = L[k]? := by
  rw [List.getElem?_append_right (by omega)]
  congr 1
  omega
theorem sto_at0 {S L : Sto} : (S ++ L)[S.length]? = L[0]? := sto_at (k := 0)
theorem sto_set {S L : Sto} {k : Nat} {o : Ob} : (S ++ L).set (S.length + k) o = S ++ L.set k o := by
  rw [List.set_append_right _ _ (by omega)]
  congr 1
  congr 1
  omega
theorem sto_set0 {S L : Sto} {o : Ob} : (S ++ L).set S.length o = S ++ L.set 0 o := sto_set (k := 0)
/-! what is returned -/
theorem e_rt {S : Sto} {d : D} {S' : Sto} {Q : D → Sto → Prop} : rtQ true S d S' Q = oQ (sbD (frz S' S.length 6) d) fun d' => oQ (frzR S S') fun S'' => Q d' S'' := rfl
theorem e_rtF {S : Sto} {d : D} {S' : Sto} {Q : D → Sto → Prop} : rtQ false S d S' Q = Q d S' := rfl
open Classical in
theorem frzC_app {k : Nat → Option D} {L : Sto} : ∀ {S : Sto}, frzC k S (S ++ L) = some S
  | [] => rfl
  | o :: S => by
    show (match (if o = o then some o else sbO k o) with
    | some u => (frzC k S (S ++ L)).map fun r => u :: r
    | none => none) = _
    rw [if_pos rfl, frzC_app]
    rfl
theorem e_frzR {S L : Sto} : frzR S (S ++ L) = some S := frzC_app
theorem e_frzR0 {S : Sto} : frzR S S = some S := by
  have := e_frzR (S := S) (L := [])
  rwa [List.append_nil] at this
theorem e_xq {S : Sto} {C : Addr} {S' : Sto} {Q : Xn → Sto → Prop} : xQ true S ⟨C, none⟩ S' Q = oQ (frzR S S') fun S'' => Q ⟨C, none⟩ S'' := rfl
theorem frz_l {S L : Sto} {f k : Nat} {ds : List D} (h : L[k]? = some (.lst ds)) : frz (S ++ L) S.length (f + 1) (S.length + k) = (sbL (frz (S ++ L) S.length f) ds).map .lst := by
  unfold frz
  rw [if_neg (by omega), sto_at, h]
theorem frz_d {S L : Sto} {f k : Nat} {ds : List (Key × D)} (h : L[k]? = some (.dct ds)) : frz (S ++ L) S.length (f + 1) (S.length + k) = (sbK (frz (S ++ L) S.length f) ds).map .dct := by
  unfold frz
  rw [if_neg (by omega), sto_at, h]
/-- without anything living -/
def noLoc (d : D) : Prop := ∀ k, sbD k d = some d
theorem e_sb_int {k : Nat → Option D} {i : Int} : sbD k (.int i) = some (.int i) := rfl
theorem e_sb_bl {k : Nat → Option D} {i : Bool} : sbD k (.bl i) = some (.bl i) := rfl
theorem e_sb_str {k : Nat → Option D} {i : Str} : sbD k (.str i) = some (.str i) := rfl
theorem e_sb_non {k : Nat → Option D} : sbD k .non = some .non := rfl
theorem e_sb_scr {k : Nat → Option D} {ns : List Int} : sbD k (.scr ns) = some (.scr ns) := rfl
theorem e_sb_loc {k : Nat → Option D} {l : Nat} : sbD k (.loc l) = k l := rfl
theorem e_sb_tup {k : Nat → Option D} {ds : List D} : sbD k (.tup ds) = (sbL k ds).map .tup := rfl
theorem e_sb_ktp {k : Nat → Option D} {ds : List D} : sbD k (.ktp ds) = (sbL k ds).map .ktp := rfl
theorem e_sb_lst {k : Nat → Option D} {ds : List D} : sbD k (.lst ds) = (sbL k ds).map .lst := rfl
theorem e_sb_dct {k : Nat → Option D} {ds : List (Key × D)} : sbD k (.dct ds) = (sbK k ds).map .dct := rfl
theorem e_sb_dcT {k : Nat → Option D} {ds : List (List Key × D)} : sbD k (.dcT ds) = (sbT k ds).map .dcT := rfl
theorem e_sbL_nil {k : Nat → Option D} : sbL k [] = some [] := rfl
theorem e_sbK_nil {k : Nat → Option D} : sbK k [] = some [] := rfl
theorem e_sbL_cons {k : Nat → Option D} {d : D} {ds : List D} : sbL k (d :: ds) = (match sbD k d with
      | some d' => (sbL k ds).map fun r => d' :: r
      | none => none) := rfl
theorem noL_map {α : Type} {f : α → D} (h : ∀ x, noLoc (f x)) (k : Nat → Option D) : ∀ xs : List α, sbL k (xs.map f) = some (xs.map f)
  | [] => rfl
  | x :: xs => by
    rw [List.map_cons, e_sbL_cons, h x k, noL_map h k xs]
    rfl
theorem sbL_app {k : Nat → Option D} {a b a' b' : List D} (h1 : sbL k a = some a') (h2 : sbL k b = some b') : sbL k (a ++ b) = some (a' ++ b') := by
  induction a generalizing a' with
  | nil => cases h1; exact h2
  | cons d ds ih =>
    rw [e_sbL_cons] at h1
    rw [List.cons_append, e_sbL_cons]
    cases e1 : sbD k d with
    | none => rw [e1] at h1; cases h1
    | some d' =>
      rw [e1] at h1
      obtain ⟨r, e2, rfl⟩ := Option.map_eq_some_iff.mp h1
      dsimp only
      rw [ih e2]
      rfl
theorem noL_mapK {α : Type} {a : α → Key} {f : α → D} (h : ∀ x, noLoc (f x)) (k : Nat → Option D) : ∀ xs : List α, sbK k (xs.map fun x => (a x, f x)) = some (xs.map fun x => (a x, f x))
  | [] => rfl
  | x :: xs => by
    show (match sbP k (a x, f x) with
      | some d' => (sbK k (xs.map fun x => (a x, f x))).map fun r => d' :: r
      | none => none) = _
    have e : sbP k (a x, f x) = some (a x, f x) := by
      show (sbD k (f x)).map (fun d' => (a x, d')) = _
      rw [h x k]
      rfl
    rw [e, noL_mapK h k xs]
    rfl
theorem e_sbL_ints {k : Nat → Option D} {xs : List Int} : sbL k (xs.map D.int) = some (xs.map D.int) := noL_map (fun _ _ => rfl) k xs
theorem e_sbL_strs {k : Nat → Option D} {xs : List Str} : sbL k (xs.map D.str) = some (xs.map D.str) := noL_map (fun _ _ => rfl) k xs
theorem e_sbL_bls {k : Nat → Option D} {xs : List Bool} : sbL k (xs.map D.bl) = some (xs.map D.bl) := noL_map (fun _ _ => rfl) k xs
theorem noL_int {i : Int} : noLoc (.int i) := fun _ => rfl
theorem noL_bl {i : Bool} : noLoc (.bl i) := fun _ => rfl
theorem noL_str {i : Str} : noLoc (.str i) := fun _ => rfl
theorem noL_non : noLoc .non := fun _ => rfl
theorem noL_tup {ds : List D} (h : ∀ k, sbL k ds = some ds) : noLoc (.tup ds) := fun k => by
  rw [e_sb_tup, h k]
  rfl
theorem noL_lst {ds : List D} (h : ∀ k, sbL k ds = some ds) : noLoc (.lst ds) := fun k => by
  rw [e_sb_lst, h k]
  rfl
theorem noL_dct {ds : List (Key × D)} (h : ∀ k, sbK k ds = some ds) : noLoc (.dct ds) := fun k => by
  rw [e_sb_dct, h k]
  rfl
theorem noL_nil (k : Nat → Option D) : sbL k [] = some [] := rfl
theorem noL_cons {d : D} {ds : List D} (h : noLoc d) (t : ∀ k, sbL k ds = some ds) (k : Nat → Option D) : sbL k (d :: ds) = some (d :: ds) := by
  rw [e_sbL_cons, h k, t k]
  rfl
/-- a new list -/
theorem e_frz_l0 {S L : Sto} {ds : List D} : frz (S ++ .lst ds :: L) S.length 6 S.length = (sbL (frz (S ++ .lst ds :: L) S.length 5) ds).map .lst := frz_l (k := 0) rfl
theorem e_frz_d0 {S L : Sto} {ds : List (Key × D)} : frz (S ++ .dct ds :: L) S.length 6 S.length = (sbK (frz (S ++ .dct ds :: L) S.length 5) ds).map .dct := frz_d (k := 0) rfl
theorem e_frz_l1 {S L : Sto} {o : Ob} {ds : List D} : frz (S ++ o :: .lst ds :: L) S.length 6 (S.length + 1) = (sbL (frz (S ++ o :: .lst ds :: L) S.length 5) ds).map .lst := frz_l (k := 1) rfl
theorem e_frz_d1 {S L : Sto} {o : Ob} {ds : List (Key × D)} : frz (S ++ o :: .dct ds :: L) S.length 6 (S.length + 1) = (sbK (frz (S ++ o :: .dct ds :: L) S.length 5) ds).map .dct := frz_d (k := 1) rfl
theorem e_frz_l2 {S L : Sto} {o p : Ob} {ds : List D} : frz (S ++ o :: p :: .lst ds :: L) S.length 6 (S.length + 2) = (sbL (frz (S ++ o :: p :: .lst ds :: L) S.length 5) ds).map .lst := frz_l (k := 2) rfl
/-- one statement after another -/
theorem seq_abs {t u : DS} {Dd : DEnds} {Ed : DX} {ρ : Rh} {S : Sto} (h : ∀ N : Rh → Sto → Prop, (∀ ρ' S', u Dd Ed ρ' S' → N ρ' S') → t { Dd with nx := N } Ed ρ S) : wSeq t u Dd Ed ρ S := h _ fun _ _ z => z
theorem while_abs {c : DE Bool} {tb : DS} {Dd : DEnds} {Ed : DX} {ρ : Rh} {S : Sto} (V : Nat → Rh → Sto → Prop) (h0 : ∃ m, V m ρ S)
    (step : ∀ m ρ S, V m ρ S → ∀ N : Rh → Sto → Prop, (∀ m' ρ' S', m' < m → V m' ρ' S' → N ρ' S') → c ρ S (fun b S1 => if b = true then tb ⟨N, Dd.rt, Dd.nx, N⟩ Ed ρ S1 else Dd.nx ρ S1) Ed) : wWhile c tb Dd Ed ρ S := by
  have key : ∀ n m ρ S, m < n → V m ρ S → whN c tb Dd Ed n ρ S := by
    intro n
    induction n with
    | zero => intro m ρ S h; exact absurd h (Nat.not_lt_zero _)
    | succ n ih => intro m ρ S h v; exact step m ρ S v _ fun m' ρ' S' h' v' => ih m' ρ' S' (by omega) v'
  obtain ⟨m, v⟩ := h0
  exact ⟨m + 1, key (m + 1) m ρ S (Nat.lt_succ_self m) v⟩
/-! small steps -/
theorem e_asS_tup {S : Sto} {ds : List D} : asS S (.tup ds) = some ds := rfl
theorem e_asS_ktp {S : Sto} {ds : List D} : asS S (.ktp ds) = some ds := rfl
theorem e_asS_lst {S : Sto} {ds : List D} : asS S (.lst ds) = some ds := rfl
theorem e_asS_scr {S : Sto} {ds : List Int} : asS S (.scr ds) = some (ds.map D.int) := rfl
theorem e_asS_int {S : Sto} {i : Int} : asS S (.int i) = none := rfl
theorem e_asS_non {S : Sto} : asS S .non = none := rfl
theorem e_asS_bl {S : Sto} {b : Bool} : asS S (.bl b) = none := rfl
theorem e_asS_str {S : Sto} {i : Str} : asS S (.str i) = none := rfl
theorem e_asS_dct {S : Sto} {i : List (Key × D)} : asS S (.dct i) = none := rfl
theorem e_asD_dct {S : Sto} {i : List (Key × D)} : asD S (.dct i) = some i := rfl
theorem e_asD_int {S : Sto} {i : Int} : asD S (.int i) = none := rfl
theorem e_asD_str {S : Sto} {i : Str} : asD S (.str i) = none := rfl
theorem e_asD_lst {S : Sto} {i : List D} : asD S (.lst i) = none := rfl
theorem e_asD_tup {S : Sto} {i : List D} : asD S (.tup i) = none := rfl
theorem e_asDT_str {S : Sto} {i : Str} : asDT S (.str i) = none := rfl
theorem e_asL_lst {S : Sto} {ds : List D} : asL S (.lst ds) = some ds := rfl
theorem e_asL_tup {S : Sto} {ds : List D} : asL S (.tup ds) = none := rfl
theorem e_asL_ktp {S : Sto} {ds : List D} : asL S (.ktp ds) = none := rfl
theorem e_asL_dct {S : Sto} {ds : List (Key × D)} : asL S (.dct ds) = none := rfl
theorem e_asL_int {S : Sto} {i : Int} : asL S (.int i) = none := rfl
theorem e_asL_bl {S : Sto} {i : Bool} : asL S (.bl i) = none := rfl
theorem e_asL_str {S : Sto} {i : Str} : asL S (.str i) = none := rfl
theorem e_asL_non {S : Sto} : asL S .non = none := rfl
theorem e_asL_loc {S : Sto} {l : Nat} : asL S (.loc l) = obL S[l]? := rfl
theorem e_asS_loc {S : Sto} {l : Nat} : asS S (.loc l) = obL S[l]? := rfl
theorem e_asD_loc {S : Sto} {l : Nat} : asD S (.loc l) = obD S[l]? := rfl
theorem e_obL_s {ds : List D} : obL (some (.lst ds)) = some ds := rfl
theorem e_obL_d {ds : List (Key × D)} : obL (some (.dct ds)) = none := rfl
theorem e_obD_s {ds : List (Key × D)} : obD (some (.dct ds)) = some ds := rfl
theorem e_obD_l {ds : List D} : obD (some (.lst ds)) = none := rfl
theorem e_asK_str {x : Str} : asK (.str x) = some (.inr x) := rfl
theorem e_asK_int {x : Int} : asK (.int x) = some (.inl x) := rfl
theorem e_asI_int {x : Int} : asI (.int x) = some x := rfl
theorem e_asTK_tup {x : List D} : asTK (.tup x) = some x := rfl
theorem e_asTK_ktp {x : List D} : asTK (.ktp x) = some x := rfl
theorem e_asLoc_loc {x : Nat} : asLoc (.loc x) = some x := rfl
theorem e_lstOf_lst {S : Sto} {ds : List D} : lstOf S (.lst ds) = some ⟨ds, noG⟩ := rfl
theorem e_lstOf_tup {S : Sto} {ds : List D} : lstOf S (.tup ds) = none := rfl
theorem e_itOf_tup {S : Sto} {ds : List D} : itOf S (.tup ds) = some ⟨ds, noG⟩ := rfl
theorem e_itOf_ktp {S : Sto} {ds : List D} : itOf S (.ktp ds) = some ⟨ds, noG⟩ := rfl
theorem e_itOf_lst {S : Sto} {ds : List D} : itOf S (.lst ds) = some ⟨ds, noG⟩ := rfl
theorem e_itOf_scr {S : Sto} {ds : List Int} : itOf S (.scr ds) = some ⟨ds.map D.int, noG⟩ := rfl
theorem e_itOf_str {S : Sto} {x : Str} : itOf S (.str x) = some ⟨x.cps.toList.map fun c => D.str ⟨#[c]⟩, noG⟩ := rfl
theorem e_alL_f {S : Sto} {ds : List D} {Q : D → Sto → Prop} : alL false ds S Q = Q (.lst ds) S := rfl
theorem e_alL_t {S : Sto} {ds : List D} {Q : D → Sto → Prop} : alL true ds S Q = Q (.loc S.length) (S ++ [.lst ds]) := rfl
theorem e_alD_f {S : Sto} {ds : List (Key × D)} {Q : D → Sto → Prop} : alD false ds S Q = Q (.dct ds) S := rfl
theorem e_alD_t {S : Sto} {ds : List (Key × D)} {Q : D → Sto → Prop} : alD true ds S Q = Q (.loc S.length) (S ++ [.dct ds]) := rfl
theorem e_kn_bool : ("bool" ∈ kinds) = True := by decide
theorem e_kn_int : ("int" ∈ kinds) = True := by decide
theorem e_kn_str : ("str" ∈ kinds) = True := by decide
theorem e_kn_tuple : ("tuple" ∈ kinds) = True := by decide
theorem e_kn_list : ("list" ∈ kinds) = True := by decide
theorem e_kn_dict : ("dict" ∈ kinds) = True := by decide
theorem e_su_ib : isSub "int" "bool" = false := by decide
theorem e_su_ii : isSub "int" "int" = true := by decide
theorem e_su_ss : isSub "str" "str" = true := by decide
theorem e_su_tt : isSub "tuple" "tuple" = true := by decide
theorem e_sz0 : (0 ≤ sizeLine) = True := by rw [sizeLine_eq]; decide
theorem e_sz1 : (1 ≤ sizeLine) = True := by rw [sizeLine_eq]; decide
theorem e_sz2 : (2 ≤ sizeLine) = True := by rw [sizeLine_eq]; decide
theorem e_sz3 : (3 ≤ sizeLine) = True := by rw [sizeLine_eq]; decide
theorem e_sz4 : (4 ≤ sizeLine) = True := by rw [sizeLine_eq]; decide
theorem e_sz5 : (5 ≤ sizeLine) = True := by rw [sizeLine_eq]; decide
theorem e_sz6 : (6 ≤ sizeLine) = True := by rw [sizeLine_eq]; decide
theorem e_sz7 : (7 ≤ sizeLine) = True := by rw [sizeLine_eq]; decide
theorem e_sz8 : (8 ≤ sizeLine) = True := by rw [sizeLine_eq]; decide
theorem e_sz9 : (9 ≤ sizeLine) = True := by rw [sizeLine_eq]; decide
theorem e_sz10 : (10 ≤ sizeLine) = True := by rw [sizeLine_eq]; decide
theorem e_sz11 : (11 ≤ sizeLine) = True := by rw [sizeLine_eq]; decide
theorem e_sz12 : (12 ≤ sizeLine) = True := by rw [sizeLine_eq]; decide
theorem e_app {ds : List D} {y : D} {k : List D × D → Prop} : oQ (mApp ds [y]) k = (ds.length < sizeLine ∧ k (ds ++ [y], .non)) := by
  unfold mApp
  by_cases h : ds.length < sizeLine
  · simp only [h, if_true, oQ_s, true_and]
  · simp only [h, if_false, oQ_n, false_and]
theorem e_iteT {α : Sort u} {a b : α} : (if True then a else b) = a := if_pos trivial
theorem e_iteF {α : Sort u} {a b : α} : (if False then a else b) = b := if_neg not_false
theorem e_new_len {S : Sto} {o : Ob} : (S ++ [o]).length = S.length + 1 := by rw [List.length_append]; rfl
theorem e_new_len2 {S : Sto} {o p : Ob} : (S ++ [o, p]).length = S.length + 2 := by rw [List.length_append]; rfl
theorem e_new_two {S : Sto} {o o' : Ob} : S ++ [o] ++ [o'] = S ++ [o, o'] := by rw [List.append_assoc]; rfl
theorem e_new_three {S : Sto} {o o' o'' : Ob} : S ++ [o, o'] ++ [o''] = S ++ [o, o', o''] := by rw [List.append_assoc]; rfl
theorem e_len_map {α : Type} {f : α → D} {xs : List α} : (xs.map f).length = xs.length := List.length_map ..
theorem e_asBls {α : Type} {f : α → Bool} {xs : List α} : asBls (xs.map fun x => D.bl (f x)) = some (xs.map f) := by
  have := asBls_map (xs.map f)
  rw [List.map_map] at this
  exact this
theorem e_asStrs {α : Type} {f : α → Str} {xs : List α} : asStrs (xs.map fun x => D.str (f x)) = some (xs.map f) := by
  have := asStrs_map (xs.map f)
  rw [List.map_map] at this
  exact this
theorem e_asInts {α : Type} {f : α → Int} {xs : List α} : asInts (xs.map fun x => D.int (f x)) = some (xs.map f) := by
  have := asInts_map (xs.map f)
  rw [List.map_map] at this
  exact this
theorem e_asStrs0 {xs : List Str} : asStrs (xs.map D.str) = some xs := asStrs_map xs
theorem e_asInts0 {xs : List Int} : asInts (xs.map D.int) = some xs := asInts_map xs
theorem e_asBls0 {xs : List Bool} : asBls (xs.map D.bl) = some xs := asBls_map xs
theorem e_all_id {α : Type} {f : α → Bool} {xs : List α} : (xs.map f).all id = xs.all f := by
  rw [List.all_map]
  rfl
theorem e_any_id {α : Type} {f : α → Bool} {xs : List α} : (xs.map f).any id = xs.any f := by
  rw [List.any_map]
  rfl
/-- sums, all, any: what stands in lists, as equations -/
theorem e_sum {d : D} {S : Sto} {Q : D → Sto → Prop} : bSum [d] S Q = oQ (asL S d) fun es => oQ (asInts es) fun ns => Q (.int ns.sum) S := by
  unfold bSum
  refine propext ⟨fun ⟨es, ns, h1, h2, q⟩ => by rw [h1]; show oQ (asInts es) _; rw [h2]; exact q, fun h => ?_⟩
  obtain ⟨es, h1, h⟩ := oQ_some h
  obtain ⟨ns, h2, h⟩ := oQ_some h
  exact ⟨es, ns, h1, h2, h⟩
theorem e_all {d : D} {S : Sto} {Q : D → Sto → Prop} : bAll [d] S Q = oQ (asL S d) fun es => oQ (asBls es) fun ns => Q (.bl (ns.all id)) S := by
  unfold bAll
  refine propext ⟨fun ⟨es, ns, h1, h2, q⟩ => by rw [h1]; show oQ (asBls es) _; rw [h2]; exact q, fun h => ?_⟩
  obtain ⟨es, h1, h⟩ := oQ_some h
  obtain ⟨ns, h2, h⟩ := oQ_some h
  exact ⟨es, ns, h1, h2, h⟩
theorem e_any {d : D} {S : Sto} {Q : D → Sto → Prop} : bAny [d] S Q = oQ (asL S d) fun es => oQ (asBls es) fun ns => Q (.bl (ns.any id)) S := by
  unfold bAny
  refine propext ⟨fun ⟨es, ns, h1, h2, q⟩ => by rw [h1]; show oQ (asBls es) _; rw [h2]; exact q, fun h => ?_⟩
  obtain ⟨es, h1, h⟩ := oQ_some h
  obtain ⟨ns, h2, h⟩ := oQ_some h
  exact ⟨es, ns, h1, h2, h⟩
theorem e_max1l {ds : List D} {S : Sto} {Q : D → Sto → Prop} : bMax [.lst ds] S Q = oQ (asInts ds) fun ns => ns ≠ [] ∧ Q (.int (maxI ns)) S := by
  unfold bMax
  refine propext ⟨fun ⟨es, ns, h1, h2, h3, q⟩ => by cases h1; rw [h2]; exact ⟨h3, q⟩, fun h => ?_⟩
  obtain ⟨ns, h2, h3, h⟩ := oQ_some h
  exact ⟨ds, ns, rfl, h2, h3, h⟩
theorem e_min1l {ds : List D} {S : Sto} {Q : D → Sto → Prop} : bMin [.lst ds] S Q = oQ (asInts ds) fun ns => ns ≠ [] ∧ Q (.int (minI ns)) S := by
  unfold bMin
  refine propext ⟨fun ⟨es, ns, h1, h2, h3, q⟩ => by cases h1; rw [h2]; exact ⟨h3, q⟩, fun h => ?_⟩
  obtain ⟨ns, h2, h3, h⟩ := oQ_some h
  exact ⟨ds, ns, rfl, h2, h3, h⟩
theorem e_max2 {i j : Int} {S : Sto} {Q : D → Sto → Prop} : bMax [.int i, .int j] S Q = Q (.int (if j > i then j else i)) S := rfl
theorem e_min2 {i j : Int} {S : Sto} {Q : D → Sto → Prop} : bMin [.int i, .int j] S Q = Q (.int (if j < i then j else i)) S := rfl
theorem ixN_nat {n k : Nat} (h : k < n) : ixN n (k : Int) = some k := by
  unfold ixN
  rw [if_pos (by omega), if_pos (by omega)]
  simp
theorem e_ixN0 {n : Nat} : ixN (n + 1) 0 = some 0 := ixN_nat (k := 0) (by omega)
def bvO (o : Option Ob) (l : Nat) : D := match obL o with
  | some ds => .lst ds
  | none => .loc l
theorem e_bv_loc {S : Sto} {l : Nat} : bv S (.loc l) = bvO S[l]? l := by
  unfold bv bvO
  rw [e_asL_loc]
  try (cases obL S[l]? <;> rfl)
theorem e_bvO_l {ds : List D} {l : Nat} : bvO (some (.lst ds)) l = .lst ds := rfl
theorem e_bvO_d {ds : List (Key × D)} {l : Nat} : bvO (some (.dct ds)) l = .loc l := rfl
theorem e_eq_nn : eqD (.lst []) (.lst []) = true := by rw [eqD_lst, eqL_nil]
theorem e_eq_cn {d : D} {ds : List D} : eqD (.lst (d :: ds)) (.lst []) = false := by rw [eqD_lst, eqL_cn]
theorem e_ok_intsL {xs : List Int} : (okD (.lst (xs.map D.int)) = true) = True := eq_true ok_ints
theorem e_onB {b : Bool} {t f : Prop} : onB (.bl b) t f = if b = true then t else f := rfl
theorem e_oQ_map {α β : Type} {f : α → β} {o : Option α} {k : β → Prop} : oQ (o.map f) k = oQ o fun x => k (f x) := by cases o <;> rfl
/-! texts in lists -/
theorem contains_inL {x : Str} : ∀ {xs : List Str}, inL (.str x) (xs.map D.str) = xs.contains x
  | [] => rfl
  | y :: ys => by
    unfold inL
    rw [List.map_cons, List.any_cons, eqD_str, List.contains_cons]
    have := contains_inL (x := x) (xs := ys)
    unfold inL at this
    rw [this]
    by_cases e : y = x
    · subst e; simp
    · have e' : ¬ x = y := fun z => e z.symm
      simp [e, e']
theorem flat_strs {xs : List Str} : (xs.map D.str).all flatD = true := by
  induction xs with
  | nil => rfl
  | cons x xs ih => rw [List.map_cons, List.all_cons, ih]; rfl
theorem e_inT {x : Str} {xs : List Str} {S : Sto} {Q : D → Sto → Prop} : dIn false (.str x) (.tup (xs.map D.str)) S Q = Q (.bl (xs.contains x)) S := by
  show (flatD (.str x) = true ∧ (xs.map D.str).all flatD = true ∧ Q (.bl (inL (.str x) (xs.map D.str))) S) = _
  rw [flat_strs, contains_inL]
  exact propext ⟨fun z => z.2.2, fun z => ⟨rfl, rfl, z⟩⟩
theorem e_inK {x : Str} {xs : List Str} {S : Sto} {Q : D → Sto → Prop} : dIn false (.str x) (.ktp (xs.map D.str)) S Q = Q (.bl (xs.contains x)) S := e_inT
theorem e_inL {x : Str} {xs : List Str} {S : Sto} {Q : D → Sto → Prop} : dIn false (.str x) (.lst (xs.map D.str)) S Q = Q (.bl (xs.contains x)) S := e_inT
theorem e_ninT {x : Str} {xs : List Str} {S : Sto} {Q : D → Sto → Prop} : dIn true (.str x) (.tup (xs.map D.str)) S Q = Q (.bl (!xs.contains x)) S := by
  show (flatD (.str x) = true ∧ (xs.map D.str).all flatD = true ∧ Q (.bl (!inL (.str x) (xs.map D.str))) S) = _
  rw [flat_strs, contains_inL]
  exact propext ⟨fun z => z.2.2, fun z => ⟨rfl, rfl, z⟩⟩
theorem e_ninL {x : Str} {xs : List Str} {S : Sto} {Q : D → Sto → Prop} : dIn true (.str x) (.lst (xs.map D.str)) S Q = Q (.bl (!xs.contains x)) S := e_ninT
theorem e_setS {xs : List Str} {S : Sto} {b : Bool} {Q : D → Sto → Prop} : dSetS b (.lst (xs.map D.str)) S Q = ((xs.length < 4000 ∧ (setS xs).length < 64) ∧ alL b ((setS xs).map D.str) S Q) := by
  show oQ (asStrs (xs.map D.str)) _ = _
  rw [asStrs_map]
  rfl
theorem map_strs {α : Type} {f : α → Str} {xs : List α} : (xs.map fun x => D.str (f x)) = (xs.map f).map D.str := by rw [List.map_map]; rfl
theorem map_ints {α : Type} {f : α → Int} {xs : List α} : (xs.map fun x => D.int (f x)) = (xs.map f).map D.int := by rw [List.map_map]; rfl
theorem e_in1 {c : Nat} {b : Str} {S : Sto} {Q : D → Sto → Prop} : dIn false (.str ⟨#[c]⟩) (.str b) S Q = Q (.bl (decide (c ∈ b.cps.toList))) S := by
  refine propext ⟨fun ⟨d, e, q⟩ => ?_, fun z => ⟨c, rfl, z⟩⟩
  have : c = d := by
    injection e with e
    simpa using e
  rw [this]
  exact q
theorem e_chr_len {x : Str} : (x.cps.toList.map fun c => D.str ⟨#[c]⟩).length = x.length := by
  rw [List.length_map, Array.length_toList]
  rfl
theorem chr_len' {x : Str} : x.cps.toList.length = x.length := by
  rw [Array.length_toList]
  rfl
theorem eq_strs {xs ys : List Str} : eqD (.lst (xs.map D.str)) (.lst (ys.map D.str)) = decide (xs = ys) := by
  rw [eqD_lst]
  exact eqL_map fun a b => eqD_str
theorem eq_strsT {xs ys : List Str} : eqD (.tup (xs.map D.str)) (.tup (ys.map D.str)) = decide (xs = ys) := by
  rw [eqD_tup]
  exact eqL_map fun a b => eqD_str
theorem eq_ints {xs ys : List Int} : eqD (.lst (xs.map D.int)) (.lst (ys.map D.int)) = decide (xs = ys) := by
  rw [eqD_lst]
  exact eqL_map fun a b => eqD_int
theorem eq_intsT {xs ys : List Int} : eqD (.tup (xs.map D.int)) (.tup (ys.map D.int)) = decide (xs = ys) := by
  rw [eqD_tup]
  exact eqL_map fun a b => eqD_int
theorem ec_oQh {α : Type} {o : Option α} {v : α} {k : α → Prop} (h : o = some v) : oQ o k = k v := by rw [h]; rfl
theorem e_take_map {α β : Type} {f : α → β} {xs : List α} {k : Nat} : (xs.map f).take k = (xs.take k).map f := List.map_take.symm
theorem e_drop_map {α β : Type} {f : α → β} {xs : List α} {k : Nat} : (xs.map f).drop k = (xs.drop k).map f := List.map_drop.symm
theorem e_rev_map {α β : Type} {f : α → β} {xs : List α} : (xs.map f).reverse = xs.reverse.map f := List.map_reverse.symm
theorem e_app_map {α β : Type} {f : α → β} {xs ys : List α} : xs.map f ++ ys.map f = (xs ++ ys).map f := List.map_append.symm
theorem e_eqTT {as bs : List D} : eqD (.tup as) (.tup bs) = eqL as bs := eqD_tup
theorem e_eqLL {as bs : List D} : eqD (.lst as) (.lst bs) = eqL as bs := eqD_lst
theorem e_eqL_nil : eqL [] [] = true := eqL_nil
theorem e_eqL_cons {a b : D} {as bs : List D} : eqL (a :: as) (b :: bs) = (eqD a b && eqL as bs) := eqL_cons
theorem e_eqL_nc {b : D} {bs : List D} : eqL [] (b :: bs) = false := eqL_nc
theorem e_eqL_cn {b : D} {bs : List D} : eqL (b :: bs) [] = false := eqL_cn
theorem e_eqL_strs {xs ys : List Str} : eqL (xs.map D.str) (ys.map D.str) = decide (xs = ys) := eqL_map fun a b => eqD_str
theorem e_eqL_ints {xs ys : List Int} : eqL (xs.map D.int) (ys.map D.int) = decide (xs = ys) := eqL_map fun a b => eqD_int
theorem e_eqL_m0 {α : Type} {f : α → D} {xs : List α} : eqL (xs.map f) [] = decide (xs = []) := by
  cases xs with
  | nil => simp [eqL_nil]
  | cons x xs => simp [eqL_cn]
theorem e_eqL0 {α : Type} {f : α → D} {xs : List α} : eqD (.lst (xs.map f)) (.lst []) = decide (xs = []) := by
  rw [eqD_lst]
  cases xs with
  | nil => simp [eqL_nil]
  | cons x xs => simp [eqL_cn]
theorem e_eqT0 {α : Type} {f : α → D} {xs : List α} : eqD (.tup (xs.map f)) (.tup []) = decide (xs = []) := by
  rw [eqD_tup]
  cases xs with
  | nil => simp [eqL_nil]
  | cons x xs => simp [eqL_cn]
theorem mul_r {i j : Int} (h1 : -(2 ^ 64) < j) (h2 : j < 2 ^ 64) : mulOk i j := .inl (.inr ⟨h1, h2⟩)
theorem mul_l {i j : Int} (h1 : -(2 ^ 64) < i) (h2 : i < 2 ^ 64) : mulOk i j := .inl (.inl ⟨h1, h2⟩)
theorem cut_to {α : Type} {xs : List α} {k : Nat} : cutD xs none (some (k : Int)) = xs.take k := by
  unfold cutD
  rw [HT.sIx_none, HT.sIx_nat, List.drop_zero, Nat.sub_zero]
  by_cases h : k ≤ xs.length
  · rw [Nat.min_eq_left h]
  · rw [Nat.min_eq_right (by omega), List.take_of_length_le (Nat.le_refl _), List.take_of_length_le (by omega)]
theorem cut_from {α : Type} {xs : List α} {k : Nat} : cutD xs (some (k : Int)) none = xs.drop k := by
  unfold cutD
  rw [HT.sIx_none, HT.sIx_nat]
  by_cases h : k ≤ xs.length
  · rw [Nat.min_eq_left h, List.take_of_length_le (by rw [List.length_drop]; exact Nat.le_refl _)]
  · rw [Nat.min_eq_right (by omega), List.drop_of_length_le (Nat.le_refl _), List.drop_of_length_le (by omega), List.take_nil]


/-! the readings, applied -/
section
variable {S : Sto} {ρ : Rh} {Dd : DEnds} {Ed : DX} {Q : D → Sto → Prop} {Ex : DX} {QB : Bool → Sto → Prop} {QL : List D → Sto → Prop} {QI : Itd → Sto → Prop} {a b c : DE D} {p q : DE Bool} {as ks : DE (List D)} {t u : DS} {i j : Nat} {d : D}
theorem e_wSkip {n k c : Rh → Sto → Prop} {r : D → Sto → Prop} : wSkip ⟨n, r, k, c⟩ Ed ρ S = n ρ S := rfl
theorem e_wSeq {n k c : Rh → Sto → Prop} {r : D → Sto → Prop} : wSeq t u ⟨n, r, k, c⟩ Ed ρ S = t ⟨fun ρ' S' => u ⟨n, r, k, c⟩ Ed ρ' S', r, k, c⟩ Ed ρ S := rfl
theorem e_wDrop {n k c : Rh → Sto → Prop} {r : D → Sto → Prop} : wDrop a ⟨n, r, k, c⟩ Ed ρ S = a ρ S (fun _ S1 => n ρ S1) Ed := rfl
theorem e_wRet {n k c : Rh → Sto → Prop} {r : D → Sto → Prop} : wRet a ⟨n, r, k, c⟩ Ed ρ S = a ρ S (fun x S1 => r x S1) Ed := rfl
theorem e_wRetN {n k c : Rh → Sto → Prop} {r : D → Sto → Prop} : wRetN ⟨n, r, k, c⟩ Ed ρ S = r .non S := rfl
theorem e_wBrk {n k c : Rh → Sto → Prop} {r : D → Sto → Prop} : wBrk ⟨n, r, k, c⟩ Ed ρ S = k ρ S := rfl
theorem e_wCnt {n k c : Rh → Sto → Prop} {r : D → Sto → Prop} : wCnt ⟨n, r, k, c⟩ Ed ρ S = c ρ S := rfl
theorem e_wIfS : wIfS p t u Dd Ed ρ S = p ρ S (fun b S1 => if b = true then t Dd Ed ρ S1 else u Dd Ed ρ S1) Ed := rfl
theorem e_wSet {n k c : Rh → Sto → Prop} {r : D → Sto → Prop} : wSet i a ⟨n, r, k, c⟩ Ed ρ S = a ρ S (fun x S1 => n (ρ.set i (some x)) S1) Ed := rfl
theorem e_wTup {g : Tg} {n k c : Rh → Sto → Prop} {r : D → Sto → Prop} : wTup g a ⟨n, r, k, c⟩ Ed ρ S = a ρ S (fun x S1 => tgSet g x ρ fun ρ' => n ρ' S1) Ed := rfl
theorem e_tg_nm {P : Rh → Prop} : tgSet (.nm i) d ρ P = P (ρ.set i (some d)) := rfl
theorem e_tg_tp {P : Rh → Prop} {is : List Nat} : tgSet (.tp is) d ρ P = oQ (asTK d) fun ds => oQ (setAll ρ is ds) P := rfl
theorem e_setAll_n : setAll ρ [] [] = some ρ := rfl
theorem e_setAll_c {is : List Nat} {ds : List D} : setAll ρ (i :: is) (d :: ds) = setAll (ρ.set i (some d)) is ds := rfl
def vQ (o : Option (Option D)) (S : Sto) (Q : D → Sto → Prop) [Fz Q] : Prop := match o with
  | some (some d) => Q d S
  | _ => False
theorem e_vQ : vQ (some (some d)) S Q = Q d S := rfl
theorem e_wVar : wVar i ρ S Q Ex = vQ ρ[i]? S Q := by
  unfold wVar vQ
  rfl
theorem e_wC : wC d ρ S Q Ex = Q d S := rfl
theorem e_wNil : wNil ρ S QL Ex = QL [] S := rfl
theorem e_wCons : wCons a as ρ S QL Ex = a ρ S (fun x S1 => as ρ S1 (fun xs S2 => QL (x :: xs) S2) Ex) Ex := rfl
theorem e_wB1 {f : D → Pr} : wB1 f a ρ S Q Ex = a ρ S (fun x S1 => f x S1 Q) Ex := rfl
theorem e_wB2 {f : D → D → Pr} : wB2 f a b ρ S Q Ex = a ρ S (fun x S1 => b ρ S1 (fun y S2 => f x y S2 Q) Ex) Ex := rfl
theorem e_wAnd : wAnd p q ρ S QB Ex = p ρ S (fun c S1 => if c = true then q ρ S1 QB Ex else QB false S1) Ex := rfl
theorem e_wOr : wOr p q ρ S QB Ex = p ρ S (fun c S1 => if c = true then QB true S1 else q ρ S1 QB Ex) Ex := rfl
theorem e_wNot : wNot p ρ S QB Ex = p ρ S (fun c S1 => QB (!c) S1) Ex := rfl
theorem e_wIf {α : Type} {x y : DE α} {P : α → Sto → Prop} : wIf p x y ρ S P Ex = p ρ S (fun c S1 => if c = true then x ρ S1 P Ex else y ρ S1 P Ex) Ex := rfl
theorem e_wB : wB p ρ S Q Ex = p ρ S (fun c S1 => Q (.bl c) S1) Ex := rfl
theorem e_wChain {f g : D → D → Pr} : wChain f g a b c ρ S Q Ex = a ρ S (fun x S1 => b ρ S1 (fun y S2 => f x y S2 fun z S3 => onB z (c ρ S3 (fun u S4 => g y u S4 Q) Ex) (Q (.bl false) S3)) Ex) Ex := rfl
theorem e_wAndV : wAndV a b ρ S Q Ex = wT a ρ S (fun c S1 => if c = true then b ρ S1 Q Ex else Q (.bl false) S1) Ex := rfl
theorem e_wOrV : wOrV a b ρ S Q Ex = wT a ρ S (fun c S1 => if c = true then Q (.bl true) S1 else b ρ S1 Q Ex) Ex := rfl
theorem e_wNotV : wNotV a ρ S Q Ex = wT a ρ S (fun c S1 => Q (.bl (!c)) S1) Ex := rfl
theorem e_wP {g : Pn} : wP g as ρ S Q Ex = as ρ S (fun xs S1 => g xs S1 Q) Ex := rfl
def getQ (x k z : D) (S : Sto) (Q : D → Sto → Prop) [Fz Q] : Prop := match asD S x with
  | some kvs => oQ (asK k) fun k => Q ((valD kvs k).getD z) S
  | none => match asDT S x with
    | some kvs => oQ (asKT k) fun k => Q ((valD kvs k).getD z) S
    | none => False
theorem e_wGet2 : wGet2 a b c ρ S Q Ex = a ρ S (fun x S1 => ((asD S1 x).isSome = true ∨ (asDT S1 x).isSome = true) ∧ b ρ S1 (fun k S2 => c ρ S2 (fun z S3 => getQ x k z S3 Q) Ex) Ex) Ex := by
  unfold wGet2 getQ
  rfl
theorem e_getQ_d {kvs : List (Key × D)} {k z : D} : getQ (.dct kvs) k z S Q = oQ (asK k) fun k => Q ((valD kvs k).getD z) S := rfl
def getO (o : Option Ob) (k z : D) (S : Sto) (Q : D → Sto → Prop) [Fz Q] : Prop := match o with
  | some (.dct kvs) => oQ (asK k) fun k => Q ((valD kvs k).getD z) S
  | some (.dcT kvs) => oQ (asKT k) fun k => Q ((valD kvs k).getD z) S
  | _ => False
theorem e_getQ_l {l : Nat} {k z : D} : getQ (.loc l) k z S Q = getO S[l]? k z S Q := by
  unfold getO
  show (match obD S[l]? with
  | some kvs => oQ (asK k) fun k => Q ((valD kvs k).getD z) S
  | none => match obDT S[l]? with
    | some kvs => oQ (asKT k) fun k => Q ((valD kvs k).getD z) S
    | none => False) = _
  cases S[l]? with
  | none => rfl
  | some o => cases o <;> rfl
theorem e_getO_d {kvs : List (Key × D)} {k z : D} : getO (some (.dct kvs)) k z S Q = oQ (asK k) fun k => Q ((valD kvs k).getD z) S := rfl
theorem e_getO_t {kvs : List (List Key × D)} {k z : D} : getO (some (.dcT kvs)) k z S Q = oQ (asKT k) fun k => Q ((valD kvs k).getD z) S := rfl
theorem e_wSl {bb : Bool} {lo hi : Option (DE D)} : wSl bb a lo hi ρ S Q Ex = a ρ S (fun x S1 => wOpt lo ρ S1 (fun l S2 => wOpt hi ρ S2 (fun h S3 => dSl bb x l h S3 Q) Ex) Ex) Ex := rfl
theorem e_wM {f : Mf} : wM f a as ρ S Q Ex = a ρ S (fun x S1 => oQ (asLoc x) fun l => (obL S1[l]?).isSome = true ∧ as ρ S1 (fun ys S2 => oQ (obL S2[l]?) fun ds => oQ (f ds ys) fun p => Q p.2 (S2.set l (.lst p.1))) Ex) Ex := rfl
theorem e_pop {ds : List D} {k : List D × D → Prop} : oQ (mPop ds []) k = oQ ds[ds.length - 1]? fun y => k (ds.dropLast, y) := by
  show oQ ((ds[ds.length - 1]?).map fun y => (ds.dropLast, y)) k = _
  rw [e_oQ_map]
theorem e_popi {ds : List D} {i : Int} {k : List D × D → Prop} : oQ (mPop ds [.int i]) k = oQ (ixN ds.length i) fun n => oQ ds[n]? fun y => k (ds.eraseIdx n, y) := by
  show oQ ((ixN ds.length i).bind fun n => (ds[n]?).map fun y => (ds.eraseIdx n, y)) k = _
  cases ixN ds.length i with
  | none => rfl
  | some n =>
    show oQ ((ds[n]?).map fun y => (ds.eraseIdx n, y)) k = _
    rw [e_oQ_map]
    rfl
theorem e_wCall {g : DSp} : wCall g as ρ S Q Ex = as ρ S (fun xs S1 => g xs S1 Q Ex) Ex := rfl
theorem e_wCallK {g : DSp} {n m : Nat} {idx : List Nat} : wCallK g n m idx as ks ρ S Q Ex = as ρ S (fun xs S1 => ks ρ S1 (fun ys S2 => (xs.length = n ∧ ys.length = m) ∧ g (permL idx (xs ++ ys)) S2 Q Ex) Ex) Ex := rfl
theorem e_wLc {bb : Bool} {vs : List Nat} {g : Tg} {wi : DI} : wLc bb vs g wi p a ρ S Q Ex = wi ρ S (fun it S1 => it.ds.length ≤ sizeLine ∧ lcGo it.g g p a (wipeD ρ vs) (fun acc S2 => alL bb acc S2 Q) it.ds [] S1) Ex := rfl
theorem e_wDc {bb : Bool} {vs : List Nat} {g : Tg} {wi : DI} : wDc bb vs g wi p a b ρ S Q Ex = wi ρ S (fun it S1 => it.ds.length ≤ sizeLine ∧ dcGo it.g g p a b (wipeD ρ vs) (fun acc S2 => alD bb acc S2 Q) it.ds [] S1) Ex := rfl
theorem e_wSeqI : wSeqI a ρ S QI Ex = a ρ S (fun x S1 => oQ (itOf S1 x) fun it => QI it S1) Ex := rfl
theorem e_wRng1 : wRng1 a ρ S QI Ex = a ρ S (fun x S1 => rng1Q x S1 QI) Ex := rfl
theorem e_wRng2 : wRng2 a b ρ S QI Ex = a ρ S (fun x S1 => b ρ S1 (fun y S2 => rng2Q x y S2 QI) Ex) Ex := rfl
theorem e_wEnum : wEnum a ρ S QI Ex = a ρ S (fun x S1 => oQ (lstOf S1 x) fun it => QI (enumI it) S1) Ex := rfl
theorem e_enumI {ds : List D} {g : Sto → Prop} : enumI ⟨ds, g⟩ = ⟨enumL ds, g⟩ := rfl
theorem e_wZip : wZip a b ρ S QI Ex = a ρ S (fun x S1 => b ρ S1 (fun y S2 => oQ (zipOf S2 x y) fun it => QI it S2) Ex) Ex := rfl
theorem e_wFor {g : Tg} {wi : DI} : wFor g wi t Dd Ed ρ S = wi ρ S (fun it S1 => forGo it.g g t Dd Ed it.ds ρ S1) Ed := rfl
theorem e_wYes : wYes ρ S QB Ex = QB true S := rfl
theorem e_wPut {n k l : Rh → Sto → Prop} {r : D → Sto → Prop} : wPut a b c ⟨n, r, k, l⟩ Ed ρ S = c ρ S (fun v S1 => a ρ S1 (fun x S2 => b ρ S2 (fun y S3 => dPutV x y v S3 fun S4 => n ρ S4) Ed) Ed) Ed := rfl
theorem e_wDisp {bb : Bool} {ps : List (DE D × DE D)} : wDisp bb ps ρ S Q Ex = dispGo ρ Ex (fun acc S1 => acc.length ≤ 15 ∧ alD bb (mergeD [] acc) S1 Q) ps [] S := rfl
theorem e_disp_n {Kd : List (Key × D) → Sto → Prop} {acc : List (Key × D)} : dispGo ρ Ex Kd [] acc S = Kd acc S := rfl
theorem e_disp_c {Kd : List (Key × D) → Sto → Prop} {acc : List (Key × D)} {r : List (DE D × DE D)} : dispGo ρ Ex Kd ((a, b) :: r) acc S = a ρ S (fun k S1 => b ρ S1 (fun y S2 => oQ (asK k) fun k => dispGo ρ Ex Kd r (acc ++ [(k, y)]) S2) Ex) Ex := rfl
theorem e_wRaise {C : Addr} : wRaise C Dd Ed ρ S = Ed ⟨C, none⟩ S := rfl
theorem e_wDict0 {bb : Bool} : wDict0 bb ρ S Q Ex = alD bb [] S Q := rfl
theorem e_spb {fr : Bool} {n k : Nat} {ds : List D} : spb fr t n k ds S Q Ex = (ds.length = k ∧ t ⟨fun _ S' => rtQ fr S .non S' Q, fun d S' => rtQ fr S d S' Q, fun _ _ => False, fun _ _ => False⟩ (fun x S' => xQ fr S x S' Ex) (startD n ds) S) := rfl
end
theorem e_c0 : ((0 : Nat) : Int) = 0 := rfl
theorem e_c1 : ((1 : Nat) : Int) = 1 := rfl
theorem e_c2 : ((2 : Nat) : Int) = 2 := rfl
theorem e_c3 : ((3 : Nat) : Int) = 3 := rfl
theorem e_c4 : ((4 : Nat) : Int) = 4 := rfl
theorem e_c5 : ((5 : Nat) : Int) = 5 := rfl
theorem e_c6 : ((6 : Nat) : Int) = 6 := rfl
theorem e_c7 : ((7 : Nat) : Int) = 7 := rfl
theorem e_c8 : ((8 : Nat) : Int) = 8 := rfl
/-! the operations, by forms -/
section
variable {S : Sto} {Q : D → Sto → Prop}
theorem e_add_i {i j : Int} : dAdd (.int i) (.int j) S Q = Q (.int (i + j)) S := rfl
theorem e_add_s {i j : Str} : dAdd (.str i) (.str j) S Q = (i.length + j.length ≤ sizeLine ∧ Q (.str (i ++ j)) S) := rfl
theorem e_add_t {i j : List D} : dAdd (.tup i) (.tup j) S Q = (i.length + j.length ≤ sizeLine ∧ Q (.tup (i ++ j)) S) := rfl
theorem e_add_l {i j : List D} : dAdd (.lst i) (.lst j) S Q = (i.length + j.length ≤ sizeLine ∧ Q (.lst (i ++ j)) S) := rfl
theorem e_sub_i {i j : Int} : dSub (.int i) (.int j) S Q = Q (.int (i - j)) S := rfl
theorem e_mul_i {i j : Int} : dMul (.int i) (.int j) S Q = (mulOk i j ∧ Q (.int (i * j)) S) := rfl
theorem e_mul_l {a : List D} {k : Int} : dMul (.lst a) (.int k) S Q = (-(2 ^ 63) ≤ k ∧ k < 2 ^ 63 ∧ a.length * k.toNat ≤ sizeLine ∧ Q (.lst (List.replicate k.toNat a).flatten) S) := rfl
theorem e_fdiv_i {i j : Int} : dFdiv (.int i) (.int j) S Q = (CDivW i j ∧ Q (.int (i / j)) S) := rfl
theorem e_mod_i {i j : Int} : dMod (.int i) (.int j) S Q = (0 < j ∧ Q (.int (i % j)) S) := rfl
theorem e_pow_i {i j : Int} : dPow (.int i) (.int j) S Q = (CPow i j ∧ Q (.int (i ^ j.toNat)) S) := rfl
theorem e_neg_i {i : Int} : dNeg (.int i) S Q = Q (.int (-i)) S := rfl
theorem e_lt_i {i j : Int} : dLt (.int i) (.int j) S Q = Q (.bl (decide (i < j))) S := rfl
theorem e_lt_s {i j : Str} : dLt (.str i) (.str j) S Q = Q (.bl (strLt i j)) S := rfl
theorem e_le_i {i j : Int} : dLe (.int i) (.int j) S Q = Q (.bl (decide (i ≤ j))) S := rfl
theorem e_gt_i {i j : Int} : dGt (.int i) (.int j) S Q = Q (.bl (decide (j < i))) S := rfl
theorem e_ge_i {i j : Int} : dGe (.int i) (.int j) S Q = Q (.bl (decide (j ≤ i))) S := rfl
theorem e_is_n {x : D} : dIs x .non S Q = Q (.bl (isNon x)) S := by cases x <;> rfl
theorem e_is_b {a b : Bool} : dIs (.bl a) (.bl b) S Q = Q (.bl (decide (a = b))) S := rfl
theorem e_isN_n {x : D} : dIsNot x .non S Q = Q (.bl (!isNon x)) S := by cases x <;> rfl
theorem e_isN_b {a b : Bool} : dIsNot (.bl a) (.bl b) S Q = Q (.bl (!decide (a = b))) S := rfl
theorem e_isNon_n : isNon .non = true := rfl
theorem e_isNon_i {i : Int} : isNon (.int i) = false := rfl
theorem e_isNon_s {i : Str} : isNon (.str i) = false := rfl
theorem e_isNon_t {i : List D} : isNon (.tup i) = false := rfl
theorem e_isNon_l {i : List D} : isNon (.lst i) = false := rfl
theorem e_isNon_b {i : Bool} : isNon (.bl i) = false := rfl
theorem e_ix_t {ds : List D} {i : Int} : dIx (.tup ds) (.int i) S Q = oQ (atI ds i) fun d => Q d S := rfl
theorem e_ix_k {ds : List D} {i : Int} : dIx (.ktp ds) (.int i) S Q = oQ (atI ds i) fun d => Q d S := rfl
theorem e_ix_l {ds : List D} {i : Int} : dIx (.lst ds) (.int i) S Q = oQ (atI ds i) fun d => Q d S := rfl
theorem e_ix_ds {ds : List (Key × D)} {k : Str} : dIx (.dct ds) (.str k) S Q = oQ (valD ds (.inr k)) fun d => Q d S := rfl
theorem e_ix_di {ds : List (Key × D)} {k : Int} : dIx (.dct ds) (.int k) S Q = oQ (valD ds (.inl k)) fun d => Q d S := rfl
theorem e_ix_s {z : Str} {i : Int} : dIx (.str z) (.int i) S Q = (z.length ≤ sizeLine ∧ oQ (atI z.cps.toList i) fun c => Q (.str ⟨#[c]⟩) S) := rfl
theorem e_obDT_l {ds : List D} : obDT (some (.lst ds)) = none := rfl
theorem e_obDT_d {ds : List (Key × D)} : obDT (some (.dct ds)) = none := rfl
theorem e_obDT_t {ds : List (List Key × D)} : obDT (some (.dcT ds)) = some ds := rfl
theorem e_obD_t {ds : List (List Key × D)} : obD (some (.dcT ds)) = none := rfl
theorem e_obL_t {ds : List (List Key × D)} : obL (some (.dcT ds)) = none := rfl
def ixO (o : Option Ob) (y : D) (S : Sto) (Q : D → Sto → Prop) [Fz Q] : Prop := match o with
  | some (.lst ds) => oQ (asI y) fun i => oQ (atI ds i) fun d => Q d S
  | some (.dct kvs) => oQ (asK y) fun k => oQ (valD kvs k) fun d => Q d S
  | some (.dcT kvs) => oQ (asKT y) fun k => oQ (valD kvs k) fun d => Q d S
  | _ => False
theorem e_ix_loc {l : Nat} {y : D} : dIx (.loc l) y S Q = ixO S[l]? y S Q := by
  unfold dIx ixO
  show (match obL S[l]? with
  | some ds => oQ (asI y) fun i => oQ (atI ds i) fun d => Q d S
  | none => match obD S[l]? with
    | some kvs => oQ (asK y) fun k => oQ (valD kvs k) fun d => Q d S
    | none => match obDT S[l]? with
      | some kvs => oQ (asKT y) fun k => oQ (valD kvs k) fun d => Q d S
      | none => False) = _
  cases S[l]? with
  | none => rfl
  | some o => cases o <;> rfl
theorem e_ixO_l {ds : List D} {y : D} : ixO (some (.lst ds)) y S Q = oQ (asI y) fun i => oQ (atI ds i) fun d => Q d S := rfl
theorem e_ixO_d {ds : List (Key × D)} {y : D} : ixO (some (.dct ds)) y S Q = oQ (asK y) fun k => oQ (valD ds k) fun d => Q d S := rfl
theorem e_ixO_t {ds : List (List Key × D)} {y : D} : ixO (some (.dcT ds)) y S Q = oQ (asKT y) fun k => oQ (valD ds k) fun d => Q d S := rfl
def lenO (o : Option Ob) (S : Sto) (Q : D → Sto → Prop) [Fz Q] : Prop := match o with
  | some (.lst ds) => Q (.int ds.length) S
  | some (.dct kvs) => Q (.int kvs.length) S
  | some (.dcT kvs) => Q (.int kvs.length) S
  | _ => False
theorem e_len_loc {l : Nat} : bLen [.loc l] S Q = lenO S[l]? S Q := by
  unfold lenO
  show (match obL S[l]? with
  | some es => Q (.int es.length) S
  | none => match obD S[l]? with
    | some es => Q (.int es.length) S
    | none => match obDT S[l]? with
      | some es => Q (.int es.length) S
      | none => False) = _
  cases S[l]? with
  | none => rfl
  | some o => cases o <;> rfl
theorem e_lenO_l {ds : List D} : lenO (some (.lst ds)) S Q = Q (.int ds.length) S := rfl
theorem e_lenO_d {ds : List (Key × D)} : lenO (some (.dct ds)) S Q = Q (.int ds.length) S := rfl
theorem e_lenO_t {ds : List (List Key × D)} : lenO (some (.dcT ds)) S Q = Q (.int ds.length) S := rfl
theorem e_tuple_loc {l : Nat} : bTuple [.loc l] S Q = oQ (obL S[l]?) fun es => Q (.tup es) S := by
  show (match obL S[l]? with
    | some es => Q (.tup es) S
    | none => False) = _
  cases obL S[l]? <;> rfl
def listO (b : Bool) (o : Option Ob) (S : Sto) (Q : D → Sto → Prop) [Fz Q] : Prop := match o with
  | some (.lst ds) => alL b ds S Q
  | some (.dct kvs) => alL b (kvs.map fun kv : Key × D => kD kv.1) S Q
  | _ => False
theorem e_list_loc {b : Bool} {l : Nat} : bList b [.loc l] S Q = listO b S[l]? S Q := by
  unfold listO
  show (match obL S[l]? with
    | some es => alL b es S Q
    | none => match obD S[l]? with
      | some kvs => alL b (kvs.map fun kv : Key × D => kD kv.1) S Q
      | none => False) = _
  cases S[l]? with
  | none => rfl
  | some o => cases o <;> rfl
theorem e_listO_l {b : Bool} {ds : List D} : listO b (some (.lst ds)) S Q = alL b ds S Q := rfl
theorem e_listO_d {b : Bool} {ds : List (Key × D)} : listO b (some (.dct ds)) S Q = alL b (ds.map fun kv : Key × D => kD kv.1) S Q := rfl
theorem e_list_d {b : Bool} {ds : List (Key × D)} : bList b [.dct ds] S Q = alL b (ds.map fun kv : Key × D => kD kv.1) S Q := rfl
theorem e_add_ll {l : Nat} {j : List D} : dAdd (.loc l) (.lst j) S Q = oQ (obL S[l]?) fun a => a.length + j.length ≤ sizeLine ∧ Q (.lst (a ++ j)) S := by
  show (match obL S[l]?, some j with
    | some a, some b => a.length + b.length ≤ sizeLine ∧ Q (.lst (a ++ b)) S
    | _, _ => False) = _
  cases obL S[l]? <;> rfl
theorem e_sl_loc {b : Bool} {l : Nat} {lo hi : Option Int} : dSl b (.loc l) lo hi S Q = oQ (obL S[l]?) fun ds => alL b (cutD ds lo hi) S Q := by
  show (match obL S[l]? with
    | some ds => alL b (cutD ds lo hi) S Q
    | none => False) = _
  cases obL S[l]? <;> rfl
theorem e_tup {xs : List D} : dTup xs S Q = (xs.length ≤ sizeLine ∧ Q (.tup xs) S) := rfl
theorem e_lst {b : Bool} {xs : List D} : dLst b xs S Q = (xs.length ≤ sizeLine ∧ alL b xs S Q) := rfl
theorem e_len_t {ds : List D} : bLen [.tup ds] S Q = Q (.int ds.length) S := rfl
theorem e_len_k {ds : List D} : bLen [.ktp ds] S Q = Q (.int ds.length) S := rfl
theorem e_len_l {ds : List D} : bLen [.lst ds] S Q = Q (.int ds.length) S := rfl
theorem e_len_d {ds : List (Key × D)} : bLen [.dct ds] S Q = Q (.int ds.length) S := rfl
theorem e_len_r {ds : List Int} : bLen [.scr ds] S Q = Q (.int ds.length) S := by
  show Q (.int ((ds.map D.int).length : Nat)) S = _
  rw [List.length_map]
theorem e_len_s {x : Str} : bLen [.str x] S Q = (x.length ≤ sizeLine ∧ Q (.int x.length) S) := rfl
theorem e_abs {i : Int} : bAbs [.int i] S Q = Q (.int (if i < 0 then -i else i)) S := rfl
theorem e_int_i {i : Int} : bInt [.int i] S Q = Q (.int i) S := rfl
theorem e_int_b {i : Bool} : bInt [.bl i] S Q = Q (.int (if i then 1 else 0)) S := rfl
theorem e_tuple_t {ds : List D} : bTuple [.tup ds] S Q = Q (.tup ds) S := rfl
theorem e_tuple_l {ds : List D} : bTuple [.lst ds] S Q = Q (.tup ds) S := rfl
theorem e_list_t {b : Bool} {ds : List D} : bList b [.tup ds] S Q = alL b ds S Q := rfl
theorem e_list_l {b : Bool} {ds : List D} : bList b [.lst ds] S Q = alL b ds S Q := rfl
theorem e_dict_d {b : Bool} {ds : List (Key × D)} : bDict b [.dct ds] S Q = alD b ds S Q := rfl
theorem e_dict_l {b : Bool} {ds : List D} : bDict b [.lst ds] S Q = oQ (asPs ds) fun ps => alD b (mergeD [] ps) S Q := rfl
theorem e_sorted_l {b : Bool} {xs : List Str} : bSorted b [.lst (xs.map D.str)] S Q = (xs.length < 64 ∧ alL b ((srtS xs).map D.str) S Q) := by
  refine propext ⟨fun ⟨ys, h, h2, q⟩ => ?_, fun ⟨h2, q⟩ => ⟨xs, asStrs_map xs, h2, q⟩⟩
  rw [asStrs_map] at h
  cases h
  exact ⟨h2, q⟩
theorem e_isi {x : D} {n : String} : bIsi [x, .ty n] S Q = (n ∈ kinds ∧ oQ (tyOf S x) fun t => Q (.bl (isSub t n)) S) := rfl
theorem e_ty_n : tyOf S .non = some "NoneType" := rfl
theorem e_ty_b {x : Bool} : tyOf S (.bl x) = some "bool" := rfl
theorem e_ty_i {x : Int} : tyOf S (.int x) = some "int" := rfl
theorem e_ty_s {x : Str} : tyOf S (.str x) = some "str" := rfl
theorem e_ty_t {x : List D} : tyOf S (.tup x) = some "tuple" := rfl
theorem e_ty_l {x : List D} : tyOf S (.lst x) = some "list" := rfl
theorem e_ty_d {x : List (Key × D)} : tyOf S (.dct x) = some "dict" := rfl
theorem e_sl_t {b : Bool} {ds : List D} {lo hi : Option Int} : dSl b (.tup ds) lo hi S Q = Q (.tup (cutD ds lo hi)) S := rfl
theorem e_sl_l {b : Bool} {ds : List D} {lo hi : Option Int} : dSl b (.lst ds) lo hi S Q = alL b (cutD ds lo hi) S Q := rfl
theorem e_rev_t {b : Bool} {ds : List D} : dRev b (.tup ds) S Q = Q (.tup ds.reverse) S := rfl
theorem e_rev_l {b : Bool} {ds : List D} : dRev b (.lst ds) S Q = alL b ds.reverse S Q := rfl
theorem minV_eq {kvs : List (Key × D)} : dMinV (.dct kvs) S Q = oQ (asInts (kvs.map (·.2))) fun ns => ns ≠ [] ∧ Q (.int (minI ns)) S := rfl
theorem e_cut_to1 {α : Type} {xs : List α} {k : Nat} : cutD xs none (some ((k : Int) + 1)) = xs.take (k + 1) := by rw [show (k : Int) + 1 = ((k + 1 : Nat) : Int) by omega, cut_to]
theorem e_cut_from1 {α : Type} {xs : List α} {k : Nat} : cutD xs (some ((k : Int) + 1)) none = xs.drop (k + 1) := by rw [show (k : Int) + 1 = ((k + 1 : Nat) : Int) by omega, cut_from]
theorem e_cut_to {α : Type} {xs : List α} {k : Nat} : cutD xs none (some (k : Int)) = xs.take k := cut_to
theorem e_cut_from {α : Type} {xs : List α} {k : Nat} : cutD xs (some (k : Int)) none = xs.drop k := cut_from
theorem ec_ok_str {x : Str} (h : PyData.strOk x = true) : (okD (.str x) = true) = True := eq_true (ok_str h)
theorem ec_szle {n : Nat} (h : n ≤ 10000000) : (n ≤ sizeLine) = True := eq_true (by rw [sizeLine_eq]; omega)
theorem ec_szlt {n : Nat} (h : n ≤ 10000000) : (n < sizeLine) = True := eq_true (by rw [sizeLine_eq]; omega)
theorem ec_rng1 {j : Int} {P : Itd → Sto → Prop} (h : -4611686018427387904 ≤ j ∧ j < 4611686018427387904) : rng1Q (.int j) S P = P ⟨(List.range j.toNat).map fun k => D.int (0 + (k : Nat)), noG⟩ S := by
  show ((-(2 ^ 62) ≤ j ∧ j < 2 ^ 62) ∧ _) = _
  exact propext ⟨fun z => z.2, fun z => ⟨by omega, z⟩⟩
theorem ec_rng2 {i j : Int} {P : Itd → Sto → Prop} (h : -4611686018427387904 ≤ i ∧ i < 4611686018427387904 ∧ -4611686018427387904 ≤ j ∧ j < 4611686018427387904) : rng2Q (.int i) (.int j) S P = P ⟨(List.range (j - i).toNat).map fun k => D.int (i + (k : Nat)), noG⟩ S := by
  show ((-(2 ^ 62) ≤ i ∧ i < 2 ^ 62 ∧ -(2 ^ 62) ≤ j ∧ j < 2 ^ 62) ∧ _) = _
  exact propext ⟨fun z => z.2, fun z => ⟨by omega, z⟩⟩
theorem e_wopt_n {ρ : Rh} {P : Option Int → Sto → Prop} {Ex : DX} : wOpt none ρ S P Ex = P none S := rfl
def intQ (x : D) (P : Int → Prop) : Prop := match x with
    | .int i => P i
    | _ => False
theorem e_intQ {i : Int} {P : Int → Prop} : intQ (.int i) P = P i := rfl
theorem e_wopt_s {w : DE D} {ρ : Rh} {P : Option Int → Sto → Prop} {Ex : DX} : wOpt (some w) ρ S P Ex = w ρ S (fun x S1 => intQ x fun i => P (some i) S1) Ex := by
  unfold wOpt intQ
  rfl
def blQ (x : D) (P : Bool → Prop) : Prop := match x with
    | .bl i => P i
    | _ => False
theorem e_blQ {i : Bool} {P : Bool → Prop} : blQ (.bl i) P = P i := rfl
theorem e_wT {w : DE D} {ρ : Rh} {P : Bool → Sto → Prop} {Ex : DX} : wT w ρ S P Ex = w ρ S (fun x S1 => blQ x fun b => P b S1) Ex := by
  unfold wT blQ
  rfl
/-- new dicts and lists, written -/
theorem e_putD0 {L : Sto} {ds : List (Key × D)} {k : Str} {v : D} {P : Sto → Prop} : dPutV (.loc S.length) (.str k) v (S ++ .dct ds :: L) P = (ds.length < sizeLine ∧ P (S ++ .dct (putD ds (.inr k) v) :: L)) := by
  unfold dPutV
  simp only [sto_at0, sto_set0, List.getElem?_cons_zero, e_asK_str, oQ_s, List.set_cons_zero]
theorem e_putD1 {L : Sto} {o : Ob} {ds : List (Key × D)} {k : Str} {v : D} {P : Sto → Prop} : dPutV (.loc (S.length + 1)) (.str k) v (S ++ o :: .dct ds :: L) P = (ds.length < sizeLine ∧ P (S ++ o :: .dct (putD ds (.inr k) v) :: L)) := by
  unfold dPutV
  simp only [sto_at, sto_set, List.getElem?_cons_zero, List.getElem?_cons_succ, e_asK_str, oQ_s, List.set_cons_zero, List.set_cons_succ]
theorem e_putL0 {L : Sto} {ds : List D} {i : Int} {v : D} {P : Sto → Prop} : dPutV (.loc S.length) (.int i) v (S ++ .lst ds :: L) P = oQ (ixN ds.length i) fun j => P (S ++ .lst (ds.set j v) :: L) := by
  unfold dPutV
  simp only [sto_at0, List.getElem?_cons_zero, e_asI_int, oQ_s]
  cases ixN ds.length i with
  | none => rfl
  | some j =>
    rw [oQ_s, oQ_s, sto_set0]
    rfl
theorem e_putL1 {L : Sto} {o : Ob} {ds : List D} {i : Int} {v : D} {P : Sto → Prop} : dPutV (.loc (S.length + 1)) (.int i) v (S ++ o :: .lst ds :: L) P = oQ (ixN ds.length i) fun j => P (S ++ o :: .lst (ds.set j v) :: L) := by
  unfold dPutV
  simp only [sto_at, List.getElem?_cons_zero, List.getElem?_cons_succ, e_asI_int, oQ_s]
  cases ixN ds.length i with
  | none => rfl
  | some j =>
    rw [oQ_s, oQ_s, sto_set]
    rfl
theorem e_setS_f {α : Type} {f : α → Str} {xs : List α} {b : Bool} : dSetS b (.lst (xs.map fun x => D.str (f x))) S Q = (((xs.map f).length < 4000 ∧ (setS (xs.map f)).length < 64) ∧ alL b ((setS (xs.map f)).map D.str) S Q) := by
  rw [map_strs, e_setS]
theorem e_setS_a {α β : Type} {f : α → Str} {g : β → Str} {xs : List α} {ys : List β} {b : Bool} : dSetS b (.lst ((xs.map fun x => D.str (f x)) ++ ys.map fun x => D.str (g x))) S Q = (((xs.map f ++ ys.map g).length < 4000 ∧ (setS (xs.map f ++ ys.map g)).length < 64) ∧ alL b ((setS (xs.map f ++ ys.map g)).map D.str) S Q) := by
  rw [map_strs (xs := xs), map_strs (f := g) (xs := ys), ← List.map_append, e_setS]
end
end DL

set_option Elab.async false
set_option linter.all false
set_option maxRecDepth 100000
set_option maxHeartbeats 4000000
namespace DL
open PySem PySem.Spec PyProof.Rows L2 RZ
def kt_KEPT_0 : List Str := ["all", "cannot", "cut", "done", "end", "in", "journal", "least", "ledger", "most", "move", "redo", "row", "undo"]
def kt_KEPT_1 : List Str := ["way", "what"]
def kt_KEPT : List Str := kt_KEPT_0 ++ kt_KEPT_1
def kt_WORDS : List Str := ["none", "rest", "all"]
def kt_WHAT : List Str := ["what"]
/-! what the package's functions of names and ledgers tell, over data -/
def letters : Str := "abcdefghijklmnopqrstuvwxyz"
def isNm (x : Str) : Bool := decide ((1 : Int) ≤ x.length) && decide ((x.length : Int) ≤ 8) && !(kt_KEPT.contains x) && x.cps.toList.all fun c => decide (c ∈ letters.cps.toList)
/-- an entry of a ledger: mv: a move -/
structure En where
  mv : Bool
  a : Str
  b : Str
  n : Int
  deriving DecidableEq
def wd (m : Bool) : Str := if m = true then "move" else "in"
def En.d (e : En) : D := .tup [.str (wd e.mv), .str e.a, .str e.b, .int e.n]
abbrev entsD (es : List En) : D := .tup (es.map En.d)
abbrev ledD (es : List En) : D := .tup [.str "ledger", entsD es]
abbrev strsT (xs : List Str) : D := .tup (xs.map D.str)
abbrev strsL (xs : List Str) : D := .lst (xs.map D.str)
def okEn (e : En) : Bool := isNm e.a && isNm e.b && !decide (e.a = e.b) && (decide (1 ≤ e.n) && decide (e.n ≤ 1000000000))
def ownS (es : List En) : List Str := setS ((es.filter fun e => !e.mv).map (·.a))
def plL (es : List En) : List Str := es.map (·.b) ++ (es.filter (·.mv)).map (·.a)
def plS (es : List En) : List Str := setS (plL es)
abbrev Bal := List (Str × Int)
def balK (bs : Bal) : List (Key × D) := bs.map fun p => (Sum.inr p.1, D.int p.2)
abbrev balD (bs : Bal) : D := .dct (balK bs)
def getB (bs : Bal) (k : Str) : Int := match bs.find? fun p => decide (p.1 = k) with
  | some p => p.2
  | none => 0
def putB (bs : Bal) (k : Str) (v : Int) : Bal := if (bs.any fun p => decide (p.1 = k)) = true then bs.map (fun p => if p.1 = k then (p.1, v) else p) else bs ++ [(k, v)]
def outB (bs : Bal) (e : En) : Bal := if e.mv = true then putB bs e.a (getB bs e.a - e.n) else bs
def behB (bs : Bal) (e : En) : Bal := putB (outB bs e) e.b (getB (outB bs e) e.b + e.n)
def zeroB (ps : List Str) : Bal := ps.map fun p => (p, 0)
/-- the balances at all moments -/
def walkB (bs : Bal) : List En → List Bal
  | [] => [bs]
  | e :: es => bs :: walkB (behB bs e) es
def balsS (es : List En) : List Bal := walkB (zeroB (plS es)) es
def lastB (es : List En) : Bal := es.foldl behB (zeroB (plS es))
def isL (es : List En) : Bool := decide (es.length ≤ 40) && es.all okEn && decide ((ownS es).length ≤ 6) && decide ((plS es).length ≤ 6) && !((ownS es).any fun x => (plS es).contains x) &&
  (plS es == [] || (balsS es).all fun bs => decide (0 ≤ minI (bs.map (·.2))))
def ascB : List Str → Bool
  | x :: y :: r => strLt x y && ascB (y :: r)
  | _ => true
def lotB (xs ns : List Str) : Bool := decide (xs.length ≤ ns.length) && xs.all (fun x => ns.contains x) && ascB xs
def othS (es : List En) (some : List Str) : List Str := (ownS es).filter fun x => !some.contains x
def cameS (es : List En) (some : List Str) : Int := ((es.filter fun e => !e.mv && some.contains e.a).map (·.n)).sum
def lieS (es : List En) (wh : List Str) : Int := (wh.map fun p => getB (lastB es) p).sum
/-- few enough, of names that are texts -/
structure OkEs (es : List En) : Prop where
  len : es.length ≤ 100
  pl : (plS es).length < 64
  ow : (ownS es).length < 64
  nm : ∀ e ∈ es, e.a.length ≤ sizeLine ∧ e.b.length ≤ sizeLine ∧ PyData.strOk e.a = true ∧ PyData.strOk e.b = true

theorem wd_in {m : Bool} : decide (wd m = "in") = !m := by cases m <;> decide +kernel
theorem wd_mv {m : Bool} : decide (wd m = "move") = m := by cases m <;> decide +kernel
theorem e_wd_in {m : Bool} : (wd m = "in") = (m = false) := by cases m <;> simp [wd] <;> decide +kernel
theorem e_wd_mv {m : Bool} : (wd m = "move") = (m = true) := by cases m <;> simp [wd] <;> decide +kernel
theorem e_ok_wd {m : Bool} : okD (.str (wd m)) = true := ok_str (by cases m <;> decide +kernel)
theorem e_ok_in : okD (.str "in") = true := ok_str (by decide +kernel)
theorem e_ok_move : okD (.str "move") = true := ok_str (by decide +kernel)
theorem e_en_S {S : Sto} {e : En} : asS S e.d = some [.str (wd e.mv), .str e.a, .str e.b, .int e.n] := rfl
theorem e_en_TK {e : En} : asTK e.d = some [.str (wd e.mv), .str e.a, .str e.b, .int e.n] := rfl
theorem e_en_L {S : Sto} {e : En} : asL S e.d = none := rfl
theorem e_en_ty {S : Sto} {e : En} : tyOf S e.d = some "tuple" := rfl
theorem e_en_bv {S : Sto} {e : En} : bv S e.d = e.d := rfl
theorem e_en_sb {k : Nat → Option D} {e : En} : sbD k e.d = some e.d := rfl
theorem e_ens_sb {k : Nat → Option D} {es : List En} : sbL k (es.map En.d) = some (es.map En.d) := noL_map (fun _ _ => rfl) k es
theorem e_bal_sb {k : Nat → Option D} {bs : Bal} : sbK k (balK bs) = some (balK bs) := noL_mapK (fun _ => noL_int) k bs
theorem e_bals_sb {k : Nat → Option D} {bs : List Bal} : sbL k (bs.map fun b => balD b) = some (bs.map fun b => balD b) := noL_map (fun b k => by rw [e_sb_dct, e_bal_sb]; rfl) k bs
theorem e_en_isNon {e : En} : isNon e.d = false := rfl
theorem e_en_ix0 {S : Sto} {Q : D → Sto → Prop} {e : En} : dIx e.d (.int 0) S Q = Q (.str (wd e.mv)) S := rfl
theorem e_en_ix1 {S : Sto} {Q : D → Sto → Prop} {e : En} : dIx e.d (.int 1) S Q = Q (.str e.a) S := rfl
theorem e_en_ix2 {S : Sto} {Q : D → Sto → Prop} {e : En} : dIx e.d (.int 2) S Q = Q (.str e.b) S := rfl
theorem e_en_ix3 {S : Sto} {Q : D → Sto → Prop} {e : En} : dIx e.d (.int 3) S Q = Q (.int e.n) S := rfl
theorem e_own {es : List En} : setS ((es.filter fun e => !e.mv).map (·.a)) = ownS es := rfl
theorem e_pl {es : List En} : setS (es.map (·.b) ++ (es.filter fun e => e.mv).map (·.a)) = plS es := rfl
theorem ec_own64 {es : List En} (h : OkEs es) : ((ownS es).length < 64) = True := eq_true h.ow
theorem ec_pl64 {es : List En} (h : OkEs es) : ((plS es).length < 64) = True := eq_true h.pl
theorem ec_es_sz {es : List En} (h : OkEs es) : (es.length ≤ sizeLine) = True := eq_true (by have := h.len; rw [sizeLine_eq]; omega)
theorem eq_en {e f : En} : eqD e.d f.d = decide (e = f) := by
  unfold En.d
  rw [eqD_tup, eqL_cons, eqL_cons, eqL_cons, eqL_cons, eqL_nil, eqD_str, eqD_str, eqD_str, eqD_int]
  have hw : ∀ a b : Bool, decide (wd a = wd b) = decide (a = b) := by decide +kernel
  rw [hw]
  cases e with
  | mk m a b n =>
    cases f with
    | mk m' a' b' n' =>
      simp only [En.mk.injEq]
      by_cases h1 : m = m' <;> by_cases h2 : a = a' <;> by_cases h3 : b = b' <;> by_cases h4 : n = n' <;> simp [h1, h2, h3, h4]
theorem eq_ens {es fs : List En} : eqD (.tup (es.map En.d)) (.tup (fs.map En.d)) = decide (es = fs) := by
  rw [eqD_tup]
  exact eqL_map fun a b => eq_en
theorem e_eqL_ens {es fs : List En} : eqL (es.map En.d) (fs.map En.d) = decide (es = fs) := eqL_map fun a b => eq_en
theorem val_bal {bs : Bal} {k : Str} : valD (balK bs) (.inr k) = (bs.find? fun p => decide (p.1 = k)).map fun p => D.int p.2 := by
  unfold valD balK
  rw [List.find?_map, Option.map_map]
  have e : ((fun kv : Key × D => decide (kv.1 = Sum.inr k)) ∘ fun p : Str × Int => ((Sum.inr p.1 : Key), D.int p.2)) = fun p => decide (p.1 = k) := by
    funext p
    simp
  rw [e]
  rfl
theorem e_getD_bal {bs : Bal} {k : Str} : (valD (balK bs) (.inr k)).getD (.int 0) = .int (getB bs k) := by
  rw [val_bal]
  unfold getB
  cases bs.find? fun p => decide (p.1 = k) <;> rfl
theorem e_put_bal {bs : Bal} {k : Str} {v : Int} : putD (balK bs) (.inr k) (.int v) = balK (putB bs k v) := by
  unfold putD putB
  have e : ((balK bs).any fun kv => decide (kv.1 = Sum.inr k)) = bs.any fun p => decide (p.1 = k) := by
    unfold balK
    rw [List.any_map]
    congr 1
    funext p
    simp
  rw [e]
  split
  · unfold balK
    rw [List.map_map, List.map_map]
    congr 1
    funext p
    by_cases h : p.1 = k
    · simp [h]
    · simp [h]
  · unfold balK
    rw [List.map_append]
    rfl
theorem e_balK_len {bs : Bal} : (balK bs).length = bs.length := List.length_map ..
theorem putB_len {bs : Bal} {k : Str} {v : Int} : (putB bs k v).length ≤ bs.length + 1 := by
  unfold putB
  split
  · rw [List.length_map]
    exact Nat.le_succ _
  · rw [List.length_append]
    exact Nat.le_refl _
theorem find_some {bs : Bal} {x : Str} (h : x ∈ bs.map (·.1)) : ∃ p, (bs.find? fun p => decide (p.1 = x)) = some p ∧ getB bs x = p.2 := by
  obtain ⟨q, hq, e⟩ := List.mem_map.mp h
  cases e1 : bs.find? fun p => decide (p.1 = x) with
  | none =>
    have := List.find?_eq_none.mp e1 q hq
    simp [e] at this
  | some p =>
    refine ⟨p, rfl, ?_⟩
    unfold getB
    rw [e1]
theorem val_mem {bs : Bal} {x : Str} (h : x ∈ bs.map (·.1)) : valD (balK bs) (.inr x) = some (.int (getB bs x)) := by
  obtain ⟨p, e1, e2⟩ := find_some h
  rw [val_bal, e1, e2]
  rfl
theorem ec_val_mem {bs : Bal} {x : Str} (h : x ∈ bs.map (·.1)) : valD (balK bs) (.inr x) = some (.int (getB bs x)) := val_mem h
theorem getB_put {bs : Bal} {k x : Str} {v : Int} : getB (putB bs k v) x = if x = k then v else getB bs x := by
  unfold putB
  split
  · rename_i h
    induction bs with
    | nil => cases h
    | cons p bs ih =>
      unfold getB
      rw [List.map_cons, List.find?_cons, List.find?_cons]
      by_cases hp : p.1 = k
      · rw [if_pos hp]
        by_cases hx : x = k
        · subst hx
          simp [hp]
        · rw [if_neg hx]
          have h1 : decide (p.1 = x) = false := decide_eq_false fun e => hx (e.symm.trans hp)
          simp only [h1]
          by_cases h2 : (bs.any fun p => decide (p.1 = k)) = true
          · have := ih h2
            rw [if_neg hx] at this
            unfold getB at this
            exact this
          · have e : bs.map (fun p => if p.1 = k then (p.1, v) else p) = bs := by
              refine (List.map_congr_left fun q hq => ?_).trans (List.map_id bs)
              rw [if_neg fun e => h2 (List.any_eq_true.mpr ⟨q, hq, decide_eq_true e⟩)]
              rfl
            rw [e]
      · rw [if_neg hp]
        have h2 : (bs.any fun p => decide (p.1 = k)) = true := by
          rw [List.any_cons, decide_eq_false hp, Bool.false_or] at h
          exact h
        have := ih h2
        unfold getB at this
        by_cases hx : x = k
        · subst hx
          rw [if_pos rfl] at this ⊢
          simp only [decide_eq_false hp]
          exact this
        · rw [if_neg hx] at this ⊢
          by_cases h3 : p.1 = x
          · simp only [h3, decide_true]
          · simp only [decide_eq_false h3]
            exact this
  · rename_i h
    unfold getB
    rw [List.find?_append]
    by_cases hx : x = k
    · subst hx
      have : bs.find? (fun p => decide (p.1 = x)) = none := List.find?_eq_none.mpr fun q hq hd => h (List.any_eq_true.mpr ⟨q, hq, hd⟩)
      rw [this]
      simp
    · rw [if_neg hx]
      cases bs.find? fun p => decide (p.1 = x) with
      | some p => rfl
      | none =>
        have : decide (k = x) = false := decide_eq_false fun e => hx e.symm
        simp [this]
theorem e_getput {bs : Bal} {k : Str} {v : Int} : getB (putB bs k v) k = v := by rw [getB_put, if_pos rfl]
theorem e_sorted_bal {S : Sto} {Q : D → Sto → Prop} {b : Bool} {bs : Bal} : bSorted b [.dct (balK bs)] S Q = (bs.length < 64 ∧ alL b ((srtS (bs.map (·.1))).map D.str) S Q) := by
  have e : (balK bs).map (·.1) = (bs.map (·.1)).map Sum.inr := by
    unfold balK
    rw [List.map_map, List.map_map]
    rfl
  refine propext ⟨fun ⟨ys, h, h2, q⟩ => ?_, fun ⟨h2, q⟩ => ⟨bs.map (·.1), e, by rw [List.length_map]; exact h2, q⟩⟩
  rw [e] at h
  have inj : ∀ {as bs : List Str}, as.map (Sum.inr : Str → Key) = bs.map Sum.inr → as = bs := by
    intro as
    induction as with
    | nil => intro bs h; cases bs with | nil => rfl | cons b bs => cases h
    | cons a as ih => intro bs h; cases bs with | nil => cases h | cons b bs => (injection h with h1 h2; rw [Sum.inr.inj h1, ih h2])
  cases inj h
  exact ⟨by rw [List.length_map] at h2; exact h2, q⟩
theorem setS_le (xs : List Str) : (setS xs).length ≤ xs.length := by
  unfold setS
  rw [(srtS_perm _).length_eq]
  induction xs with
  | nil => exact Nat.le_refl _
  | cons x xs ih =>
    unfold ddS
    split
    · exact Nat.le_succ_of_le ih
    · exact Nat.succ_le_succ ih
theorem filt_len {α : Type} {p : α → Bool} {xs : List α} : (xs.filter p).length ≤ xs.length := List.length_filter_le p xs
theorem own_le {es : List En} : (ownS es).length ≤ es.length := by
  refine Nat.le_trans (setS_le _) ?_
  rw [List.length_map]
  exact filt_len
def ltO : Option Str → Option Str → Bool
  | some a, some b => strLt a b
  | _, _ => false
theorem asc_get : ∀ {xs : List Str}, ascB xs = (List.range (xs.length - 1)).all fun k => ltO xs[k]? xs[k + 1]?
  | [] => rfl
  | [x] => rfl
  | x :: y :: r => by
    unfold ascB
    rw [asc_get (xs := y :: r)]
    show _ = (List.range (r.length + 1)).all _
    rw [List.range_succ_eq_map, List.all_cons, List.all_map]
    rfl
/-! what is drawn: a draw is any number that is let -/
/-- the store: the great numbers that are left, the draw, then T -/
def dw (ls cs : List Int) (r t : Int) : Sto := [.lst (ls.map D.int), .dct [(.inr "large", .loc 0), (.inr "cells", .lst (cs.map D.int)), (.inr "rest", .int r), (.inr "turn", .int t)]]
def DrawS (T S : Sto) : Prop := ∃ ls cs r t, S = dw ls cs r t ++ T
/-! the draw -/
theorem str_ne {a b : Str} (h : a ≠ b) : decide ((Sum.inr a : Key) = Sum.inr b) = false := decide_eq_false fun z => h (Sum.inr.inj z)
theorem str_eq {a : Str} : decide ((Sum.inr a : Key) = Sum.inr a) = true := decide_eq_true rfl
theorem k_lc : ("large" : Str) ≠ "cells" := by decide +kernel
theorem k_lr : ("large" : Str) ≠ "rest" := by decide +kernel
theorem k_lt : ("large" : Str) ≠ "turn" := by decide +kernel
theorem k_cr : ("cells" : Str) ≠ "rest" := by decide +kernel
theorem k_ct : ("cells" : Str) ≠ "turn" := by decide +kernel
theorem k_rt : ("rest" : Str) ≠ "turn" := by decide +kernel
section
variable {ls cs : List Int} {r t : Int} {T : Sto} {Q : D → Sto → Prop} {P : Sto → Prop}
def dwK (cs : List Int) (r t : Int) : List (Key × D) := [(.inr "large", .loc 0), (.inr "cells", .lst (cs.map D.int)), (.inr "rest", .int r), (.inr "turn", .int t)]
theorem dw_eq : dw ls cs r t ++ T = .lst (ls.map D.int) :: .dct (dwK cs r t) :: T := rfl
theorem e_asS_dw : asS (dw ls cs r t ++ T) (.loc 1) = none := rfl
theorem e_asD_dw : asD (dw ls cs r t ++ T) (.loc 1) = some (dwK cs r t) := rfl
theorem e_v_large : valD (dwK cs r t) (.inr "large") = some (.loc 0) := by
  unfold valD dwK
  rw [List.find?_cons]
  simp only [str_eq]
  rfl
theorem e_v_cells : valD (dwK cs r t) (.inr "cells") = some (.lst (cs.map D.int)) := by
  unfold valD dwK
  rw [List.find?_cons, List.find?_cons]
  simp only [str_eq, str_ne k_lc]
  rfl
theorem e_v_rest : valD (dwK cs r t) (.inr "rest") = some (.int r) := by
  unfold valD dwK
  rw [List.find?_cons, List.find?_cons, List.find?_cons]
  simp only [str_eq, str_ne k_lr, str_ne k_cr]
  rfl
theorem e_v_turn : valD (dwK cs r t) (.inr "turn") = some (.int t) := by
  unfold valD dwK
  rw [List.find?_cons, List.find?_cons, List.find?_cons, List.find?_cons]
  simp only [str_eq, str_ne k_lt, str_ne k_ct, str_ne k_rt]
  rfl
theorem e_dw_0 : (dw ls cs r t ++ T)[0]? = some (.lst (ls.map D.int)) := rfl
theorem e_dw_1 : (dw ls cs r t ++ T)[1]? = some (.dct (dwK cs r t)) := rfl
theorem e_dw_set0 {ls' : List Int} : (dw ls cs r t ++ T).set 0 (.lst (ls'.map D.int)) = dw ls' cs r t ++ T := rfl
theorem p_rest {v : Int} : putD (dwK cs r t) (.inr "rest") (.int v) = dwK cs v t := by
  unfold putD dwK
  have h : ∀ a b : Str, a ≠ b → ((Sum.inr a : Key) = Sum.inr b) = False := fun a b h => eq_false fun z => h (Sum.inr.inj z)
  simp only [List.any_cons, List.map_cons, List.map_nil, str_eq, str_ne k_lr, str_ne k_cr, h _ _ k_lr, h _ _ k_cr, h _ _ k_rt.symm, decide_false, decide_true, Bool.or_true, Bool.true_or, Bool.false_or, if_true, if_false]
theorem p_turn {v : Int} : putD (dwK cs r t) (.inr "turn") (.int v) = dwK cs r v := by
  unfold putD dwK
  have h : ∀ a b : Str, a ≠ b → ((Sum.inr a : Key) = Sum.inr b) = False := fun a b h => eq_false fun z => h (Sum.inr.inj z)
  simp only [List.any_cons, List.map_cons, List.map_nil, str_eq, str_ne k_lt, str_ne k_ct, str_ne k_rt, h _ _ k_lt, h _ _ k_ct, h _ _ k_rt, decide_false, decide_true, Bool.or_true, Bool.true_or, Bool.false_or, if_true, if_false]
theorem e_put_rest {v : Int} : dPutV (.loc 1) (.str "rest") (.int v) (dw ls cs r t ++ T) P = P (dw ls cs v t ++ T) := by
  show ((dwK cs r t).length < sizeLine ∧ P (.lst (ls.map D.int) :: .dct (putD (dwK cs r t) (.inr "rest") (.int v)) :: T)) = _
  rw [p_rest]
  have : (dwK cs r t).length < sizeLine := by rw [sizeLine_eq]; show 4 < 16777216; decide
  simp only [this, true_and]
  rfl
theorem e_put_turn {v : Int} : dPutV (.loc 1) (.str "turn") (.int v) (dw ls cs r t ++ T) P = P (dw ls cs r v ++ T) := by
  show ((dwK cs r t).length < sizeLine ∧ P (.lst (ls.map D.int) :: .dct (putD (dwK cs r t) (.inr "turn") (.int v)) :: T)) = _
  rw [p_turn]
  have : (dwK cs r t).length < sizeLine := by rw [sizeLine_eq]; show 4 < 16777216; decide
  simp only [this, true_and]
  rfl
end

end DL

set_option Elab.async false
set_option linter.all false
set_option maxRecDepth 100000
namespace DL
open PySem PySem.Spec PyProof.Rows L2 RZ
def N_is_name : List Str := ["thing", "sign"]
def rd_is_name : DS := wSeq (wIfS (wOr (wNot (wT (wP bIsi (wCons (wVar 0) (wCons (wC (.ty "str")) (wNil)))))) (wOr (wNot (wT (wChain dLe dLe (wC (.int 1)) (wP bLen (wCons (wVar 0) (wNil))) (wC (.int 8))))) (wT (wB2 (dIn false) (wVar 0) (wC (.ktp (kt_KEPT.map D.str))))))) (wRet (wC (.bl false))) (wSkip)) (wRet (wP bAll (wCons (wLc false [1] (.nm 1) (wSeqI (wVar 0)) (wYes) (wB2 (dIn false) (wVar 1) (wC (.str "abcdefghijklmnopqrstuvwxyz")))) (wNil))))
@[irreducible] def sp_is_name : DSp := spb true (rd_is_name) 2 1
def N_is_number : List Str := ["thing", "low", "high"]
def rd_is_number : DS := wSeq (wIfS (wOr (wT (wP bIsi (wCons (wVar 0) (wCons (wC (.ty "bool")) (wNil))))) (wNot (wT (wP bIsi (wCons (wVar 0) (wCons (wC (.ty "int")) (wNil))))))) (wRet (wC (.bl false))) (wSkip)) (wRet (wAndV (wB2 dGe (wVar 0) (wVar 1)) (wOrV (wB2 dIs (wVar 2) (wC .non)) (wB2 dLe (wVar 0) (wVar 2)))))
@[irreducible] def sp_is_number : DSp := spb true (rd_is_number) 3 3
def N_is_word : List Str := ["thing", "words"]
def rd_is_word : DS := wRet (wAndV (wP bIsi (wCons (wVar 0) (wCons (wC (.ty "str")) (wNil)))) (wB2 (dIn false) (wVar 0) (wVar 1)))
@[irreducible] def sp_is_word : DSp := spb true (rd_is_word) 2 2
def N_is_row : List Str := ["thing", "many"]
def rd_is_row : DS := wRet (wAndV (wP bIsi (wCons (wVar 0) (wCons (wC (.ty "tuple")) (wNil)))) (wB2 dEq (wP bLen (wCons (wVar 0) (wNil))) (wVar 1)))
@[irreducible] def sp_is_row : DSp := spb true (rd_is_row) 2 2
def N_are_ascending : List Str := ["things", "k"]
def rd_are_ascending : DS := wRet (wP bAll (wCons (wLc false [1] (.nm 1) (wRng1 (wB2 dSub (wP bLen (wCons (wVar 0) (wNil))) (wC (.int 1)))) (wYes) (wB2 dLt (wB2 dIx (wVar 0) (wVar 1)) (wB2 dIx (wVar 0) (wB2 dAdd (wVar 1) (wC (.int 1)))))) (wNil)))
@[irreducible] def sp_are_ascending : DSp := spb true (rd_are_ascending) 2 1
def N_owners_in : List Str := ["entries", "entry"]
def rd_owners_in : DS := wRet (wB1 (dSetS false) (wLc false [1] (.nm 1) (wSeqI (wVar 0)) (wT (wB2 dEq (wB2 dIx (wVar 1) (wC (.int 0))) (wC (.str "in")))) (wB2 dIx (wVar 1) (wC (.int 1)))))
@[irreducible] def sp_owners_in : DSp := spb true (rd_owners_in) 2 1
def N_places_in : List Str := ["entries", "entry"]
def rd_places_in : DS := wRet (wB1 (dSetS false) (wB2 dAdd (wLc false [1] (.nm 1) (wSeqI (wVar 0)) (wYes) (wB2 dIx (wVar 1) (wC (.int 2)))) (wLc false [1] (.nm 1) (wSeqI (wVar 0)) (wT (wB2 dEq (wB2 dIx (wVar 1) (wC (.int 0))) (wC (.str "move")))) (wB2 dIx (wVar 1) (wC (.int 1))))))
@[irreducible] def sp_places_in : DSp := spb true (rd_places_in) 2 1
def N_behind : List Str := ["balances", "entry", "found"]
def rd_behind : DS := wSeq (wSet 2 (wP (bDict true) (wCons (wVar 0) (wNil)))) (wSeq (wIfS (wT (wB2 dEq (wB2 dIx (wVar 1) (wC (.int 0))) (wC (.str "move")))) (wPut (wVar 2) (wB2 dIx (wVar 1) (wC (.int 1))) (wB2 dSub (wGet2 (wVar 2) (wB2 dIx (wVar 1) (wC (.int 1))) (wC (.int 0))) (wB2 dIx (wVar 1) (wC (.int 3))))) (wSkip)) (wSeq (wPut (wVar 2) (wB2 dIx (wVar 1) (wC (.int 2))) (wB2 dAdd (wGet2 (wVar 2) (wB2 dIx (wVar 1) (wC (.int 2))) (wC (.int 0))) (wB2 dIx (wVar 1) (wC (.int 3))))) (wRet (wVar 2))))
@[irreducible] def sp_behind : DSp := spb true (rd_behind) 3 2
def N_came_of : List Str := ["ledger", "some", "entry"]
def rd_came_of : DS := wRet (wP bSum (wCons (wLc false [2] (.nm 2) (wSeqI (wB2 dIx (wVar 0) (wC (.int 1)))) (wAnd (wT (wB2 dEq (wB2 dIx (wVar 2) (wC (.int 0))) (wC (.str "in")))) (wT (wB2 (dIn false) (wB2 dIx (wVar 2) (wC (.int 1))) (wVar 1)))) (wB2 dIx (wVar 2) (wC (.int 3)))) (wNil)))
@[irreducible] def sp_came_of : DSp := spb true (rd_came_of) 3 2
def N_is_lot_of : List Str := ["thing", "names", "name"]
def rd_is_lot_of : DS := wSeq (wIfS (wOr (wNot (wT (wP bIsi (wCons (wVar 0) (wCons (wC (.ty "tuple")) (wNil)))))) (wOr (wT (wB2 dGt (wP bLen (wCons (wVar 0) (wNil))) (wP bLen (wCons (wVar 1) (wNil))))) (wNot (wT (wP bAll (wCons (wLc false [2] (.nm 2) (wSeqI (wVar 0)) (wYes) (wCall (sp_is_word) (wCons (wVar 2) (wCons (wVar 1) (wNil))))) (wNil))))))) (wRet (wC (.bl false))) (wSkip)) (wRet (wCall (sp_are_ascending) (wCons (wVar 0) (wNil))))
@[irreducible] def sp_is_lot_of : DSp := spb true (rd_is_lot_of) 3 2
def N_is_entry : List Str := ["thing"]
def rd_is_entry : DS := wSeq (wIfS (wOr (wNot (wT (wCall (sp_is_row) (wCons (wVar 0) (wCons (wC (.int 4)) (wNil)))))) (wNot (wT (wCall (sp_is_word) (wCons (wB2 dIx (wVar 0) (wC (.int 0))) (wCons (wP dTup (wCons (wC (.str "in")) (wCons (wC (.str "move")) (wNil)))) (wNil))))))) (wRet (wC (.bl false))) (wSkip)) (wSeq (wIfS (wOr (wNot (wT (wCall (sp_is_name) (wCons (wB2 dIx (wVar 0) (wC (.int 1))) (wNil))))) (wOr (wNot (wT (wCall (sp_is_name) (wCons (wB2 dIx (wVar 0) (wC (.int 2))) (wNil))))) (wT (wB2 dEq (wB2 dIx (wVar 0) (wC (.int 1))) (wB2 dIx (wVar 0) (wC (.int 2))))))) (wRet (wC (.bl false))) (wSkip)) (wRet (wCall (sp_is_number) (wCons (wB2 dIx (wVar 0) (wC (.int 3))) (wCons (wC (.int 1)) (wCons (wC (.int 1000000000)) (wNil)))))))
@[irreducible] def sp_is_entry : DSp := spb true (rd_is_entry) 1 1
def N_balances_of : List Str := ["entries", "found", "place", "entry"]
def rd_balances_of : DS := wSeq (wSet 1 (wP (dLst true) (wCons (wDc false [2] (.nm 2) (wSeqI (wCall (sp_places_in) (wCons (wVar 0) (wNil)))) (wYes) (wVar 2) (wC (.int 0))) (wNil)))) (wSeq (wFor (.nm 3) (wSeqI (wVar 0)) (wDrop (wM mApp (wVar 1) (wCons (wCall (sp_behind) (wCons (wB2 dIx (wVar 1) (wB1 dNeg (wC (.int 1)))) (wCons (wVar 3) (wNil)))) (wNil))))) (wRet (wVar 1)))
@[irreducible] def sp_balances_of : DSp := spb true (rd_balances_of) 4 1
def N_owners_of : List Str := ["ledger"]
def rd_owners_of : DS := wRet (wP bTuple (wCons (wCall (sp_owners_in) (wCons (wB2 dIx (wVar 0) (wC (.int 1))) (wNil))) (wNil)))
@[irreducible] def sp_owners_of : DSp := spb true (rd_owners_of) 1 1
def N_places_of : List Str := ["ledger"]
def rd_places_of : DS := wRet (wP bTuple (wCons (wCall (sp_places_in) (wCons (wB2 dIx (wVar 0) (wC (.int 1))) (wNil))) (wNil)))
@[irreducible] def sp_places_of : DSp := spb true (rd_places_of) 1 1
def N_check_moment : List Str := ["ledger", "moment"]
def rd_check_moment (c : Str → Addr) : DS := wIfS (wNot (wT (wCall (sp_is_number) (wCons (wVar 1) (wCons (wC (.int 0)) (wCons (wP bLen (wCons (wB2 dIx (wVar 0) (wC (.int 1))) (wNil))) (wNil))))))) (wRaise (c "BadMoment")) (wSkip)
@[irreducible] def sp_check_moment (c : Str → Addr) : DSp := spb true (rd_check_moment c) 2 2
def N_is_ledger : List Str := ["thing", "entries", "entry", "some", "where", "name", "balances"]
def rd_is_ledger : DS := wSeq (wIfS (wOr (wNot (wT (wCall (sp_is_row) (wCons (wVar 0) (wCons (wC (.int 2)) (wNil)))))) (wNot (wT (wCall (sp_is_word) (wCons (wB2 dIx (wVar 0) (wC (.int 0))) (wCons (wP dTup (wCons (wC (.str "ledger")) (wNil))) (wNil))))))) (wRet (wC (.bl false))) (wSkip)) (wSeq (wSet 1 (wB2 dIx (wVar 0) (wC (.int 1)))) (wSeq (wIfS (wOr (wNot (wT (wP bIsi (wCons (wVar 1) (wCons (wC (.ty "tuple")) (wNil)))))) (wOr (wT (wB2 dGt (wP bLen (wCons (wVar 1) (wNil))) (wC (.int 40)))) (wNot (wT (wP bAll (wCons (wLc false [2] (.nm 2) (wSeqI (wVar 1)) (wYes) (wCall (sp_is_entry) (wCons (wVar 2) (wNil)))) (wNil))))))) (wRet (wC (.bl false))) (wSkip)) (wSeq (wTup (.tp [3, 4]) (wP dTup (wCons (wCall (sp_owners_in) (wCons (wVar 1) (wNil))) (wCons (wCall (sp_places_in) (wCons (wVar 1) (wNil))) (wNil))))) (wSeq (wIfS (wOr (wT (wB2 dGt (wP bLen (wCons (wVar 3) (wNil))) (wC (.int 6)))) (wOr (wT (wB2 dGt (wP bLen (wCons (wVar 4) (wNil))) (wC (.int 6)))) (wT (wP bAny (wCons (wLc false [5] (.nm 5) (wSeqI (wVar 3)) (wYes) (wB2 (dIn false) (wVar 5) (wVar 4))) (wNil)))))) (wRet (wC (.bl false))) (wSkip)) (wRet (wP bAll (wCons (wLc false [6] (.nm 6) (wSeqI (wCall (sp_balances_of) (wCons (wVar 1) (wNil)))) (wT (wB2 dNe (wVar 4) (wP (dLst false) (wNil)))) (wB2 dGe (wB1 dMinV (wVar 6)) (wC (.int 0)))) (wNil))))))))
@[irreducible] def sp_is_ledger : DSp := spb true (rd_is_ledger) 7 1
def N_check_some : List Str := ["ledger", "some"]
def rd_check_some (c : Str → Addr) : DS := wIfS (wNot (wT (wCall (sp_is_lot_of) (wCons (wVar 1) (wCons (wCall (sp_owners_of) (wCons (wVar 0) (wNil))) (wNil)))))) (wRaise (c "BadSome")) (wSkip)
@[irreducible] def sp_check_some (c : Str → Addr) : DSp := spb true (rd_check_some c) 2 2
def N_check_where : List Str := ["ledger", "where"]
def rd_check_where (c : Str → Addr) : DS := wIfS (wNot (wT (wCall (sp_is_lot_of) (wCons (wVar 1) (wCons (wCall (sp_places_of) (wCons (wVar 0) (wNil))) (wNil)))))) (wRaise (c "BadWhere")) (wSkip)
@[irreducible] def sp_check_where (c : Str → Addr) : DSp := spb true (rd_check_where c) 2 2
def N_check_place : List Str := ["ledger", "place"]
def rd_check_place (c : Str → Addr) : DS := wIfS (wNot (wT (wCall (sp_is_word) (wCons (wVar 1) (wCons (wCall (sp_places_of) (wCons (wVar 0) (wNil))) (wNil)))))) (wRaise (c "BadPlace")) (wSkip)
@[irreducible] def sp_check_place (c : Str → Addr) : DSp := spb true (rd_check_place c) 2 2
def N_others_of : List Str := ["ledger", "some", "owner"]
def rd_others_of : DS := wRet (wP bTuple (wCons (wLc false [2] (.nm 2) (wSeqI (wCall (sp_owners_of) (wCons (wVar 0) (wNil)))) (wT (wB2 (dIn true) (wVar 2) (wVar 1))) (wVar 2)) (wNil)))
@[irreducible] def sp_others_of : DSp := spb true (rd_others_of) 3 2
def N_lying_at_end : List Str := ["ledger", "where", "balances", "place"]
def rd_lying_at_end : DS := wSeq (wSet 2 (wB2 dIx (wCall (sp_balances_of) (wCons (wB2 dIx (wVar 0) (wC (.int 1))) (wNil))) (wB1 dNeg (wC (.int 1))))) (wRet (wP bSum (wCons (wLc false [3] (.nm 3) (wSeqI (wVar 1)) (wYes) (wB2 dIx (wVar 2) (wVar 3))) (wNil))))
@[irreducible] def sp_lying_at_end : DSp := spb true (rd_lying_at_end) 4 2
def N_check_ledger : List Str := ["ledger"]
def rd_check_ledger (c : Str → Addr) : DS := wIfS (wNot (wT (wCall (sp_is_ledger) (wCons (wVar 0) (wNil))))) (wRaise (c "BadLedger")) (wSkip)
@[irreducible] def sp_check_ledger (c : Str → Addr) : DSp := spb true (rd_check_ledger c) 1 1
def N_owners : List Str := ["ledger"]
def rd_owners (c : Str → Addr) : DS := wSeq (wDrop (wCall (sp_check_ledger c) (wCons (wVar 0) (wNil)))) (wRet (wCall (sp_owners_of) (wCons (wVar 0) (wNil))))
@[irreducible] def sp_owners (c : Str → Addr) : DSp := spb true (rd_owners c) 1 1
def N_places : List Str := ["ledger"]
def rd_places (c : Str → Addr) : DS := wSeq (wDrop (wCall (sp_check_ledger c) (wCons (wVar 0) (wNil)))) (wRet (wCall (sp_places_of) (wCons (wVar 0) (wNil))))
@[irreducible] def sp_places (c : Str → Addr) : DSp := spb true (rd_places c) 1 1
def N_others : List Str := ["ledger", "some"]
def rd_others (c : Str → Addr) : DS := wSeq (wDrop (wCall (sp_check_ledger c) (wCons (wVar 0) (wNil)))) (wSeq (wDrop (wCall (sp_check_some c) (wCons (wVar 0) (wCons (wVar 1) (wNil))))) (wRet (wCall (sp_others_of) (wCons (wVar 0) (wCons (wVar 1) (wNil))))))
@[irreducible] def sp_others (c : Str → Addr) : DSp := spb true (rd_others c) 2 2
def N_balance : List Str := ["ledger", "place", "moment"]
def rd_balance (c : Str → Addr) : DS := wSeq (wDrop (wCall (sp_check_ledger c) (wCons (wVar 0) (wNil)))) (wSeq (wDrop (wCall (sp_check_place c) (wCons (wVar 0) (wCons (wVar 1) (wNil))))) (wSeq (wDrop (wCall (sp_check_moment c) (wCons (wVar 0) (wCons (wVar 2) (wNil))))) (wRet (wB2 dIx (wB2 dIx (wCall (sp_balances_of) (wCons (wB2 dIx (wVar 0) (wC (.int 1))) (wNil))) (wVar 2)) (wVar 1)))))
@[irreducible] def sp_balance (c : Str → Addr) : DSp := spb true (rd_balance c) 3 3
def N_lying : List Str := ["ledger", "where"]
def rd_lying (c : Str → Addr) : DS := wSeq (wDrop (wCall (sp_check_ledger c) (wCons (wVar 0) (wNil)))) (wSeq (wDrop (wCall (sp_check_where c) (wCons (wVar 0) (wCons (wVar 1) (wNil))))) (wRet (wCall (sp_lying_at_end) (wCons (wVar 0) (wCons (wVar 1) (wNil))))))
@[irreducible] def sp_lying (c : Str → Addr) : DSp := spb true (rd_lying c) 2 2
def N_came : List Str := ["ledger", "some"]
def rd_came (c : Str → Addr) : DS := wSeq (wDrop (wCall (sp_check_ledger c) (wCons (wVar 0) (wNil)))) (wSeq (wDrop (wCall (sp_check_some c) (wCons (wVar 0) (wCons (wVar 1) (wNil))))) (wRet (wCall (sp_came_of) (wCons (wVar 0) (wCons (wVar 1) (wNil))))))
@[irreducible] def sp_came (c : Str → Addr) : DSp := spb true (rd_came c) 2 2
def N_begun : List Str := ["ledger", "moment"]
def rd_begun (c : Str → Addr) : DS := wSeq (wDrop (wCall (sp_check_ledger c) (wCons (wVar 0) (wNil)))) (wSeq (wDrop (wCall (sp_check_moment c) (wCons (wVar 0) (wCons (wVar 1) (wNil))))) (wRet (wP dTup (wCons (wC (.str "ledger")) (wCons (wSl false (wB2 dIx (wVar 0) (wC (.int 1))) none (some (wVar 1))) (wNil))))))
@[irreducible] def sp_begun (c : Str → Addr) : DSp := spb true (rd_begun c) 2 2
end DL

set_option Elab.async false
set_option linter.all false
set_option maxRecDepth 100000
set_option maxHeartbeats 4000000
namespace DL
open PySem PySem.Spec PyProof.Rows L2 RZ
variable {S : Sto} {Q : D → Sto → Prop} {Ex : Xn → Sto → Prop} {c : Str → Addr}
local macro_rules | `(tactic| walk_at "ev") => `(tactic| try simp (maxSteps := 4000000) (dsimp := false) (implicitDefEqProofs := false) (disch := first | assumption | (show (_ : Nat) ≤ _; omega) | (show (_ : Int) ≤ _ ∧ _; omega)) only [↓u_neg, ↓e_lc, ↓e_lcB_if, ↓e_lcB_ifn, ↓e_lcB_t, ↓e_lcB_if2, ↓e_noG, ↓e_lc_nil, ↓e_lc_cons, ↓e_for_nil, ↓e_nx, ↓e_dc, ↓e_dcB_s, ↓e_rt, ↓e_rtF, ↓e_frzR, ↓e_frzR0, ↓e_xq, ↓e_sb_int, ↓e_sb_bl, ↓e_sb_str, ↓e_sb_non, ↓e_sb_scr, ↓e_sb_loc, ↓e_sb_tup, ↓e_sb_ktp, ↓e_sb_lst, ↓e_sb_dct, ↓e_sb_dcT, ↓e_sbL_nil, ↓e_sbK_nil, ↓e_sbL_cons, ↓e_sbL_ints, ↓e_sbL_strs, ↓e_sbL_bls, ↓e_frz_l0, ↓e_frz_d0, ↓e_frz_l1, ↓e_frz_d1, ↓e_frz_l2, ↓e_asS_tup, ↓e_asS_ktp, ↓e_asS_lst, ↓e_asS_scr, ↓e_asS_int, ↓e_asS_non, ↓e_asS_bl, ↓e_asS_str, ↓e_asS_dct, ↓e_asD_dct, ↓e_asD_int, ↓e_asD_str, ↓e_asD_lst, ↓e_asD_tup, ↓e_asDT_str, ↓e_asL_lst, ↓e_asL_tup, ↓e_asL_ktp, ↓e_asL_dct, ↓e_asL_int, ↓e_asL_bl, ↓e_asL_str, ↓e_asL_non, ↓e_asL_loc, ↓e_asS_loc, ↓e_asD_loc, ↓e_obL_s, ↓e_obL_d, ↓e_obD_s, ↓e_obD_l, ↓e_asK_str, ↓e_asK_int, ↓e_asI_int, ↓e_asTK_tup, ↓e_asTK_ktp, ↓e_asLoc_loc, ↓e_lstOf_lst, ↓e_lstOf_tup, ↓e_itOf_tup, ↓e_itOf_ktp, ↓e_itOf_lst, ↓e_itOf_scr, ↓e_itOf_str, ↓e_alL_f, ↓e_alL_t, ↓e_alD_f, ↓e_alD_t, ↓e_kn_bool, ↓e_kn_int, ↓e_kn_str, ↓e_kn_tuple, ↓e_kn_list, ↓e_kn_dict, ↓e_su_ib, ↓e_su_ii, ↓e_su_ss, ↓e_su_tt, ↓e_sz0, ↓e_sz1, ↓e_sz2, ↓e_sz3, ↓e_sz4, ↓e_sz5, ↓e_sz6, ↓e_sz7, ↓e_sz8, ↓e_sz9, ↓e_sz10, ↓e_sz11, ↓e_sz12, ↓e_app, ↓e_iteT, ↓e_iteF, ↓e_new_len, ↓e_new_len2, ↓e_new_two, ↓e_new_three, ↓e_len_map, ↓e_asBls, ↓e_asStrs, ↓e_asInts, ↓e_asStrs0, ↓e_asInts0, ↓e_asBls0, ↓e_all_id, ↓e_any_id, ↓e_sum, ↓e_all, ↓e_any, ↓e_max1l, ↓e_min1l, ↓e_max2, ↓e_min2, ↓e_ixN0, ↓e_bv_loc, ↓e_bvO_l, ↓e_bvO_d, ↓e_eq_nn, ↓e_eq_cn, ↓e_ok_intsL, ↓e_onB, ↓e_oQ_map, ↓e_inT, ↓e_inK, ↓e_inL, ↓e_ninT, ↓e_ninL, ↓e_setS, ↓e_in1, ↓e_chr_len, ↓e_take_map, ↓e_drop_map, ↓e_rev_map, ↓e_app_map, ↓e_eqTT, ↓e_eqLL, ↓e_eqL_nil, ↓e_eqL_cons, ↓e_eqL_nc, ↓e_eqL_cn, ↓e_eqL_strs, ↓e_eqL_ints, ↓e_eqL_m0, ↓e_eqL0, ↓e_eqT0, ↓e_wSkip, ↓e_wSeq, ↓e_wDrop, ↓e_wRet, ↓e_wRetN, ↓e_wBrk, ↓e_wCnt, ↓e_wIfS, ↓e_wSet, ↓e_wTup, ↓e_tg_nm, ↓e_tg_tp, ↓e_setAll_n, ↓e_setAll_c, ↓e_vQ, ↓e_wVar, ↓e_wC, ↓e_wNil, ↓e_wCons, ↓e_wB1, ↓e_wB2, ↓e_wAnd, ↓e_wOr, ↓e_wNot, ↓e_wIf, ↓e_wB, ↓e_wChain, ↓e_wAndV, ↓e_wOrV, ↓e_wNotV, ↓e_wP, ↓e_wGet2, ↓e_getQ_d, ↓e_getQ_l, ↓e_getO_d, ↓e_getO_t, ↓e_wSl, ↓e_wM, ↓e_pop, ↓e_popi, ↓e_wCall, ↓e_wCallK, ↓e_wLc, ↓e_wDc, ↓e_wSeqI, ↓e_wRng1, ↓e_wRng2, ↓e_wEnum, ↓e_enumI, ↓e_wZip, ↓e_wFor, ↓e_wYes, ↓e_wPut, ↓e_wDisp, ↓e_disp_n, ↓e_disp_c, ↓e_wRaise, ↓e_wDict0, ↓e_spb, ↓e_c0, ↓e_c1, ↓e_c2, ↓e_c3, ↓e_c4, ↓e_c5, ↓e_c6, ↓e_c7, ↓e_c8, ↓e_add_i, ↓e_add_s, ↓e_add_t, ↓e_add_l, ↓e_sub_i, ↓e_mul_i, ↓e_mul_l, ↓e_fdiv_i, ↓e_mod_i, ↓e_pow_i, ↓e_neg_i, ↓e_lt_i, ↓e_lt_s, ↓e_le_i, ↓e_gt_i, ↓e_ge_i, ↓e_is_n, ↓e_is_b, ↓e_isN_n, ↓e_isN_b, ↓e_isNon_n, ↓e_isNon_i, ↓e_isNon_s, ↓e_isNon_t, ↓e_isNon_l, ↓e_isNon_b, ↓e_ix_t, ↓e_ix_k, ↓e_ix_l, ↓e_ix_ds, ↓e_ix_di, ↓e_ix_s, ↓e_obDT_l, ↓e_obDT_d, ↓e_obDT_t, ↓e_obD_t, ↓e_obL_t, ↓e_ix_loc, ↓e_ixO_l, ↓e_ixO_d, ↓e_ixO_t, ↓e_len_loc, ↓e_lenO_l, ↓e_lenO_d, ↓e_lenO_t, ↓e_tuple_loc, ↓e_list_loc, ↓e_listO_l, ↓e_listO_d, ↓e_list_d, ↓e_add_ll, ↓e_sl_loc, ↓e_tup, ↓e_lst, ↓e_len_t, ↓e_len_k, ↓e_len_l, ↓e_len_d, ↓e_len_r, ↓e_len_s, ↓e_abs, ↓e_int_i, ↓e_int_b, ↓e_tuple_t, ↓e_tuple_l, ↓e_list_t, ↓e_list_l, ↓e_dict_d, ↓e_dict_l, ↓e_sorted_l, ↓e_isi, ↓e_ty_n, ↓e_ty_b, ↓e_ty_i, ↓e_ty_s, ↓e_ty_t, ↓e_ty_l, ↓e_ty_d, ↓e_sl_t, ↓e_sl_l, ↓e_rev_t, ↓e_rev_l, ↓e_cut_to1, ↓e_cut_from1, ↓e_cut_to, ↓e_cut_from, ↓e_wopt_n, ↓e_intQ, ↓e_wopt_s, ↓e_blQ, ↓e_wT, ↓e_putD0, ↓e_putD1, ↓e_putL0, ↓e_putL1, ↓e_setS_f, ↓e_setS_a, ↓e_wd_in, ↓e_wd_mv, ↓e_ok_wd, ↓e_ok_in, ↓e_ok_move, ↓e_en_S, ↓e_en_TK, ↓e_en_L, ↓e_en_ty, ↓e_en_bv, ↓e_en_sb, ↓e_ens_sb, ↓e_bal_sb, ↓e_bals_sb, ↓e_en_isNon, ↓e_en_ix0, ↓e_en_ix1, ↓e_en_ix2, ↓e_en_ix3, ↓e_own, ↓e_pl, ↓e_eqL_ens, ↓e_getD_bal, ↓e_put_bal, ↓e_balK_len, ↓e_getput, ↓e_sorted_bal, ↓e_asS_dw, ↓e_asD_dw, ↓e_v_large, ↓e_v_cells, ↓e_v_rest, ↓e_v_turn, ↓e_dw_0, ↓e_dw_1, ↓e_dw_set0, ↓e_put_rest, ↓e_put_turn, ↓reduceIte, ↓oQ_s, startD, permL, List.map_cons, List.map_nil, List.length_cons, List.length_nil, List.replicate, List.getElem?_cons_succ, List.getElem?_cons_zero, List.cons_append, List.nil_append, List.set_cons_succ, List.set_cons_zero, Nat.reduceAdd, Nat.reduceSub, Nat.reduceEqDiff, wipeD, List.filterMap_cons, List.filterMap_nil, List.length_range, List.getElem?_map, Int.zero_add, List.length_map, List.eraseIdx_cons_zero, Bool.and_true, Bool.true_and, Bool.and_false, Bool.false_and, oQ_s, oQ_n, if_t, if_f, dEq, dNe, bv_int, bv_bl, bv_str, bv_tup, bv_lst, bv_non, eqD_int, eqD_str, eqD_bl, atI0, atI1, atI2, atI3, atI4, atI_nat, atI_nat', atI_succ, ok_int, ok_bl, ok_nil, sto_at, sto_at0, sto_set, sto_set0, Option.isSome_some, Option.isSome_none, Bool.false_eq_true, or_false, false_or, true_or, or_true, Option.map_some, Option.map_none, true_and, and_true, false_and, and_false, Bool.not_true, Bool.not_false, reduceIte, decide_true, decide_false, Bool.decide_eq_true, Bool.decide_eq_false, Bool.not_not, eq_self, reduceCtorEq, Int.reduceEq, Int.reduceLT, Int.reduceLE, u_neg, e_lc, e_lcB_if, e_lcB_ifn, e_lcB_t, e_lcB_if2, e_noG, e_lc_nil, e_lc_cons, e_for_nil, e_nx, e_dc, e_dcB_s, e_rt, e_rtF, e_frzR, e_frzR0, e_xq, e_sb_int, e_sb_bl, e_sb_str, e_sb_non, e_sb_scr, e_sb_loc, e_sb_tup, e_sb_ktp, e_sb_lst, e_sb_dct, e_sb_dcT, e_sbL_nil, e_sbK_nil, e_sbL_cons, e_sbL_ints, e_sbL_strs, e_sbL_bls, e_frz_l0, e_frz_d0, e_frz_l1, e_frz_d1, e_frz_l2, e_asS_tup, e_asS_ktp, e_asS_lst, e_asS_scr, e_asS_int, e_asS_non, e_asS_bl, e_asS_str, e_asS_dct, e_asD_dct, e_asD_int, e_asD_str, e_asD_lst, e_asD_tup, e_asDT_str, e_asL_lst, e_asL_tup, e_asL_ktp, e_asL_dct, e_asL_int, e_asL_bl, e_asL_str, e_asL_non, e_asL_loc, e_asS_loc, e_asD_loc, e_obL_s, e_obL_d, e_obD_s, e_obD_l, e_asK_str, e_asK_int, e_asI_int, e_asTK_tup, e_asTK_ktp, e_asLoc_loc, e_lstOf_lst, e_lstOf_tup, e_itOf_tup, e_itOf_ktp, e_itOf_lst, e_itOf_scr, e_itOf_str, e_alL_f, e_alL_t, e_alD_f, e_alD_t, e_kn_bool, e_kn_int, e_kn_str, e_kn_tuple, e_kn_list, e_kn_dict, e_su_ib, e_su_ii, e_su_ss, e_su_tt, e_sz0, e_sz1, e_sz2, e_sz3, e_sz4, e_sz5, e_sz6, e_sz7, e_sz8, e_sz9, e_sz10, e_sz11, e_sz12, e_app, e_iteT, e_iteF, e_new_len, e_new_len2, e_new_two, e_new_three, e_len_map, e_asBls, e_asStrs, e_asInts, e_asStrs0, e_asInts0, e_asBls0, e_all_id, e_any_id, e_sum, e_all, e_any, e_max1l, e_min1l, e_max2, e_min2, e_ixN0, e_bv_loc, e_bvO_l, e_bvO_d, e_eq_nn, e_eq_cn, e_ok_intsL, e_onB, e_oQ_map, e_inT, e_inK, e_inL, e_ninT, e_ninL, e_setS, e_in1, e_chr_len, ec_oQh, e_take_map, e_drop_map, e_rev_map, e_app_map, e_eqTT, e_eqLL, e_eqL_nil, e_eqL_cons, e_eqL_nc, e_eqL_cn, e_eqL_strs, e_eqL_ints, e_eqL_m0, e_eqL0, e_eqT0, e_wSkip, e_wSeq, e_wDrop, e_wRet, e_wRetN, e_wBrk, e_wCnt, e_wIfS, e_wSet, e_wTup, e_tg_nm, e_tg_tp, e_setAll_n, e_setAll_c, e_vQ, e_wVar, e_wC, e_wNil, e_wCons, e_wB1, e_wB2, e_wAnd, e_wOr, e_wNot, e_wIf, e_wB, e_wChain, e_wAndV, e_wOrV, e_wNotV, e_wP, e_wGet2, e_getQ_d, e_getQ_l, e_getO_d, e_getO_t, e_wSl, e_wM, e_pop, e_popi, e_wCall, e_wCallK, e_wLc, e_wDc, e_wSeqI, e_wRng1, e_wRng2, e_wEnum, e_enumI, e_wZip, e_wFor, e_wYes, e_wPut, e_wDisp, e_disp_n, e_disp_c, e_wRaise, e_wDict0, e_spb, e_c0, e_c1, e_c2, e_c3, e_c4, e_c5, e_c6, e_c7, e_c8, e_add_i, e_add_s, e_add_t, e_add_l, e_sub_i, e_mul_i, e_mul_l, e_fdiv_i, e_mod_i, e_pow_i, e_neg_i, e_lt_i, e_lt_s, e_le_i, e_gt_i, e_ge_i, e_is_n, e_is_b, e_isN_n, e_isN_b, e_isNon_n, e_isNon_i, e_isNon_s, e_isNon_t, e_isNon_l, e_isNon_b, e_ix_t, e_ix_k, e_ix_l, e_ix_ds, e_ix_di, e_ix_s, e_obDT_l, e_obDT_d, e_obDT_t, e_obD_t, e_obL_t, e_ix_loc, e_ixO_l, e_ixO_d, e_ixO_t, e_len_loc, e_lenO_l, e_lenO_d, e_lenO_t, e_tuple_loc, e_list_loc, e_listO_l, e_listO_d, e_list_d, e_add_ll, e_sl_loc, e_tup, e_lst, e_len_t, e_len_k, e_len_l, e_len_d, e_len_r, e_len_s, e_abs, e_int_i, e_int_b, e_tuple_t, e_tuple_l, e_list_t, e_list_l, e_dict_d, e_dict_l, e_sorted_l, e_isi, e_ty_n, e_ty_b, e_ty_i, e_ty_s, e_ty_t, e_ty_l, e_ty_d, e_sl_t, e_sl_l, e_rev_t, e_rev_l, e_cut_to1, e_cut_from1, e_cut_to, e_cut_from, ec_ok_str, ec_szle, ec_szlt, ec_rng1, ec_rng2, e_wopt_n, e_intQ, e_wopt_s, e_blQ, e_wT, e_putD0, e_putD1, e_putL0, e_putL1, e_setS_f, e_setS_a, e_wd_in, e_wd_mv, e_ok_wd, e_ok_in, e_ok_move, e_en_S, e_en_TK, e_en_L, e_en_ty, e_en_bv, e_en_sb, e_ens_sb, e_bal_sb, e_bals_sb, e_en_isNon, e_en_ix0, e_en_ix1, e_en_ix2, e_en_ix3, e_own, e_pl, ec_own64, ec_pl64, ec_es_sz, e_eqL_ens, e_getD_bal, e_put_bal, e_balK_len, ec_val_mem, e_getput, e_sorted_bal, e_asS_dw, e_asD_dw, e_v_large, e_v_cells, e_v_rest, e_v_turn, e_dw_0, e_dw_1, e_dw_set0, e_put_rest, e_put_turn])
--# is_number
theorem u_is_number {n lo hi : Int} : sp_is_number [.int n, .int lo, .int hi] S Q Ex = Q (.bl (decide (lo ≤ n) && decide (n ≤ hi))) S := by
  unfold sp_is_number rd_is_number
  walk_at "ev"
  cases decide (lo ≤ n) <;> rfl
--# is_word
theorem u_is_wordT {x : Str} {xs : List Str} : sp_is_word [.str x, .tup (xs.map D.str)] S Q Ex = Q (.bl (xs.contains x)) S := by
  unfold sp_is_word rd_is_word
  walk_at "ev"
theorem u_is_word1 {x a : Str} : sp_is_word [.str x, .tup [.str a]] S Q Ex = Q (.bl (decide (x = a))) S := by
  have := u_is_wordT (S := S) (Q := Q) (Ex := Ex) (x := x) (xs := [a])
  have e : [a].contains x = decide (x = a) := by by_cases h : x = a <;> simp [h]
  rw [e] at this
  exact this
theorem u_is_word2 {x a b : Str} : sp_is_word [.str x, .tup [.str a, .str b]] S Q Ex = Q (.bl (decide (x = a) || decide (x = b))) S := by
  have := u_is_wordT (S := S) (Q := Q) (Ex := Ex) (x := x) (xs := [a, b])
  have e : [a, b].contains x = (decide (x = a) || decide (x = b)) := by by_cases h : x = a <;> by_cases h2 : x = b <;> simp [h, h2]
  rw [e] at this
  exact this
--# is_row
theorem u_is_row {xs : List D} {k : Int} : sp_is_row [.tup xs, .int k] S Q Ex = Q (.bl (decide ((xs.length : Int) = k))) S := by
  unfold sp_is_row rd_is_row
  walk_at "ev"
theorem u_is_row_en {e : En} {k : Int} : sp_is_row [e.d, .int k] S Q Ex = Q (.bl (decide (4 = k))) S := u_is_row
--# is_name
theorem u_is_name {x : Str} (hx : x.length ≤ sizeLine) : sp_is_name [.str x] S Q Ex = Q (.bl (isNm x)) S := by
  unfold sp_is_name rd_is_name
  walk_at "ev"
  have h2 : x.cps.toList.length ≤ sizeLine := by rw [chr_len']; exact hx
  simp only [hx, h2, true_and]
  unfold isNm letters
  cases decide ((1 : Int) ≤ x.length) <;> cases decide ((x.length : Int) ≤ 8) <;> cases kt_KEPT.contains x <;> simp
--# are_ascending
theorem u_are_ascending {xs : List Str} (hx : xs.length ≤ 100) : sp_are_ascending [.tup (xs.map D.str)] S Q Ex = Q (.bl (ascB xs)) S := by
  unfold sp_are_ascending rd_are_ascending
  have en : ((xs.length : Int) - 1).toNat = xs.length - 1 := by omega
  walk_at "ev"
  rw [en]
  rw [lcB_mem (fun k => D.bl (ltO xs[k]? xs[k + 1]?)) (fun k hk Ky Kn => ?_)]
  · walk_at "ev"
    rw [← asc_get]
  · have hk := List.mem_range.mp hk
    have h1 : k < xs.length := by omega
    have h2 : k + 1 < xs.length := by omega
    rw [List.getElem?_eq_getElem h1]
    walk_at "ev"
    rw [List.getElem?_eq_getElem h2]
    rfl
local macro_rules | `(tactic| walk_at "ev") => `(tactic| try simp (maxSteps := 4000000) (dsimp := false) (implicitDefEqProofs := false) (disch := first | assumption | (show (_ : Nat) ≤ _; omega) | (show (_ : Int) ≤ _ ∧ _; omega)) only [↓u_neg, ↓e_lc, ↓e_lcB_if, ↓e_lcB_ifn, ↓e_lcB_t, ↓e_lcB_if2, ↓e_noG, ↓e_lc_nil, ↓e_lc_cons, ↓e_for_nil, ↓e_nx, ↓e_dc, ↓e_dcB_s, ↓e_rt, ↓e_rtF, ↓e_frzR, ↓e_frzR0, ↓e_xq, ↓e_sb_int, ↓e_sb_bl, ↓e_sb_str, ↓e_sb_non, ↓e_sb_scr, ↓e_sb_loc, ↓e_sb_tup, ↓e_sb_ktp, ↓e_sb_lst, ↓e_sb_dct, ↓e_sb_dcT, ↓e_sbL_nil, ↓e_sbK_nil, ↓e_sbL_cons, ↓e_sbL_ints, ↓e_sbL_strs, ↓e_sbL_bls, ↓e_frz_l0, ↓e_frz_d0, ↓e_frz_l1, ↓e_frz_d1, ↓e_frz_l2, ↓e_asS_tup, ↓e_asS_ktp, ↓e_asS_lst, ↓e_asS_scr, ↓e_asS_int, ↓e_asS_non, ↓e_asS_bl, ↓e_asS_str, ↓e_asS_dct, ↓e_asD_dct, ↓e_asD_int, ↓e_asD_str, ↓e_asD_lst, ↓e_asD_tup, ↓e_asDT_str, ↓e_asL_lst, ↓e_asL_tup, ↓e_asL_ktp, ↓e_asL_dct, ↓e_asL_int, ↓e_asL_bl, ↓e_asL_str, ↓e_asL_non, ↓e_asL_loc, ↓e_asS_loc, ↓e_asD_loc, ↓e_obL_s, ↓e_obL_d, ↓e_obD_s, ↓e_obD_l, ↓e_asK_str, ↓e_asK_int, ↓e_asI_int, ↓e_asTK_tup, ↓e_asTK_ktp, ↓e_asLoc_loc, ↓e_lstOf_lst, ↓e_lstOf_tup, ↓e_itOf_tup, ↓e_itOf_ktp, ↓e_itOf_lst, ↓e_itOf_scr, ↓e_itOf_str, ↓e_alL_f, ↓e_alL_t, ↓e_alD_f, ↓e_alD_t, ↓e_kn_bool, ↓e_kn_int, ↓e_kn_str, ↓e_kn_tuple, ↓e_kn_list, ↓e_kn_dict, ↓e_su_ib, ↓e_su_ii, ↓e_su_ss, ↓e_su_tt, ↓e_sz0, ↓e_sz1, ↓e_sz2, ↓e_sz3, ↓e_sz4, ↓e_sz5, ↓e_sz6, ↓e_sz7, ↓e_sz8, ↓e_sz9, ↓e_sz10, ↓e_sz11, ↓e_sz12, ↓e_app, ↓e_iteT, ↓e_iteF, ↓e_new_len, ↓e_new_len2, ↓e_new_two, ↓e_new_three, ↓e_len_map, ↓e_asBls, ↓e_asStrs, ↓e_asInts, ↓e_asStrs0, ↓e_asInts0, ↓e_asBls0, ↓e_all_id, ↓e_any_id, ↓e_sum, ↓e_all, ↓e_any, ↓e_max1l, ↓e_min1l, ↓e_max2, ↓e_min2, ↓e_ixN0, ↓e_bv_loc, ↓e_bvO_l, ↓e_bvO_d, ↓e_eq_nn, ↓e_eq_cn, ↓e_ok_intsL, ↓e_onB, ↓e_oQ_map, ↓e_inT, ↓e_inK, ↓e_inL, ↓e_ninT, ↓e_ninL, ↓e_setS, ↓e_in1, ↓e_chr_len, ↓e_take_map, ↓e_drop_map, ↓e_rev_map, ↓e_app_map, ↓e_eqTT, ↓e_eqLL, ↓e_eqL_nil, ↓e_eqL_cons, ↓e_eqL_nc, ↓e_eqL_cn, ↓e_eqL_strs, ↓e_eqL_ints, ↓e_eqL_m0, ↓e_eqL0, ↓e_eqT0, ↓e_wSkip, ↓e_wSeq, ↓e_wDrop, ↓e_wRet, ↓e_wRetN, ↓e_wBrk, ↓e_wCnt, ↓e_wIfS, ↓e_wSet, ↓e_wTup, ↓e_tg_nm, ↓e_tg_tp, ↓e_setAll_n, ↓e_setAll_c, ↓e_vQ, ↓e_wVar, ↓e_wC, ↓e_wNil, ↓e_wCons, ↓e_wB1, ↓e_wB2, ↓e_wAnd, ↓e_wOr, ↓e_wNot, ↓e_wIf, ↓e_wB, ↓e_wChain, ↓e_wAndV, ↓e_wOrV, ↓e_wNotV, ↓e_wP, ↓e_wGet2, ↓e_getQ_d, ↓e_getQ_l, ↓e_getO_d, ↓e_getO_t, ↓e_wSl, ↓e_wM, ↓e_pop, ↓e_popi, ↓e_wCall, ↓e_wCallK, ↓e_wLc, ↓e_wDc, ↓e_wSeqI, ↓e_wRng1, ↓e_wRng2, ↓e_wEnum, ↓e_enumI, ↓e_wZip, ↓e_wFor, ↓e_wYes, ↓e_wPut, ↓e_wDisp, ↓e_disp_n, ↓e_disp_c, ↓e_wRaise, ↓e_wDict0, ↓e_spb, ↓e_c0, ↓e_c1, ↓e_c2, ↓e_c3, ↓e_c4, ↓e_c5, ↓e_c6, ↓e_c7, ↓e_c8, ↓e_add_i, ↓e_add_s, ↓e_add_t, ↓e_add_l, ↓e_sub_i, ↓e_mul_i, ↓e_mul_l, ↓e_fdiv_i, ↓e_mod_i, ↓e_pow_i, ↓e_neg_i, ↓e_lt_i, ↓e_lt_s, ↓e_le_i, ↓e_gt_i, ↓e_ge_i, ↓e_is_n, ↓e_is_b, ↓e_isN_n, ↓e_isN_b, ↓e_isNon_n, ↓e_isNon_i, ↓e_isNon_s, ↓e_isNon_t, ↓e_isNon_l, ↓e_isNon_b, ↓e_ix_t, ↓e_ix_k, ↓e_ix_l, ↓e_ix_ds, ↓e_ix_di, ↓e_ix_s, ↓e_obDT_l, ↓e_obDT_d, ↓e_obDT_t, ↓e_obD_t, ↓e_obL_t, ↓e_ix_loc, ↓e_ixO_l, ↓e_ixO_d, ↓e_ixO_t, ↓e_len_loc, ↓e_lenO_l, ↓e_lenO_d, ↓e_lenO_t, ↓e_tuple_loc, ↓e_list_loc, ↓e_listO_l, ↓e_listO_d, ↓e_list_d, ↓e_add_ll, ↓e_sl_loc, ↓e_tup, ↓e_lst, ↓e_len_t, ↓e_len_k, ↓e_len_l, ↓e_len_d, ↓e_len_r, ↓e_len_s, ↓e_abs, ↓e_int_i, ↓e_int_b, ↓e_tuple_t, ↓e_tuple_l, ↓e_list_t, ↓e_list_l, ↓e_dict_d, ↓e_dict_l, ↓e_sorted_l, ↓e_isi, ↓e_ty_n, ↓e_ty_b, ↓e_ty_i, ↓e_ty_s, ↓e_ty_t, ↓e_ty_l, ↓e_ty_d, ↓e_sl_t, ↓e_sl_l, ↓e_rev_t, ↓e_rev_l, ↓e_cut_to1, ↓e_cut_from1, ↓e_cut_to, ↓e_cut_from, ↓e_wopt_n, ↓e_intQ, ↓e_wopt_s, ↓e_blQ, ↓e_wT, ↓e_putD0, ↓e_putD1, ↓e_putL0, ↓e_putL1, ↓e_setS_f, ↓e_setS_a, ↓e_wd_in, ↓e_wd_mv, ↓e_ok_wd, ↓e_ok_in, ↓e_ok_move, ↓e_en_S, ↓e_en_TK, ↓e_en_L, ↓e_en_ty, ↓e_en_bv, ↓e_en_sb, ↓e_ens_sb, ↓e_bal_sb, ↓e_bals_sb, ↓e_en_isNon, ↓e_en_ix0, ↓e_en_ix1, ↓e_en_ix2, ↓e_en_ix3, ↓e_own, ↓e_pl, ↓e_eqL_ens, ↓e_getD_bal, ↓e_put_bal, ↓e_balK_len, ↓e_getput, ↓e_sorted_bal, ↓e_asS_dw, ↓e_asD_dw, ↓e_v_large, ↓e_v_cells, ↓e_v_rest, ↓e_v_turn, ↓e_dw_0, ↓e_dw_1, ↓e_dw_set0, ↓e_put_rest, ↓e_put_turn, ↓u_is_number, ↓u_is_wordT, ↓u_is_word1, ↓u_is_word2, ↓u_is_row, ↓u_is_row_en, ↓u_is_name, ↓u_are_ascending, ↓reduceIte, ↓oQ_s, startD, permL, List.map_cons, List.map_nil, List.length_cons, List.length_nil, List.replicate, List.getElem?_cons_succ, List.getElem?_cons_zero, List.cons_append, List.nil_append, List.set_cons_succ, List.set_cons_zero, Nat.reduceAdd, Nat.reduceSub, Nat.reduceEqDiff, wipeD, List.filterMap_cons, List.filterMap_nil, List.length_range, List.getElem?_map, Int.zero_add, List.length_map, List.eraseIdx_cons_zero, Bool.and_true, Bool.true_and, Bool.and_false, Bool.false_and, oQ_s, oQ_n, if_t, if_f, dEq, dNe, bv_int, bv_bl, bv_str, bv_tup, bv_lst, bv_non, eqD_int, eqD_str, eqD_bl, atI0, atI1, atI2, atI3, atI4, atI_nat, atI_nat', atI_succ, ok_int, ok_bl, ok_nil, sto_at, sto_at0, sto_set, sto_set0, Option.isSome_some, Option.isSome_none, Bool.false_eq_true, or_false, false_or, true_or, or_true, Option.map_some, Option.map_none, true_and, and_true, false_and, and_false, Bool.not_true, Bool.not_false, reduceIte, decide_true, decide_false, Bool.decide_eq_true, Bool.decide_eq_false, Bool.not_not, eq_self, reduceCtorEq, Int.reduceEq, Int.reduceLT, Int.reduceLE, u_neg, e_lc, e_lcB_if, e_lcB_ifn, e_lcB_t, e_lcB_if2, e_noG, e_lc_nil, e_lc_cons, e_for_nil, e_nx, e_dc, e_dcB_s, e_rt, e_rtF, e_frzR, e_frzR0, e_xq, e_sb_int, e_sb_bl, e_sb_str, e_sb_non, e_sb_scr, e_sb_loc, e_sb_tup, e_sb_ktp, e_sb_lst, e_sb_dct, e_sb_dcT, e_sbL_nil, e_sbK_nil, e_sbL_cons, e_sbL_ints, e_sbL_strs, e_sbL_bls, e_frz_l0, e_frz_d0, e_frz_l1, e_frz_d1, e_frz_l2, e_asS_tup, e_asS_ktp, e_asS_lst, e_asS_scr, e_asS_int, e_asS_non, e_asS_bl, e_asS_str, e_asS_dct, e_asD_dct, e_asD_int, e_asD_str, e_asD_lst, e_asD_tup, e_asDT_str, e_asL_lst, e_asL_tup, e_asL_ktp, e_asL_dct, e_asL_int, e_asL_bl, e_asL_str, e_asL_non, e_asL_loc, e_asS_loc, e_asD_loc, e_obL_s, e_obL_d, e_obD_s, e_obD_l, e_asK_str, e_asK_int, e_asI_int, e_asTK_tup, e_asTK_ktp, e_asLoc_loc, e_lstOf_lst, e_lstOf_tup, e_itOf_tup, e_itOf_ktp, e_itOf_lst, e_itOf_scr, e_itOf_str, e_alL_f, e_alL_t, e_alD_f, e_alD_t, e_kn_bool, e_kn_int, e_kn_str, e_kn_tuple, e_kn_list, e_kn_dict, e_su_ib, e_su_ii, e_su_ss, e_su_tt, e_sz0, e_sz1, e_sz2, e_sz3, e_sz4, e_sz5, e_sz6, e_sz7, e_sz8, e_sz9, e_sz10, e_sz11, e_sz12, e_app, e_iteT, e_iteF, e_new_len, e_new_len2, e_new_two, e_new_three, e_len_map, e_asBls, e_asStrs, e_asInts, e_asStrs0, e_asInts0, e_asBls0, e_all_id, e_any_id, e_sum, e_all, e_any, e_max1l, e_min1l, e_max2, e_min2, e_ixN0, e_bv_loc, e_bvO_l, e_bvO_d, e_eq_nn, e_eq_cn, e_ok_intsL, e_onB, e_oQ_map, e_inT, e_inK, e_inL, e_ninT, e_ninL, e_setS, e_in1, e_chr_len, ec_oQh, e_take_map, e_drop_map, e_rev_map, e_app_map, e_eqTT, e_eqLL, e_eqL_nil, e_eqL_cons, e_eqL_nc, e_eqL_cn, e_eqL_strs, e_eqL_ints, e_eqL_m0, e_eqL0, e_eqT0, e_wSkip, e_wSeq, e_wDrop, e_wRet, e_wRetN, e_wBrk, e_wCnt, e_wIfS, e_wSet, e_wTup, e_tg_nm, e_tg_tp, e_setAll_n, e_setAll_c, e_vQ, e_wVar, e_wC, e_wNil, e_wCons, e_wB1, e_wB2, e_wAnd, e_wOr, e_wNot, e_wIf, e_wB, e_wChain, e_wAndV, e_wOrV, e_wNotV, e_wP, e_wGet2, e_getQ_d, e_getQ_l, e_getO_d, e_getO_t, e_wSl, e_wM, e_pop, e_popi, e_wCall, e_wCallK, e_wLc, e_wDc, e_wSeqI, e_wRng1, e_wRng2, e_wEnum, e_enumI, e_wZip, e_wFor, e_wYes, e_wPut, e_wDisp, e_disp_n, e_disp_c, e_wRaise, e_wDict0, e_spb, e_c0, e_c1, e_c2, e_c3, e_c4, e_c5, e_c6, e_c7, e_c8, e_add_i, e_add_s, e_add_t, e_add_l, e_sub_i, e_mul_i, e_mul_l, e_fdiv_i, e_mod_i, e_pow_i, e_neg_i, e_lt_i, e_lt_s, e_le_i, e_gt_i, e_ge_i, e_is_n, e_is_b, e_isN_n, e_isN_b, e_isNon_n, e_isNon_i, e_isNon_s, e_isNon_t, e_isNon_l, e_isNon_b, e_ix_t, e_ix_k, e_ix_l, e_ix_ds, e_ix_di, e_ix_s, e_obDT_l, e_obDT_d, e_obDT_t, e_obD_t, e_obL_t, e_ix_loc, e_ixO_l, e_ixO_d, e_ixO_t, e_len_loc, e_lenO_l, e_lenO_d, e_lenO_t, e_tuple_loc, e_list_loc, e_listO_l, e_listO_d, e_list_d, e_add_ll, e_sl_loc, e_tup, e_lst, e_len_t, e_len_k, e_len_l, e_len_d, e_len_r, e_len_s, e_abs, e_int_i, e_int_b, e_tuple_t, e_tuple_l, e_list_t, e_list_l, e_dict_d, e_dict_l, e_sorted_l, e_isi, e_ty_n, e_ty_b, e_ty_i, e_ty_s, e_ty_t, e_ty_l, e_ty_d, e_sl_t, e_sl_l, e_rev_t, e_rev_l, e_cut_to1, e_cut_from1, e_cut_to, e_cut_from, ec_ok_str, ec_szle, ec_szlt, ec_rng1, ec_rng2, e_wopt_n, e_intQ, e_wopt_s, e_blQ, e_wT, e_putD0, e_putD1, e_putL0, e_putL1, e_setS_f, e_setS_a, e_wd_in, e_wd_mv, e_ok_wd, e_ok_in, e_ok_move, e_en_S, e_en_TK, e_en_L, e_en_ty, e_en_bv, e_en_sb, e_ens_sb, e_bal_sb, e_bals_sb, e_en_isNon, e_en_ix0, e_en_ix1, e_en_ix2, e_en_ix3, e_own, e_pl, ec_own64, ec_pl64, ec_es_sz, e_eqL_ens, e_getD_bal, e_put_bal, e_balK_len, ec_val_mem, e_getput, e_sorted_bal, e_asS_dw, e_asD_dw, e_v_large, e_v_cells, e_v_rest, e_v_turn, e_dw_0, e_dw_1, e_dw_set0, e_put_rest, e_put_turn, u_is_number, u_is_wordT, u_is_word1, u_is_word2, u_is_row, u_is_row_en, u_is_name, u_are_ascending])

--# is_lot_of
theorem u_is_lot_of {xs ns : List Str} (hx : xs.length ≤ 100) : sp_is_lot_of [.tup (xs.map D.str), .tup (ns.map D.str)] S Q Ex = Q (.bl (lotB xs ns)) S := by
  unfold sp_is_lot_of rd_is_lot_of
  walk_at "ev"
  unfold lotB
  have h1 : decide ((ns.length : Int) < xs.length) = !decide (xs.length ≤ ns.length) := by
    by_cases h : xs.length ≤ ns.length
    · rw [decide_eq_true h, decide_eq_false (by omega)]; rfl
    · rw [decide_eq_false h, decide_eq_true (by omega)]; rfl
  rw [h1]
  cases decide (xs.length ≤ ns.length) <;> cases xs.all ns.contains <;> simp

end DL

set_option Elab.async false
set_option linter.all false
set_option maxRecDepth 100000
set_option maxHeartbeats 4000000
namespace DL
open PySem PySem.Spec PyProof.Rows L2 RZ
variable {S : Sto} {Q : D → Sto → Prop} {Ex : Xn → Sto → Prop} {c : Str → Addr}
local macro_rules | `(tactic| walk_at "ev") => `(tactic| try simp (maxSteps := 4000000) (dsimp := false) (implicitDefEqProofs := false) (disch := first | assumption | (show (_ : Nat) ≤ _; omega) | (show (_ : Int) ≤ _ ∧ _; omega)) only [↓u_neg, ↓e_lc, ↓e_lcB_if, ↓e_lcB_ifn, ↓e_lcB_t, ↓e_lcB_if2, ↓e_noG, ↓e_lc_nil, ↓e_lc_cons, ↓e_for_nil, ↓e_nx, ↓e_dc, ↓e_dcB_s, ↓e_rt, ↓e_rtF, ↓e_frzR, ↓e_frzR0, ↓e_xq, ↓e_sb_int, ↓e_sb_bl, ↓e_sb_str, ↓e_sb_non, ↓e_sb_scr, ↓e_sb_loc, ↓e_sb_tup, ↓e_sb_ktp, ↓e_sb_lst, ↓e_sb_dct, ↓e_sb_dcT, ↓e_sbL_nil, ↓e_sbK_nil, ↓e_sbL_cons, ↓e_sbL_ints, ↓e_sbL_strs, ↓e_sbL_bls, ↓e_frz_l0, ↓e_frz_d0, ↓e_frz_l1, ↓e_frz_d1, ↓e_frz_l2, ↓e_asS_tup, ↓e_asS_ktp, ↓e_asS_lst, ↓e_asS_scr, ↓e_asS_int, ↓e_asS_non, ↓e_asS_bl, ↓e_asS_str, ↓e_asS_dct, ↓e_asD_dct, ↓e_asD_int, ↓e_asD_str, ↓e_asD_lst, ↓e_asD_tup, ↓e_asDT_str, ↓e_asL_lst, ↓e_asL_tup, ↓e_asL_ktp, ↓e_asL_dct, ↓e_asL_int, ↓e_asL_bl, ↓e_asL_str, ↓e_asL_non, ↓e_asL_loc, ↓e_asS_loc, ↓e_asD_loc, ↓e_obL_s, ↓e_obL_d, ↓e_obD_s, ↓e_obD_l, ↓e_asK_str, ↓e_asK_int, ↓e_asI_int, ↓e_asTK_tup, ↓e_asTK_ktp, ↓e_asLoc_loc, ↓e_lstOf_lst, ↓e_lstOf_tup, ↓e_itOf_tup, ↓e_itOf_ktp, ↓e_itOf_lst, ↓e_itOf_scr, ↓e_itOf_str, ↓e_alL_f, ↓e_alL_t, ↓e_alD_f, ↓e_alD_t, ↓e_kn_bool, ↓e_kn_int, ↓e_kn_str, ↓e_kn_tuple, ↓e_kn_list, ↓e_kn_dict, ↓e_su_ib, ↓e_su_ii, ↓e_su_ss, ↓e_su_tt, ↓e_sz0, ↓e_sz1, ↓e_sz2, ↓e_sz3, ↓e_sz4, ↓e_sz5, ↓e_sz6, ↓e_sz7, ↓e_sz8, ↓e_sz9, ↓e_sz10, ↓e_sz11, ↓e_sz12, ↓e_app, ↓e_iteT, ↓e_iteF, ↓e_new_len, ↓e_new_len2, ↓e_new_two, ↓e_new_three, ↓e_len_map, ↓e_asBls, ↓e_asStrs, ↓e_asInts, ↓e_asStrs0, ↓e_asInts0, ↓e_asBls0, ↓e_all_id, ↓e_any_id, ↓e_sum, ↓e_all, ↓e_any, ↓e_max1l, ↓e_min1l, ↓e_max2, ↓e_min2, ↓e_ixN0, ↓e_bv_loc, ↓e_bvO_l, ↓e_bvO_d, ↓e_eq_nn, ↓e_eq_cn, ↓e_ok_intsL, ↓e_onB, ↓e_oQ_map, ↓e_inT, ↓e_inK, ↓e_inL, ↓e_ninT, ↓e_ninL, ↓e_setS, ↓e_in1, ↓e_chr_len, ↓e_take_map, ↓e_drop_map, ↓e_rev_map, ↓e_app_map, ↓e_eqTT, ↓e_eqLL, ↓e_eqL_nil, ↓e_eqL_cons, ↓e_eqL_nc, ↓e_eqL_cn, ↓e_eqL_strs, ↓e_eqL_ints, ↓e_eqL_m0, ↓e_eqL0, ↓e_eqT0, ↓e_wSkip, ↓e_wSeq, ↓e_wDrop, ↓e_wRet, ↓e_wRetN, ↓e_wBrk, ↓e_wCnt, ↓e_wIfS, ↓e_wSet, ↓e_wTup, ↓e_tg_nm, ↓e_tg_tp, ↓e_setAll_n, ↓e_setAll_c, ↓e_vQ, ↓e_wVar, ↓e_wC, ↓e_wNil, ↓e_wCons, ↓e_wB1, ↓e_wB2, ↓e_wAnd, ↓e_wOr, ↓e_wNot, ↓e_wIf, ↓e_wB, ↓e_wChain, ↓e_wAndV, ↓e_wOrV, ↓e_wNotV, ↓e_wP, ↓e_wGet2, ↓e_getQ_d, ↓e_getQ_l, ↓e_getO_d, ↓e_getO_t, ↓e_wSl, ↓e_wM, ↓e_pop, ↓e_popi, ↓e_wCall, ↓e_wCallK, ↓e_wLc, ↓e_wDc, ↓e_wSeqI, ↓e_wRng1, ↓e_wRng2, ↓e_wEnum, ↓e_enumI, ↓e_wZip, ↓e_wFor, ↓e_wYes, ↓e_wPut, ↓e_wDisp, ↓e_disp_n, ↓e_disp_c, ↓e_wRaise, ↓e_wDict0, ↓e_spb, ↓e_c0, ↓e_c1, ↓e_c2, ↓e_c3, ↓e_c4, ↓e_c5, ↓e_c6, ↓e_c7, ↓e_c8, ↓e_add_i, ↓e_add_s, ↓e_add_t, ↓e_add_l, ↓e_sub_i, ↓e_mul_i, ↓e_mul_l, ↓e_fdiv_i, ↓e_mod_i, ↓e_pow_i, ↓e_neg_i, ↓e_lt_i, ↓e_lt_s, ↓e_le_i, ↓e_gt_i, ↓e_ge_i, ↓e_is_n, ↓e_is_b, ↓e_isN_n, ↓e_isN_b, ↓e_isNon_n, ↓e_isNon_i, ↓e_isNon_s, ↓e_isNon_t, ↓e_isNon_l, ↓e_isNon_b, ↓e_ix_t, ↓e_ix_k, ↓e_ix_l, ↓e_ix_ds, ↓e_ix_di, ↓e_ix_s, ↓e_obDT_l, ↓e_obDT_d, ↓e_obDT_t, ↓e_obD_t, ↓e_obL_t, ↓e_ix_loc, ↓e_ixO_l, ↓e_ixO_d, ↓e_ixO_t, ↓e_len_loc, ↓e_lenO_l, ↓e_lenO_d, ↓e_lenO_t, ↓e_tuple_loc, ↓e_list_loc, ↓e_listO_l, ↓e_listO_d, ↓e_list_d, ↓e_add_ll, ↓e_sl_loc, ↓e_tup, ↓e_lst, ↓e_len_t, ↓e_len_k, ↓e_len_l, ↓e_len_d, ↓e_len_r, ↓e_len_s, ↓e_abs, ↓e_int_i, ↓e_int_b, ↓e_tuple_t, ↓e_tuple_l, ↓e_list_t, ↓e_list_l, ↓e_dict_d, ↓e_dict_l, ↓e_sorted_l, ↓e_isi, ↓e_ty_n, ↓e_ty_b, ↓e_ty_i, ↓e_ty_s, ↓e_ty_t, ↓e_ty_l, ↓e_ty_d, ↓e_sl_t, ↓e_sl_l, ↓e_rev_t, ↓e_rev_l, ↓e_cut_to1, ↓e_cut_from1, ↓e_cut_to, ↓e_cut_from, ↓e_wopt_n, ↓e_intQ, ↓e_wopt_s, ↓e_blQ, ↓e_wT, ↓e_putD0, ↓e_putD1, ↓e_putL0, ↓e_putL1, ↓e_setS_f, ↓e_setS_a, ↓e_wd_in, ↓e_wd_mv, ↓e_ok_wd, ↓e_ok_in, ↓e_ok_move, ↓e_en_S, ↓e_en_TK, ↓e_en_L, ↓e_en_ty, ↓e_en_bv, ↓e_en_sb, ↓e_ens_sb, ↓e_bal_sb, ↓e_bals_sb, ↓e_en_isNon, ↓e_en_ix0, ↓e_en_ix1, ↓e_en_ix2, ↓e_en_ix3, ↓e_own, ↓e_pl, ↓e_eqL_ens, ↓e_getD_bal, ↓e_put_bal, ↓e_balK_len, ↓e_getput, ↓e_sorted_bal, ↓e_asS_dw, ↓e_asD_dw, ↓e_v_large, ↓e_v_cells, ↓e_v_rest, ↓e_v_turn, ↓e_dw_0, ↓e_dw_1, ↓e_dw_set0, ↓e_put_rest, ↓e_put_turn, ↓u_is_number, ↓u_is_wordT, ↓u_is_word1, ↓u_is_word2, ↓u_is_row, ↓u_is_row_en, ↓u_is_name, ↓u_are_ascending, ↓u_is_lot_of, ↓reduceIte, ↓oQ_s, startD, permL, List.map_cons, List.map_nil, List.length_cons, List.length_nil, List.replicate, List.getElem?_cons_succ, List.getElem?_cons_zero, List.cons_append, List.nil_append, List.set_cons_succ, List.set_cons_zero, Nat.reduceAdd, Nat.reduceSub, Nat.reduceEqDiff, wipeD, List.filterMap_cons, List.filterMap_nil, List.length_range, List.getElem?_map, Int.zero_add, List.length_map, List.eraseIdx_cons_zero, Bool.and_true, Bool.true_and, Bool.and_false, Bool.false_and, oQ_s, oQ_n, if_t, if_f, dEq, dNe, bv_int, bv_bl, bv_str, bv_tup, bv_lst, bv_non, eqD_int, eqD_str, eqD_bl, atI0, atI1, atI2, atI3, atI4, atI_nat, atI_nat', atI_succ, ok_int, ok_bl, ok_nil, sto_at, sto_at0, sto_set, sto_set0, Option.isSome_some, Option.isSome_none, Bool.false_eq_true, or_false, false_or, true_or, or_true, Option.map_some, Option.map_none, true_and, and_true, false_and, and_false, Bool.not_true, Bool.not_false, reduceIte, decide_true, decide_false, Bool.decide_eq_true, Bool.decide_eq_false, Bool.not_not, eq_self, reduceCtorEq, Int.reduceEq, Int.reduceLT, Int.reduceLE, u_neg, e_lc, e_lcB_if, e_lcB_ifn, e_lcB_t, e_lcB_if2, e_noG, e_lc_nil, e_lc_cons, e_for_nil, e_nx, e_dc, e_dcB_s, e_rt, e_rtF, e_frzR, e_frzR0, e_xq, e_sb_int, e_sb_bl, e_sb_str, e_sb_non, e_sb_scr, e_sb_loc, e_sb_tup, e_sb_ktp, e_sb_lst, e_sb_dct, e_sb_dcT, e_sbL_nil, e_sbK_nil, e_sbL_cons, e_sbL_ints, e_sbL_strs, e_sbL_bls, e_frz_l0, e_frz_d0, e_frz_l1, e_frz_d1, e_frz_l2, e_asS_tup, e_asS_ktp, e_asS_lst, e_asS_scr, e_asS_int, e_asS_non, e_asS_bl, e_asS_str, e_asS_dct, e_asD_dct, e_asD_int, e_asD_str, e_asD_lst, e_asD_tup, e_asDT_str, e_asL_lst, e_asL_tup, e_asL_ktp, e_asL_dct, e_asL_int, e_asL_bl, e_asL_str, e_asL_non, e_asL_loc, e_asS_loc, e_asD_loc, e_obL_s, e_obL_d, e_obD_s, e_obD_l, e_asK_str, e_asK_int, e_asI_int, e_asTK_tup, e_asTK_ktp, e_asLoc_loc, e_lstOf_lst, e_lstOf_tup, e_itOf_tup, e_itOf_ktp, e_itOf_lst, e_itOf_scr, e_itOf_str, e_alL_f, e_alL_t, e_alD_f, e_alD_t, e_kn_bool, e_kn_int, e_kn_str, e_kn_tuple, e_kn_list, e_kn_dict, e_su_ib, e_su_ii, e_su_ss, e_su_tt, e_sz0, e_sz1, e_sz2, e_sz3, e_sz4, e_sz5, e_sz6, e_sz7, e_sz8, e_sz9, e_sz10, e_sz11, e_sz12, e_app, e_iteT, e_iteF, e_new_len, e_new_len2, e_new_two, e_new_three, e_len_map, e_asBls, e_asStrs, e_asInts, e_asStrs0, e_asInts0, e_asBls0, e_all_id, e_any_id, e_sum, e_all, e_any, e_max1l, e_min1l, e_max2, e_min2, e_ixN0, e_bv_loc, e_bvO_l, e_bvO_d, e_eq_nn, e_eq_cn, e_ok_intsL, e_onB, e_oQ_map, e_inT, e_inK, e_inL, e_ninT, e_ninL, e_setS, e_in1, e_chr_len, ec_oQh, e_take_map, e_drop_map, e_rev_map, e_app_map, e_eqTT, e_eqLL, e_eqL_nil, e_eqL_cons, e_eqL_nc, e_eqL_cn, e_eqL_strs, e_eqL_ints, e_eqL_m0, e_eqL0, e_eqT0, e_wSkip, e_wSeq, e_wDrop, e_wRet, e_wRetN, e_wBrk, e_wCnt, e_wIfS, e_wSet, e_wTup, e_tg_nm, e_tg_tp, e_setAll_n, e_setAll_c, e_vQ, e_wVar, e_wC, e_wNil, e_wCons, e_wB1, e_wB2, e_wAnd, e_wOr, e_wNot, e_wIf, e_wB, e_wChain, e_wAndV, e_wOrV, e_wNotV, e_wP, e_wGet2, e_getQ_d, e_getQ_l, e_getO_d, e_getO_t, e_wSl, e_wM, e_pop, e_popi, e_wCall, e_wCallK, e_wLc, e_wDc, e_wSeqI, e_wRng1, e_wRng2, e_wEnum, e_enumI, e_wZip, e_wFor, e_wYes, e_wPut, e_wDisp, e_disp_n, e_disp_c, e_wRaise, e_wDict0, e_spb, e_c0, e_c1, e_c2, e_c3, e_c4, e_c5, e_c6, e_c7, e_c8, e_add_i, e_add_s, e_add_t, e_add_l, e_sub_i, e_mul_i, e_mul_l, e_fdiv_i, e_mod_i, e_pow_i, e_neg_i, e_lt_i, e_lt_s, e_le_i, e_gt_i, e_ge_i, e_is_n, e_is_b, e_isN_n, e_isN_b, e_isNon_n, e_isNon_i, e_isNon_s, e_isNon_t, e_isNon_l, e_isNon_b, e_ix_t, e_ix_k, e_ix_l, e_ix_ds, e_ix_di, e_ix_s, e_obDT_l, e_obDT_d, e_obDT_t, e_obD_t, e_obL_t, e_ix_loc, e_ixO_l, e_ixO_d, e_ixO_t, e_len_loc, e_lenO_l, e_lenO_d, e_lenO_t, e_tuple_loc, e_list_loc, e_listO_l, e_listO_d, e_list_d, e_add_ll, e_sl_loc, e_tup, e_lst, e_len_t, e_len_k, e_len_l, e_len_d, e_len_r, e_len_s, e_abs, e_int_i, e_int_b, e_tuple_t, e_tuple_l, e_list_t, e_list_l, e_dict_d, e_dict_l, e_sorted_l, e_isi, e_ty_n, e_ty_b, e_ty_i, e_ty_s, e_ty_t, e_ty_l, e_ty_d, e_sl_t, e_sl_l, e_rev_t, e_rev_l, e_cut_to1, e_cut_from1, e_cut_to, e_cut_from, ec_ok_str, ec_szle, ec_szlt, ec_rng1, ec_rng2, e_wopt_n, e_intQ, e_wopt_s, e_blQ, e_wT, e_putD0, e_putD1, e_putL0, e_putL1, e_setS_f, e_setS_a, e_wd_in, e_wd_mv, e_ok_wd, e_ok_in, e_ok_move, e_en_S, e_en_TK, e_en_L, e_en_ty, e_en_bv, e_en_sb, e_ens_sb, e_bal_sb, e_bals_sb, e_en_isNon, e_en_ix0, e_en_ix1, e_en_ix2, e_en_ix3, e_own, e_pl, ec_own64, ec_pl64, ec_es_sz, e_eqL_ens, e_getD_bal, e_put_bal, e_balK_len, ec_val_mem, e_getput, e_sorted_bal, e_asS_dw, e_asD_dw, e_v_large, e_v_cells, e_v_rest, e_v_turn, e_dw_0, e_dw_1, e_dw_set0, e_put_rest, e_put_turn, u_is_number, u_is_wordT, u_is_word1, u_is_word2, u_is_row, u_is_row_en, u_is_name, u_are_ascending, u_is_lot_of])
--# owners_in
theorem u_owners_in {es : List En} (hO : OkEs es) : sp_owners_in [.tup (es.map En.d)] S Q Ex = Q (.lst ((ownS es).map D.str)) S := by
  unfold sp_owners_in rd_owners_in
  have h1 := hO.len
  have h2 := filt_len (p := fun e : En => !e.mv) (xs := es)
  walk_at "ev"
  have h3 : ((es.filter fun e => !e.mv).length < 4000) = True := eq_true (by omega)
  simp only [h3, true_and]
--# places_in
theorem u_places_in {es : List En} (hO : OkEs es) : sp_places_in [.tup (es.map En.d)] S Q Ex = Q (.lst ((plS es).map D.str)) S := by
  unfold sp_places_in rd_places_in
  have h1 := hO.len
  have h2 := filt_len (p := En.mv) (xs := es)
  walk_at "ev"
  have h3 : (es.length + (es.filter En.mv).length < 4000) = True := eq_true (by omega)
  simp only [List.length_append, List.length_map, h3, true_and]
--# came_of
theorem u_came_of {es : List En} {xs : List Str} (hO : OkEs es) : sp_came_of [.tup [.str "ledger", .tup (es.map En.d)], .tup (xs.map D.str)] S Q Ex = Q (.int (cameS es xs)) S := by
  unfold sp_came_of rd_came_of
  walk_at "ev"
  rfl
--# behind
theorem u_behind {bs : Bal} {e : En} (hl : bs.length ≤ 1000) : sp_behind [.dct (balK bs), e.d] S Q Ex = Q (.dct (balK (behB bs e))) S := by
  unfold sp_behind rd_behind
  have h1 := putB_len (bs := bs) (k := e.a) (v := getB bs e.a - e.n)
  walk_at "ev"
  unfold behB outB
  cases e.mv <;> rfl
--# is_entry
theorem u_is_entry {e : En} (h1 : e.a.length ≤ sizeLine) (h2 : e.b.length ≤ sizeLine) (h3 : PyData.strOk e.a = true) (h4 : PyData.strOk e.b = true) : sp_is_entry [e.d] S Q Ex = Q (.bl (okEn e)) S := by
  unfold sp_is_entry rd_is_entry
  walk_at "ev"
  have hw : (!e.mv || e.mv) = true := by cases e.mv <;> rfl
  unfold okEn
  cases isNm e.a <;> cases isNm e.b <;> cases decide (e.a = e.b) <;> simp [hw]
--#
/-! the balances of all moments -/
theorem walkB_last {es : List En} : ∀ {bs : Bal}, (walkB bs es).getLast? = some (es.foldl behB bs) := by
  induction es with
  | nil => intro bs; rfl
  | cons e es ih =>
    intro bs
    show (bs :: walkB (behB bs e) es).getLast? = _
    rw [List.getLast?_cons, ih]
    rfl
theorem walkB_len {es : List En} : ∀ {bs : Bal}, (walkB bs es).length = es.length + 1 := by
  induction es with
  | nil => intro bs; rfl
  | cons e es ih =>
    intro bs
    show (walkB (behB bs e) es).length + 1 = _
    rw [ih]
    rfl
theorem walkB_app {es : List En} {e : En} : ∀ {bs : Bal}, walkB bs (es ++ [e]) = walkB bs es ++ [behB (es.foldl behB bs) e] := by
  induction es with
  | nil => intro bs; rfl
  | cons x es ih =>
    intro bs
    show bs :: walkB (behB bs x) (es ++ [e]) = bs :: walkB (behB bs x) es ++ _
    rw [ih]
    rfl
theorem nodup_map {α β : Type} {f : α → β} (hf : ∀ a b, f a = f b → a = b) : ∀ {xs : List α}, xs.Nodup → (xs.map f).Nodup
  | [], _ => List.nodup_nil
  | x :: xs, h => by
    rw [List.map_cons, List.nodup_cons]
    refine ⟨fun z => ?_, nodup_map hf (List.nodup_cons.mp h).2⟩
    obtain ⟨y, hy, e⟩ := List.mem_map.mp z
    exact (List.nodup_cons.mp h).1 (hf _ _ e ▸ hy)
theorem zero_fold {ps : List Str} (nd : ps.Nodup) : ps.foldl (fun a p => putD a (.inr p) (.int 0)) [] = balK (zeroB ps) := by
  rw [fold_put_nd (k := fun p : Str => (Sum.inr p : Key)) (f := fun _ => D.int 0)]
  · show List.map _ ps = (ps.map fun p => (p, 0)).map _
    rw [List.map_map]
    rfl
  · show (ps.map fun p => (Sum.inr p : Key)).Nodup
    exact nodup_map (fun a b h => Sum.inr.inj h) nd
theorem e_zero_pl {es : List En} : (plS es).foldl (fun a p => putD a (.inr p) (.int 0)) [] = balK (zeroB (plS es)) := zero_fold (nodup_setS _)
theorem putB_keys {bs : Bal} {k : Str} {v : Int} : ∀ x, x ∈ (putB bs k v).map (·.1) ↔ x ∈ bs.map (·.1) ∨ x = k := by
  intro x
  unfold putB
  split
  · rename_i h
    obtain ⟨q, hq, e⟩ := List.any_eq_true.mp h
    have e := of_decide_eq_true e
    rw [List.map_map]
    have : ((fun p : Str × Int => p.1) ∘ fun p => if p.1 = k then (p.1, v) else p) = fun p => p.1 := by
      funext p
      by_cases h : p.1 = k <;> simp [h]
    rw [this]
    constructor
    · exact .inl
    · rintro (z | z)
      · exact z
      · rw [z, ← e]
        exact List.mem_map_of_mem hq
  · rw [List.map_append, List.mem_append]
    simp
theorem bal_len_le {bs : Bal} {e : En} : (behB bs e).length ≤ bs.length + 2 := by
  unfold behB outB
  split
  · have h1 := putB_len (bs := bs) (k := e.a) (v := getB bs e.a - e.n)
    have h2 := putB_len (bs := putB bs e.a (getB bs e.a - e.n)) (k := e.b) (v := getB (putB bs e.a (getB bs e.a - e.n)) e.b + e.n)
    omega
  · have h2 := putB_len (bs := bs) (k := e.b) (v := getB bs e.b + e.n)
    omega
theorem fold_len : ∀ {es : List En} {bs : Bal}, (es.foldl behB bs).length ≤ bs.length + 2 * es.length
  | [], bs => Nat.le_refl _
  | e :: es, bs => by
    have h1 := fold_len (es := es) (bs := behB bs e)
    have h2 := bal_len_le (bs := bs) (e := e)
    rw [List.foldl_cons, List.length_cons]
    omega
theorem zero_len {ps : List Str} : (zeroB ps).length = ps.length := List.length_map ..
theorem e_walk_last {es : List En} {bs : Bal} : atI ((walkB bs es).map fun b => balD b) (-1) = some (balD (es.foldl behB bs)) := by
  rw [atI_last, List.getLast?_map, walkB_last]
  rfl
theorem e_walk_len {es : List En} {bs : Bal} : (walkB bs es).length = es.length + 1 := walkB_len
theorem putB_ne {bs : Bal} {k : Str} {v : Int} : putB bs k v ≠ [] := by
  unfold putB
  split
  · rename_i h
    intro z
    have := List.map_eq_nil_iff.mp z
    subst this
    cases h
  · intro z
    simp at z
theorem walk_ne : ∀ {es : List En} {bs : Bal}, bs ≠ [] → ∀ b ∈ walkB bs es, b ≠ []
  | [], bs, h, b, hb => by
    have : b = bs := by simpa [walkB] using hb
    rw [this]; exact h
  | e :: es, bs, h, b, hb => by
    rcases List.mem_cons.mp (show b ∈ bs :: walkB (behB bs e) es from hb) with z | z
    · rw [z]; exact h
    · exact walk_ne putB_ne b z
theorem beh_keys {bs : Bal} {e : En} {x : Str} (h : x ∈ bs.map (·.1)) : x ∈ (behB bs e).map (·.1) := by
  unfold behB
  refine (putB_keys x).mpr (.inl ?_)
  unfold outB
  split
  · exact (putB_keys x).mpr (.inl h)
  · exact h
theorem fold_keys : ∀ {es : List En} {bs : Bal} {x : Str}, x ∈ bs.map (·.1) → x ∈ (es.foldl behB bs).map (·.1)
  | [], _, _, h => h
  | e :: es, bs, x, h => fold_keys (es := es) (beh_keys h)
theorem walk_keys : ∀ {es : List En} {bs : Bal} {x : Str}, x ∈ bs.map (·.1) → ∀ b ∈ walkB bs es, x ∈ b.map (·.1)
  | [], bs, x, h, b, hb => by
    have : b = bs := by simpa [walkB] using hb
    rw [this]; exact h
  | e :: es, bs, x, h, b, hb => by
    rcases List.mem_cons.mp (show b ∈ bs :: walkB (behB bs e) es from hb) with z | z
    · rw [z]; exact h
    · exact walk_keys (beh_keys h) b z
theorem zero_keys {ps : List Str} {x : Str} : x ∈ (zeroB ps).map (·.1) ↔ x ∈ ps := by
  unfold zeroB
  rw [List.map_map]
  simp
theorem OkEs.pls {es : List En} (h : OkEs es) : ∀ x ∈ plS es, PyData.strOk x = true := fun x hx => by
  have hx := mem_setS.mp hx
  unfold plL at hx
  rcases List.mem_append.mp hx with z | z
  · obtain ⟨e, he, rfl⟩ := List.mem_map.mp z
    exact (h.nm e he).2.2.2
  · obtain ⟨e, he, rfl⟩ := List.mem_map.mp z
    exact (h.nm e (List.mem_filter.mp he).1).2.2.1
theorem OkEs.own {es : List En} (h : OkEs es) : ∀ x ∈ ownS es, PyData.strOk x = true := fun x hx => by
  have hx := mem_setS.mp hx
  obtain ⟨e, he, rfl⟩ := List.mem_map.mp hx
  exact (h.nm e (List.mem_filter.mp he).1).2.2.1
theorem en_has {e : En} (h1 : PyData.strOk e.a = true) (h2 : PyData.strOk e.b = true) : hasD 1 e.d :=
  has_tup (hasL_cons (has_str (by cases e.mv <;> decide +kernel)) (hasL_cons (has_str h1) (hasL_cons (has_str h2) (hasL_cons has_int hasL_nil))))
theorem ens_has {es : List En} (h : OkEs es) : hasD 2 (.tup (es.map En.d)) := has_tup (hasL_all fun d hd => by
  obtain ⟨e, he, rfl⟩ := List.mem_map.mp hd
  exact en_has (h.nm e he).2.2.1 (h.nm e he).2.2.2)
theorem ec_ok_ens {es : List En} (h : OkEs es) : (okD (.tup (es.map En.d)) = true) = True := eq_true (ok_has (ens_has h) (by decide))
theorem ec_ok_led {es : List En} (h : OkEs es) : (okD (.tup [.str "ledger", .tup (es.map En.d)]) = true) = True := eq_true (ok_has (k := 3) (has_tup (hasL_cons (has_str (by decide +kernel)) (hasL_cons (ens_has h) hasL_nil))) (by decide))
theorem ec_ok_pl {es : List En} (h : OkEs es) : (okD (.lst ((plS es).map D.str)) = true) = True := eq_true (ok_strs h.pls)
theorem ec_ok_own {es : List En} (h : OkEs es) : (okD (.lst ((ownS es).map D.str)) = true) = True := eq_true (ok_strs h.own)
theorem ec_ok_plT {es : List En} (h : OkEs es) : (okD (.tup ((plS es).map D.str)) = true) = True := eq_true (ok_tstrs h.pls)
theorem ec_ok_ownT {es : List En} (h : OkEs es) : (okD (.tup ((ownS es).map D.str)) = true) = True := eq_true (ok_tstrs h.own)
theorem bal_ints {bs : Bal} : asInts ((balK bs).map (·.2)) = some (bs.map (·.2)) := by
  unfold balK
  rw [List.map_map]
  exact e_asInts
theorem ec_minV_bal {bs : Bal} (h : bs ≠ []) : dMinV (.dct (balK bs)) S Q = Q (.int (minI (bs.map (·.2)))) S := by
  rw [minV_eq, bal_ints]
  exact propext ⟨fun z => z.2, fun z => ⟨fun e => h (List.map_eq_nil_iff.mp e), z⟩⟩
local macro_rules | `(tactic| walk_at "ev") => `(tactic| try simp (maxSteps := 4000000) (dsimp := false) (implicitDefEqProofs := false) (disch := first | assumption | (show (_ : Nat) ≤ _; omega) | (show (_ : Int) ≤ _ ∧ _; omega)) only [↓u_neg, ↓e_lc, ↓e_lcB_if, ↓e_lcB_ifn, ↓e_lcB_t, ↓e_lcB_if2, ↓e_noG, ↓e_lc_nil, ↓e_lc_cons, ↓e_for_nil, ↓e_nx, ↓e_dc, ↓e_dcB_s, ↓e_rt, ↓e_rtF, ↓e_frzR, ↓e_frzR0, ↓e_xq, ↓e_sb_int, ↓e_sb_bl, ↓e_sb_str, ↓e_sb_non, ↓e_sb_scr, ↓e_sb_loc, ↓e_sb_tup, ↓e_sb_ktp, ↓e_sb_lst, ↓e_sb_dct, ↓e_sb_dcT, ↓e_sbL_nil, ↓e_sbK_nil, ↓e_sbL_cons, ↓e_sbL_ints, ↓e_sbL_strs, ↓e_sbL_bls, ↓e_frz_l0, ↓e_frz_d0, ↓e_frz_l1, ↓e_frz_d1, ↓e_frz_l2, ↓e_asS_tup, ↓e_asS_ktp, ↓e_asS_lst, ↓e_asS_scr, ↓e_asS_int, ↓e_asS_non, ↓e_asS_bl, ↓e_asS_str, ↓e_asS_dct, ↓e_asD_dct, ↓e_asD_int, ↓e_asD_str, ↓e_asD_lst, ↓e_asD_tup, ↓e_asDT_str, ↓e_asL_lst, ↓e_asL_tup, ↓e_asL_ktp, ↓e_asL_dct, ↓e_asL_int, ↓e_asL_bl, ↓e_asL_str, ↓e_asL_non, ↓e_asL_loc, ↓e_asS_loc, ↓e_asD_loc, ↓e_obL_s, ↓e_obL_d, ↓e_obD_s, ↓e_obD_l, ↓e_asK_str, ↓e_asK_int, ↓e_asI_int, ↓e_asTK_tup, ↓e_asTK_ktp, ↓e_asLoc_loc, ↓e_lstOf_lst, ↓e_lstOf_tup, ↓e_itOf_tup, ↓e_itOf_ktp, ↓e_itOf_lst, ↓e_itOf_scr, ↓e_itOf_str, ↓e_alL_f, ↓e_alL_t, ↓e_alD_f, ↓e_alD_t, ↓e_kn_bool, ↓e_kn_int, ↓e_kn_str, ↓e_kn_tuple, ↓e_kn_list, ↓e_kn_dict, ↓e_su_ib, ↓e_su_ii, ↓e_su_ss, ↓e_su_tt, ↓e_sz0, ↓e_sz1, ↓e_sz2, ↓e_sz3, ↓e_sz4, ↓e_sz5, ↓e_sz6, ↓e_sz7, ↓e_sz8, ↓e_sz9, ↓e_sz10, ↓e_sz11, ↓e_sz12, ↓e_app, ↓e_iteT, ↓e_iteF, ↓e_new_len, ↓e_new_len2, ↓e_new_two, ↓e_new_three, ↓e_len_map, ↓e_asBls, ↓e_asStrs, ↓e_asInts, ↓e_asStrs0, ↓e_asInts0, ↓e_asBls0, ↓e_all_id, ↓e_any_id, ↓e_sum, ↓e_all, ↓e_any, ↓e_max1l, ↓e_min1l, ↓e_max2, ↓e_min2, ↓e_ixN0, ↓e_bv_loc, ↓e_bvO_l, ↓e_bvO_d, ↓e_eq_nn, ↓e_eq_cn, ↓e_ok_intsL, ↓e_onB, ↓e_oQ_map, ↓e_inT, ↓e_inK, ↓e_inL, ↓e_ninT, ↓e_ninL, ↓e_setS, ↓e_in1, ↓e_chr_len, ↓e_take_map, ↓e_drop_map, ↓e_rev_map, ↓e_app_map, ↓e_eqTT, ↓e_eqLL, ↓e_eqL_nil, ↓e_eqL_cons, ↓e_eqL_nc, ↓e_eqL_cn, ↓e_eqL_strs, ↓e_eqL_ints, ↓e_eqL_m0, ↓e_eqL0, ↓e_eqT0, ↓e_wSkip, ↓e_wSeq, ↓e_wDrop, ↓e_wRet, ↓e_wRetN, ↓e_wBrk, ↓e_wCnt, ↓e_wIfS, ↓e_wSet, ↓e_wTup, ↓e_tg_nm, ↓e_tg_tp, ↓e_setAll_n, ↓e_setAll_c, ↓e_vQ, ↓e_wVar, ↓e_wC, ↓e_wNil, ↓e_wCons, ↓e_wB1, ↓e_wB2, ↓e_wAnd, ↓e_wOr, ↓e_wNot, ↓e_wIf, ↓e_wB, ↓e_wChain, ↓e_wAndV, ↓e_wOrV, ↓e_wNotV, ↓e_wP, ↓e_wGet2, ↓e_getQ_d, ↓e_getQ_l, ↓e_getO_d, ↓e_getO_t, ↓e_wSl, ↓e_wM, ↓e_pop, ↓e_popi, ↓e_wCall, ↓e_wCallK, ↓e_wLc, ↓e_wDc, ↓e_wSeqI, ↓e_wRng1, ↓e_wRng2, ↓e_wEnum, ↓e_enumI, ↓e_wZip, ↓e_wFor, ↓e_wYes, ↓e_wPut, ↓e_wDisp, ↓e_disp_n, ↓e_disp_c, ↓e_wRaise, ↓e_wDict0, ↓e_spb, ↓e_c0, ↓e_c1, ↓e_c2, ↓e_c3, ↓e_c4, ↓e_c5, ↓e_c6, ↓e_c7, ↓e_c8, ↓e_add_i, ↓e_add_s, ↓e_add_t, ↓e_add_l, ↓e_sub_i, ↓e_mul_i, ↓e_mul_l, ↓e_fdiv_i, ↓e_mod_i, ↓e_pow_i, ↓e_neg_i, ↓e_lt_i, ↓e_lt_s, ↓e_le_i, ↓e_gt_i, ↓e_ge_i, ↓e_is_n, ↓e_is_b, ↓e_isN_n, ↓e_isN_b, ↓e_isNon_n, ↓e_isNon_i, ↓e_isNon_s, ↓e_isNon_t, ↓e_isNon_l, ↓e_isNon_b, ↓e_ix_t, ↓e_ix_k, ↓e_ix_l, ↓e_ix_ds, ↓e_ix_di, ↓e_ix_s, ↓e_obDT_l, ↓e_obDT_d, ↓e_obDT_t, ↓e_obD_t, ↓e_obL_t, ↓e_ix_loc, ↓e_ixO_l, ↓e_ixO_d, ↓e_ixO_t, ↓e_len_loc, ↓e_lenO_l, ↓e_lenO_d, ↓e_lenO_t, ↓e_tuple_loc, ↓e_list_loc, ↓e_listO_l, ↓e_listO_d, ↓e_list_d, ↓e_add_ll, ↓e_sl_loc, ↓e_tup, ↓e_lst, ↓e_len_t, ↓e_len_k, ↓e_len_l, ↓e_len_d, ↓e_len_r, ↓e_len_s, ↓e_abs, ↓e_int_i, ↓e_int_b, ↓e_tuple_t, ↓e_tuple_l, ↓e_list_t, ↓e_list_l, ↓e_dict_d, ↓e_dict_l, ↓e_sorted_l, ↓e_isi, ↓e_ty_n, ↓e_ty_b, ↓e_ty_i, ↓e_ty_s, ↓e_ty_t, ↓e_ty_l, ↓e_ty_d, ↓e_sl_t, ↓e_sl_l, ↓e_rev_t, ↓e_rev_l, ↓e_cut_to1, ↓e_cut_from1, ↓e_cut_to, ↓e_cut_from, ↓e_wopt_n, ↓e_intQ, ↓e_wopt_s, ↓e_blQ, ↓e_wT, ↓e_putD0, ↓e_putD1, ↓e_putL0, ↓e_putL1, ↓e_setS_f, ↓e_setS_a, ↓e_wd_in, ↓e_wd_mv, ↓e_ok_wd, ↓e_ok_in, ↓e_ok_move, ↓e_en_S, ↓e_en_TK, ↓e_en_L, ↓e_en_ty, ↓e_en_bv, ↓e_en_sb, ↓e_ens_sb, ↓e_bal_sb, ↓e_bals_sb, ↓e_en_isNon, ↓e_en_ix0, ↓e_en_ix1, ↓e_en_ix2, ↓e_en_ix3, ↓e_own, ↓e_pl, ↓e_eqL_ens, ↓e_getD_bal, ↓e_put_bal, ↓e_balK_len, ↓e_getput, ↓e_sorted_bal, ↓e_asS_dw, ↓e_asD_dw, ↓e_v_large, ↓e_v_cells, ↓e_v_rest, ↓e_v_turn, ↓e_dw_0, ↓e_dw_1, ↓e_dw_set0, ↓e_put_rest, ↓e_put_turn, ↓u_is_number, ↓u_is_wordT, ↓u_is_word1, ↓u_is_word2, ↓u_is_row, ↓u_is_row_en, ↓u_is_name, ↓u_are_ascending, ↓u_is_lot_of, ↓u_owners_in, ↓u_places_in, ↓u_came_of, ↓u_behind, ↓u_is_entry, ↓e_zero_pl, ↓e_walk_last, ↓e_walk_len, ↓reduceIte, ↓oQ_s, startD, permL, List.map_cons, List.map_nil, List.length_cons, List.length_nil, List.replicate, List.getElem?_cons_succ, List.getElem?_cons_zero, List.cons_append, List.nil_append, List.set_cons_succ, List.set_cons_zero, Nat.reduceAdd, Nat.reduceSub, Nat.reduceEqDiff, wipeD, List.filterMap_cons, List.filterMap_nil, List.length_range, List.getElem?_map, Int.zero_add, List.length_map, List.eraseIdx_cons_zero, Bool.and_true, Bool.true_and, Bool.and_false, Bool.false_and, oQ_s, oQ_n, if_t, if_f, dEq, dNe, bv_int, bv_bl, bv_str, bv_tup, bv_lst, bv_non, eqD_int, eqD_str, eqD_bl, atI0, atI1, atI2, atI3, atI4, atI_nat, atI_nat', atI_succ, ok_int, ok_bl, ok_nil, sto_at, sto_at0, sto_set, sto_set0, Option.isSome_some, Option.isSome_none, Bool.false_eq_true, or_false, false_or, true_or, or_true, Option.map_some, Option.map_none, true_and, and_true, false_and, and_false, Bool.not_true, Bool.not_false, reduceIte, decide_true, decide_false, Bool.decide_eq_true, Bool.decide_eq_false, Bool.not_not, eq_self, reduceCtorEq, Int.reduceEq, Int.reduceLT, Int.reduceLE, u_neg, e_lc, e_lcB_if, e_lcB_ifn, e_lcB_t, e_lcB_if2, e_noG, e_lc_nil, e_lc_cons, e_for_nil, e_nx, e_dc, e_dcB_s, e_rt, e_rtF, e_frzR, e_frzR0, e_xq, e_sb_int, e_sb_bl, e_sb_str, e_sb_non, e_sb_scr, e_sb_loc, e_sb_tup, e_sb_ktp, e_sb_lst, e_sb_dct, e_sb_dcT, e_sbL_nil, e_sbK_nil, e_sbL_cons, e_sbL_ints, e_sbL_strs, e_sbL_bls, e_frz_l0, e_frz_d0, e_frz_l1, e_frz_d1, e_frz_l2, e_asS_tup, e_asS_ktp, e_asS_lst, e_asS_scr, e_asS_int, e_asS_non, e_asS_bl, e_asS_str, e_asS_dct, e_asD_dct, e_asD_int, e_asD_str, e_asD_lst, e_asD_tup, e_asDT_str, e_asL_lst, e_asL_tup, e_asL_ktp, e_asL_dct, e_asL_int, e_asL_bl, e_asL_str, e_asL_non, e_asL_loc, e_asS_loc, e_asD_loc, e_obL_s, e_obL_d, e_obD_s, e_obD_l, e_asK_str, e_asK_int, e_asI_int, e_asTK_tup, e_asTK_ktp, e_asLoc_loc, e_lstOf_lst, e_lstOf_tup, e_itOf_tup, e_itOf_ktp, e_itOf_lst, e_itOf_scr, e_itOf_str, e_alL_f, e_alL_t, e_alD_f, e_alD_t, e_kn_bool, e_kn_int, e_kn_str, e_kn_tuple, e_kn_list, e_kn_dict, e_su_ib, e_su_ii, e_su_ss, e_su_tt, e_sz0, e_sz1, e_sz2, e_sz3, e_sz4, e_sz5, e_sz6, e_sz7, e_sz8, e_sz9, e_sz10, e_sz11, e_sz12, e_app, e_iteT, e_iteF, e_new_len, e_new_len2, e_new_two, e_new_three, e_len_map, e_asBls, e_asStrs, e_asInts, e_asStrs0, e_asInts0, e_asBls0, e_all_id, e_any_id, e_sum, e_all, e_any, e_max1l, e_min1l, e_max2, e_min2, e_ixN0, e_bv_loc, e_bvO_l, e_bvO_d, e_eq_nn, e_eq_cn, e_ok_intsL, e_onB, e_oQ_map, e_inT, e_inK, e_inL, e_ninT, e_ninL, e_setS, e_in1, e_chr_len, ec_oQh, e_take_map, e_drop_map, e_rev_map, e_app_map, e_eqTT, e_eqLL, e_eqL_nil, e_eqL_cons, e_eqL_nc, e_eqL_cn, e_eqL_strs, e_eqL_ints, e_eqL_m0, e_eqL0, e_eqT0, e_wSkip, e_wSeq, e_wDrop, e_wRet, e_wRetN, e_wBrk, e_wCnt, e_wIfS, e_wSet, e_wTup, e_tg_nm, e_tg_tp, e_setAll_n, e_setAll_c, e_vQ, e_wVar, e_wC, e_wNil, e_wCons, e_wB1, e_wB2, e_wAnd, e_wOr, e_wNot, e_wIf, e_wB, e_wChain, e_wAndV, e_wOrV, e_wNotV, e_wP, e_wGet2, e_getQ_d, e_getQ_l, e_getO_d, e_getO_t, e_wSl, e_wM, e_pop, e_popi, e_wCall, e_wCallK, e_wLc, e_wDc, e_wSeqI, e_wRng1, e_wRng2, e_wEnum, e_enumI, e_wZip, e_wFor, e_wYes, e_wPut, e_wDisp, e_disp_n, e_disp_c, e_wRaise, e_wDict0, e_spb, e_c0, e_c1, e_c2, e_c3, e_c4, e_c5, e_c6, e_c7, e_c8, e_add_i, e_add_s, e_add_t, e_add_l, e_sub_i, e_mul_i, e_mul_l, e_fdiv_i, e_mod_i, e_pow_i, e_neg_i, e_lt_i, e_lt_s, e_le_i, e_gt_i, e_ge_i, e_is_n, e_is_b, e_isN_n, e_isN_b, e_isNon_n, e_isNon_i, e_isNon_s, e_isNon_t, e_isNon_l, e_isNon_b, e_ix_t, e_ix_k, e_ix_l, e_ix_ds, e_ix_di, e_ix_s, e_obDT_l, e_obDT_d, e_obDT_t, e_obD_t, e_obL_t, e_ix_loc, e_ixO_l, e_ixO_d, e_ixO_t, e_len_loc, e_lenO_l, e_lenO_d, e_lenO_t, e_tuple_loc, e_list_loc, e_listO_l, e_listO_d, e_list_d, e_add_ll, e_sl_loc, e_tup, e_lst, e_len_t, e_len_k, e_len_l, e_len_d, e_len_r, e_len_s, e_abs, e_int_i, e_int_b, e_tuple_t, e_tuple_l, e_list_t, e_list_l, e_dict_d, e_dict_l, e_sorted_l, e_isi, e_ty_n, e_ty_b, e_ty_i, e_ty_s, e_ty_t, e_ty_l, e_ty_d, e_sl_t, e_sl_l, e_rev_t, e_rev_l, e_cut_to1, e_cut_from1, e_cut_to, e_cut_from, ec_ok_str, ec_szle, ec_szlt, ec_rng1, ec_rng2, e_wopt_n, e_intQ, e_wopt_s, e_blQ, e_wT, e_putD0, e_putD1, e_putL0, e_putL1, e_setS_f, e_setS_a, e_wd_in, e_wd_mv, e_ok_wd, e_ok_in, e_ok_move, e_en_S, e_en_TK, e_en_L, e_en_ty, e_en_bv, e_en_sb, e_ens_sb, e_bal_sb, e_bals_sb, e_en_isNon, e_en_ix0, e_en_ix1, e_en_ix2, e_en_ix3, e_own, e_pl, ec_own64, ec_pl64, ec_es_sz, e_eqL_ens, e_getD_bal, e_put_bal, e_balK_len, ec_val_mem, e_getput, e_sorted_bal, e_asS_dw, e_asD_dw, e_v_large, e_v_cells, e_v_rest, e_v_turn, e_dw_0, e_dw_1, e_dw_set0, e_put_rest, e_put_turn, u_is_number, u_is_wordT, u_is_word1, u_is_word2, u_is_row, u_is_row_en, u_is_name, u_are_ascending, u_is_lot_of, u_owners_in, u_places_in, u_came_of, u_behind, u_is_entry, e_zero_pl, e_walk_last, e_walk_len, ec_ok_ens, ec_ok_led, ec_ok_pl, ec_ok_own, ec_ok_plT, ec_ok_ownT, ec_minV_bal])

--# balances_of
theorem u_balances_of {es : List En} (hO : OkEs es) : sp_balances_of [.tup (es.map En.d)] S Q Ex = Q (.lst ((balsS es).map fun b => balD b)) S := by
  unfold sp_balances_of rd_balances_of
  have h1 := hO.len
  have h2 := hO.pl
  have h3 : (plS es).length ≤ 1000 := by omega
  have hz : (zeroB (plS es)).length = (plS es).length := zero_len
  walk_at "ev"
  refine (for_fold (g := noG) En.d (fun b : List En × Option D => [some (.tup (es.map En.d)), some (.loc S.length), none, b.2]) (fun b => S ++ [.lst ((walkB (zeroB (plS es)) b.1).map fun b => balD b)]) (fun b e => (b.1 ++ [e], some e.d)) (fun l b => es = b.1 ++ l) (fun _ _ _ => trivial) ?_ (b := ([], none)) rfl).trans ?_
  · intro x l b hb
    refine ⟨by rw [hb, List.append_assoc]; rfl, fun N => ?_⟩
    have hpre : b.1.length ≤ 100 := by
      have := congrArg List.length hb
      rw [List.length_append] at this
      omega
    have hf := fold_len (es := b.1) (bs := zeroB (plS es))
    have hw : (walkB (zeroB (plS es)) b.1).length = b.1.length + 1 := walkB_len
    walk_at "ev"
    rw [walkB_app, List.map_append]
    rfl
  · have e : ∀ (l pre : List En) o, (l.foldl (fun (b : List En × Option D) e => (b.1 ++ [e], some e.d)) (pre, o)).1 = pre ++ l := by
      intro l
      induction l with
      | nil => intro pre o; simp
      | cons x l ih => intro pre o; rw [List.foldl_cons, ih, List.append_assoc]; rfl
    have e := e es [] none
    generalize es.foldl (fun (b : List En × Option D) e => (b.1 ++ [e], some e.d)) ([], none) = r at e
    obtain ⟨r1, r2⟩ := r
    cases e
    walk_at "ev"
    rfl
local macro_rules | `(tactic| walk_at "ev") => `(tactic| try simp (maxSteps := 4000000) (dsimp := false) (implicitDefEqProofs := false) (disch := first | assumption | (show (_ : Nat) ≤ _; omega) | (show (_ : Int) ≤ _ ∧ _; omega)) only [↓u_neg, ↓e_lc, ↓e_lcB_if, ↓e_lcB_ifn, ↓e_lcB_t, ↓e_lcB_if2, ↓e_noG, ↓e_lc_nil, ↓e_lc_cons, ↓e_for_nil, ↓e_nx, ↓e_dc, ↓e_dcB_s, ↓e_rt, ↓e_rtF, ↓e_frzR, ↓e_frzR0, ↓e_xq, ↓e_sb_int, ↓e_sb_bl, ↓e_sb_str, ↓e_sb_non, ↓e_sb_scr, ↓e_sb_loc, ↓e_sb_tup, ↓e_sb_ktp, ↓e_sb_lst, ↓e_sb_dct, ↓e_sb_dcT, ↓e_sbL_nil, ↓e_sbK_nil, ↓e_sbL_cons, ↓e_sbL_ints, ↓e_sbL_strs, ↓e_sbL_bls, ↓e_frz_l0, ↓e_frz_d0, ↓e_frz_l1, ↓e_frz_d1, ↓e_frz_l2, ↓e_asS_tup, ↓e_asS_ktp, ↓e_asS_lst, ↓e_asS_scr, ↓e_asS_int, ↓e_asS_non, ↓e_asS_bl, ↓e_asS_str, ↓e_asS_dct, ↓e_asD_dct, ↓e_asD_int, ↓e_asD_str, ↓e_asD_lst, ↓e_asD_tup, ↓e_asDT_str, ↓e_asL_lst, ↓e_asL_tup, ↓e_asL_ktp, ↓e_asL_dct, ↓e_asL_int, ↓e_asL_bl, ↓e_asL_str, ↓e_asL_non, ↓e_asL_loc, ↓e_asS_loc, ↓e_asD_loc, ↓e_obL_s, ↓e_obL_d, ↓e_obD_s, ↓e_obD_l, ↓e_asK_str, ↓e_asK_int, ↓e_asI_int, ↓e_asTK_tup, ↓e_asTK_ktp, ↓e_asLoc_loc, ↓e_lstOf_lst, ↓e_lstOf_tup, ↓e_itOf_tup, ↓e_itOf_ktp, ↓e_itOf_lst, ↓e_itOf_scr, ↓e_itOf_str, ↓e_alL_f, ↓e_alL_t, ↓e_alD_f, ↓e_alD_t, ↓e_kn_bool, ↓e_kn_int, ↓e_kn_str, ↓e_kn_tuple, ↓e_kn_list, ↓e_kn_dict, ↓e_su_ib, ↓e_su_ii, ↓e_su_ss, ↓e_su_tt, ↓e_sz0, ↓e_sz1, ↓e_sz2, ↓e_sz3, ↓e_sz4, ↓e_sz5, ↓e_sz6, ↓e_sz7, ↓e_sz8, ↓e_sz9, ↓e_sz10, ↓e_sz11, ↓e_sz12, ↓e_app, ↓e_iteT, ↓e_iteF, ↓e_new_len, ↓e_new_len2, ↓e_new_two, ↓e_new_three, ↓e_len_map, ↓e_asBls, ↓e_asStrs, ↓e_asInts, ↓e_asStrs0, ↓e_asInts0, ↓e_asBls0, ↓e_all_id, ↓e_any_id, ↓e_sum, ↓e_all, ↓e_any, ↓e_max1l, ↓e_min1l, ↓e_max2, ↓e_min2, ↓e_ixN0, ↓e_bv_loc, ↓e_bvO_l, ↓e_bvO_d, ↓e_eq_nn, ↓e_eq_cn, ↓e_ok_intsL, ↓e_onB, ↓e_oQ_map, ↓e_inT, ↓e_inK, ↓e_inL, ↓e_ninT, ↓e_ninL, ↓e_setS, ↓e_in1, ↓e_chr_len, ↓e_take_map, ↓e_drop_map, ↓e_rev_map, ↓e_app_map, ↓e_eqTT, ↓e_eqLL, ↓e_eqL_nil, ↓e_eqL_cons, ↓e_eqL_nc, ↓e_eqL_cn, ↓e_eqL_strs, ↓e_eqL_ints, ↓e_eqL_m0, ↓e_eqL0, ↓e_eqT0, ↓e_wSkip, ↓e_wSeq, ↓e_wDrop, ↓e_wRet, ↓e_wRetN, ↓e_wBrk, ↓e_wCnt, ↓e_wIfS, ↓e_wSet, ↓e_wTup, ↓e_tg_nm, ↓e_tg_tp, ↓e_setAll_n, ↓e_setAll_c, ↓e_vQ, ↓e_wVar, ↓e_wC, ↓e_wNil, ↓e_wCons, ↓e_wB1, ↓e_wB2, ↓e_wAnd, ↓e_wOr, ↓e_wNot, ↓e_wIf, ↓e_wB, ↓e_wChain, ↓e_wAndV, ↓e_wOrV, ↓e_wNotV, ↓e_wP, ↓e_wGet2, ↓e_getQ_d, ↓e_getQ_l, ↓e_getO_d, ↓e_getO_t, ↓e_wSl, ↓e_wM, ↓e_pop, ↓e_popi, ↓e_wCall, ↓e_wCallK, ↓e_wLc, ↓e_wDc, ↓e_wSeqI, ↓e_wRng1, ↓e_wRng2, ↓e_wEnum, ↓e_enumI, ↓e_wZip, ↓e_wFor, ↓e_wYes, ↓e_wPut, ↓e_wDisp, ↓e_disp_n, ↓e_disp_c, ↓e_wRaise, ↓e_wDict0, ↓e_spb, ↓e_c0, ↓e_c1, ↓e_c2, ↓e_c3, ↓e_c4, ↓e_c5, ↓e_c6, ↓e_c7, ↓e_c8, ↓e_add_i, ↓e_add_s, ↓e_add_t, ↓e_add_l, ↓e_sub_i, ↓e_mul_i, ↓e_mul_l, ↓e_fdiv_i, ↓e_mod_i, ↓e_pow_i, ↓e_neg_i, ↓e_lt_i, ↓e_lt_s, ↓e_le_i, ↓e_gt_i, ↓e_ge_i, ↓e_is_n, ↓e_is_b, ↓e_isN_n, ↓e_isN_b, ↓e_isNon_n, ↓e_isNon_i, ↓e_isNon_s, ↓e_isNon_t, ↓e_isNon_l, ↓e_isNon_b, ↓e_ix_t, ↓e_ix_k, ↓e_ix_l, ↓e_ix_ds, ↓e_ix_di, ↓e_ix_s, ↓e_obDT_l, ↓e_obDT_d, ↓e_obDT_t, ↓e_obD_t, ↓e_obL_t, ↓e_ix_loc, ↓e_ixO_l, ↓e_ixO_d, ↓e_ixO_t, ↓e_len_loc, ↓e_lenO_l, ↓e_lenO_d, ↓e_lenO_t, ↓e_tuple_loc, ↓e_list_loc, ↓e_listO_l, ↓e_listO_d, ↓e_list_d, ↓e_add_ll, ↓e_sl_loc, ↓e_tup, ↓e_lst, ↓e_len_t, ↓e_len_k, ↓e_len_l, ↓e_len_d, ↓e_len_r, ↓e_len_s, ↓e_abs, ↓e_int_i, ↓e_int_b, ↓e_tuple_t, ↓e_tuple_l, ↓e_list_t, ↓e_list_l, ↓e_dict_d, ↓e_dict_l, ↓e_sorted_l, ↓e_isi, ↓e_ty_n, ↓e_ty_b, ↓e_ty_i, ↓e_ty_s, ↓e_ty_t, ↓e_ty_l, ↓e_ty_d, ↓e_sl_t, ↓e_sl_l, ↓e_rev_t, ↓e_rev_l, ↓e_cut_to1, ↓e_cut_from1, ↓e_cut_to, ↓e_cut_from, ↓e_wopt_n, ↓e_intQ, ↓e_wopt_s, ↓e_blQ, ↓e_wT, ↓e_putD0, ↓e_putD1, ↓e_putL0, ↓e_putL1, ↓e_setS_f, ↓e_setS_a, ↓e_wd_in, ↓e_wd_mv, ↓e_ok_wd, ↓e_ok_in, ↓e_ok_move, ↓e_en_S, ↓e_en_TK, ↓e_en_L, ↓e_en_ty, ↓e_en_bv, ↓e_en_sb, ↓e_ens_sb, ↓e_bal_sb, ↓e_bals_sb, ↓e_en_isNon, ↓e_en_ix0, ↓e_en_ix1, ↓e_en_ix2, ↓e_en_ix3, ↓e_own, ↓e_pl, ↓e_eqL_ens, ↓e_getD_bal, ↓e_put_bal, ↓e_balK_len, ↓e_getput, ↓e_sorted_bal, ↓e_asS_dw, ↓e_asD_dw, ↓e_v_large, ↓e_v_cells, ↓e_v_rest, ↓e_v_turn, ↓e_dw_0, ↓e_dw_1, ↓e_dw_set0, ↓e_put_rest, ↓e_put_turn, ↓u_is_number, ↓u_is_wordT, ↓u_is_word1, ↓u_is_word2, ↓u_is_row, ↓u_is_row_en, ↓u_is_name, ↓u_are_ascending, ↓u_is_lot_of, ↓u_owners_in, ↓u_places_in, ↓u_came_of, ↓u_behind, ↓u_is_entry, ↓e_zero_pl, ↓e_walk_last, ↓e_walk_len, ↓u_balances_of, ↓reduceIte, ↓oQ_s, startD, permL, List.map_cons, List.map_nil, List.length_cons, List.length_nil, List.replicate, List.getElem?_cons_succ, List.getElem?_cons_zero, List.cons_append, List.nil_append, List.set_cons_succ, List.set_cons_zero, Nat.reduceAdd, Nat.reduceSub, Nat.reduceEqDiff, wipeD, List.filterMap_cons, List.filterMap_nil, List.length_range, List.getElem?_map, Int.zero_add, List.length_map, List.eraseIdx_cons_zero, Bool.and_true, Bool.true_and, Bool.and_false, Bool.false_and, oQ_s, oQ_n, if_t, if_f, dEq, dNe, bv_int, bv_bl, bv_str, bv_tup, bv_lst, bv_non, eqD_int, eqD_str, eqD_bl, atI0, atI1, atI2, atI3, atI4, atI_nat, atI_nat', atI_succ, ok_int, ok_bl, ok_nil, sto_at, sto_at0, sto_set, sto_set0, Option.isSome_some, Option.isSome_none, Bool.false_eq_true, or_false, false_or, true_or, or_true, Option.map_some, Option.map_none, true_and, and_true, false_and, and_false, Bool.not_true, Bool.not_false, reduceIte, decide_true, decide_false, Bool.decide_eq_true, Bool.decide_eq_false, Bool.not_not, eq_self, reduceCtorEq, Int.reduceEq, Int.reduceLT, Int.reduceLE, u_neg, e_lc, e_lcB_if, e_lcB_ifn, e_lcB_t, e_lcB_if2, e_noG, e_lc_nil, e_lc_cons, e_for_nil, e_nx, e_dc, e_dcB_s, e_rt, e_rtF, e_frzR, e_frzR0, e_xq, e_sb_int, e_sb_bl, e_sb_str, e_sb_non, e_sb_scr, e_sb_loc, e_sb_tup, e_sb_ktp, e_sb_lst, e_sb_dct, e_sb_dcT, e_sbL_nil, e_sbK_nil, e_sbL_cons, e_sbL_ints, e_sbL_strs, e_sbL_bls, e_frz_l0, e_frz_d0, e_frz_l1, e_frz_d1, e_frz_l2, e_asS_tup, e_asS_ktp, e_asS_lst, e_asS_scr, e_asS_int, e_asS_non, e_asS_bl, e_asS_str, e_asS_dct, e_asD_dct, e_asD_int, e_asD_str, e_asD_lst, e_asD_tup, e_asDT_str, e_asL_lst, e_asL_tup, e_asL_ktp, e_asL_dct, e_asL_int, e_asL_bl, e_asL_str, e_asL_non, e_asL_loc, e_asS_loc, e_asD_loc, e_obL_s, e_obL_d, e_obD_s, e_obD_l, e_asK_str, e_asK_int, e_asI_int, e_asTK_tup, e_asTK_ktp, e_asLoc_loc, e_lstOf_lst, e_lstOf_tup, e_itOf_tup, e_itOf_ktp, e_itOf_lst, e_itOf_scr, e_itOf_str, e_alL_f, e_alL_t, e_alD_f, e_alD_t, e_kn_bool, e_kn_int, e_kn_str, e_kn_tuple, e_kn_list, e_kn_dict, e_su_ib, e_su_ii, e_su_ss, e_su_tt, e_sz0, e_sz1, e_sz2, e_sz3, e_sz4, e_sz5, e_sz6, e_sz7, e_sz8, e_sz9, e_sz10, e_sz11, e_sz12, e_app, e_iteT, e_iteF, e_new_len, e_new_len2, e_new_two, e_new_three, e_len_map, e_asBls, e_asStrs, e_asInts, e_asStrs0, e_asInts0, e_asBls0, e_all_id, e_any_id, e_sum, e_all, e_any, e_max1l, e_min1l, e_max2, e_min2, e_ixN0, e_bv_loc, e_bvO_l, e_bvO_d, e_eq_nn, e_eq_cn, e_ok_intsL, e_onB, e_oQ_map, e_inT, e_inK, e_inL, e_ninT, e_ninL, e_setS, e_in1, e_chr_len, ec_oQh, e_take_map, e_drop_map, e_rev_map, e_app_map, e_eqTT, e_eqLL, e_eqL_nil, e_eqL_cons, e_eqL_nc, e_eqL_cn, e_eqL_strs, e_eqL_ints, e_eqL_m0, e_eqL0, e_eqT0, e_wSkip, e_wSeq, e_wDrop, e_wRet, e_wRetN, e_wBrk, e_wCnt, e_wIfS, e_wSet, e_wTup, e_tg_nm, e_tg_tp, e_setAll_n, e_setAll_c, e_vQ, e_wVar, e_wC, e_wNil, e_wCons, e_wB1, e_wB2, e_wAnd, e_wOr, e_wNot, e_wIf, e_wB, e_wChain, e_wAndV, e_wOrV, e_wNotV, e_wP, e_wGet2, e_getQ_d, e_getQ_l, e_getO_d, e_getO_t, e_wSl, e_wM, e_pop, e_popi, e_wCall, e_wCallK, e_wLc, e_wDc, e_wSeqI, e_wRng1, e_wRng2, e_wEnum, e_enumI, e_wZip, e_wFor, e_wYes, e_wPut, e_wDisp, e_disp_n, e_disp_c, e_wRaise, e_wDict0, e_spb, e_c0, e_c1, e_c2, e_c3, e_c4, e_c5, e_c6, e_c7, e_c8, e_add_i, e_add_s, e_add_t, e_add_l, e_sub_i, e_mul_i, e_mul_l, e_fdiv_i, e_mod_i, e_pow_i, e_neg_i, e_lt_i, e_lt_s, e_le_i, e_gt_i, e_ge_i, e_is_n, e_is_b, e_isN_n, e_isN_b, e_isNon_n, e_isNon_i, e_isNon_s, e_isNon_t, e_isNon_l, e_isNon_b, e_ix_t, e_ix_k, e_ix_l, e_ix_ds, e_ix_di, e_ix_s, e_obDT_l, e_obDT_d, e_obDT_t, e_obD_t, e_obL_t, e_ix_loc, e_ixO_l, e_ixO_d, e_ixO_t, e_len_loc, e_lenO_l, e_lenO_d, e_lenO_t, e_tuple_loc, e_list_loc, e_listO_l, e_listO_d, e_list_d, e_add_ll, e_sl_loc, e_tup, e_lst, e_len_t, e_len_k, e_len_l, e_len_d, e_len_r, e_len_s, e_abs, e_int_i, e_int_b, e_tuple_t, e_tuple_l, e_list_t, e_list_l, e_dict_d, e_dict_l, e_sorted_l, e_isi, e_ty_n, e_ty_b, e_ty_i, e_ty_s, e_ty_t, e_ty_l, e_ty_d, e_sl_t, e_sl_l, e_rev_t, e_rev_l, e_cut_to1, e_cut_from1, e_cut_to, e_cut_from, ec_ok_str, ec_szle, ec_szlt, ec_rng1, ec_rng2, e_wopt_n, e_intQ, e_wopt_s, e_blQ, e_wT, e_putD0, e_putD1, e_putL0, e_putL1, e_setS_f, e_setS_a, e_wd_in, e_wd_mv, e_ok_wd, e_ok_in, e_ok_move, e_en_S, e_en_TK, e_en_L, e_en_ty, e_en_bv, e_en_sb, e_ens_sb, e_bal_sb, e_bals_sb, e_en_isNon, e_en_ix0, e_en_ix1, e_en_ix2, e_en_ix3, e_own, e_pl, ec_own64, ec_pl64, ec_es_sz, e_eqL_ens, e_getD_bal, e_put_bal, e_balK_len, ec_val_mem, e_getput, e_sorted_bal, e_asS_dw, e_asD_dw, e_v_large, e_v_cells, e_v_rest, e_v_turn, e_dw_0, e_dw_1, e_dw_set0, e_put_rest, e_put_turn, u_is_number, u_is_wordT, u_is_word1, u_is_word2, u_is_row, u_is_row_en, u_is_name, u_are_ascending, u_is_lot_of, u_owners_in, u_places_in, u_came_of, u_behind, u_is_entry, e_zero_pl, e_walk_last, e_walk_len, ec_ok_ens, ec_ok_led, ec_ok_pl, ec_ok_own, ec_ok_plT, ec_ok_ownT, ec_minV_bal, u_balances_of])


end DL

set_option Elab.async false
set_option linter.all false
set_option maxRecDepth 100000
set_option maxHeartbeats 4000000
namespace DL
open PySem PySem.Spec PyProof.Rows L2 RZ
variable {S : Sto} {Q : D → Sto → Prop} {Ex : Xn → Sto → Prop} {c : Str → Addr}
local macro_rules | `(tactic| walk_at "ev") => `(tactic| try simp (maxSteps := 4000000) (dsimp := false) (implicitDefEqProofs := false) (disch := first | assumption | (show (_ : Nat) ≤ _; omega) | (show (_ : Int) ≤ _ ∧ _; omega)) only [↓u_neg, ↓e_lc, ↓e_lcB_if, ↓e_lcB_ifn, ↓e_lcB_t, ↓e_lcB_if2, ↓e_noG, ↓e_lc_nil, ↓e_lc_cons, ↓e_for_nil, ↓e_nx, ↓e_dc, ↓e_dcB_s, ↓e_rt, ↓e_rtF, ↓e_frzR, ↓e_frzR0, ↓e_xq, ↓e_sb_int, ↓e_sb_bl, ↓e_sb_str, ↓e_sb_non, ↓e_sb_scr, ↓e_sb_loc, ↓e_sb_tup, ↓e_sb_ktp, ↓e_sb_lst, ↓e_sb_dct, ↓e_sb_dcT, ↓e_sbL_nil, ↓e_sbK_nil, ↓e_sbL_cons, ↓e_sbL_ints, ↓e_sbL_strs, ↓e_sbL_bls, ↓e_frz_l0, ↓e_frz_d0, ↓e_frz_l1, ↓e_frz_d1, ↓e_frz_l2, ↓e_asS_tup, ↓e_asS_ktp, ↓e_asS_lst, ↓e_asS_scr, ↓e_asS_int, ↓e_asS_non, ↓e_asS_bl, ↓e_asS_str, ↓e_asS_dct, ↓e_asD_dct, ↓e_asD_int, ↓e_asD_str, ↓e_asD_lst, ↓e_asD_tup, ↓e_asDT_str, ↓e_asL_lst, ↓e_asL_tup, ↓e_asL_ktp, ↓e_asL_dct, ↓e_asL_int, ↓e_asL_bl, ↓e_asL_str, ↓e_asL_non, ↓e_asL_loc, ↓e_asS_loc, ↓e_asD_loc, ↓e_obL_s, ↓e_obL_d, ↓e_obD_s, ↓e_obD_l, ↓e_asK_str, ↓e_asK_int, ↓e_asI_int, ↓e_asTK_tup, ↓e_asTK_ktp, ↓e_asLoc_loc, ↓e_lstOf_lst, ↓e_lstOf_tup, ↓e_itOf_tup, ↓e_itOf_ktp, ↓e_itOf_lst, ↓e_itOf_scr, ↓e_itOf_str, ↓e_alL_f, ↓e_alL_t, ↓e_alD_f, ↓e_alD_t, ↓e_kn_bool, ↓e_kn_int, ↓e_kn_str, ↓e_kn_tuple, ↓e_kn_list, ↓e_kn_dict, ↓e_su_ib, ↓e_su_ii, ↓e_su_ss, ↓e_su_tt, ↓e_sz0, ↓e_sz1, ↓e_sz2, ↓e_sz3, ↓e_sz4, ↓e_sz5, ↓e_sz6, ↓e_sz7, ↓e_sz8, ↓e_sz9, ↓e_sz10, ↓e_sz11, ↓e_sz12, ↓e_app, ↓e_iteT, ↓e_iteF, ↓e_new_len, ↓e_new_len2, ↓e_new_two, ↓e_new_three, ↓e_len_map, ↓e_asBls, ↓e_asStrs, ↓e_asInts, ↓e_asStrs0, ↓e_asInts0, ↓e_asBls0, ↓e_all_id, ↓e_any_id, ↓e_sum, ↓e_all, ↓e_any, ↓e_max1l, ↓e_min1l, ↓e_max2, ↓e_min2, ↓e_ixN0, ↓e_bv_loc, ↓e_bvO_l, ↓e_bvO_d, ↓e_eq_nn, ↓e_eq_cn, ↓e_ok_intsL, ↓e_onB, ↓e_oQ_map, ↓e_inT, ↓e_inK, ↓e_inL, ↓e_ninT, ↓e_ninL, ↓e_setS, ↓e_in1, ↓e_chr_len, ↓e_take_map, ↓e_drop_map, ↓e_rev_map, ↓e_app_map, ↓e_eqTT, ↓e_eqLL, ↓e_eqL_nil, ↓e_eqL_cons, ↓e_eqL_nc, ↓e_eqL_cn, ↓e_eqL_strs, ↓e_eqL_ints, ↓e_eqL_m0, ↓e_eqL0, ↓e_eqT0, ↓e_wSkip, ↓e_wSeq, ↓e_wDrop, ↓e_wRet, ↓e_wRetN, ↓e_wBrk, ↓e_wCnt, ↓e_wIfS, ↓e_wSet, ↓e_wTup, ↓e_tg_nm, ↓e_tg_tp, ↓e_setAll_n, ↓e_setAll_c, ↓e_vQ, ↓e_wVar, ↓e_wC, ↓e_wNil, ↓e_wCons, ↓e_wB1, ↓e_wB2, ↓e_wAnd, ↓e_wOr, ↓e_wNot, ↓e_wIf, ↓e_wB, ↓e_wChain, ↓e_wAndV, ↓e_wOrV, ↓e_wNotV, ↓e_wP, ↓e_wGet2, ↓e_getQ_d, ↓e_getQ_l, ↓e_getO_d, ↓e_getO_t, ↓e_wSl, ↓e_wM, ↓e_pop, ↓e_popi, ↓e_wCall, ↓e_wCallK, ↓e_wLc, ↓e_wDc, ↓e_wSeqI, ↓e_wRng1, ↓e_wRng2, ↓e_wEnum, ↓e_enumI, ↓e_wZip, ↓e_wFor, ↓e_wYes, ↓e_wPut, ↓e_wDisp, ↓e_disp_n, ↓e_disp_c, ↓e_wRaise, ↓e_wDict0, ↓e_spb, ↓e_c0, ↓e_c1, ↓e_c2, ↓e_c3, ↓e_c4, ↓e_c5, ↓e_c6, ↓e_c7, ↓e_c8, ↓e_add_i, ↓e_add_s, ↓e_add_t, ↓e_add_l, ↓e_sub_i, ↓e_mul_i, ↓e_mul_l, ↓e_fdiv_i, ↓e_mod_i, ↓e_pow_i, ↓e_neg_i, ↓e_lt_i, ↓e_lt_s, ↓e_le_i, ↓e_gt_i, ↓e_ge_i, ↓e_is_n, ↓e_is_b, ↓e_isN_n, ↓e_isN_b, ↓e_isNon_n, ↓e_isNon_i, ↓e_isNon_s, ↓e_isNon_t, ↓e_isNon_l, ↓e_isNon_b, ↓e_ix_t, ↓e_ix_k, ↓e_ix_l, ↓e_ix_ds, ↓e_ix_di, ↓e_ix_s, ↓e_obDT_l, ↓e_obDT_d, ↓e_obDT_t, ↓e_obD_t, ↓e_obL_t, ↓e_ix_loc, ↓e_ixO_l, ↓e_ixO_d, ↓e_ixO_t, ↓e_len_loc, ↓e_lenO_l, ↓e_lenO_d, ↓e_lenO_t, ↓e_tuple_loc, ↓e_list_loc, ↓e_listO_l, ↓e_listO_d, ↓e_list_d, ↓e_add_ll, ↓e_sl_loc, ↓e_tup, ↓e_lst, ↓e_len_t, ↓e_len_k, ↓e_len_l, ↓e_len_d, ↓e_len_r, ↓e_len_s, ↓e_abs, ↓e_int_i, ↓e_int_b, ↓e_tuple_t, ↓e_tuple_l, ↓e_list_t, ↓e_list_l, ↓e_dict_d, ↓e_dict_l, ↓e_sorted_l, ↓e_isi, ↓e_ty_n, ↓e_ty_b, ↓e_ty_i, ↓e_ty_s, ↓e_ty_t, ↓e_ty_l, ↓e_ty_d, ↓e_sl_t, ↓e_sl_l, ↓e_rev_t, ↓e_rev_l, ↓e_cut_to1, ↓e_cut_from1, ↓e_cut_to, ↓e_cut_from, ↓e_wopt_n, ↓e_intQ, ↓e_wopt_s, ↓e_blQ, ↓e_wT, ↓e_putD0, ↓e_putD1, ↓e_putL0, ↓e_putL1, ↓e_setS_f, ↓e_setS_a, ↓e_wd_in, ↓e_wd_mv, ↓e_ok_wd, ↓e_ok_in, ↓e_ok_move, ↓e_en_S, ↓e_en_TK, ↓e_en_L, ↓e_en_ty, ↓e_en_bv, ↓e_en_sb, ↓e_ens_sb, ↓e_bal_sb, ↓e_bals_sb, ↓e_en_isNon, ↓e_en_ix0, ↓e_en_ix1, ↓e_en_ix2, ↓e_en_ix3, ↓e_own, ↓e_pl, ↓e_eqL_ens, ↓e_getD_bal, ↓e_put_bal, ↓e_balK_len, ↓e_getput, ↓e_sorted_bal, ↓e_asS_dw, ↓e_asD_dw, ↓e_v_large, ↓e_v_cells, ↓e_v_rest, ↓e_v_turn, ↓e_dw_0, ↓e_dw_1, ↓e_dw_set0, ↓e_put_rest, ↓e_put_turn, ↓u_is_number, ↓u_is_wordT, ↓u_is_word1, ↓u_is_word2, ↓u_is_row, ↓u_is_row_en, ↓u_is_name, ↓u_are_ascending, ↓u_is_lot_of, ↓u_owners_in, ↓u_places_in, ↓u_came_of, ↓u_behind, ↓u_is_entry, ↓e_zero_pl, ↓e_walk_last, ↓e_walk_len, ↓u_balances_of, ↓reduceIte, ↓oQ_s, startD, permL, List.map_cons, List.map_nil, List.length_cons, List.length_nil, List.replicate, List.getElem?_cons_succ, List.getElem?_cons_zero, List.cons_append, List.nil_append, List.set_cons_succ, List.set_cons_zero, Nat.reduceAdd, Nat.reduceSub, Nat.reduceEqDiff, wipeD, List.filterMap_cons, List.filterMap_nil, List.length_range, List.getElem?_map, Int.zero_add, List.length_map, List.eraseIdx_cons_zero, Bool.and_true, Bool.true_and, Bool.and_false, Bool.false_and, oQ_s, oQ_n, if_t, if_f, dEq, dNe, bv_int, bv_bl, bv_str, bv_tup, bv_lst, bv_non, eqD_int, eqD_str, eqD_bl, atI0, atI1, atI2, atI3, atI4, atI_nat, atI_nat', atI_succ, ok_int, ok_bl, ok_nil, sto_at, sto_at0, sto_set, sto_set0, Option.isSome_some, Option.isSome_none, Bool.false_eq_true, or_false, false_or, true_or, or_true, Option.map_some, Option.map_none, true_and, and_true, false_and, and_false, Bool.not_true, Bool.not_false, reduceIte, decide_true, decide_false, Bool.decide_eq_true, Bool.decide_eq_false, Bool.not_not, eq_self, reduceCtorEq, Int.reduceEq, Int.reduceLT, Int.reduceLE, u_neg, e_lc, e_lcB_if, e_lcB_ifn, e_lcB_t, e_lcB_if2, e_noG, e_lc_nil, e_lc_cons, e_for_nil, e_nx, e_dc, e_dcB_s, e_rt, e_rtF, e_frzR, e_frzR0, e_xq, e_sb_int, e_sb_bl, e_sb_str, e_sb_non, e_sb_scr, e_sb_loc, e_sb_tup, e_sb_ktp, e_sb_lst, e_sb_dct, e_sb_dcT, e_sbL_nil, e_sbK_nil, e_sbL_cons, e_sbL_ints, e_sbL_strs, e_sbL_bls, e_frz_l0, e_frz_d0, e_frz_l1, e_frz_d1, e_frz_l2, e_asS_tup, e_asS_ktp, e_asS_lst, e_asS_scr, e_asS_int, e_asS_non, e_asS_bl, e_asS_str, e_asS_dct, e_asD_dct, e_asD_int, e_asD_str, e_asD_lst, e_asD_tup, e_asDT_str, e_asL_lst, e_asL_tup, e_asL_ktp, e_asL_dct, e_asL_int, e_asL_bl, e_asL_str, e_asL_non, e_asL_loc, e_asS_loc, e_asD_loc, e_obL_s, e_obL_d, e_obD_s, e_obD_l, e_asK_str, e_asK_int, e_asI_int, e_asTK_tup, e_asTK_ktp, e_asLoc_loc, e_lstOf_lst, e_lstOf_tup, e_itOf_tup, e_itOf_ktp, e_itOf_lst, e_itOf_scr, e_itOf_str, e_alL_f, e_alL_t, e_alD_f, e_alD_t, e_kn_bool, e_kn_int, e_kn_str, e_kn_tuple, e_kn_list, e_kn_dict, e_su_ib, e_su_ii, e_su_ss, e_su_tt, e_sz0, e_sz1, e_sz2, e_sz3, e_sz4, e_sz5, e_sz6, e_sz7, e_sz8, e_sz9, e_sz10, e_sz11, e_sz12, e_app, e_iteT, e_iteF, e_new_len, e_new_len2, e_new_two, e_new_three, e_len_map, e_asBls, e_asStrs, e_asInts, e_asStrs0, e_asInts0, e_asBls0, e_all_id, e_any_id, e_sum, e_all, e_any, e_max1l, e_min1l, e_max2, e_min2, e_ixN0, e_bv_loc, e_bvO_l, e_bvO_d, e_eq_nn, e_eq_cn, e_ok_intsL, e_onB, e_oQ_map, e_inT, e_inK, e_inL, e_ninT, e_ninL, e_setS, e_in1, e_chr_len, ec_oQh, e_take_map, e_drop_map, e_rev_map, e_app_map, e_eqTT, e_eqLL, e_eqL_nil, e_eqL_cons, e_eqL_nc, e_eqL_cn, e_eqL_strs, e_eqL_ints, e_eqL_m0, e_eqL0, e_eqT0, e_wSkip, e_wSeq, e_wDrop, e_wRet, e_wRetN, e_wBrk, e_wCnt, e_wIfS, e_wSet, e_wTup, e_tg_nm, e_tg_tp, e_setAll_n, e_setAll_c, e_vQ, e_wVar, e_wC, e_wNil, e_wCons, e_wB1, e_wB2, e_wAnd, e_wOr, e_wNot, e_wIf, e_wB, e_wChain, e_wAndV, e_wOrV, e_wNotV, e_wP, e_wGet2, e_getQ_d, e_getQ_l, e_getO_d, e_getO_t, e_wSl, e_wM, e_pop, e_popi, e_wCall, e_wCallK, e_wLc, e_wDc, e_wSeqI, e_wRng1, e_wRng2, e_wEnum, e_enumI, e_wZip, e_wFor, e_wYes, e_wPut, e_wDisp, e_disp_n, e_disp_c, e_wRaise, e_wDict0, e_spb, e_c0, e_c1, e_c2, e_c3, e_c4, e_c5, e_c6, e_c7, e_c8, e_add_i, e_add_s, e_add_t, e_add_l, e_sub_i, e_mul_i, e_mul_l, e_fdiv_i, e_mod_i, e_pow_i, e_neg_i, e_lt_i, e_lt_s, e_le_i, e_gt_i, e_ge_i, e_is_n, e_is_b, e_isN_n, e_isN_b, e_isNon_n, e_isNon_i, e_isNon_s, e_isNon_t, e_isNon_l, e_isNon_b, e_ix_t, e_ix_k, e_ix_l, e_ix_ds, e_ix_di, e_ix_s, e_obDT_l, e_obDT_d, e_obDT_t, e_obD_t, e_obL_t, e_ix_loc, e_ixO_l, e_ixO_d, e_ixO_t, e_len_loc, e_lenO_l, e_lenO_d, e_lenO_t, e_tuple_loc, e_list_loc, e_listO_l, e_listO_d, e_list_d, e_add_ll, e_sl_loc, e_tup, e_lst, e_len_t, e_len_k, e_len_l, e_len_d, e_len_r, e_len_s, e_abs, e_int_i, e_int_b, e_tuple_t, e_tuple_l, e_list_t, e_list_l, e_dict_d, e_dict_l, e_sorted_l, e_isi, e_ty_n, e_ty_b, e_ty_i, e_ty_s, e_ty_t, e_ty_l, e_ty_d, e_sl_t, e_sl_l, e_rev_t, e_rev_l, e_cut_to1, e_cut_from1, e_cut_to, e_cut_from, ec_ok_str, ec_szle, ec_szlt, ec_rng1, ec_rng2, e_wopt_n, e_intQ, e_wopt_s, e_blQ, e_wT, e_putD0, e_putD1, e_putL0, e_putL1, e_setS_f, e_setS_a, e_wd_in, e_wd_mv, e_ok_wd, e_ok_in, e_ok_move, e_en_S, e_en_TK, e_en_L, e_en_ty, e_en_bv, e_en_sb, e_ens_sb, e_bal_sb, e_bals_sb, e_en_isNon, e_en_ix0, e_en_ix1, e_en_ix2, e_en_ix3, e_own, e_pl, ec_own64, ec_pl64, ec_es_sz, e_eqL_ens, e_getD_bal, e_put_bal, e_balK_len, ec_val_mem, e_getput, e_sorted_bal, e_asS_dw, e_asD_dw, e_v_large, e_v_cells, e_v_rest, e_v_turn, e_dw_0, e_dw_1, e_dw_set0, e_put_rest, e_put_turn, u_is_number, u_is_wordT, u_is_word1, u_is_word2, u_is_row, u_is_row_en, u_is_name, u_are_ascending, u_is_lot_of, u_owners_in, u_places_in, u_came_of, u_behind, u_is_entry, e_zero_pl, e_walk_last, e_walk_len, ec_ok_ens, ec_ok_led, ec_ok_pl, ec_ok_own, ec_ok_plT, ec_ok_ownT, ec_minV_bal, u_balances_of])
--# is_ledger
theorem u_is_ledger {es : List En} (hO : OkEs es) : sp_is_ledger [.tup [.str "ledger", .tup (es.map En.d)]] S Q Ex = Q (.bl (isL es)) S := by
  unfold sp_is_ledger rd_is_ledger
  have h1 := hO.len
  have h2 := hO.pl
  have h3 := hO.ow
  have hb : (balsS es).length = es.length + 1 := walkB_len
  walk_at "ev"
  rw [lcB_mem (fun e => D.bl (okEn e)) (fun e he Ky Kn => by
    obtain ⟨a1, a2, a3, a4⟩ := hO.nm e he
    walk_at "ev")]
  walk_at "ev"
  rw [lcB_at (fun _ => !decide (plS es = [])) (fun bs => D.bl (decide (0 ≤ minI (bs.map (·.2))))) (fun bs hbs Ky Kn => by
    cases hp : decide (plS es = [])
    · have hne : bs ≠ [] := walk_ne (fun z => of_decide_eq_false hp (List.map_eq_nil_iff.mp z)) bs hbs
      walk_at "ev"
    · walk_at "ev")]
  walk_at "ev"
  unfold isL
  have c1 : decide (40 < (es.length : Int)) = !decide (es.length ≤ 40) := by
    by_cases h : es.length ≤ 40
    · rw [decide_eq_true h, decide_eq_false (by omega)]; rfl
    · rw [decide_eq_false h, decide_eq_true (by omega)]; rfl
  have c2 : decide (6 < ((ownS es).length : Int)) = !decide ((ownS es).length ≤ 6) := by
    by_cases h : (ownS es).length ≤ 6
    · rw [decide_eq_true h, decide_eq_false (by omega)]; rfl
    · rw [decide_eq_false h, decide_eq_true (by omega)]; rfl
  have c3 : decide (6 < ((plS es).length : Int)) = !decide ((plS es).length ≤ 6) := by
    by_cases h : (plS es).length ≤ 6
    · rw [decide_eq_true h, decide_eq_false (by omega)]; rfl
    · rw [decide_eq_false h, decide_eq_true (by omega)]; rfl
  rw [c1, c2, c3]
  cases decide (es.length ≤ 40) <;> cases es.all okEn <;> cases decide ((ownS es).length ≤ 6) <;> cases decide ((plS es).length ≤ 6) <;> cases (ownS es).any (plS es).contains <;> try rfl
  cases g6 : decide (plS es = [])
  · have g6' : (plS es == []) = false := by simpa using of_decide_eq_false g6
    have ef : (balsS es).filter (fun _ => !false) = balsS es := List.filter_eq_self.mpr fun _ _ => rfl
    rw [g6', ef]
    rfl
  · have g6' : (plS es == []) = true := by simpa using of_decide_eq_true g6
    have ef : (balsS es).filter (fun _ => !true) = [] := List.filter_eq_nil_iff.mpr fun _ _ => Bool.false_ne_true
    rw [g6', ef]
    rfl
local macro_rules | `(tactic| walk_at "ev") => `(tactic| try simp (maxSteps := 4000000) (dsimp := false) (implicitDefEqProofs := false) (disch := first | assumption | (show (_ : Nat) ≤ _; omega) | (show (_ : Int) ≤ _ ∧ _; omega)) only [↓u_neg, ↓e_lc, ↓e_lcB_if, ↓e_lcB_ifn, ↓e_lcB_t, ↓e_lcB_if2, ↓e_noG, ↓e_lc_nil, ↓e_lc_cons, ↓e_for_nil, ↓e_nx, ↓e_dc, ↓e_dcB_s, ↓e_rt, ↓e_rtF, ↓e_frzR, ↓e_frzR0, ↓e_xq, ↓e_sb_int, ↓e_sb_bl, ↓e_sb_str, ↓e_sb_non, ↓e_sb_scr, ↓e_sb_loc, ↓e_sb_tup, ↓e_sb_ktp, ↓e_sb_lst, ↓e_sb_dct, ↓e_sb_dcT, ↓e_sbL_nil, ↓e_sbK_nil, ↓e_sbL_cons, ↓e_sbL_ints, ↓e_sbL_strs, ↓e_sbL_bls, ↓e_frz_l0, ↓e_frz_d0, ↓e_frz_l1, ↓e_frz_d1, ↓e_frz_l2, ↓e_asS_tup, ↓e_asS_ktp, ↓e_asS_lst, ↓e_asS_scr, ↓e_asS_int, ↓e_asS_non, ↓e_asS_bl, ↓e_asS_str, ↓e_asS_dct, ↓e_asD_dct, ↓e_asD_int, ↓e_asD_str, ↓e_asD_lst, ↓e_asD_tup, ↓e_asDT_str, ↓e_asL_lst, ↓e_asL_tup, ↓e_asL_ktp, ↓e_asL_dct, ↓e_asL_int, ↓e_asL_bl, ↓e_asL_str, ↓e_asL_non, ↓e_asL_loc, ↓e_asS_loc, ↓e_asD_loc, ↓e_obL_s, ↓e_obL_d, ↓e_obD_s, ↓e_obD_l, ↓e_asK_str, ↓e_asK_int, ↓e_asI_int, ↓e_asTK_tup, ↓e_asTK_ktp, ↓e_asLoc_loc, ↓e_lstOf_lst, ↓e_lstOf_tup, ↓e_itOf_tup, ↓e_itOf_ktp, ↓e_itOf_lst, ↓e_itOf_scr, ↓e_itOf_str, ↓e_alL_f, ↓e_alL_t, ↓e_alD_f, ↓e_alD_t, ↓e_kn_bool, ↓e_kn_int, ↓e_kn_str, ↓e_kn_tuple, ↓e_kn_list, ↓e_kn_dict, ↓e_su_ib, ↓e_su_ii, ↓e_su_ss, ↓e_su_tt, ↓e_sz0, ↓e_sz1, ↓e_sz2, ↓e_sz3, ↓e_sz4, ↓e_sz5, ↓e_sz6, ↓e_sz7, ↓e_sz8, ↓e_sz9, ↓e_sz10, ↓e_sz11, ↓e_sz12, ↓e_app, ↓e_iteT, ↓e_iteF, ↓e_new_len, ↓e_new_len2, ↓e_new_two, ↓e_new_three, ↓e_len_map, ↓e_asBls, ↓e_asStrs, ↓e_asInts, ↓e_asStrs0, ↓e_asInts0, ↓e_asBls0, ↓e_all_id, ↓e_any_id, ↓e_sum, ↓e_all, ↓e_any, ↓e_max1l, ↓e_min1l, ↓e_max2, ↓e_min2, ↓e_ixN0, ↓e_bv_loc, ↓e_bvO_l, ↓e_bvO_d, ↓e_eq_nn, ↓e_eq_cn, ↓e_ok_intsL, ↓e_onB, ↓e_oQ_map, ↓e_inT, ↓e_inK, ↓e_inL, ↓e_ninT, ↓e_ninL, ↓e_setS, ↓e_in1, ↓e_chr_len, ↓e_take_map, ↓e_drop_map, ↓e_rev_map, ↓e_app_map, ↓e_eqTT, ↓e_eqLL, ↓e_eqL_nil, ↓e_eqL_cons, ↓e_eqL_nc, ↓e_eqL_cn, ↓e_eqL_strs, ↓e_eqL_ints, ↓e_eqL_m0, ↓e_eqL0, ↓e_eqT0, ↓e_wSkip, ↓e_wSeq, ↓e_wDrop, ↓e_wRet, ↓e_wRetN, ↓e_wBrk, ↓e_wCnt, ↓e_wIfS, ↓e_wSet, ↓e_wTup, ↓e_tg_nm, ↓e_tg_tp, ↓e_setAll_n, ↓e_setAll_c, ↓e_vQ, ↓e_wVar, ↓e_wC, ↓e_wNil, ↓e_wCons, ↓e_wB1, ↓e_wB2, ↓e_wAnd, ↓e_wOr, ↓e_wNot, ↓e_wIf, ↓e_wB, ↓e_wChain, ↓e_wAndV, ↓e_wOrV, ↓e_wNotV, ↓e_wP, ↓e_wGet2, ↓e_getQ_d, ↓e_getQ_l, ↓e_getO_d, ↓e_getO_t, ↓e_wSl, ↓e_wM, ↓e_pop, ↓e_popi, ↓e_wCall, ↓e_wCallK, ↓e_wLc, ↓e_wDc, ↓e_wSeqI, ↓e_wRng1, ↓e_wRng2, ↓e_wEnum, ↓e_enumI, ↓e_wZip, ↓e_wFor, ↓e_wYes, ↓e_wPut, ↓e_wDisp, ↓e_disp_n, ↓e_disp_c, ↓e_wRaise, ↓e_wDict0, ↓e_spb, ↓e_c0, ↓e_c1, ↓e_c2, ↓e_c3, ↓e_c4, ↓e_c5, ↓e_c6, ↓e_c7, ↓e_c8, ↓e_add_i, ↓e_add_s, ↓e_add_t, ↓e_add_l, ↓e_sub_i, ↓e_mul_i, ↓e_mul_l, ↓e_fdiv_i, ↓e_mod_i, ↓e_pow_i, ↓e_neg_i, ↓e_lt_i, ↓e_lt_s, ↓e_le_i, ↓e_gt_i, ↓e_ge_i, ↓e_is_n, ↓e_is_b, ↓e_isN_n, ↓e_isN_b, ↓e_isNon_n, ↓e_isNon_i, ↓e_isNon_s, ↓e_isNon_t, ↓e_isNon_l, ↓e_isNon_b, ↓e_ix_t, ↓e_ix_k, ↓e_ix_l, ↓e_ix_ds, ↓e_ix_di, ↓e_ix_s, ↓e_obDT_l, ↓e_obDT_d, ↓e_obDT_t, ↓e_obD_t, ↓e_obL_t, ↓e_ix_loc, ↓e_ixO_l, ↓e_ixO_d, ↓e_ixO_t, ↓e_len_loc, ↓e_lenO_l, ↓e_lenO_d, ↓e_lenO_t, ↓e_tuple_loc, ↓e_list_loc, ↓e_listO_l, ↓e_listO_d, ↓e_list_d, ↓e_add_ll, ↓e_sl_loc, ↓e_tup, ↓e_lst, ↓e_len_t, ↓e_len_k, ↓e_len_l, ↓e_len_d, ↓e_len_r, ↓e_len_s, ↓e_abs, ↓e_int_i, ↓e_int_b, ↓e_tuple_t, ↓e_tuple_l, ↓e_list_t, ↓e_list_l, ↓e_dict_d, ↓e_dict_l, ↓e_sorted_l, ↓e_isi, ↓e_ty_n, ↓e_ty_b, ↓e_ty_i, ↓e_ty_s, ↓e_ty_t, ↓e_ty_l, ↓e_ty_d, ↓e_sl_t, ↓e_sl_l, ↓e_rev_t, ↓e_rev_l, ↓e_cut_to1, ↓e_cut_from1, ↓e_cut_to, ↓e_cut_from, ↓e_wopt_n, ↓e_intQ, ↓e_wopt_s, ↓e_blQ, ↓e_wT, ↓e_putD0, ↓e_putD1, ↓e_putL0, ↓e_putL1, ↓e_setS_f, ↓e_setS_a, ↓e_wd_in, ↓e_wd_mv, ↓e_ok_wd, ↓e_ok_in, ↓e_ok_move, ↓e_en_S, ↓e_en_TK, ↓e_en_L, ↓e_en_ty, ↓e_en_bv, ↓e_en_sb, ↓e_ens_sb, ↓e_bal_sb, ↓e_bals_sb, ↓e_en_isNon, ↓e_en_ix0, ↓e_en_ix1, ↓e_en_ix2, ↓e_en_ix3, ↓e_own, ↓e_pl, ↓e_eqL_ens, ↓e_getD_bal, ↓e_put_bal, ↓e_balK_len, ↓e_getput, ↓e_sorted_bal, ↓e_asS_dw, ↓e_asD_dw, ↓e_v_large, ↓e_v_cells, ↓e_v_rest, ↓e_v_turn, ↓e_dw_0, ↓e_dw_1, ↓e_dw_set0, ↓e_put_rest, ↓e_put_turn, ↓u_is_number, ↓u_is_wordT, ↓u_is_word1, ↓u_is_word2, ↓u_is_row, ↓u_is_row_en, ↓u_is_name, ↓u_are_ascending, ↓u_is_lot_of, ↓u_owners_in, ↓u_places_in, ↓u_came_of, ↓u_behind, ↓u_is_entry, ↓e_zero_pl, ↓e_walk_last, ↓e_walk_len, ↓u_balances_of, ↓u_is_ledger, ↓reduceIte, ↓oQ_s, startD, permL, List.map_cons, List.map_nil, List.length_cons, List.length_nil, List.replicate, List.getElem?_cons_succ, List.getElem?_cons_zero, List.cons_append, List.nil_append, List.set_cons_succ, List.set_cons_zero, Nat.reduceAdd, Nat.reduceSub, Nat.reduceEqDiff, wipeD, List.filterMap_cons, List.filterMap_nil, List.length_range, List.getElem?_map, Int.zero_add, List.length_map, List.eraseIdx_cons_zero, Bool.and_true, Bool.true_and, Bool.and_false, Bool.false_and, oQ_s, oQ_n, if_t, if_f, dEq, dNe, bv_int, bv_bl, bv_str, bv_tup, bv_lst, bv_non, eqD_int, eqD_str, eqD_bl, atI0, atI1, atI2, atI3, atI4, atI_nat, atI_nat', atI_succ, ok_int, ok_bl, ok_nil, sto_at, sto_at0, sto_set, sto_set0, Option.isSome_some, Option.isSome_none, Bool.false_eq_true, or_false, false_or, true_or, or_true, Option.map_some, Option.map_none, true_and, and_true, false_and, and_false, Bool.not_true, Bool.not_false, reduceIte, decide_true, decide_false, Bool.decide_eq_true, Bool.decide_eq_false, Bool.not_not, eq_self, reduceCtorEq, Int.reduceEq, Int.reduceLT, Int.reduceLE, u_neg, e_lc, e_lcB_if, e_lcB_ifn, e_lcB_t, e_lcB_if2, e_noG, e_lc_nil, e_lc_cons, e_for_nil, e_nx, e_dc, e_dcB_s, e_rt, e_rtF, e_frzR, e_frzR0, e_xq, e_sb_int, e_sb_bl, e_sb_str, e_sb_non, e_sb_scr, e_sb_loc, e_sb_tup, e_sb_ktp, e_sb_lst, e_sb_dct, e_sb_dcT, e_sbL_nil, e_sbK_nil, e_sbL_cons, e_sbL_ints, e_sbL_strs, e_sbL_bls, e_frz_l0, e_frz_d0, e_frz_l1, e_frz_d1, e_frz_l2, e_asS_tup, e_asS_ktp, e_asS_lst, e_asS_scr, e_asS_int, e_asS_non, e_asS_bl, e_asS_str, e_asS_dct, e_asD_dct, e_asD_int, e_asD_str, e_asD_lst, e_asD_tup, e_asDT_str, e_asL_lst, e_asL_tup, e_asL_ktp, e_asL_dct, e_asL_int, e_asL_bl, e_asL_str, e_asL_non, e_asL_loc, e_asS_loc, e_asD_loc, e_obL_s, e_obL_d, e_obD_s, e_obD_l, e_asK_str, e_asK_int, e_asI_int, e_asTK_tup, e_asTK_ktp, e_asLoc_loc, e_lstOf_lst, e_lstOf_tup, e_itOf_tup, e_itOf_ktp, e_itOf_lst, e_itOf_scr, e_itOf_str, e_alL_f, e_alL_t, e_alD_f, e_alD_t, e_kn_bool, e_kn_int, e_kn_str, e_kn_tuple, e_kn_list, e_kn_dict, e_su_ib, e_su_ii, e_su_ss, e_su_tt, e_sz0, e_sz1, e_sz2, e_sz3, e_sz4, e_sz5, e_sz6, e_sz7, e_sz8, e_sz9, e_sz10, e_sz11, e_sz12, e_app, e_iteT, e_iteF, e_new_len, e_new_len2, e_new_two, e_new_three, e_len_map, e_asBls, e_asStrs, e_asInts, e_asStrs0, e_asInts0, e_asBls0, e_all_id, e_any_id, e_sum, e_all, e_any, e_max1l, e_min1l, e_max2, e_min2, e_ixN0, e_bv_loc, e_bvO_l, e_bvO_d, e_eq_nn, e_eq_cn, e_ok_intsL, e_onB, e_oQ_map, e_inT, e_inK, e_inL, e_ninT, e_ninL, e_setS, e_in1, e_chr_len, ec_oQh, e_take_map, e_drop_map, e_rev_map, e_app_map, e_eqTT, e_eqLL, e_eqL_nil, e_eqL_cons, e_eqL_nc, e_eqL_cn, e_eqL_strs, e_eqL_ints, e_eqL_m0, e_eqL0, e_eqT0, e_wSkip, e_wSeq, e_wDrop, e_wRet, e_wRetN, e_wBrk, e_wCnt, e_wIfS, e_wSet, e_wTup, e_tg_nm, e_tg_tp, e_setAll_n, e_setAll_c, e_vQ, e_wVar, e_wC, e_wNil, e_wCons, e_wB1, e_wB2, e_wAnd, e_wOr, e_wNot, e_wIf, e_wB, e_wChain, e_wAndV, e_wOrV, e_wNotV, e_wP, e_wGet2, e_getQ_d, e_getQ_l, e_getO_d, e_getO_t, e_wSl, e_wM, e_pop, e_popi, e_wCall, e_wCallK, e_wLc, e_wDc, e_wSeqI, e_wRng1, e_wRng2, e_wEnum, e_enumI, e_wZip, e_wFor, e_wYes, e_wPut, e_wDisp, e_disp_n, e_disp_c, e_wRaise, e_wDict0, e_spb, e_c0, e_c1, e_c2, e_c3, e_c4, e_c5, e_c6, e_c7, e_c8, e_add_i, e_add_s, e_add_t, e_add_l, e_sub_i, e_mul_i, e_mul_l, e_fdiv_i, e_mod_i, e_pow_i, e_neg_i, e_lt_i, e_lt_s, e_le_i, e_gt_i, e_ge_i, e_is_n, e_is_b, e_isN_n, e_isN_b, e_isNon_n, e_isNon_i, e_isNon_s, e_isNon_t, e_isNon_l, e_isNon_b, e_ix_t, e_ix_k, e_ix_l, e_ix_ds, e_ix_di, e_ix_s, e_obDT_l, e_obDT_d, e_obDT_t, e_obD_t, e_obL_t, e_ix_loc, e_ixO_l, e_ixO_d, e_ixO_t, e_len_loc, e_lenO_l, e_lenO_d, e_lenO_t, e_tuple_loc, e_list_loc, e_listO_l, e_listO_d, e_list_d, e_add_ll, e_sl_loc, e_tup, e_lst, e_len_t, e_len_k, e_len_l, e_len_d, e_len_r, e_len_s, e_abs, e_int_i, e_int_b, e_tuple_t, e_tuple_l, e_list_t, e_list_l, e_dict_d, e_dict_l, e_sorted_l, e_isi, e_ty_n, e_ty_b, e_ty_i, e_ty_s, e_ty_t, e_ty_l, e_ty_d, e_sl_t, e_sl_l, e_rev_t, e_rev_l, e_cut_to1, e_cut_from1, e_cut_to, e_cut_from, ec_ok_str, ec_szle, ec_szlt, ec_rng1, ec_rng2, e_wopt_n, e_intQ, e_wopt_s, e_blQ, e_wT, e_putD0, e_putD1, e_putL0, e_putL1, e_setS_f, e_setS_a, e_wd_in, e_wd_mv, e_ok_wd, e_ok_in, e_ok_move, e_en_S, e_en_TK, e_en_L, e_en_ty, e_en_bv, e_en_sb, e_ens_sb, e_bal_sb, e_bals_sb, e_en_isNon, e_en_ix0, e_en_ix1, e_en_ix2, e_en_ix3, e_own, e_pl, ec_own64, ec_pl64, ec_es_sz, e_eqL_ens, e_getD_bal, e_put_bal, e_balK_len, ec_val_mem, e_getput, e_sorted_bal, e_asS_dw, e_asD_dw, e_v_large, e_v_cells, e_v_rest, e_v_turn, e_dw_0, e_dw_1, e_dw_set0, e_put_rest, e_put_turn, u_is_number, u_is_wordT, u_is_word1, u_is_word2, u_is_row, u_is_row_en, u_is_name, u_are_ascending, u_is_lot_of, u_owners_in, u_places_in, u_came_of, u_behind, u_is_entry, e_zero_pl, e_walk_last, e_walk_len, ec_ok_ens, ec_ok_led, ec_ok_pl, ec_ok_own, ec_ok_plT, ec_ok_ownT, ec_minV_bal, u_balances_of, u_is_ledger])

--# check_ledger
theorem u_check_ledger {es : List En} (hO : OkEs es) : sp_check_ledger c [.tup [.str "ledger", .tup (es.map En.d)]] S Q Ex = if isL es = true then Q .non S else Ex ⟨c "BadLedger", none⟩ S := by
  unfold sp_check_ledger rd_check_ledger
  walk_at "ev"
  cases isL es <;> rfl
--# owners_of
theorem u_owners_of {es : List En} (hO : OkEs es) : sp_owners_of [.tup [.str "ledger", .tup (es.map En.d)]] S Q Ex = Q (.tup ((ownS es).map D.str)) S := by
  unfold sp_owners_of rd_owners_of
  walk_at "ev"
--# places_of
theorem u_places_of {es : List En} (hO : OkEs es) : sp_places_of [.tup [.str "ledger", .tup (es.map En.d)]] S Q Ex = Q (.tup ((plS es).map D.str)) S := by
  unfold sp_places_of rd_places_of
  walk_at "ev"
local macro_rules | `(tactic| walk_at "ev") => `(tactic| try simp (maxSteps := 4000000) (dsimp := false) (implicitDefEqProofs := false) (disch := first | assumption | (show (_ : Nat) ≤ _; omega) | (show (_ : Int) ≤ _ ∧ _; omega)) only [↓u_neg, ↓e_lc, ↓e_lcB_if, ↓e_lcB_ifn, ↓e_lcB_t, ↓e_lcB_if2, ↓e_noG, ↓e_lc_nil, ↓e_lc_cons, ↓e_for_nil, ↓e_nx, ↓e_dc, ↓e_dcB_s, ↓e_rt, ↓e_rtF, ↓e_frzR, ↓e_frzR0, ↓e_xq, ↓e_sb_int, ↓e_sb_bl, ↓e_sb_str, ↓e_sb_non, ↓e_sb_scr, ↓e_sb_loc, ↓e_sb_tup, ↓e_sb_ktp, ↓e_sb_lst, ↓e_sb_dct, ↓e_sb_dcT, ↓e_sbL_nil, ↓e_sbK_nil, ↓e_sbL_cons, ↓e_sbL_ints, ↓e_sbL_strs, ↓e_sbL_bls, ↓e_frz_l0, ↓e_frz_d0, ↓e_frz_l1, ↓e_frz_d1, ↓e_frz_l2, ↓e_asS_tup, ↓e_asS_ktp, ↓e_asS_lst, ↓e_asS_scr, ↓e_asS_int, ↓e_asS_non, ↓e_asS_bl, ↓e_asS_str, ↓e_asS_dct, ↓e_asD_dct, ↓e_asD_int, ↓e_asD_str, ↓e_asD_lst, ↓e_asD_tup, ↓e_asDT_str, ↓e_asL_lst, ↓e_asL_tup, ↓e_asL_ktp, ↓e_asL_dct, ↓e_asL_int, ↓e_asL_bl, ↓e_asL_str, ↓e_asL_non, ↓e_asL_loc, ↓e_asS_loc, ↓e_asD_loc, ↓e_obL_s, ↓e_obL_d, ↓e_obD_s, ↓e_obD_l, ↓e_asK_str, ↓e_asK_int, ↓e_asI_int, ↓e_asTK_tup, ↓e_asTK_ktp, ↓e_asLoc_loc, ↓e_lstOf_lst, ↓e_lstOf_tup, ↓e_itOf_tup, ↓e_itOf_ktp, ↓e_itOf_lst, ↓e_itOf_scr, ↓e_itOf_str, ↓e_alL_f, ↓e_alL_t, ↓e_alD_f, ↓e_alD_t, ↓e_kn_bool, ↓e_kn_int, ↓e_kn_str, ↓e_kn_tuple, ↓e_kn_list, ↓e_kn_dict, ↓e_su_ib, ↓e_su_ii, ↓e_su_ss, ↓e_su_tt, ↓e_sz0, ↓e_sz1, ↓e_sz2, ↓e_sz3, ↓e_sz4, ↓e_sz5, ↓e_sz6, ↓e_sz7, ↓e_sz8, ↓e_sz9, ↓e_sz10, ↓e_sz11, ↓e_sz12, ↓e_app, ↓e_iteT, ↓e_iteF, ↓e_new_len, ↓e_new_len2, ↓e_new_two, ↓e_new_three, ↓e_len_map, ↓e_asBls, ↓e_asStrs, ↓e_asInts, ↓e_asStrs0, ↓e_asInts0, ↓e_asBls0, ↓e_all_id, ↓e_any_id, ↓e_sum, ↓e_all, ↓e_any, ↓e_max1l, ↓e_min1l, ↓e_max2, ↓e_min2, ↓e_ixN0, ↓e_bv_loc, ↓e_bvO_l, ↓e_bvO_d, ↓e_eq_nn, ↓e_eq_cn, ↓e_ok_intsL, ↓e_onB, ↓e_oQ_map, ↓e_inT, ↓e_inK, ↓e_inL, ↓e_ninT, ↓e_ninL, ↓e_setS, ↓e_in1, ↓e_chr_len, ↓e_take_map, ↓e_drop_map, ↓e_rev_map, ↓e_app_map, ↓e_eqTT, ↓e_eqLL, ↓e_eqL_nil, ↓e_eqL_cons, ↓e_eqL_nc, ↓e_eqL_cn, ↓e_eqL_strs, ↓e_eqL_ints, ↓e_eqL_m0, ↓e_eqL0, ↓e_eqT0, ↓e_wSkip, ↓e_wSeq, ↓e_wDrop, ↓e_wRet, ↓e_wRetN, ↓e_wBrk, ↓e_wCnt, ↓e_wIfS, ↓e_wSet, ↓e_wTup, ↓e_tg_nm, ↓e_tg_tp, ↓e_setAll_n, ↓e_setAll_c, ↓e_vQ, ↓e_wVar, ↓e_wC, ↓e_wNil, ↓e_wCons, ↓e_wB1, ↓e_wB2, ↓e_wAnd, ↓e_wOr, ↓e_wNot, ↓e_wIf, ↓e_wB, ↓e_wChain, ↓e_wAndV, ↓e_wOrV, ↓e_wNotV, ↓e_wP, ↓e_wGet2, ↓e_getQ_d, ↓e_getQ_l, ↓e_getO_d, ↓e_getO_t, ↓e_wSl, ↓e_wM, ↓e_pop, ↓e_popi, ↓e_wCall, ↓e_wCallK, ↓e_wLc, ↓e_wDc, ↓e_wSeqI, ↓e_wRng1, ↓e_wRng2, ↓e_wEnum, ↓e_enumI, ↓e_wZip, ↓e_wFor, ↓e_wYes, ↓e_wPut, ↓e_wDisp, ↓e_disp_n, ↓e_disp_c, ↓e_wRaise, ↓e_wDict0, ↓e_spb, ↓e_c0, ↓e_c1, ↓e_c2, ↓e_c3, ↓e_c4, ↓e_c5, ↓e_c6, ↓e_c7, ↓e_c8, ↓e_add_i, ↓e_add_s, ↓e_add_t, ↓e_add_l, ↓e_sub_i, ↓e_mul_i, ↓e_mul_l, ↓e_fdiv_i, ↓e_mod_i, ↓e_pow_i, ↓e_neg_i, ↓e_lt_i, ↓e_lt_s, ↓e_le_i, ↓e_gt_i, ↓e_ge_i, ↓e_is_n, ↓e_is_b, ↓e_isN_n, ↓e_isN_b, ↓e_isNon_n, ↓e_isNon_i, ↓e_isNon_s, ↓e_isNon_t, ↓e_isNon_l, ↓e_isNon_b, ↓e_ix_t, ↓e_ix_k, ↓e_ix_l, ↓e_ix_ds, ↓e_ix_di, ↓e_ix_s, ↓e_obDT_l, ↓e_obDT_d, ↓e_obDT_t, ↓e_obD_t, ↓e_obL_t, ↓e_ix_loc, ↓e_ixO_l, ↓e_ixO_d, ↓e_ixO_t, ↓e_len_loc, ↓e_lenO_l, ↓e_lenO_d, ↓e_lenO_t, ↓e_tuple_loc, ↓e_list_loc, ↓e_listO_l, ↓e_listO_d, ↓e_list_d, ↓e_add_ll, ↓e_sl_loc, ↓e_tup, ↓e_lst, ↓e_len_t, ↓e_len_k, ↓e_len_l, ↓e_len_d, ↓e_len_r, ↓e_len_s, ↓e_abs, ↓e_int_i, ↓e_int_b, ↓e_tuple_t, ↓e_tuple_l, ↓e_list_t, ↓e_list_l, ↓e_dict_d, ↓e_dict_l, ↓e_sorted_l, ↓e_isi, ↓e_ty_n, ↓e_ty_b, ↓e_ty_i, ↓e_ty_s, ↓e_ty_t, ↓e_ty_l, ↓e_ty_d, ↓e_sl_t, ↓e_sl_l, ↓e_rev_t, ↓e_rev_l, ↓e_cut_to1, ↓e_cut_from1, ↓e_cut_to, ↓e_cut_from, ↓e_wopt_n, ↓e_intQ, ↓e_wopt_s, ↓e_blQ, ↓e_wT, ↓e_putD0, ↓e_putD1, ↓e_putL0, ↓e_putL1, ↓e_setS_f, ↓e_setS_a, ↓e_wd_in, ↓e_wd_mv, ↓e_ok_wd, ↓e_ok_in, ↓e_ok_move, ↓e_en_S, ↓e_en_TK, ↓e_en_L, ↓e_en_ty, ↓e_en_bv, ↓e_en_sb, ↓e_ens_sb, ↓e_bal_sb, ↓e_bals_sb, ↓e_en_isNon, ↓e_en_ix0, ↓e_en_ix1, ↓e_en_ix2, ↓e_en_ix3, ↓e_own, ↓e_pl, ↓e_eqL_ens, ↓e_getD_bal, ↓e_put_bal, ↓e_balK_len, ↓e_getput, ↓e_sorted_bal, ↓e_asS_dw, ↓e_asD_dw, ↓e_v_large, ↓e_v_cells, ↓e_v_rest, ↓e_v_turn, ↓e_dw_0, ↓e_dw_1, ↓e_dw_set0, ↓e_put_rest, ↓e_put_turn, ↓u_is_number, ↓u_is_wordT, ↓u_is_word1, ↓u_is_word2, ↓u_is_row, ↓u_is_row_en, ↓u_is_name, ↓u_are_ascending, ↓u_is_lot_of, ↓u_owners_in, ↓u_places_in, ↓u_came_of, ↓u_behind, ↓u_is_entry, ↓e_zero_pl, ↓e_walk_last, ↓e_walk_len, ↓u_balances_of, ↓u_is_ledger, ↓u_check_ledger, ↓u_owners_of, ↓u_places_of, ↓reduceIte, ↓oQ_s, startD, permL, List.map_cons, List.map_nil, List.length_cons, List.length_nil, List.replicate, List.getElem?_cons_succ, List.getElem?_cons_zero, List.cons_append, List.nil_append, List.set_cons_succ, List.set_cons_zero, Nat.reduceAdd, Nat.reduceSub, Nat.reduceEqDiff, wipeD, List.filterMap_cons, List.filterMap_nil, List.length_range, List.getElem?_map, Int.zero_add, List.length_map, List.eraseIdx_cons_zero, Bool.and_true, Bool.true_and, Bool.and_false, Bool.false_and, oQ_s, oQ_n, if_t, if_f, dEq, dNe, bv_int, bv_bl, bv_str, bv_tup, bv_lst, bv_non, eqD_int, eqD_str, eqD_bl, atI0, atI1, atI2, atI3, atI4, atI_nat, atI_nat', atI_succ, ok_int, ok_bl, ok_nil, sto_at, sto_at0, sto_set, sto_set0, Option.isSome_some, Option.isSome_none, Bool.false_eq_true, or_false, false_or, true_or, or_true, Option.map_some, Option.map_none, true_and, and_true, false_and, and_false, Bool.not_true, Bool.not_false, reduceIte, decide_true, decide_false, Bool.decide_eq_true, Bool.decide_eq_false, Bool.not_not, eq_self, reduceCtorEq, Int.reduceEq, Int.reduceLT, Int.reduceLE, u_neg, e_lc, e_lcB_if, e_lcB_ifn, e_lcB_t, e_lcB_if2, e_noG, e_lc_nil, e_lc_cons, e_for_nil, e_nx, e_dc, e_dcB_s, e_rt, e_rtF, e_frzR, e_frzR0, e_xq, e_sb_int, e_sb_bl, e_sb_str, e_sb_non, e_sb_scr, e_sb_loc, e_sb_tup, e_sb_ktp, e_sb_lst, e_sb_dct, e_sb_dcT, e_sbL_nil, e_sbK_nil, e_sbL_cons, e_sbL_ints, e_sbL_strs, e_sbL_bls, e_frz_l0, e_frz_d0, e_frz_l1, e_frz_d1, e_frz_l2, e_asS_tup, e_asS_ktp, e_asS_lst, e_asS_scr, e_asS_int, e_asS_non, e_asS_bl, e_asS_str, e_asS_dct, e_asD_dct, e_asD_int, e_asD_str, e_asD_lst, e_asD_tup, e_asDT_str, e_asL_lst, e_asL_tup, e_asL_ktp, e_asL_dct, e_asL_int, e_asL_bl, e_asL_str, e_asL_non, e_asL_loc, e_asS_loc, e_asD_loc, e_obL_s, e_obL_d, e_obD_s, e_obD_l, e_asK_str, e_asK_int, e_asI_int, e_asTK_tup, e_asTK_ktp, e_asLoc_loc, e_lstOf_lst, e_lstOf_tup, e_itOf_tup, e_itOf_ktp, e_itOf_lst, e_itOf_scr, e_itOf_str, e_alL_f, e_alL_t, e_alD_f, e_alD_t, e_kn_bool, e_kn_int, e_kn_str, e_kn_tuple, e_kn_list, e_kn_dict, e_su_ib, e_su_ii, e_su_ss, e_su_tt, e_sz0, e_sz1, e_sz2, e_sz3, e_sz4, e_sz5, e_sz6, e_sz7, e_sz8, e_sz9, e_sz10, e_sz11, e_sz12, e_app, e_iteT, e_iteF, e_new_len, e_new_len2, e_new_two, e_new_three, e_len_map, e_asBls, e_asStrs, e_asInts, e_asStrs0, e_asInts0, e_asBls0, e_all_id, e_any_id, e_sum, e_all, e_any, e_max1l, e_min1l, e_max2, e_min2, e_ixN0, e_bv_loc, e_bvO_l, e_bvO_d, e_eq_nn, e_eq_cn, e_ok_intsL, e_onB, e_oQ_map, e_inT, e_inK, e_inL, e_ninT, e_ninL, e_setS, e_in1, e_chr_len, ec_oQh, e_take_map, e_drop_map, e_rev_map, e_app_map, e_eqTT, e_eqLL, e_eqL_nil, e_eqL_cons, e_eqL_nc, e_eqL_cn, e_eqL_strs, e_eqL_ints, e_eqL_m0, e_eqL0, e_eqT0, e_wSkip, e_wSeq, e_wDrop, e_wRet, e_wRetN, e_wBrk, e_wCnt, e_wIfS, e_wSet, e_wTup, e_tg_nm, e_tg_tp, e_setAll_n, e_setAll_c, e_vQ, e_wVar, e_wC, e_wNil, e_wCons, e_wB1, e_wB2, e_wAnd, e_wOr, e_wNot, e_wIf, e_wB, e_wChain, e_wAndV, e_wOrV, e_wNotV, e_wP, e_wGet2, e_getQ_d, e_getQ_l, e_getO_d, e_getO_t, e_wSl, e_wM, e_pop, e_popi, e_wCall, e_wCallK, e_wLc, e_wDc, e_wSeqI, e_wRng1, e_wRng2, e_wEnum, e_enumI, e_wZip, e_wFor, e_wYes, e_wPut, e_wDisp, e_disp_n, e_disp_c, e_wRaise, e_wDict0, e_spb, e_c0, e_c1, e_c2, e_c3, e_c4, e_c5, e_c6, e_c7, e_c8, e_add_i, e_add_s, e_add_t, e_add_l, e_sub_i, e_mul_i, e_mul_l, e_fdiv_i, e_mod_i, e_pow_i, e_neg_i, e_lt_i, e_lt_s, e_le_i, e_gt_i, e_ge_i, e_is_n, e_is_b, e_isN_n, e_isN_b, e_isNon_n, e_isNon_i, e_isNon_s, e_isNon_t, e_isNon_l, e_isNon_b, e_ix_t, e_ix_k, e_ix_l, e_ix_ds, e_ix_di, e_ix_s, e_obDT_l, e_obDT_d, e_obDT_t, e_obD_t, e_obL_t, e_ix_loc, e_ixO_l, e_ixO_d, e_ixO_t, e_len_loc, e_lenO_l, e_lenO_d, e_lenO_t, e_tuple_loc, e_list_loc, e_listO_l, e_listO_d, e_list_d, e_add_ll, e_sl_loc, e_tup, e_lst, e_len_t, e_len_k, e_len_l, e_len_d, e_len_r, e_len_s, e_abs, e_int_i, e_int_b, e_tuple_t, e_tuple_l, e_list_t, e_list_l, e_dict_d, e_dict_l, e_sorted_l, e_isi, e_ty_n, e_ty_b, e_ty_i, e_ty_s, e_ty_t, e_ty_l, e_ty_d, e_sl_t, e_sl_l, e_rev_t, e_rev_l, e_cut_to1, e_cut_from1, e_cut_to, e_cut_from, ec_ok_str, ec_szle, ec_szlt, ec_rng1, ec_rng2, e_wopt_n, e_intQ, e_wopt_s, e_blQ, e_wT, e_putD0, e_putD1, e_putL0, e_putL1, e_setS_f, e_setS_a, e_wd_in, e_wd_mv, e_ok_wd, e_ok_in, e_ok_move, e_en_S, e_en_TK, e_en_L, e_en_ty, e_en_bv, e_en_sb, e_ens_sb, e_bal_sb, e_bals_sb, e_en_isNon, e_en_ix0, e_en_ix1, e_en_ix2, e_en_ix3, e_own, e_pl, ec_own64, ec_pl64, ec_es_sz, e_eqL_ens, e_getD_bal, e_put_bal, e_balK_len, ec_val_mem, e_getput, e_sorted_bal, e_asS_dw, e_asD_dw, e_v_large, e_v_cells, e_v_rest, e_v_turn, e_dw_0, e_dw_1, e_dw_set0, e_put_rest, e_put_turn, u_is_number, u_is_wordT, u_is_word1, u_is_word2, u_is_row, u_is_row_en, u_is_name, u_are_ascending, u_is_lot_of, u_owners_in, u_places_in, u_came_of, u_behind, u_is_entry, e_zero_pl, e_walk_last, e_walk_len, ec_ok_ens, ec_ok_led, ec_ok_pl, ec_ok_own, ec_ok_plT, ec_ok_ownT, ec_minV_bal, u_balances_of, u_is_ledger, u_check_ledger, u_owners_of, u_places_of])

--# check_some
theorem u_check_some {es : List En} {xs : List Str} (hO : OkEs es) (hx : xs.length ≤ 100) : sp_check_some c [.tup [.str "ledger", .tup (es.map En.d)], .tup (xs.map D.str)] S Q Ex = if lotB xs (ownS es) = true then Q .non S else Ex ⟨c "BadSome", none⟩ S := by
  unfold sp_check_some rd_check_some
  walk_at "ev"
  cases lotB xs (ownS es) <;> rfl
--# check_where
theorem u_check_where {es : List En} {xs : List Str} (hO : OkEs es) (hx : xs.length ≤ 100) : sp_check_where c [.tup [.str "ledger", .tup (es.map En.d)], .tup (xs.map D.str)] S Q Ex = if lotB xs (plS es) = true then Q .non S else Ex ⟨c "BadWhere", none⟩ S := by
  unfold sp_check_where rd_check_where
  walk_at "ev"
  cases lotB xs (plS es) <;> rfl
--# check_place
theorem u_check_place {es : List En} {x : Str} (hO : OkEs es) : sp_check_place c [.tup [.str "ledger", .tup (es.map En.d)], .str x] S Q Ex = if (plS es).contains x = true then Q .non S else Ex ⟨c "BadPlace", none⟩ S := by
  unfold sp_check_place rd_check_place
  walk_at "ev"
  cases (plS es).contains x <;> rfl
--# check_moment
theorem u_check_moment {es : List En} {k : Int} : sp_check_moment c [.tup [.str "ledger", .tup (es.map En.d)], .int k] S Q Ex = if (decide (0 ≤ k) && decide (k ≤ es.length)) = true then Q .non S else Ex ⟨c "BadMoment", none⟩ S := by
  unfold sp_check_moment rd_check_moment
  walk_at "ev"
  cases decide (0 ≤ k) && decide (k ≤ es.length) <;> rfl
--# others_of
theorem u_others_of {es : List En} {xs : List Str} (hO : OkEs es) : sp_others_of [.tup [.str "ledger", .tup (es.map En.d)], .tup (xs.map D.str)] S Q Ex = Q (.tup ((othS es xs).map D.str)) S := by
  unfold sp_others_of rd_others_of
  have := hO.ow
  walk_at "ev"
  rfl
--# lying_at_end
theorem e_bals_last {es : List En} : atI ((balsS es).map fun b => balD b) (-1) = some (balD (lastB es)) := by
  rw [atI_last, List.getLast?_map]
  unfold balsS
  rw [walkB_last]
  rfl
theorem last_mem {es : List En} {x : Str} (h : x ∈ plS es) : x ∈ (lastB es).map (·.1) := fold_keys (zero_keys.mpr h)
local macro_rules | `(tactic| walk_at "ev") => `(tactic| try simp (maxSteps := 4000000) (dsimp := false) (implicitDefEqProofs := false) (disch := first | assumption | (show (_ : Nat) ≤ _; omega) | (show (_ : Int) ≤ _ ∧ _; omega)) only [↓u_neg, ↓e_lc, ↓e_lcB_if, ↓e_lcB_ifn, ↓e_lcB_t, ↓e_lcB_if2, ↓e_noG, ↓e_lc_nil, ↓e_lc_cons, ↓e_for_nil, ↓e_nx, ↓e_dc, ↓e_dcB_s, ↓e_rt, ↓e_rtF, ↓e_frzR, ↓e_frzR0, ↓e_xq, ↓e_sb_int, ↓e_sb_bl, ↓e_sb_str, ↓e_sb_non, ↓e_sb_scr, ↓e_sb_loc, ↓e_sb_tup, ↓e_sb_ktp, ↓e_sb_lst, ↓e_sb_dct, ↓e_sb_dcT, ↓e_sbL_nil, ↓e_sbK_nil, ↓e_sbL_cons, ↓e_sbL_ints, ↓e_sbL_strs, ↓e_sbL_bls, ↓e_frz_l0, ↓e_frz_d0, ↓e_frz_l1, ↓e_frz_d1, ↓e_frz_l2, ↓e_asS_tup, ↓e_asS_ktp, ↓e_asS_lst, ↓e_asS_scr, ↓e_asS_int, ↓e_asS_non, ↓e_asS_bl, ↓e_asS_str, ↓e_asS_dct, ↓e_asD_dct, ↓e_asD_int, ↓e_asD_str, ↓e_asD_lst, ↓e_asD_tup, ↓e_asDT_str, ↓e_asL_lst, ↓e_asL_tup, ↓e_asL_ktp, ↓e_asL_dct, ↓e_asL_int, ↓e_asL_bl, ↓e_asL_str, ↓e_asL_non, ↓e_asL_loc, ↓e_asS_loc, ↓e_asD_loc, ↓e_obL_s, ↓e_obL_d, ↓e_obD_s, ↓e_obD_l, ↓e_asK_str, ↓e_asK_int, ↓e_asI_int, ↓e_asTK_tup, ↓e_asTK_ktp, ↓e_asLoc_loc, ↓e_lstOf_lst, ↓e_lstOf_tup, ↓e_itOf_tup, ↓e_itOf_ktp, ↓e_itOf_lst, ↓e_itOf_scr, ↓e_itOf_str, ↓e_alL_f, ↓e_alL_t, ↓e_alD_f, ↓e_alD_t, ↓e_kn_bool, ↓e_kn_int, ↓e_kn_str, ↓e_kn_tuple, ↓e_kn_list, ↓e_kn_dict, ↓e_su_ib, ↓e_su_ii, ↓e_su_ss, ↓e_su_tt, ↓e_sz0, ↓e_sz1, ↓e_sz2, ↓e_sz3, ↓e_sz4, ↓e_sz5, ↓e_sz6, ↓e_sz7, ↓e_sz8, ↓e_sz9, ↓e_sz10, ↓e_sz11, ↓e_sz12, ↓e_app, ↓e_iteT, ↓e_iteF, ↓e_new_len, ↓e_new_len2, ↓e_new_two, ↓e_new_three, ↓e_len_map, ↓e_asBls, ↓e_asStrs, ↓e_asInts, ↓e_asStrs0, ↓e_asInts0, ↓e_asBls0, ↓e_all_id, ↓e_any_id, ↓e_sum, ↓e_all, ↓e_any, ↓e_max1l, ↓e_min1l, ↓e_max2, ↓e_min2, ↓e_ixN0, ↓e_bv_loc, ↓e_bvO_l, ↓e_bvO_d, ↓e_eq_nn, ↓e_eq_cn, ↓e_ok_intsL, ↓e_onB, ↓e_oQ_map, ↓e_inT, ↓e_inK, ↓e_inL, ↓e_ninT, ↓e_ninL, ↓e_setS, ↓e_in1, ↓e_chr_len, ↓e_take_map, ↓e_drop_map, ↓e_rev_map, ↓e_app_map, ↓e_eqTT, ↓e_eqLL, ↓e_eqL_nil, ↓e_eqL_cons, ↓e_eqL_nc, ↓e_eqL_cn, ↓e_eqL_strs, ↓e_eqL_ints, ↓e_eqL_m0, ↓e_eqL0, ↓e_eqT0, ↓e_wSkip, ↓e_wSeq, ↓e_wDrop, ↓e_wRet, ↓e_wRetN, ↓e_wBrk, ↓e_wCnt, ↓e_wIfS, ↓e_wSet, ↓e_wTup, ↓e_tg_nm, ↓e_tg_tp, ↓e_setAll_n, ↓e_setAll_c, ↓e_vQ, ↓e_wVar, ↓e_wC, ↓e_wNil, ↓e_wCons, ↓e_wB1, ↓e_wB2, ↓e_wAnd, ↓e_wOr, ↓e_wNot, ↓e_wIf, ↓e_wB, ↓e_wChain, ↓e_wAndV, ↓e_wOrV, ↓e_wNotV, ↓e_wP, ↓e_wGet2, ↓e_getQ_d, ↓e_getQ_l, ↓e_getO_d, ↓e_getO_t, ↓e_wSl, ↓e_wM, ↓e_pop, ↓e_popi, ↓e_wCall, ↓e_wCallK, ↓e_wLc, ↓e_wDc, ↓e_wSeqI, ↓e_wRng1, ↓e_wRng2, ↓e_wEnum, ↓e_enumI, ↓e_wZip, ↓e_wFor, ↓e_wYes, ↓e_wPut, ↓e_wDisp, ↓e_disp_n, ↓e_disp_c, ↓e_wRaise, ↓e_wDict0, ↓e_spb, ↓e_c0, ↓e_c1, ↓e_c2, ↓e_c3, ↓e_c4, ↓e_c5, ↓e_c6, ↓e_c7, ↓e_c8, ↓e_add_i, ↓e_add_s, ↓e_add_t, ↓e_add_l, ↓e_sub_i, ↓e_mul_i, ↓e_mul_l, ↓e_fdiv_i, ↓e_mod_i, ↓e_pow_i, ↓e_neg_i, ↓e_lt_i, ↓e_lt_s, ↓e_le_i, ↓e_gt_i, ↓e_ge_i, ↓e_is_n, ↓e_is_b, ↓e_isN_n, ↓e_isN_b, ↓e_isNon_n, ↓e_isNon_i, ↓e_isNon_s, ↓e_isNon_t, ↓e_isNon_l, ↓e_isNon_b, ↓e_ix_t, ↓e_ix_k, ↓e_ix_l, ↓e_ix_ds, ↓e_ix_di, ↓e_ix_s, ↓e_obDT_l, ↓e_obDT_d, ↓e_obDT_t, ↓e_obD_t, ↓e_obL_t, ↓e_ix_loc, ↓e_ixO_l, ↓e_ixO_d, ↓e_ixO_t, ↓e_len_loc, ↓e_lenO_l, ↓e_lenO_d, ↓e_lenO_t, ↓e_tuple_loc, ↓e_list_loc, ↓e_listO_l, ↓e_listO_d, ↓e_list_d, ↓e_add_ll, ↓e_sl_loc, ↓e_tup, ↓e_lst, ↓e_len_t, ↓e_len_k, ↓e_len_l, ↓e_len_d, ↓e_len_r, ↓e_len_s, ↓e_abs, ↓e_int_i, ↓e_int_b, ↓e_tuple_t, ↓e_tuple_l, ↓e_list_t, ↓e_list_l, ↓e_dict_d, ↓e_dict_l, ↓e_sorted_l, ↓e_isi, ↓e_ty_n, ↓e_ty_b, ↓e_ty_i, ↓e_ty_s, ↓e_ty_t, ↓e_ty_l, ↓e_ty_d, ↓e_sl_t, ↓e_sl_l, ↓e_rev_t, ↓e_rev_l, ↓e_cut_to1, ↓e_cut_from1, ↓e_cut_to, ↓e_cut_from, ↓e_wopt_n, ↓e_intQ, ↓e_wopt_s, ↓e_blQ, ↓e_wT, ↓e_putD0, ↓e_putD1, ↓e_putL0, ↓e_putL1, ↓e_setS_f, ↓e_setS_a, ↓e_wd_in, ↓e_wd_mv, ↓e_ok_wd, ↓e_ok_in, ↓e_ok_move, ↓e_en_S, ↓e_en_TK, ↓e_en_L, ↓e_en_ty, ↓e_en_bv, ↓e_en_sb, ↓e_ens_sb, ↓e_bal_sb, ↓e_bals_sb, ↓e_en_isNon, ↓e_en_ix0, ↓e_en_ix1, ↓e_en_ix2, ↓e_en_ix3, ↓e_own, ↓e_pl, ↓e_eqL_ens, ↓e_getD_bal, ↓e_put_bal, ↓e_balK_len, ↓e_getput, ↓e_sorted_bal, ↓e_asS_dw, ↓e_asD_dw, ↓e_v_large, ↓e_v_cells, ↓e_v_rest, ↓e_v_turn, ↓e_dw_0, ↓e_dw_1, ↓e_dw_set0, ↓e_put_rest, ↓e_put_turn, ↓u_is_number, ↓u_is_wordT, ↓u_is_word1, ↓u_is_word2, ↓u_is_row, ↓u_is_row_en, ↓u_is_name, ↓u_are_ascending, ↓u_is_lot_of, ↓u_owners_in, ↓u_places_in, ↓u_came_of, ↓u_behind, ↓u_is_entry, ↓e_zero_pl, ↓e_walk_last, ↓e_walk_len, ↓u_balances_of, ↓u_is_ledger, ↓u_check_ledger, ↓u_owners_of, ↓u_places_of, ↓u_check_some, ↓u_check_where, ↓u_check_place, ↓u_check_moment, ↓u_others_of, ↓e_bals_last, ↓reduceIte, ↓oQ_s, startD, permL, List.map_cons, List.map_nil, List.length_cons, List.length_nil, List.replicate, List.getElem?_cons_succ, List.getElem?_cons_zero, List.cons_append, List.nil_append, List.set_cons_succ, List.set_cons_zero, Nat.reduceAdd, Nat.reduceSub, Nat.reduceEqDiff, wipeD, List.filterMap_cons, List.filterMap_nil, List.length_range, List.getElem?_map, Int.zero_add, List.length_map, List.eraseIdx_cons_zero, Bool.and_true, Bool.true_and, Bool.and_false, Bool.false_and, oQ_s, oQ_n, if_t, if_f, dEq, dNe, bv_int, bv_bl, bv_str, bv_tup, bv_lst, bv_non, eqD_int, eqD_str, eqD_bl, atI0, atI1, atI2, atI3, atI4, atI_nat, atI_nat', atI_succ, ok_int, ok_bl, ok_nil, sto_at, sto_at0, sto_set, sto_set0, Option.isSome_some, Option.isSome_none, Bool.false_eq_true, or_false, false_or, true_or, or_true, Option.map_some, Option.map_none, true_and, and_true, false_and, and_false, Bool.not_true, Bool.not_false, reduceIte, decide_true, decide_false, Bool.decide_eq_true, Bool.decide_eq_false, Bool.not_not, eq_self, reduceCtorEq, Int.reduceEq, Int.reduceLT, Int.reduceLE, u_neg, e_lc, e_lcB_if, e_lcB_ifn, e_lcB_t, e_lcB_if2, e_noG, e_lc_nil, e_lc_cons, e_for_nil, e_nx, e_dc, e_dcB_s, e_rt, e_rtF, e_frzR, e_frzR0, e_xq, e_sb_int, e_sb_bl, e_sb_str, e_sb_non, e_sb_scr, e_sb_loc, e_sb_tup, e_sb_ktp, e_sb_lst, e_sb_dct, e_sb_dcT, e_sbL_nil, e_sbK_nil, e_sbL_cons, e_sbL_ints, e_sbL_strs, e_sbL_bls, e_frz_l0, e_frz_d0, e_frz_l1, e_frz_d1, e_frz_l2, e_asS_tup, e_asS_ktp, e_asS_lst, e_asS_scr, e_asS_int, e_asS_non, e_asS_bl, e_asS_str, e_asS_dct, e_asD_dct, e_asD_int, e_asD_str, e_asD_lst, e_asD_tup, e_asDT_str, e_asL_lst, e_asL_tup, e_asL_ktp, e_asL_dct, e_asL_int, e_asL_bl, e_asL_str, e_asL_non, e_asL_loc, e_asS_loc, e_asD_loc, e_obL_s, e_obL_d, e_obD_s, e_obD_l, e_asK_str, e_asK_int, e_asI_int, e_asTK_tup, e_asTK_ktp, e_asLoc_loc, e_lstOf_lst, e_lstOf_tup, e_itOf_tup, e_itOf_ktp, e_itOf_lst, e_itOf_scr, e_itOf_str, e_alL_f, e_alL_t, e_alD_f, e_alD_t, e_kn_bool, e_kn_int, e_kn_str, e_kn_tuple, e_kn_list, e_kn_dict, e_su_ib, e_su_ii, e_su_ss, e_su_tt, e_sz0, e_sz1, e_sz2, e_sz3, e_sz4, e_sz5, e_sz6, e_sz7, e_sz8, e_sz9, e_sz10, e_sz11, e_sz12, e_app, e_iteT, e_iteF, e_new_len, e_new_len2, e_new_two, e_new_three, e_len_map, e_asBls, e_asStrs, e_asInts, e_asStrs0, e_asInts0, e_asBls0, e_all_id, e_any_id, e_sum, e_all, e_any, e_max1l, e_min1l, e_max2, e_min2, e_ixN0, e_bv_loc, e_bvO_l, e_bvO_d, e_eq_nn, e_eq_cn, e_ok_intsL, e_onB, e_oQ_map, e_inT, e_inK, e_inL, e_ninT, e_ninL, e_setS, e_in1, e_chr_len, ec_oQh, e_take_map, e_drop_map, e_rev_map, e_app_map, e_eqTT, e_eqLL, e_eqL_nil, e_eqL_cons, e_eqL_nc, e_eqL_cn, e_eqL_strs, e_eqL_ints, e_eqL_m0, e_eqL0, e_eqT0, e_wSkip, e_wSeq, e_wDrop, e_wRet, e_wRetN, e_wBrk, e_wCnt, e_wIfS, e_wSet, e_wTup, e_tg_nm, e_tg_tp, e_setAll_n, e_setAll_c, e_vQ, e_wVar, e_wC, e_wNil, e_wCons, e_wB1, e_wB2, e_wAnd, e_wOr, e_wNot, e_wIf, e_wB, e_wChain, e_wAndV, e_wOrV, e_wNotV, e_wP, e_wGet2, e_getQ_d, e_getQ_l, e_getO_d, e_getO_t, e_wSl, e_wM, e_pop, e_popi, e_wCall, e_wCallK, e_wLc, e_wDc, e_wSeqI, e_wRng1, e_wRng2, e_wEnum, e_enumI, e_wZip, e_wFor, e_wYes, e_wPut, e_wDisp, e_disp_n, e_disp_c, e_wRaise, e_wDict0, e_spb, e_c0, e_c1, e_c2, e_c3, e_c4, e_c5, e_c6, e_c7, e_c8, e_add_i, e_add_s, e_add_t, e_add_l, e_sub_i, e_mul_i, e_mul_l, e_fdiv_i, e_mod_i, e_pow_i, e_neg_i, e_lt_i, e_lt_s, e_le_i, e_gt_i, e_ge_i, e_is_n, e_is_b, e_isN_n, e_isN_b, e_isNon_n, e_isNon_i, e_isNon_s, e_isNon_t, e_isNon_l, e_isNon_b, e_ix_t, e_ix_k, e_ix_l, e_ix_ds, e_ix_di, e_ix_s, e_obDT_l, e_obDT_d, e_obDT_t, e_obD_t, e_obL_t, e_ix_loc, e_ixO_l, e_ixO_d, e_ixO_t, e_len_loc, e_lenO_l, e_lenO_d, e_lenO_t, e_tuple_loc, e_list_loc, e_listO_l, e_listO_d, e_list_d, e_add_ll, e_sl_loc, e_tup, e_lst, e_len_t, e_len_k, e_len_l, e_len_d, e_len_r, e_len_s, e_abs, e_int_i, e_int_b, e_tuple_t, e_tuple_l, e_list_t, e_list_l, e_dict_d, e_dict_l, e_sorted_l, e_isi, e_ty_n, e_ty_b, e_ty_i, e_ty_s, e_ty_t, e_ty_l, e_ty_d, e_sl_t, e_sl_l, e_rev_t, e_rev_l, e_cut_to1, e_cut_from1, e_cut_to, e_cut_from, ec_ok_str, ec_szle, ec_szlt, ec_rng1, ec_rng2, e_wopt_n, e_intQ, e_wopt_s, e_blQ, e_wT, e_putD0, e_putD1, e_putL0, e_putL1, e_setS_f, e_setS_a, e_wd_in, e_wd_mv, e_ok_wd, e_ok_in, e_ok_move, e_en_S, e_en_TK, e_en_L, e_en_ty, e_en_bv, e_en_sb, e_ens_sb, e_bal_sb, e_bals_sb, e_en_isNon, e_en_ix0, e_en_ix1, e_en_ix2, e_en_ix3, e_own, e_pl, ec_own64, ec_pl64, ec_es_sz, e_eqL_ens, e_getD_bal, e_put_bal, e_balK_len, ec_val_mem, e_getput, e_sorted_bal, e_asS_dw, e_asD_dw, e_v_large, e_v_cells, e_v_rest, e_v_turn, e_dw_0, e_dw_1, e_dw_set0, e_put_rest, e_put_turn, u_is_number, u_is_wordT, u_is_word1, u_is_word2, u_is_row, u_is_row_en, u_is_name, u_are_ascending, u_is_lot_of, u_owners_in, u_places_in, u_came_of, u_behind, u_is_entry, e_zero_pl, e_walk_last, e_walk_len, ec_ok_ens, ec_ok_led, ec_ok_pl, ec_ok_own, ec_ok_plT, ec_ok_ownT, ec_minV_bal, u_balances_of, u_is_ledger, u_check_ledger, u_owners_of, u_places_of, u_check_some, u_check_where, u_check_place, u_check_moment, u_others_of, e_bals_last])

theorem u_lying_at_end {es : List En} {xs : List Str} (hO : OkEs es) (hl : xs.length ≤ 100) (hx : ∀ x ∈ xs, x ∈ plS es) : sp_lying_at_end [.tup [.str "ledger", .tup (es.map En.d)], .tup (xs.map D.str)] S Q Ex = Q (.int (lieS es xs)) S := by
  unfold sp_lying_at_end rd_lying_at_end
  walk_at "ev"
  rw [lcB_mem (fun x => D.int (getB (lastB es) x)) (fun x h Ky Kn => by
    rw [val_mem (last_mem (hx x h))]
    rfl)]
  walk_at "ev"
  rfl
local macro_rules | `(tactic| walk_at "ev") => `(tactic| try simp (maxSteps := 4000000) (dsimp := false) (implicitDefEqProofs := false) (disch := first | assumption | (show (_ : Nat) ≤ _; omega) | (show (_ : Int) ≤ _ ∧ _; omega)) only [↓u_neg, ↓e_lc, ↓e_lcB_if, ↓e_lcB_ifn, ↓e_lcB_t, ↓e_lcB_if2, ↓e_noG, ↓e_lc_nil, ↓e_lc_cons, ↓e_for_nil, ↓e_nx, ↓e_dc, ↓e_dcB_s, ↓e_rt, ↓e_rtF, ↓e_frzR, ↓e_frzR0, ↓e_xq, ↓e_sb_int, ↓e_sb_bl, ↓e_sb_str, ↓e_sb_non, ↓e_sb_scr, ↓e_sb_loc, ↓e_sb_tup, ↓e_sb_ktp, ↓e_sb_lst, ↓e_sb_dct, ↓e_sb_dcT, ↓e_sbL_nil, ↓e_sbK_nil, ↓e_sbL_cons, ↓e_sbL_ints, ↓e_sbL_strs, ↓e_sbL_bls, ↓e_frz_l0, ↓e_frz_d0, ↓e_frz_l1, ↓e_frz_d1, ↓e_frz_l2, ↓e_asS_tup, ↓e_asS_ktp, ↓e_asS_lst, ↓e_asS_scr, ↓e_asS_int, ↓e_asS_non, ↓e_asS_bl, ↓e_asS_str, ↓e_asS_dct, ↓e_asD_dct, ↓e_asD_int, ↓e_asD_str, ↓e_asD_lst, ↓e_asD_tup, ↓e_asDT_str, ↓e_asL_lst, ↓e_asL_tup, ↓e_asL_ktp, ↓e_asL_dct, ↓e_asL_int, ↓e_asL_bl, ↓e_asL_str, ↓e_asL_non, ↓e_asL_loc, ↓e_asS_loc, ↓e_asD_loc, ↓e_obL_s, ↓e_obL_d, ↓e_obD_s, ↓e_obD_l, ↓e_asK_str, ↓e_asK_int, ↓e_asI_int, ↓e_asTK_tup, ↓e_asTK_ktp, ↓e_asLoc_loc, ↓e_lstOf_lst, ↓e_lstOf_tup, ↓e_itOf_tup, ↓e_itOf_ktp, ↓e_itOf_lst, ↓e_itOf_scr, ↓e_itOf_str, ↓e_alL_f, ↓e_alL_t, ↓e_alD_f, ↓e_alD_t, ↓e_kn_bool, ↓e_kn_int, ↓e_kn_str, ↓e_kn_tuple, ↓e_kn_list, ↓e_kn_dict, ↓e_su_ib, ↓e_su_ii, ↓e_su_ss, ↓e_su_tt, ↓e_sz0, ↓e_sz1, ↓e_sz2, ↓e_sz3, ↓e_sz4, ↓e_sz5, ↓e_sz6, ↓e_sz7, ↓e_sz8, ↓e_sz9, ↓e_sz10, ↓e_sz11, ↓e_sz12, ↓e_app, ↓e_iteT, ↓e_iteF, ↓e_new_len, ↓e_new_len2, ↓e_new_two, ↓e_new_three, ↓e_len_map, ↓e_asBls, ↓e_asStrs, ↓e_asInts, ↓e_asStrs0, ↓e_asInts0, ↓e_asBls0, ↓e_all_id, ↓e_any_id, ↓e_sum, ↓e_all, ↓e_any, ↓e_max1l, ↓e_min1l, ↓e_max2, ↓e_min2, ↓e_ixN0, ↓e_bv_loc, ↓e_bvO_l, ↓e_bvO_d, ↓e_eq_nn, ↓e_eq_cn, ↓e_ok_intsL, ↓e_onB, ↓e_oQ_map, ↓e_inT, ↓e_inK, ↓e_inL, ↓e_ninT, ↓e_ninL, ↓e_setS, ↓e_in1, ↓e_chr_len, ↓e_take_map, ↓e_drop_map, ↓e_rev_map, ↓e_app_map, ↓e_eqTT, ↓e_eqLL, ↓e_eqL_nil, ↓e_eqL_cons, ↓e_eqL_nc, ↓e_eqL_cn, ↓e_eqL_strs, ↓e_eqL_ints, ↓e_eqL_m0, ↓e_eqL0, ↓e_eqT0, ↓e_wSkip, ↓e_wSeq, ↓e_wDrop, ↓e_wRet, ↓e_wRetN, ↓e_wBrk, ↓e_wCnt, ↓e_wIfS, ↓e_wSet, ↓e_wTup, ↓e_tg_nm, ↓e_tg_tp, ↓e_setAll_n, ↓e_setAll_c, ↓e_vQ, ↓e_wVar, ↓e_wC, ↓e_wNil, ↓e_wCons, ↓e_wB1, ↓e_wB2, ↓e_wAnd, ↓e_wOr, ↓e_wNot, ↓e_wIf, ↓e_wB, ↓e_wChain, ↓e_wAndV, ↓e_wOrV, ↓e_wNotV, ↓e_wP, ↓e_wGet2, ↓e_getQ_d, ↓e_getQ_l, ↓e_getO_d, ↓e_getO_t, ↓e_wSl, ↓e_wM, ↓e_pop, ↓e_popi, ↓e_wCall, ↓e_wCallK, ↓e_wLc, ↓e_wDc, ↓e_wSeqI, ↓e_wRng1, ↓e_wRng2, ↓e_wEnum, ↓e_enumI, ↓e_wZip, ↓e_wFor, ↓e_wYes, ↓e_wPut, ↓e_wDisp, ↓e_disp_n, ↓e_disp_c, ↓e_wRaise, ↓e_wDict0, ↓e_spb, ↓e_c0, ↓e_c1, ↓e_c2, ↓e_c3, ↓e_c4, ↓e_c5, ↓e_c6, ↓e_c7, ↓e_c8, ↓e_add_i, ↓e_add_s, ↓e_add_t, ↓e_add_l, ↓e_sub_i, ↓e_mul_i, ↓e_mul_l, ↓e_fdiv_i, ↓e_mod_i, ↓e_pow_i, ↓e_neg_i, ↓e_lt_i, ↓e_lt_s, ↓e_le_i, ↓e_gt_i, ↓e_ge_i, ↓e_is_n, ↓e_is_b, ↓e_isN_n, ↓e_isN_b, ↓e_isNon_n, ↓e_isNon_i, ↓e_isNon_s, ↓e_isNon_t, ↓e_isNon_l, ↓e_isNon_b, ↓e_ix_t, ↓e_ix_k, ↓e_ix_l, ↓e_ix_ds, ↓e_ix_di, ↓e_ix_s, ↓e_obDT_l, ↓e_obDT_d, ↓e_obDT_t, ↓e_obD_t, ↓e_obL_t, ↓e_ix_loc, ↓e_ixO_l, ↓e_ixO_d, ↓e_ixO_t, ↓e_len_loc, ↓e_lenO_l, ↓e_lenO_d, ↓e_lenO_t, ↓e_tuple_loc, ↓e_list_loc, ↓e_listO_l, ↓e_listO_d, ↓e_list_d, ↓e_add_ll, ↓e_sl_loc, ↓e_tup, ↓e_lst, ↓e_len_t, ↓e_len_k, ↓e_len_l, ↓e_len_d, ↓e_len_r, ↓e_len_s, ↓e_abs, ↓e_int_i, ↓e_int_b, ↓e_tuple_t, ↓e_tuple_l, ↓e_list_t, ↓e_list_l, ↓e_dict_d, ↓e_dict_l, ↓e_sorted_l, ↓e_isi, ↓e_ty_n, ↓e_ty_b, ↓e_ty_i, ↓e_ty_s, ↓e_ty_t, ↓e_ty_l, ↓e_ty_d, ↓e_sl_t, ↓e_sl_l, ↓e_rev_t, ↓e_rev_l, ↓e_cut_to1, ↓e_cut_from1, ↓e_cut_to, ↓e_cut_from, ↓e_wopt_n, ↓e_intQ, ↓e_wopt_s, ↓e_blQ, ↓e_wT, ↓e_putD0, ↓e_putD1, ↓e_putL0, ↓e_putL1, ↓e_setS_f, ↓e_setS_a, ↓e_wd_in, ↓e_wd_mv, ↓e_ok_wd, ↓e_ok_in, ↓e_ok_move, ↓e_en_S, ↓e_en_TK, ↓e_en_L, ↓e_en_ty, ↓e_en_bv, ↓e_en_sb, ↓e_ens_sb, ↓e_bal_sb, ↓e_bals_sb, ↓e_en_isNon, ↓e_en_ix0, ↓e_en_ix1, ↓e_en_ix2, ↓e_en_ix3, ↓e_own, ↓e_pl, ↓e_eqL_ens, ↓e_getD_bal, ↓e_put_bal, ↓e_balK_len, ↓e_getput, ↓e_sorted_bal, ↓e_asS_dw, ↓e_asD_dw, ↓e_v_large, ↓e_v_cells, ↓e_v_rest, ↓e_v_turn, ↓e_dw_0, ↓e_dw_1, ↓e_dw_set0, ↓e_put_rest, ↓e_put_turn, ↓u_is_number, ↓u_is_wordT, ↓u_is_word1, ↓u_is_word2, ↓u_is_row, ↓u_is_row_en, ↓u_is_name, ↓u_are_ascending, ↓u_is_lot_of, ↓u_owners_in, ↓u_places_in, ↓u_came_of, ↓u_behind, ↓u_is_entry, ↓e_zero_pl, ↓e_walk_last, ↓e_walk_len, ↓u_balances_of, ↓u_is_ledger, ↓u_check_ledger, ↓u_owners_of, ↓u_places_of, ↓u_check_some, ↓u_check_where, ↓u_check_place, ↓u_check_moment, ↓u_others_of, ↓e_bals_last, ↓u_lying_at_end, ↓reduceIte, ↓oQ_s, startD, permL, List.map_cons, List.map_nil, List.length_cons, List.length_nil, List.replicate, List.getElem?_cons_succ, List.getElem?_cons_zero, List.cons_append, List.nil_append, List.set_cons_succ, List.set_cons_zero, Nat.reduceAdd, Nat.reduceSub, Nat.reduceEqDiff, wipeD, List.filterMap_cons, List.filterMap_nil, List.length_range, List.getElem?_map, Int.zero_add, List.length_map, List.eraseIdx_cons_zero, Bool.and_true, Bool.true_and, Bool.and_false, Bool.false_and, oQ_s, oQ_n, if_t, if_f, dEq, dNe, bv_int, bv_bl, bv_str, bv_tup, bv_lst, bv_non, eqD_int, eqD_str, eqD_bl, atI0, atI1, atI2, atI3, atI4, atI_nat, atI_nat', atI_succ, ok_int, ok_bl, ok_nil, sto_at, sto_at0, sto_set, sto_set0, Option.isSome_some, Option.isSome_none, Bool.false_eq_true, or_false, false_or, true_or, or_true, Option.map_some, Option.map_none, true_and, and_true, false_and, and_false, Bool.not_true, Bool.not_false, reduceIte, decide_true, decide_false, Bool.decide_eq_true, Bool.decide_eq_false, Bool.not_not, eq_self, reduceCtorEq, Int.reduceEq, Int.reduceLT, Int.reduceLE, u_neg, e_lc, e_lcB_if, e_lcB_ifn, e_lcB_t, e_lcB_if2, e_noG, e_lc_nil, e_lc_cons, e_for_nil, e_nx, e_dc, e_dcB_s, e_rt, e_rtF, e_frzR, e_frzR0, e_xq, e_sb_int, e_sb_bl, e_sb_str, e_sb_non, e_sb_scr, e_sb_loc, e_sb_tup, e_sb_ktp, e_sb_lst, e_sb_dct, e_sb_dcT, e_sbL_nil, e_sbK_nil, e_sbL_cons, e_sbL_ints, e_sbL_strs, e_sbL_bls, e_frz_l0, e_frz_d0, e_frz_l1, e_frz_d1, e_frz_l2, e_asS_tup, e_asS_ktp, e_asS_lst, e_asS_scr, e_asS_int, e_asS_non, e_asS_bl, e_asS_str, e_asS_dct, e_asD_dct, e_asD_int, e_asD_str, e_asD_lst, e_asD_tup, e_asDT_str, e_asL_lst, e_asL_tup, e_asL_ktp, e_asL_dct, e_asL_int, e_asL_bl, e_asL_str, e_asL_non, e_asL_loc, e_asS_loc, e_asD_loc, e_obL_s, e_obL_d, e_obD_s, e_obD_l, e_asK_str, e_asK_int, e_asI_int, e_asTK_tup, e_asTK_ktp, e_asLoc_loc, e_lstOf_lst, e_lstOf_tup, e_itOf_tup, e_itOf_ktp, e_itOf_lst, e_itOf_scr, e_itOf_str, e_alL_f, e_alL_t, e_alD_f, e_alD_t, e_kn_bool, e_kn_int, e_kn_str, e_kn_tuple, e_kn_list, e_kn_dict, e_su_ib, e_su_ii, e_su_ss, e_su_tt, e_sz0, e_sz1, e_sz2, e_sz3, e_sz4, e_sz5, e_sz6, e_sz7, e_sz8, e_sz9, e_sz10, e_sz11, e_sz12, e_app, e_iteT, e_iteF, e_new_len, e_new_len2, e_new_two, e_new_three, e_len_map, e_asBls, e_asStrs, e_asInts, e_asStrs0, e_asInts0, e_asBls0, e_all_id, e_any_id, e_sum, e_all, e_any, e_max1l, e_min1l, e_max2, e_min2, e_ixN0, e_bv_loc, e_bvO_l, e_bvO_d, e_eq_nn, e_eq_cn, e_ok_intsL, e_onB, e_oQ_map, e_inT, e_inK, e_inL, e_ninT, e_ninL, e_setS, e_in1, e_chr_len, ec_oQh, e_take_map, e_drop_map, e_rev_map, e_app_map, e_eqTT, e_eqLL, e_eqL_nil, e_eqL_cons, e_eqL_nc, e_eqL_cn, e_eqL_strs, e_eqL_ints, e_eqL_m0, e_eqL0, e_eqT0, e_wSkip, e_wSeq, e_wDrop, e_wRet, e_wRetN, e_wBrk, e_wCnt, e_wIfS, e_wSet, e_wTup, e_tg_nm, e_tg_tp, e_setAll_n, e_setAll_c, e_vQ, e_wVar, e_wC, e_wNil, e_wCons, e_wB1, e_wB2, e_wAnd, e_wOr, e_wNot, e_wIf, e_wB, e_wChain, e_wAndV, e_wOrV, e_wNotV, e_wP, e_wGet2, e_getQ_d, e_getQ_l, e_getO_d, e_getO_t, e_wSl, e_wM, e_pop, e_popi, e_wCall, e_wCallK, e_wLc, e_wDc, e_wSeqI, e_wRng1, e_wRng2, e_wEnum, e_enumI, e_wZip, e_wFor, e_wYes, e_wPut, e_wDisp, e_disp_n, e_disp_c, e_wRaise, e_wDict0, e_spb, e_c0, e_c1, e_c2, e_c3, e_c4, e_c5, e_c6, e_c7, e_c8, e_add_i, e_add_s, e_add_t, e_add_l, e_sub_i, e_mul_i, e_mul_l, e_fdiv_i, e_mod_i, e_pow_i, e_neg_i, e_lt_i, e_lt_s, e_le_i, e_gt_i, e_ge_i, e_is_n, e_is_b, e_isN_n, e_isN_b, e_isNon_n, e_isNon_i, e_isNon_s, e_isNon_t, e_isNon_l, e_isNon_b, e_ix_t, e_ix_k, e_ix_l, e_ix_ds, e_ix_di, e_ix_s, e_obDT_l, e_obDT_d, e_obDT_t, e_obD_t, e_obL_t, e_ix_loc, e_ixO_l, e_ixO_d, e_ixO_t, e_len_loc, e_lenO_l, e_lenO_d, e_lenO_t, e_tuple_loc, e_list_loc, e_listO_l, e_listO_d, e_list_d, e_add_ll, e_sl_loc, e_tup, e_lst, e_len_t, e_len_k, e_len_l, e_len_d, e_len_r, e_len_s, e_abs, e_int_i, e_int_b, e_tuple_t, e_tuple_l, e_list_t, e_list_l, e_dict_d, e_dict_l, e_sorted_l, e_isi, e_ty_n, e_ty_b, e_ty_i, e_ty_s, e_ty_t, e_ty_l, e_ty_d, e_sl_t, e_sl_l, e_rev_t, e_rev_l, e_cut_to1, e_cut_from1, e_cut_to, e_cut_from, ec_ok_str, ec_szle, ec_szlt, ec_rng1, ec_rng2, e_wopt_n, e_intQ, e_wopt_s, e_blQ, e_wT, e_putD0, e_putD1, e_putL0, e_putL1, e_setS_f, e_setS_a, e_wd_in, e_wd_mv, e_ok_wd, e_ok_in, e_ok_move, e_en_S, e_en_TK, e_en_L, e_en_ty, e_en_bv, e_en_sb, e_ens_sb, e_bal_sb, e_bals_sb, e_en_isNon, e_en_ix0, e_en_ix1, e_en_ix2, e_en_ix3, e_own, e_pl, ec_own64, ec_pl64, ec_es_sz, e_eqL_ens, e_getD_bal, e_put_bal, e_balK_len, ec_val_mem, e_getput, e_sorted_bal, e_asS_dw, e_asD_dw, e_v_large, e_v_cells, e_v_rest, e_v_turn, e_dw_0, e_dw_1, e_dw_set0, e_put_rest, e_put_turn, u_is_number, u_is_wordT, u_is_word1, u_is_word2, u_is_row, u_is_row_en, u_is_name, u_are_ascending, u_is_lot_of, u_owners_in, u_places_in, u_came_of, u_behind, u_is_entry, e_zero_pl, e_walk_last, e_walk_len, ec_ok_ens, ec_ok_led, ec_ok_pl, ec_ok_own, ec_ok_plT, ec_ok_ownT, ec_minV_bal, u_balances_of, u_is_ledger, u_check_ledger, u_owners_of, u_places_of, u_check_some, u_check_where, u_check_place, u_check_moment, u_others_of, e_bals_last, u_lying_at_end])

theorem isL_own {es : List En} (h : isL es = true) : es.length ≤ 40 ∧ es.all okEn = true ∧ (ownS es).length ≤ 6 ∧ (plS es).length ≤ 6 := by
  unfold isL at h
  simp only [Bool.and_eq_true, decide_eq_true_eq] at h
  exact ⟨h.1.1.1.1.1, h.1.1.1.1.2, h.1.1.1.2, h.1.1.2⟩
theorem lot_mem {xs ns : List Str} (h : lotB xs ns = true) : xs.length ≤ ns.length ∧ ∀ x ∈ xs, x ∈ ns := by
  unfold lotB at h
  simp only [Bool.and_eq_true, decide_eq_true_eq, List.all_eq_true] at h
  exact ⟨h.1.1, fun x hx => by simpa using h.1.2 x hx⟩
theorem asc_pw : ∀ {xs : List Str}, xs.Pairwise (fun a b => strLt a b = true) → ascB xs = true
  | [], _ => rfl
  | [x], _ => rfl
  | x :: y :: r, h => by
    unfold ascB
    rw [List.pairwise_cons] at h
    rw [h.1 y List.mem_cons_self, asc_pw h.2]
    rfl
theorem lot_sub {xs ns : List Str} (h : ns.Pairwise fun a b => strLt a b = true) (s : xs.Sublist ns) : lotB xs ns = true := by
  unfold lotB
  rw [decide_eq_true s.length_le, asc_pw (h.sublist s)]
  have : xs.all (fun x => ns.contains x) = true := List.all_eq_true.mpr fun x hx => by simpa using s.subset hx
  rw [this]
  rfl
theorem e_led_sb {k : Nat → Option D} {es : List En} : sbD k (.tup [.str "ledger", .tup (es.map En.d)]) = some (.tup [.str "ledger", .tup (es.map En.d)]) := by
  rw [e_sb_tup, e_sbL_cons, e_sb_str, e_sbL_cons, e_sb_tup, e_ens_sb]
  rfl
--# owners
theorem u_owners {es : List En} (hO : OkEs es) : sp_owners c [.tup [.str "ledger", .tup (es.map En.d)]] S Q Ex = if isL es = true then Q (.tup ((ownS es).map D.str)) S else Ex ⟨c "BadLedger", none⟩ S := by
  unfold sp_owners rd_owners
  walk_at "ev"
--# places
theorem u_places {es : List En} (hO : OkEs es) : sp_places c [.tup [.str "ledger", .tup (es.map En.d)]] S Q Ex = if isL es = true then Q (.tup ((plS es).map D.str)) S else Ex ⟨c "BadLedger", none⟩ S := by
  unfold sp_places rd_places
  walk_at "ev"
--# others
theorem u_others {es : List En} {xs : List Str} (hO : OkEs es) (hx : xs.length ≤ 100) : sp_others c [.tup [.str "ledger", .tup (es.map En.d)], .tup (xs.map D.str)] S Q Ex = if isL es = true then (if lotB xs (ownS es) = true then Q (.tup ((othS es xs).map D.str)) S else Ex ⟨c "BadSome", none⟩ S) else Ex ⟨c "BadLedger", none⟩ S := by
  unfold sp_others rd_others
  walk_at "ev"
--# balance
theorem u_balance {es : List En} {x : Str} {k : Nat} {bs : Bal} (hO : OkEs es) (hL : isL es = true) (hx : x ∈ plS es) (hb : (balsS es)[k]? = some bs) : sp_balance c [.tup [.str "ledger", .tup (es.map En.d)], .str x, .int (k : Nat)] S Q Ex = Q (.int (getB bs x)) S := by
  unfold sp_balance rd_balance
  have hk : k < (balsS es).length := (List.getElem?_eq_some_iff.mp hb).1
  have hk2 : (balsS es).length = es.length + 1 := walkB_len
  have h1 : decide ((0 : Int) ≤ k) = true := decide_eq_true (by omega)
  have h2 : decide ((k : Int) ≤ es.length) = true := decide_eq_true (by omega)
  have h3 : (plS es).contains x = true := by simpa using hx
  walk_at "ev"
  simp only [hL, h1, h2, h3, hb, if_t, Bool.and_self]
  walk_at "ev"
  rw [val_mem (walk_keys (zero_keys.mpr hx) bs (List.mem_of_getElem? hb))]
  walk_at "ev"
--# lying
theorem u_lying {es : List En} {xs : List Str} (hO : OkEs es) (hL : isL es = true) (hx : lotB xs (plS es) = true) : sp_lying c [.tup [.str "ledger", .tup (es.map En.d)], .tup (xs.map D.str)] S Q Ex = Q (.int (lieS es xs)) S := by
  unfold sp_lying rd_lying
  have h1 := lot_mem hx
  have h2 := isL_own hL
  have h3 : xs.length ≤ 100 := by omega
  have h4 := h1.2
  walk_at "ev"
  simp only [hL, hx, reduceIte]
--# came
theorem u_came {es : List En} {xs : List Str} (hO : OkEs es) (hL : isL es = true) (hx : lotB xs (ownS es) = true) : sp_came c [.tup [.str "ledger", .tup (es.map En.d)], .tup (xs.map D.str)] S Q Ex = Q (.int (cameS es xs)) S := by
  unfold sp_came rd_came
  have h1 := lot_mem hx
  have h2 := isL_own hL
  have h3 : xs.length ≤ 100 := by omega
  walk_at "ev"
  simp only [hL, hx, reduceIte]
--# begun
theorem u_begun {es : List En} {k : Nat} (hO : OkEs es) (hL : isL es = true) (hk : k ≤ es.length) : sp_begun c [.tup [.str "ledger", .tup (es.map En.d)], .int (k : Nat)] S Q Ex = Q (.tup [.str "ledger", .tup ((es.take k).map En.d)]) S := by
  unfold sp_begun rd_begun
  have h1 : decide ((0 : Int) ≤ k) = true := decide_eq_true (by omega)
  have h2 : decide ((k : Int) ≤ es.length) = true := decide_eq_true (by omega)
  walk_at "ev"
  simp only [hL, h1, h2, if_t, Bool.and_self, ← List.map_take]
  walk_at "ev"

end DL

set_option Elab.async false
set_option linter.all false
set_option maxRecDepth 100000
namespace DL
open PySem PySem.Spec PyProof.Rows L2 RZ
def N__law_begun : List Str := ["script", "large", "grain"]
def rd__law_begun : DS := wSeq (wSet 1 (wLc true [2] (.nm 2) (wSeqI (wVar 0)) (wT (wB2 dGe (wP bAbs (wCons (wVar 2) (wNil))) (wB2 dPow (wC (.int 10)) (wC (.int 18))))) (wB2 dSub (wP bAbs (wCons (wVar 2) (wNil))) (wB2 dPow (wC (.int 10)) (wC (.int 18)))))) (wRet (wDisp true [(wC (.str "large"), wVar 1), (wC (.str "cells"), wLc false [2] (.nm 2) (wSeqI (wVar 0)) (wYes) (wB2 dMod (wP bInt (wCons (wP bAbs (wCons (wVar 2) (wNil))) (wNil))) (wC (.int 2147483629)))), (wC (.str "rest"), wC (.int 0)), (wC (.str "turn"), wC (.int 0))]))
@[irreducible] def sp__law_begun : DSp := spb false (rd__law_begun) 3 1
def N__law_mixed : List Str := ["draw", "turn", "found", "prime", "blend", "grain"]
def rd__law_mixed : DS := wSeq (wTup (.tp [1, 2]) (wP dTup (wCons (wB2 dAdd (wB2 dIx (wVar 0) (wC (.str "turn"))) (wC (.int 1))) (wCons (wC (.int 0)) (wNil))))) (wSeq (wPut (wVar 0) (wC (.str "turn")) (wVar 1)) (wSeq (wFor (.nm 3) (wSeqI (wP (dLst false) (wCons (wC (.int 2147483647)) (wCons (wC (.int 2147483629)) (wCons (wC (.int 2147483587)) (wCons (wC (.int 2147483579)) (wNil))))))) (wSeq (wSet 4 (wB2 dAdd (wB2 dMul (wC (.int 48271)) (wVar 1)) (wB2 dFdiv (wVar 3) (wC (.int 37))))) (wSeq (wFor (.nm 5) (wSeqI (wB2 dIx (wVar 0) (wC (.str "cells")))) (wSet 4 (wB2 dMod (wP bInt (wCons (wB2 dAdd (wB2 dAdd (wB2 dMul (wVar 4) (wC (.int 69621))) (wVar 5)) (wVar 1)) (wNil))) (wVar 3)))) (wSet 2 (wB2 dAdd (wB2 dMul (wVar 2) (wC (.int 2147483648))) (wVar 4)))))) (wRet (wVar 2))))
@[irreducible] def sp__law_mixed : DSp := spb true (rd__law_mixed) 6 1
def N__law_behind : List Str := ["balances", "entry", "found"]
def rd__law_behind : DS := wSeq (wSet 2 (wP (bDict true) (wCons (wVar 0) (wNil)))) (wSeq (wIfS (wT (wB2 dEq (wB2 dIx (wVar 1) (wC (.int 0))) (wC (.str "move")))) (wPut (wVar 2) (wB2 dIx (wVar 1) (wC (.int 1))) (wB2 dSub (wB2 dIx (wVar 2) (wB2 dIx (wVar 1) (wC (.int 1)))) (wB2 dIx (wVar 1) (wC (.int 3))))) (wSkip)) (wSeq (wPut (wVar 2) (wB2 dIx (wVar 1) (wC (.int 2))) (wB2 dAdd (wGet2 (wVar 2) (wB2 dIx (wVar 1) (wC (.int 2))) (wC (.int 0))) (wB2 dIx (wVar 1) (wC (.int 3))))) (wRet (wVar 2))))
@[irreducible] def sp__law_behind : DSp := spb true (rd__law_behind) 3 2
def N__law_owners_of : List Str := ["ledger", "entry"]
def rd__law_owners_of : DS := wRet (wP bTuple (wCons (wB1 (dSetS false) (wLc false [1] (.nm 1) (wSeqI (wB2 dIx (wVar 0) (wC (.int 1)))) (wT (wB2 dEq (wB2 dIx (wVar 1) (wC (.int 0))) (wC (.str "in")))) (wB2 dIx (wVar 1) (wC (.int 1))))) (wNil)))
@[irreducible] def sp__law_owners_of : DSp := spb true (rd__law_owners_of) 2 1
def N__law_places_of : List Str := ["ledger", "entry"]
def rd__law_places_of : DS := wRet (wP bTuple (wCons (wB1 (dSetS false) (wB2 dAdd (wLc false [1] (.nm 1) (wSeqI (wB2 dIx (wVar 0) (wC (.int 1)))) (wYes) (wB2 dIx (wVar 1) (wC (.int 2)))) (wLc false [1] (.nm 1) (wSeqI (wB2 dIx (wVar 0) (wC (.int 1)))) (wT (wB2 dEq (wB2 dIx (wVar 1) (wC (.int 0))) (wC (.str "move")))) (wB2 dIx (wVar 1) (wC (.int 1)))))) (wNil)))
@[irreducible] def sp__law_places_of : DSp := spb true (rd__law_places_of) 2 1
def N__law_came : List Str := ["ledger", "some", "entry"]
def rd__law_came : DS := wRet (wP bSum (wCons (wLc false [2] (.nm 2) (wSeqI (wB2 dIx (wVar 0) (wC (.int 1)))) (wAnd (wT (wB2 dEq (wB2 dIx (wVar 2) (wC (.int 0))) (wC (.str "in")))) (wT (wB2 (dIn false) (wB2 dIx (wVar 2) (wC (.int 1))) (wVar 1)))) (wB2 dIx (wVar 2) (wC (.int 3)))) (wNil)))
@[irreducible] def sp__law_came : DSp := spb true (rd__law_came) 3 2
def N__law_take : List Str := ["draw", "many", "found"]
def rd__law_take : DS := wSeq (wIfS (wT (wB2 dEq (wB2 dIx (wVar 0) (wC (.str "rest"))) (wC (.int 0)))) (wPut (wVar 0) (wC (.str "rest")) (wIf (wT (wB2 dNe (wB2 dIx (wVar 0) (wC (.str "large"))) (wP (dLst false) (wNil)))) (wM mPop (wB2 dIx (wVar 0) (wC (.str "large"))) (wCons (wC (.int 0)) (wNil))) (wCall (sp__law_mixed) (wCons (wVar 0) (wNil))))) (wSkip)) (wSeq (wSet 2 (wB2 dMod (wP bInt (wCons (wB2 dIx (wVar 0) (wC (.str "rest"))) (wNil))) (wVar 1))) (wSeq (wPut (wVar 0) (wC (.str "rest")) (wB2 dFdiv (wP bInt (wCons (wB2 dIx (wVar 0) (wC (.str "rest"))) (wNil))) (wVar 1))) (wRet (wVar 2))))
@[irreducible] def sp__law_take : DSp := spb true (rd__law_take) 3 2
def N__law_balances : List Str := ["ledger", "found", "place", "entry"]
def rd__law_balances : DS := wSeq (wSet 1 (wP (dLst true) (wCons (wP (bDict false) (wCons (wLc false [2] (.nm 2) (wSeqI (wCall (sp__law_places_of) (wCons (wVar 0) (wNil)))) (wYes) (wP dTup (wCons (wVar 2) (wCons (wC (.int 0)) (wNil))))) (wNil))) (wNil)))) (wSeq (wFor (.nm 3) (wSeqI (wB2 dIx (wVar 0) (wC (.int 1)))) (wDrop (wM mApp (wVar 1) (wCons (wCall (sp__law_behind) (wCons (wB2 dIx (wVar 1) (wB1 dNeg (wC (.int 1)))) (wCons (wVar 3) (wNil)))) (wNil))))) (wRet (wVar 1)))
@[irreducible] def sp__law_balances : DSp := spb true (rd__law_balances) 4 1
def N__law_others : List Str := ["ledger", "some", "owner"]
def rd__law_others : DS := wRet (wP bTuple (wCons (wLc false [2] (.nm 2) (wSeqI (wCall (sp__law_owners_of) (wCons (wVar 0) (wNil)))) (wT (wB2 (dIn true) (wVar 2) (wVar 1))) (wVar 2)) (wNil)))
@[irreducible] def sp__law_others : DSp := spb true (rd__law_others) 3 2
def N__law_pick : List Str := ["draw", "some"]
def rd__law_pick : DS := wRet (wB2 dIx (wVar 1) (wCall (sp__law_take) (wCons (wVar 0) (wCons (wP bLen (wCons (wVar 1) (wNil))) (wNil)))))
@[irreducible] def sp__law_pick : DSp := spb true (rd__law_pick) 2 2
def N__law_shuffled : List Str := ["draw", "some", "left", "found"]
def rd__law_shuffled : DS := wSeq (wTup (.tp [2, 3]) (wP dTup (wCons (wP (bList true) (wCons (wVar 1) (wNil))) (wCons (wP (dLst true) (wNil)) (wNil))))) (wSeq (wWhile (wT (wB2 dNe (wVar 2) (wP (dLst false) (wNil)))) (wDrop (wM mApp (wVar 3) (wCons (wM mPop (wVar 2) (wCons (wCall (sp__law_take) (wCons (wVar 0) (wCons (wP bLen (wCons (wVar 2) (wNil))) (wNil)))) (wNil))) (wNil))))) (wRet (wVar 3)))
@[irreducible] def sp__law_shuffled : DSp := spb true (rd__law_shuffled) 4 2
def N__law_lot : List Str := ["draw", "names", "name"]
def rd__law_lot : DS := wRet (wP bTuple (wCons (wP (bSorted false) (wCons (wLc false [2] (.nm 2) (wSeqI (wVar 1)) (wT (wB2 dEq (wCall (sp__law_take) (wCons (wVar 0) (wCons (wC (.int 2)) (wNil)))) (wC (.int 0)))) (wVar 2)) (wNil))) (wNil)))
@[irreducible] def sp__law_lot : DSp := spb true (rd__law_lot) 3 2
def N__law_lying : List Str := ["ledger", "where", "last", "place"]
def rd__law_lying : DS := wSeq (wSet 2 (wB2 dIx (wCall (sp__law_balances) (wCons (wVar 0) (wNil))) (wB1 dNeg (wC (.int 1))))) (wRet (wP bSum (wCons (wLc false [3] (.nm 3) (wSeqI (wVar 1)) (wYes) (wB2 dIx (wVar 2) (wVar 3))) (wNil))))
@[irreducible] def sp__law_lying : DSp := spb true (rd__law_lying) 4 2
def N__law_names_of : List Str := ["draw", "pool", "many"]
def rd__law_names_of : DS := wRet (wSl false (wCall (sp__law_shuffled) (wCons (wVar 0) (wCons (wVar 1) (wNil)))) none (some (wVar 2)))
@[irreducible] def sp__law_names_of : DSp := spb true (rd__law_names_of) 3 3
def N__law_entry : List Str := ["draw", "few", "sites", "balances", "high", "full", "place", "many", "one"]
def rd__law_entry : DS := wSeq (wSet 5 (wLc false [6] (.nm 6) (wSeqI (wP (bSorted false) (wCons (wVar 3) (wNil)))) (wT (wB2 dGt (wB2 dIx (wVar 3) (wVar 6)) (wC (.int 0)))) (wVar 6))) (wSeq (wIfS (wOr (wT (wB2 dEq (wVar 5) (wP (dLst false) (wNil)))) (wOr (wT (wB2 dLt (wP bLen (wCons (wVar 2) (wNil))) (wC (.int 2)))) (wT (wB2 dLt (wCall (sp__law_take) (wCons (wVar 0) (wCons (wC (.int 5)) (wNil)))) (wC (.int 2)))))) (wRet (wP dTup (wCons (wC (.str "in")) (wCons (wCall (sp__law_pick) (wCons (wVar 0) (wCons (wVar 1) (wNil)))) (wCons (wCall (sp__law_pick) (wCons (wVar 0) (wCons (wVar 2) (wNil)))) (wCons (wB2 dAdd (wC (.int 1)) (wCall (sp__law_take) (wCons (wVar 0) (wCons (wVar 4) (wNil))))) (wNil))))))) (wSkip)) (wSeq (wSet 6 (wCall (sp__law_pick) (wCons (wVar 0) (wCons (wVar 5) (wNil))))) (wSeq (wSet 7 (wIf (wT (wB2 dEq (wCall (sp__law_take) (wCons (wVar 0) (wCons (wC (.int 4)) (wNil)))) (wC (.int 0)))) (wP bMin (wCons (wB2 dIx (wVar 3) (wVar 6)) (wCons (wB2 dPow (wC (.int 10)) (wC (.int 9))) (wNil)))) (wB2 dAdd (wC (.int 1)) (wCall (sp__law_take) (wCons (wVar 0) (wCons (wP bMin (wCons (wB2 dIx (wVar 3) (wVar 6)) (wCons (wVar 4) (wNil)))) (wNil))))))) (wRet (wP dTup (wCons (wC (.str "move")) (wCons (wVar 6) (wCons (wCall (sp__law_pick) (wCons (wVar 0) (wCons (wLc false [8] (.nm 8) (wSeqI (wVar 2)) (wT (wB2 dNe (wVar 8) (wVar 6))) (wVar 8)) (wNil)))) (wCons (wVar 7) (wNil))))))))))
@[irreducible] def sp__law_entry : DSp := spb true (rd__law_entry) 9 5
def N__law_owners : List Str := ["draw", "many"]
def rd__law_owners : DS := wRet (wCall (sp__law_names_of) (wCons (wVar 0) (wCons (wP (dLst false) (wCons (wC (.str "ann")) (wCons (wC (.str "bob")) (wCons (wC (.str "cyd")) (wCons (wC (.str "dan")) (wCons (wC (.str "eve")) (wCons (wC (.str "fay")) (wNil)))))))) (wCons (wVar 1) (wNil)))))
@[irreducible] def sp__law_owners : DSp := spb true (rd__law_owners) 2 2
def N__law_places : List Str := ["draw", "many"]
def rd__law_places : DS := wRet (wCall (sp__law_names_of) (wCons (wVar 0) (wCons (wP (dLst false) (wCons (wC (.str "boat")) (wCons (wC (.str "chest")) (wCons (wC (.str "desk")) (wCons (wC (.str "inn")) (wCons (wC (.str "jar")) (wCons (wC (.str "kiln")) (wNil)))))))) (wCons (wVar 1) (wNil)))))
@[irreducible] def sp__law_places : DSp := spb true (rd__law_places) 2 2
def N__law_ledger : List Str := ["draw", "few", "sites", "many", "high", "entries", "balances", "lap"]
def rd__law_ledger : DS := wSeq (wTup (.tp [5, 6]) (wP dTup (wCons (wP (dLst true) (wNil)) (wCons (wDict0 false) (wNil))))) (wSeq (wFor (.nm 7) (wRng1 (wVar 3)) (wSeq (wDrop (wM mApp (wVar 5) (wCons (wCall (sp__law_entry) (wCons (wVar 0) (wCons (wVar 1) (wCons (wVar 2) (wCons (wVar 6) (wCons (wVar 4) (wNil))))))) (wNil)))) (wSet 6 (wCall (sp__law_behind) (wCons (wVar 6) (wCons (wB2 dIx (wVar 5) (wB1 dNeg (wC (.int 1)))) (wNil))))))) (wRet (wP dTup (wCons (wC (.str "ledger")) (wCons (wP bTuple (wCons (wVar 5) (wNil))) (wNil))))))
@[irreducible] def sp__law_ledger : DSp := spb true (rd__law_ledger) 8 5
end DL

set_option Elab.async false
set_option linter.all false
set_option maxRecDepth 100000
set_option maxHeartbeats 4000000
namespace DL
open PySem PySem.Spec PyProof.Rows L2 RZ
variable {S : Sto} {Q : D → Sto → Prop} {Ex : Xn → Sto → Prop} {c : Str → Addr}
local macro_rules | `(tactic| walk_at "ev") => `(tactic| try simp (maxSteps := 4000000) (dsimp := false) (implicitDefEqProofs := false) (disch := first | assumption | (show (_ : Nat) ≤ _; omega) | (show (_ : Int) ≤ _ ∧ _; omega)) only [↓u_neg, ↓e_lc, ↓e_lcB_if, ↓e_lcB_ifn, ↓e_lcB_t, ↓e_lcB_if2, ↓e_noG, ↓e_lc_nil, ↓e_lc_cons, ↓e_for_nil, ↓e_nx, ↓e_dc, ↓e_dcB_s, ↓e_rt, ↓e_rtF, ↓e_frzR, ↓e_frzR0, ↓e_xq, ↓e_sb_int, ↓e_sb_bl, ↓e_sb_str, ↓e_sb_non, ↓e_sb_scr, ↓e_sb_loc, ↓e_sb_tup, ↓e_sb_ktp, ↓e_sb_lst, ↓e_sb_dct, ↓e_sb_dcT, ↓e_sbL_nil, ↓e_sbK_nil, ↓e_sbL_cons, ↓e_sbL_ints, ↓e_sbL_strs, ↓e_sbL_bls, ↓e_frz_l0, ↓e_frz_d0, ↓e_frz_l1, ↓e_frz_d1, ↓e_frz_l2, ↓e_asS_tup, ↓e_asS_ktp, ↓e_asS_lst, ↓e_asS_scr, ↓e_asS_int, ↓e_asS_non, ↓e_asS_bl, ↓e_asS_str, ↓e_asS_dct, ↓e_asD_dct, ↓e_asD_int, ↓e_asD_str, ↓e_asD_lst, ↓e_asD_tup, ↓e_asDT_str, ↓e_asL_lst, ↓e_asL_tup, ↓e_asL_ktp, ↓e_asL_dct, ↓e_asL_int, ↓e_asL_bl, ↓e_asL_str, ↓e_asL_non, ↓e_asL_loc, ↓e_asS_loc, ↓e_asD_loc, ↓e_obL_s, ↓e_obL_d, ↓e_obD_s, ↓e_obD_l, ↓e_asK_str, ↓e_asK_int, ↓e_asI_int, ↓e_asTK_tup, ↓e_asTK_ktp, ↓e_asLoc_loc, ↓e_lstOf_lst, ↓e_lstOf_tup, ↓e_itOf_tup, ↓e_itOf_ktp, ↓e_itOf_lst, ↓e_itOf_scr, ↓e_itOf_str, ↓e_alL_f, ↓e_alL_t, ↓e_alD_f, ↓e_alD_t, ↓e_kn_bool, ↓e_kn_int, ↓e_kn_str, ↓e_kn_tuple, ↓e_kn_list, ↓e_kn_dict, ↓e_su_ib, ↓e_su_ii, ↓e_su_ss, ↓e_su_tt, ↓e_sz0, ↓e_sz1, ↓e_sz2, ↓e_sz3, ↓e_sz4, ↓e_sz5, ↓e_sz6, ↓e_sz7, ↓e_sz8, ↓e_sz9, ↓e_sz10, ↓e_sz11, ↓e_sz12, ↓e_app, ↓e_iteT, ↓e_iteF, ↓e_new_len, ↓e_new_len2, ↓e_new_two, ↓e_new_three, ↓e_len_map, ↓e_asBls, ↓e_asStrs, ↓e_asInts, ↓e_asStrs0, ↓e_asInts0, ↓e_asBls0, ↓e_all_id, ↓e_any_id, ↓e_sum, ↓e_all, ↓e_any, ↓e_max1l, ↓e_min1l, ↓e_max2, ↓e_min2, ↓e_ixN0, ↓e_bv_loc, ↓e_bvO_l, ↓e_bvO_d, ↓e_eq_nn, ↓e_eq_cn, ↓e_ok_intsL, ↓e_onB, ↓e_oQ_map, ↓e_inT, ↓e_inK, ↓e_inL, ↓e_ninT, ↓e_ninL, ↓e_setS, ↓e_in1, ↓e_chr_len, ↓e_take_map, ↓e_drop_map, ↓e_rev_map, ↓e_app_map, ↓e_eqTT, ↓e_eqLL, ↓e_eqL_nil, ↓e_eqL_cons, ↓e_eqL_nc, ↓e_eqL_cn, ↓e_eqL_strs, ↓e_eqL_ints, ↓e_eqL_m0, ↓e_eqL0, ↓e_eqT0, ↓e_wSkip, ↓e_wSeq, ↓e_wDrop, ↓e_wRet, ↓e_wRetN, ↓e_wBrk, ↓e_wCnt, ↓e_wIfS, ↓e_wSet, ↓e_wTup, ↓e_tg_nm, ↓e_tg_tp, ↓e_setAll_n, ↓e_setAll_c, ↓e_vQ, ↓e_wVar, ↓e_wC, ↓e_wNil, ↓e_wCons, ↓e_wB1, ↓e_wB2, ↓e_wAnd, ↓e_wOr, ↓e_wNot, ↓e_wIf, ↓e_wB, ↓e_wChain, ↓e_wAndV, ↓e_wOrV, ↓e_wNotV, ↓e_wP, ↓e_wGet2, ↓e_getQ_d, ↓e_getQ_l, ↓e_getO_d, ↓e_getO_t, ↓e_wSl, ↓e_wM, ↓e_pop, ↓e_popi, ↓e_wCall, ↓e_wCallK, ↓e_wLc, ↓e_wDc, ↓e_wSeqI, ↓e_wRng1, ↓e_wRng2, ↓e_wEnum, ↓e_enumI, ↓e_wZip, ↓e_wFor, ↓e_wYes, ↓e_wPut, ↓e_wDisp, ↓e_disp_n, ↓e_disp_c, ↓e_wRaise, ↓e_wDict0, ↓e_spb, ↓e_c0, ↓e_c1, ↓e_c2, ↓e_c3, ↓e_c4, ↓e_c5, ↓e_c6, ↓e_c7, ↓e_c8, ↓e_add_i, ↓e_add_s, ↓e_add_t, ↓e_add_l, ↓e_sub_i, ↓e_mul_i, ↓e_mul_l, ↓e_fdiv_i, ↓e_mod_i, ↓e_pow_i, ↓e_neg_i, ↓e_lt_i, ↓e_lt_s, ↓e_le_i, ↓e_gt_i, ↓e_ge_i, ↓e_is_n, ↓e_is_b, ↓e_isN_n, ↓e_isN_b, ↓e_isNon_n, ↓e_isNon_i, ↓e_isNon_s, ↓e_isNon_t, ↓e_isNon_l, ↓e_isNon_b, ↓e_ix_t, ↓e_ix_k, ↓e_ix_l, ↓e_ix_ds, ↓e_ix_di, ↓e_ix_s, ↓e_obDT_l, ↓e_obDT_d, ↓e_obDT_t, ↓e_obD_t, ↓e_obL_t, ↓e_ix_loc, ↓e_ixO_l, ↓e_ixO_d, ↓e_ixO_t, ↓e_len_loc, ↓e_lenO_l, ↓e_lenO_d, ↓e_lenO_t, ↓e_tuple_loc, ↓e_list_loc, ↓e_listO_l, ↓e_listO_d, ↓e_list_d, ↓e_add_ll, ↓e_sl_loc, ↓e_tup, ↓e_lst, ↓e_len_t, ↓e_len_k, ↓e_len_l, ↓e_len_d, ↓e_len_r, ↓e_len_s, ↓e_abs, ↓e_int_i, ↓e_int_b, ↓e_tuple_t, ↓e_tuple_l, ↓e_list_t, ↓e_list_l, ↓e_dict_d, ↓e_dict_l, ↓e_sorted_l, ↓e_isi, ↓e_ty_n, ↓e_ty_b, ↓e_ty_i, ↓e_ty_s, ↓e_ty_t, ↓e_ty_l, ↓e_ty_d, ↓e_sl_t, ↓e_sl_l, ↓e_rev_t, ↓e_rev_l, ↓e_cut_to1, ↓e_cut_from1, ↓e_cut_to, ↓e_cut_from, ↓e_wopt_n, ↓e_intQ, ↓e_wopt_s, ↓e_blQ, ↓e_wT, ↓e_putD0, ↓e_putD1, ↓e_putL0, ↓e_putL1, ↓e_setS_f, ↓e_setS_a, ↓e_wd_in, ↓e_wd_mv, ↓e_ok_wd, ↓e_ok_in, ↓e_ok_move, ↓e_en_S, ↓e_en_TK, ↓e_en_L, ↓e_en_ty, ↓e_en_bv, ↓e_en_sb, ↓e_ens_sb, ↓e_bal_sb, ↓e_bals_sb, ↓e_en_isNon, ↓e_en_ix0, ↓e_en_ix1, ↓e_en_ix2, ↓e_en_ix3, ↓e_own, ↓e_pl, ↓e_eqL_ens, ↓e_getD_bal, ↓e_put_bal, ↓e_balK_len, ↓e_getput, ↓e_sorted_bal, ↓e_asS_dw, ↓e_asD_dw, ↓e_v_large, ↓e_v_cells, ↓e_v_rest, ↓e_v_turn, ↓e_dw_0, ↓e_dw_1, ↓e_dw_set0, ↓e_put_rest, ↓e_put_turn, ↓u_is_number, ↓u_is_wordT, ↓u_is_word1, ↓u_is_word2, ↓u_is_row, ↓u_is_row_en, ↓u_is_name, ↓u_are_ascending, ↓u_is_lot_of, ↓u_owners_in, ↓u_places_in, ↓u_came_of, ↓u_behind, ↓u_is_entry, ↓e_zero_pl, ↓e_walk_last, ↓e_walk_len, ↓u_balances_of, ↓u_is_ledger, ↓u_check_ledger, ↓u_owners_of, ↓u_places_of, ↓u_check_some, ↓u_check_where, ↓u_check_place, ↓u_check_moment, ↓u_others_of, ↓e_bals_last, ↓u_lying_at_end, ↓e_led_sb, ↓u_owners, ↓u_places, ↓u_others, ↓u_balance, ↓u_lying, ↓u_came, ↓u_begun, ↓reduceIte, ↓oQ_s, startD, permL, List.map_cons, List.map_nil, List.length_cons, List.length_nil, List.replicate, List.getElem?_cons_succ, List.getElem?_cons_zero, List.cons_append, List.nil_append, List.set_cons_succ, List.set_cons_zero, Nat.reduceAdd, Nat.reduceSub, Nat.reduceEqDiff, wipeD, List.filterMap_cons, List.filterMap_nil, List.length_range, List.getElem?_map, Int.zero_add, List.length_map, List.eraseIdx_cons_zero, Bool.and_true, Bool.true_and, Bool.and_false, Bool.false_and, oQ_s, oQ_n, if_t, if_f, dEq, dNe, bv_int, bv_bl, bv_str, bv_tup, bv_lst, bv_non, eqD_int, eqD_str, eqD_bl, atI0, atI1, atI2, atI3, atI4, atI_nat, atI_nat', atI_succ, ok_int, ok_bl, ok_nil, sto_at, sto_at0, sto_set, sto_set0, Option.isSome_some, Option.isSome_none, Bool.false_eq_true, or_false, false_or, true_or, or_true, Option.map_some, Option.map_none, true_and, and_true, false_and, and_false, Bool.not_true, Bool.not_false, reduceIte, decide_true, decide_false, Bool.decide_eq_true, Bool.decide_eq_false, Bool.not_not, eq_self, reduceCtorEq, Int.reduceEq, Int.reduceLT, Int.reduceLE, u_neg, e_lc, e_lcB_if, e_lcB_ifn, e_lcB_t, e_lcB_if2, e_noG, e_lc_nil, e_lc_cons, e_for_nil, e_nx, e_dc, e_dcB_s, e_rt, e_rtF, e_frzR, e_frzR0, e_xq, e_sb_int, e_sb_bl, e_sb_str, e_sb_non, e_sb_scr, e_sb_loc, e_sb_tup, e_sb_ktp, e_sb_lst, e_sb_dct, e_sb_dcT, e_sbL_nil, e_sbK_nil, e_sbL_cons, e_sbL_ints, e_sbL_strs, e_sbL_bls, e_frz_l0, e_frz_d0, e_frz_l1, e_frz_d1, e_frz_l2, e_asS_tup, e_asS_ktp, e_asS_lst, e_asS_scr, e_asS_int, e_asS_non, e_asS_bl, e_asS_str, e_asS_dct, e_asD_dct, e_asD_int, e_asD_str, e_asD_lst, e_asD_tup, e_asDT_str, e_asL_lst, e_asL_tup, e_asL_ktp, e_asL_dct, e_asL_int, e_asL_bl, e_asL_str, e_asL_non, e_asL_loc, e_asS_loc, e_asD_loc, e_obL_s, e_obL_d, e_obD_s, e_obD_l, e_asK_str, e_asK_int, e_asI_int, e_asTK_tup, e_asTK_ktp, e_asLoc_loc, e_lstOf_lst, e_lstOf_tup, e_itOf_tup, e_itOf_ktp, e_itOf_lst, e_itOf_scr, e_itOf_str, e_alL_f, e_alL_t, e_alD_f, e_alD_t, e_kn_bool, e_kn_int, e_kn_str, e_kn_tuple, e_kn_list, e_kn_dict, e_su_ib, e_su_ii, e_su_ss, e_su_tt, e_sz0, e_sz1, e_sz2, e_sz3, e_sz4, e_sz5, e_sz6, e_sz7, e_sz8, e_sz9, e_sz10, e_sz11, e_sz12, e_app, e_iteT, e_iteF, e_new_len, e_new_len2, e_new_two, e_new_three, e_len_map, e_asBls, e_asStrs, e_asInts, e_asStrs0, e_asInts0, e_asBls0, e_all_id, e_any_id, e_sum, e_all, e_any, e_max1l, e_min1l, e_max2, e_min2, e_ixN0, e_bv_loc, e_bvO_l, e_bvO_d, e_eq_nn, e_eq_cn, e_ok_intsL, e_onB, e_oQ_map, e_inT, e_inK, e_inL, e_ninT, e_ninL, e_setS, e_in1, e_chr_len, ec_oQh, e_take_map, e_drop_map, e_rev_map, e_app_map, e_eqTT, e_eqLL, e_eqL_nil, e_eqL_cons, e_eqL_nc, e_eqL_cn, e_eqL_strs, e_eqL_ints, e_eqL_m0, e_eqL0, e_eqT0, e_wSkip, e_wSeq, e_wDrop, e_wRet, e_wRetN, e_wBrk, e_wCnt, e_wIfS, e_wSet, e_wTup, e_tg_nm, e_tg_tp, e_setAll_n, e_setAll_c, e_vQ, e_wVar, e_wC, e_wNil, e_wCons, e_wB1, e_wB2, e_wAnd, e_wOr, e_wNot, e_wIf, e_wB, e_wChain, e_wAndV, e_wOrV, e_wNotV, e_wP, e_wGet2, e_getQ_d, e_getQ_l, e_getO_d, e_getO_t, e_wSl, e_wM, e_pop, e_popi, e_wCall, e_wCallK, e_wLc, e_wDc, e_wSeqI, e_wRng1, e_wRng2, e_wEnum, e_enumI, e_wZip, e_wFor, e_wYes, e_wPut, e_wDisp, e_disp_n, e_disp_c, e_wRaise, e_wDict0, e_spb, e_c0, e_c1, e_c2, e_c3, e_c4, e_c5, e_c6, e_c7, e_c8, e_add_i, e_add_s, e_add_t, e_add_l, e_sub_i, e_mul_i, e_mul_l, e_fdiv_i, e_mod_i, e_pow_i, e_neg_i, e_lt_i, e_lt_s, e_le_i, e_gt_i, e_ge_i, e_is_n, e_is_b, e_isN_n, e_isN_b, e_isNon_n, e_isNon_i, e_isNon_s, e_isNon_t, e_isNon_l, e_isNon_b, e_ix_t, e_ix_k, e_ix_l, e_ix_ds, e_ix_di, e_ix_s, e_obDT_l, e_obDT_d, e_obDT_t, e_obD_t, e_obL_t, e_ix_loc, e_ixO_l, e_ixO_d, e_ixO_t, e_len_loc, e_lenO_l, e_lenO_d, e_lenO_t, e_tuple_loc, e_list_loc, e_listO_l, e_listO_d, e_list_d, e_add_ll, e_sl_loc, e_tup, e_lst, e_len_t, e_len_k, e_len_l, e_len_d, e_len_r, e_len_s, e_abs, e_int_i, e_int_b, e_tuple_t, e_tuple_l, e_list_t, e_list_l, e_dict_d, e_dict_l, e_sorted_l, e_isi, e_ty_n, e_ty_b, e_ty_i, e_ty_s, e_ty_t, e_ty_l, e_ty_d, e_sl_t, e_sl_l, e_rev_t, e_rev_l, e_cut_to1, e_cut_from1, e_cut_to, e_cut_from, ec_ok_str, ec_szle, ec_szlt, ec_rng1, ec_rng2, e_wopt_n, e_intQ, e_wopt_s, e_blQ, e_wT, e_putD0, e_putD1, e_putL0, e_putL1, e_setS_f, e_setS_a, e_wd_in, e_wd_mv, e_ok_wd, e_ok_in, e_ok_move, e_en_S, e_en_TK, e_en_L, e_en_ty, e_en_bv, e_en_sb, e_ens_sb, e_bal_sb, e_bals_sb, e_en_isNon, e_en_ix0, e_en_ix1, e_en_ix2, e_en_ix3, e_own, e_pl, ec_own64, ec_pl64, ec_es_sz, e_eqL_ens, e_getD_bal, e_put_bal, e_balK_len, ec_val_mem, e_getput, e_sorted_bal, e_asS_dw, e_asD_dw, e_v_large, e_v_cells, e_v_rest, e_v_turn, e_dw_0, e_dw_1, e_dw_set0, e_put_rest, e_put_turn, u_is_number, u_is_wordT, u_is_word1, u_is_word2, u_is_row, u_is_row_en, u_is_name, u_are_ascending, u_is_lot_of, u_owners_in, u_places_in, u_came_of, u_behind, u_is_entry, e_zero_pl, e_walk_last, e_walk_len, ec_ok_ens, ec_ok_led, ec_ok_pl, ec_ok_own, ec_ok_plT, ec_ok_ownT, ec_minV_bal, u_balances_of, u_is_ledger, u_check_ledger, u_owners_of, u_places_of, u_check_some, u_check_where, u_check_place, u_check_moment, u_others_of, e_bals_last, u_lying_at_end, e_led_sb, u_owners, u_places, u_others, u_balance, u_lying, u_came, u_begun])
--#
theorem dw_len {ls cs : List Int} {r t : Int} {T : Sto} : (dw ls cs r t ++ T).length = T.length + 2 := by
  rw [List.length_append]
  show 2 + T.length = _
  omega
theorem DrawS.len {T S : Sto} (h : DrawS T S) : S.length = T.length + 2 := by
  obtain ⟨ls, cs, r, t, rfl⟩ := h
  exact dw_len
theorem DrawS.app {T S L : Sto} (h : DrawS T S) : DrawS (T ++ L) (S ++ L) := by
  obtain ⟨ls, cs, r, t, rfl⟩ := h
  exact ⟨ls, cs, r, t, List.append_assoc ..⟩
theorem DrawS.cut {T S L : Sto} (h : DrawS (T ++ L) S) : ∃ S1, S = S1 ++ L ∧ DrawS T S1 := by
  obtain ⟨ls, cs, r, t, rfl⟩ := h
  exact ⟨dw ls cs r t ++ T, (List.append_assoc ..).symm, ls, cs, r, t, rfl⟩
open Classical in
theorem frzC_same {k : Nat → Option D} {L : Sto} : ∀ {T : Sto}, frzC k T (T ++ L) = some T := frzC_app
open Classical in
theorem frz_dr {T S S' L : Sto} (h1 : DrawS T S) (h2 : DrawS T S') : frzR S (S' ++ L) = some S' := by
  obtain ⟨ls, cs, r, t, rfl⟩ := h1
  obtain ⟨ls', cs', r', t', rfl⟩ := h2
  have kd : Kid (dw ls cs r t ++ T).length (frz (dw ls' cs' r' t' ++ T ++ L) (dw ls cs r t ++ T).length 6) := kid_frz
  have h0 := kd 0 (by rw [dw_len]; omega)
  unfold frzR
  generalize frz (dw ls' cs' r' t' ++ T ++ L) (dw ls cs r t ++ T).length 6 = k at h0
  have e1 : sbO k (.lst (ls'.map D.int)) = some (.lst (ls'.map D.int)) := by
    show (sbL k (ls'.map D.int)).map Ob.lst = _
    rw [e_sbL_ints]
    rfl
  have e2 : sbO k (.dct (dwK cs' r' t')) = some (.dct (dwK cs' r' t')) := by
    show (sbK k (dwK cs' r' t')).map Ob.dct = _
    have e : sbK k (dwK cs' r' t') = some (dwK cs' r' t') := by
      unfold dwK
      simp only [sbK, sbP, sbD, h0, e_sbL_ints, Option.map_some]
    rw [e]
    rfl
  show frzC k (.lst (ls.map D.int) :: .dct (dwK cs r t) :: T) (.lst (ls'.map D.int) :: .dct (dwK cs' r' t') :: (T ++ L)) = _
  have g1 : (if Ob.lst (ls'.map D.int) = Ob.lst (ls.map D.int) then some (Ob.lst (ls.map D.int)) else sbO k (.lst (ls'.map D.int))) = some (.lst (ls'.map D.int)) := by
    split
    · rename_i h; rw [h]
    · exact e1
  have g2 : (if Ob.dct (dwK cs' r' t') = Ob.dct (dwK cs r t) then some (Ob.dct (dwK cs r t)) else sbO k (.dct (dwK cs' r' t'))) = some (.dct (dwK cs' r' t')) := by
    split
    · rename_i h; rw [h]
    · exact e2
  unfold frzC
  rw [g1]
  dsimp only
  unfold frzC
  rw [g2]
  dsimp only
  rw [frzC_same]
  rfl
theorem frz_dr0 {T S S' : Sto} (h1 : DrawS T S) (h2 : DrawS T S') : frzR S S' = some S' := by
  have := frz_dr (L := []) h1 h2
  rwa [List.append_nil] at this
theorem merge_nd : ∀ {ps acc : List (Key × D)}, (acc ++ ps).map (·.1) |>.Nodup → mergeD acc ps = acc ++ ps
  | [], acc, _ => by
    rw [List.append_nil]
    rfl
  | p :: ps, acc, h => by
    show mergeD (putD acc p.1 p.2) ps = _
    have hp : putD acc p.1 p.2 = acc ++ [p] := by
      unfold putD
      rw [if_neg]
      intro z
      obtain ⟨q, hq, e⟩ := List.any_eq_true.mp z
      have e := of_decide_eq_true e
      rw [List.map_append, List.map_cons] at h
      exact (List.nodup_append.mp h).2.2 q.1 (List.mem_map_of_mem hq) p.1 List.mem_cons_self e
    rw [hp, merge_nd (by rw [List.append_assoc]; exact h), List.append_assoc]
    rfl
theorem c18 : CPow 10 18 := ⟨by decide, by decide, by decide⟩
theorem e_c18 : CPow 10 18 = True := eq_true c18
theorem dw_merge {cs : List Int} : mergeD [] [(.inr "large", .loc 0), (.inr "cells", .lst (cs.map D.int)), (.inr "rest", .int 0), (.inr "turn", .int 0)] = dwK cs 0 0 := by
  rw [merge_nd (acc := [])]
  · rfl
  · show List.Nodup [(Sum.inr "large" : Key), .inr "cells", .inr "rest", .inr "turn"]
    decide +kernel
local macro_rules | `(tactic| walk_at "ev") => `(tactic| try simp (maxSteps := 4000000) (dsimp := false) (implicitDefEqProofs := false) (disch := first | assumption | (show (_ : Nat) ≤ _; omega) | (show (_ : Int) ≤ _ ∧ _; omega)) only [↓u_neg, ↓e_lc, ↓e_lcB_if, ↓e_lcB_ifn, ↓e_lcB_t, ↓e_lcB_if2, ↓e_noG, ↓e_lc_nil, ↓e_lc_cons, ↓e_for_nil, ↓e_nx, ↓e_dc, ↓e_dcB_s, ↓e_rt, ↓e_rtF, ↓e_frzR, ↓e_frzR0, ↓e_xq, ↓e_sb_int, ↓e_sb_bl, ↓e_sb_str, ↓e_sb_non, ↓e_sb_scr, ↓e_sb_loc, ↓e_sb_tup, ↓e_sb_ktp, ↓e_sb_lst, ↓e_sb_dct, ↓e_sb_dcT, ↓e_sbL_nil, ↓e_sbK_nil, ↓e_sbL_cons, ↓e_sbL_ints, ↓e_sbL_strs, ↓e_sbL_bls, ↓e_frz_l0, ↓e_frz_d0, ↓e_frz_l1, ↓e_frz_d1, ↓e_frz_l2, ↓e_asS_tup, ↓e_asS_ktp, ↓e_asS_lst, ↓e_asS_scr, ↓e_asS_int, ↓e_asS_non, ↓e_asS_bl, ↓e_asS_str, ↓e_asS_dct, ↓e_asD_dct, ↓e_asD_int, ↓e_asD_str, ↓e_asD_lst, ↓e_asD_tup, ↓e_asDT_str, ↓e_asL_lst, ↓e_asL_tup, ↓e_asL_ktp, ↓e_asL_dct, ↓e_asL_int, ↓e_asL_bl, ↓e_asL_str, ↓e_asL_non, ↓e_asL_loc, ↓e_asS_loc, ↓e_asD_loc, ↓e_obL_s, ↓e_obL_d, ↓e_obD_s, ↓e_obD_l, ↓e_asK_str, ↓e_asK_int, ↓e_asI_int, ↓e_asTK_tup, ↓e_asTK_ktp, ↓e_asLoc_loc, ↓e_lstOf_lst, ↓e_lstOf_tup, ↓e_itOf_tup, ↓e_itOf_ktp, ↓e_itOf_lst, ↓e_itOf_scr, ↓e_itOf_str, ↓e_alL_f, ↓e_alL_t, ↓e_alD_f, ↓e_alD_t, ↓e_kn_bool, ↓e_kn_int, ↓e_kn_str, ↓e_kn_tuple, ↓e_kn_list, ↓e_kn_dict, ↓e_su_ib, ↓e_su_ii, ↓e_su_ss, ↓e_su_tt, ↓e_sz0, ↓e_sz1, ↓e_sz2, ↓e_sz3, ↓e_sz4, ↓e_sz5, ↓e_sz6, ↓e_sz7, ↓e_sz8, ↓e_sz9, ↓e_sz10, ↓e_sz11, ↓e_sz12, ↓e_app, ↓e_iteT, ↓e_iteF, ↓e_new_len, ↓e_new_len2, ↓e_new_two, ↓e_new_three, ↓e_len_map, ↓e_asBls, ↓e_asStrs, ↓e_asInts, ↓e_asStrs0, ↓e_asInts0, ↓e_asBls0, ↓e_all_id, ↓e_any_id, ↓e_sum, ↓e_all, ↓e_any, ↓e_max1l, ↓e_min1l, ↓e_max2, ↓e_min2, ↓e_ixN0, ↓e_bv_loc, ↓e_bvO_l, ↓e_bvO_d, ↓e_eq_nn, ↓e_eq_cn, ↓e_ok_intsL, ↓e_onB, ↓e_oQ_map, ↓e_inT, ↓e_inK, ↓e_inL, ↓e_ninT, ↓e_ninL, ↓e_setS, ↓e_in1, ↓e_chr_len, ↓e_take_map, ↓e_drop_map, ↓e_rev_map, ↓e_app_map, ↓e_eqTT, ↓e_eqLL, ↓e_eqL_nil, ↓e_eqL_cons, ↓e_eqL_nc, ↓e_eqL_cn, ↓e_eqL_strs, ↓e_eqL_ints, ↓e_eqL_m0, ↓e_eqL0, ↓e_eqT0, ↓e_wSkip, ↓e_wSeq, ↓e_wDrop, ↓e_wRet, ↓e_wRetN, ↓e_wBrk, ↓e_wCnt, ↓e_wIfS, ↓e_wSet, ↓e_wTup, ↓e_tg_nm, ↓e_tg_tp, ↓e_setAll_n, ↓e_setAll_c, ↓e_vQ, ↓e_wVar, ↓e_wC, ↓e_wNil, ↓e_wCons, ↓e_wB1, ↓e_wB2, ↓e_wAnd, ↓e_wOr, ↓e_wNot, ↓e_wIf, ↓e_wB, ↓e_wChain, ↓e_wAndV, ↓e_wOrV, ↓e_wNotV, ↓e_wP, ↓e_wGet2, ↓e_getQ_d, ↓e_getQ_l, ↓e_getO_d, ↓e_getO_t, ↓e_wSl, ↓e_wM, ↓e_pop, ↓e_popi, ↓e_wCall, ↓e_wCallK, ↓e_wLc, ↓e_wDc, ↓e_wSeqI, ↓e_wRng1, ↓e_wRng2, ↓e_wEnum, ↓e_enumI, ↓e_wZip, ↓e_wFor, ↓e_wYes, ↓e_wPut, ↓e_wDisp, ↓e_disp_n, ↓e_disp_c, ↓e_wRaise, ↓e_wDict0, ↓e_spb, ↓e_c0, ↓e_c1, ↓e_c2, ↓e_c3, ↓e_c4, ↓e_c5, ↓e_c6, ↓e_c7, ↓e_c8, ↓e_add_i, ↓e_add_s, ↓e_add_t, ↓e_add_l, ↓e_sub_i, ↓e_mul_i, ↓e_mul_l, ↓e_fdiv_i, ↓e_mod_i, ↓e_pow_i, ↓e_neg_i, ↓e_lt_i, ↓e_lt_s, ↓e_le_i, ↓e_gt_i, ↓e_ge_i, ↓e_is_n, ↓e_is_b, ↓e_isN_n, ↓e_isN_b, ↓e_isNon_n, ↓e_isNon_i, ↓e_isNon_s, ↓e_isNon_t, ↓e_isNon_l, ↓e_isNon_b, ↓e_ix_t, ↓e_ix_k, ↓e_ix_l, ↓e_ix_ds, ↓e_ix_di, ↓e_ix_s, ↓e_obDT_l, ↓e_obDT_d, ↓e_obDT_t, ↓e_obD_t, ↓e_obL_t, ↓e_ix_loc, ↓e_ixO_l, ↓e_ixO_d, ↓e_ixO_t, ↓e_len_loc, ↓e_lenO_l, ↓e_lenO_d, ↓e_lenO_t, ↓e_tuple_loc, ↓e_list_loc, ↓e_listO_l, ↓e_listO_d, ↓e_list_d, ↓e_add_ll, ↓e_sl_loc, ↓e_tup, ↓e_lst, ↓e_len_t, ↓e_len_k, ↓e_len_l, ↓e_len_d, ↓e_len_r, ↓e_len_s, ↓e_abs, ↓e_int_i, ↓e_int_b, ↓e_tuple_t, ↓e_tuple_l, ↓e_list_t, ↓e_list_l, ↓e_dict_d, ↓e_dict_l, ↓e_sorted_l, ↓e_isi, ↓e_ty_n, ↓e_ty_b, ↓e_ty_i, ↓e_ty_s, ↓e_ty_t, ↓e_ty_l, ↓e_ty_d, ↓e_sl_t, ↓e_sl_l, ↓e_rev_t, ↓e_rev_l, ↓e_cut_to1, ↓e_cut_from1, ↓e_cut_to, ↓e_cut_from, ↓e_wopt_n, ↓e_intQ, ↓e_wopt_s, ↓e_blQ, ↓e_wT, ↓e_putD0, ↓e_putD1, ↓e_putL0, ↓e_putL1, ↓e_setS_f, ↓e_setS_a, ↓e_wd_in, ↓e_wd_mv, ↓e_ok_wd, ↓e_ok_in, ↓e_ok_move, ↓e_en_S, ↓e_en_TK, ↓e_en_L, ↓e_en_ty, ↓e_en_bv, ↓e_en_sb, ↓e_ens_sb, ↓e_bal_sb, ↓e_bals_sb, ↓e_en_isNon, ↓e_en_ix0, ↓e_en_ix1, ↓e_en_ix2, ↓e_en_ix3, ↓e_own, ↓e_pl, ↓e_eqL_ens, ↓e_getD_bal, ↓e_put_bal, ↓e_balK_len, ↓e_getput, ↓e_sorted_bal, ↓e_asS_dw, ↓e_asD_dw, ↓e_v_large, ↓e_v_cells, ↓e_v_rest, ↓e_v_turn, ↓e_dw_0, ↓e_dw_1, ↓e_dw_set0, ↓e_put_rest, ↓e_put_turn, ↓u_is_number, ↓u_is_wordT, ↓u_is_word1, ↓u_is_word2, ↓u_is_row, ↓u_is_row_en, ↓u_is_name, ↓u_are_ascending, ↓u_is_lot_of, ↓u_owners_in, ↓u_places_in, ↓u_came_of, ↓u_behind, ↓u_is_entry, ↓e_zero_pl, ↓e_walk_last, ↓e_walk_len, ↓u_balances_of, ↓u_is_ledger, ↓u_check_ledger, ↓u_owners_of, ↓u_places_of, ↓u_check_some, ↓u_check_where, ↓u_check_place, ↓u_check_moment, ↓u_others_of, ↓e_bals_last, ↓u_lying_at_end, ↓e_led_sb, ↓u_owners, ↓u_places, ↓u_others, ↓u_balance, ↓u_lying, ↓u_came, ↓u_begun, ↓e_c18, ↓reduceIte, ↓oQ_s, startD, permL, List.map_cons, List.map_nil, List.length_cons, List.length_nil, List.replicate, List.getElem?_cons_succ, List.getElem?_cons_zero, List.cons_append, List.nil_append, List.set_cons_succ, List.set_cons_zero, Nat.reduceAdd, Nat.reduceSub, Nat.reduceEqDiff, wipeD, List.filterMap_cons, List.filterMap_nil, List.length_range, List.getElem?_map, Int.zero_add, List.length_map, List.eraseIdx_cons_zero, Bool.and_true, Bool.true_and, Bool.and_false, Bool.false_and, oQ_s, oQ_n, if_t, if_f, dEq, dNe, bv_int, bv_bl, bv_str, bv_tup, bv_lst, bv_non, eqD_int, eqD_str, eqD_bl, atI0, atI1, atI2, atI3, atI4, atI_nat, atI_nat', atI_succ, ok_int, ok_bl, ok_nil, sto_at, sto_at0, sto_set, sto_set0, Option.isSome_some, Option.isSome_none, Bool.false_eq_true, or_false, false_or, true_or, or_true, Option.map_some, Option.map_none, true_and, and_true, false_and, and_false, Bool.not_true, Bool.not_false, reduceIte, decide_true, decide_false, Bool.decide_eq_true, Bool.decide_eq_false, Bool.not_not, eq_self, reduceCtorEq, Int.reduceEq, Int.reduceLT, Int.reduceLE, u_neg, e_lc, e_lcB_if, e_lcB_ifn, e_lcB_t, e_lcB_if2, e_noG, e_lc_nil, e_lc_cons, e_for_nil, e_nx, e_dc, e_dcB_s, e_rt, e_rtF, e_frzR, e_frzR0, e_xq, e_sb_int, e_sb_bl, e_sb_str, e_sb_non, e_sb_scr, e_sb_loc, e_sb_tup, e_sb_ktp, e_sb_lst, e_sb_dct, e_sb_dcT, e_sbL_nil, e_sbK_nil, e_sbL_cons, e_sbL_ints, e_sbL_strs, e_sbL_bls, e_frz_l0, e_frz_d0, e_frz_l1, e_frz_d1, e_frz_l2, e_asS_tup, e_asS_ktp, e_asS_lst, e_asS_scr, e_asS_int, e_asS_non, e_asS_bl, e_asS_str, e_asS_dct, e_asD_dct, e_asD_int, e_asD_str, e_asD_lst, e_asD_tup, e_asDT_str, e_asL_lst, e_asL_tup, e_asL_ktp, e_asL_dct, e_asL_int, e_asL_bl, e_asL_str, e_asL_non, e_asL_loc, e_asS_loc, e_asD_loc, e_obL_s, e_obL_d, e_obD_s, e_obD_l, e_asK_str, e_asK_int, e_asI_int, e_asTK_tup, e_asTK_ktp, e_asLoc_loc, e_lstOf_lst, e_lstOf_tup, e_itOf_tup, e_itOf_ktp, e_itOf_lst, e_itOf_scr, e_itOf_str, e_alL_f, e_alL_t, e_alD_f, e_alD_t, e_kn_bool, e_kn_int, e_kn_str, e_kn_tuple, e_kn_list, e_kn_dict, e_su_ib, e_su_ii, e_su_ss, e_su_tt, e_sz0, e_sz1, e_sz2, e_sz3, e_sz4, e_sz5, e_sz6, e_sz7, e_sz8, e_sz9, e_sz10, e_sz11, e_sz12, e_app, e_iteT, e_iteF, e_new_len, e_new_len2, e_new_two, e_new_three, e_len_map, e_asBls, e_asStrs, e_asInts, e_asStrs0, e_asInts0, e_asBls0, e_all_id, e_any_id, e_sum, e_all, e_any, e_max1l, e_min1l, e_max2, e_min2, e_ixN0, e_bv_loc, e_bvO_l, e_bvO_d, e_eq_nn, e_eq_cn, e_ok_intsL, e_onB, e_oQ_map, e_inT, e_inK, e_inL, e_ninT, e_ninL, e_setS, e_in1, e_chr_len, ec_oQh, e_take_map, e_drop_map, e_rev_map, e_app_map, e_eqTT, e_eqLL, e_eqL_nil, e_eqL_cons, e_eqL_nc, e_eqL_cn, e_eqL_strs, e_eqL_ints, e_eqL_m0, e_eqL0, e_eqT0, e_wSkip, e_wSeq, e_wDrop, e_wRet, e_wRetN, e_wBrk, e_wCnt, e_wIfS, e_wSet, e_wTup, e_tg_nm, e_tg_tp, e_setAll_n, e_setAll_c, e_vQ, e_wVar, e_wC, e_wNil, e_wCons, e_wB1, e_wB2, e_wAnd, e_wOr, e_wNot, e_wIf, e_wB, e_wChain, e_wAndV, e_wOrV, e_wNotV, e_wP, e_wGet2, e_getQ_d, e_getQ_l, e_getO_d, e_getO_t, e_wSl, e_wM, e_pop, e_popi, e_wCall, e_wCallK, e_wLc, e_wDc, e_wSeqI, e_wRng1, e_wRng2, e_wEnum, e_enumI, e_wZip, e_wFor, e_wYes, e_wPut, e_wDisp, e_disp_n, e_disp_c, e_wRaise, e_wDict0, e_spb, e_c0, e_c1, e_c2, e_c3, e_c4, e_c5, e_c6, e_c7, e_c8, e_add_i, e_add_s, e_add_t, e_add_l, e_sub_i, e_mul_i, e_mul_l, e_fdiv_i, e_mod_i, e_pow_i, e_neg_i, e_lt_i, e_lt_s, e_le_i, e_gt_i, e_ge_i, e_is_n, e_is_b, e_isN_n, e_isN_b, e_isNon_n, e_isNon_i, e_isNon_s, e_isNon_t, e_isNon_l, e_isNon_b, e_ix_t, e_ix_k, e_ix_l, e_ix_ds, e_ix_di, e_ix_s, e_obDT_l, e_obDT_d, e_obDT_t, e_obD_t, e_obL_t, e_ix_loc, e_ixO_l, e_ixO_d, e_ixO_t, e_len_loc, e_lenO_l, e_lenO_d, e_lenO_t, e_tuple_loc, e_list_loc, e_listO_l, e_listO_d, e_list_d, e_add_ll, e_sl_loc, e_tup, e_lst, e_len_t, e_len_k, e_len_l, e_len_d, e_len_r, e_len_s, e_abs, e_int_i, e_int_b, e_tuple_t, e_tuple_l, e_list_t, e_list_l, e_dict_d, e_dict_l, e_sorted_l, e_isi, e_ty_n, e_ty_b, e_ty_i, e_ty_s, e_ty_t, e_ty_l, e_ty_d, e_sl_t, e_sl_l, e_rev_t, e_rev_l, e_cut_to1, e_cut_from1, e_cut_to, e_cut_from, ec_ok_str, ec_szle, ec_szlt, ec_rng1, ec_rng2, e_wopt_n, e_intQ, e_wopt_s, e_blQ, e_wT, e_putD0, e_putD1, e_putL0, e_putL1, e_setS_f, e_setS_a, e_wd_in, e_wd_mv, e_ok_wd, e_ok_in, e_ok_move, e_en_S, e_en_TK, e_en_L, e_en_ty, e_en_bv, e_en_sb, e_ens_sb, e_bal_sb, e_bals_sb, e_en_isNon, e_en_ix0, e_en_ix1, e_en_ix2, e_en_ix3, e_own, e_pl, ec_own64, ec_pl64, ec_es_sz, e_eqL_ens, e_getD_bal, e_put_bal, e_balK_len, ec_val_mem, e_getput, e_sorted_bal, e_asS_dw, e_asD_dw, e_v_large, e_v_cells, e_v_rest, e_v_turn, e_dw_0, e_dw_1, e_dw_set0, e_put_rest, e_put_turn, u_is_number, u_is_wordT, u_is_word1, u_is_word2, u_is_row, u_is_row_en, u_is_name, u_are_ascending, u_is_lot_of, u_owners_in, u_places_in, u_came_of, u_behind, u_is_entry, e_zero_pl, e_walk_last, e_walk_len, ec_ok_ens, ec_ok_led, ec_ok_pl, ec_ok_own, ec_ok_plT, ec_ok_ownT, ec_minV_bal, u_balances_of, u_is_ledger, u_check_ledger, u_owners_of, u_places_of, u_check_some, u_check_where, u_check_place, u_check_moment, u_others_of, e_bals_last, u_lying_at_end, e_led_sb, u_owners, u_places, u_others, u_balance, u_lying, u_came, u_begun, e_c18])

--# _law_begun
theorem d_begun {ns : List Int} (hl : ns.length ≤ 63) (q : ∀ S', DrawS [] S' → Q (.loc 1) S') : sp__law_begun [.scr ns] [] Q Ex := by
  unfold sp__law_begun rd__law_begun
  walk_at "ev"
  refine ⟨by decide, ?_⟩
  rw [map_ints, map_ints (f := fun x => (if x < 0 then -x else x) % 2147483629), dw_merge]
  exact q _ ⟨_, ns.map (fun x => (if x < 0 then -x else x) % 2147483629), 0, 0, rfl⟩
--# _law_mixed
theorem d_mixed {T : Sto} (hD : DrawS T S) (q : ∀ r S', DrawS T S' → Q (.int r) S') : sp__law_mixed [.loc 1] S Q Ex := by
  obtain ⟨ls, cs, r, t, rfl⟩ := hD
  have hD : DrawS T (dw ls cs r t ++ T) := ⟨_, _, _, _, rfl⟩
  unfold sp__law_mixed rd__law_mixed
  walk_at "ev"
  refine for_inv (xs := [2147483647, 2147483629, 2147483587, 2147483579]) D.int (fun l ρ S' => (∀ p ∈ l, 0 < p) ∧ ∃ f o3 o4 o5, ρ = [some (.loc 1), some (.int (t + 1)), some (.int f), o3, o4, o5] ∧ S' = dw ls cs r (t + 1) ++ T) (fun _ _ _ _ => trivial) ?_ ?_ ⟨by decide, 0, none, none, none, rfl, rfl⟩
  · rintro p l ρ S' ⟨hp, f, o3, o4, o5, rfl, rfl⟩ N k
    have hp0 : 0 < p := hp p List.mem_cons_self
    walk_at "ev"
    refine ⟨mul_l (by decide) (by decide), ⟨by decide, by decide⟩, ?_⟩
    refine for_inv D.int (fun _ ρ S' => ∃ o4 o5, ρ = [some (.loc 1), some (.int (t + 1)), some (.int f), some (.int p), some (.int o4), o5] ∧ S' = dw ls cs r (t + 1) ++ T) (fun _ _ _ _ => trivial) ?_ ?_ ⟨_, o5, rfl, rfl⟩
    · rintro g l ρ S' ⟨o4, o5, rfl, rfl⟩ N k
      walk_at "ev"
      exact ⟨mul_r (by decide) (by decide), hp0, k _ _ ⟨_, _, rfl, rfl⟩⟩
    · rintro ρ S' ⟨o4, o5, rfl, rfl⟩
      walk_at "ev"
      exact ⟨mul_r (by decide) (by decide), k _ _ ⟨fun q hq => hp q (List.mem_cons_of_mem _ hq), _, _, _, _, rfl, rfl⟩⟩
  · rintro ρ S' ⟨_, f, o3, o4, o5, rfl, rfl⟩
    walk_at "ev"
    rw [frz_dr0 hD ⟨_, _, _, _, rfl⟩]
    exact q _ _ ⟨_, _, _, _, rfl⟩
--# _law_take
theorem d_take {T : Sto} {m : Int} (hm : 0 < m) (hm2 : m < 2 ^ 64) (hD : DrawS T S) (q : ∀ r S', 0 ≤ r → r < m → DrawS T S' → Q (.int r) S') : sp__law_take [.loc 1, .int m] S Q Ex := by
  obtain ⟨ls, cs, r, t, rfl⟩ := hD
  have hD : DrawS T (dw ls cs r t ++ T) := ⟨_, _, _, _, rfl⟩
  have hdiv : ∀ i, CDivW i m := fun i => ⟨hm, by
    have h1 : m.natAbs < 2 ^ 64 := by omega
    have := (Nat.log2_lt (n := m.natAbs) (k := 64) (by omega)).mpr h1
    omega⟩
  unfold sp__law_take rd__law_take
  rw [e_spb]
  refine ⟨rfl, ?_⟩
  refine seq_abs fun N hN => ?_
  have go' : ∀ ls' cs' r' t', N [some (.loc 1), some (.int m), none] (dw ls' cs' r' t' ++ T) := fun ls' cs' r' t' => by
    refine hN _ _ ?_
    walk_at "ev"
    refine ⟨hm, hdiv _, ?_⟩
    rw [frz_dr0 hD ⟨_, _, _, _, rfl⟩]
    exact q _ _ (Int.emod_nonneg _ (by omega)) (Int.emod_lt_of_pos _ hm) ⟨_, _, _, _, rfl⟩
  clear hN
  walk_at "ev"
  have g1 := go' ls cs r t
  cases h0 : decide (r = 0)
  · exact g1
  · rw [if_pos rfl]
    cases ls with
    | nil =>
      walk_at "ev"
      refine d_mixed hD fun r' S' h => ?_
      obtain ⟨ls', cs', r2, t2, rfl⟩ := h
      walk_at "ev"
      exact go' _ _ _ _
    | cons n ls =>
      walk_at "ev"
      exact go' _ _ _ _
--# _law_pick
theorem d_pick {T : Sto} {xs : List D} (h0 : xs ≠ []) (hl : xs.length < 2 ^ 64) (hD : DrawS T S) (hn : ∀ x ∈ xs, noLoc x) (q : ∀ x S', x ∈ xs → DrawS T S' → Q x S') : sp__law_pick [.loc 1, .lst xs] S Q Ex := by
  unfold sp__law_pick rd__law_pick
  have hp : 0 < xs.length := List.length_pos_iff.mpr h0
  walk_at "ev"
  refine d_take (by omega) (by omega) hD fun r S' h1 h2 h3 => ?_
  obtain ⟨k, rfl⟩ := Int.eq_ofNat_of_zero_le h1
  have hk : k < xs.length := by omega
  walk_at "ev"
  rw [List.getElem?_eq_getElem hk, oQ_s, frz_dr0 hD h3, hn _ (List.getElem_mem hk)]
  exact q _ _ (List.getElem_mem hk) h3
theorem d_pick_s {T : Sto} {xs : List Str} (h0 : xs ≠ []) (hl : xs.length < 2 ^ 64) (hD : DrawS T S) (q : ∀ x S', x ∈ xs → DrawS T S' → Q (.str x) S') : sp__law_pick [.loc 1, .lst (xs.map D.str)] S Q Ex := by
  refine d_pick (fun z => h0 (List.map_eq_nil_iff.mp z)) (by rw [List.length_map]; exact hl) hD (fun x hx => ?_) fun x S' hx hD' => ?_
  · obtain ⟨y, _, rfl⟩ := List.mem_map.mp hx
    exact noL_str
  · obtain ⟨y, hy, rfl⟩ := List.mem_map.mp hx
    exact q y S' hy hD'
theorem d_pick_i {T : Sto} {xs : List Int} (h0 : xs ≠ []) (hl : xs.length < 2 ^ 64) (hD : DrawS T S) (q : ∀ x S', x ∈ xs → DrawS T S' → Q (.int x) S') : sp__law_pick [.loc 1, .lst (xs.map D.int)] S Q Ex := by
  refine d_pick (fun z => h0 (List.map_eq_nil_iff.mp z)) (by rw [List.length_map]; exact hl) hD (fun x hx => ?_) fun x S' hx hD' => ?_
  · obtain ⟨y, _, rfl⟩ := List.mem_map.mp hx
    exact noL_int
  · obtain ⟨y, hy, rfl⟩ := List.mem_map.mp hx
    exact q y S' hy hD'
--# _law_shuffled
theorem eraseIdx_perm {α : Type} : ∀ {xs : List α} {k : Nat} {x : α}, xs[k]? = some x → (x :: xs.eraseIdx k).Perm xs
  | [], _, _, h => by simp at h
  | y :: ys, 0, x, h => by
    simp at h
    subst h
    exact .refl _
  | y :: ys, k + 1, x, h => by
    have := eraseIdx_perm (xs := ys) (k := k) (x := x) (by simpa using h)
    exact (List.Perm.swap y x _).trans (.cons y this)
theorem map_erase {xs : List Str} {k : Nat} : (xs.map D.str).eraseIdx k = (xs.eraseIdx k).map D.str := by
  induction xs generalizing k with
  | nil => rfl
  | cons x xs ih =>
    cases k with
    | zero => rfl
    | succ k =>
      show D.str x :: (xs.map D.str).eraseIdx k = _
      rw [ih]
      rfl
theorem d_shuffled {T : Sto} {xs : List Str} (hl : xs.length < 1000) (hok : ∀ x ∈ xs, PyData.strOk x = true) (hD : DrawS T S) (q : ∀ (ys : List Str) S', ys.Perm xs → DrawS T S' → Q (.lst (ys.map D.str)) S') : sp__law_shuffled [.loc 1, .lst (xs.map D.str)] S Q Ex := by
  unfold sp__law_shuffled rd__law_shuffled
  have e2 := sizeLine_eq
  have eL := hD.len
  walk_at "ev"
  refine while_abs (fun m ρ S' => ∃ left fnd S1, ρ = [some (.loc 1), some (.lst (xs.map D.str)), some (.loc S.length), some (.loc (S.length + 1))] ∧ S' = S1 ++ [.lst (left.map D.str), .lst (fnd.map D.str)] ∧ DrawS T S1 ∧ (fnd ++ left).Perm xs ∧ m = left.length) ⟨_, xs, [], S, rfl, rfl, hD, .refl _, rfl⟩ ?_
  rintro m ρ S' ⟨left, fnd, S1, rfl, rfl, hD1, hp, rfl⟩ N3 hN3
  have eL1 := hD1.len
  have el : S.length = S1.length := by omega
  have hf := frz_dr (L := [.lst (left.map D.str), .lst (fnd.map D.str)]) hD hD1
  rw [el] at hN3 ⊢
  have hokl : ∀ x ∈ left, PyData.strOk x = true := fun x hx => hok x (hp.mem_iff.mp (List.mem_append_right _ hx))
  have hko := ok_strs hokl
  have hpl := hp.length_eq
  rw [List.length_append] at hpl
  walk_at "ev"
  refine ⟨hko, ?_⟩
  cases h0 : decide (left = [])
  · have h0 := of_decide_eq_false h0
    have hp0 : 0 < left.length := List.length_pos_iff.mpr h0
    walk_at "ev"
    refine d_take (T := T ++ [.lst (left.map D.str), .lst (fnd.map D.str)]) (by omega) (by omega) hD1.app fun r S' h1 h2 h3 => ?_
    obtain ⟨S2, rfl, hD2⟩ := h3.cut
    obtain ⟨k, rfl⟩ := Int.eq_ofNat_of_zero_le h1
    have hk : k < left.length := by omega
    have el2 : S1.length = S2.length := by
      have := hD2.len
      omega
    rw [el2] at hN3 ⊢
    walk_at "ev"
    rw [ixN_nat hk, oQ_s, List.getElem?_map, List.getElem?_eq_getElem hk]
    walk_at "ev"
    rw [map_erase]
    refine hN3 (left.eraseIdx k).length _ _ ?_ ⟨left.eraseIdx k, fnd ++ [left[k]], S2, rfl, ?_, hD2, ?_, rfl⟩
    · rw [List.length_eraseIdx_of_lt hk]
      omega
    · rw [List.map_append]
      rfl
    · refine List.Perm.trans ?_ hp
      rw [List.append_assoc]
      exact List.Perm.append_left _ (eraseIdx_perm (List.getElem?_eq_getElem hk))
  · have h0 := of_decide_eq_true h0
    subst h0
    rw [List.append_nil] at hp
    walk_at "ev"
    rw [el]
    walk_at "ev"
    rw [show frzR S (S1 ++ [Ob.lst [], Ob.lst (List.map D.str fnd)]) = some S1 from hf]
    exact q _ _ hp hD1
--# _law_names_of
theorem d_names_of {T : Sto} {xs : List Str} {m : Nat} (hl : xs.length < 1000) (hok : ∀ x ∈ xs, PyData.strOk x = true) (hD : DrawS T S) (q : ∀ (ys : List Str) S', ys.Perm xs → DrawS T S' → Q (.lst ((ys.take m).map D.str)) S') : sp__law_names_of [.loc 1, .lst (xs.map D.str), .int (m : Nat)] S Q Ex := by
  unfold sp__law_names_of rd__law_names_of
  walk_at "ev"
  refine d_shuffled hl hok hD fun ys S' hp hD' => ?_
  walk_at "ev"
  rw [frz_dr0 hD hD']
  walk_at "ev"
  exact q _ _ hp hD'
--#
def ownN : List Str := ["ann", "bob", "cyd", "dan", "eve", "fay"]
def plN : List Str := ["boat", "chest", "desk", "inn", "jar", "kiln"]
theorem ownN_ok : ∀ x ∈ ownN, PyData.strOk x = true := by decide +kernel
theorem plN_ok : ∀ x ∈ plN, PyData.strOk x = true := by decide +kernel
--# _law_owners
theorem d_owners {T : Sto} {m : Nat} (hD : DrawS T S) (q : ∀ (ys : List Str) S', ys.Perm ownN → DrawS T S' → Q (.lst ((ys.take m).map D.str)) S') : sp__law_owners [.loc 1, .int (m : Nat)] S Q Ex := by
  unfold sp__law_owners rd__law_owners
  walk_at "ev"
  refine d_names_of (xs := ownN) (by decide) ownN_ok hD fun ys S' hp hD' => ?_
  walk_at "ev"
  rw [frz_dr0 hD hD']
  exact q _ _ hp hD'
--# _law_places
theorem d_places {T : Sto} {m : Nat} (hD : DrawS T S) (q : ∀ (ys : List Str) S', ys.Perm plN → DrawS T S' → Q (.lst ((ys.take m).map D.str)) S') : sp__law_places [.loc 1, .int (m : Nat)] S Q Ex := by
  unfold sp__law_places rd__law_places
  walk_at "ev"
  refine d_names_of (xs := plN) (by decide) plN_ok hD fun ys S' hp hD' => ?_
  walk_at "ev"
  rw [frz_dr0 hD hD']
  exact q _ _ hp hD'
--# _law_behind
theorem u__law_behind {bs : Bal} {e : En} (hl : bs.length ≤ 1000) (hm : e.mv = true → e.a ∈ bs.map (·.1)) : sp__law_behind [.dct (balK bs), e.d] S Q Ex = Q (.dct (balK (behB bs e))) S := by
  unfold sp__law_behind rd__law_behind
  have h1 := putB_len (bs := bs) (k := e.a) (v := getB bs e.a - e.n)
  walk_at "ev"
  unfold behB outB
  cases h : e.mv
  · rfl
  · rw [if_pos rfl, val_mem (hm h)]
    walk_at "ev"
local macro_rules | `(tactic| walk_at "ev") => `(tactic| try simp (maxSteps := 4000000) (dsimp := false) (implicitDefEqProofs := false) (disch := first | assumption | (show (_ : Nat) ≤ _; omega) | (show (_ : Int) ≤ _ ∧ _; omega)) only [↓u_neg, ↓e_lc, ↓e_lcB_if, ↓e_lcB_ifn, ↓e_lcB_t, ↓e_lcB_if2, ↓e_noG, ↓e_lc_nil, ↓e_lc_cons, ↓e_for_nil, ↓e_nx, ↓e_dc, ↓e_dcB_s, ↓e_rt, ↓e_rtF, ↓e_frzR, ↓e_frzR0, ↓e_xq, ↓e_sb_int, ↓e_sb_bl, ↓e_sb_str, ↓e_sb_non, ↓e_sb_scr, ↓e_sb_loc, ↓e_sb_tup, ↓e_sb_ktp, ↓e_sb_lst, ↓e_sb_dct, ↓e_sb_dcT, ↓e_sbL_nil, ↓e_sbK_nil, ↓e_sbL_cons, ↓e_sbL_ints, ↓e_sbL_strs, ↓e_sbL_bls, ↓e_frz_l0, ↓e_frz_d0, ↓e_frz_l1, ↓e_frz_d1, ↓e_frz_l2, ↓e_asS_tup, ↓e_asS_ktp, ↓e_asS_lst, ↓e_asS_scr, ↓e_asS_int, ↓e_asS_non, ↓e_asS_bl, ↓e_asS_str, ↓e_asS_dct, ↓e_asD_dct, ↓e_asD_int, ↓e_asD_str, ↓e_asD_lst, ↓e_asD_tup, ↓e_asDT_str, ↓e_asL_lst, ↓e_asL_tup, ↓e_asL_ktp, ↓e_asL_dct, ↓e_asL_int, ↓e_asL_bl, ↓e_asL_str, ↓e_asL_non, ↓e_asL_loc, ↓e_asS_loc, ↓e_asD_loc, ↓e_obL_s, ↓e_obL_d, ↓e_obD_s, ↓e_obD_l, ↓e_asK_str, ↓e_asK_int, ↓e_asI_int, ↓e_asTK_tup, ↓e_asTK_ktp, ↓e_asLoc_loc, ↓e_lstOf_lst, ↓e_lstOf_tup, ↓e_itOf_tup, ↓e_itOf_ktp, ↓e_itOf_lst, ↓e_itOf_scr, ↓e_itOf_str, ↓e_alL_f, ↓e_alL_t, ↓e_alD_f, ↓e_alD_t, ↓e_kn_bool, ↓e_kn_int, ↓e_kn_str, ↓e_kn_tuple, ↓e_kn_list, ↓e_kn_dict, ↓e_su_ib, ↓e_su_ii, ↓e_su_ss, ↓e_su_tt, ↓e_sz0, ↓e_sz1, ↓e_sz2, ↓e_sz3, ↓e_sz4, ↓e_sz5, ↓e_sz6, ↓e_sz7, ↓e_sz8, ↓e_sz9, ↓e_sz10, ↓e_sz11, ↓e_sz12, ↓e_app, ↓e_iteT, ↓e_iteF, ↓e_new_len, ↓e_new_len2, ↓e_new_two, ↓e_new_three, ↓e_len_map, ↓e_asBls, ↓e_asStrs, ↓e_asInts, ↓e_asStrs0, ↓e_asInts0, ↓e_asBls0, ↓e_all_id, ↓e_any_id, ↓e_sum, ↓e_all, ↓e_any, ↓e_max1l, ↓e_min1l, ↓e_max2, ↓e_min2, ↓e_ixN0, ↓e_bv_loc, ↓e_bvO_l, ↓e_bvO_d, ↓e_eq_nn, ↓e_eq_cn, ↓e_ok_intsL, ↓e_onB, ↓e_oQ_map, ↓e_inT, ↓e_inK, ↓e_inL, ↓e_ninT, ↓e_ninL, ↓e_setS, ↓e_in1, ↓e_chr_len, ↓e_take_map, ↓e_drop_map, ↓e_rev_map, ↓e_app_map, ↓e_eqTT, ↓e_eqLL, ↓e_eqL_nil, ↓e_eqL_cons, ↓e_eqL_nc, ↓e_eqL_cn, ↓e_eqL_strs, ↓e_eqL_ints, ↓e_eqL_m0, ↓e_eqL0, ↓e_eqT0, ↓e_wSkip, ↓e_wSeq, ↓e_wDrop, ↓e_wRet, ↓e_wRetN, ↓e_wBrk, ↓e_wCnt, ↓e_wIfS, ↓e_wSet, ↓e_wTup, ↓e_tg_nm, ↓e_tg_tp, ↓e_setAll_n, ↓e_setAll_c, ↓e_vQ, ↓e_wVar, ↓e_wC, ↓e_wNil, ↓e_wCons, ↓e_wB1, ↓e_wB2, ↓e_wAnd, ↓e_wOr, ↓e_wNot, ↓e_wIf, ↓e_wB, ↓e_wChain, ↓e_wAndV, ↓e_wOrV, ↓e_wNotV, ↓e_wP, ↓e_wGet2, ↓e_getQ_d, ↓e_getQ_l, ↓e_getO_d, ↓e_getO_t, ↓e_wSl, ↓e_wM, ↓e_pop, ↓e_popi, ↓e_wCall, ↓e_wCallK, ↓e_wLc, ↓e_wDc, ↓e_wSeqI, ↓e_wRng1, ↓e_wRng2, ↓e_wEnum, ↓e_enumI, ↓e_wZip, ↓e_wFor, ↓e_wYes, ↓e_wPut, ↓e_wDisp, ↓e_disp_n, ↓e_disp_c, ↓e_wRaise, ↓e_wDict0, ↓e_spb, ↓e_c0, ↓e_c1, ↓e_c2, ↓e_c3, ↓e_c4, ↓e_c5, ↓e_c6, ↓e_c7, ↓e_c8, ↓e_add_i, ↓e_add_s, ↓e_add_t, ↓e_add_l, ↓e_sub_i, ↓e_mul_i, ↓e_mul_l, ↓e_fdiv_i, ↓e_mod_i, ↓e_pow_i, ↓e_neg_i, ↓e_lt_i, ↓e_lt_s, ↓e_le_i, ↓e_gt_i, ↓e_ge_i, ↓e_is_n, ↓e_is_b, ↓e_isN_n, ↓e_isN_b, ↓e_isNon_n, ↓e_isNon_i, ↓e_isNon_s, ↓e_isNon_t, ↓e_isNon_l, ↓e_isNon_b, ↓e_ix_t, ↓e_ix_k, ↓e_ix_l, ↓e_ix_ds, ↓e_ix_di, ↓e_ix_s, ↓e_obDT_l, ↓e_obDT_d, ↓e_obDT_t, ↓e_obD_t, ↓e_obL_t, ↓e_ix_loc, ↓e_ixO_l, ↓e_ixO_d, ↓e_ixO_t, ↓e_len_loc, ↓e_lenO_l, ↓e_lenO_d, ↓e_lenO_t, ↓e_tuple_loc, ↓e_list_loc, ↓e_listO_l, ↓e_listO_d, ↓e_list_d, ↓e_add_ll, ↓e_sl_loc, ↓e_tup, ↓e_lst, ↓e_len_t, ↓e_len_k, ↓e_len_l, ↓e_len_d, ↓e_len_r, ↓e_len_s, ↓e_abs, ↓e_int_i, ↓e_int_b, ↓e_tuple_t, ↓e_tuple_l, ↓e_list_t, ↓e_list_l, ↓e_dict_d, ↓e_dict_l, ↓e_sorted_l, ↓e_isi, ↓e_ty_n, ↓e_ty_b, ↓e_ty_i, ↓e_ty_s, ↓e_ty_t, ↓e_ty_l, ↓e_ty_d, ↓e_sl_t, ↓e_sl_l, ↓e_rev_t, ↓e_rev_l, ↓e_cut_to1, ↓e_cut_from1, ↓e_cut_to, ↓e_cut_from, ↓e_wopt_n, ↓e_intQ, ↓e_wopt_s, ↓e_blQ, ↓e_wT, ↓e_putD0, ↓e_putD1, ↓e_putL0, ↓e_putL1, ↓e_setS_f, ↓e_setS_a, ↓e_wd_in, ↓e_wd_mv, ↓e_ok_wd, ↓e_ok_in, ↓e_ok_move, ↓e_en_S, ↓e_en_TK, ↓e_en_L, ↓e_en_ty, ↓e_en_bv, ↓e_en_sb, ↓e_ens_sb, ↓e_bal_sb, ↓e_bals_sb, ↓e_en_isNon, ↓e_en_ix0, ↓e_en_ix1, ↓e_en_ix2, ↓e_en_ix3, ↓e_own, ↓e_pl, ↓e_eqL_ens, ↓e_getD_bal, ↓e_put_bal, ↓e_balK_len, ↓e_getput, ↓e_sorted_bal, ↓e_asS_dw, ↓e_asD_dw, ↓e_v_large, ↓e_v_cells, ↓e_v_rest, ↓e_v_turn, ↓e_dw_0, ↓e_dw_1, ↓e_dw_set0, ↓e_put_rest, ↓e_put_turn, ↓u_is_number, ↓u_is_wordT, ↓u_is_word1, ↓u_is_word2, ↓u_is_row, ↓u_is_row_en, ↓u_is_name, ↓u_are_ascending, ↓u_is_lot_of, ↓u_owners_in, ↓u_places_in, ↓u_came_of, ↓u_behind, ↓u_is_entry, ↓e_zero_pl, ↓e_walk_last, ↓e_walk_len, ↓u_balances_of, ↓u_is_ledger, ↓u_check_ledger, ↓u_owners_of, ↓u_places_of, ↓u_check_some, ↓u_check_where, ↓u_check_place, ↓u_check_moment, ↓u_others_of, ↓e_bals_last, ↓u_lying_at_end, ↓e_led_sb, ↓u_owners, ↓u_places, ↓u_others, ↓u_balance, ↓u_lying, ↓u_came, ↓u_begun, ↓e_c18, ↓u__law_behind, ↓reduceIte, ↓oQ_s, startD, permL, List.map_cons, List.map_nil, List.length_cons, List.length_nil, List.replicate, List.getElem?_cons_succ, List.getElem?_cons_zero, List.cons_append, List.nil_append, List.set_cons_succ, List.set_cons_zero, Nat.reduceAdd, Nat.reduceSub, Nat.reduceEqDiff, wipeD, List.filterMap_cons, List.filterMap_nil, List.length_range, List.getElem?_map, Int.zero_add, List.length_map, List.eraseIdx_cons_zero, Bool.and_true, Bool.true_and, Bool.and_false, Bool.false_and, oQ_s, oQ_n, if_t, if_f, dEq, dNe, bv_int, bv_bl, bv_str, bv_tup, bv_lst, bv_non, eqD_int, eqD_str, eqD_bl, atI0, atI1, atI2, atI3, atI4, atI_nat, atI_nat', atI_succ, ok_int, ok_bl, ok_nil, sto_at, sto_at0, sto_set, sto_set0, Option.isSome_some, Option.isSome_none, Bool.false_eq_true, or_false, false_or, true_or, or_true, Option.map_some, Option.map_none, true_and, and_true, false_and, and_false, Bool.not_true, Bool.not_false, reduceIte, decide_true, decide_false, Bool.decide_eq_true, Bool.decide_eq_false, Bool.not_not, eq_self, reduceCtorEq, Int.reduceEq, Int.reduceLT, Int.reduceLE, u_neg, e_lc, e_lcB_if, e_lcB_ifn, e_lcB_t, e_lcB_if2, e_noG, e_lc_nil, e_lc_cons, e_for_nil, e_nx, e_dc, e_dcB_s, e_rt, e_rtF, e_frzR, e_frzR0, e_xq, e_sb_int, e_sb_bl, e_sb_str, e_sb_non, e_sb_scr, e_sb_loc, e_sb_tup, e_sb_ktp, e_sb_lst, e_sb_dct, e_sb_dcT, e_sbL_nil, e_sbK_nil, e_sbL_cons, e_sbL_ints, e_sbL_strs, e_sbL_bls, e_frz_l0, e_frz_d0, e_frz_l1, e_frz_d1, e_frz_l2, e_asS_tup, e_asS_ktp, e_asS_lst, e_asS_scr, e_asS_int, e_asS_non, e_asS_bl, e_asS_str, e_asS_dct, e_asD_dct, e_asD_int, e_asD_str, e_asD_lst, e_asD_tup, e_asDT_str, e_asL_lst, e_asL_tup, e_asL_ktp, e_asL_dct, e_asL_int, e_asL_bl, e_asL_str, e_asL_non, e_asL_loc, e_asS_loc, e_asD_loc, e_obL_s, e_obL_d, e_obD_s, e_obD_l, e_asK_str, e_asK_int, e_asI_int, e_asTK_tup, e_asTK_ktp, e_asLoc_loc, e_lstOf_lst, e_lstOf_tup, e_itOf_tup, e_itOf_ktp, e_itOf_lst, e_itOf_scr, e_itOf_str, e_alL_f, e_alL_t, e_alD_f, e_alD_t, e_kn_bool, e_kn_int, e_kn_str, e_kn_tuple, e_kn_list, e_kn_dict, e_su_ib, e_su_ii, e_su_ss, e_su_tt, e_sz0, e_sz1, e_sz2, e_sz3, e_sz4, e_sz5, e_sz6, e_sz7, e_sz8, e_sz9, e_sz10, e_sz11, e_sz12, e_app, e_iteT, e_iteF, e_new_len, e_new_len2, e_new_two, e_new_three, e_len_map, e_asBls, e_asStrs, e_asInts, e_asStrs0, e_asInts0, e_asBls0, e_all_id, e_any_id, e_sum, e_all, e_any, e_max1l, e_min1l, e_max2, e_min2, e_ixN0, e_bv_loc, e_bvO_l, e_bvO_d, e_eq_nn, e_eq_cn, e_ok_intsL, e_onB, e_oQ_map, e_inT, e_inK, e_inL, e_ninT, e_ninL, e_setS, e_in1, e_chr_len, ec_oQh, e_take_map, e_drop_map, e_rev_map, e_app_map, e_eqTT, e_eqLL, e_eqL_nil, e_eqL_cons, e_eqL_nc, e_eqL_cn, e_eqL_strs, e_eqL_ints, e_eqL_m0, e_eqL0, e_eqT0, e_wSkip, e_wSeq, e_wDrop, e_wRet, e_wRetN, e_wBrk, e_wCnt, e_wIfS, e_wSet, e_wTup, e_tg_nm, e_tg_tp, e_setAll_n, e_setAll_c, e_vQ, e_wVar, e_wC, e_wNil, e_wCons, e_wB1, e_wB2, e_wAnd, e_wOr, e_wNot, e_wIf, e_wB, e_wChain, e_wAndV, e_wOrV, e_wNotV, e_wP, e_wGet2, e_getQ_d, e_getQ_l, e_getO_d, e_getO_t, e_wSl, e_wM, e_pop, e_popi, e_wCall, e_wCallK, e_wLc, e_wDc, e_wSeqI, e_wRng1, e_wRng2, e_wEnum, e_enumI, e_wZip, e_wFor, e_wYes, e_wPut, e_wDisp, e_disp_n, e_disp_c, e_wRaise, e_wDict0, e_spb, e_c0, e_c1, e_c2, e_c3, e_c4, e_c5, e_c6, e_c7, e_c8, e_add_i, e_add_s, e_add_t, e_add_l, e_sub_i, e_mul_i, e_mul_l, e_fdiv_i, e_mod_i, e_pow_i, e_neg_i, e_lt_i, e_lt_s, e_le_i, e_gt_i, e_ge_i, e_is_n, e_is_b, e_isN_n, e_isN_b, e_isNon_n, e_isNon_i, e_isNon_s, e_isNon_t, e_isNon_l, e_isNon_b, e_ix_t, e_ix_k, e_ix_l, e_ix_ds, e_ix_di, e_ix_s, e_obDT_l, e_obDT_d, e_obDT_t, e_obD_t, e_obL_t, e_ix_loc, e_ixO_l, e_ixO_d, e_ixO_t, e_len_loc, e_lenO_l, e_lenO_d, e_lenO_t, e_tuple_loc, e_list_loc, e_listO_l, e_listO_d, e_list_d, e_add_ll, e_sl_loc, e_tup, e_lst, e_len_t, e_len_k, e_len_l, e_len_d, e_len_r, e_len_s, e_abs, e_int_i, e_int_b, e_tuple_t, e_tuple_l, e_list_t, e_list_l, e_dict_d, e_dict_l, e_sorted_l, e_isi, e_ty_n, e_ty_b, e_ty_i, e_ty_s, e_ty_t, e_ty_l, e_ty_d, e_sl_t, e_sl_l, e_rev_t, e_rev_l, e_cut_to1, e_cut_from1, e_cut_to, e_cut_from, ec_ok_str, ec_szle, ec_szlt, ec_rng1, ec_rng2, e_wopt_n, e_intQ, e_wopt_s, e_blQ, e_wT, e_putD0, e_putD1, e_putL0, e_putL1, e_setS_f, e_setS_a, e_wd_in, e_wd_mv, e_ok_wd, e_ok_in, e_ok_move, e_en_S, e_en_TK, e_en_L, e_en_ty, e_en_bv, e_en_sb, e_ens_sb, e_bal_sb, e_bals_sb, e_en_isNon, e_en_ix0, e_en_ix1, e_en_ix2, e_en_ix3, e_own, e_pl, ec_own64, ec_pl64, ec_es_sz, e_eqL_ens, e_getD_bal, e_put_bal, e_balK_len, ec_val_mem, e_getput, e_sorted_bal, e_asS_dw, e_asD_dw, e_v_large, e_v_cells, e_v_rest, e_v_turn, e_dw_0, e_dw_1, e_dw_set0, e_put_rest, e_put_turn, u_is_number, u_is_wordT, u_is_word1, u_is_word2, u_is_row, u_is_row_en, u_is_name, u_are_ascending, u_is_lot_of, u_owners_in, u_places_in, u_came_of, u_behind, u_is_entry, e_zero_pl, e_walk_last, e_walk_len, ec_ok_ens, ec_ok_led, ec_ok_pl, ec_ok_own, ec_ok_plT, ec_ok_ownT, ec_minV_bal, u_balances_of, u_is_ledger, u_check_ledger, u_owners_of, u_places_of, u_check_some, u_check_where, u_check_place, u_check_moment, u_others_of, e_bals_last, u_lying_at_end, e_led_sb, u_owners, u_places, u_others, u_balance, u_lying, u_came, u_begun, e_c18, u__law_behind])

--# _law_owners_of
theorem u__law_owners_of {es : List En} (hO : OkEs es) : sp__law_owners_of [.tup [.str "ledger", .tup (es.map En.d)]] S Q Ex = Q (.tup ((ownS es).map D.str)) S := by
  unfold sp__law_owners_of rd__law_owners_of
  have h1 := hO.len
  have h2 := filt_len (p := fun e : En => !e.mv) (xs := es)
  walk_at "ev"
  have h3 : ((es.filter fun e => !e.mv).length < 4000) = True := eq_true (by omega)
  simp only [h3, true_and]
--# _law_places_of
theorem u__law_places_of {es : List En} (hO : OkEs es) : sp__law_places_of [.tup [.str "ledger", .tup (es.map En.d)]] S Q Ex = Q (.tup ((plS es).map D.str)) S := by
  unfold sp__law_places_of rd__law_places_of
  have h1 := hO.len
  have h2 := filt_len (p := En.mv) (xs := es)
  walk_at "ev"
  have h3 : (es.length + (es.filter En.mv).length < 4000) = True := eq_true (by omega)
  simp only [List.length_append, List.length_map, h3, true_and]
local macro_rules | `(tactic| walk_at "ev") => `(tactic| try simp (maxSteps := 4000000) (dsimp := false) (implicitDefEqProofs := false) (disch := first | assumption | (show (_ : Nat) ≤ _; omega) | (show (_ : Int) ≤ _ ∧ _; omega)) only [↓u_neg, ↓e_lc, ↓e_lcB_if, ↓e_lcB_ifn, ↓e_lcB_t, ↓e_lcB_if2, ↓e_noG, ↓e_lc_nil, ↓e_lc_cons, ↓e_for_nil, ↓e_nx, ↓e_dc, ↓e_dcB_s, ↓e_rt, ↓e_rtF, ↓e_frzR, ↓e_frzR0, ↓e_xq, ↓e_sb_int, ↓e_sb_bl, ↓e_sb_str, ↓e_sb_non, ↓e_sb_scr, ↓e_sb_loc, ↓e_sb_tup, ↓e_sb_ktp, ↓e_sb_lst, ↓e_sb_dct, ↓e_sb_dcT, ↓e_sbL_nil, ↓e_sbK_nil, ↓e_sbL_cons, ↓e_sbL_ints, ↓e_sbL_strs, ↓e_sbL_bls, ↓e_frz_l0, ↓e_frz_d0, ↓e_frz_l1, ↓e_frz_d1, ↓e_frz_l2, ↓e_asS_tup, ↓e_asS_ktp, ↓e_asS_lst, ↓e_asS_scr, ↓e_asS_int, ↓e_asS_non, ↓e_asS_bl, ↓e_asS_str, ↓e_asS_dct, ↓e_asD_dct, ↓e_asD_int, ↓e_asD_str, ↓e_asD_lst, ↓e_asD_tup, ↓e_asDT_str, ↓e_asL_lst, ↓e_asL_tup, ↓e_asL_ktp, ↓e_asL_dct, ↓e_asL_int, ↓e_asL_bl, ↓e_asL_str, ↓e_asL_non, ↓e_asL_loc, ↓e_asS_loc, ↓e_asD_loc, ↓e_obL_s, ↓e_obL_d, ↓e_obD_s, ↓e_obD_l, ↓e_asK_str, ↓e_asK_int, ↓e_asI_int, ↓e_asTK_tup, ↓e_asTK_ktp, ↓e_asLoc_loc, ↓e_lstOf_lst, ↓e_lstOf_tup, ↓e_itOf_tup, ↓e_itOf_ktp, ↓e_itOf_lst, ↓e_itOf_scr, ↓e_itOf_str, ↓e_alL_f, ↓e_alL_t, ↓e_alD_f, ↓e_alD_t, ↓e_kn_bool, ↓e_kn_int, ↓e_kn_str, ↓e_kn_tuple, ↓e_kn_list, ↓e_kn_dict, ↓e_su_ib, ↓e_su_ii, ↓e_su_ss, ↓e_su_tt, ↓e_sz0, ↓e_sz1, ↓e_sz2, ↓e_sz3, ↓e_sz4, ↓e_sz5, ↓e_sz6, ↓e_sz7, ↓e_sz8, ↓e_sz9, ↓e_sz10, ↓e_sz11, ↓e_sz12, ↓e_app, ↓e_iteT, ↓e_iteF, ↓e_new_len, ↓e_new_len2, ↓e_new_two, ↓e_new_three, ↓e_len_map, ↓e_asBls, ↓e_asStrs, ↓e_asInts, ↓e_asStrs0, ↓e_asInts0, ↓e_asBls0, ↓e_all_id, ↓e_any_id, ↓e_sum, ↓e_all, ↓e_any, ↓e_max1l, ↓e_min1l, ↓e_max2, ↓e_min2, ↓e_ixN0, ↓e_bv_loc, ↓e_bvO_l, ↓e_bvO_d, ↓e_eq_nn, ↓e_eq_cn, ↓e_ok_intsL, ↓e_onB, ↓e_oQ_map, ↓e_inT, ↓e_inK, ↓e_inL, ↓e_ninT, ↓e_ninL, ↓e_setS, ↓e_in1, ↓e_chr_len, ↓e_take_map, ↓e_drop_map, ↓e_rev_map, ↓e_app_map, ↓e_eqTT, ↓e_eqLL, ↓e_eqL_nil, ↓e_eqL_cons, ↓e_eqL_nc, ↓e_eqL_cn, ↓e_eqL_strs, ↓e_eqL_ints, ↓e_eqL_m0, ↓e_eqL0, ↓e_eqT0, ↓e_wSkip, ↓e_wSeq, ↓e_wDrop, ↓e_wRet, ↓e_wRetN, ↓e_wBrk, ↓e_wCnt, ↓e_wIfS, ↓e_wSet, ↓e_wTup, ↓e_tg_nm, ↓e_tg_tp, ↓e_setAll_n, ↓e_setAll_c, ↓e_vQ, ↓e_wVar, ↓e_wC, ↓e_wNil, ↓e_wCons, ↓e_wB1, ↓e_wB2, ↓e_wAnd, ↓e_wOr, ↓e_wNot, ↓e_wIf, ↓e_wB, ↓e_wChain, ↓e_wAndV, ↓e_wOrV, ↓e_wNotV, ↓e_wP, ↓e_wGet2, ↓e_getQ_d, ↓e_getQ_l, ↓e_getO_d, ↓e_getO_t, ↓e_wSl, ↓e_wM, ↓e_pop, ↓e_popi, ↓e_wCall, ↓e_wCallK, ↓e_wLc, ↓e_wDc, ↓e_wSeqI, ↓e_wRng1, ↓e_wRng2, ↓e_wEnum, ↓e_enumI, ↓e_wZip, ↓e_wFor, ↓e_wYes, ↓e_wPut, ↓e_wDisp, ↓e_disp_n, ↓e_disp_c, ↓e_wRaise, ↓e_wDict0, ↓e_spb, ↓e_c0, ↓e_c1, ↓e_c2, ↓e_c3, ↓e_c4, ↓e_c5, ↓e_c6, ↓e_c7, ↓e_c8, ↓e_add_i, ↓e_add_s, ↓e_add_t, ↓e_add_l, ↓e_sub_i, ↓e_mul_i, ↓e_mul_l, ↓e_fdiv_i, ↓e_mod_i, ↓e_pow_i, ↓e_neg_i, ↓e_lt_i, ↓e_lt_s, ↓e_le_i, ↓e_gt_i, ↓e_ge_i, ↓e_is_n, ↓e_is_b, ↓e_isN_n, ↓e_isN_b, ↓e_isNon_n, ↓e_isNon_i, ↓e_isNon_s, ↓e_isNon_t, ↓e_isNon_l, ↓e_isNon_b, ↓e_ix_t, ↓e_ix_k, ↓e_ix_l, ↓e_ix_ds, ↓e_ix_di, ↓e_ix_s, ↓e_obDT_l, ↓e_obDT_d, ↓e_obDT_t, ↓e_obD_t, ↓e_obL_t, ↓e_ix_loc, ↓e_ixO_l, ↓e_ixO_d, ↓e_ixO_t, ↓e_len_loc, ↓e_lenO_l, ↓e_lenO_d, ↓e_lenO_t, ↓e_tuple_loc, ↓e_list_loc, ↓e_listO_l, ↓e_listO_d, ↓e_list_d, ↓e_add_ll, ↓e_sl_loc, ↓e_tup, ↓e_lst, ↓e_len_t, ↓e_len_k, ↓e_len_l, ↓e_len_d, ↓e_len_r, ↓e_len_s, ↓e_abs, ↓e_int_i, ↓e_int_b, ↓e_tuple_t, ↓e_tuple_l, ↓e_list_t, ↓e_list_l, ↓e_dict_d, ↓e_dict_l, ↓e_sorted_l, ↓e_isi, ↓e_ty_n, ↓e_ty_b, ↓e_ty_i, ↓e_ty_s, ↓e_ty_t, ↓e_ty_l, ↓e_ty_d, ↓e_sl_t, ↓e_sl_l, ↓e_rev_t, ↓e_rev_l, ↓e_cut_to1, ↓e_cut_from1, ↓e_cut_to, ↓e_cut_from, ↓e_wopt_n, ↓e_intQ, ↓e_wopt_s, ↓e_blQ, ↓e_wT, ↓e_putD0, ↓e_putD1, ↓e_putL0, ↓e_putL1, ↓e_setS_f, ↓e_setS_a, ↓e_wd_in, ↓e_wd_mv, ↓e_ok_wd, ↓e_ok_in, ↓e_ok_move, ↓e_en_S, ↓e_en_TK, ↓e_en_L, ↓e_en_ty, ↓e_en_bv, ↓e_en_sb, ↓e_ens_sb, ↓e_bal_sb, ↓e_bals_sb, ↓e_en_isNon, ↓e_en_ix0, ↓e_en_ix1, ↓e_en_ix2, ↓e_en_ix3, ↓e_own, ↓e_pl, ↓e_eqL_ens, ↓e_getD_bal, ↓e_put_bal, ↓e_balK_len, ↓e_getput, ↓e_sorted_bal, ↓e_asS_dw, ↓e_asD_dw, ↓e_v_large, ↓e_v_cells, ↓e_v_rest, ↓e_v_turn, ↓e_dw_0, ↓e_dw_1, ↓e_dw_set0, ↓e_put_rest, ↓e_put_turn, ↓u_is_number, ↓u_is_wordT, ↓u_is_word1, ↓u_is_word2, ↓u_is_row, ↓u_is_row_en, ↓u_is_name, ↓u_are_ascending, ↓u_is_lot_of, ↓u_owners_in, ↓u_places_in, ↓u_came_of, ↓u_behind, ↓u_is_entry, ↓e_zero_pl, ↓e_walk_last, ↓e_walk_len, ↓u_balances_of, ↓u_is_ledger, ↓u_check_ledger, ↓u_owners_of, ↓u_places_of, ↓u_check_some, ↓u_check_where, ↓u_check_place, ↓u_check_moment, ↓u_others_of, ↓e_bals_last, ↓u_lying_at_end, ↓e_led_sb, ↓u_owners, ↓u_places, ↓u_others, ↓u_balance, ↓u_lying, ↓u_came, ↓u_begun, ↓e_c18, ↓u__law_behind, ↓u__law_owners_of, ↓u__law_places_of, ↓reduceIte, ↓oQ_s, startD, permL, List.map_cons, List.map_nil, List.length_cons, List.length_nil, List.replicate, List.getElem?_cons_succ, List.getElem?_cons_zero, List.cons_append, List.nil_append, List.set_cons_succ, List.set_cons_zero, Nat.reduceAdd, Nat.reduceSub, Nat.reduceEqDiff, wipeD, List.filterMap_cons, List.filterMap_nil, List.length_range, List.getElem?_map, Int.zero_add, List.length_map, List.eraseIdx_cons_zero, Bool.and_true, Bool.true_and, Bool.and_false, Bool.false_and, oQ_s, oQ_n, if_t, if_f, dEq, dNe, bv_int, bv_bl, bv_str, bv_tup, bv_lst, bv_non, eqD_int, eqD_str, eqD_bl, atI0, atI1, atI2, atI3, atI4, atI_nat, atI_nat', atI_succ, ok_int, ok_bl, ok_nil, sto_at, sto_at0, sto_set, sto_set0, Option.isSome_some, Option.isSome_none, Bool.false_eq_true, or_false, false_or, true_or, or_true, Option.map_some, Option.map_none, true_and, and_true, false_and, and_false, Bool.not_true, Bool.not_false, reduceIte, decide_true, decide_false, Bool.decide_eq_true, Bool.decide_eq_false, Bool.not_not, eq_self, reduceCtorEq, Int.reduceEq, Int.reduceLT, Int.reduceLE, u_neg, e_lc, e_lcB_if, e_lcB_ifn, e_lcB_t, e_lcB_if2, e_noG, e_lc_nil, e_lc_cons, e_for_nil, e_nx, e_dc, e_dcB_s, e_rt, e_rtF, e_frzR, e_frzR0, e_xq, e_sb_int, e_sb_bl, e_sb_str, e_sb_non, e_sb_scr, e_sb_loc, e_sb_tup, e_sb_ktp, e_sb_lst, e_sb_dct, e_sb_dcT, e_sbL_nil, e_sbK_nil, e_sbL_cons, e_sbL_ints, e_sbL_strs, e_sbL_bls, e_frz_l0, e_frz_d0, e_frz_l1, e_frz_d1, e_frz_l2, e_asS_tup, e_asS_ktp, e_asS_lst, e_asS_scr, e_asS_int, e_asS_non, e_asS_bl, e_asS_str, e_asS_dct, e_asD_dct, e_asD_int, e_asD_str, e_asD_lst, e_asD_tup, e_asDT_str, e_asL_lst, e_asL_tup, e_asL_ktp, e_asL_dct, e_asL_int, e_asL_bl, e_asL_str, e_asL_non, e_asL_loc, e_asS_loc, e_asD_loc, e_obL_s, e_obL_d, e_obD_s, e_obD_l, e_asK_str, e_asK_int, e_asI_int, e_asTK_tup, e_asTK_ktp, e_asLoc_loc, e_lstOf_lst, e_lstOf_tup, e_itOf_tup, e_itOf_ktp, e_itOf_lst, e_itOf_scr, e_itOf_str, e_alL_f, e_alL_t, e_alD_f, e_alD_t, e_kn_bool, e_kn_int, e_kn_str, e_kn_tuple, e_kn_list, e_kn_dict, e_su_ib, e_su_ii, e_su_ss, e_su_tt, e_sz0, e_sz1, e_sz2, e_sz3, e_sz4, e_sz5, e_sz6, e_sz7, e_sz8, e_sz9, e_sz10, e_sz11, e_sz12, e_app, e_iteT, e_iteF, e_new_len, e_new_len2, e_new_two, e_new_three, e_len_map, e_asBls, e_asStrs, e_asInts, e_asStrs0, e_asInts0, e_asBls0, e_all_id, e_any_id, e_sum, e_all, e_any, e_max1l, e_min1l, e_max2, e_min2, e_ixN0, e_bv_loc, e_bvO_l, e_bvO_d, e_eq_nn, e_eq_cn, e_ok_intsL, e_onB, e_oQ_map, e_inT, e_inK, e_inL, e_ninT, e_ninL, e_setS, e_in1, e_chr_len, ec_oQh, e_take_map, e_drop_map, e_rev_map, e_app_map, e_eqTT, e_eqLL, e_eqL_nil, e_eqL_cons, e_eqL_nc, e_eqL_cn, e_eqL_strs, e_eqL_ints, e_eqL_m0, e_eqL0, e_eqT0, e_wSkip, e_wSeq, e_wDrop, e_wRet, e_wRetN, e_wBrk, e_wCnt, e_wIfS, e_wSet, e_wTup, e_tg_nm, e_tg_tp, e_setAll_n, e_setAll_c, e_vQ, e_wVar, e_wC, e_wNil, e_wCons, e_wB1, e_wB2, e_wAnd, e_wOr, e_wNot, e_wIf, e_wB, e_wChain, e_wAndV, e_wOrV, e_wNotV, e_wP, e_wGet2, e_getQ_d, e_getQ_l, e_getO_d, e_getO_t, e_wSl, e_wM, e_pop, e_popi, e_wCall, e_wCallK, e_wLc, e_wDc, e_wSeqI, e_wRng1, e_wRng2, e_wEnum, e_enumI, e_wZip, e_wFor, e_wYes, e_wPut, e_wDisp, e_disp_n, e_disp_c, e_wRaise, e_wDict0, e_spb, e_c0, e_c1, e_c2, e_c3, e_c4, e_c5, e_c6, e_c7, e_c8, e_add_i, e_add_s, e_add_t, e_add_l, e_sub_i, e_mul_i, e_mul_l, e_fdiv_i, e_mod_i, e_pow_i, e_neg_i, e_lt_i, e_lt_s, e_le_i, e_gt_i, e_ge_i, e_is_n, e_is_b, e_isN_n, e_isN_b, e_isNon_n, e_isNon_i, e_isNon_s, e_isNon_t, e_isNon_l, e_isNon_b, e_ix_t, e_ix_k, e_ix_l, e_ix_ds, e_ix_di, e_ix_s, e_obDT_l, e_obDT_d, e_obDT_t, e_obD_t, e_obL_t, e_ix_loc, e_ixO_l, e_ixO_d, e_ixO_t, e_len_loc, e_lenO_l, e_lenO_d, e_lenO_t, e_tuple_loc, e_list_loc, e_listO_l, e_listO_d, e_list_d, e_add_ll, e_sl_loc, e_tup, e_lst, e_len_t, e_len_k, e_len_l, e_len_d, e_len_r, e_len_s, e_abs, e_int_i, e_int_b, e_tuple_t, e_tuple_l, e_list_t, e_list_l, e_dict_d, e_dict_l, e_sorted_l, e_isi, e_ty_n, e_ty_b, e_ty_i, e_ty_s, e_ty_t, e_ty_l, e_ty_d, e_sl_t, e_sl_l, e_rev_t, e_rev_l, e_cut_to1, e_cut_from1, e_cut_to, e_cut_from, ec_ok_str, ec_szle, ec_szlt, ec_rng1, ec_rng2, e_wopt_n, e_intQ, e_wopt_s, e_blQ, e_wT, e_putD0, e_putD1, e_putL0, e_putL1, e_setS_f, e_setS_a, e_wd_in, e_wd_mv, e_ok_wd, e_ok_in, e_ok_move, e_en_S, e_en_TK, e_en_L, e_en_ty, e_en_bv, e_en_sb, e_ens_sb, e_bal_sb, e_bals_sb, e_en_isNon, e_en_ix0, e_en_ix1, e_en_ix2, e_en_ix3, e_own, e_pl, ec_own64, ec_pl64, ec_es_sz, e_eqL_ens, e_getD_bal, e_put_bal, e_balK_len, ec_val_mem, e_getput, e_sorted_bal, e_asS_dw, e_asD_dw, e_v_large, e_v_cells, e_v_rest, e_v_turn, e_dw_0, e_dw_1, e_dw_set0, e_put_rest, e_put_turn, u_is_number, u_is_wordT, u_is_word1, u_is_word2, u_is_row, u_is_row_en, u_is_name, u_are_ascending, u_is_lot_of, u_owners_in, u_places_in, u_came_of, u_behind, u_is_entry, e_zero_pl, e_walk_last, e_walk_len, ec_ok_ens, ec_ok_led, ec_ok_pl, ec_ok_own, ec_ok_plT, ec_ok_ownT, ec_minV_bal, u_balances_of, u_is_ledger, u_check_ledger, u_owners_of, u_places_of, u_check_some, u_check_where, u_check_place, u_check_moment, u_others_of, e_bals_last, u_lying_at_end, e_led_sb, u_owners, u_places, u_others, u_balance, u_lying, u_came, u_begun, e_c18, u__law_behind, u__law_owners_of, u__law_places_of])

--# _law_balances
theorem e_asPs_zero {ps : List Str} : asPs (ps.map fun p => D.tup [.str p, .int 0]) = some (balK (zeroB ps)) := by
  induction ps with
  | nil => rfl
  | cons p ps ih =>
    rw [List.map_cons]
    unfold asPs
    rw [e_asK_str, ih]
    rfl
theorem e_merge_zero {es : List En} : mergeD [] (balK (zeroB (plS es))) = balK (zeroB (plS es)) := by
  rw [merge_nd (acc := [])]
  · rfl
  · show ((balK (zeroB (plS es))).map (·.1)).Nodup
    unfold balK zeroB
    rw [List.map_map, List.map_map]
    exact nodup_map (fun a b h => Sum.inr.inj h) (nodup_setS _)
theorem walk_fold {es : List En} : ∀ (l pre : List En) (o : Option D), (l.foldl (fun (b : List En × Option D) e => (b.1 ++ [e], some e.d)) (pre, o)).1 = pre ++ l := by
  intro l
  induction l with
  | nil => intro pre o; simp
  | cons x l ih => intro pre o; rw [List.foldl_cons, ih, List.append_assoc]; rfl
theorem pl_mem {es : List En} {e : En} (he : e ∈ es) : e.b ∈ plS es ∧ (e.mv = true → e.a ∈ plS es) := by
  refine ⟨mem_setS.mpr (List.mem_append_left _ (List.mem_map_of_mem he)), fun h => mem_setS.mpr (List.mem_append_right _ (List.mem_map.mpr ⟨e, List.mem_filter.mpr ⟨he, h⟩, rfl⟩))⟩
local macro_rules | `(tactic| walk_at "ev") => `(tactic| try simp (maxSteps := 4000000) (dsimp := false) (implicitDefEqProofs := false) (disch := first | assumption | (show (_ : Nat) ≤ _; omega) | (show (_ : Int) ≤ _ ∧ _; omega)) only [↓u_neg, ↓e_lc, ↓e_lcB_if, ↓e_lcB_ifn, ↓e_lcB_t, ↓e_lcB_if2, ↓e_noG, ↓e_lc_nil, ↓e_lc_cons, ↓e_for_nil, ↓e_nx, ↓e_dc, ↓e_dcB_s, ↓e_rt, ↓e_rtF, ↓e_frzR, ↓e_frzR0, ↓e_xq, ↓e_sb_int, ↓e_sb_bl, ↓e_sb_str, ↓e_sb_non, ↓e_sb_scr, ↓e_sb_loc, ↓e_sb_tup, ↓e_sb_ktp, ↓e_sb_lst, ↓e_sb_dct, ↓e_sb_dcT, ↓e_sbL_nil, ↓e_sbK_nil, ↓e_sbL_cons, ↓e_sbL_ints, ↓e_sbL_strs, ↓e_sbL_bls, ↓e_frz_l0, ↓e_frz_d0, ↓e_frz_l1, ↓e_frz_d1, ↓e_frz_l2, ↓e_asS_tup, ↓e_asS_ktp, ↓e_asS_lst, ↓e_asS_scr, ↓e_asS_int, ↓e_asS_non, ↓e_asS_bl, ↓e_asS_str, ↓e_asS_dct, ↓e_asD_dct, ↓e_asD_int, ↓e_asD_str, ↓e_asD_lst, ↓e_asD_tup, ↓e_asDT_str, ↓e_asL_lst, ↓e_asL_tup, ↓e_asL_ktp, ↓e_asL_dct, ↓e_asL_int, ↓e_asL_bl, ↓e_asL_str, ↓e_asL_non, ↓e_asL_loc, ↓e_asS_loc, ↓e_asD_loc, ↓e_obL_s, ↓e_obL_d, ↓e_obD_s, ↓e_obD_l, ↓e_asK_str, ↓e_asK_int, ↓e_asI_int, ↓e_asTK_tup, ↓e_asTK_ktp, ↓e_asLoc_loc, ↓e_lstOf_lst, ↓e_lstOf_tup, ↓e_itOf_tup, ↓e_itOf_ktp, ↓e_itOf_lst, ↓e_itOf_scr, ↓e_itOf_str, ↓e_alL_f, ↓e_alL_t, ↓e_alD_f, ↓e_alD_t, ↓e_kn_bool, ↓e_kn_int, ↓e_kn_str, ↓e_kn_tuple, ↓e_kn_list, ↓e_kn_dict, ↓e_su_ib, ↓e_su_ii, ↓e_su_ss, ↓e_su_tt, ↓e_sz0, ↓e_sz1, ↓e_sz2, ↓e_sz3, ↓e_sz4, ↓e_sz5, ↓e_sz6, ↓e_sz7, ↓e_sz8, ↓e_sz9, ↓e_sz10, ↓e_sz11, ↓e_sz12, ↓e_app, ↓e_iteT, ↓e_iteF, ↓e_new_len, ↓e_new_len2, ↓e_new_two, ↓e_new_three, ↓e_len_map, ↓e_asBls, ↓e_asStrs, ↓e_asInts, ↓e_asStrs0, ↓e_asInts0, ↓e_asBls0, ↓e_all_id, ↓e_any_id, ↓e_sum, ↓e_all, ↓e_any, ↓e_max1l, ↓e_min1l, ↓e_max2, ↓e_min2, ↓e_ixN0, ↓e_bv_loc, ↓e_bvO_l, ↓e_bvO_d, ↓e_eq_nn, ↓e_eq_cn, ↓e_ok_intsL, ↓e_onB, ↓e_oQ_map, ↓e_inT, ↓e_inK, ↓e_inL, ↓e_ninT, ↓e_ninL, ↓e_setS, ↓e_in1, ↓e_chr_len, ↓e_take_map, ↓e_drop_map, ↓e_rev_map, ↓e_app_map, ↓e_eqTT, ↓e_eqLL, ↓e_eqL_nil, ↓e_eqL_cons, ↓e_eqL_nc, ↓e_eqL_cn, ↓e_eqL_strs, ↓e_eqL_ints, ↓e_eqL_m0, ↓e_eqL0, ↓e_eqT0, ↓e_wSkip, ↓e_wSeq, ↓e_wDrop, ↓e_wRet, ↓e_wRetN, ↓e_wBrk, ↓e_wCnt, ↓e_wIfS, ↓e_wSet, ↓e_wTup, ↓e_tg_nm, ↓e_tg_tp, ↓e_setAll_n, ↓e_setAll_c, ↓e_vQ, ↓e_wVar, ↓e_wC, ↓e_wNil, ↓e_wCons, ↓e_wB1, ↓e_wB2, ↓e_wAnd, ↓e_wOr, ↓e_wNot, ↓e_wIf, ↓e_wB, ↓e_wChain, ↓e_wAndV, ↓e_wOrV, ↓e_wNotV, ↓e_wP, ↓e_wGet2, ↓e_getQ_d, ↓e_getQ_l, ↓e_getO_d, ↓e_getO_t, ↓e_wSl, ↓e_wM, ↓e_pop, ↓e_popi, ↓e_wCall, ↓e_wCallK, ↓e_wLc, ↓e_wDc, ↓e_wSeqI, ↓e_wRng1, ↓e_wRng2, ↓e_wEnum, ↓e_enumI, ↓e_wZip, ↓e_wFor, ↓e_wYes, ↓e_wPut, ↓e_wDisp, ↓e_disp_n, ↓e_disp_c, ↓e_wRaise, ↓e_wDict0, ↓e_spb, ↓e_c0, ↓e_c1, ↓e_c2, ↓e_c3, ↓e_c4, ↓e_c5, ↓e_c6, ↓e_c7, ↓e_c8, ↓e_add_i, ↓e_add_s, ↓e_add_t, ↓e_add_l, ↓e_sub_i, ↓e_mul_i, ↓e_mul_l, ↓e_fdiv_i, ↓e_mod_i, ↓e_pow_i, ↓e_neg_i, ↓e_lt_i, ↓e_lt_s, ↓e_le_i, ↓e_gt_i, ↓e_ge_i, ↓e_is_n, ↓e_is_b, ↓e_isN_n, ↓e_isN_b, ↓e_isNon_n, ↓e_isNon_i, ↓e_isNon_s, ↓e_isNon_t, ↓e_isNon_l, ↓e_isNon_b, ↓e_ix_t, ↓e_ix_k, ↓e_ix_l, ↓e_ix_ds, ↓e_ix_di, ↓e_ix_s, ↓e_obDT_l, ↓e_obDT_d, ↓e_obDT_t, ↓e_obD_t, ↓e_obL_t, ↓e_ix_loc, ↓e_ixO_l, ↓e_ixO_d, ↓e_ixO_t, ↓e_len_loc, ↓e_lenO_l, ↓e_lenO_d, ↓e_lenO_t, ↓e_tuple_loc, ↓e_list_loc, ↓e_listO_l, ↓e_listO_d, ↓e_list_d, ↓e_add_ll, ↓e_sl_loc, ↓e_tup, ↓e_lst, ↓e_len_t, ↓e_len_k, ↓e_len_l, ↓e_len_d, ↓e_len_r, ↓e_len_s, ↓e_abs, ↓e_int_i, ↓e_int_b, ↓e_tuple_t, ↓e_tuple_l, ↓e_list_t, ↓e_list_l, ↓e_dict_d, ↓e_dict_l, ↓e_sorted_l, ↓e_isi, ↓e_ty_n, ↓e_ty_b, ↓e_ty_i, ↓e_ty_s, ↓e_ty_t, ↓e_ty_l, ↓e_ty_d, ↓e_sl_t, ↓e_sl_l, ↓e_rev_t, ↓e_rev_l, ↓e_cut_to1, ↓e_cut_from1, ↓e_cut_to, ↓e_cut_from, ↓e_wopt_n, ↓e_intQ, ↓e_wopt_s, ↓e_blQ, ↓e_wT, ↓e_putD0, ↓e_putD1, ↓e_putL0, ↓e_putL1, ↓e_setS_f, ↓e_setS_a, ↓e_wd_in, ↓e_wd_mv, ↓e_ok_wd, ↓e_ok_in, ↓e_ok_move, ↓e_en_S, ↓e_en_TK, ↓e_en_L, ↓e_en_ty, ↓e_en_bv, ↓e_en_sb, ↓e_ens_sb, ↓e_bal_sb, ↓e_bals_sb, ↓e_en_isNon, ↓e_en_ix0, ↓e_en_ix1, ↓e_en_ix2, ↓e_en_ix3, ↓e_own, ↓e_pl, ↓e_eqL_ens, ↓e_getD_bal, ↓e_put_bal, ↓e_balK_len, ↓e_getput, ↓e_sorted_bal, ↓e_asS_dw, ↓e_asD_dw, ↓e_v_large, ↓e_v_cells, ↓e_v_rest, ↓e_v_turn, ↓e_dw_0, ↓e_dw_1, ↓e_dw_set0, ↓e_put_rest, ↓e_put_turn, ↓u_is_number, ↓u_is_wordT, ↓u_is_word1, ↓u_is_word2, ↓u_is_row, ↓u_is_row_en, ↓u_is_name, ↓u_are_ascending, ↓u_is_lot_of, ↓u_owners_in, ↓u_places_in, ↓u_came_of, ↓u_behind, ↓u_is_entry, ↓e_zero_pl, ↓e_walk_last, ↓e_walk_len, ↓u_balances_of, ↓u_is_ledger, ↓u_check_ledger, ↓u_owners_of, ↓u_places_of, ↓u_check_some, ↓u_check_where, ↓u_check_place, ↓u_check_moment, ↓u_others_of, ↓e_bals_last, ↓u_lying_at_end, ↓e_led_sb, ↓u_owners, ↓u_places, ↓u_others, ↓u_balance, ↓u_lying, ↓u_came, ↓u_begun, ↓e_c18, ↓u__law_behind, ↓u__law_owners_of, ↓u__law_places_of, ↓e_asPs_zero, ↓e_merge_zero, ↓reduceIte, ↓oQ_s, startD, permL, List.map_cons, List.map_nil, List.length_cons, List.length_nil, List.replicate, List.getElem?_cons_succ, List.getElem?_cons_zero, List.cons_append, List.nil_append, List.set_cons_succ, List.set_cons_zero, Nat.reduceAdd, Nat.reduceSub, Nat.reduceEqDiff, wipeD, List.filterMap_cons, List.filterMap_nil, List.length_range, List.getElem?_map, Int.zero_add, List.length_map, List.eraseIdx_cons_zero, Bool.and_true, Bool.true_and, Bool.and_false, Bool.false_and, oQ_s, oQ_n, if_t, if_f, dEq, dNe, bv_int, bv_bl, bv_str, bv_tup, bv_lst, bv_non, eqD_int, eqD_str, eqD_bl, atI0, atI1, atI2, atI3, atI4, atI_nat, atI_nat', atI_succ, ok_int, ok_bl, ok_nil, sto_at, sto_at0, sto_set, sto_set0, Option.isSome_some, Option.isSome_none, Bool.false_eq_true, or_false, false_or, true_or, or_true, Option.map_some, Option.map_none, true_and, and_true, false_and, and_false, Bool.not_true, Bool.not_false, reduceIte, decide_true, decide_false, Bool.decide_eq_true, Bool.decide_eq_false, Bool.not_not, eq_self, reduceCtorEq, Int.reduceEq, Int.reduceLT, Int.reduceLE, u_neg, e_lc, e_lcB_if, e_lcB_ifn, e_lcB_t, e_lcB_if2, e_noG, e_lc_nil, e_lc_cons, e_for_nil, e_nx, e_dc, e_dcB_s, e_rt, e_rtF, e_frzR, e_frzR0, e_xq, e_sb_int, e_sb_bl, e_sb_str, e_sb_non, e_sb_scr, e_sb_loc, e_sb_tup, e_sb_ktp, e_sb_lst, e_sb_dct, e_sb_dcT, e_sbL_nil, e_sbK_nil, e_sbL_cons, e_sbL_ints, e_sbL_strs, e_sbL_bls, e_frz_l0, e_frz_d0, e_frz_l1, e_frz_d1, e_frz_l2, e_asS_tup, e_asS_ktp, e_asS_lst, e_asS_scr, e_asS_int, e_asS_non, e_asS_bl, e_asS_str, e_asS_dct, e_asD_dct, e_asD_int, e_asD_str, e_asD_lst, e_asD_tup, e_asDT_str, e_asL_lst, e_asL_tup, e_asL_ktp, e_asL_dct, e_asL_int, e_asL_bl, e_asL_str, e_asL_non, e_asL_loc, e_asS_loc, e_asD_loc, e_obL_s, e_obL_d, e_obD_s, e_obD_l, e_asK_str, e_asK_int, e_asI_int, e_asTK_tup, e_asTK_ktp, e_asLoc_loc, e_lstOf_lst, e_lstOf_tup, e_itOf_tup, e_itOf_ktp, e_itOf_lst, e_itOf_scr, e_itOf_str, e_alL_f, e_alL_t, e_alD_f, e_alD_t, e_kn_bool, e_kn_int, e_kn_str, e_kn_tuple, e_kn_list, e_kn_dict, e_su_ib, e_su_ii, e_su_ss, e_su_tt, e_sz0, e_sz1, e_sz2, e_sz3, e_sz4, e_sz5, e_sz6, e_sz7, e_sz8, e_sz9, e_sz10, e_sz11, e_sz12, e_app, e_iteT, e_iteF, e_new_len, e_new_len2, e_new_two, e_new_three, e_len_map, e_asBls, e_asStrs, e_asInts, e_asStrs0, e_asInts0, e_asBls0, e_all_id, e_any_id, e_sum, e_all, e_any, e_max1l, e_min1l, e_max2, e_min2, e_ixN0, e_bv_loc, e_bvO_l, e_bvO_d, e_eq_nn, e_eq_cn, e_ok_intsL, e_onB, e_oQ_map, e_inT, e_inK, e_inL, e_ninT, e_ninL, e_setS, e_in1, e_chr_len, ec_oQh, e_take_map, e_drop_map, e_rev_map, e_app_map, e_eqTT, e_eqLL, e_eqL_nil, e_eqL_cons, e_eqL_nc, e_eqL_cn, e_eqL_strs, e_eqL_ints, e_eqL_m0, e_eqL0, e_eqT0, e_wSkip, e_wSeq, e_wDrop, e_wRet, e_wRetN, e_wBrk, e_wCnt, e_wIfS, e_wSet, e_wTup, e_tg_nm, e_tg_tp, e_setAll_n, e_setAll_c, e_vQ, e_wVar, e_wC, e_wNil, e_wCons, e_wB1, e_wB2, e_wAnd, e_wOr, e_wNot, e_wIf, e_wB, e_wChain, e_wAndV, e_wOrV, e_wNotV, e_wP, e_wGet2, e_getQ_d, e_getQ_l, e_getO_d, e_getO_t, e_wSl, e_wM, e_pop, e_popi, e_wCall, e_wCallK, e_wLc, e_wDc, e_wSeqI, e_wRng1, e_wRng2, e_wEnum, e_enumI, e_wZip, e_wFor, e_wYes, e_wPut, e_wDisp, e_disp_n, e_disp_c, e_wRaise, e_wDict0, e_spb, e_c0, e_c1, e_c2, e_c3, e_c4, e_c5, e_c6, e_c7, e_c8, e_add_i, e_add_s, e_add_t, e_add_l, e_sub_i, e_mul_i, e_mul_l, e_fdiv_i, e_mod_i, e_pow_i, e_neg_i, e_lt_i, e_lt_s, e_le_i, e_gt_i, e_ge_i, e_is_n, e_is_b, e_isN_n, e_isN_b, e_isNon_n, e_isNon_i, e_isNon_s, e_isNon_t, e_isNon_l, e_isNon_b, e_ix_t, e_ix_k, e_ix_l, e_ix_ds, e_ix_di, e_ix_s, e_obDT_l, e_obDT_d, e_obDT_t, e_obD_t, e_obL_t, e_ix_loc, e_ixO_l, e_ixO_d, e_ixO_t, e_len_loc, e_lenO_l, e_lenO_d, e_lenO_t, e_tuple_loc, e_list_loc, e_listO_l, e_listO_d, e_list_d, e_add_ll, e_sl_loc, e_tup, e_lst, e_len_t, e_len_k, e_len_l, e_len_d, e_len_r, e_len_s, e_abs, e_int_i, e_int_b, e_tuple_t, e_tuple_l, e_list_t, e_list_l, e_dict_d, e_dict_l, e_sorted_l, e_isi, e_ty_n, e_ty_b, e_ty_i, e_ty_s, e_ty_t, e_ty_l, e_ty_d, e_sl_t, e_sl_l, e_rev_t, e_rev_l, e_cut_to1, e_cut_from1, e_cut_to, e_cut_from, ec_ok_str, ec_szle, ec_szlt, ec_rng1, ec_rng2, e_wopt_n, e_intQ, e_wopt_s, e_blQ, e_wT, e_putD0, e_putD1, e_putL0, e_putL1, e_setS_f, e_setS_a, e_wd_in, e_wd_mv, e_ok_wd, e_ok_in, e_ok_move, e_en_S, e_en_TK, e_en_L, e_en_ty, e_en_bv, e_en_sb, e_ens_sb, e_bal_sb, e_bals_sb, e_en_isNon, e_en_ix0, e_en_ix1, e_en_ix2, e_en_ix3, e_own, e_pl, ec_own64, ec_pl64, ec_es_sz, e_eqL_ens, e_getD_bal, e_put_bal, e_balK_len, ec_val_mem, e_getput, e_sorted_bal, e_asS_dw, e_asD_dw, e_v_large, e_v_cells, e_v_rest, e_v_turn, e_dw_0, e_dw_1, e_dw_set0, e_put_rest, e_put_turn, u_is_number, u_is_wordT, u_is_word1, u_is_word2, u_is_row, u_is_row_en, u_is_name, u_are_ascending, u_is_lot_of, u_owners_in, u_places_in, u_came_of, u_behind, u_is_entry, e_zero_pl, e_walk_last, e_walk_len, ec_ok_ens, ec_ok_led, ec_ok_pl, ec_ok_own, ec_ok_plT, ec_ok_ownT, ec_minV_bal, u_balances_of, u_is_ledger, u_check_ledger, u_owners_of, u_places_of, u_check_some, u_check_where, u_check_place, u_check_moment, u_others_of, e_bals_last, u_lying_at_end, e_led_sb, u_owners, u_places, u_others, u_balance, u_lying, u_came, u_begun, e_c18, u__law_behind, u__law_owners_of, u__law_places_of, e_asPs_zero, e_merge_zero])

theorem u__law_balances {es : List En} (hO : OkEs es) : sp__law_balances [.tup [.str "ledger", .tup (es.map En.d)]] S Q Ex = Q (.lst ((balsS es).map fun b => balD b)) S := by
  unfold sp__law_balances rd__law_balances
  have h1 := hO.len
  have h2 := hO.pl
  have h3 : (plS es).length ≤ 1000 := by omega
  have hz : (zeroB (plS es)).length = (plS es).length := zero_len
  walk_at "ev"
  refine (for_fold (g := noG) En.d (fun b : List En × Option D => [some (.tup [.str "ledger", .tup (es.map En.d)]), some (.loc S.length), none, b.2]) (fun b => S ++ [.lst ((walkB (zeroB (plS es)) b.1).map fun b => balD b)]) (fun b e => (b.1 ++ [e], some e.d)) (fun l b => es = b.1 ++ l) (fun _ _ _ => trivial) ?_ (b := ([], none)) rfl).trans ?_
  · intro x l b hb
    refine ⟨by rw [hb, List.append_assoc]; rfl, fun N => ?_⟩
    have hpre : b.1.length ≤ 100 := by
      have := congrArg List.length hb
      rw [List.length_append] at this
      omega
    have hf := fold_len (es := b.1) (bs := zeroB (plS es))
    have hw : (walkB (zeroB (plS es)) b.1).length = b.1.length + 1 := walkB_len
    have hx : x ∈ es := by rw [hb]; simp
    have hk : x.mv = true → x.a ∈ (b.1.foldl behB (zeroB (plS es))).map (·.1) := fun h => fold_keys (zero_keys.mpr ((pl_mem hx).2 h))
    walk_at "ev"
    rw [walkB_app, List.map_append]
    rfl
  · have e := walk_fold (es := es) es [] none
    generalize es.foldl (fun (b : List En × Option D) e => (b.1 ++ [e], some e.d)) ([], none) = r at e
    obtain ⟨r1, r2⟩ := r
    cases e
    walk_at "ev"
    rfl
local macro_rules | `(tactic| walk_at "ev") => `(tactic| try simp (maxSteps := 4000000) (dsimp := false) (implicitDefEqProofs := false) (disch := first | assumption | (show (_ : Nat) ≤ _; omega) | (show (_ : Int) ≤ _ ∧ _; omega)) only [↓u_neg, ↓e_lc, ↓e_lcB_if, ↓e_lcB_ifn, ↓e_lcB_t, ↓e_lcB_if2, ↓e_noG, ↓e_lc_nil, ↓e_lc_cons, ↓e_for_nil, ↓e_nx, ↓e_dc, ↓e_dcB_s, ↓e_rt, ↓e_rtF, ↓e_frzR, ↓e_frzR0, ↓e_xq, ↓e_sb_int, ↓e_sb_bl, ↓e_sb_str, ↓e_sb_non, ↓e_sb_scr, ↓e_sb_loc, ↓e_sb_tup, ↓e_sb_ktp, ↓e_sb_lst, ↓e_sb_dct, ↓e_sb_dcT, ↓e_sbL_nil, ↓e_sbK_nil, ↓e_sbL_cons, ↓e_sbL_ints, ↓e_sbL_strs, ↓e_sbL_bls, ↓e_frz_l0, ↓e_frz_d0, ↓e_frz_l1, ↓e_frz_d1, ↓e_frz_l2, ↓e_asS_tup, ↓e_asS_ktp, ↓e_asS_lst, ↓e_asS_scr, ↓e_asS_int, ↓e_asS_non, ↓e_asS_bl, ↓e_asS_str, ↓e_asS_dct, ↓e_asD_dct, ↓e_asD_int, ↓e_asD_str, ↓e_asD_lst, ↓e_asD_tup, ↓e_asDT_str, ↓e_asL_lst, ↓e_asL_tup, ↓e_asL_ktp, ↓e_asL_dct, ↓e_asL_int, ↓e_asL_bl, ↓e_asL_str, ↓e_asL_non, ↓e_asL_loc, ↓e_asS_loc, ↓e_asD_loc, ↓e_obL_s, ↓e_obL_d, ↓e_obD_s, ↓e_obD_l, ↓e_asK_str, ↓e_asK_int, ↓e_asI_int, ↓e_asTK_tup, ↓e_asTK_ktp, ↓e_asLoc_loc, ↓e_lstOf_lst, ↓e_lstOf_tup, ↓e_itOf_tup, ↓e_itOf_ktp, ↓e_itOf_lst, ↓e_itOf_scr, ↓e_itOf_str, ↓e_alL_f, ↓e_alL_t, ↓e_alD_f, ↓e_alD_t, ↓e_kn_bool, ↓e_kn_int, ↓e_kn_str, ↓e_kn_tuple, ↓e_kn_list, ↓e_kn_dict, ↓e_su_ib, ↓e_su_ii, ↓e_su_ss, ↓e_su_tt, ↓e_sz0, ↓e_sz1, ↓e_sz2, ↓e_sz3, ↓e_sz4, ↓e_sz5, ↓e_sz6, ↓e_sz7, ↓e_sz8, ↓e_sz9, ↓e_sz10, ↓e_sz11, ↓e_sz12, ↓e_app, ↓e_iteT, ↓e_iteF, ↓e_new_len, ↓e_new_len2, ↓e_new_two, ↓e_new_three, ↓e_len_map, ↓e_asBls, ↓e_asStrs, ↓e_asInts, ↓e_asStrs0, ↓e_asInts0, ↓e_asBls0, ↓e_all_id, ↓e_any_id, ↓e_sum, ↓e_all, ↓e_any, ↓e_max1l, ↓e_min1l, ↓e_max2, ↓e_min2, ↓e_ixN0, ↓e_bv_loc, ↓e_bvO_l, ↓e_bvO_d, ↓e_eq_nn, ↓e_eq_cn, ↓e_ok_intsL, ↓e_onB, ↓e_oQ_map, ↓e_inT, ↓e_inK, ↓e_inL, ↓e_ninT, ↓e_ninL, ↓e_setS, ↓e_in1, ↓e_chr_len, ↓e_take_map, ↓e_drop_map, ↓e_rev_map, ↓e_app_map, ↓e_eqTT, ↓e_eqLL, ↓e_eqL_nil, ↓e_eqL_cons, ↓e_eqL_nc, ↓e_eqL_cn, ↓e_eqL_strs, ↓e_eqL_ints, ↓e_eqL_m0, ↓e_eqL0, ↓e_eqT0, ↓e_wSkip, ↓e_wSeq, ↓e_wDrop, ↓e_wRet, ↓e_wRetN, ↓e_wBrk, ↓e_wCnt, ↓e_wIfS, ↓e_wSet, ↓e_wTup, ↓e_tg_nm, ↓e_tg_tp, ↓e_setAll_n, ↓e_setAll_c, ↓e_vQ, ↓e_wVar, ↓e_wC, ↓e_wNil, ↓e_wCons, ↓e_wB1, ↓e_wB2, ↓e_wAnd, ↓e_wOr, ↓e_wNot, ↓e_wIf, ↓e_wB, ↓e_wChain, ↓e_wAndV, ↓e_wOrV, ↓e_wNotV, ↓e_wP, ↓e_wGet2, ↓e_getQ_d, ↓e_getQ_l, ↓e_getO_d, ↓e_getO_t, ↓e_wSl, ↓e_wM, ↓e_pop, ↓e_popi, ↓e_wCall, ↓e_wCallK, ↓e_wLc, ↓e_wDc, ↓e_wSeqI, ↓e_wRng1, ↓e_wRng2, ↓e_wEnum, ↓e_enumI, ↓e_wZip, ↓e_wFor, ↓e_wYes, ↓e_wPut, ↓e_wDisp, ↓e_disp_n, ↓e_disp_c, ↓e_wRaise, ↓e_wDict0, ↓e_spb, ↓e_c0, ↓e_c1, ↓e_c2, ↓e_c3, ↓e_c4, ↓e_c5, ↓e_c6, ↓e_c7, ↓e_c8, ↓e_add_i, ↓e_add_s, ↓e_add_t, ↓e_add_l, ↓e_sub_i, ↓e_mul_i, ↓e_mul_l, ↓e_fdiv_i, ↓e_mod_i, ↓e_pow_i, ↓e_neg_i, ↓e_lt_i, ↓e_lt_s, ↓e_le_i, ↓e_gt_i, ↓e_ge_i, ↓e_is_n, ↓e_is_b, ↓e_isN_n, ↓e_isN_b, ↓e_isNon_n, ↓e_isNon_i, ↓e_isNon_s, ↓e_isNon_t, ↓e_isNon_l, ↓e_isNon_b, ↓e_ix_t, ↓e_ix_k, ↓e_ix_l, ↓e_ix_ds, ↓e_ix_di, ↓e_ix_s, ↓e_obDT_l, ↓e_obDT_d, ↓e_obDT_t, ↓e_obD_t, ↓e_obL_t, ↓e_ix_loc, ↓e_ixO_l, ↓e_ixO_d, ↓e_ixO_t, ↓e_len_loc, ↓e_lenO_l, ↓e_lenO_d, ↓e_lenO_t, ↓e_tuple_loc, ↓e_list_loc, ↓e_listO_l, ↓e_listO_d, ↓e_list_d, ↓e_add_ll, ↓e_sl_loc, ↓e_tup, ↓e_lst, ↓e_len_t, ↓e_len_k, ↓e_len_l, ↓e_len_d, ↓e_len_r, ↓e_len_s, ↓e_abs, ↓e_int_i, ↓e_int_b, ↓e_tuple_t, ↓e_tuple_l, ↓e_list_t, ↓e_list_l, ↓e_dict_d, ↓e_dict_l, ↓e_sorted_l, ↓e_isi, ↓e_ty_n, ↓e_ty_b, ↓e_ty_i, ↓e_ty_s, ↓e_ty_t, ↓e_ty_l, ↓e_ty_d, ↓e_sl_t, ↓e_sl_l, ↓e_rev_t, ↓e_rev_l, ↓e_cut_to1, ↓e_cut_from1, ↓e_cut_to, ↓e_cut_from, ↓e_wopt_n, ↓e_intQ, ↓e_wopt_s, ↓e_blQ, ↓e_wT, ↓e_putD0, ↓e_putD1, ↓e_putL0, ↓e_putL1, ↓e_setS_f, ↓e_setS_a, ↓e_wd_in, ↓e_wd_mv, ↓e_ok_wd, ↓e_ok_in, ↓e_ok_move, ↓e_en_S, ↓e_en_TK, ↓e_en_L, ↓e_en_ty, ↓e_en_bv, ↓e_en_sb, ↓e_ens_sb, ↓e_bal_sb, ↓e_bals_sb, ↓e_en_isNon, ↓e_en_ix0, ↓e_en_ix1, ↓e_en_ix2, ↓e_en_ix3, ↓e_own, ↓e_pl, ↓e_eqL_ens, ↓e_getD_bal, ↓e_put_bal, ↓e_balK_len, ↓e_getput, ↓e_sorted_bal, ↓e_asS_dw, ↓e_asD_dw, ↓e_v_large, ↓e_v_cells, ↓e_v_rest, ↓e_v_turn, ↓e_dw_0, ↓e_dw_1, ↓e_dw_set0, ↓e_put_rest, ↓e_put_turn, ↓u_is_number, ↓u_is_wordT, ↓u_is_word1, ↓u_is_word2, ↓u_is_row, ↓u_is_row_en, ↓u_is_name, ↓u_are_ascending, ↓u_is_lot_of, ↓u_owners_in, ↓u_places_in, ↓u_came_of, ↓u_behind, ↓u_is_entry, ↓e_zero_pl, ↓e_walk_last, ↓e_walk_len, ↓u_balances_of, ↓u_is_ledger, ↓u_check_ledger, ↓u_owners_of, ↓u_places_of, ↓u_check_some, ↓u_check_where, ↓u_check_place, ↓u_check_moment, ↓u_others_of, ↓e_bals_last, ↓u_lying_at_end, ↓e_led_sb, ↓u_owners, ↓u_places, ↓u_others, ↓u_balance, ↓u_lying, ↓u_came, ↓u_begun, ↓e_c18, ↓u__law_behind, ↓u__law_owners_of, ↓u__law_places_of, ↓e_asPs_zero, ↓e_merge_zero, ↓u__law_balances, ↓reduceIte, ↓oQ_s, startD, permL, List.map_cons, List.map_nil, List.length_cons, List.length_nil, List.replicate, List.getElem?_cons_succ, List.getElem?_cons_zero, List.cons_append, List.nil_append, List.set_cons_succ, List.set_cons_zero, Nat.reduceAdd, Nat.reduceSub, Nat.reduceEqDiff, wipeD, List.filterMap_cons, List.filterMap_nil, List.length_range, List.getElem?_map, Int.zero_add, List.length_map, List.eraseIdx_cons_zero, Bool.and_true, Bool.true_and, Bool.and_false, Bool.false_and, oQ_s, oQ_n, if_t, if_f, dEq, dNe, bv_int, bv_bl, bv_str, bv_tup, bv_lst, bv_non, eqD_int, eqD_str, eqD_bl, atI0, atI1, atI2, atI3, atI4, atI_nat, atI_nat', atI_succ, ok_int, ok_bl, ok_nil, sto_at, sto_at0, sto_set, sto_set0, Option.isSome_some, Option.isSome_none, Bool.false_eq_true, or_false, false_or, true_or, or_true, Option.map_some, Option.map_none, true_and, and_true, false_and, and_false, Bool.not_true, Bool.not_false, reduceIte, decide_true, decide_false, Bool.decide_eq_true, Bool.decide_eq_false, Bool.not_not, eq_self, reduceCtorEq, Int.reduceEq, Int.reduceLT, Int.reduceLE, u_neg, e_lc, e_lcB_if, e_lcB_ifn, e_lcB_t, e_lcB_if2, e_noG, e_lc_nil, e_lc_cons, e_for_nil, e_nx, e_dc, e_dcB_s, e_rt, e_rtF, e_frzR, e_frzR0, e_xq, e_sb_int, e_sb_bl, e_sb_str, e_sb_non, e_sb_scr, e_sb_loc, e_sb_tup, e_sb_ktp, e_sb_lst, e_sb_dct, e_sb_dcT, e_sbL_nil, e_sbK_nil, e_sbL_cons, e_sbL_ints, e_sbL_strs, e_sbL_bls, e_frz_l0, e_frz_d0, e_frz_l1, e_frz_d1, e_frz_l2, e_asS_tup, e_asS_ktp, e_asS_lst, e_asS_scr, e_asS_int, e_asS_non, e_asS_bl, e_asS_str, e_asS_dct, e_asD_dct, e_asD_int, e_asD_str, e_asD_lst, e_asD_tup, e_asDT_str, e_asL_lst, e_asL_tup, e_asL_ktp, e_asL_dct, e_asL_int, e_asL_bl, e_asL_str, e_asL_non, e_asL_loc, e_asS_loc, e_asD_loc, e_obL_s, e_obL_d, e_obD_s, e_obD_l, e_asK_str, e_asK_int, e_asI_int, e_asTK_tup, e_asTK_ktp, e_asLoc_loc, e_lstOf_lst, e_lstOf_tup, e_itOf_tup, e_itOf_ktp, e_itOf_lst, e_itOf_scr, e_itOf_str, e_alL_f, e_alL_t, e_alD_f, e_alD_t, e_kn_bool, e_kn_int, e_kn_str, e_kn_tuple, e_kn_list, e_kn_dict, e_su_ib, e_su_ii, e_su_ss, e_su_tt, e_sz0, e_sz1, e_sz2, e_sz3, e_sz4, e_sz5, e_sz6, e_sz7, e_sz8, e_sz9, e_sz10, e_sz11, e_sz12, e_app, e_iteT, e_iteF, e_new_len, e_new_len2, e_new_two, e_new_three, e_len_map, e_asBls, e_asStrs, e_asInts, e_asStrs0, e_asInts0, e_asBls0, e_all_id, e_any_id, e_sum, e_all, e_any, e_max1l, e_min1l, e_max2, e_min2, e_ixN0, e_bv_loc, e_bvO_l, e_bvO_d, e_eq_nn, e_eq_cn, e_ok_intsL, e_onB, e_oQ_map, e_inT, e_inK, e_inL, e_ninT, e_ninL, e_setS, e_in1, e_chr_len, ec_oQh, e_take_map, e_drop_map, e_rev_map, e_app_map, e_eqTT, e_eqLL, e_eqL_nil, e_eqL_cons, e_eqL_nc, e_eqL_cn, e_eqL_strs, e_eqL_ints, e_eqL_m0, e_eqL0, e_eqT0, e_wSkip, e_wSeq, e_wDrop, e_wRet, e_wRetN, e_wBrk, e_wCnt, e_wIfS, e_wSet, e_wTup, e_tg_nm, e_tg_tp, e_setAll_n, e_setAll_c, e_vQ, e_wVar, e_wC, e_wNil, e_wCons, e_wB1, e_wB2, e_wAnd, e_wOr, e_wNot, e_wIf, e_wB, e_wChain, e_wAndV, e_wOrV, e_wNotV, e_wP, e_wGet2, e_getQ_d, e_getQ_l, e_getO_d, e_getO_t, e_wSl, e_wM, e_pop, e_popi, e_wCall, e_wCallK, e_wLc, e_wDc, e_wSeqI, e_wRng1, e_wRng2, e_wEnum, e_enumI, e_wZip, e_wFor, e_wYes, e_wPut, e_wDisp, e_disp_n, e_disp_c, e_wRaise, e_wDict0, e_spb, e_c0, e_c1, e_c2, e_c3, e_c4, e_c5, e_c6, e_c7, e_c8, e_add_i, e_add_s, e_add_t, e_add_l, e_sub_i, e_mul_i, e_mul_l, e_fdiv_i, e_mod_i, e_pow_i, e_neg_i, e_lt_i, e_lt_s, e_le_i, e_gt_i, e_ge_i, e_is_n, e_is_b, e_isN_n, e_isN_b, e_isNon_n, e_isNon_i, e_isNon_s, e_isNon_t, e_isNon_l, e_isNon_b, e_ix_t, e_ix_k, e_ix_l, e_ix_ds, e_ix_di, e_ix_s, e_obDT_l, e_obDT_d, e_obDT_t, e_obD_t, e_obL_t, e_ix_loc, e_ixO_l, e_ixO_d, e_ixO_t, e_len_loc, e_lenO_l, e_lenO_d, e_lenO_t, e_tuple_loc, e_list_loc, e_listO_l, e_listO_d, e_list_d, e_add_ll, e_sl_loc, e_tup, e_lst, e_len_t, e_len_k, e_len_l, e_len_d, e_len_r, e_len_s, e_abs, e_int_i, e_int_b, e_tuple_t, e_tuple_l, e_list_t, e_list_l, e_dict_d, e_dict_l, e_sorted_l, e_isi, e_ty_n, e_ty_b, e_ty_i, e_ty_s, e_ty_t, e_ty_l, e_ty_d, e_sl_t, e_sl_l, e_rev_t, e_rev_l, e_cut_to1, e_cut_from1, e_cut_to, e_cut_from, ec_ok_str, ec_szle, ec_szlt, ec_rng1, ec_rng2, e_wopt_n, e_intQ, e_wopt_s, e_blQ, e_wT, e_putD0, e_putD1, e_putL0, e_putL1, e_setS_f, e_setS_a, e_wd_in, e_wd_mv, e_ok_wd, e_ok_in, e_ok_move, e_en_S, e_en_TK, e_en_L, e_en_ty, e_en_bv, e_en_sb, e_ens_sb, e_bal_sb, e_bals_sb, e_en_isNon, e_en_ix0, e_en_ix1, e_en_ix2, e_en_ix3, e_own, e_pl, ec_own64, ec_pl64, ec_es_sz, e_eqL_ens, e_getD_bal, e_put_bal, e_balK_len, ec_val_mem, e_getput, e_sorted_bal, e_asS_dw, e_asD_dw, e_v_large, e_v_cells, e_v_rest, e_v_turn, e_dw_0, e_dw_1, e_dw_set0, e_put_rest, e_put_turn, u_is_number, u_is_wordT, u_is_word1, u_is_word2, u_is_row, u_is_row_en, u_is_name, u_are_ascending, u_is_lot_of, u_owners_in, u_places_in, u_came_of, u_behind, u_is_entry, e_zero_pl, e_walk_last, e_walk_len, ec_ok_ens, ec_ok_led, ec_ok_pl, ec_ok_own, ec_ok_plT, ec_ok_ownT, ec_minV_bal, u_balances_of, u_is_ledger, u_check_ledger, u_owners_of, u_places_of, u_check_some, u_check_where, u_check_place, u_check_moment, u_others_of, e_bals_last, u_lying_at_end, e_led_sb, u_owners, u_places, u_others, u_balance, u_lying, u_came, u_begun, e_c18, u__law_behind, u__law_owners_of, u__law_places_of, e_asPs_zero, e_merge_zero, u__law_balances])

--# _law_others
theorem u__law_others {es : List En} {xs : List Str} (hO : OkEs es) : sp__law_others [.tup [.str "ledger", .tup (es.map En.d)], .tup (xs.map D.str)] S Q Ex = Q (.tup ((othS es xs).map D.str)) S := by
  unfold sp__law_others rd__law_others
  have := hO.ow
  walk_at "ev"
  rfl
--# _law_lying
theorem u__law_lying {es : List En} {xs : List Str} (hO : OkEs es) (hl : xs.length ≤ 100) (hx : ∀ x ∈ xs, x ∈ plS es) : sp__law_lying [.tup [.str "ledger", .tup (es.map En.d)], .tup (xs.map D.str)] S Q Ex = Q (.int (lieS es xs)) S := by
  unfold sp__law_lying rd__law_lying
  walk_at "ev"
  rw [lcB_mem (fun x => D.int (getB (lastB es) x)) (fun x h Ky Kn => by
    rw [val_mem (last_mem (hx x h))]
    rfl)]
  walk_at "ev"
  rfl
--# _law_came
theorem u__law_came {es : List En} {xs : List Str} (hO : OkEs es) : sp__law_came [.tup [.str "ledger", .tup (es.map En.d)], .tup (xs.map D.str)] S Q Ex = Q (.int (cameS es xs)) S := by
  unfold sp__law_came rd__law_came
  walk_at "ev"
  rfl
local macro_rules | `(tactic| walk_at "ev") => `(tactic| try simp (maxSteps := 4000000) (dsimp := false) (implicitDefEqProofs := false) (disch := first | assumption | (show (_ : Nat) ≤ _; omega) | (show (_ : Int) ≤ _ ∧ _; omega)) only [↓u_neg, ↓e_lc, ↓e_lcB_if, ↓e_lcB_ifn, ↓e_lcB_t, ↓e_lcB_if2, ↓e_noG, ↓e_lc_nil, ↓e_lc_cons, ↓e_for_nil, ↓e_nx, ↓e_dc, ↓e_dcB_s, ↓e_rt, ↓e_rtF, ↓e_frzR, ↓e_frzR0, ↓e_xq, ↓e_sb_int, ↓e_sb_bl, ↓e_sb_str, ↓e_sb_non, ↓e_sb_scr, ↓e_sb_loc, ↓e_sb_tup, ↓e_sb_ktp, ↓e_sb_lst, ↓e_sb_dct, ↓e_sb_dcT, ↓e_sbL_nil, ↓e_sbK_nil, ↓e_sbL_cons, ↓e_sbL_ints, ↓e_sbL_strs, ↓e_sbL_bls, ↓e_frz_l0, ↓e_frz_d0, ↓e_frz_l1, ↓e_frz_d1, ↓e_frz_l2, ↓e_asS_tup, ↓e_asS_ktp, ↓e_asS_lst, ↓e_asS_scr, ↓e_asS_int, ↓e_asS_non, ↓e_asS_bl, ↓e_asS_str, ↓e_asS_dct, ↓e_asD_dct, ↓e_asD_int, ↓e_asD_str, ↓e_asD_lst, ↓e_asD_tup, ↓e_asDT_str, ↓e_asL_lst, ↓e_asL_tup, ↓e_asL_ktp, ↓e_asL_dct, ↓e_asL_int, ↓e_asL_bl, ↓e_asL_str, ↓e_asL_non, ↓e_asL_loc, ↓e_asS_loc, ↓e_asD_loc, ↓e_obL_s, ↓e_obL_d, ↓e_obD_s, ↓e_obD_l, ↓e_asK_str, ↓e_asK_int, ↓e_asI_int, ↓e_asTK_tup, ↓e_asTK_ktp, ↓e_asLoc_loc, ↓e_lstOf_lst, ↓e_lstOf_tup, ↓e_itOf_tup, ↓e_itOf_ktp, ↓e_itOf_lst, ↓e_itOf_scr, ↓e_itOf_str, ↓e_alL_f, ↓e_alL_t, ↓e_alD_f, ↓e_alD_t, ↓e_kn_bool, ↓e_kn_int, ↓e_kn_str, ↓e_kn_tuple, ↓e_kn_list, ↓e_kn_dict, ↓e_su_ib, ↓e_su_ii, ↓e_su_ss, ↓e_su_tt, ↓e_sz0, ↓e_sz1, ↓e_sz2, ↓e_sz3, ↓e_sz4, ↓e_sz5, ↓e_sz6, ↓e_sz7, ↓e_sz8, ↓e_sz9, ↓e_sz10, ↓e_sz11, ↓e_sz12, ↓e_app, ↓e_iteT, ↓e_iteF, ↓e_new_len, ↓e_new_len2, ↓e_new_two, ↓e_new_three, ↓e_len_map, ↓e_asBls, ↓e_asStrs, ↓e_asInts, ↓e_asStrs0, ↓e_asInts0, ↓e_asBls0, ↓e_all_id, ↓e_any_id, ↓e_sum, ↓e_all, ↓e_any, ↓e_max1l, ↓e_min1l, ↓e_max2, ↓e_min2, ↓e_ixN0, ↓e_bv_loc, ↓e_bvO_l, ↓e_bvO_d, ↓e_eq_nn, ↓e_eq_cn, ↓e_ok_intsL, ↓e_onB, ↓e_oQ_map, ↓e_inT, ↓e_inK, ↓e_inL, ↓e_ninT, ↓e_ninL, ↓e_setS, ↓e_in1, ↓e_chr_len, ↓e_take_map, ↓e_drop_map, ↓e_rev_map, ↓e_app_map, ↓e_eqTT, ↓e_eqLL, ↓e_eqL_nil, ↓e_eqL_cons, ↓e_eqL_nc, ↓e_eqL_cn, ↓e_eqL_strs, ↓e_eqL_ints, ↓e_eqL_m0, ↓e_eqL0, ↓e_eqT0, ↓e_wSkip, ↓e_wSeq, ↓e_wDrop, ↓e_wRet, ↓e_wRetN, ↓e_wBrk, ↓e_wCnt, ↓e_wIfS, ↓e_wSet, ↓e_wTup, ↓e_tg_nm, ↓e_tg_tp, ↓e_setAll_n, ↓e_setAll_c, ↓e_vQ, ↓e_wVar, ↓e_wC, ↓e_wNil, ↓e_wCons, ↓e_wB1, ↓e_wB2, ↓e_wAnd, ↓e_wOr, ↓e_wNot, ↓e_wIf, ↓e_wB, ↓e_wChain, ↓e_wAndV, ↓e_wOrV, ↓e_wNotV, ↓e_wP, ↓e_wGet2, ↓e_getQ_d, ↓e_getQ_l, ↓e_getO_d, ↓e_getO_t, ↓e_wSl, ↓e_wM, ↓e_pop, ↓e_popi, ↓e_wCall, ↓e_wCallK, ↓e_wLc, ↓e_wDc, ↓e_wSeqI, ↓e_wRng1, ↓e_wRng2, ↓e_wEnum, ↓e_enumI, ↓e_wZip, ↓e_wFor, ↓e_wYes, ↓e_wPut, ↓e_wDisp, ↓e_disp_n, ↓e_disp_c, ↓e_wRaise, ↓e_wDict0, ↓e_spb, ↓e_c0, ↓e_c1, ↓e_c2, ↓e_c3, ↓e_c4, ↓e_c5, ↓e_c6, ↓e_c7, ↓e_c8, ↓e_add_i, ↓e_add_s, ↓e_add_t, ↓e_add_l, ↓e_sub_i, ↓e_mul_i, ↓e_mul_l, ↓e_fdiv_i, ↓e_mod_i, ↓e_pow_i, ↓e_neg_i, ↓e_lt_i, ↓e_lt_s, ↓e_le_i, ↓e_gt_i, ↓e_ge_i, ↓e_is_n, ↓e_is_b, ↓e_isN_n, ↓e_isN_b, ↓e_isNon_n, ↓e_isNon_i, ↓e_isNon_s, ↓e_isNon_t, ↓e_isNon_l, ↓e_isNon_b, ↓e_ix_t, ↓e_ix_k, ↓e_ix_l, ↓e_ix_ds, ↓e_ix_di, ↓e_ix_s, ↓e_obDT_l, ↓e_obDT_d, ↓e_obDT_t, ↓e_obD_t, ↓e_obL_t, ↓e_ix_loc, ↓e_ixO_l, ↓e_ixO_d, ↓e_ixO_t, ↓e_len_loc, ↓e_lenO_l, ↓e_lenO_d, ↓e_lenO_t, ↓e_tuple_loc, ↓e_list_loc, ↓e_listO_l, ↓e_listO_d, ↓e_list_d, ↓e_add_ll, ↓e_sl_loc, ↓e_tup, ↓e_lst, ↓e_len_t, ↓e_len_k, ↓e_len_l, ↓e_len_d, ↓e_len_r, ↓e_len_s, ↓e_abs, ↓e_int_i, ↓e_int_b, ↓e_tuple_t, ↓e_tuple_l, ↓e_list_t, ↓e_list_l, ↓e_dict_d, ↓e_dict_l, ↓e_sorted_l, ↓e_isi, ↓e_ty_n, ↓e_ty_b, ↓e_ty_i, ↓e_ty_s, ↓e_ty_t, ↓e_ty_l, ↓e_ty_d, ↓e_sl_t, ↓e_sl_l, ↓e_rev_t, ↓e_rev_l, ↓e_cut_to1, ↓e_cut_from1, ↓e_cut_to, ↓e_cut_from, ↓e_wopt_n, ↓e_intQ, ↓e_wopt_s, ↓e_blQ, ↓e_wT, ↓e_putD0, ↓e_putD1, ↓e_putL0, ↓e_putL1, ↓e_setS_f, ↓e_setS_a, ↓e_wd_in, ↓e_wd_mv, ↓e_ok_wd, ↓e_ok_in, ↓e_ok_move, ↓e_en_S, ↓e_en_TK, ↓e_en_L, ↓e_en_ty, ↓e_en_bv, ↓e_en_sb, ↓e_ens_sb, ↓e_bal_sb, ↓e_bals_sb, ↓e_en_isNon, ↓e_en_ix0, ↓e_en_ix1, ↓e_en_ix2, ↓e_en_ix3, ↓e_own, ↓e_pl, ↓e_eqL_ens, ↓e_getD_bal, ↓e_put_bal, ↓e_balK_len, ↓e_getput, ↓e_sorted_bal, ↓e_asS_dw, ↓e_asD_dw, ↓e_v_large, ↓e_v_cells, ↓e_v_rest, ↓e_v_turn, ↓e_dw_0, ↓e_dw_1, ↓e_dw_set0, ↓e_put_rest, ↓e_put_turn, ↓u_is_number, ↓u_is_wordT, ↓u_is_word1, ↓u_is_word2, ↓u_is_row, ↓u_is_row_en, ↓u_is_name, ↓u_are_ascending, ↓u_is_lot_of, ↓u_owners_in, ↓u_places_in, ↓u_came_of, ↓u_behind, ↓u_is_entry, ↓e_zero_pl, ↓e_walk_last, ↓e_walk_len, ↓u_balances_of, ↓u_is_ledger, ↓u_check_ledger, ↓u_owners_of, ↓u_places_of, ↓u_check_some, ↓u_check_where, ↓u_check_place, ↓u_check_moment, ↓u_others_of, ↓e_bals_last, ↓u_lying_at_end, ↓e_led_sb, ↓u_owners, ↓u_places, ↓u_others, ↓u_balance, ↓u_lying, ↓u_came, ↓u_begun, ↓e_c18, ↓u__law_behind, ↓u__law_owners_of, ↓u__law_places_of, ↓e_asPs_zero, ↓e_merge_zero, ↓u__law_balances, ↓u__law_others, ↓u__law_lying, ↓u__law_came, ↓reduceIte, ↓oQ_s, startD, permL, List.map_cons, List.map_nil, List.length_cons, List.length_nil, List.replicate, List.getElem?_cons_succ, List.getElem?_cons_zero, List.cons_append, List.nil_append, List.set_cons_succ, List.set_cons_zero, Nat.reduceAdd, Nat.reduceSub, Nat.reduceEqDiff, wipeD, List.filterMap_cons, List.filterMap_nil, List.length_range, List.getElem?_map, Int.zero_add, List.length_map, List.eraseIdx_cons_zero, Bool.and_true, Bool.true_and, Bool.and_false, Bool.false_and, oQ_s, oQ_n, if_t, if_f, dEq, dNe, bv_int, bv_bl, bv_str, bv_tup, bv_lst, bv_non, eqD_int, eqD_str, eqD_bl, atI0, atI1, atI2, atI3, atI4, atI_nat, atI_nat', atI_succ, ok_int, ok_bl, ok_nil, sto_at, sto_at0, sto_set, sto_set0, Option.isSome_some, Option.isSome_none, Bool.false_eq_true, or_false, false_or, true_or, or_true, Option.map_some, Option.map_none, true_and, and_true, false_and, and_false, Bool.not_true, Bool.not_false, reduceIte, decide_true, decide_false, Bool.decide_eq_true, Bool.decide_eq_false, Bool.not_not, eq_self, reduceCtorEq, Int.reduceEq, Int.reduceLT, Int.reduceLE, u_neg, e_lc, e_lcB_if, e_lcB_ifn, e_lcB_t, e_lcB_if2, e_noG, e_lc_nil, e_lc_cons, e_for_nil, e_nx, e_dc, e_dcB_s, e_rt, e_rtF, e_frzR, e_frzR0, e_xq, e_sb_int, e_sb_bl, e_sb_str, e_sb_non, e_sb_scr, e_sb_loc, e_sb_tup, e_sb_ktp, e_sb_lst, e_sb_dct, e_sb_dcT, e_sbL_nil, e_sbK_nil, e_sbL_cons, e_sbL_ints, e_sbL_strs, e_sbL_bls, e_frz_l0, e_frz_d0, e_frz_l1, e_frz_d1, e_frz_l2, e_asS_tup, e_asS_ktp, e_asS_lst, e_asS_scr, e_asS_int, e_asS_non, e_asS_bl, e_asS_str, e_asS_dct, e_asD_dct, e_asD_int, e_asD_str, e_asD_lst, e_asD_tup, e_asDT_str, e_asL_lst, e_asL_tup, e_asL_ktp, e_asL_dct, e_asL_int, e_asL_bl, e_asL_str, e_asL_non, e_asL_loc, e_asS_loc, e_asD_loc, e_obL_s, e_obL_d, e_obD_s, e_obD_l, e_asK_str, e_asK_int, e_asI_int, e_asTK_tup, e_asTK_ktp, e_asLoc_loc, e_lstOf_lst, e_lstOf_tup, e_itOf_tup, e_itOf_ktp, e_itOf_lst, e_itOf_scr, e_itOf_str, e_alL_f, e_alL_t, e_alD_f, e_alD_t, e_kn_bool, e_kn_int, e_kn_str, e_kn_tuple, e_kn_list, e_kn_dict, e_su_ib, e_su_ii, e_su_ss, e_su_tt, e_sz0, e_sz1, e_sz2, e_sz3, e_sz4, e_sz5, e_sz6, e_sz7, e_sz8, e_sz9, e_sz10, e_sz11, e_sz12, e_app, e_iteT, e_iteF, e_new_len, e_new_len2, e_new_two, e_new_three, e_len_map, e_asBls, e_asStrs, e_asInts, e_asStrs0, e_asInts0, e_asBls0, e_all_id, e_any_id, e_sum, e_all, e_any, e_max1l, e_min1l, e_max2, e_min2, e_ixN0, e_bv_loc, e_bvO_l, e_bvO_d, e_eq_nn, e_eq_cn, e_ok_intsL, e_onB, e_oQ_map, e_inT, e_inK, e_inL, e_ninT, e_ninL, e_setS, e_in1, e_chr_len, ec_oQh, e_take_map, e_drop_map, e_rev_map, e_app_map, e_eqTT, e_eqLL, e_eqL_nil, e_eqL_cons, e_eqL_nc, e_eqL_cn, e_eqL_strs, e_eqL_ints, e_eqL_m0, e_eqL0, e_eqT0, e_wSkip, e_wSeq, e_wDrop, e_wRet, e_wRetN, e_wBrk, e_wCnt, e_wIfS, e_wSet, e_wTup, e_tg_nm, e_tg_tp, e_setAll_n, e_setAll_c, e_vQ, e_wVar, e_wC, e_wNil, e_wCons, e_wB1, e_wB2, e_wAnd, e_wOr, e_wNot, e_wIf, e_wB, e_wChain, e_wAndV, e_wOrV, e_wNotV, e_wP, e_wGet2, e_getQ_d, e_getQ_l, e_getO_d, e_getO_t, e_wSl, e_wM, e_pop, e_popi, e_wCall, e_wCallK, e_wLc, e_wDc, e_wSeqI, e_wRng1, e_wRng2, e_wEnum, e_enumI, e_wZip, e_wFor, e_wYes, e_wPut, e_wDisp, e_disp_n, e_disp_c, e_wRaise, e_wDict0, e_spb, e_c0, e_c1, e_c2, e_c3, e_c4, e_c5, e_c6, e_c7, e_c8, e_add_i, e_add_s, e_add_t, e_add_l, e_sub_i, e_mul_i, e_mul_l, e_fdiv_i, e_mod_i, e_pow_i, e_neg_i, e_lt_i, e_lt_s, e_le_i, e_gt_i, e_ge_i, e_is_n, e_is_b, e_isN_n, e_isN_b, e_isNon_n, e_isNon_i, e_isNon_s, e_isNon_t, e_isNon_l, e_isNon_b, e_ix_t, e_ix_k, e_ix_l, e_ix_ds, e_ix_di, e_ix_s, e_obDT_l, e_obDT_d, e_obDT_t, e_obD_t, e_obL_t, e_ix_loc, e_ixO_l, e_ixO_d, e_ixO_t, e_len_loc, e_lenO_l, e_lenO_d, e_lenO_t, e_tuple_loc, e_list_loc, e_listO_l, e_listO_d, e_list_d, e_add_ll, e_sl_loc, e_tup, e_lst, e_len_t, e_len_k, e_len_l, e_len_d, e_len_r, e_len_s, e_abs, e_int_i, e_int_b, e_tuple_t, e_tuple_l, e_list_t, e_list_l, e_dict_d, e_dict_l, e_sorted_l, e_isi, e_ty_n, e_ty_b, e_ty_i, e_ty_s, e_ty_t, e_ty_l, e_ty_d, e_sl_t, e_sl_l, e_rev_t, e_rev_l, e_cut_to1, e_cut_from1, e_cut_to, e_cut_from, ec_ok_str, ec_szle, ec_szlt, ec_rng1, ec_rng2, e_wopt_n, e_intQ, e_wopt_s, e_blQ, e_wT, e_putD0, e_putD1, e_putL0, e_putL1, e_setS_f, e_setS_a, e_wd_in, e_wd_mv, e_ok_wd, e_ok_in, e_ok_move, e_en_S, e_en_TK, e_en_L, e_en_ty, e_en_bv, e_en_sb, e_ens_sb, e_bal_sb, e_bals_sb, e_en_isNon, e_en_ix0, e_en_ix1, e_en_ix2, e_en_ix3, e_own, e_pl, ec_own64, ec_pl64, ec_es_sz, e_eqL_ens, e_getD_bal, e_put_bal, e_balK_len, ec_val_mem, e_getput, e_sorted_bal, e_asS_dw, e_asD_dw, e_v_large, e_v_cells, e_v_rest, e_v_turn, e_dw_0, e_dw_1, e_dw_set0, e_put_rest, e_put_turn, u_is_number, u_is_wordT, u_is_word1, u_is_word2, u_is_row, u_is_row_en, u_is_name, u_are_ascending, u_is_lot_of, u_owners_in, u_places_in, u_came_of, u_behind, u_is_entry, e_zero_pl, e_walk_last, e_walk_len, ec_ok_ens, ec_ok_led, ec_ok_pl, ec_ok_own, ec_ok_plT, ec_ok_ownT, ec_minV_bal, u_balances_of, u_is_ledger, u_check_ledger, u_owners_of, u_places_of, u_check_some, u_check_where, u_check_place, u_check_moment, u_others_of, e_bals_last, u_lying_at_end, e_led_sb, u_owners, u_places, u_others, u_balance, u_lying, u_came, u_begun, e_c18, u__law_behind, u__law_owners_of, u__law_places_of, e_asPs_zero, e_merge_zero, u__law_balances, u__law_others, u__law_lying, u__law_came])

--# _law_lot
theorem srtS_rise {xs : List Str} (h : xs.Pairwise fun a b => strLt a b = true) : srtS xs = xs :=
  (perm_one (fun a b => leS_anti) (srtS_perm xs).symm (h.imp fun h => leS_of h) (srtS_pw xs)).symm
theorem d_lot {T : Sto} {xs : List Str} (hl : xs.length ≤ 60) (hp : xs.Pairwise fun a b => strLt a b = true) (hD : DrawS T S) (q : ∀ (ys : List Str) S', ys.Sublist xs → DrawS T S' → Q (.tup (ys.map D.str)) S') : sp__law_lot [.loc 1, .tup (xs.map D.str)] S Q Ex := by
  unfold sp__law_lot rd__law_lot
  walk_at "ev"
  refine lcB_inv (fun l a S' => ∃ ys : List Str, a = ys.map D.str ∧ (∀ r, r.Sublist l → (ys ++ r).Sublist xs) ∧ DrawS T S') (fun _ _ _ _ => trivial) ?_ ?_ ⟨[], rfl, fun r hr => hr, hD⟩
  · rintro x l a S' ⟨ys, rfl, hs, hD1⟩ Ky Kn k1 k2
    refine d_take (by decide) (by decide) hD1 fun r S2 h1 h2 hD2 => ?_
    walk_at "ev"
    split
    · refine k1 _ _ ⟨ys ++ [x], by rw [List.map_append]; rfl, fun r hr => ?_, hD2⟩
      rw [List.append_assoc]
      exact hs _ (hr.cons_cons x)
    · exact k2 _ ⟨ys, rfl, fun r hr => hs _ (hr.cons x), hD2⟩
  · rintro a S' ⟨ys, rfl, hs, hD1⟩
    have hsub : ys.Sublist xs := by
      have := hs [] (.refl _)
      rwa [List.append_nil] at this
    have hl2 : ys.length < 64 := by
      have := hsub.length_le
      omega
    walk_at "ev"
    rw [srtS_rise (hp.sublist hsub), frz_dr0 hD hD1]
    exact ⟨hl2, q _ _ hsub hD1⟩
--# _law_entry
def Drawn (few sites : List Str) (bs : Bal) (e : En) : Prop := e.b ∈ sites ∧ 1 ≤ e.n ∧ e.n ≤ 1000000000 ∧
  (if e.mv = true then e.a ∈ bs.map (·.1) ∧ e.n ≤ getB bs e.a ∧ e.a ≠ e.b else e.a ∈ few)
theorem c9 : CPow 10 9 := ⟨by decide, by decide, by decide⟩
theorem e_c9 : CPow 10 9 = True := eq_true c9
theorem e_p9 : (10 : Int) ^ Int.toNat 9 = 1000000000 := by decide +kernel
local macro_rules | `(tactic| walk_at "ev") => `(tactic| try simp (maxSteps := 4000000) (dsimp := false) (implicitDefEqProofs := false) (disch := first | assumption | (show (_ : Nat) ≤ _; omega) | (show (_ : Int) ≤ _ ∧ _; omega)) only [↓u_neg, ↓e_lc, ↓e_lcB_if, ↓e_lcB_ifn, ↓e_lcB_t, ↓e_lcB_if2, ↓e_noG, ↓e_lc_nil, ↓e_lc_cons, ↓e_for_nil, ↓e_nx, ↓e_dc, ↓e_dcB_s, ↓e_rt, ↓e_rtF, ↓e_frzR, ↓e_frzR0, ↓e_xq, ↓e_sb_int, ↓e_sb_bl, ↓e_sb_str, ↓e_sb_non, ↓e_sb_scr, ↓e_sb_loc, ↓e_sb_tup, ↓e_sb_ktp, ↓e_sb_lst, ↓e_sb_dct, ↓e_sb_dcT, ↓e_sbL_nil, ↓e_sbK_nil, ↓e_sbL_cons, ↓e_sbL_ints, ↓e_sbL_strs, ↓e_sbL_bls, ↓e_frz_l0, ↓e_frz_d0, ↓e_frz_l1, ↓e_frz_d1, ↓e_frz_l2, ↓e_asS_tup, ↓e_asS_ktp, ↓e_asS_lst, ↓e_asS_scr, ↓e_asS_int, ↓e_asS_non, ↓e_asS_bl, ↓e_asS_str, ↓e_asS_dct, ↓e_asD_dct, ↓e_asD_int, ↓e_asD_str, ↓e_asD_lst, ↓e_asD_tup, ↓e_asDT_str, ↓e_asL_lst, ↓e_asL_tup, ↓e_asL_ktp, ↓e_asL_dct, ↓e_asL_int, ↓e_asL_bl, ↓e_asL_str, ↓e_asL_non, ↓e_asL_loc, ↓e_asS_loc, ↓e_asD_loc, ↓e_obL_s, ↓e_obL_d, ↓e_obD_s, ↓e_obD_l, ↓e_asK_str, ↓e_asK_int, ↓e_asI_int, ↓e_asTK_tup, ↓e_asTK_ktp, ↓e_asLoc_loc, ↓e_lstOf_lst, ↓e_lstOf_tup, ↓e_itOf_tup, ↓e_itOf_ktp, ↓e_itOf_lst, ↓e_itOf_scr, ↓e_itOf_str, ↓e_alL_f, ↓e_alL_t, ↓e_alD_f, ↓e_alD_t, ↓e_kn_bool, ↓e_kn_int, ↓e_kn_str, ↓e_kn_tuple, ↓e_kn_list, ↓e_kn_dict, ↓e_su_ib, ↓e_su_ii, ↓e_su_ss, ↓e_su_tt, ↓e_sz0, ↓e_sz1, ↓e_sz2, ↓e_sz3, ↓e_sz4, ↓e_sz5, ↓e_sz6, ↓e_sz7, ↓e_sz8, ↓e_sz9, ↓e_sz10, ↓e_sz11, ↓e_sz12, ↓e_app, ↓e_iteT, ↓e_iteF, ↓e_new_len, ↓e_new_len2, ↓e_new_two, ↓e_new_three, ↓e_len_map, ↓e_asBls, ↓e_asStrs, ↓e_asInts, ↓e_asStrs0, ↓e_asInts0, ↓e_asBls0, ↓e_all_id, ↓e_any_id, ↓e_sum, ↓e_all, ↓e_any, ↓e_max1l, ↓e_min1l, ↓e_max2, ↓e_min2, ↓e_ixN0, ↓e_bv_loc, ↓e_bvO_l, ↓e_bvO_d, ↓e_eq_nn, ↓e_eq_cn, ↓e_ok_intsL, ↓e_onB, ↓e_oQ_map, ↓e_inT, ↓e_inK, ↓e_inL, ↓e_ninT, ↓e_ninL, ↓e_setS, ↓e_in1, ↓e_chr_len, ↓e_take_map, ↓e_drop_map, ↓e_rev_map, ↓e_app_map, ↓e_eqTT, ↓e_eqLL, ↓e_eqL_nil, ↓e_eqL_cons, ↓e_eqL_nc, ↓e_eqL_cn, ↓e_eqL_strs, ↓e_eqL_ints, ↓e_eqL_m0, ↓e_eqL0, ↓e_eqT0, ↓e_wSkip, ↓e_wSeq, ↓e_wDrop, ↓e_wRet, ↓e_wRetN, ↓e_wBrk, ↓e_wCnt, ↓e_wIfS, ↓e_wSet, ↓e_wTup, ↓e_tg_nm, ↓e_tg_tp, ↓e_setAll_n, ↓e_setAll_c, ↓e_vQ, ↓e_wVar, ↓e_wC, ↓e_wNil, ↓e_wCons, ↓e_wB1, ↓e_wB2, ↓e_wAnd, ↓e_wOr, ↓e_wNot, ↓e_wIf, ↓e_wB, ↓e_wChain, ↓e_wAndV, ↓e_wOrV, ↓e_wNotV, ↓e_wP, ↓e_wGet2, ↓e_getQ_d, ↓e_getQ_l, ↓e_getO_d, ↓e_getO_t, ↓e_wSl, ↓e_wM, ↓e_pop, ↓e_popi, ↓e_wCall, ↓e_wCallK, ↓e_wLc, ↓e_wDc, ↓e_wSeqI, ↓e_wRng1, ↓e_wRng2, ↓e_wEnum, ↓e_enumI, ↓e_wZip, ↓e_wFor, ↓e_wYes, ↓e_wPut, ↓e_wDisp, ↓e_disp_n, ↓e_disp_c, ↓e_wRaise, ↓e_wDict0, ↓e_spb, ↓e_c0, ↓e_c1, ↓e_c2, ↓e_c3, ↓e_c4, ↓e_c5, ↓e_c6, ↓e_c7, ↓e_c8, ↓e_add_i, ↓e_add_s, ↓e_add_t, ↓e_add_l, ↓e_sub_i, ↓e_mul_i, ↓e_mul_l, ↓e_fdiv_i, ↓e_mod_i, ↓e_pow_i, ↓e_neg_i, ↓e_lt_i, ↓e_lt_s, ↓e_le_i, ↓e_gt_i, ↓e_ge_i, ↓e_is_n, ↓e_is_b, ↓e_isN_n, ↓e_isN_b, ↓e_isNon_n, ↓e_isNon_i, ↓e_isNon_s, ↓e_isNon_t, ↓e_isNon_l, ↓e_isNon_b, ↓e_ix_t, ↓e_ix_k, ↓e_ix_l, ↓e_ix_ds, ↓e_ix_di, ↓e_ix_s, ↓e_obDT_l, ↓e_obDT_d, ↓e_obDT_t, ↓e_obD_t, ↓e_obL_t, ↓e_ix_loc, ↓e_ixO_l, ↓e_ixO_d, ↓e_ixO_t, ↓e_len_loc, ↓e_lenO_l, ↓e_lenO_d, ↓e_lenO_t, ↓e_tuple_loc, ↓e_list_loc, ↓e_listO_l, ↓e_listO_d, ↓e_list_d, ↓e_add_ll, ↓e_sl_loc, ↓e_tup, ↓e_lst, ↓e_len_t, ↓e_len_k, ↓e_len_l, ↓e_len_d, ↓e_len_r, ↓e_len_s, ↓e_abs, ↓e_int_i, ↓e_int_b, ↓e_tuple_t, ↓e_tuple_l, ↓e_list_t, ↓e_list_l, ↓e_dict_d, ↓e_dict_l, ↓e_sorted_l, ↓e_isi, ↓e_ty_n, ↓e_ty_b, ↓e_ty_i, ↓e_ty_s, ↓e_ty_t, ↓e_ty_l, ↓e_ty_d, ↓e_sl_t, ↓e_sl_l, ↓e_rev_t, ↓e_rev_l, ↓e_cut_to1, ↓e_cut_from1, ↓e_cut_to, ↓e_cut_from, ↓e_wopt_n, ↓e_intQ, ↓e_wopt_s, ↓e_blQ, ↓e_wT, ↓e_putD0, ↓e_putD1, ↓e_putL0, ↓e_putL1, ↓e_setS_f, ↓e_setS_a, ↓e_wd_in, ↓e_wd_mv, ↓e_ok_wd, ↓e_ok_in, ↓e_ok_move, ↓e_en_S, ↓e_en_TK, ↓e_en_L, ↓e_en_ty, ↓e_en_bv, ↓e_en_sb, ↓e_ens_sb, ↓e_bal_sb, ↓e_bals_sb, ↓e_en_isNon, ↓e_en_ix0, ↓e_en_ix1, ↓e_en_ix2, ↓e_en_ix3, ↓e_own, ↓e_pl, ↓e_eqL_ens, ↓e_getD_bal, ↓e_put_bal, ↓e_balK_len, ↓e_getput, ↓e_sorted_bal, ↓e_asS_dw, ↓e_asD_dw, ↓e_v_large, ↓e_v_cells, ↓e_v_rest, ↓e_v_turn, ↓e_dw_0, ↓e_dw_1, ↓e_dw_set0, ↓e_put_rest, ↓e_put_turn, ↓u_is_number, ↓u_is_wordT, ↓u_is_word1, ↓u_is_word2, ↓u_is_row, ↓u_is_row_en, ↓u_is_name, ↓u_are_ascending, ↓u_is_lot_of, ↓u_owners_in, ↓u_places_in, ↓u_came_of, ↓u_behind, ↓u_is_entry, ↓e_zero_pl, ↓e_walk_last, ↓e_walk_len, ↓u_balances_of, ↓u_is_ledger, ↓u_check_ledger, ↓u_owners_of, ↓u_places_of, ↓u_check_some, ↓u_check_where, ↓u_check_place, ↓u_check_moment, ↓u_others_of, ↓e_bals_last, ↓u_lying_at_end, ↓e_led_sb, ↓u_owners, ↓u_places, ↓u_others, ↓u_balance, ↓u_lying, ↓u_came, ↓u_begun, ↓e_c18, ↓u__law_behind, ↓u__law_owners_of, ↓u__law_places_of, ↓e_asPs_zero, ↓e_merge_zero, ↓u__law_balances, ↓u__law_others, ↓u__law_lying, ↓u__law_came, ↓e_c9, ↓e_p9, ↓reduceIte, ↓oQ_s, startD, permL, List.map_cons, List.map_nil, List.length_cons, List.length_nil, List.replicate, List.getElem?_cons_succ, List.getElem?_cons_zero, List.cons_append, List.nil_append, List.set_cons_succ, List.set_cons_zero, Nat.reduceAdd, Nat.reduceSub, Nat.reduceEqDiff, wipeD, List.filterMap_cons, List.filterMap_nil, List.length_range, List.getElem?_map, Int.zero_add, List.length_map, List.eraseIdx_cons_zero, Bool.and_true, Bool.true_and, Bool.and_false, Bool.false_and, oQ_s, oQ_n, if_t, if_f, dEq, dNe, bv_int, bv_bl, bv_str, bv_tup, bv_lst, bv_non, eqD_int, eqD_str, eqD_bl, atI0, atI1, atI2, atI3, atI4, atI_nat, atI_nat', atI_succ, ok_int, ok_bl, ok_nil, sto_at, sto_at0, sto_set, sto_set0, Option.isSome_some, Option.isSome_none, Bool.false_eq_true, or_false, false_or, true_or, or_true, Option.map_some, Option.map_none, true_and, and_true, false_and, and_false, Bool.not_true, Bool.not_false, reduceIte, decide_true, decide_false, Bool.decide_eq_true, Bool.decide_eq_false, Bool.not_not, eq_self, reduceCtorEq, Int.reduceEq, Int.reduceLT, Int.reduceLE, u_neg, e_lc, e_lcB_if, e_lcB_ifn, e_lcB_t, e_lcB_if2, e_noG, e_lc_nil, e_lc_cons, e_for_nil, e_nx, e_dc, e_dcB_s, e_rt, e_rtF, e_frzR, e_frzR0, e_xq, e_sb_int, e_sb_bl, e_sb_str, e_sb_non, e_sb_scr, e_sb_loc, e_sb_tup, e_sb_ktp, e_sb_lst, e_sb_dct, e_sb_dcT, e_sbL_nil, e_sbK_nil, e_sbL_cons, e_sbL_ints, e_sbL_strs, e_sbL_bls, e_frz_l0, e_frz_d0, e_frz_l1, e_frz_d1, e_frz_l2, e_asS_tup, e_asS_ktp, e_asS_lst, e_asS_scr, e_asS_int, e_asS_non, e_asS_bl, e_asS_str, e_asS_dct, e_asD_dct, e_asD_int, e_asD_str, e_asD_lst, e_asD_tup, e_asDT_str, e_asL_lst, e_asL_tup, e_asL_ktp, e_asL_dct, e_asL_int, e_asL_bl, e_asL_str, e_asL_non, e_asL_loc, e_asS_loc, e_asD_loc, e_obL_s, e_obL_d, e_obD_s, e_obD_l, e_asK_str, e_asK_int, e_asI_int, e_asTK_tup, e_asTK_ktp, e_asLoc_loc, e_lstOf_lst, e_lstOf_tup, e_itOf_tup, e_itOf_ktp, e_itOf_lst, e_itOf_scr, e_itOf_str, e_alL_f, e_alL_t, e_alD_f, e_alD_t, e_kn_bool, e_kn_int, e_kn_str, e_kn_tuple, e_kn_list, e_kn_dict, e_su_ib, e_su_ii, e_su_ss, e_su_tt, e_sz0, e_sz1, e_sz2, e_sz3, e_sz4, e_sz5, e_sz6, e_sz7, e_sz8, e_sz9, e_sz10, e_sz11, e_sz12, e_app, e_iteT, e_iteF, e_new_len, e_new_len2, e_new_two, e_new_three, e_len_map, e_asBls, e_asStrs, e_asInts, e_asStrs0, e_asInts0, e_asBls0, e_all_id, e_any_id, e_sum, e_all, e_any, e_max1l, e_min1l, e_max2, e_min2, e_ixN0, e_bv_loc, e_bvO_l, e_bvO_d, e_eq_nn, e_eq_cn, e_ok_intsL, e_onB, e_oQ_map, e_inT, e_inK, e_inL, e_ninT, e_ninL, e_setS, e_in1, e_chr_len, ec_oQh, e_take_map, e_drop_map, e_rev_map, e_app_map, e_eqTT, e_eqLL, e_eqL_nil, e_eqL_cons, e_eqL_nc, e_eqL_cn, e_eqL_strs, e_eqL_ints, e_eqL_m0, e_eqL0, e_eqT0, e_wSkip, e_wSeq, e_wDrop, e_wRet, e_wRetN, e_wBrk, e_wCnt, e_wIfS, e_wSet, e_wTup, e_tg_nm, e_tg_tp, e_setAll_n, e_setAll_c, e_vQ, e_wVar, e_wC, e_wNil, e_wCons, e_wB1, e_wB2, e_wAnd, e_wOr, e_wNot, e_wIf, e_wB, e_wChain, e_wAndV, e_wOrV, e_wNotV, e_wP, e_wGet2, e_getQ_d, e_getQ_l, e_getO_d, e_getO_t, e_wSl, e_wM, e_pop, e_popi, e_wCall, e_wCallK, e_wLc, e_wDc, e_wSeqI, e_wRng1, e_wRng2, e_wEnum, e_enumI, e_wZip, e_wFor, e_wYes, e_wPut, e_wDisp, e_disp_n, e_disp_c, e_wRaise, e_wDict0, e_spb, e_c0, e_c1, e_c2, e_c3, e_c4, e_c5, e_c6, e_c7, e_c8, e_add_i, e_add_s, e_add_t, e_add_l, e_sub_i, e_mul_i, e_mul_l, e_fdiv_i, e_mod_i, e_pow_i, e_neg_i, e_lt_i, e_lt_s, e_le_i, e_gt_i, e_ge_i, e_is_n, e_is_b, e_isN_n, e_isN_b, e_isNon_n, e_isNon_i, e_isNon_s, e_isNon_t, e_isNon_l, e_isNon_b, e_ix_t, e_ix_k, e_ix_l, e_ix_ds, e_ix_di, e_ix_s, e_obDT_l, e_obDT_d, e_obDT_t, e_obD_t, e_obL_t, e_ix_loc, e_ixO_l, e_ixO_d, e_ixO_t, e_len_loc, e_lenO_l, e_lenO_d, e_lenO_t, e_tuple_loc, e_list_loc, e_listO_l, e_listO_d, e_list_d, e_add_ll, e_sl_loc, e_tup, e_lst, e_len_t, e_len_k, e_len_l, e_len_d, e_len_r, e_len_s, e_abs, e_int_i, e_int_b, e_tuple_t, e_tuple_l, e_list_t, e_list_l, e_dict_d, e_dict_l, e_sorted_l, e_isi, e_ty_n, e_ty_b, e_ty_i, e_ty_s, e_ty_t, e_ty_l, e_ty_d, e_sl_t, e_sl_l, e_rev_t, e_rev_l, e_cut_to1, e_cut_from1, e_cut_to, e_cut_from, ec_ok_str, ec_szle, ec_szlt, ec_rng1, ec_rng2, e_wopt_n, e_intQ, e_wopt_s, e_blQ, e_wT, e_putD0, e_putD1, e_putL0, e_putL1, e_setS_f, e_setS_a, e_wd_in, e_wd_mv, e_ok_wd, e_ok_in, e_ok_move, e_en_S, e_en_TK, e_en_L, e_en_ty, e_en_bv, e_en_sb, e_ens_sb, e_bal_sb, e_bals_sb, e_en_isNon, e_en_ix0, e_en_ix1, e_en_ix2, e_en_ix3, e_own, e_pl, ec_own64, ec_pl64, ec_es_sz, e_eqL_ens, e_getD_bal, e_put_bal, e_balK_len, ec_val_mem, e_getput, e_sorted_bal, e_asS_dw, e_asD_dw, e_v_large, e_v_cells, e_v_rest, e_v_turn, e_dw_0, e_dw_1, e_dw_set0, e_put_rest, e_put_turn, u_is_number, u_is_wordT, u_is_word1, u_is_word2, u_is_row, u_is_row_en, u_is_name, u_are_ascending, u_is_lot_of, u_owners_in, u_places_in, u_came_of, u_behind, u_is_entry, e_zero_pl, e_walk_last, e_walk_len, ec_ok_ens, ec_ok_led, ec_ok_pl, ec_ok_own, ec_ok_plT, ec_ok_ownT, ec_minV_bal, u_balances_of, u_is_ledger, u_check_ledger, u_owners_of, u_places_of, u_check_some, u_check_where, u_check_place, u_check_moment, u_others_of, e_bals_last, u_lying_at_end, e_led_sb, u_owners, u_places, u_others, u_balance, u_lying, u_came, u_begun, e_c18, u__law_behind, u__law_owners_of, u__law_places_of, e_asPs_zero, e_merge_zero, u__law_balances, u__law_others, u__law_lying, u__law_came, e_c9, e_p9])

theorem d_entry {T : Sto} {few sites : List Str} {bs : Bal} {high : Int} (h1 : few ≠ []) (h2 : few.length ≤ 6) (h3 : sites ≠ []) (h4 : sites.length ≤ 6) (h5 : sites.Nodup) (h6 : bs.length ≤ 6) (h7 : (bs.map (·.1)).Nodup) (h8 : 1 ≤ high) (h9 : high ≤ 1000000000)
    (hok : ∀ x ∈ few ++ sites ++ bs.map (·.1), PyData.strOk x = true) (hD : DrawS T S) (q : ∀ e S', Drawn few sites bs e → DrawS T S' → Q e.d S') : sp__law_entry [.loc 1, .lst (few.map D.str), .lst (sites.map D.str), .dct (balK bs), .int high] S Q Ex := by
  unfold sp__law_entry rd__law_entry
  have hk := srtS_perm (bs.map (·.1))
  have hl := hk.length_eq
  rw [List.length_map] at hl
  walk_at "ev"
  refine ⟨by omega, ?_⟩
  rw [lcB_at (fun x => decide (0 < getB bs x)) D.str (fun x hx Ky Kn => by
    rw [val_mem (hk.mem_iff.mp hx)]
    rfl)]
  have hf : ∀ x ∈ (srtS (bs.map (·.1))).filter (fun x => decide (0 < getB bs x)), x ∈ bs.map (·.1) ∧ 0 < getB bs x := fun x hx => by
    obtain ⟨a, b⟩ := List.mem_filter.mp hx
    exact ⟨hk.mem_iff.mp a, of_decide_eq_true b⟩
  have hfl := filt_len (p := fun x => decide (0 < getB bs x)) (xs := srtS (bs.map (·.1)))
  generalize (srtS (bs.map (·.1))).filter (fun x => decide (0 < getB bs x)) = full at hf hfl
  have hkf := ok_strs (xs := full) (fun x hx => hok x (List.mem_append_right _ (hf x hx).1))
  walk_at "ev"
  refine ⟨hkf, ?_⟩
  split
  · clear hkf
    refine d_pick_s h1 (by omega) hD fun x S1 hx hD1 => ?_
    refine d_pick_s h3 (by omega) hD1 fun y S2 hy hD2 => ?_
    refine d_take (by omega) (by omega) hD2 fun r S3 r1 r2 hD3 => ?_
    walk_at "ev"
    rw [frz_dr0 hD hD3]
    exact q ⟨false, x, y, 1 + r⟩ S3 ⟨hy, by show 1 ≤ 1 + r; omega, by show 1 + r ≤ _; omega, hx⟩ hD3
  split
  · clear hkf
    refine d_pick_s h1 (by omega) hD fun x S1 hx hD1 => ?_
    refine d_pick_s h3 (by omega) hD1 fun y S2 hy hD2 => ?_
    refine d_take (by omega) (by omega) hD2 fun r S3 r1 r2 hD3 => ?_
    walk_at "ev"
    rw [frz_dr0 hD hD3]
    exact q ⟨false, x, y, 1 + r⟩ S3 ⟨hy, by show 1 ≤ 1 + r; omega, by show 1 + r ≤ _; omega, hx⟩ hD3
  rename_i c1 c2
  have c1 : full ≠ [] := by simpa using c1
  have c2 : ¬ (sites.length : Int) < 2 := by simpa using c2
  refine d_take (by decide) (by decide) hD fun r0 S0 _ _ hD0 => ?_
  walk_at "ev"
  split
  · clear hkf
    refine d_pick_s h1 (by omega) hD0 fun x S1 hx hD1 => ?_
    refine d_pick_s h3 (by omega) hD1 fun y S2 hy hD2 => ?_
    refine d_take (by omega) (by omega) hD2 fun r S3 r1 r2 hD3 => ?_
    walk_at "ev"
    rw [frz_dr0 hD hD3]
    exact q ⟨false, x, y, 1 + r⟩ S3 ⟨hy, by show 1 ≤ 1 + r; omega, by show 1 + r ≤ _; omega, hx⟩ hD3
  refine d_pick_s c1 (by omega) hD0 fun x S1 hx hD1 => ?_
  obtain ⟨hx1, hx2⟩ := hf x hx
  have hko : okD (.str x) = true := ok_str (hok x (List.mem_append_right _ hx1))
  have fin : ∀ (many : Int) S4, 1 ≤ many → many ≤ 1000000000 → many ≤ getB bs x → DrawS T S4 → ∀ y, y ∈ sites → x ≠ y → Q (.tup [.str "move", .str x, .str y, .int many]) S4 := fun many S4 m1 m2 m3 hD4 y hy hxy => q ⟨true, x, y, many⟩ S4 ⟨hy, m1, m2, hx1, m3, hxy⟩ hD4
  have hsites : ∀ S3, DrawS T S3 → ∀ (K : D → Sto → Prop) (Ey : Xn → Sto → Prop), (∀ y S4, y ∈ sites → x ≠ y → DrawS T S4 → K (.str y) S4) → sp__law_pick [.loc 1, .lst ((sites.filter fun y => !decide (y = x)).map D.str)] S3 K Ey := fun S3 hD3 K Ey hK => by
    have hne : sites.filter (fun y => !decide (y = x)) ≠ [] := fun z => by
      have hall : ∀ y ∈ sites, y = x := fun y hy => by
        have := List.filter_eq_nil_iff.mp z y hy
        simpa using this
      cases sites with
      | nil => exact h3 rfl
      | cons a r =>
        cases r with
        | nil => exact c2 (by show ((1 : Nat) : Int) < 2; decide)
        | cons b r =>
          have e1 := hall a List.mem_cons_self
          have e2 := hall b (List.mem_cons_of_mem _ List.mem_cons_self)
          exact (List.nodup_cons.mp h5).1 (by rw [e1, e2]; exact List.mem_cons_self)
    have hle := filt_len (p := fun y => !decide (y = x)) (xs := sites)
    refine d_pick_s hne (by omega) hD3 fun y S4 hy hD4 => ?_
    obtain ⟨hy1, hy2⟩ := List.mem_filter.mp hy
    have hxy : x ≠ y := fun e => by
      rw [e] at hy2
      simp at hy2
    exact hK y S4 hy1 hxy hD4
  have hlc : ∀ {Kd : List D → Sto → Prop} {S3 : Sto}, Kd ((sites.filter fun y => !decide (y = x)).map D.str) S3 → lcB noG (fun y S Ky Kn => okD (.str y) = true ∧ okD (.str x) = true ∧ if (!decide (y = x)) = true then Ky (.str y) S else Kn S) Kd sites [] S3 := fun {Kd S3} h => by
    rw [lcB_at (fun y => !decide (y = x)) D.str (fun y hy Ky Kn => by
      have hky : okD (.str y) = true := ok_str (hok y (List.mem_append_left _ (List.mem_append_right _ hy)))
      simp only [hky, hko, true_and])]
    exact ⟨trivial, h⟩
  refine d_take (by decide) (by decide) hD1 fun r1 S2 _ _ hD2 => ?_
  walk_at "ev"
  split
  · walk_at "ev"
    refine hlc ?_
    walk_at "ev"
    refine hsites S2 hD2 _ _ fun y S4 hy hxy hD4 => ?_
    walk_at "ev"
    rw [frz_dr0 hD hD4]
    exact fin _ S4 (by split <;> omega) (by split <;> omega) (by split <;> omega) hD4 y hy hxy
  · walk_at "ev"
    refine d_take (by split <;> omega) (by split <;> omega) hD2 fun r2 S3 q1 q2 hD3 => ?_
    walk_at "ev"
    refine hlc ?_
    walk_at "ev"
    refine hsites S3 hD3 _ _ fun y S4 hy hxy hD4 => ?_
    walk_at "ev"
    rw [frz_dr0 hD hD4]
    exact fin _ S4 (by omega) (by split at q2 <;> omega) (by split at q2 <;> omega) hD4 y hy hxy

end DL

set_option Elab.async false
set_option linter.all false
set_option maxRecDepth 100000
set_option maxHeartbeats 4000000
namespace DL
open PySem PySem.Spec PyProof.Rows L2 RZ
variable {S : Sto} {Q : D → Sto → Prop} {Ex : Xn → Sto → Prop} {c : Str → Addr}
local macro_rules | `(tactic| walk_at "ev") => `(tactic| try simp (maxSteps := 4000000) (dsimp := false) (implicitDefEqProofs := false) (disch := first | assumption | (show (_ : Nat) ≤ _; omega) | (show (_ : Int) ≤ _ ∧ _; omega)) only [↓u_neg, ↓e_lc, ↓e_lcB_if, ↓e_lcB_ifn, ↓e_lcB_t, ↓e_lcB_if2, ↓e_noG, ↓e_lc_nil, ↓e_lc_cons, ↓e_for_nil, ↓e_nx, ↓e_dc, ↓e_dcB_s, ↓e_rt, ↓e_rtF, ↓e_frzR, ↓e_frzR0, ↓e_xq, ↓e_sb_int, ↓e_sb_bl, ↓e_sb_str, ↓e_sb_non, ↓e_sb_scr, ↓e_sb_loc, ↓e_sb_tup, ↓e_sb_ktp, ↓e_sb_lst, ↓e_sb_dct, ↓e_sb_dcT, ↓e_sbL_nil, ↓e_sbK_nil, ↓e_sbL_cons, ↓e_sbL_ints, ↓e_sbL_strs, ↓e_sbL_bls, ↓e_frz_l0, ↓e_frz_d0, ↓e_frz_l1, ↓e_frz_d1, ↓e_frz_l2, ↓e_asS_tup, ↓e_asS_ktp, ↓e_asS_lst, ↓e_asS_scr, ↓e_asS_int, ↓e_asS_non, ↓e_asS_bl, ↓e_asS_str, ↓e_asS_dct, ↓e_asD_dct, ↓e_asD_int, ↓e_asD_str, ↓e_asD_lst, ↓e_asD_tup, ↓e_asDT_str, ↓e_asL_lst, ↓e_asL_tup, ↓e_asL_ktp, ↓e_asL_dct, ↓e_asL_int, ↓e_asL_bl, ↓e_asL_str, ↓e_asL_non, ↓e_asL_loc, ↓e_asS_loc, ↓e_asD_loc, ↓e_obL_s, ↓e_obL_d, ↓e_obD_s, ↓e_obD_l, ↓e_asK_str, ↓e_asK_int, ↓e_asI_int, ↓e_asTK_tup, ↓e_asTK_ktp, ↓e_asLoc_loc, ↓e_lstOf_lst, ↓e_lstOf_tup, ↓e_itOf_tup, ↓e_itOf_ktp, ↓e_itOf_lst, ↓e_itOf_scr, ↓e_itOf_str, ↓e_alL_f, ↓e_alL_t, ↓e_alD_f, ↓e_alD_t, ↓e_kn_bool, ↓e_kn_int, ↓e_kn_str, ↓e_kn_tuple, ↓e_kn_list, ↓e_kn_dict, ↓e_su_ib, ↓e_su_ii, ↓e_su_ss, ↓e_su_tt, ↓e_sz0, ↓e_sz1, ↓e_sz2, ↓e_sz3, ↓e_sz4, ↓e_sz5, ↓e_sz6, ↓e_sz7, ↓e_sz8, ↓e_sz9, ↓e_sz10, ↓e_sz11, ↓e_sz12, ↓e_app, ↓e_iteT, ↓e_iteF, ↓e_new_len, ↓e_new_len2, ↓e_new_two, ↓e_new_three, ↓e_len_map, ↓e_asBls, ↓e_asStrs, ↓e_asInts, ↓e_asStrs0, ↓e_asInts0, ↓e_asBls0, ↓e_all_id, ↓e_any_id, ↓e_sum, ↓e_all, ↓e_any, ↓e_max1l, ↓e_min1l, ↓e_max2, ↓e_min2, ↓e_ixN0, ↓e_bv_loc, ↓e_bvO_l, ↓e_bvO_d, ↓e_eq_nn, ↓e_eq_cn, ↓e_ok_intsL, ↓e_onB, ↓e_oQ_map, ↓e_inT, ↓e_inK, ↓e_inL, ↓e_ninT, ↓e_ninL, ↓e_setS, ↓e_in1, ↓e_chr_len, ↓e_take_map, ↓e_drop_map, ↓e_rev_map, ↓e_app_map, ↓e_eqTT, ↓e_eqLL, ↓e_eqL_nil, ↓e_eqL_cons, ↓e_eqL_nc, ↓e_eqL_cn, ↓e_eqL_strs, ↓e_eqL_ints, ↓e_eqL_m0, ↓e_eqL0, ↓e_eqT0, ↓e_wSkip, ↓e_wSeq, ↓e_wDrop, ↓e_wRet, ↓e_wRetN, ↓e_wBrk, ↓e_wCnt, ↓e_wIfS, ↓e_wSet, ↓e_wTup, ↓e_tg_nm, ↓e_tg_tp, ↓e_setAll_n, ↓e_setAll_c, ↓e_vQ, ↓e_wVar, ↓e_wC, ↓e_wNil, ↓e_wCons, ↓e_wB1, ↓e_wB2, ↓e_wAnd, ↓e_wOr, ↓e_wNot, ↓e_wIf, ↓e_wB, ↓e_wChain, ↓e_wAndV, ↓e_wOrV, ↓e_wNotV, ↓e_wP, ↓e_wGet2, ↓e_getQ_d, ↓e_getQ_l, ↓e_getO_d, ↓e_getO_t, ↓e_wSl, ↓e_wM, ↓e_pop, ↓e_popi, ↓e_wCall, ↓e_wCallK, ↓e_wLc, ↓e_wDc, ↓e_wSeqI, ↓e_wRng1, ↓e_wRng2, ↓e_wEnum, ↓e_enumI, ↓e_wZip, ↓e_wFor, ↓e_wYes, ↓e_wPut, ↓e_wDisp, ↓e_disp_n, ↓e_disp_c, ↓e_wRaise, ↓e_wDict0, ↓e_spb, ↓e_c0, ↓e_c1, ↓e_c2, ↓e_c3, ↓e_c4, ↓e_c5, ↓e_c6, ↓e_c7, ↓e_c8, ↓e_add_i, ↓e_add_s, ↓e_add_t, ↓e_add_l, ↓e_sub_i, ↓e_mul_i, ↓e_mul_l, ↓e_fdiv_i, ↓e_mod_i, ↓e_pow_i, ↓e_neg_i, ↓e_lt_i, ↓e_lt_s, ↓e_le_i, ↓e_gt_i, ↓e_ge_i, ↓e_is_n, ↓e_is_b, ↓e_isN_n, ↓e_isN_b, ↓e_isNon_n, ↓e_isNon_i, ↓e_isNon_s, ↓e_isNon_t, ↓e_isNon_l, ↓e_isNon_b, ↓e_ix_t, ↓e_ix_k, ↓e_ix_l, ↓e_ix_ds, ↓e_ix_di, ↓e_ix_s, ↓e_obDT_l, ↓e_obDT_d, ↓e_obDT_t, ↓e_obD_t, ↓e_obL_t, ↓e_ix_loc, ↓e_ixO_l, ↓e_ixO_d, ↓e_ixO_t, ↓e_len_loc, ↓e_lenO_l, ↓e_lenO_d, ↓e_lenO_t, ↓e_tuple_loc, ↓e_list_loc, ↓e_listO_l, ↓e_listO_d, ↓e_list_d, ↓e_add_ll, ↓e_sl_loc, ↓e_tup, ↓e_lst, ↓e_len_t, ↓e_len_k, ↓e_len_l, ↓e_len_d, ↓e_len_r, ↓e_len_s, ↓e_abs, ↓e_int_i, ↓e_int_b, ↓e_tuple_t, ↓e_tuple_l, ↓e_list_t, ↓e_list_l, ↓e_dict_d, ↓e_dict_l, ↓e_sorted_l, ↓e_isi, ↓e_ty_n, ↓e_ty_b, ↓e_ty_i, ↓e_ty_s, ↓e_ty_t, ↓e_ty_l, ↓e_ty_d, ↓e_sl_t, ↓e_sl_l, ↓e_rev_t, ↓e_rev_l, ↓e_cut_to1, ↓e_cut_from1, ↓e_cut_to, ↓e_cut_from, ↓e_wopt_n, ↓e_intQ, ↓e_wopt_s, ↓e_blQ, ↓e_wT, ↓e_putD0, ↓e_putD1, ↓e_putL0, ↓e_putL1, ↓e_setS_f, ↓e_setS_a, ↓e_wd_in, ↓e_wd_mv, ↓e_ok_wd, ↓e_ok_in, ↓e_ok_move, ↓e_en_S, ↓e_en_TK, ↓e_en_L, ↓e_en_ty, ↓e_en_bv, ↓e_en_sb, ↓e_ens_sb, ↓e_bal_sb, ↓e_bals_sb, ↓e_en_isNon, ↓e_en_ix0, ↓e_en_ix1, ↓e_en_ix2, ↓e_en_ix3, ↓e_own, ↓e_pl, ↓e_eqL_ens, ↓e_getD_bal, ↓e_put_bal, ↓e_balK_len, ↓e_getput, ↓e_sorted_bal, ↓e_asS_dw, ↓e_asD_dw, ↓e_v_large, ↓e_v_cells, ↓e_v_rest, ↓e_v_turn, ↓e_dw_0, ↓e_dw_1, ↓e_dw_set0, ↓e_put_rest, ↓e_put_turn, ↓u_is_number, ↓u_is_wordT, ↓u_is_word1, ↓u_is_word2, ↓u_is_row, ↓u_is_row_en, ↓u_is_name, ↓u_are_ascending, ↓u_is_lot_of, ↓u_owners_in, ↓u_places_in, ↓u_came_of, ↓u_behind, ↓u_is_entry, ↓e_zero_pl, ↓e_walk_last, ↓e_walk_len, ↓u_balances_of, ↓u_is_ledger, ↓u_check_ledger, ↓u_owners_of, ↓u_places_of, ↓u_check_some, ↓u_check_where, ↓u_check_place, ↓u_check_moment, ↓u_others_of, ↓e_bals_last, ↓u_lying_at_end, ↓e_led_sb, ↓u_owners, ↓u_places, ↓u_others, ↓u_balance, ↓u_lying, ↓u_came, ↓u_begun, ↓e_c18, ↓u__law_behind, ↓u__law_owners_of, ↓u__law_places_of, ↓e_asPs_zero, ↓e_merge_zero, ↓u__law_balances, ↓u__law_others, ↓u__law_lying, ↓u__law_came, ↓e_c9, ↓e_p9, ↓reduceIte, ↓oQ_s, startD, permL, List.map_cons, List.map_nil, List.length_cons, List.length_nil, List.replicate, List.getElem?_cons_succ, List.getElem?_cons_zero, List.cons_append, List.nil_append, List.set_cons_succ, List.set_cons_zero, Nat.reduceAdd, Nat.reduceSub, Nat.reduceEqDiff, wipeD, List.filterMap_cons, List.filterMap_nil, List.length_range, List.getElem?_map, Int.zero_add, List.length_map, List.eraseIdx_cons_zero, Bool.and_true, Bool.true_and, Bool.and_false, Bool.false_and, oQ_s, oQ_n, if_t, if_f, dEq, dNe, bv_int, bv_bl, bv_str, bv_tup, bv_lst, bv_non, eqD_int, eqD_str, eqD_bl, atI0, atI1, atI2, atI3, atI4, atI_nat, atI_nat', atI_succ, ok_int, ok_bl, ok_nil, sto_at, sto_at0, sto_set, sto_set0, Option.isSome_some, Option.isSome_none, Bool.false_eq_true, or_false, false_or, true_or, or_true, Option.map_some, Option.map_none, true_and, and_true, false_and, and_false, Bool.not_true, Bool.not_false, reduceIte, decide_true, decide_false, Bool.decide_eq_true, Bool.decide_eq_false, Bool.not_not, eq_self, reduceCtorEq, Int.reduceEq, Int.reduceLT, Int.reduceLE, u_neg, e_lc, e_lcB_if, e_lcB_ifn, e_lcB_t, e_lcB_if2, e_noG, e_lc_nil, e_lc_cons, e_for_nil, e_nx, e_dc, e_dcB_s, e_rt, e_rtF, e_frzR, e_frzR0, e_xq, e_sb_int, e_sb_bl, e_sb_str, e_sb_non, e_sb_scr, e_sb_loc, e_sb_tup, e_sb_ktp, e_sb_lst, e_sb_dct, e_sb_dcT, e_sbL_nil, e_sbK_nil, e_sbL_cons, e_sbL_ints, e_sbL_strs, e_sbL_bls, e_frz_l0, e_frz_d0, e_frz_l1, e_frz_d1, e_frz_l2, e_asS_tup, e_asS_ktp, e_asS_lst, e_asS_scr, e_asS_int, e_asS_non, e_asS_bl, e_asS_str, e_asS_dct, e_asD_dct, e_asD_int, e_asD_str, e_asD_lst, e_asD_tup, e_asDT_str, e_asL_lst, e_asL_tup, e_asL_ktp, e_asL_dct, e_asL_int, e_asL_bl, e_asL_str, e_asL_non, e_asL_loc, e_asS_loc, e_asD_loc, e_obL_s, e_obL_d, e_obD_s, e_obD_l, e_asK_str, e_asK_int, e_asI_int, e_asTK_tup, e_asTK_ktp, e_asLoc_loc, e_lstOf_lst, e_lstOf_tup, e_itOf_tup, e_itOf_ktp, e_itOf_lst, e_itOf_scr, e_itOf_str, e_alL_f, e_alL_t, e_alD_f, e_alD_t, e_kn_bool, e_kn_int, e_kn_str, e_kn_tuple, e_kn_list, e_kn_dict, e_su_ib, e_su_ii, e_su_ss, e_su_tt, e_sz0, e_sz1, e_sz2, e_sz3, e_sz4, e_sz5, e_sz6, e_sz7, e_sz8, e_sz9, e_sz10, e_sz11, e_sz12, e_app, e_iteT, e_iteF, e_new_len, e_new_len2, e_new_two, e_new_three, e_len_map, e_asBls, e_asStrs, e_asInts, e_asStrs0, e_asInts0, e_asBls0, e_all_id, e_any_id, e_sum, e_all, e_any, e_max1l, e_min1l, e_max2, e_min2, e_ixN0, e_bv_loc, e_bvO_l, e_bvO_d, e_eq_nn, e_eq_cn, e_ok_intsL, e_onB, e_oQ_map, e_inT, e_inK, e_inL, e_ninT, e_ninL, e_setS, e_in1, e_chr_len, ec_oQh, e_take_map, e_drop_map, e_rev_map, e_app_map, e_eqTT, e_eqLL, e_eqL_nil, e_eqL_cons, e_eqL_nc, e_eqL_cn, e_eqL_strs, e_eqL_ints, e_eqL_m0, e_eqL0, e_eqT0, e_wSkip, e_wSeq, e_wDrop, e_wRet, e_wRetN, e_wBrk, e_wCnt, e_wIfS, e_wSet, e_wTup, e_tg_nm, e_tg_tp, e_setAll_n, e_setAll_c, e_vQ, e_wVar, e_wC, e_wNil, e_wCons, e_wB1, e_wB2, e_wAnd, e_wOr, e_wNot, e_wIf, e_wB, e_wChain, e_wAndV, e_wOrV, e_wNotV, e_wP, e_wGet2, e_getQ_d, e_getQ_l, e_getO_d, e_getO_t, e_wSl, e_wM, e_pop, e_popi, e_wCall, e_wCallK, e_wLc, e_wDc, e_wSeqI, e_wRng1, e_wRng2, e_wEnum, e_enumI, e_wZip, e_wFor, e_wYes, e_wPut, e_wDisp, e_disp_n, e_disp_c, e_wRaise, e_wDict0, e_spb, e_c0, e_c1, e_c2, e_c3, e_c4, e_c5, e_c6, e_c7, e_c8, e_add_i, e_add_s, e_add_t, e_add_l, e_sub_i, e_mul_i, e_mul_l, e_fdiv_i, e_mod_i, e_pow_i, e_neg_i, e_lt_i, e_lt_s, e_le_i, e_gt_i, e_ge_i, e_is_n, e_is_b, e_isN_n, e_isN_b, e_isNon_n, e_isNon_i, e_isNon_s, e_isNon_t, e_isNon_l, e_isNon_b, e_ix_t, e_ix_k, e_ix_l, e_ix_ds, e_ix_di, e_ix_s, e_obDT_l, e_obDT_d, e_obDT_t, e_obD_t, e_obL_t, e_ix_loc, e_ixO_l, e_ixO_d, e_ixO_t, e_len_loc, e_lenO_l, e_lenO_d, e_lenO_t, e_tuple_loc, e_list_loc, e_listO_l, e_listO_d, e_list_d, e_add_ll, e_sl_loc, e_tup, e_lst, e_len_t, e_len_k, e_len_l, e_len_d, e_len_r, e_len_s, e_abs, e_int_i, e_int_b, e_tuple_t, e_tuple_l, e_list_t, e_list_l, e_dict_d, e_dict_l, e_sorted_l, e_isi, e_ty_n, e_ty_b, e_ty_i, e_ty_s, e_ty_t, e_ty_l, e_ty_d, e_sl_t, e_sl_l, e_rev_t, e_rev_l, e_cut_to1, e_cut_from1, e_cut_to, e_cut_from, ec_ok_str, ec_szle, ec_szlt, ec_rng1, ec_rng2, e_wopt_n, e_intQ, e_wopt_s, e_blQ, e_wT, e_putD0, e_putD1, e_putL0, e_putL1, e_setS_f, e_setS_a, e_wd_in, e_wd_mv, e_ok_wd, e_ok_in, e_ok_move, e_en_S, e_en_TK, e_en_L, e_en_ty, e_en_bv, e_en_sb, e_ens_sb, e_bal_sb, e_bals_sb, e_en_isNon, e_en_ix0, e_en_ix1, e_en_ix2, e_en_ix3, e_own, e_pl, ec_own64, ec_pl64, ec_es_sz, e_eqL_ens, e_getD_bal, e_put_bal, e_balK_len, ec_val_mem, e_getput, e_sorted_bal, e_asS_dw, e_asD_dw, e_v_large, e_v_cells, e_v_rest, e_v_turn, e_dw_0, e_dw_1, e_dw_set0, e_put_rest, e_put_turn, u_is_number, u_is_wordT, u_is_word1, u_is_word2, u_is_row, u_is_row_en, u_is_name, u_are_ascending, u_is_lot_of, u_owners_in, u_places_in, u_came_of, u_behind, u_is_entry, e_zero_pl, e_walk_last, e_walk_len, ec_ok_ens, ec_ok_led, ec_ok_pl, ec_ok_own, ec_ok_plT, ec_ok_ownT, ec_minV_bal, u_balances_of, u_is_ledger, u_check_ledger, u_owners_of, u_places_of, u_check_some, u_check_where, u_check_place, u_check_moment, u_others_of, e_bals_last, u_lying_at_end, e_led_sb, u_owners, u_places, u_others, u_balance, u_lying, u_came, u_begun, e_c18, u__law_behind, u__law_owners_of, u__law_places_of, e_asPs_zero, e_merge_zero, u__law_balances, u__law_others, u__law_lying, u__law_came, e_c9, e_p9])
--# _law_ledger
def drawnAll (few sites : List Str) : Bal → List En → Prop
  | _, [] => True
  | bs, e :: es => Drawn few sites bs e ∧ drawnAll few sites (behB bs e) es
theorem nodup_le {α : Type} [DecidableEq α] : ∀ {l m : List α}, l.Nodup → (∀ x ∈ l, x ∈ m) → l.length ≤ m.length
  | [], m, _, _ => Nat.zero_le _
  | x :: l, m, h, hs => by
    have hx := hs x List.mem_cons_self
    have h2 := nodup_le (l := l) (m := m.erase x) (List.nodup_cons.mp h).2 fun y hy => by
      have : y ≠ x := fun e => (List.nodup_cons.mp h).1 (e ▸ hy)
      exact (List.mem_erase_of_ne this).mpr (hs y (List.mem_cons_of_mem _ hy))
    have h3 := List.length_erase_of_mem hx
    have h4 : 0 < m.length := List.length_pos_of_mem hx
    rw [List.length_cons]
    omega
theorem putB_nodup {bs : Bal} {k : Str} {v : Int} (h : (bs.map (·.1)).Nodup) : ((putB bs k v).map (·.1)).Nodup := by
  unfold putB
  split
  · rw [List.map_map]
    have : ((fun p : Str × Int => p.1) ∘ fun p => if p.1 = k then (p.1, v) else p) = fun p => p.1 := by
      funext p
      by_cases h : p.1 = k <;> simp [h]
    rw [this]
    exact h
  · rename_i h2
    rw [List.map_append]
    refine List.nodup_append.mpr ⟨h, by simp, fun a ha b hb e => h2 ?_⟩
    obtain rfl : b = k := by simpa using hb
    obtain ⟨p, hp, e2⟩ := List.mem_map.mp ha
    exact List.any_eq_true.mpr ⟨p, hp, decide_eq_true (e2.trans e)⟩
theorem beh_nodup {bs : Bal} {e : En} (h : (bs.map (·.1)).Nodup) : ((behB bs e).map (·.1)).Nodup := by
  unfold behB outB
  split
  · exact putB_nodup (putB_nodup h)
  · exact putB_nodup h
theorem beh_key {bs : Bal} {e : En} {x : Str} (h : x ∈ (behB bs e).map (·.1)) : x ∈ bs.map (·.1) ∨ x = e.b ∨ (e.mv = true ∧ x = e.a) := by
  unfold behB outB at h
  rcases (putB_keys x).mp h with h | h
  · split at h
    · rename_i hm
      rcases (putB_keys x).mp h with h | h
      · exact .inl h
      · exact .inr (.inr ⟨hm, h⟩)
    · exact .inl h
  · exact .inr (.inl h)
theorem drawnAll_app {few sites : List Str} {e : En} : ∀ {es : List En} {bs : Bal}, drawnAll few sites bs es → Drawn few sites (es.foldl behB bs) e → drawnAll few sites bs (es ++ [e])
  | [], bs, _, h => ⟨h, trivial⟩
  | x :: es, bs, ⟨h1, h2⟩, h => ⟨h1, drawnAll_app h2 h⟩
theorem d_ledger {T : Sto} {few sites : List Str} {m : Nat} {high : Int} (h1 : few ≠ []) (h2 : few.length ≤ 6) (h3 : sites ≠ []) (h4 : sites.length ≤ 6) (h5 : sites.Nodup) (hm : m ≤ 40) (h8 : 1 ≤ high) (h9 : high ≤ 1000000000) (hok : ∀ x ∈ few ++ sites, PyData.strOk x = true)
    (hD : DrawS T S) (q : ∀ es S', es.length = m → drawnAll few sites [] es → DrawS T S' → Q (.tup [.str "ledger", .tup (es.map En.d)]) S') : sp__law_ledger [.loc 1, .lst (few.map D.str), .lst (sites.map D.str), .int (m : Nat), .int high] S Q Ex := by
  unfold sp__law_ledger rd__law_ledger
  have eL := hD.len
  walk_at "ev"
  rw [show ((m : Nat) : Int).toNat = m by omega]
  refine for_inv (fun k : Nat => D.int k) (fun l ρ S' => ∃ es : List En, ∃ S1 o, ρ = [some (.loc 1), some (.lst (few.map D.str)), some (.lst (sites.map D.str)), some (.int (m : Nat)), some (.int high), some (.loc S.length), some (.dct (balK (es.foldl behB []))), o] ∧ S' = S1 ++ [.lst (es.map En.d)] ∧ DrawS T S1 ∧ es.length + l.length = m ∧ drawnAll few sites [] es ∧ ((es.foldl behB []).map (·.1)).Nodup ∧ (∀ x ∈ (es.foldl behB []).map (·.1), x ∈ sites)) (fun _ _ _ _ => trivial) ?_ ?_ ⟨[], S, none, rfl, rfl, hD, by rw [List.length_range]; exact Nat.zero_add _, trivial, List.nodup_nil, by simp⟩
  · rintro x l ρ S' ⟨es, S1, o, rfl, rfl, hD1, hl, ha, hn, hs⟩ N k
    have el : S.length = S1.length := by have := hD1.len; omega
    rw [List.length_cons] at hl
    have hle : (es.foldl behB []).length ≤ 6 := by
      have := nodup_le hn hs
      rw [List.length_map] at this
      omega
    have hle2 : (es.foldl behB []).length ≤ 1000 := by omega
    rw [el] at k ⊢
    walk_at "ev"
    refine d_entry h1 h2 h3 h4 h5 hle hn h8 h9 (fun y hy => ?_) hD1.app fun e S2 hdr hD2 => ?_
    · rcases List.mem_append.mp hy with z | z
      · exact hok y z
      · exact hok y (List.mem_append_right _ (hs y z))
    obtain ⟨S3, rfl, hD3⟩ := hD2.cut
    have el2 : S1.length = S3.length := by have := hD1.len; have := hD3.len; omega
    have hmv : e.mv = true → e.a ∈ (es.foldl behB []).map (·.1) := fun h => by
      have := hdr.2.2.2
      rw [if_pos h] at this
      exact this.1
    have hes : es.length ≤ 40 := by omega
    rw [el2] at k ⊢
    walk_at "ev"
    have e3 : (es ++ [e]).foldl behB [] = behB (es.foldl behB []) e := by rw [List.foldl_append]; rfl
    have e4 : atI (List.map En.d es ++ [e.d]) (-1) = some e.d := atI_app_last'
    rw [e4]
    walk_at "ev"
    refine k _ _ ⟨es ++ [e], S3, some (.int x), by rw [e3], by rw [List.map_append]; rfl, hD3, by rw [List.length_append, List.length_cons, List.length_nil]; omega, drawnAll_app ha hdr, by rw [e3]; exact beh_nodup hn, fun y hy => ?_⟩
    rw [e3] at hy
    rcases beh_key hy with z | z | ⟨z1, z⟩
    · exact hs y z
    · rw [z]; exact hdr.1
    · rw [z]; exact hs _ (hmv z1)
  · rintro ρ S' ⟨es, S1, o, rfl, rfl, hD1, hl, ha, hn, hs⟩
    have el : S.length = S1.length := by have := hD1.len; omega
    have hes : es.length ≤ 40 := by rw [List.length_nil] at hl; omega
    rw [el]
    walk_at "ev"
    rw [frz_dr hD hD1]
    exact q _ _ hl ha hD1

end DL

set_option Elab.async false
set_option linter.all false
set_option maxRecDepth 100000
namespace DL
open PySem PySem.Spec PyProof.Rows L2 RZ
def N__law_is_ledger : List Str := ["entries", "some", "entry", "where", "name", "lies", "place"]
def rd__law_is_ledger : DS := wSeq (wSet 1 (wB1 (dSetS false) (wLc false [2] (.nm 2) (wSeqI (wVar 0)) (wT (wB2 dEq (wB2 dIx (wVar 2) (wC (.int 0))) (wC (.str "in")))) (wB2 dIx (wVar 2) (wC (.int 1)))))) (wSeq (wSet 3 (wB1 (dSetS false) (wB2 dAdd (wLc false [2] (.nm 2) (wSeqI (wVar 0)) (wYes) (wB2 dIx (wVar 2) (wC (.int 2)))) (wLc false [2] (.nm 2) (wSeqI (wVar 0)) (wT (wB2 dEq (wB2 dIx (wVar 2) (wC (.int 0))) (wC (.str "move")))) (wB2 dIx (wVar 2) (wC (.int 1))))))) (wSeq (wIfS (wOr (wT (wB2 dGt (wP bLen (wCons (wVar 0) (wNil))) (wC (.int 40)))) (wOr (wT (wB2 dGt (wP bLen (wCons (wVar 1) (wNil))) (wC (.int 6)))) (wOr (wT (wB2 dGt (wP bLen (wCons (wVar 3) (wNil))) (wC (.int 6)))) (wT (wB2 dNe (wLc false [4] (.nm 4) (wSeqI (wVar 1)) (wT (wB2 (dIn false) (wVar 4) (wVar 3))) (wVar 4)) (wP (dLst false) (wNil))))))) (wRet (wC (.bl false))) (wSkip)) (wSeq (wSet 5 (wP (bDict true) (wCons (wLc false [6] (.nm 6) (wSeqI (wVar 3)) (wYes) (wP dTup (wCons (wVar 6) (wCons (wC (.int 0)) (wNil))))) (wNil)))) (wSeq (wFor (.nm 2) (wSeqI (wVar 0)) (wSeq (wIfS (wOr (wT (wB2 dEq (wB2 dIx (wVar 2) (wC (.int 1))) (wB2 dIx (wVar 2) (wC (.int 2))))) (wNot (wT (wChain dLe dLe (wC (.int 1)) (wB2 dIx (wVar 2) (wC (.int 3))) (wB2 dPow (wC (.int 10)) (wC (.int 9))))))) (wRet (wC (.bl false))) (wSkip)) (wSeq (wIfS (wT (wB2 dEq (wB2 dIx (wVar 2) (wC (.int 0))) (wC (.str "move")))) (wSeq (wPut (wVar 5) (wB2 dIx (wVar 2) (wC (.int 1))) (wB2 dSub (wB2 dIx (wVar 5) (wB2 dIx (wVar 2) (wC (.int 1)))) (wB2 dIx (wVar 2) (wC (.int 3))))) (wIfS (wT (wB2 dLt (wB2 dIx (wVar 5) (wB2 dIx (wVar 2) (wC (.int 1)))) (wC (.int 0)))) (wRet (wC (.bl false))) (wSkip))) (wSkip)) (wPut (wVar 5) (wB2 dIx (wVar 2) (wC (.int 2))) (wB2 dAdd (wB2 dIx (wVar 5) (wB2 dIx (wVar 2) (wC (.int 2)))) (wB2 dIx (wVar 2) (wC (.int 3)))))))) (wRet (wC (.bl true)))))))
@[irreducible] def sp__law_is_ledger : DSp := spb true (rd__law_is_ledger) 7 1
def N__law_bent : List Str := ["draw", "entries", "k", "how", "word", "one", "other", "many"]
def rd__law_bent : DS := wSeq (wTup (.tp [2, 3]) (wP dTup (wCons (wCall (sp__law_take) (wCons (wVar 0) (wCons (wP bLen (wCons (wVar 1) (wNil))) (wNil)))) (wCons (wCall (sp__law_take) (wCons (wVar 0) (wCons (wC (.int 7)) (wNil)))) (wNil))))) (wSeq (wTup (.tp [4, 5, 6, 7]) (wB2 dIx (wVar 1) (wVar 2))) (wSeq (wIfS (wT (wB2 dEq (wVar 3) (wC (.int 0)))) (wRet (wB2 dAdd (wSl false (wVar 1) none (some (wVar 2))) (wSl false (wVar 1) (some (wB2 dAdd (wVar 2) (wC (.int 1)))) none))) (wSkip)) (wSeq (wIfS (wT (wB2 dEq (wVar 3) (wC (.int 1)))) (wRet (wB2 dAdd (wSl false (wVar 1) none (some (wB2 dAdd (wVar 2) (wC (.int 1))))) (wSl false (wVar 1) (some (wVar 2)) none))) (wSkip)) (wSeq (wIfS (wT (wB2 dEq (wVar 3) (wC (.int 2)))) (wRet (wB2 dAdd (wB2 dAdd (wSl false (wVar 1) none (some (wVar 2))) (wP dTup (wCons (wP dTup (wCons (wVar 4) (wCons (wVar 5) (wCons (wVar 6) (wCons (wB2 dAdd (wVar 7) (wCall (sp__law_pick) (wCons (wVar 0) (wCons (wP (dLst false) (wCons (wC (.int 1)) (wCons (wB1 dNeg (wC (.int 1))) (wCons (wVar 7) (wCons (wB2 dSub (wC (.int 0)) (wVar 7)) (wCons (wB2 dPow (wC (.int 10)) (wC (.int 9))) (wNil))))))) (wNil))))) (wNil)))))) (wNil)))) (wSl false (wVar 1) (some (wB2 dAdd (wVar 2) (wC (.int 1)))) none))) (wSkip)) (wSeq (wIfS (wT (wB2 dEq (wVar 3) (wC (.int 3)))) (wRet (wB2 dAdd (wB2 dAdd (wSl false (wVar 1) none (some (wVar 2))) (wP dTup (wCons (wP dTup (wCons (wVar 4) (wCons (wVar 5) (wCons (wCall (sp__law_pick) (wCons (wVar 0) (wCons (wP (dLst false) (wCons (wC (.str "boat")) (wCons (wC (.str "chest")) (wCons (wC (.str "moat")) (wCons (wVar 5) (wNil)))))) (wNil)))) (wCons (wVar 7) (wNil)))))) (wNil)))) (wSl false (wVar 1) (some (wB2 dAdd (wVar 2) (wC (.int 1)))) none))) (wSkip)) (wSeq (wIfS (wT (wB2 dEq (wVar 3) (wC (.int 4)))) (wRet (wB2 dAdd (wB2 dAdd (wSl false (wVar 1) none (some (wVar 2))) (wP dTup (wCons (wP dTup (wCons (wVar 4) (wCons (wCall (sp__law_pick) (wCons (wVar 0) (wCons (wP (dLst false) (wCons (wC (.str "ann")) (wCons (wC (.str "boat")) (wCons (wC (.str "chest")) (wCons (wC (.str "zed")) (wCons (wVar 6) (wNil))))))) (wNil)))) (wCons (wVar 6) (wCons (wVar 7) (wNil)))))) (wNil)))) (wSl false (wVar 1) (some (wB2 dAdd (wVar 2) (wC (.int 1)))) none))) (wSkip)) (wSeq (wIfS (wT (wB2 dEq (wVar 3) (wC (.int 5)))) (wRet (wB2 dAdd (wB2 dAdd (wSl false (wVar 1) none (some (wVar 2))) (wP dTup (wCons (wP dTup (wCons (wIf (wT (wB2 dEq (wVar 4) (wC (.str "in")))) (wC (.str "move")) (wC (.str "in"))) (wCons (wVar 5) (wCons (wVar 6) (wCons (wVar 7) (wNil)))))) (wNil)))) (wSl false (wVar 1) (some (wB2 dAdd (wVar 2) (wC (.int 1)))) none))) (wSkip)) (wRet (wB1 (dRev false) (wVar 1))))))))))
@[irreducible] def sp__law_bent : DSp := spb true (rd__law_bent) 8 2
def N__law_is_told_right : List Str := ["draw", "ledger", "few", "lots", "balances", "k", "place", "first", "some", "where"]
def rd__law_is_told_right (c : Str → Addr) : DS := wSeq (wTup (.tp [2, 3, 4]) (wP dTup (wCons (wCall (sp__law_owners_of) (wCons (wVar 1) (wNil))) (wCons (wCall (sp__law_places_of) (wCons (wVar 1) (wNil))) (wCons (wCall (sp__law_balances) (wCons (wVar 1) (wNil))) (wNil)))))) (wSeq (wIfS (wOr (wT (wB2 dNe (wCall (sp_owners c) (wCons (wVar 1) (wNil))) (wVar 2))) (wT (wB2 dNe (wCall (sp_places c) (wCons (wVar 1) (wNil))) (wVar 3)))) (wRet (wC (.bl false))) (wSkip)) (wSeq (wFor (.nm 5) (wSeqI (wP (dLst false) (wCons (wC (.int 0)) (wCons (wP bLen (wCons (wB2 dIx (wVar 1) (wC (.int 1))) (wNil))) (wCons (wCall (sp__law_take) (wCons (wVar 0) (wCons (wB2 dAdd (wP bLen (wCons (wB2 dIx (wVar 1) (wC (.int 1))) (wNil))) (wC (.int 1))) (wNil)))) (wNil)))))) (wSeq (wFor (.nm 6) (wSeqI (wVar 3)) (wIfS (wOr (wT (wB2 dNe (wCall (sp_balance c) (wCons (wVar 1) (wCons (wVar 6) (wCons (wVar 5) (wNil))))) (wB2 dIx (wB2 dIx (wVar 4) (wVar 5)) (wVar 6)))) (wT (wB2 dNe (wCallK (sp_balance c) 0 3 [2, 1, 0] wNil (wCons (wVar 5) (wCons (wVar 6) (wCons (wVar 1) (wNil))))) (wB2 dIx (wB2 dIx (wVar 4) (wVar 5)) (wVar 6))))) (wRet (wC (.bl false))) (wSkip))) (wSeq (wSet 7 (wP dTup (wCons (wC (.str "ledger")) (wCons (wSl false (wB2 dIx (wVar 1) (wC (.int 1))) none (some (wVar 5))) (wNil))))) (wIfS (wOr (wT (wB2 dNe (wCall (sp_begun c) (wCons (wVar 1) (wCons (wVar 5) (wNil)))) (wVar 7))) (wT (wB2 dIsNot (wCall (sp_is_ledger) (wCons (wCall (sp_begun c) (wCons (wVar 1) (wCons (wVar 5) (wNil)))) (wNil))) (wC (.bl true))))) (wRet (wC (.bl false))) (wSkip))))) (wSeq (wTup (.tp [8, 9]) (wP dTup (wCons (wCall (sp__law_lot) (wCons (wVar 0) (wCons (wVar 2) (wNil)))) (wCons (wCall (sp__law_lot) (wCons (wVar 0) (wCons (wVar 3) (wNil)))) (wNil))))) (wSeq (wIfS (wOr (wT (wB2 dNe (wCall (sp_others c) (wCons (wVar 1) (wCons (wVar 8) (wNil)))) (wCall (sp__law_others) (wCons (wVar 1) (wCons (wVar 8) (wNil)))))) (wT (wB2 dNe (wCall (sp_came c) (wCons (wVar 1) (wCons (wVar 8) (wNil)))) (wCall (sp__law_came) (wCons (wVar 1) (wCons (wVar 8) (wNil))))))) (wRet (wC (.bl false))) (wSkip)) (wRet (wAndV (wB2 dEq (wCall (sp_lying c) (wCons (wVar 1) (wCons (wVar 9) (wNil)))) (wCall (sp__law_lying) (wCons (wVar 1) (wCons (wVar 9) (wNil))))) (wB2 dEq (wCall (sp_came c) (wCons (wVar 1) (wCons (wVar 2) (wNil)))) (wCall (sp_lying c) (wCons (wVar 1) (wCons (wVar 3) (wNil)))))))))))
@[irreducible] def sp__law_is_told_right (c : Str → Addr) : DSp := spb true (rd__law_is_told_right c) 10 2
def N_law : List Str := ["script", "draw", "turn", "high", "names", "lots", "many", "ledger", "lap", "entries", "more"]
def rd_law (c : Str → Addr) : DS := wSeq (wSet 1 (wCall (sp__law_begun) (wCons (wVar 0) (wNil)))) (wSeq (wFor (.nm 2) (wRng1 (wB2 dAdd (wC (.int 2)) (wP bMin (wCons (wP bLen (wCons (wVar 0) (wNil))) (wCons (wC (.int 4)) (wNil)))))) (wSeq (wSet 3 (wB2 dIx (wP (dLst false) (wCons (wC (.int 3)) (wCons (wC (.int 100)) (wCons (wB2 dPow (wC (.int 10)) (wC (.int 9))) (wNil))))) (wCall (sp__law_take) (wCons (wVar 1) (wCons (wC (.int 3)) (wNil)))))) (wSeq (wTup (.tp [4, 5]) (wP dTup (wCons (wCall (sp__law_owners) (wCons (wVar 1) (wCons (wB2 dAdd (wC (.int 1)) (wCall (sp__law_take) (wCons (wVar 1) (wCons (wC (.int 6)) (wNil))))) (wNil)))) (wCons (wCall (sp__law_places) (wCons (wVar 1) (wCons (wB2 dAdd (wC (.int 1)) (wCall (sp__law_take) (wCons (wVar 1) (wCons (wC (.int 6)) (wNil))))) (wNil)))) (wNil))))) (wSeq (wSet 6 (wB2 dIx (wP (dLst false) (wCons (wB2 dAdd (wC (.int 1)) (wCall (sp__law_take) (wCons (wVar 1) (wCons (wC (.int 8)) (wNil))))) (wCons (wB2 dAdd (wC (.int 38)) (wCall (sp__law_take) (wCons (wVar 1) (wCons (wC (.int 3)) (wNil))))) (wNil)))) (wCall (sp__law_take) (wCons (wVar 1) (wCons (wC (.int 2)) (wNil)))))) (wSeq (wSet 7 (wCall (sp__law_ledger) (wCons (wVar 1) (wCons (wVar 4) (wCons (wVar 5) (wCons (wVar 6) (wCons (wVar 3) (wNil)))))))) (wSeq (wIfS (wOr (wT (wB2 dIsNot (wCall (sp_is_ledger) (wCons (wVar 7) (wNil))) (wC (.bl true)))) (wNot (wT (wCall (sp__law_is_told_right c) (wCons (wVar 1) (wCons (wVar 7) (wNil))))))) (wRet (wC (.bl false))) (wSkip)) (wSeq (wFor (.nm 8) (wRng1 (wC (.int 4))) (wSeq (wSet 9 (wCall (sp__law_bent) (wCons (wVar 1) (wCons (wB2 dIx (wVar 7) (wC (.int 1))) (wNil))))) (wIfS (wT (wB2 dNe (wCall (sp_is_ledger) (wCons (wP dTup (wCons (wC (.str "ledger")) (wCons (wVar 9) (wNil)))) (wNil))) (wCall (sp__law_is_ledger) (wCons (wVar 9) (wNil))))) (wRet (wC (.bl false))) (wSkip)))) (wSeq (wSet 10 (wB2 dAdd (wB2 dIx (wVar 7) (wC (.int 1))) (wSl false (wP dTup (wCons (wP dTup (wCons (wC (.str "in")) (wCons (wC (.str "zoe")) (wCons (wB2 dIx (wVar 5) (wC (.int 0))) (wCons (wC (.int 1)) (wNil)))))) (wCons (wP dTup (wCons (wC (.str "in")) (wCons (wC (.str "yul")) (wCons (wB2 dIx (wVar 5) (wC (.int 0))) (wCons (wC (.int 1)) (wNil)))))) (wCons (wP dTup (wCons (wC (.str "in")) (wCons (wC (.str "xan")) (wCons (wB2 dIx (wVar 5) (wC (.int 0))) (wCons (wC (.int 1)) (wNil)))))) (wCons (wP dTup (wCons (wC (.str "in")) (wCons (wC (.str "wim")) (wCons (wB2 dIx (wVar 5) (wC (.int 0))) (wCons (wC (.int 1)) (wNil)))))) (wNil)))))) none (some (wB2 dAdd (wC (.int 1)) (wCall (sp__law_take) (wCons (wVar 1) (wCons (wC (.int 4)) (wNil))))))))) (wIfS (wT (wB2 dNe (wCall (sp_is_ledger) (wCons (wP dTup (wCons (wC (.str "ledger")) (wCons (wVar 10) (wNil)))) (wNil))) (wCall (sp__law_is_ledger) (wCons (wVar 10) (wNil))))) (wRet (wC (.bl false))) (wSkip)))))))))) (wRet (wAndV (wB2 dIs (wCall (sp_is_ledger) (wCons (wP dTup (wCons (wC (.str "ledger")) (wCons (wP dTup (wNil)) (wNil)))) (wNil))) (wC (.bl true))) (wAndV (wB2 dEq (wCall (sp_owners c) (wCons (wP dTup (wCons (wC (.str "ledger")) (wCons (wP dTup (wNil)) (wNil)))) (wNil))) (wP dTup (wNil))) (wB2 dEq (wCall (sp_lying c) (wCons (wP dTup (wCons (wC (.str "ledger")) (wCons (wP dTup (wNil)) (wNil)))) (wCons (wP dTup (wNil)) (wNil)))) (wC (.int 0)))))))
@[irreducible] def sp_law (c : Str → Addr) : DSp := spb true (rd_law c) 11 1
end DL

set_option Elab.async false
set_option linter.all false
set_option maxRecDepth 100000
set_option maxHeartbeats 4000000
namespace DL
open PySem PySem.Spec PyProof.Rows L2 RZ
variable {S : Sto} {Q : D → Sto → Prop} {Ex : Xn → Sto → Prop} {c : Str → Addr}
local macro_rules | `(tactic| walk_at "ev") => `(tactic| try simp (maxSteps := 4000000) (dsimp := false) (implicitDefEqProofs := false) (disch := first | assumption | (show (_ : Nat) ≤ _; omega) | (show (_ : Int) ≤ _ ∧ _; omega)) only [↓u_neg, ↓e_lc, ↓e_lcB_if, ↓e_lcB_ifn, ↓e_lcB_t, ↓e_lcB_if2, ↓e_noG, ↓e_lc_nil, ↓e_lc_cons, ↓e_for_nil, ↓e_nx, ↓e_dc, ↓e_dcB_s, ↓e_rt, ↓e_rtF, ↓e_frzR, ↓e_frzR0, ↓e_xq, ↓e_sb_int, ↓e_sb_bl, ↓e_sb_str, ↓e_sb_non, ↓e_sb_scr, ↓e_sb_loc, ↓e_sb_tup, ↓e_sb_ktp, ↓e_sb_lst, ↓e_sb_dct, ↓e_sb_dcT, ↓e_sbL_nil, ↓e_sbK_nil, ↓e_sbL_cons, ↓e_sbL_ints, ↓e_sbL_strs, ↓e_sbL_bls, ↓e_frz_l0, ↓e_frz_d0, ↓e_frz_l1, ↓e_frz_d1, ↓e_frz_l2, ↓e_asS_tup, ↓e_asS_ktp, ↓e_asS_lst, ↓e_asS_scr, ↓e_asS_int, ↓e_asS_non, ↓e_asS_bl, ↓e_asS_str, ↓e_asS_dct, ↓e_asD_dct, ↓e_asD_int, ↓e_asD_str, ↓e_asD_lst, ↓e_asD_tup, ↓e_asDT_str, ↓e_asL_lst, ↓e_asL_tup, ↓e_asL_ktp, ↓e_asL_dct, ↓e_asL_int, ↓e_asL_bl, ↓e_asL_str, ↓e_asL_non, ↓e_asL_loc, ↓e_asS_loc, ↓e_asD_loc, ↓e_obL_s, ↓e_obL_d, ↓e_obD_s, ↓e_obD_l, ↓e_asK_str, ↓e_asK_int, ↓e_asI_int, ↓e_asTK_tup, ↓e_asTK_ktp, ↓e_asLoc_loc, ↓e_lstOf_lst, ↓e_lstOf_tup, ↓e_itOf_tup, ↓e_itOf_ktp, ↓e_itOf_lst, ↓e_itOf_scr, ↓e_itOf_str, ↓e_alL_f, ↓e_alL_t, ↓e_alD_f, ↓e_alD_t, ↓e_kn_bool, ↓e_kn_int, ↓e_kn_str, ↓e_kn_tuple, ↓e_kn_list, ↓e_kn_dict, ↓e_su_ib, ↓e_su_ii, ↓e_su_ss, ↓e_su_tt, ↓e_sz0, ↓e_sz1, ↓e_sz2, ↓e_sz3, ↓e_sz4, ↓e_sz5, ↓e_sz6, ↓e_sz7, ↓e_sz8, ↓e_sz9, ↓e_sz10, ↓e_sz11, ↓e_sz12, ↓e_app, ↓e_iteT, ↓e_iteF, ↓e_new_len, ↓e_new_len2, ↓e_new_two, ↓e_new_three, ↓e_len_map, ↓e_asBls, ↓e_asStrs, ↓e_asInts, ↓e_asStrs0, ↓e_asInts0, ↓e_asBls0, ↓e_all_id, ↓e_any_id, ↓e_sum, ↓e_all, ↓e_any, ↓e_max1l, ↓e_min1l, ↓e_max2, ↓e_min2, ↓e_ixN0, ↓e_bv_loc, ↓e_bvO_l, ↓e_bvO_d, ↓e_eq_nn, ↓e_eq_cn, ↓e_ok_intsL, ↓e_onB, ↓e_oQ_map, ↓e_inT, ↓e_inK, ↓e_inL, ↓e_ninT, ↓e_ninL, ↓e_setS, ↓e_in1, ↓e_chr_len, ↓e_take_map, ↓e_drop_map, ↓e_rev_map, ↓e_app_map, ↓e_eqTT, ↓e_eqLL, ↓e_eqL_nil, ↓e_eqL_cons, ↓e_eqL_nc, ↓e_eqL_cn, ↓e_eqL_strs, ↓e_eqL_ints, ↓e_eqL_m0, ↓e_eqL0, ↓e_eqT0, ↓e_wSkip, ↓e_wSeq, ↓e_wDrop, ↓e_wRet, ↓e_wRetN, ↓e_wBrk, ↓e_wCnt, ↓e_wIfS, ↓e_wSet, ↓e_wTup, ↓e_tg_nm, ↓e_tg_tp, ↓e_setAll_n, ↓e_setAll_c, ↓e_vQ, ↓e_wVar, ↓e_wC, ↓e_wNil, ↓e_wCons, ↓e_wB1, ↓e_wB2, ↓e_wAnd, ↓e_wOr, ↓e_wNot, ↓e_wIf, ↓e_wB, ↓e_wChain, ↓e_wAndV, ↓e_wOrV, ↓e_wNotV, ↓e_wP, ↓e_wGet2, ↓e_getQ_d, ↓e_getQ_l, ↓e_getO_d, ↓e_getO_t, ↓e_wSl, ↓e_wM, ↓e_pop, ↓e_popi, ↓e_wCall, ↓e_wCallK, ↓e_wLc, ↓e_wDc, ↓e_wSeqI, ↓e_wRng1, ↓e_wRng2, ↓e_wEnum, ↓e_enumI, ↓e_wZip, ↓e_wFor, ↓e_wYes, ↓e_wPut, ↓e_wDisp, ↓e_disp_n, ↓e_disp_c, ↓e_wRaise, ↓e_wDict0, ↓e_spb, ↓e_c0, ↓e_c1, ↓e_c2, ↓e_c3, ↓e_c4, ↓e_c5, ↓e_c6, ↓e_c7, ↓e_c8, ↓e_add_i, ↓e_add_s, ↓e_add_t, ↓e_add_l, ↓e_sub_i, ↓e_mul_i, ↓e_mul_l, ↓e_fdiv_i, ↓e_mod_i, ↓e_pow_i, ↓e_neg_i, ↓e_lt_i, ↓e_lt_s, ↓e_le_i, ↓e_gt_i, ↓e_ge_i, ↓e_is_n, ↓e_is_b, ↓e_isN_n, ↓e_isN_b, ↓e_isNon_n, ↓e_isNon_i, ↓e_isNon_s, ↓e_isNon_t, ↓e_isNon_l, ↓e_isNon_b, ↓e_ix_t, ↓e_ix_k, ↓e_ix_l, ↓e_ix_ds, ↓e_ix_di, ↓e_ix_s, ↓e_obDT_l, ↓e_obDT_d, ↓e_obDT_t, ↓e_obD_t, ↓e_obL_t, ↓e_ix_loc, ↓e_ixO_l, ↓e_ixO_d, ↓e_ixO_t, ↓e_len_loc, ↓e_lenO_l, ↓e_lenO_d, ↓e_lenO_t, ↓e_tuple_loc, ↓e_list_loc, ↓e_listO_l, ↓e_listO_d, ↓e_list_d, ↓e_add_ll, ↓e_sl_loc, ↓e_tup, ↓e_lst, ↓e_len_t, ↓e_len_k, ↓e_len_l, ↓e_len_d, ↓e_len_r, ↓e_len_s, ↓e_abs, ↓e_int_i, ↓e_int_b, ↓e_tuple_t, ↓e_tuple_l, ↓e_list_t, ↓e_list_l, ↓e_dict_d, ↓e_dict_l, ↓e_sorted_l, ↓e_isi, ↓e_ty_n, ↓e_ty_b, ↓e_ty_i, ↓e_ty_s, ↓e_ty_t, ↓e_ty_l, ↓e_ty_d, ↓e_sl_t, ↓e_sl_l, ↓e_rev_t, ↓e_rev_l, ↓e_cut_to1, ↓e_cut_from1, ↓e_cut_to, ↓e_cut_from, ↓e_wopt_n, ↓e_intQ, ↓e_wopt_s, ↓e_blQ, ↓e_wT, ↓e_putD0, ↓e_putD1, ↓e_putL0, ↓e_putL1, ↓e_setS_f, ↓e_setS_a, ↓e_wd_in, ↓e_wd_mv, ↓e_ok_wd, ↓e_ok_in, ↓e_ok_move, ↓e_en_S, ↓e_en_TK, ↓e_en_L, ↓e_en_ty, ↓e_en_bv, ↓e_en_sb, ↓e_ens_sb, ↓e_bal_sb, ↓e_bals_sb, ↓e_en_isNon, ↓e_en_ix0, ↓e_en_ix1, ↓e_en_ix2, ↓e_en_ix3, ↓e_own, ↓e_pl, ↓e_eqL_ens, ↓e_getD_bal, ↓e_put_bal, ↓e_balK_len, ↓e_getput, ↓e_sorted_bal, ↓e_asS_dw, ↓e_asD_dw, ↓e_v_large, ↓e_v_cells, ↓e_v_rest, ↓e_v_turn, ↓e_dw_0, ↓e_dw_1, ↓e_dw_set0, ↓e_put_rest, ↓e_put_turn, ↓u_is_number, ↓u_is_wordT, ↓u_is_word1, ↓u_is_word2, ↓u_is_row, ↓u_is_row_en, ↓u_is_name, ↓u_are_ascending, ↓u_is_lot_of, ↓u_owners_in, ↓u_places_in, ↓u_came_of, ↓u_behind, ↓u_is_entry, ↓e_zero_pl, ↓e_walk_last, ↓e_walk_len, ↓u_balances_of, ↓u_is_ledger, ↓u_check_ledger, ↓u_owners_of, ↓u_places_of, ↓u_check_some, ↓u_check_where, ↓u_check_place, ↓u_check_moment, ↓u_others_of, ↓e_bals_last, ↓u_lying_at_end, ↓e_led_sb, ↓u_owners, ↓u_places, ↓u_others, ↓u_balance, ↓u_lying, ↓u_came, ↓u_begun, ↓e_c18, ↓u__law_behind, ↓u__law_owners_of, ↓u__law_places_of, ↓e_asPs_zero, ↓e_merge_zero, ↓u__law_balances, ↓u__law_others, ↓u__law_lying, ↓u__law_came, ↓e_c9, ↓e_p9, ↓reduceIte, ↓oQ_s, startD, permL, List.map_cons, List.map_nil, List.length_cons, List.length_nil, List.replicate, List.getElem?_cons_succ, List.getElem?_cons_zero, List.cons_append, List.nil_append, List.set_cons_succ, List.set_cons_zero, Nat.reduceAdd, Nat.reduceSub, Nat.reduceEqDiff, wipeD, List.filterMap_cons, List.filterMap_nil, List.length_range, List.getElem?_map, Int.zero_add, List.length_map, List.eraseIdx_cons_zero, Bool.and_true, Bool.true_and, Bool.and_false, Bool.false_and, oQ_s, oQ_n, if_t, if_f, dEq, dNe, bv_int, bv_bl, bv_str, bv_tup, bv_lst, bv_non, eqD_int, eqD_str, eqD_bl, atI0, atI1, atI2, atI3, atI4, atI_nat, atI_nat', atI_succ, ok_int, ok_bl, ok_nil, sto_at, sto_at0, sto_set, sto_set0, Option.isSome_some, Option.isSome_none, Bool.false_eq_true, or_false, false_or, true_or, or_true, Option.map_some, Option.map_none, true_and, and_true, false_and, and_false, Bool.not_true, Bool.not_false, reduceIte, decide_true, decide_false, Bool.decide_eq_true, Bool.decide_eq_false, Bool.not_not, eq_self, reduceCtorEq, Int.reduceEq, Int.reduceLT, Int.reduceLE, u_neg, e_lc, e_lcB_if, e_lcB_ifn, e_lcB_t, e_lcB_if2, e_noG, e_lc_nil, e_lc_cons, e_for_nil, e_nx, e_dc, e_dcB_s, e_rt, e_rtF, e_frzR, e_frzR0, e_xq, e_sb_int, e_sb_bl, e_sb_str, e_sb_non, e_sb_scr, e_sb_loc, e_sb_tup, e_sb_ktp, e_sb_lst, e_sb_dct, e_sb_dcT, e_sbL_nil, e_sbK_nil, e_sbL_cons, e_sbL_ints, e_sbL_strs, e_sbL_bls, e_frz_l0, e_frz_d0, e_frz_l1, e_frz_d1, e_frz_l2, e_asS_tup, e_asS_ktp, e_asS_lst, e_asS_scr, e_asS_int, e_asS_non, e_asS_bl, e_asS_str, e_asS_dct, e_asD_dct, e_asD_int, e_asD_str, e_asD_lst, e_asD_tup, e_asDT_str, e_asL_lst, e_asL_tup, e_asL_ktp, e_asL_dct, e_asL_int, e_asL_bl, e_asL_str, e_asL_non, e_asL_loc, e_asS_loc, e_asD_loc, e_obL_s, e_obL_d, e_obD_s, e_obD_l, e_asK_str, e_asK_int, e_asI_int, e_asTK_tup, e_asTK_ktp, e_asLoc_loc, e_lstOf_lst, e_lstOf_tup, e_itOf_tup, e_itOf_ktp, e_itOf_lst, e_itOf_scr, e_itOf_str, e_alL_f, e_alL_t, e_alD_f, e_alD_t, e_kn_bool, e_kn_int, e_kn_str, e_kn_tuple, e_kn_list, e_kn_dict, e_su_ib, e_su_ii, e_su_ss, e_su_tt, e_sz0, e_sz1, e_sz2, e_sz3, e_sz4, e_sz5, e_sz6, e_sz7, e_sz8, e_sz9, e_sz10, e_sz11, e_sz12, e_app, e_iteT, e_iteF, e_new_len, e_new_len2, e_new_two, e_new_three, e_len_map, e_asBls, e_asStrs, e_asInts, e_asStrs0, e_asInts0, e_asBls0, e_all_id, e_any_id, e_sum, e_all, e_any, e_max1l, e_min1l, e_max2, e_min2, e_ixN0, e_bv_loc, e_bvO_l, e_bvO_d, e_eq_nn, e_eq_cn, e_ok_intsL, e_onB, e_oQ_map, e_inT, e_inK, e_inL, e_ninT, e_ninL, e_setS, e_in1, e_chr_len, ec_oQh, e_take_map, e_drop_map, e_rev_map, e_app_map, e_eqTT, e_eqLL, e_eqL_nil, e_eqL_cons, e_eqL_nc, e_eqL_cn, e_eqL_strs, e_eqL_ints, e_eqL_m0, e_eqL0, e_eqT0, e_wSkip, e_wSeq, e_wDrop, e_wRet, e_wRetN, e_wBrk, e_wCnt, e_wIfS, e_wSet, e_wTup, e_tg_nm, e_tg_tp, e_setAll_n, e_setAll_c, e_vQ, e_wVar, e_wC, e_wNil, e_wCons, e_wB1, e_wB2, e_wAnd, e_wOr, e_wNot, e_wIf, e_wB, e_wChain, e_wAndV, e_wOrV, e_wNotV, e_wP, e_wGet2, e_getQ_d, e_getQ_l, e_getO_d, e_getO_t, e_wSl, e_wM, e_pop, e_popi, e_wCall, e_wCallK, e_wLc, e_wDc, e_wSeqI, e_wRng1, e_wRng2, e_wEnum, e_enumI, e_wZip, e_wFor, e_wYes, e_wPut, e_wDisp, e_disp_n, e_disp_c, e_wRaise, e_wDict0, e_spb, e_c0, e_c1, e_c2, e_c3, e_c4, e_c5, e_c6, e_c7, e_c8, e_add_i, e_add_s, e_add_t, e_add_l, e_sub_i, e_mul_i, e_mul_l, e_fdiv_i, e_mod_i, e_pow_i, e_neg_i, e_lt_i, e_lt_s, e_le_i, e_gt_i, e_ge_i, e_is_n, e_is_b, e_isN_n, e_isN_b, e_isNon_n, e_isNon_i, e_isNon_s, e_isNon_t, e_isNon_l, e_isNon_b, e_ix_t, e_ix_k, e_ix_l, e_ix_ds, e_ix_di, e_ix_s, e_obDT_l, e_obDT_d, e_obDT_t, e_obD_t, e_obL_t, e_ix_loc, e_ixO_l, e_ixO_d, e_ixO_t, e_len_loc, e_lenO_l, e_lenO_d, e_lenO_t, e_tuple_loc, e_list_loc, e_listO_l, e_listO_d, e_list_d, e_add_ll, e_sl_loc, e_tup, e_lst, e_len_t, e_len_k, e_len_l, e_len_d, e_len_r, e_len_s, e_abs, e_int_i, e_int_b, e_tuple_t, e_tuple_l, e_list_t, e_list_l, e_dict_d, e_dict_l, e_sorted_l, e_isi, e_ty_n, e_ty_b, e_ty_i, e_ty_s, e_ty_t, e_ty_l, e_ty_d, e_sl_t, e_sl_l, e_rev_t, e_rev_l, e_cut_to1, e_cut_from1, e_cut_to, e_cut_from, ec_ok_str, ec_szle, ec_szlt, ec_rng1, ec_rng2, e_wopt_n, e_intQ, e_wopt_s, e_blQ, e_wT, e_putD0, e_putD1, e_putL0, e_putL1, e_setS_f, e_setS_a, e_wd_in, e_wd_mv, e_ok_wd, e_ok_in, e_ok_move, e_en_S, e_en_TK, e_en_L, e_en_ty, e_en_bv, e_en_sb, e_ens_sb, e_bal_sb, e_bals_sb, e_en_isNon, e_en_ix0, e_en_ix1, e_en_ix2, e_en_ix3, e_own, e_pl, ec_own64, ec_pl64, ec_es_sz, e_eqL_ens, e_getD_bal, e_put_bal, e_balK_len, ec_val_mem, e_getput, e_sorted_bal, e_asS_dw, e_asD_dw, e_v_large, e_v_cells, e_v_rest, e_v_turn, e_dw_0, e_dw_1, e_dw_set0, e_put_rest, e_put_turn, u_is_number, u_is_wordT, u_is_word1, u_is_word2, u_is_row, u_is_row_en, u_is_name, u_are_ascending, u_is_lot_of, u_owners_in, u_places_in, u_came_of, u_behind, u_is_entry, e_zero_pl, e_walk_last, e_walk_len, ec_ok_ens, ec_ok_led, ec_ok_pl, ec_ok_own, ec_ok_plT, ec_ok_ownT, ec_minV_bal, u_balances_of, u_is_ledger, u_check_ledger, u_owners_of, u_places_of, u_check_some, u_check_where, u_check_place, u_check_moment, u_others_of, e_bals_last, u_lying_at_end, e_led_sb, u_owners, u_places, u_others, u_balance, u_lying, u_came, u_begun, e_c18, u__law_behind, u__law_owners_of, u__law_places_of, e_asPs_zero, e_merge_zero, u__law_balances, u__law_others, u__law_lying, u__law_came, e_c9, e_p9])
--# _law_is_ledger
def goOwn (bs : Bal) : List En → Bool
  | [] => true
  | e :: es => !(decide (e.a = e.b) || !(decide (1 ≤ e.n) && decide (e.n ≤ 1000000000))) && !(e.mv && decide (getB bs e.a - e.n < 0)) && goOwn (behB bs e) es
def ownL (es : List En) : Bool := decide (es.length ≤ 40) && decide ((ownS es).length ≤ 6) && decide ((plS es).length ≤ 6) && ((ownS es).filter fun x => (plS es).contains x) == [] && goOwn (zeroB (plS es)) es
theorem u__law_is_ledger {es : List En} (hO : OkEs es) : sp__law_is_ledger [.tup (es.map En.d)] S Q Ex = Q (.bl (ownL es)) S := by
  unfold sp__law_is_ledger rd__law_is_ledger
  have h1 := hO.len
  have h2 := hO.pl
  have h3 := hO.ow
  have h4 := filt_len (p := En.mv) (xs := es)
  have h5 := filt_len (p := fun e : En => !e.mv) (xs := es)
  walk_at "ev"
  have c1 : decide (40 < (es.length : Int)) = !decide (es.length ≤ 40) := by
    by_cases h : es.length ≤ 40
    · rw [decide_eq_true h, decide_eq_false (by omega)]; rfl
    · rw [decide_eq_false h, decide_eq_true (by omega)]; rfl
  have c2 : decide (6 < ((ownS es).length : Int)) = !decide ((ownS es).length ≤ 6) := by
    by_cases h : (ownS es).length ≤ 6
    · rw [decide_eq_true h, decide_eq_false (by omega)]; rfl
    · rw [decide_eq_false h, decide_eq_true (by omega)]; rfl
  have c3 : decide (6 < ((plS es).length : Int)) = !decide ((plS es).length ≤ 6) := by
    by_cases h : (plS es).length ≤ 6
    · rw [decide_eq_true h, decide_eq_false (by omega)]; rfl
    · rw [decide_eq_false h, decide_eq_true (by omega)]; rfl
  have hok : okD (.lst (((ownS es).filter (plS es).contains).map D.str)) = true := ok_strs fun x hx => hO.own x (List.mem_filter.mp hx).1
  have hl1 : (es.filter fun e => !e.mv).length < 4000 := by omega
  have hl2 : (es.map En.b ++ (es.filter En.mv).map En.a).length < 4000 := by
    rw [List.length_append, List.length_map, List.length_map]
    omega
  have hz : (zeroB (plS es)).length = (plS es).length := zero_len
  simp only [hl1, hl2, hok, true_and]
  rw [c1, c2, c3]
  unfold ownL
  cases decide (es.length ≤ 40)
  · rfl
  cases decide ((ownS es).length ≤ 6)
  · rfl
  cases decide ((plS es).length ≤ 6)
  · rfl
  by_cases h6 : (ownS es).filter (plS es).contains = []
  · rw [decide_eq_true h6]
    refine (for_rec (g := noG) En.d (fun b : Bal × Option D => [some (.tup (es.map En.d)), some (.lst ((ownS es).map D.str)), b.2, some (.lst ((plS es).map D.str)), none, some (.loc S.length), none]) (fun b => S ++ [.dct (balK b.1)]) (fun l b => (∀ e ∈ l, e ∈ es) ∧ (∀ x ∈ plS es, x ∈ b.1.map (·.1)) ∧ b.1.length + 2 * l.length ≤ 500) (fun l b => Q (.bl (goOwn b.1 l)) S) (fun _ _ _ => trivial) ?_ ?_ (b := (zeroB (plS es), none)) ⟨fun e he => he, fun x hx => zero_keys.mpr hx, by show (zeroB (plS es)).length + _ ≤ _; omega⟩).trans ?_
    · rintro ⟨bs, o⟩ _
      walk_at "ev"
      rfl
    · rintro e l ⟨bs, o⟩ ⟨j1, j2, j3⟩ N hN
      have j2 : ∀ x ∈ plS es, x ∈ bs.map (·.1) := j2
      have j3 : bs.length + 2 * (l.length + 1) ≤ 500 := j3
      obtain ⟨m1, m2⟩ := pl_mem (j1 e List.mem_cons_self)
      obtain ⟨_, _, n1, n2⟩ := hO.nm e (j1 e List.mem_cons_self)
      have k1 := j2 _ m1
      have hle := bal_len_le (bs := bs) (e := e)
      have hp := putB_len (bs := bs) (k := e.a) (v := getB bs e.a - e.n)
      have hj : N [some (.tup (es.map En.d)), some (.lst ((ownS es).map D.str)), some e.d, some (.lst ((plS es).map D.str)), none, some (.loc S.length), none] (S ++ [.dct (balK (behB bs e))]) = Q (.bl (goOwn (behB bs e) l)) S := hN (behB bs e, some e.d) ⟨fun f hf => j1 f (List.mem_cons_of_mem _ hf), fun x hx => beh_keys (j2 x hx), by show (behB bs e).length + _ ≤ _; omega⟩
      have hb : behB bs e = putB (outB bs e) e.b (getB (outB bs e) e.b + e.n) := rfl
      unfold goOwn
      cases hm : e.mv
      · have ho : outB bs e = bs := by unfold outB; rw [hm]; rfl
        rw [ho] at hb
        rw [hb] at hj
        walk_at "ev"
        simp only [hm]
        walk_at "ev"
        rw [hj, hb]
        cases decide (e.a = e.b) <;> cases decide (1 ≤ e.n) <;> cases decide (e.n ≤ 1000000000) <;> rfl
      · have k2 := j2 _ (m2 hm)
        have ho : outB bs e = putB bs e.a (getB bs e.a - e.n) := by unfold outB; rw [hm]; rfl
        rw [ho] at hb
        rw [hb] at hj
        have k3 : e.a ∈ (putB bs e.a (getB bs e.a - e.n)).map (·.1) := (putB_keys _).mpr (.inr rfl)
        have k4 : e.b ∈ (putB bs e.a (getB bs e.a - e.n)).map (·.1) := (putB_keys _).mpr (.inl k1)
        walk_at "ev"
        simp only [hm]
        walk_at "ev"
        rw [hj, hb]
        cases decide (e.a = e.b) <;> cases decide (1 ≤ e.n) <;> cases decide (e.n ≤ 1000000000) <;> cases decide (getB bs e.a - e.n < 0) <;> rfl
    · rw [show ((ownS es).filter fun x => (plS es).contains x) = [] from h6]
      rfl
  · rw [decide_eq_false h6]
    rw [show (((ownS es).filter fun x => (plS es).contains x) == []) = false from by simpa using h6]
    simp
local macro_rules | `(tactic| walk_at "ev") => `(tactic| try simp (maxSteps := 4000000) (dsimp := false) (implicitDefEqProofs := false) (disch := first | assumption | (show (_ : Nat) ≤ _; omega) | (show (_ : Int) ≤ _ ∧ _; omega)) only [↓u_neg, ↓e_lc, ↓e_lcB_if, ↓e_lcB_ifn, ↓e_lcB_t, ↓e_lcB_if2, ↓e_noG, ↓e_lc_nil, ↓e_lc_cons, ↓e_for_nil, ↓e_nx, ↓e_dc, ↓e_dcB_s, ↓e_rt, ↓e_rtF, ↓e_frzR, ↓e_frzR0, ↓e_xq, ↓e_sb_int, ↓e_sb_bl, ↓e_sb_str, ↓e_sb_non, ↓e_sb_scr, ↓e_sb_loc, ↓e_sb_tup, ↓e_sb_ktp, ↓e_sb_lst, ↓e_sb_dct, ↓e_sb_dcT, ↓e_sbL_nil, ↓e_sbK_nil, ↓e_sbL_cons, ↓e_sbL_ints, ↓e_sbL_strs, ↓e_sbL_bls, ↓e_frz_l0, ↓e_frz_d0, ↓e_frz_l1, ↓e_frz_d1, ↓e_frz_l2, ↓e_asS_tup, ↓e_asS_ktp, ↓e_asS_lst, ↓e_asS_scr, ↓e_asS_int, ↓e_asS_non, ↓e_asS_bl, ↓e_asS_str, ↓e_asS_dct, ↓e_asD_dct, ↓e_asD_int, ↓e_asD_str, ↓e_asD_lst, ↓e_asD_tup, ↓e_asDT_str, ↓e_asL_lst, ↓e_asL_tup, ↓e_asL_ktp, ↓e_asL_dct, ↓e_asL_int, ↓e_asL_bl, ↓e_asL_str, ↓e_asL_non, ↓e_asL_loc, ↓e_asS_loc, ↓e_asD_loc, ↓e_obL_s, ↓e_obL_d, ↓e_obD_s, ↓e_obD_l, ↓e_asK_str, ↓e_asK_int, ↓e_asI_int, ↓e_asTK_tup, ↓e_asTK_ktp, ↓e_asLoc_loc, ↓e_lstOf_lst, ↓e_lstOf_tup, ↓e_itOf_tup, ↓e_itOf_ktp, ↓e_itOf_lst, ↓e_itOf_scr, ↓e_itOf_str, ↓e_alL_f, ↓e_alL_t, ↓e_alD_f, ↓e_alD_t, ↓e_kn_bool, ↓e_kn_int, ↓e_kn_str, ↓e_kn_tuple, ↓e_kn_list, ↓e_kn_dict, ↓e_su_ib, ↓e_su_ii, ↓e_su_ss, ↓e_su_tt, ↓e_sz0, ↓e_sz1, ↓e_sz2, ↓e_sz3, ↓e_sz4, ↓e_sz5, ↓e_sz6, ↓e_sz7, ↓e_sz8, ↓e_sz9, ↓e_sz10, ↓e_sz11, ↓e_sz12, ↓e_app, ↓e_iteT, ↓e_iteF, ↓e_new_len, ↓e_new_len2, ↓e_new_two, ↓e_new_three, ↓e_len_map, ↓e_asBls, ↓e_asStrs, ↓e_asInts, ↓e_asStrs0, ↓e_asInts0, ↓e_asBls0, ↓e_all_id, ↓e_any_id, ↓e_sum, ↓e_all, ↓e_any, ↓e_max1l, ↓e_min1l, ↓e_max2, ↓e_min2, ↓e_ixN0, ↓e_bv_loc, ↓e_bvO_l, ↓e_bvO_d, ↓e_eq_nn, ↓e_eq_cn, ↓e_ok_intsL, ↓e_onB, ↓e_oQ_map, ↓e_inT, ↓e_inK, ↓e_inL, ↓e_ninT, ↓e_ninL, ↓e_setS, ↓e_in1, ↓e_chr_len, ↓e_take_map, ↓e_drop_map, ↓e_rev_map, ↓e_app_map, ↓e_eqTT, ↓e_eqLL, ↓e_eqL_nil, ↓e_eqL_cons, ↓e_eqL_nc, ↓e_eqL_cn, ↓e_eqL_strs, ↓e_eqL_ints, ↓e_eqL_m0, ↓e_eqL0, ↓e_eqT0, ↓e_wSkip, ↓e_wSeq, ↓e_wDrop, ↓e_wRet, ↓e_wRetN, ↓e_wBrk, ↓e_wCnt, ↓e_wIfS, ↓e_wSet, ↓e_wTup, ↓e_tg_nm, ↓e_tg_tp, ↓e_setAll_n, ↓e_setAll_c, ↓e_vQ, ↓e_wVar, ↓e_wC, ↓e_wNil, ↓e_wCons, ↓e_wB1, ↓e_wB2, ↓e_wAnd, ↓e_wOr, ↓e_wNot, ↓e_wIf, ↓e_wB, ↓e_wChain, ↓e_wAndV, ↓e_wOrV, ↓e_wNotV, ↓e_wP, ↓e_wGet2, ↓e_getQ_d, ↓e_getQ_l, ↓e_getO_d, ↓e_getO_t, ↓e_wSl, ↓e_wM, ↓e_pop, ↓e_popi, ↓e_wCall, ↓e_wCallK, ↓e_wLc, ↓e_wDc, ↓e_wSeqI, ↓e_wRng1, ↓e_wRng2, ↓e_wEnum, ↓e_enumI, ↓e_wZip, ↓e_wFor, ↓e_wYes, ↓e_wPut, ↓e_wDisp, ↓e_disp_n, ↓e_disp_c, ↓e_wRaise, ↓e_wDict0, ↓e_spb, ↓e_c0, ↓e_c1, ↓e_c2, ↓e_c3, ↓e_c4, ↓e_c5, ↓e_c6, ↓e_c7, ↓e_c8, ↓e_add_i, ↓e_add_s, ↓e_add_t, ↓e_add_l, ↓e_sub_i, ↓e_mul_i, ↓e_mul_l, ↓e_fdiv_i, ↓e_mod_i, ↓e_pow_i, ↓e_neg_i, ↓e_lt_i, ↓e_lt_s, ↓e_le_i, ↓e_gt_i, ↓e_ge_i, ↓e_is_n, ↓e_is_b, ↓e_isN_n, ↓e_isN_b, ↓e_isNon_n, ↓e_isNon_i, ↓e_isNon_s, ↓e_isNon_t, ↓e_isNon_l, ↓e_isNon_b, ↓e_ix_t, ↓e_ix_k, ↓e_ix_l, ↓e_ix_ds, ↓e_ix_di, ↓e_ix_s, ↓e_obDT_l, ↓e_obDT_d, ↓e_obDT_t, ↓e_obD_t, ↓e_obL_t, ↓e_ix_loc, ↓e_ixO_l, ↓e_ixO_d, ↓e_ixO_t, ↓e_len_loc, ↓e_lenO_l, ↓e_lenO_d, ↓e_lenO_t, ↓e_tuple_loc, ↓e_list_loc, ↓e_listO_l, ↓e_listO_d, ↓e_list_d, ↓e_add_ll, ↓e_sl_loc, ↓e_tup, ↓e_lst, ↓e_len_t, ↓e_len_k, ↓e_len_l, ↓e_len_d, ↓e_len_r, ↓e_len_s, ↓e_abs, ↓e_int_i, ↓e_int_b, ↓e_tuple_t, ↓e_tuple_l, ↓e_list_t, ↓e_list_l, ↓e_dict_d, ↓e_dict_l, ↓e_sorted_l, ↓e_isi, ↓e_ty_n, ↓e_ty_b, ↓e_ty_i, ↓e_ty_s, ↓e_ty_t, ↓e_ty_l, ↓e_ty_d, ↓e_sl_t, ↓e_sl_l, ↓e_rev_t, ↓e_rev_l, ↓e_cut_to1, ↓e_cut_from1, ↓e_cut_to, ↓e_cut_from, ↓e_wopt_n, ↓e_intQ, ↓e_wopt_s, ↓e_blQ, ↓e_wT, ↓e_putD0, ↓e_putD1, ↓e_putL0, ↓e_putL1, ↓e_setS_f, ↓e_setS_a, ↓e_wd_in, ↓e_wd_mv, ↓e_ok_wd, ↓e_ok_in, ↓e_ok_move, ↓e_en_S, ↓e_en_TK, ↓e_en_L, ↓e_en_ty, ↓e_en_bv, ↓e_en_sb, ↓e_ens_sb, ↓e_bal_sb, ↓e_bals_sb, ↓e_en_isNon, ↓e_en_ix0, ↓e_en_ix1, ↓e_en_ix2, ↓e_en_ix3, ↓e_own, ↓e_pl, ↓e_eqL_ens, ↓e_getD_bal, ↓e_put_bal, ↓e_balK_len, ↓e_getput, ↓e_sorted_bal, ↓e_asS_dw, ↓e_asD_dw, ↓e_v_large, ↓e_v_cells, ↓e_v_rest, ↓e_v_turn, ↓e_dw_0, ↓e_dw_1, ↓e_dw_set0, ↓e_put_rest, ↓e_put_turn, ↓u_is_number, ↓u_is_wordT, ↓u_is_word1, ↓u_is_word2, ↓u_is_row, ↓u_is_row_en, ↓u_is_name, ↓u_are_ascending, ↓u_is_lot_of, ↓u_owners_in, ↓u_places_in, ↓u_came_of, ↓u_behind, ↓u_is_entry, ↓e_zero_pl, ↓e_walk_last, ↓e_walk_len, ↓u_balances_of, ↓u_is_ledger, ↓u_check_ledger, ↓u_owners_of, ↓u_places_of, ↓u_check_some, ↓u_check_where, ↓u_check_place, ↓u_check_moment, ↓u_others_of, ↓e_bals_last, ↓u_lying_at_end, ↓e_led_sb, ↓u_owners, ↓u_places, ↓u_others, ↓u_balance, ↓u_lying, ↓u_came, ↓u_begun, ↓e_c18, ↓u__law_behind, ↓u__law_owners_of, ↓u__law_places_of, ↓e_asPs_zero, ↓e_merge_zero, ↓u__law_balances, ↓u__law_others, ↓u__law_lying, ↓u__law_came, ↓e_c9, ↓e_p9, ↓u__law_is_ledger, ↓reduceIte, ↓oQ_s, startD, permL, List.map_cons, List.map_nil, List.length_cons, List.length_nil, List.replicate, List.getElem?_cons_succ, List.getElem?_cons_zero, List.cons_append, List.nil_append, List.set_cons_succ, List.set_cons_zero, Nat.reduceAdd, Nat.reduceSub, Nat.reduceEqDiff, wipeD, List.filterMap_cons, List.filterMap_nil, List.length_range, List.getElem?_map, Int.zero_add, List.length_map, List.eraseIdx_cons_zero, Bool.and_true, Bool.true_and, Bool.and_false, Bool.false_and, oQ_s, oQ_n, if_t, if_f, dEq, dNe, bv_int, bv_bl, bv_str, bv_tup, bv_lst, bv_non, eqD_int, eqD_str, eqD_bl, atI0, atI1, atI2, atI3, atI4, atI_nat, atI_nat', atI_succ, ok_int, ok_bl, ok_nil, sto_at, sto_at0, sto_set, sto_set0, Option.isSome_some, Option.isSome_none, Bool.false_eq_true, or_false, false_or, true_or, or_true, Option.map_some, Option.map_none, true_and, and_true, false_and, and_false, Bool.not_true, Bool.not_false, reduceIte, decide_true, decide_false, Bool.decide_eq_true, Bool.decide_eq_false, Bool.not_not, eq_self, reduceCtorEq, Int.reduceEq, Int.reduceLT, Int.reduceLE, u_neg, e_lc, e_lcB_if, e_lcB_ifn, e_lcB_t, e_lcB_if2, e_noG, e_lc_nil, e_lc_cons, e_for_nil, e_nx, e_dc, e_dcB_s, e_rt, e_rtF, e_frzR, e_frzR0, e_xq, e_sb_int, e_sb_bl, e_sb_str, e_sb_non, e_sb_scr, e_sb_loc, e_sb_tup, e_sb_ktp, e_sb_lst, e_sb_dct, e_sb_dcT, e_sbL_nil, e_sbK_nil, e_sbL_cons, e_sbL_ints, e_sbL_strs, e_sbL_bls, e_frz_l0, e_frz_d0, e_frz_l1, e_frz_d1, e_frz_l2, e_asS_tup, e_asS_ktp, e_asS_lst, e_asS_scr, e_asS_int, e_asS_non, e_asS_bl, e_asS_str, e_asS_dct, e_asD_dct, e_asD_int, e_asD_str, e_asD_lst, e_asD_tup, e_asDT_str, e_asL_lst, e_asL_tup, e_asL_ktp, e_asL_dct, e_asL_int, e_asL_bl, e_asL_str, e_asL_non, e_asL_loc, e_asS_loc, e_asD_loc, e_obL_s, e_obL_d, e_obD_s, e_obD_l, e_asK_str, e_asK_int, e_asI_int, e_asTK_tup, e_asTK_ktp, e_asLoc_loc, e_lstOf_lst, e_lstOf_tup, e_itOf_tup, e_itOf_ktp, e_itOf_lst, e_itOf_scr, e_itOf_str, e_alL_f, e_alL_t, e_alD_f, e_alD_t, e_kn_bool, e_kn_int, e_kn_str, e_kn_tuple, e_kn_list, e_kn_dict, e_su_ib, e_su_ii, e_su_ss, e_su_tt, e_sz0, e_sz1, e_sz2, e_sz3, e_sz4, e_sz5, e_sz6, e_sz7, e_sz8, e_sz9, e_sz10, e_sz11, e_sz12, e_app, e_iteT, e_iteF, e_new_len, e_new_len2, e_new_two, e_new_three, e_len_map, e_asBls, e_asStrs, e_asInts, e_asStrs0, e_asInts0, e_asBls0, e_all_id, e_any_id, e_sum, e_all, e_any, e_max1l, e_min1l, e_max2, e_min2, e_ixN0, e_bv_loc, e_bvO_l, e_bvO_d, e_eq_nn, e_eq_cn, e_ok_intsL, e_onB, e_oQ_map, e_inT, e_inK, e_inL, e_ninT, e_ninL, e_setS, e_in1, e_chr_len, ec_oQh, e_take_map, e_drop_map, e_rev_map, e_app_map, e_eqTT, e_eqLL, e_eqL_nil, e_eqL_cons, e_eqL_nc, e_eqL_cn, e_eqL_strs, e_eqL_ints, e_eqL_m0, e_eqL0, e_eqT0, e_wSkip, e_wSeq, e_wDrop, e_wRet, e_wRetN, e_wBrk, e_wCnt, e_wIfS, e_wSet, e_wTup, e_tg_nm, e_tg_tp, e_setAll_n, e_setAll_c, e_vQ, e_wVar, e_wC, e_wNil, e_wCons, e_wB1, e_wB2, e_wAnd, e_wOr, e_wNot, e_wIf, e_wB, e_wChain, e_wAndV, e_wOrV, e_wNotV, e_wP, e_wGet2, e_getQ_d, e_getQ_l, e_getO_d, e_getO_t, e_wSl, e_wM, e_pop, e_popi, e_wCall, e_wCallK, e_wLc, e_wDc, e_wSeqI, e_wRng1, e_wRng2, e_wEnum, e_enumI, e_wZip, e_wFor, e_wYes, e_wPut, e_wDisp, e_disp_n, e_disp_c, e_wRaise, e_wDict0, e_spb, e_c0, e_c1, e_c2, e_c3, e_c4, e_c5, e_c6, e_c7, e_c8, e_add_i, e_add_s, e_add_t, e_add_l, e_sub_i, e_mul_i, e_mul_l, e_fdiv_i, e_mod_i, e_pow_i, e_neg_i, e_lt_i, e_lt_s, e_le_i, e_gt_i, e_ge_i, e_is_n, e_is_b, e_isN_n, e_isN_b, e_isNon_n, e_isNon_i, e_isNon_s, e_isNon_t, e_isNon_l, e_isNon_b, e_ix_t, e_ix_k, e_ix_l, e_ix_ds, e_ix_di, e_ix_s, e_obDT_l, e_obDT_d, e_obDT_t, e_obD_t, e_obL_t, e_ix_loc, e_ixO_l, e_ixO_d, e_ixO_t, e_len_loc, e_lenO_l, e_lenO_d, e_lenO_t, e_tuple_loc, e_list_loc, e_listO_l, e_listO_d, e_list_d, e_add_ll, e_sl_loc, e_tup, e_lst, e_len_t, e_len_k, e_len_l, e_len_d, e_len_r, e_len_s, e_abs, e_int_i, e_int_b, e_tuple_t, e_tuple_l, e_list_t, e_list_l, e_dict_d, e_dict_l, e_sorted_l, e_isi, e_ty_n, e_ty_b, e_ty_i, e_ty_s, e_ty_t, e_ty_l, e_ty_d, e_sl_t, e_sl_l, e_rev_t, e_rev_l, e_cut_to1, e_cut_from1, e_cut_to, e_cut_from, ec_ok_str, ec_szle, ec_szlt, ec_rng1, ec_rng2, e_wopt_n, e_intQ, e_wopt_s, e_blQ, e_wT, e_putD0, e_putD1, e_putL0, e_putL1, e_setS_f, e_setS_a, e_wd_in, e_wd_mv, e_ok_wd, e_ok_in, e_ok_move, e_en_S, e_en_TK, e_en_L, e_en_ty, e_en_bv, e_en_sb, e_ens_sb, e_bal_sb, e_bals_sb, e_en_isNon, e_en_ix0, e_en_ix1, e_en_ix2, e_en_ix3, e_own, e_pl, ec_own64, ec_pl64, ec_es_sz, e_eqL_ens, e_getD_bal, e_put_bal, e_balK_len, ec_val_mem, e_getput, e_sorted_bal, e_asS_dw, e_asD_dw, e_v_large, e_v_cells, e_v_rest, e_v_turn, e_dw_0, e_dw_1, e_dw_set0, e_put_rest, e_put_turn, u_is_number, u_is_wordT, u_is_word1, u_is_word2, u_is_row, u_is_row_en, u_is_name, u_are_ascending, u_is_lot_of, u_owners_in, u_places_in, u_came_of, u_behind, u_is_entry, e_zero_pl, e_walk_last, e_walk_len, ec_ok_ens, ec_ok_led, ec_ok_pl, ec_ok_own, ec_ok_plT, ec_ok_ownT, ec_minV_bal, u_balances_of, u_is_ledger, u_check_ledger, u_owners_of, u_places_of, u_check_some, u_check_where, u_check_place, u_check_moment, u_others_of, e_bals_last, u_lying_at_end, e_led_sb, u_owners, u_places, u_others, u_balance, u_lying, u_came, u_begun, e_c18, u__law_behind, u__law_owners_of, u__law_places_of, e_asPs_zero, e_merge_zero, u__law_balances, u__law_others, u__law_lying, u__law_came, e_c9, e_p9, u__law_is_ledger])

--# _law_is_told_right
theorem cd0 : decide ((0 : Int) = 0) = true := rfl
theorem told_right {T : Sto} {es : List En} (hO : OkEs es) (hL : isL es = true) (hT : ∀ k, OkEs (es.take k)) (hTL : ∀ k, isL (es.take k) = true) (hC : cameS es (ownS es) = lieS es (plS es)) (hD : DrawS T S) (q : ∀ S', DrawS T S' → Q (.bl true) S') : sp__law_is_told_right c [.loc 1, .tup [.str "ledger", .tup (es.map En.d)]] S Q Ex := by
  unfold sp__law_is_told_right rd__law_is_told_right
  have hlen := (isL_own hL).1
  walk_at "ev"
  simp only [hL, reduceIte]
  refine d_take (by omega) (by omega) hD fun r S1 h1 h2 hD1 => ?_
  obtain ⟨k0, rfl⟩ := Int.eq_ofNat_of_zero_le h1
  walk_at "ev"
  refine for_inv (xs := [0, es.length, k0]) (fun k : Nat => D.int k) (fun l ρ S' => (∀ k ∈ l, k ≤ es.length) ∧ S' = S1 ∧ ∃ o5 o6 o7, ρ = [some (.loc 1), some (.tup [.str "ledger", .tup (es.map En.d)]), some (.tup ((ownS es).map D.str)), some (.tup ((plS es).map D.str)), some (.lst ((balsS es).map fun b => balD b)), o5, o6, o7, none, none]) (fun _ _ _ _ => trivial) ?_ ?_ ⟨fun k hk => by
    have : k = 0 ∨ k = es.length ∨ k = k0 := by simpa using hk
    omega, rfl, none, none, none, rfl⟩
  · rintro k l ρ S' ⟨hl, rfl, o5, o6, o7, rfl⟩ N kN
    have hk := hl k List.mem_cons_self
    have hT := hT k
    have hTL := hTL k
    obtain ⟨bs, hb⟩ : ∃ bs, (balsS es)[k]? = some bs := ⟨_, List.getElem?_eq_getElem (by show k < (walkB _ _).length; rw [walkB_len]; omega)⟩
    walk_at "ev"
    refine for_inv D.str (fun l ρ S'' => (∀ x ∈ l, x ∈ plS es) ∧ S'' = S' ∧ ∃ o6, ρ = [some (.loc 1), some (.tup [.str "ledger", .tup (es.map En.d)]), some (.tup ((ownS es).map D.str)), some (.tup ((plS es).map D.str)), some (.lst ((balsS es).map fun b => balD b)), some (.int k), o6, o7, none, none]) (fun _ _ _ _ => trivial) ?_ ?_ ⟨fun x hx => hx, rfl, _, rfl⟩
    · rintro x l ρ S'' ⟨hx, rfl, o6, rfl⟩ N kN
      have hxp := hx x List.mem_cons_self
      have hxb := walk_keys (zero_keys.mpr hxp) bs (List.mem_of_getElem? hb)
      walk_at "ev"
      exact kN _ _ ⟨fun y hy => hx y (List.mem_cons_of_mem _ hy), rfl, _, rfl⟩
    · rintro ρ S'' ⟨_, rfl, o6, rfl⟩
      walk_at "ev"
      walk_at "ev"
      simp only [hTL]
      walk_at "ev"
      exact kN _ _ ⟨fun y hy => hl y (List.mem_cons_of_mem _ hy), rfl, _, _, _, rfl⟩
  · rintro ρ S' ⟨_, rfl, o5, o6, o7, rfl⟩
    have hol := (isL_own hL).2.2
    walk_at "ev"
    refine d_lot (by omega) (setS_pw _) hD1 fun ys S2 hy hD2 => ?_
    walk_at "ev"
    refine d_lot (by omega) (setS_pw _) hD2 fun zs S3 hz hD3 => ?_
    have ly : lotB ys (ownS es) = true := lot_sub (setS_pw _) hy
    have lz : lotB zs (plS es) = true := lot_sub (setS_pw _) hz
    have lo : lotB (ownS es) (ownS es) = true := lot_sub (setS_pw _) (.refl _)
    have lp : lotB (plS es) (plS es) = true := lot_sub (setS_pw _) (.refl _)
    have hyl := (lot_mem ly).1
    have hzl := (lot_mem lz).1
    have hzm := (lot_mem lz).2
    have hyl2 : ys.length ≤ 100 := by omega
    have hzl2 : zs.length ≤ 100 := by omega
    have okO : okD (.tup ((othS es ys).map D.str)) = true := ok_tstrs fun x hx => hO.own x (List.mem_filter.mp hx).1
    walk_at "ev"
    simp only [hL, ly, lz, lo, lp, reduceIte, okO, true_and, hC]
    rw [frz_dr0 hD hD3]
    walk_at "ev"
    rw [decide_eq_true hC]
    exact q _ hD3

end DL

set_option Elab.async false
set_option linter.all false
set_option maxRecDepth 100000
set_option maxHeartbeats 4000000
namespace DL
open PySem PySem.Spec PyProof.Rows L2 RZ
variable {S : Sto} {Q : D → Sto → Prop} {Ex : Xn → Sto → Prop} {c : Str → Addr}
local macro_rules | `(tactic| walk_at "ev") => `(tactic| try simp (maxSteps := 4000000) (dsimp := false) (implicitDefEqProofs := false) (disch := first | assumption | (show (_ : Nat) ≤ _; omega) | (show (_ : Int) ≤ _ ∧ _; omega)) only [↓u_neg, ↓e_lc, ↓e_lcB_if, ↓e_lcB_ifn, ↓e_lcB_t, ↓e_lcB_if2, ↓e_noG, ↓e_lc_nil, ↓e_lc_cons, ↓e_for_nil, ↓e_nx, ↓e_dc, ↓e_dcB_s, ↓e_rt, ↓e_rtF, ↓e_frzR, ↓e_frzR0, ↓e_xq, ↓e_sb_int, ↓e_sb_bl, ↓e_sb_str, ↓e_sb_non, ↓e_sb_scr, ↓e_sb_loc, ↓e_sb_tup, ↓e_sb_ktp, ↓e_sb_lst, ↓e_sb_dct, ↓e_sb_dcT, ↓e_sbL_nil, ↓e_sbK_nil, ↓e_sbL_cons, ↓e_sbL_ints, ↓e_sbL_strs, ↓e_sbL_bls, ↓e_frz_l0, ↓e_frz_d0, ↓e_frz_l1, ↓e_frz_d1, ↓e_frz_l2, ↓e_asS_tup, ↓e_asS_ktp, ↓e_asS_lst, ↓e_asS_scr, ↓e_asS_int, ↓e_asS_non, ↓e_asS_bl, ↓e_asS_str, ↓e_asS_dct, ↓e_asD_dct, ↓e_asD_int, ↓e_asD_str, ↓e_asD_lst, ↓e_asD_tup, ↓e_asDT_str, ↓e_asL_lst, ↓e_asL_tup, ↓e_asL_ktp, ↓e_asL_dct, ↓e_asL_int, ↓e_asL_bl, ↓e_asL_str, ↓e_asL_non, ↓e_asL_loc, ↓e_asS_loc, ↓e_asD_loc, ↓e_obL_s, ↓e_obL_d, ↓e_obD_s, ↓e_obD_l, ↓e_asK_str, ↓e_asK_int, ↓e_asI_int, ↓e_asTK_tup, ↓e_asTK_ktp, ↓e_asLoc_loc, ↓e_lstOf_lst, ↓e_lstOf_tup, ↓e_itOf_tup, ↓e_itOf_ktp, ↓e_itOf_lst, ↓e_itOf_scr, ↓e_itOf_str, ↓e_alL_f, ↓e_alL_t, ↓e_alD_f, ↓e_alD_t, ↓e_kn_bool, ↓e_kn_int, ↓e_kn_str, ↓e_kn_tuple, ↓e_kn_list, ↓e_kn_dict, ↓e_su_ib, ↓e_su_ii, ↓e_su_ss, ↓e_su_tt, ↓e_sz0, ↓e_sz1, ↓e_sz2, ↓e_sz3, ↓e_sz4, ↓e_sz5, ↓e_sz6, ↓e_sz7, ↓e_sz8, ↓e_sz9, ↓e_sz10, ↓e_sz11, ↓e_sz12, ↓e_app, ↓e_iteT, ↓e_iteF, ↓e_new_len, ↓e_new_len2, ↓e_new_two, ↓e_new_three, ↓e_len_map, ↓e_asBls, ↓e_asStrs, ↓e_asInts, ↓e_asStrs0, ↓e_asInts0, ↓e_asBls0, ↓e_all_id, ↓e_any_id, ↓e_sum, ↓e_all, ↓e_any, ↓e_max1l, ↓e_min1l, ↓e_max2, ↓e_min2, ↓e_ixN0, ↓e_bv_loc, ↓e_bvO_l, ↓e_bvO_d, ↓e_eq_nn, ↓e_eq_cn, ↓e_ok_intsL, ↓e_onB, ↓e_oQ_map, ↓e_inT, ↓e_inK, ↓e_inL, ↓e_ninT, ↓e_ninL, ↓e_setS, ↓e_in1, ↓e_chr_len, ↓e_take_map, ↓e_drop_map, ↓e_rev_map, ↓e_app_map, ↓e_eqTT, ↓e_eqLL, ↓e_eqL_nil, ↓e_eqL_cons, ↓e_eqL_nc, ↓e_eqL_cn, ↓e_eqL_strs, ↓e_eqL_ints, ↓e_eqL_m0, ↓e_eqL0, ↓e_eqT0, ↓e_wSkip, ↓e_wSeq, ↓e_wDrop, ↓e_wRet, ↓e_wRetN, ↓e_wBrk, ↓e_wCnt, ↓e_wIfS, ↓e_wSet, ↓e_wTup, ↓e_tg_nm, ↓e_tg_tp, ↓e_setAll_n, ↓e_setAll_c, ↓e_vQ, ↓e_wVar, ↓e_wC, ↓e_wNil, ↓e_wCons, ↓e_wB1, ↓e_wB2, ↓e_wAnd, ↓e_wOr, ↓e_wNot, ↓e_wIf, ↓e_wB, ↓e_wChain, ↓e_wAndV, ↓e_wOrV, ↓e_wNotV, ↓e_wP, ↓e_wGet2, ↓e_getQ_d, ↓e_getQ_l, ↓e_getO_d, ↓e_getO_t, ↓e_wSl, ↓e_wM, ↓e_pop, ↓e_popi, ↓e_wCall, ↓e_wCallK, ↓e_wLc, ↓e_wDc, ↓e_wSeqI, ↓e_wRng1, ↓e_wRng2, ↓e_wEnum, ↓e_enumI, ↓e_wZip, ↓e_wFor, ↓e_wYes, ↓e_wPut, ↓e_wDisp, ↓e_disp_n, ↓e_disp_c, ↓e_wRaise, ↓e_wDict0, ↓e_spb, ↓e_c0, ↓e_c1, ↓e_c2, ↓e_c3, ↓e_c4, ↓e_c5, ↓e_c6, ↓e_c7, ↓e_c8, ↓e_add_i, ↓e_add_s, ↓e_add_t, ↓e_add_l, ↓e_sub_i, ↓e_mul_i, ↓e_mul_l, ↓e_fdiv_i, ↓e_mod_i, ↓e_pow_i, ↓e_neg_i, ↓e_lt_i, ↓e_lt_s, ↓e_le_i, ↓e_gt_i, ↓e_ge_i, ↓e_is_n, ↓e_is_b, ↓e_isN_n, ↓e_isN_b, ↓e_isNon_n, ↓e_isNon_i, ↓e_isNon_s, ↓e_isNon_t, ↓e_isNon_l, ↓e_isNon_b, ↓e_ix_t, ↓e_ix_k, ↓e_ix_l, ↓e_ix_ds, ↓e_ix_di, ↓e_ix_s, ↓e_obDT_l, ↓e_obDT_d, ↓e_obDT_t, ↓e_obD_t, ↓e_obL_t, ↓e_ix_loc, ↓e_ixO_l, ↓e_ixO_d, ↓e_ixO_t, ↓e_len_loc, ↓e_lenO_l, ↓e_lenO_d, ↓e_lenO_t, ↓e_tuple_loc, ↓e_list_loc, ↓e_listO_l, ↓e_listO_d, ↓e_list_d, ↓e_add_ll, ↓e_sl_loc, ↓e_tup, ↓e_lst, ↓e_len_t, ↓e_len_k, ↓e_len_l, ↓e_len_d, ↓e_len_r, ↓e_len_s, ↓e_abs, ↓e_int_i, ↓e_int_b, ↓e_tuple_t, ↓e_tuple_l, ↓e_list_t, ↓e_list_l, ↓e_dict_d, ↓e_dict_l, ↓e_sorted_l, ↓e_isi, ↓e_ty_n, ↓e_ty_b, ↓e_ty_i, ↓e_ty_s, ↓e_ty_t, ↓e_ty_l, ↓e_ty_d, ↓e_sl_t, ↓e_sl_l, ↓e_rev_t, ↓e_rev_l, ↓e_cut_to1, ↓e_cut_from1, ↓e_cut_to, ↓e_cut_from, ↓e_wopt_n, ↓e_intQ, ↓e_wopt_s, ↓e_blQ, ↓e_wT, ↓e_putD0, ↓e_putD1, ↓e_putL0, ↓e_putL1, ↓e_setS_f, ↓e_setS_a, ↓e_wd_in, ↓e_wd_mv, ↓e_ok_wd, ↓e_ok_in, ↓e_ok_move, ↓e_en_S, ↓e_en_TK, ↓e_en_L, ↓e_en_ty, ↓e_en_bv, ↓e_en_sb, ↓e_ens_sb, ↓e_bal_sb, ↓e_bals_sb, ↓e_en_isNon, ↓e_en_ix0, ↓e_en_ix1, ↓e_en_ix2, ↓e_en_ix3, ↓e_own, ↓e_pl, ↓e_eqL_ens, ↓e_getD_bal, ↓e_put_bal, ↓e_balK_len, ↓e_getput, ↓e_sorted_bal, ↓e_asS_dw, ↓e_asD_dw, ↓e_v_large, ↓e_v_cells, ↓e_v_rest, ↓e_v_turn, ↓e_dw_0, ↓e_dw_1, ↓e_dw_set0, ↓e_put_rest, ↓e_put_turn, ↓u_is_number, ↓u_is_wordT, ↓u_is_word1, ↓u_is_word2, ↓u_is_row, ↓u_is_row_en, ↓u_is_name, ↓u_are_ascending, ↓u_is_lot_of, ↓u_owners_in, ↓u_places_in, ↓u_came_of, ↓u_behind, ↓u_is_entry, ↓e_zero_pl, ↓e_walk_last, ↓e_walk_len, ↓u_balances_of, ↓u_is_ledger, ↓u_check_ledger, ↓u_owners_of, ↓u_places_of, ↓u_check_some, ↓u_check_where, ↓u_check_place, ↓u_check_moment, ↓u_others_of, ↓e_bals_last, ↓u_lying_at_end, ↓e_led_sb, ↓u_owners, ↓u_places, ↓u_others, ↓u_balance, ↓u_lying, ↓u_came, ↓u_begun, ↓e_c18, ↓u__law_behind, ↓u__law_owners_of, ↓u__law_places_of, ↓e_asPs_zero, ↓e_merge_zero, ↓u__law_balances, ↓u__law_others, ↓u__law_lying, ↓u__law_came, ↓e_c9, ↓e_p9, ↓u__law_is_ledger, ↓reduceIte, ↓oQ_s, startD, permL, List.map_cons, List.map_nil, List.length_cons, List.length_nil, List.replicate, List.getElem?_cons_succ, List.getElem?_cons_zero, List.cons_append, List.nil_append, List.set_cons_succ, List.set_cons_zero, Nat.reduceAdd, Nat.reduceSub, Nat.reduceEqDiff, wipeD, List.filterMap_cons, List.filterMap_nil, List.length_range, List.getElem?_map, Int.zero_add, List.length_map, List.eraseIdx_cons_zero, Bool.and_true, Bool.true_and, Bool.and_false, Bool.false_and, oQ_s, oQ_n, if_t, if_f, dEq, dNe, bv_int, bv_bl, bv_str, bv_tup, bv_lst, bv_non, eqD_int, eqD_str, eqD_bl, atI0, atI1, atI2, atI3, atI4, atI_nat, atI_nat', atI_succ, ok_int, ok_bl, ok_nil, sto_at, sto_at0, sto_set, sto_set0, Option.isSome_some, Option.isSome_none, Bool.false_eq_true, or_false, false_or, true_or, or_true, Option.map_some, Option.map_none, true_and, and_true, false_and, and_false, Bool.not_true, Bool.not_false, reduceIte, decide_true, decide_false, Bool.decide_eq_true, Bool.decide_eq_false, Bool.not_not, eq_self, reduceCtorEq, Int.reduceEq, Int.reduceLT, Int.reduceLE, u_neg, e_lc, e_lcB_if, e_lcB_ifn, e_lcB_t, e_lcB_if2, e_noG, e_lc_nil, e_lc_cons, e_for_nil, e_nx, e_dc, e_dcB_s, e_rt, e_rtF, e_frzR, e_frzR0, e_xq, e_sb_int, e_sb_bl, e_sb_str, e_sb_non, e_sb_scr, e_sb_loc, e_sb_tup, e_sb_ktp, e_sb_lst, e_sb_dct, e_sb_dcT, e_sbL_nil, e_sbK_nil, e_sbL_cons, e_sbL_ints, e_sbL_strs, e_sbL_bls, e_frz_l0, e_frz_d0, e_frz_l1, e_frz_d1, e_frz_l2, e_asS_tup, e_asS_ktp, e_asS_lst, e_asS_scr, e_asS_int, e_asS_non, e_asS_bl, e_asS_str, e_asS_dct, e_asD_dct, e_asD_int, e_asD_str, e_asD_lst, e_asD_tup, e_asDT_str, e_asL_lst, e_asL_tup, e_asL_ktp, e_asL_dct, e_asL_int, e_asL_bl, e_asL_str, e_asL_non, e_asL_loc, e_asS_loc, e_asD_loc, e_obL_s, e_obL_d, e_obD_s, e_obD_l, e_asK_str, e_asK_int, e_asI_int, e_asTK_tup, e_asTK_ktp, e_asLoc_loc, e_lstOf_lst, e_lstOf_tup, e_itOf_tup, e_itOf_ktp, e_itOf_lst, e_itOf_scr, e_itOf_str, e_alL_f, e_alL_t, e_alD_f, e_alD_t, e_kn_bool, e_kn_int, e_kn_str, e_kn_tuple, e_kn_list, e_kn_dict, e_su_ib, e_su_ii, e_su_ss, e_su_tt, e_sz0, e_sz1, e_sz2, e_sz3, e_sz4, e_sz5, e_sz6, e_sz7, e_sz8, e_sz9, e_sz10, e_sz11, e_sz12, e_app, e_iteT, e_iteF, e_new_len, e_new_len2, e_new_two, e_new_three, e_len_map, e_asBls, e_asStrs, e_asInts, e_asStrs0, e_asInts0, e_asBls0, e_all_id, e_any_id, e_sum, e_all, e_any, e_max1l, e_min1l, e_max2, e_min2, e_ixN0, e_bv_loc, e_bvO_l, e_bvO_d, e_eq_nn, e_eq_cn, e_ok_intsL, e_onB, e_oQ_map, e_inT, e_inK, e_inL, e_ninT, e_ninL, e_setS, e_in1, e_chr_len, ec_oQh, e_take_map, e_drop_map, e_rev_map, e_app_map, e_eqTT, e_eqLL, e_eqL_nil, e_eqL_cons, e_eqL_nc, e_eqL_cn, e_eqL_strs, e_eqL_ints, e_eqL_m0, e_eqL0, e_eqT0, e_wSkip, e_wSeq, e_wDrop, e_wRet, e_wRetN, e_wBrk, e_wCnt, e_wIfS, e_wSet, e_wTup, e_tg_nm, e_tg_tp, e_setAll_n, e_setAll_c, e_vQ, e_wVar, e_wC, e_wNil, e_wCons, e_wB1, e_wB2, e_wAnd, e_wOr, e_wNot, e_wIf, e_wB, e_wChain, e_wAndV, e_wOrV, e_wNotV, e_wP, e_wGet2, e_getQ_d, e_getQ_l, e_getO_d, e_getO_t, e_wSl, e_wM, e_pop, e_popi, e_wCall, e_wCallK, e_wLc, e_wDc, e_wSeqI, e_wRng1, e_wRng2, e_wEnum, e_enumI, e_wZip, e_wFor, e_wYes, e_wPut, e_wDisp, e_disp_n, e_disp_c, e_wRaise, e_wDict0, e_spb, e_c0, e_c1, e_c2, e_c3, e_c4, e_c5, e_c6, e_c7, e_c8, e_add_i, e_add_s, e_add_t, e_add_l, e_sub_i, e_mul_i, e_mul_l, e_fdiv_i, e_mod_i, e_pow_i, e_neg_i, e_lt_i, e_lt_s, e_le_i, e_gt_i, e_ge_i, e_is_n, e_is_b, e_isN_n, e_isN_b, e_isNon_n, e_isNon_i, e_isNon_s, e_isNon_t, e_isNon_l, e_isNon_b, e_ix_t, e_ix_k, e_ix_l, e_ix_ds, e_ix_di, e_ix_s, e_obDT_l, e_obDT_d, e_obDT_t, e_obD_t, e_obL_t, e_ix_loc, e_ixO_l, e_ixO_d, e_ixO_t, e_len_loc, e_lenO_l, e_lenO_d, e_lenO_t, e_tuple_loc, e_list_loc, e_listO_l, e_listO_d, e_list_d, e_add_ll, e_sl_loc, e_tup, e_lst, e_len_t, e_len_k, e_len_l, e_len_d, e_len_r, e_len_s, e_abs, e_int_i, e_int_b, e_tuple_t, e_tuple_l, e_list_t, e_list_l, e_dict_d, e_dict_l, e_sorted_l, e_isi, e_ty_n, e_ty_b, e_ty_i, e_ty_s, e_ty_t, e_ty_l, e_ty_d, e_sl_t, e_sl_l, e_rev_t, e_rev_l, e_cut_to1, e_cut_from1, e_cut_to, e_cut_from, ec_ok_str, ec_szle, ec_szlt, ec_rng1, ec_rng2, e_wopt_n, e_intQ, e_wopt_s, e_blQ, e_wT, e_putD0, e_putD1, e_putL0, e_putL1, e_setS_f, e_setS_a, e_wd_in, e_wd_mv, e_ok_wd, e_ok_in, e_ok_move, e_en_S, e_en_TK, e_en_L, e_en_ty, e_en_bv, e_en_sb, e_ens_sb, e_bal_sb, e_bals_sb, e_en_isNon, e_en_ix0, e_en_ix1, e_en_ix2, e_en_ix3, e_own, e_pl, ec_own64, ec_pl64, ec_es_sz, e_eqL_ens, e_getD_bal, e_put_bal, e_balK_len, ec_val_mem, e_getput, e_sorted_bal, e_asS_dw, e_asD_dw, e_v_large, e_v_cells, e_v_rest, e_v_turn, e_dw_0, e_dw_1, e_dw_set0, e_put_rest, e_put_turn, u_is_number, u_is_wordT, u_is_word1, u_is_word2, u_is_row, u_is_row_en, u_is_name, u_are_ascending, u_is_lot_of, u_owners_in, u_places_in, u_came_of, u_behind, u_is_entry, e_zero_pl, e_walk_last, e_walk_len, ec_ok_ens, ec_ok_led, ec_ok_pl, ec_ok_own, ec_ok_plT, ec_ok_ownT, ec_minV_bal, u_balances_of, u_is_ledger, u_check_ledger, u_owners_of, u_places_of, u_check_some, u_check_where, u_check_place, u_check_moment, u_others_of, e_bals_last, u_lying_at_end, e_led_sb, u_owners, u_places, u_others, u_balance, u_lying, u_came, u_begun, e_c18, u__law_behind, u__law_owners_of, u__law_places_of, e_asPs_zero, e_merge_zero, u__law_balances, u__law_others, u__law_lying, u__law_came, e_c9, e_p9, u__law_is_ledger])
--#
def allN : List Str := ["ann", "bob", "cyd", "dan", "eve", "fay", "boat", "chest", "desk", "inn", "jar", "kiln", "zed", "moat", "zoe", "yul", "xan", "wim"]
theorem allN_nm : ∀ x ∈ allN, isNm x = true := by decide +kernel
theorem allN_ok : ∀ x ∈ allN, PyData.strOk x = true ∧ x.length ≤ 8 := by decide +kernel
def Pool (es : List En) : Prop := ∀ e ∈ es, e.a ∈ allN ∧ e.b ∈ allN
theorem Pool.ok {es : List En} (h : Pool es) (hl : es.length ≤ 100) : OkEs es := by
  have e2 := sizeLine_eq
  refine ⟨hl, ?_, ?_, fun e he => ?_⟩
  · have : (plS es).length ≤ allN.length := nodup_le (nodup_setS _) fun x hx => by
      rcases List.mem_append.mp (mem_setS.mp hx) with z | z
      · obtain ⟨e, he, rfl⟩ := List.mem_map.mp z
        exact (h e he).2
      · obtain ⟨e, he, rfl⟩ := List.mem_map.mp z
        exact (h e (List.mem_filter.mp he).1).1
    exact Nat.lt_of_le_of_lt this (by decide)
  · have : (ownS es).length ≤ allN.length := nodup_le (nodup_setS _) fun x hx => by
      obtain ⟨e, he, rfl⟩ := List.mem_map.mp (mem_setS.mp hx)
      exact (h e (List.mem_filter.mp he).1).1
    exact Nat.lt_of_le_of_lt this (by decide)
  · obtain ⟨a, b⟩ := h e he
    have h1 := allN_ok _ a
    have h2 := allN_ok _ b
    exact ⟨by omega, by omega, h1.1, h2.1⟩
theorem Pool.take {es : List En} (h : Pool es) (k : Nat) : Pool (es.take k) := fun e he => h e (List.mem_of_mem_take he)
--# _law_bent
theorem d_bent {T : Sto} {es : List En} (hP : Pool es) (h0 : es ≠ []) (hl : es.length ≤ 50) (hD : DrawS T S) (q : ∀ fs S', fs.length ≤ es.length + 1 → Pool fs → DrawS T S' → Q (.tup (fs.map En.d)) S') : sp__law_bent [.loc 1, .tup (es.map En.d)] S Q Ex := by
  unfold sp__law_bent rd__law_bent
  have hp : 0 < es.length := List.length_pos_iff.mpr h0
  walk_at "ev"
  refine d_take (by omega) (by omega) hD fun r S1 h1 h2 hD1 => ?_
  obtain ⟨k, rfl⟩ := Int.eq_ofNat_of_zero_le h1
  have hk : k < es.length := by omega
  have hke := List.getElem?_eq_getElem hk
  have hmem := List.getElem_mem hk
  generalize es[k] = e at hke hmem
  walk_at "ev"
  refine d_take (by decide) (by decide) hD1 fun how S2 q1 q2 hD2 => ?_
  walk_at "ev"
  have fin : ∀ fs S3, fs.length ≤ es.length + 1 → Pool fs → DrawS T S3 → oQ (sbL (frz S3 S.length 6) (fs.map En.d)) (fun x => oQ (frzR S S3) fun S'' => Q (.tup x) S'') := fun fs S3 a b hD3 => by
    rw [e_ens_sb, oQ_s, frz_dr0 hD hD3]
    exact q fs S3 a b hD3
  have ht : (es.take k).length ≤ 50 := by rw [List.length_take]; omega
  have hd : (es.drop (k + 1)).length ≤ 50 := by rw [List.length_drop]; omega
  have hd0 : (es.drop k).length ≤ 50 := by rw [List.length_drop]; omega
  have ht1 : (es.take (k + 1)).length ≤ 50 := by rw [List.length_take]; omega
  have mid : ∀ (f : En) S3, (f.a ∈ allN ∧ f.b ∈ allN) → DrawS T S3 → (((es.take k).map En.d) ++ [f.d]).length + (es.drop (k + 1)).length ≤ sizeLine ∧ oQ (sbL (frz S3 S.length 6) ((es.take k).map En.d ++ [f.d] ++ (es.drop (k + 1)).map En.d)) (fun x => oQ (frzR S S3) fun S'' => Q (.tup x) S'') := fun f S3 hf hD3 => by
    have e2 := sizeLine_eq
    refine ⟨by rw [List.length_append, List.length_map]; show _ + 1 + _ ≤ _; omega, ?_⟩
    have e : (es.take k).map En.d ++ [f.d] ++ (es.drop (k + 1)).map En.d = (es.take k ++ [f] ++ es.drop (k + 1)).map En.d := by
      rw [List.map_append, List.map_append]
      rfl
    rw [e]
    refine fin _ S3 ?_ (fun g hg => ?_) hD3
    · rw [List.length_append, List.length_append, List.length_take, List.length_drop]
      show min k es.length + 1 + _ ≤ _
      omega
    · rcases List.mem_append.mp hg with z | z
      · rcases List.mem_append.mp z with z | z
        · exact hP g (List.mem_of_mem_take z)
        · rw [List.mem_singleton.mp z]
          exact hf
      · exact hP g (List.mem_of_mem_drop z)
  have he := hP e hmem
  have ins : ∀ y ∈ (["boat", "chest", "moat", "ann", "zed"] : List Str), y ∈ allN := by decide +kernel
  split
  · have e2 := sizeLine_eq
    rw [frz_dr0 hD hD2]
    refine ⟨by omega, q _ S2 ?_ (fun g hg => ?_) hD2⟩
    · rw [List.length_append, List.length_take, List.length_drop]; omega
    · rcases List.mem_append.mp hg with z | z
      · exact hP g (List.mem_of_mem_take z)
      · exact hP g (List.mem_of_mem_drop z)
  split
  · have e2 := sizeLine_eq
    rw [frz_dr0 hD hD2]
    refine ⟨by omega, q _ S2 ?_ (fun g hg => ?_) hD2⟩
    · rw [List.length_append, List.length_take, List.length_drop]; omega
    · rcases List.mem_append.mp hg with z | z
      · exact hP g (List.mem_of_mem_take z)
      · exact hP g (List.mem_of_mem_drop z)
  split
  · refine d_pick_i (xs := [1, -1, e.n, 0 - e.n, 1000000000]) (by simp) (by simp) hD2 fun x S3 _ hD3 => ?_
    walk_at "ev"
    exact mid ⟨e.mv, e.a, e.b, e.n + x⟩ S3 he hD3
  split
  · refine d_pick_s (xs := ["boat", "chest", "moat", e.a]) (by simp) (by simp) hD2 fun x S3 hx hD3 => ?_
    walk_at "ev"
    refine mid ⟨e.mv, e.a, x, e.n⟩ S3 ⟨he.1, ?_⟩ hD3
    have : x ∈ (["boat", "chest", "moat"] : List Str) ∨ x = e.a := by simpa [or_assoc] using hx
    rcases this with z | z
    · exact (show ∀ y ∈ (["boat", "chest", "moat"] : List Str), y ∈ allN by decide +kernel) x z
    · rw [z]; exact he.1
  split
  · refine d_pick_s (xs := ["ann", "boat", "chest", "zed", e.b]) (by simp) (by simp) hD2 fun x S3 hx hD3 => ?_
    walk_at "ev"
    refine mid ⟨e.mv, x, e.b, e.n⟩ S3 ⟨?_, he.2⟩ hD3
    have : x ∈ (["ann", "boat", "chest", "zed"] : List Str) ∨ x = e.b := by simpa [or_assoc] using hx
    rcases this with z | z
    · exact (show ∀ y ∈ (["ann", "boat", "chest", "zed"] : List Str), y ∈ allN by decide +kernel) x z
    · rw [z]; exact he.2
  split
  · split
    · first | exact mid ⟨true, e.a, e.b, e.n⟩ S2 he hD2 | exact ⟨by have e2 := sizeLine_eq; omega, mid ⟨true, e.a, e.b, e.n⟩ S2 he hD2⟩
    · first | exact mid ⟨false, e.a, e.b, e.n⟩ S2 he hD2 | exact ⟨by have e2 := sizeLine_eq; omega, mid ⟨false, e.a, e.b, e.n⟩ S2 he hD2⟩
  · rw [frz_dr0 hD hD2]
    exact q _ _ (by rw [List.length_reverse]; omega) (fun g hg => hP g (List.mem_reverse.mp hg)) hD2

end DL

set_option Elab.async false
set_option linter.all false
set_option maxRecDepth 100000
set_option maxHeartbeats 4000000
namespace DL
open PySem PySem.Spec PyProof.Rows L2 RZ
variable {S : Sto} {Q : D → Sto → Prop} {Ex : Xn → Sto → Prop} {c : Str → Addr}
local macro_rules | `(tactic| walk_at "ev") => `(tactic| try simp (maxSteps := 4000000) (dsimp := false) (implicitDefEqProofs := false) (disch := first | assumption | (show (_ : Nat) ≤ _; omega) | (show (_ : Int) ≤ _ ∧ _; omega)) only [↓u_neg, ↓e_lc, ↓e_lcB_if, ↓e_lcB_ifn, ↓e_lcB_t, ↓e_lcB_if2, ↓e_noG, ↓e_lc_nil, ↓e_lc_cons, ↓e_for_nil, ↓e_nx, ↓e_dc, ↓e_dcB_s, ↓e_rt, ↓e_rtF, ↓e_frzR, ↓e_frzR0, ↓e_xq, ↓e_sb_int, ↓e_sb_bl, ↓e_sb_str, ↓e_sb_non, ↓e_sb_scr, ↓e_sb_loc, ↓e_sb_tup, ↓e_sb_ktp, ↓e_sb_lst, ↓e_sb_dct, ↓e_sb_dcT, ↓e_sbL_nil, ↓e_sbK_nil, ↓e_sbL_cons, ↓e_sbL_ints, ↓e_sbL_strs, ↓e_sbL_bls, ↓e_frz_l0, ↓e_frz_d0, ↓e_frz_l1, ↓e_frz_d1, ↓e_frz_l2, ↓e_asS_tup, ↓e_asS_ktp, ↓e_asS_lst, ↓e_asS_scr, ↓e_asS_int, ↓e_asS_non, ↓e_asS_bl, ↓e_asS_str, ↓e_asS_dct, ↓e_asD_dct, ↓e_asD_int, ↓e_asD_str, ↓e_asD_lst, ↓e_asD_tup, ↓e_asDT_str, ↓e_asL_lst, ↓e_asL_tup, ↓e_asL_ktp, ↓e_asL_dct, ↓e_asL_int, ↓e_asL_bl, ↓e_asL_str, ↓e_asL_non, ↓e_asL_loc, ↓e_asS_loc, ↓e_asD_loc, ↓e_obL_s, ↓e_obL_d, ↓e_obD_s, ↓e_obD_l, ↓e_asK_str, ↓e_asK_int, ↓e_asI_int, ↓e_asTK_tup, ↓e_asTK_ktp, ↓e_asLoc_loc, ↓e_lstOf_lst, ↓e_lstOf_tup, ↓e_itOf_tup, ↓e_itOf_ktp, ↓e_itOf_lst, ↓e_itOf_scr, ↓e_itOf_str, ↓e_alL_f, ↓e_alL_t, ↓e_alD_f, ↓e_alD_t, ↓e_kn_bool, ↓e_kn_int, ↓e_kn_str, ↓e_kn_tuple, ↓e_kn_list, ↓e_kn_dict, ↓e_su_ib, ↓e_su_ii, ↓e_su_ss, ↓e_su_tt, ↓e_sz0, ↓e_sz1, ↓e_sz2, ↓e_sz3, ↓e_sz4, ↓e_sz5, ↓e_sz6, ↓e_sz7, ↓e_sz8, ↓e_sz9, ↓e_sz10, ↓e_sz11, ↓e_sz12, ↓e_app, ↓e_iteT, ↓e_iteF, ↓e_new_len, ↓e_new_len2, ↓e_new_two, ↓e_new_three, ↓e_len_map, ↓e_asBls, ↓e_asStrs, ↓e_asInts, ↓e_asStrs0, ↓e_asInts0, ↓e_asBls0, ↓e_all_id, ↓e_any_id, ↓e_sum, ↓e_all, ↓e_any, ↓e_max1l, ↓e_min1l, ↓e_max2, ↓e_min2, ↓e_ixN0, ↓e_bv_loc, ↓e_bvO_l, ↓e_bvO_d, ↓e_eq_nn, ↓e_eq_cn, ↓e_ok_intsL, ↓e_onB, ↓e_oQ_map, ↓e_inT, ↓e_inK, ↓e_inL, ↓e_ninT, ↓e_ninL, ↓e_setS, ↓e_in1, ↓e_chr_len, ↓e_take_map, ↓e_drop_map, ↓e_rev_map, ↓e_app_map, ↓e_eqTT, ↓e_eqLL, ↓e_eqL_nil, ↓e_eqL_cons, ↓e_eqL_nc, ↓e_eqL_cn, ↓e_eqL_strs, ↓e_eqL_ints, ↓e_eqL_m0, ↓e_eqL0, ↓e_eqT0, ↓e_wSkip, ↓e_wSeq, ↓e_wDrop, ↓e_wRet, ↓e_wRetN, ↓e_wBrk, ↓e_wCnt, ↓e_wIfS, ↓e_wSet, ↓e_wTup, ↓e_tg_nm, ↓e_tg_tp, ↓e_setAll_n, ↓e_setAll_c, ↓e_vQ, ↓e_wVar, ↓e_wC, ↓e_wNil, ↓e_wCons, ↓e_wB1, ↓e_wB2, ↓e_wAnd, ↓e_wOr, ↓e_wNot, ↓e_wIf, ↓e_wB, ↓e_wChain, ↓e_wAndV, ↓e_wOrV, ↓e_wNotV, ↓e_wP, ↓e_wGet2, ↓e_getQ_d, ↓e_getQ_l, ↓e_getO_d, ↓e_getO_t, ↓e_wSl, ↓e_wM, ↓e_pop, ↓e_popi, ↓e_wCall, ↓e_wCallK, ↓e_wLc, ↓e_wDc, ↓e_wSeqI, ↓e_wRng1, ↓e_wRng2, ↓e_wEnum, ↓e_enumI, ↓e_wZip, ↓e_wFor, ↓e_wYes, ↓e_wPut, ↓e_wDisp, ↓e_disp_n, ↓e_disp_c, ↓e_wRaise, ↓e_wDict0, ↓e_spb, ↓e_c0, ↓e_c1, ↓e_c2, ↓e_c3, ↓e_c4, ↓e_c5, ↓e_c6, ↓e_c7, ↓e_c8, ↓e_add_i, ↓e_add_s, ↓e_add_t, ↓e_add_l, ↓e_sub_i, ↓e_mul_i, ↓e_mul_l, ↓e_fdiv_i, ↓e_mod_i, ↓e_pow_i, ↓e_neg_i, ↓e_lt_i, ↓e_lt_s, ↓e_le_i, ↓e_gt_i, ↓e_ge_i, ↓e_is_n, ↓e_is_b, ↓e_isN_n, ↓e_isN_b, ↓e_isNon_n, ↓e_isNon_i, ↓e_isNon_s, ↓e_isNon_t, ↓e_isNon_l, ↓e_isNon_b, ↓e_ix_t, ↓e_ix_k, ↓e_ix_l, ↓e_ix_ds, ↓e_ix_di, ↓e_ix_s, ↓e_obDT_l, ↓e_obDT_d, ↓e_obDT_t, ↓e_obD_t, ↓e_obL_t, ↓e_ix_loc, ↓e_ixO_l, ↓e_ixO_d, ↓e_ixO_t, ↓e_len_loc, ↓e_lenO_l, ↓e_lenO_d, ↓e_lenO_t, ↓e_tuple_loc, ↓e_list_loc, ↓e_listO_l, ↓e_listO_d, ↓e_list_d, ↓e_add_ll, ↓e_sl_loc, ↓e_tup, ↓e_lst, ↓e_len_t, ↓e_len_k, ↓e_len_l, ↓e_len_d, ↓e_len_r, ↓e_len_s, ↓e_abs, ↓e_int_i, ↓e_int_b, ↓e_tuple_t, ↓e_tuple_l, ↓e_list_t, ↓e_list_l, ↓e_dict_d, ↓e_dict_l, ↓e_sorted_l, ↓e_isi, ↓e_ty_n, ↓e_ty_b, ↓e_ty_i, ↓e_ty_s, ↓e_ty_t, ↓e_ty_l, ↓e_ty_d, ↓e_sl_t, ↓e_sl_l, ↓e_rev_t, ↓e_rev_l, ↓e_cut_to1, ↓e_cut_from1, ↓e_cut_to, ↓e_cut_from, ↓e_wopt_n, ↓e_intQ, ↓e_wopt_s, ↓e_blQ, ↓e_wT, ↓e_putD0, ↓e_putD1, ↓e_putL0, ↓e_putL1, ↓e_setS_f, ↓e_setS_a, ↓e_wd_in, ↓e_wd_mv, ↓e_ok_wd, ↓e_ok_in, ↓e_ok_move, ↓e_en_S, ↓e_en_TK, ↓e_en_L, ↓e_en_ty, ↓e_en_bv, ↓e_en_sb, ↓e_ens_sb, ↓e_bal_sb, ↓e_bals_sb, ↓e_en_isNon, ↓e_en_ix0, ↓e_en_ix1, ↓e_en_ix2, ↓e_en_ix3, ↓e_own, ↓e_pl, ↓e_eqL_ens, ↓e_getD_bal, ↓e_put_bal, ↓e_balK_len, ↓e_getput, ↓e_sorted_bal, ↓e_asS_dw, ↓e_asD_dw, ↓e_v_large, ↓e_v_cells, ↓e_v_rest, ↓e_v_turn, ↓e_dw_0, ↓e_dw_1, ↓e_dw_set0, ↓e_put_rest, ↓e_put_turn, ↓u_is_number, ↓u_is_wordT, ↓u_is_word1, ↓u_is_word2, ↓u_is_row, ↓u_is_row_en, ↓u_is_name, ↓u_are_ascending, ↓u_is_lot_of, ↓u_owners_in, ↓u_places_in, ↓u_came_of, ↓u_behind, ↓u_is_entry, ↓e_zero_pl, ↓e_walk_last, ↓e_walk_len, ↓u_balances_of, ↓u_is_ledger, ↓u_check_ledger, ↓u_owners_of, ↓u_places_of, ↓u_check_some, ↓u_check_where, ↓u_check_place, ↓u_check_moment, ↓u_others_of, ↓e_bals_last, ↓u_lying_at_end, ↓e_led_sb, ↓u_owners, ↓u_places, ↓u_others, ↓u_balance, ↓u_lying, ↓u_came, ↓u_begun, ↓e_c18, ↓u__law_behind, ↓u__law_owners_of, ↓u__law_places_of, ↓e_asPs_zero, ↓e_merge_zero, ↓u__law_balances, ↓u__law_others, ↓u__law_lying, ↓u__law_came, ↓e_c9, ↓e_p9, ↓u__law_is_ledger, ↓reduceIte, ↓oQ_s, startD, permL, List.map_cons, List.map_nil, List.length_cons, List.length_nil, List.replicate, List.getElem?_cons_succ, List.getElem?_cons_zero, List.cons_append, List.nil_append, List.set_cons_succ, List.set_cons_zero, Nat.reduceAdd, Nat.reduceSub, Nat.reduceEqDiff, wipeD, List.filterMap_cons, List.filterMap_nil, List.length_range, List.getElem?_map, Int.zero_add, List.length_map, List.eraseIdx_cons_zero, Bool.and_true, Bool.true_and, Bool.and_false, Bool.false_and, oQ_s, oQ_n, if_t, if_f, dEq, dNe, bv_int, bv_bl, bv_str, bv_tup, bv_lst, bv_non, eqD_int, eqD_str, eqD_bl, atI0, atI1, atI2, atI3, atI4, atI_nat, atI_nat', atI_succ, ok_int, ok_bl, ok_nil, sto_at, sto_at0, sto_set, sto_set0, Option.isSome_some, Option.isSome_none, Bool.false_eq_true, or_false, false_or, true_or, or_true, Option.map_some, Option.map_none, true_and, and_true, false_and, and_false, Bool.not_true, Bool.not_false, reduceIte, decide_true, decide_false, Bool.decide_eq_true, Bool.decide_eq_false, Bool.not_not, eq_self, reduceCtorEq, Int.reduceEq, Int.reduceLT, Int.reduceLE, u_neg, e_lc, e_lcB_if, e_lcB_ifn, e_lcB_t, e_lcB_if2, e_noG, e_lc_nil, e_lc_cons, e_for_nil, e_nx, e_dc, e_dcB_s, e_rt, e_rtF, e_frzR, e_frzR0, e_xq, e_sb_int, e_sb_bl, e_sb_str, e_sb_non, e_sb_scr, e_sb_loc, e_sb_tup, e_sb_ktp, e_sb_lst, e_sb_dct, e_sb_dcT, e_sbL_nil, e_sbK_nil, e_sbL_cons, e_sbL_ints, e_sbL_strs, e_sbL_bls, e_frz_l0, e_frz_d0, e_frz_l1, e_frz_d1, e_frz_l2, e_asS_tup, e_asS_ktp, e_asS_lst, e_asS_scr, e_asS_int, e_asS_non, e_asS_bl, e_asS_str, e_asS_dct, e_asD_dct, e_asD_int, e_asD_str, e_asD_lst, e_asD_tup, e_asDT_str, e_asL_lst, e_asL_tup, e_asL_ktp, e_asL_dct, e_asL_int, e_asL_bl, e_asL_str, e_asL_non, e_asL_loc, e_asS_loc, e_asD_loc, e_obL_s, e_obL_d, e_obD_s, e_obD_l, e_asK_str, e_asK_int, e_asI_int, e_asTK_tup, e_asTK_ktp, e_asLoc_loc, e_lstOf_lst, e_lstOf_tup, e_itOf_tup, e_itOf_ktp, e_itOf_lst, e_itOf_scr, e_itOf_str, e_alL_f, e_alL_t, e_alD_f, e_alD_t, e_kn_bool, e_kn_int, e_kn_str, e_kn_tuple, e_kn_list, e_kn_dict, e_su_ib, e_su_ii, e_su_ss, e_su_tt, e_sz0, e_sz1, e_sz2, e_sz3, e_sz4, e_sz5, e_sz6, e_sz7, e_sz8, e_sz9, e_sz10, e_sz11, e_sz12, e_app, e_iteT, e_iteF, e_new_len, e_new_len2, e_new_two, e_new_three, e_len_map, e_asBls, e_asStrs, e_asInts, e_asStrs0, e_asInts0, e_asBls0, e_all_id, e_any_id, e_sum, e_all, e_any, e_max1l, e_min1l, e_max2, e_min2, e_ixN0, e_bv_loc, e_bvO_l, e_bvO_d, e_eq_nn, e_eq_cn, e_ok_intsL, e_onB, e_oQ_map, e_inT, e_inK, e_inL, e_ninT, e_ninL, e_setS, e_in1, e_chr_len, ec_oQh, e_take_map, e_drop_map, e_rev_map, e_app_map, e_eqTT, e_eqLL, e_eqL_nil, e_eqL_cons, e_eqL_nc, e_eqL_cn, e_eqL_strs, e_eqL_ints, e_eqL_m0, e_eqL0, e_eqT0, e_wSkip, e_wSeq, e_wDrop, e_wRet, e_wRetN, e_wBrk, e_wCnt, e_wIfS, e_wSet, e_wTup, e_tg_nm, e_tg_tp, e_setAll_n, e_setAll_c, e_vQ, e_wVar, e_wC, e_wNil, e_wCons, e_wB1, e_wB2, e_wAnd, e_wOr, e_wNot, e_wIf, e_wB, e_wChain, e_wAndV, e_wOrV, e_wNotV, e_wP, e_wGet2, e_getQ_d, e_getQ_l, e_getO_d, e_getO_t, e_wSl, e_wM, e_pop, e_popi, e_wCall, e_wCallK, e_wLc, e_wDc, e_wSeqI, e_wRng1, e_wRng2, e_wEnum, e_enumI, e_wZip, e_wFor, e_wYes, e_wPut, e_wDisp, e_disp_n, e_disp_c, e_wRaise, e_wDict0, e_spb, e_c0, e_c1, e_c2, e_c3, e_c4, e_c5, e_c6, e_c7, e_c8, e_add_i, e_add_s, e_add_t, e_add_l, e_sub_i, e_mul_i, e_mul_l, e_fdiv_i, e_mod_i, e_pow_i, e_neg_i, e_lt_i, e_lt_s, e_le_i, e_gt_i, e_ge_i, e_is_n, e_is_b, e_isN_n, e_isN_b, e_isNon_n, e_isNon_i, e_isNon_s, e_isNon_t, e_isNon_l, e_isNon_b, e_ix_t, e_ix_k, e_ix_l, e_ix_ds, e_ix_di, e_ix_s, e_obDT_l, e_obDT_d, e_obDT_t, e_obD_t, e_obL_t, e_ix_loc, e_ixO_l, e_ixO_d, e_ixO_t, e_len_loc, e_lenO_l, e_lenO_d, e_lenO_t, e_tuple_loc, e_list_loc, e_listO_l, e_listO_d, e_list_d, e_add_ll, e_sl_loc, e_tup, e_lst, e_len_t, e_len_k, e_len_l, e_len_d, e_len_r, e_len_s, e_abs, e_int_i, e_int_b, e_tuple_t, e_tuple_l, e_list_t, e_list_l, e_dict_d, e_dict_l, e_sorted_l, e_isi, e_ty_n, e_ty_b, e_ty_i, e_ty_s, e_ty_t, e_ty_l, e_ty_d, e_sl_t, e_sl_l, e_rev_t, e_rev_l, e_cut_to1, e_cut_from1, e_cut_to, e_cut_from, ec_ok_str, ec_szle, ec_szlt, ec_rng1, ec_rng2, e_wopt_n, e_intQ, e_wopt_s, e_blQ, e_wT, e_putD0, e_putD1, e_putL0, e_putL1, e_setS_f, e_setS_a, e_wd_in, e_wd_mv, e_ok_wd, e_ok_in, e_ok_move, e_en_S, e_en_TK, e_en_L, e_en_ty, e_en_bv, e_en_sb, e_ens_sb, e_bal_sb, e_bals_sb, e_en_isNon, e_en_ix0, e_en_ix1, e_en_ix2, e_en_ix3, e_own, e_pl, ec_own64, ec_pl64, ec_es_sz, e_eqL_ens, e_getD_bal, e_put_bal, e_balK_len, ec_val_mem, e_getput, e_sorted_bal, e_asS_dw, e_asD_dw, e_v_large, e_v_cells, e_v_rest, e_v_turn, e_dw_0, e_dw_1, e_dw_set0, e_put_rest, e_put_turn, u_is_number, u_is_wordT, u_is_word1, u_is_word2, u_is_row, u_is_row_en, u_is_name, u_are_ascending, u_is_lot_of, u_owners_in, u_places_in, u_came_of, u_behind, u_is_entry, e_zero_pl, e_walk_last, e_walk_len, ec_ok_ens, ec_ok_led, ec_ok_pl, ec_ok_own, ec_ok_plT, ec_ok_ownT, ec_minV_bal, u_balances_of, u_is_ledger, u_check_ledger, u_owners_of, u_places_of, u_check_some, u_check_where, u_check_place, u_check_moment, u_others_of, e_bals_last, u_lying_at_end, e_led_sb, u_owners, u_places, u_others, u_balance, u_lying, u_came, u_begun, e_c18, u__law_behind, u__law_owners_of, u__law_places_of, e_asPs_zero, e_merge_zero, u__law_balances, u__law_others, u__law_lying, u__law_came, e_c9, e_p9, u__law_is_ledger])
--#
/-! the mathematics of k10 -/
def keys (bs : Bal) : List Str := bs.map (·.1)
theorem min_ge {bs : Bal} (h : bs ≠ []) : (0 ≤ minI (bs.map (·.2))) ↔ ∀ p ∈ bs, 0 ≤ p.2 := by
  have hn : bs.map (·.2) ≠ [] := fun z => h (List.map_eq_nil_iff.mp z)
  constructor
  · intro h0 p hp
    exact Int.le_trans h0 (minI_le _ (List.mem_map_of_mem hp))
  · intro h0
    obtain ⟨p, hp, e⟩ := List.mem_map.mp (minI_mem hn)
    rw [← e]
    exact h0 p hp
/-- all that stands is not below 0, by the names -/
theorem all_get {bs : Bal} (nd : (bs.map (·.1)).Nodup) : (∀ p ∈ bs, 0 ≤ p.2) ↔ ∀ x ∈ bs.map (·.1), 0 ≤ getB bs x := by
  have get : ∀ p ∈ bs, getB bs p.1 = p.2 := by
    intro p hp
    obtain ⟨q, h1, h2⟩ := find_some (bs := bs) (x := p.1) (List.mem_map_of_mem hp)
    have hq : q ∈ bs := List.mem_of_find?_eq_some h1
    have e : q.1 = p.1 := by simpa using List.find?_some h1
    rw [h2]
    have : q = p := by
      clear h1 h2
      induction bs with
      | nil => cases hp
      | cons b bs ih =>
        rw [List.map_cons, List.nodup_cons] at nd
        rcases List.mem_cons.mp hp with e1 | hp1
        · rcases List.mem_cons.mp hq with e2 | hq1
          · rw [e1, e2]
          · exact absurd (by rw [← e1, ← e]; exact List.mem_map_of_mem hq1) nd.1
        · rcases List.mem_cons.mp hq with e2 | hq1
          · exact absurd (by rw [← e2, e]; exact List.mem_map_of_mem hp1) nd.1
          · exact ih nd.2 hp1 hq1
    rw [this]
  constructor
  · intro h x hx
    obtain ⟨p, hp, rfl⟩ := List.mem_map.mp hx
    rw [get p hp]
    exact h p hp
  · intro h p hp
    rw [← get p hp]
    exact h p.1 (List.mem_map_of_mem hp)
theorem getB_beh {bs : Bal} {e : En} {x : Str} : getB (behB bs e) x = if x = e.b then getB (outB bs e) e.b + e.n else getB (outB bs e) x := by
  unfold behB
  exact getB_put
theorem getB_out {bs : Bal} {e : En} {x : Str} : getB (outB bs e) x = if e.mv = true ∧ x = e.a then getB bs e.a - e.n else getB bs x := by
  unfold outB
  cases e.mv
  · simp
  · rw [if_pos rfl, getB_put]
    simp
theorem zero_get {ps : List Str} {x : Str} : getB (zeroB ps) x = 0 := by
  unfold getB zeroB
  rw [List.find?_map]
  cases ps.find? ((fun p : Str × Int => decide (p.1 = x)) ∘ fun p => (p, 0)) <;> rfl
theorem zero_nodup {es : List En} : ((zeroB (plS es)).map (·.1)).Nodup := by
  unfold zeroB
  rw [List.map_map]
  show ((plS es).map fun x => x).Nodup
  rw [List.map_id']
  exact nodup_setS _
/-- the walk tells the least balances -/
theorem walk_go : ∀ {es : List En} {bs : Bal}, (bs.map (·.1)).Nodup → bs ≠ [] → (∀ p ∈ bs, 0 ≤ p.2) → (∀ e ∈ es, e.b ∈ bs.map (·.1) ∧ (e.mv = true → e.a ∈ bs.map (·.1))) → (∀ e ∈ es, okEn e = true) →
    (walkB bs es).all (fun bs => decide (0 ≤ minI (bs.map (·.2)))) = goOwn bs es
  | [], bs, nd, h0, hp, _, _ => by
    show (decide _ && true) = true
    rw [decide_eq_true ((min_ge h0).mpr hp)]
    rfl
  | e :: es, bs, nd, h0, hp, hk, ho => by
    have hoe := ho e List.mem_cons_self
    unfold okEn at hoe
    simp only [Bool.and_eq_true, Bool.not_eq_true', decide_eq_false_iff_not, decide_eq_true_eq] at hoe
    obtain ⟨⟨⟨_, _⟩, hab⟩, hn1, hn2⟩ := hoe
    obtain ⟨kb, ka⟩ := hk e List.mem_cons_self
    have hpg := (all_get nd).mp hp
    show (decide _ && (walkB (behB bs e) es).all _) = goOwn bs (e :: es)
    rw [decide_eq_true ((min_ge h0).mpr hp), Bool.true_and]
    unfold goOwn
    rw [decide_eq_false hab, decide_eq_true hn1, decide_eq_true hn2]
    have hnd := beh_nodup (e := e) nd
    have hne : behB bs e ≠ [] := putB_ne
    have hk2 : ∀ f ∈ es, f.b ∈ (behB bs e).map (·.1) ∧ (f.mv = true → f.a ∈ (behB bs e).map (·.1)) := fun f hf => ⟨beh_keys (hk f (List.mem_cons_of_mem _ hf)).1, fun h => beh_keys ((hk f (List.mem_cons_of_mem _ hf)).2 h)⟩
    by_cases hbad : e.mv = true ∧ getB bs e.a - e.n < 0
    · have e1 : (e.mv && decide (getB bs e.a - e.n < 0)) = true := by rw [hbad.1, decide_eq_true hbad.2]; rfl
      rw [e1]
      have hx : getB (behB bs e) e.a < 0 := by
        rw [getB_beh, if_neg hab, getB_out, if_pos ⟨hbad.1, rfl⟩]
        exact hbad.2
      have hf : decide (0 ≤ minI ((behB bs e).map (·.2))) = false := decide_eq_false fun z => by
        have := (all_get hnd).mp ((min_ge hne).mp z) e.a (beh_keys (ka hbad.1))
        omega
      have hh : (walkB (behB bs e) es).all (fun bs => decide (0 ≤ minI (bs.map (·.2)))) = false := by
        cases es with
        | nil => show (decide _ && true) = false; rw [hf]; rfl
        | cons f es => show (decide _ && _) = false; rw [hf]; rfl
      rw [hh]
      rfl
    · have e1 : (e.mv && decide (getB bs e.a - e.n < 0)) = false := by
        cases hm : e.mv
        · rfl
        · rw [decide_eq_false fun z => hbad ⟨hm, z⟩]; rfl
      rw [e1]
      have hp2 : ∀ p ∈ behB bs e, 0 ≤ p.2 := (all_get hnd).mpr fun x hx => by
        rw [getB_beh, getB_out, getB_out]
        have h1 : ∀ y, 0 ≤ getB bs y := fun y => by
          by_cases hy : y ∈ bs.map (·.1)
          · exact hpg y hy
          · have : bs.find? (fun p => decide (p.1 = y)) = none := List.find?_eq_none.mpr fun q hq hd => hy ((of_decide_eq_true hd) ▸ List.mem_map_of_mem hq)
            unfold getB
            rw [this]
            exact Int.le_refl 0
        have h2 := h1 e.b
        have h3 := h1 x
        by_cases hmv : e.mv = true
        · have h4 : ¬ getB bs e.a - e.n < 0 := fun z => hbad ⟨hmv, z⟩
          split <;> split <;> omega
        · simp only [hmv, false_and, if_false]
          simp only [Bool.false_eq_true, false_and, if_false]
          split <;> omega
      rw [walk_go hnd hne hp2 hk2 fun f hf => ho f (List.mem_cons_of_mem _ hf)]
      rfl
/-- names are names: is_ledger is the law's own walk -/
theorem go_bad : ∀ {es : List En} {bs : Bal}, (∃ e ∈ es, decide (e.a = e.b) || !(decide (1 ≤ e.n) && decide (e.n ≤ 1000000000))) → goOwn bs es = false
  | e :: es, bs, ⟨f, hf, h⟩ => by
    unfold goOwn
    rcases List.mem_cons.mp hf with rfl | hf
    · rw [h]
      rfl
    · rw [go_bad ⟨f, hf, h⟩, Bool.and_false]
theorem isL_ownL {es : List En} (hn : ∀ e ∈ es, isNm e.a = true ∧ isNm e.b = true) : isL es = ownL es := by
  have e5 : (!((ownS es).any fun x => (plS es).contains x)) = (((ownS es).filter fun x => (plS es).contains x) == []) := by
    rw [Bool.eq_iff_iff]
    simp [List.filter_eq_nil_iff]
  by_cases hall : es.all okEn = true
  · unfold isL ownL
    rw [hall, Bool.and_true, e5]
    congr 1
    have ho : ∀ e ∈ es, okEn e = true := fun e he => List.all_eq_true.mp hall e he
    by_cases hp : plS es = []
    · have he : es = [] := by
        cases es with
        | nil => rfl
        | cons e es =>
          have := (pl_mem (es := e :: es) (e := e) List.mem_cons_self).1
          rw [hp] at this
          cases this
      subst he
      have : (plS [] == []) = true := by rw [hp]; rfl
      rw [this]
      rfl
    · have : (plS es == []) = false := by simpa using hp
      rw [this, Bool.false_or]
      exact walk_go zero_nodup (fun z => hp (List.map_eq_nil_iff.mp z)) (fun p hp => by
        obtain ⟨x, _, rfl⟩ := List.mem_map.mp hp
        exact Int.le_refl 0) (fun e he => ⟨zero_keys.mpr (pl_mem he).1, fun h => zero_keys.mpr ((pl_mem he).2 h)⟩) ho
  · have hf : es.all okEn = false := by simpa using hall
    obtain ⟨e, he, hbad⟩ : ∃ e ∈ es, okEn e = false := by
      obtain ⟨e, he, h⟩ := List.all_eq_false.mp hf
      exact ⟨e, he, by simpa using h⟩
    have hgo : goOwn (zeroB (plS es)) es = false := go_bad ⟨e, he, by
      unfold okEn at hbad
      obtain ⟨n1, n2⟩ := hn e he
      rw [n1, n2] at hbad
      cases h1 : decide (e.a = e.b)
      · rw [h1] at hbad
        have : (decide (1 ≤ e.n) && decide (e.n ≤ 1000000000)) = false := by simpa using hbad
        rw [this]
        rfl
      · rfl⟩
    unfold isL ownL
    rw [hf, hgo, Bool.and_false, Bool.and_false]
    rfl

/-- what is drawn is a ledger -/
theorem drawn_go {few sites : List Str} : ∀ {es : List En} {bs zs : Bal}, drawnAll few sites bs es → (∀ x, getB zs x = getB bs x) → (∀ x ∈ few, x ∉ sites) → (∀ x ∈ bs.map (·.1), x ∈ sites) → goOwn zs es = true
  | [], _, _, _, _, _, _ => rfl
  | e :: es, bs, zs, ⟨⟨h1, h2, h3, h4⟩, ht⟩, hz, hf, hs => by
    have hab : e.a ≠ e.b := by
      intro h
      split at h4
      · exact h4.2.2 h
      · exact hf _ h4 (h ▸ h1)
    have hout : ∀ x, getB (outB zs e) x = getB (outB bs e) x := fun x => by rw [getB_out, getB_out, hz, hz]
    have hz2 : ∀ x, getB (behB zs e) x = getB (behB bs e) x := fun x => by rw [getB_beh, getB_beh, hout, hout]
    unfold goOwn
    rw [decide_eq_false hab, decide_eq_true h2, decide_eq_true h3, hz]
    have h5 : (e.mv && decide (getB bs e.a - e.n < 0)) = false := by
      cases hm : e.mv
      · rfl
      · rw [if_pos hm] at h4
        rw [decide_eq_false (by omega)]
        rfl
    rw [h5, drawn_go ht hz2 hf fun x hx => ?_]
    · rfl
    · rcases beh_key hx with z | z | ⟨z1, z⟩
      · exact hs x z
      · rw [z]; exact h1
      · rw [if_pos z1] at h4
        rw [z]; exact hs _ h4.1
theorem drawn_names {few sites : List Str} : ∀ {es : List En} {bs : Bal}, drawnAll few sites bs es → (∀ x ∈ bs.map (·.1), x ∈ sites) → ∀ e ∈ es, e.b ∈ sites ∧ (e.mv = true → e.a ∈ sites) ∧ (e.mv = false → e.a ∈ few)
  | e :: es, bs, ⟨⟨h1, h2, h3, h4⟩, ht⟩, hs, f, hf => by
    have ha : e.mv = true → e.a ∈ sites := fun z1 => by
      rw [if_pos z1] at h4
      exact hs _ h4.1
    rcases List.mem_cons.mp hf with rfl | hf
    · refine ⟨h1, ha, fun z => ?_⟩
      rw [if_neg (by rw [z]; exact Bool.false_ne_true)] at h4
      exact h4
    · refine drawn_names ht (fun x hx => ?_) f hf
      rcases beh_key hx with z | z | ⟨z1, z⟩
      · exact hs x z
      · rw [z]; exact h1
      · rw [z]; exact ha z1
theorem drawn_isL {few sites : List Str} {es : List En} (h : drawnAll few sites [] es) (hl : es.length ≤ 40) (h1 : few.length ≤ 6) (h2 : sites.length ≤ 6) (hf : ∀ x ∈ few, x ∉ sites) (hn : ∀ x ∈ few ++ sites, isNm x = true) : isL es = true := by
  have hnm := drawn_names h (by simp)
  rw [isL_ownL fun e he => by
    obtain ⟨a, b, d⟩ := hnm e he
    refine ⟨?_, hn _ (List.mem_append_right _ a)⟩
    cases hm : e.mv
    · exact hn _ (List.mem_append_left _ (d hm))
    · exact hn _ (List.mem_append_right _ (b hm))]
  have ho : ∀ x ∈ ownS es, x ∈ few := fun x hx => by
    obtain ⟨e, he, rfl⟩ := List.mem_map.mp (mem_setS.mp hx)
    obtain ⟨h1, h2⟩ := List.mem_filter.mp he
    exact (hnm e h1).2.2 (by simpa using h2)
  have hp : ∀ x ∈ plS es, x ∈ sites := fun x hx => by
    rcases List.mem_append.mp (mem_setS.mp hx) with z | z
    · obtain ⟨e, he, rfl⟩ := List.mem_map.mp z
      exact (hnm e he).1
    · obtain ⟨e, he, rfl⟩ := List.mem_map.mp z
      obtain ⟨h1, h2⟩ := List.mem_filter.mp he
      exact (hnm e h1).2.1 h2
  have l1 : (ownS es).length ≤ few.length := nodup_le (nodup_setS _) ho
  have l2 : (plS es).length ≤ sites.length := nodup_le (nodup_setS _) hp
  unfold ownL
  have e1 : ((ownS es).filter fun x => (plS es).contains x) = [] := List.filter_eq_nil_iff.mpr fun x hx z => hf x (ho x hx) (hp x (by simpa using z))
  rw [decide_eq_true hl, decide_eq_true (Nat.le_trans l1 h1), decide_eq_true (Nat.le_trans l2 h2), e1, drawn_go h (fun x => zero_get) hf (by simp)]
  rfl
/-- beginnings -/
theorem setS_sub {xs ys : List Str} (h : ∀ x ∈ xs, x ∈ ys) : ∀ x ∈ setS xs, x ∈ setS ys := fun x hx => mem_setS.mpr (h x (mem_setS.mp hx))
theorem go_take : ∀ {es : List En} {bs : Bal} {k : Nat}, goOwn bs es = true → goOwn bs (es.take k) = true
  | [], bs, k, _ => by rw [List.take_nil]; rfl
  | e :: es, bs, 0, _ => rfl
  | e :: es, bs, k + 1, h => by
    rw [List.take_succ_cons]
    unfold goOwn at h ⊢
    rw [Bool.and_eq_true] at h ⊢
    exact ⟨h.1, go_take h.2⟩
theorem go_get : ∀ {es : List En} {bs zs : Bal}, (∀ x, getB zs x = getB bs x) → goOwn zs es = goOwn bs es
  | [], _, _, _ => rfl
  | e :: es, bs, zs, h => by
    have hout : ∀ x, getB (outB zs e) x = getB (outB bs e) x := fun x => by rw [getB_out, getB_out, h, h]
    unfold goOwn
    have hb : ∀ x, getB (behB zs e) x = getB (behB bs e) x := fun x => by rw [getB_beh, getB_beh, hout, hout]
    rw [h, go_get (es := es) hb]
theorem isL_take {es : List En} (hn : ∀ e ∈ es, isNm e.a = true ∧ isNm e.b = true) (h : isL es = true) (k : Nat) : isL (es.take k) = true := by
  rw [isL_ownL hn] at h
  rw [isL_ownL fun e he => hn e (List.mem_of_mem_take he)]
  unfold ownL at h ⊢
  simp only [Bool.and_eq_true, decide_eq_true_eq, beq_iff_eq] at h ⊢
  obtain ⟨⟨⟨⟨h1, h2⟩, h3⟩, h4⟩, h5⟩ := h
  have so : ∀ x ∈ ownS (es.take k), x ∈ ownS es := setS_sub fun x hx => by
    obtain ⟨e, he, rfl⟩ := List.mem_map.mp hx
    obtain ⟨a, b⟩ := List.mem_filter.mp he
    exact List.mem_map_of_mem (List.mem_filter.mpr ⟨List.mem_of_mem_take a, b⟩)
  have sp : ∀ x ∈ plS (es.take k), x ∈ plS es := setS_sub fun x hx => by
    rcases List.mem_append.mp hx with z | z
    · obtain ⟨e, he, rfl⟩ := List.mem_map.mp z
      exact List.mem_append_left _ (List.mem_map_of_mem (List.mem_of_mem_take he))
    · obtain ⟨e, he, rfl⟩ := List.mem_map.mp z
      obtain ⟨a, b⟩ := List.mem_filter.mp he
      exact List.mem_append_right _ (List.mem_map_of_mem (List.mem_filter.mpr ⟨List.mem_of_mem_take a, b⟩))
  refine ⟨⟨⟨⟨?_, ?_⟩, ?_⟩, ?_⟩, ?_⟩
  · rw [List.length_take]; omega
  · exact Nat.le_trans (nodup_le (nodup_setS _) so) h2
  · exact Nat.le_trans (nodup_le (nodup_setS _) sp) h3
  · refine List.filter_eq_nil_iff.mpr fun x hx z => ?_
    have := List.filter_eq_nil_iff.mp h4 x (so x hx)
    exact this (by
      have := sp x (by simpa using z)
      simpa using this)
  · rw [go_get (bs := zeroB (plS es)) fun x => by rw [zero_get, zero_get]]
    exact go_take h5
/-- what came in lies somewhere -/
def sumOver (ps : List Str) (f : Str → Int) : Int := (ps.map f).sum
theorem sumOver_put {ps : List Str} {f : Str → Int} {x : Str} {v : Int} (nd : ps.Nodup) (hx : x ∈ ps) : sumOver ps (fun y => if y = x then v else f y) = sumOver ps f - f x + v := by
  unfold sumOver
  induction ps with
  | nil => cases hx
  | cons p ps ih =>
    rw [List.nodup_cons] at nd
    rw [List.map_cons, List.map_cons, List.sum_cons, List.sum_cons]
    by_cases h : p = x
    · subst h
      rw [if_pos rfl]
      have : ps.map (fun y => if y = p then v else f y) = ps.map f := List.map_congr_left fun y hy => if_neg fun (e : y = p) => nd.1 (e ▸ hy)
      rw [this]
      omega
    · rw [if_neg h, ih nd.2 ((List.mem_cons.mp hx).resolve_left fun e => h e.symm)]
      omega
theorem sum_beh {ps : List Str} {bs : Bal} {e : En} (nd : ps.Nodup) (hb : e.b ∈ ps) (ha : e.mv = true → e.a ∈ ps) : sumOver ps (getB (behB bs e)) = sumOver ps (getB bs) + if e.mv = true then 0 else e.n := by
  have e1 : sumOver ps (getB (behB bs e)) = sumOver ps (getB (outB bs e)) + e.n := by
    rw [show getB (behB bs e) = fun y => if y = e.b then getB (outB bs e) e.b + e.n else getB (outB bs e) y from funext fun y => getB_beh, sumOver_put nd hb]
    omega
  rw [e1]
  cases hm : e.mv
  · have : outB bs e = bs := by unfold outB; rw [hm]; rfl
    rw [this]
    simp
  · rw [show getB (outB bs e) = fun y => if y = e.a then getB bs e.a - e.n else getB bs y from funext fun y => by
      rw [getB_out, hm]
      simp, sumOver_put nd (ha hm)]
    simp
    omega
theorem sum_fold {ps : List Str} : ∀ {es : List En} {bs : Bal}, ps.Nodup → (∀ e ∈ es, e.b ∈ ps ∧ (e.mv = true → e.a ∈ ps)) → sumOver ps (getB (es.foldl behB bs)) = sumOver ps (getB bs) + ((es.filter fun e => !e.mv).map (·.n)).sum
  | [], bs, _, _ => by simp
  | e :: es, bs, nd, h => by
    rw [List.foldl_cons, sum_fold nd fun f hf => h f (List.mem_cons_of_mem _ hf), sum_beh nd (h e List.mem_cons_self).1 (h e List.mem_cons_self).2]
    cases hm : e.mv
    · rw [List.filter_cons_of_pos (by rw [hm]; rfl), List.map_cons, List.sum_cons]
      simp
      omega
    · rw [List.filter_cons_of_neg (by rw [hm]; simp)]
      simp
theorem came_lie {es : List En} : cameS es (ownS es) = lieS es (plS es) := by
  have h := sum_fold (ps := plS es) (es := es) (bs := zeroB (plS es)) (nodup_setS _) fun e he => pl_mem he
  have hz : sumOver (plS es) (getB (zeroB (plS es))) = 0 := by
    unfold sumOver
    rw [show getB (zeroB (plS es)) = fun _ => 0 from funext fun x => zero_get]
    induction plS es with
    | nil => rfl
    | cons p ps ih => rw [List.map_cons, List.sum_cons, ih]; rfl
  unfold lieS cameS
  show _ = sumOver (plS es) (getB (lastB es))
  unfold lastB
  rw [h, hz, Int.zero_add]
  congr 2
  refine List.filter_congr fun e he => ?_
  cases hm : e.mv
  · have : e.a ∈ ownS es := mem_setS.mpr (List.mem_map_of_mem (List.mem_filter.mpr ⟨he, by rw [hm]; rfl⟩))
    simpa using this
  · rfl

end DL

set_option Elab.async false
set_option linter.all false
set_option maxRecDepth 100000
set_option maxHeartbeats 4000000
namespace DL
open PySem PySem.Spec PyProof.Rows L2 RZ
variable {S : Sto} {Q : D → Sto → Prop} {Ex : Xn → Sto → Prop} {c : Str → Addr}
local macro_rules | `(tactic| walk_at "ev") => `(tactic| try simp (maxSteps := 4000000) (dsimp := false) (implicitDefEqProofs := false) (disch := first | assumption | (show (_ : Nat) ≤ _; omega) | (show (_ : Int) ≤ _ ∧ _; omega)) only [↓u_neg, ↓e_lc, ↓e_lcB_if, ↓e_lcB_ifn, ↓e_lcB_t, ↓e_lcB_if2, ↓e_noG, ↓e_lc_nil, ↓e_lc_cons, ↓e_for_nil, ↓e_nx, ↓e_dc, ↓e_dcB_s, ↓e_rt, ↓e_rtF, ↓e_frzR, ↓e_frzR0, ↓e_xq, ↓e_sb_int, ↓e_sb_bl, ↓e_sb_str, ↓e_sb_non, ↓e_sb_scr, ↓e_sb_loc, ↓e_sb_tup, ↓e_sb_ktp, ↓e_sb_lst, ↓e_sb_dct, ↓e_sb_dcT, ↓e_sbL_nil, ↓e_sbK_nil, ↓e_sbL_cons, ↓e_sbL_ints, ↓e_sbL_strs, ↓e_sbL_bls, ↓e_frz_l0, ↓e_frz_d0, ↓e_frz_l1, ↓e_frz_d1, ↓e_frz_l2, ↓e_asS_tup, ↓e_asS_ktp, ↓e_asS_lst, ↓e_asS_scr, ↓e_asS_int, ↓e_asS_non, ↓e_asS_bl, ↓e_asS_str, ↓e_asS_dct, ↓e_asD_dct, ↓e_asD_int, ↓e_asD_str, ↓e_asD_lst, ↓e_asD_tup, ↓e_asDT_str, ↓e_asL_lst, ↓e_asL_tup, ↓e_asL_ktp, ↓e_asL_dct, ↓e_asL_int, ↓e_asL_bl, ↓e_asL_str, ↓e_asL_non, ↓e_asL_loc, ↓e_asS_loc, ↓e_asD_loc, ↓e_obL_s, ↓e_obL_d, ↓e_obD_s, ↓e_obD_l, ↓e_asK_str, ↓e_asK_int, ↓e_asI_int, ↓e_asTK_tup, ↓e_asTK_ktp, ↓e_asLoc_loc, ↓e_lstOf_lst, ↓e_lstOf_tup, ↓e_itOf_tup, ↓e_itOf_ktp, ↓e_itOf_lst, ↓e_itOf_scr, ↓e_itOf_str, ↓e_alL_f, ↓e_alL_t, ↓e_alD_f, ↓e_alD_t, ↓e_kn_bool, ↓e_kn_int, ↓e_kn_str, ↓e_kn_tuple, ↓e_kn_list, ↓e_kn_dict, ↓e_su_ib, ↓e_su_ii, ↓e_su_ss, ↓e_su_tt, ↓e_sz0, ↓e_sz1, ↓e_sz2, ↓e_sz3, ↓e_sz4, ↓e_sz5, ↓e_sz6, ↓e_sz7, ↓e_sz8, ↓e_sz9, ↓e_sz10, ↓e_sz11, ↓e_sz12, ↓e_app, ↓e_iteT, ↓e_iteF, ↓e_new_len, ↓e_new_len2, ↓e_new_two, ↓e_new_three, ↓e_len_map, ↓e_asBls, ↓e_asStrs, ↓e_asInts, ↓e_asStrs0, ↓e_asInts0, ↓e_asBls0, ↓e_all_id, ↓e_any_id, ↓e_sum, ↓e_all, ↓e_any, ↓e_max1l, ↓e_min1l, ↓e_max2, ↓e_min2, ↓e_ixN0, ↓e_bv_loc, ↓e_bvO_l, ↓e_bvO_d, ↓e_eq_nn, ↓e_eq_cn, ↓e_ok_intsL, ↓e_onB, ↓e_oQ_map, ↓e_inT, ↓e_inK, ↓e_inL, ↓e_ninT, ↓e_ninL, ↓e_setS, ↓e_in1, ↓e_chr_len, ↓e_take_map, ↓e_drop_map, ↓e_rev_map, ↓e_app_map, ↓e_eqTT, ↓e_eqLL, ↓e_eqL_nil, ↓e_eqL_cons, ↓e_eqL_nc, ↓e_eqL_cn, ↓e_eqL_strs, ↓e_eqL_ints, ↓e_eqL_m0, ↓e_eqL0, ↓e_eqT0, ↓e_wSkip, ↓e_wSeq, ↓e_wDrop, ↓e_wRet, ↓e_wRetN, ↓e_wBrk, ↓e_wCnt, ↓e_wIfS, ↓e_wSet, ↓e_wTup, ↓e_tg_nm, ↓e_tg_tp, ↓e_setAll_n, ↓e_setAll_c, ↓e_vQ, ↓e_wVar, ↓e_wC, ↓e_wNil, ↓e_wCons, ↓e_wB1, ↓e_wB2, ↓e_wAnd, ↓e_wOr, ↓e_wNot, ↓e_wIf, ↓e_wB, ↓e_wChain, ↓e_wAndV, ↓e_wOrV, ↓e_wNotV, ↓e_wP, ↓e_wGet2, ↓e_getQ_d, ↓e_getQ_l, ↓e_getO_d, ↓e_getO_t, ↓e_wSl, ↓e_wM, ↓e_pop, ↓e_popi, ↓e_wCall, ↓e_wCallK, ↓e_wLc, ↓e_wDc, ↓e_wSeqI, ↓e_wRng1, ↓e_wRng2, ↓e_wEnum, ↓e_enumI, ↓e_wZip, ↓e_wFor, ↓e_wYes, ↓e_wPut, ↓e_wDisp, ↓e_disp_n, ↓e_disp_c, ↓e_wRaise, ↓e_wDict0, ↓e_spb, ↓e_c0, ↓e_c1, ↓e_c2, ↓e_c3, ↓e_c4, ↓e_c5, ↓e_c6, ↓e_c7, ↓e_c8, ↓e_add_i, ↓e_add_s, ↓e_add_t, ↓e_add_l, ↓e_sub_i, ↓e_mul_i, ↓e_mul_l, ↓e_fdiv_i, ↓e_mod_i, ↓e_pow_i, ↓e_neg_i, ↓e_lt_i, ↓e_lt_s, ↓e_le_i, ↓e_gt_i, ↓e_ge_i, ↓e_is_n, ↓e_is_b, ↓e_isN_n, ↓e_isN_b, ↓e_isNon_n, ↓e_isNon_i, ↓e_isNon_s, ↓e_isNon_t, ↓e_isNon_l, ↓e_isNon_b, ↓e_ix_t, ↓e_ix_k, ↓e_ix_l, ↓e_ix_ds, ↓e_ix_di, ↓e_ix_s, ↓e_obDT_l, ↓e_obDT_d, ↓e_obDT_t, ↓e_obD_t, ↓e_obL_t, ↓e_ix_loc, ↓e_ixO_l, ↓e_ixO_d, ↓e_ixO_t, ↓e_len_loc, ↓e_lenO_l, ↓e_lenO_d, ↓e_lenO_t, ↓e_tuple_loc, ↓e_list_loc, ↓e_listO_l, ↓e_listO_d, ↓e_list_d, ↓e_add_ll, ↓e_sl_loc, ↓e_tup, ↓e_lst, ↓e_len_t, ↓e_len_k, ↓e_len_l, ↓e_len_d, ↓e_len_r, ↓e_len_s, ↓e_abs, ↓e_int_i, ↓e_int_b, ↓e_tuple_t, ↓e_tuple_l, ↓e_list_t, ↓e_list_l, ↓e_dict_d, ↓e_dict_l, ↓e_sorted_l, ↓e_isi, ↓e_ty_n, ↓e_ty_b, ↓e_ty_i, ↓e_ty_s, ↓e_ty_t, ↓e_ty_l, ↓e_ty_d, ↓e_sl_t, ↓e_sl_l, ↓e_rev_t, ↓e_rev_l, ↓e_cut_to1, ↓e_cut_from1, ↓e_cut_to, ↓e_cut_from, ↓e_wopt_n, ↓e_intQ, ↓e_wopt_s, ↓e_blQ, ↓e_wT, ↓e_putD0, ↓e_putD1, ↓e_putL0, ↓e_putL1, ↓e_setS_f, ↓e_setS_a, ↓e_wd_in, ↓e_wd_mv, ↓e_ok_wd, ↓e_ok_in, ↓e_ok_move, ↓e_en_S, ↓e_en_TK, ↓e_en_L, ↓e_en_ty, ↓e_en_bv, ↓e_en_sb, ↓e_ens_sb, ↓e_bal_sb, ↓e_bals_sb, ↓e_en_isNon, ↓e_en_ix0, ↓e_en_ix1, ↓e_en_ix2, ↓e_en_ix3, ↓e_own, ↓e_pl, ↓e_eqL_ens, ↓e_getD_bal, ↓e_put_bal, ↓e_balK_len, ↓e_getput, ↓e_sorted_bal, ↓e_asS_dw, ↓e_asD_dw, ↓e_v_large, ↓e_v_cells, ↓e_v_rest, ↓e_v_turn, ↓e_dw_0, ↓e_dw_1, ↓e_dw_set0, ↓e_put_rest, ↓e_put_turn, ↓u_is_number, ↓u_is_wordT, ↓u_is_word1, ↓u_is_word2, ↓u_is_row, ↓u_is_row_en, ↓u_is_name, ↓u_are_ascending, ↓u_is_lot_of, ↓u_owners_in, ↓u_places_in, ↓u_came_of, ↓u_behind, ↓u_is_entry, ↓e_zero_pl, ↓e_walk_last, ↓e_walk_len, ↓u_balances_of, ↓u_is_ledger, ↓u_check_ledger, ↓u_owners_of, ↓u_places_of, ↓u_check_some, ↓u_check_where, ↓u_check_place, ↓u_check_moment, ↓u_others_of, ↓e_bals_last, ↓u_lying_at_end, ↓e_led_sb, ↓u_owners, ↓u_places, ↓u_others, ↓u_balance, ↓u_lying, ↓u_came, ↓u_begun, ↓e_c18, ↓u__law_behind, ↓u__law_owners_of, ↓u__law_places_of, ↓e_asPs_zero, ↓e_merge_zero, ↓u__law_balances, ↓u__law_others, ↓u__law_lying, ↓u__law_came, ↓e_c9, ↓e_p9, ↓u__law_is_ledger, ↓reduceIte, ↓oQ_s, startD, permL, List.map_cons, List.map_nil, List.length_cons, List.length_nil, List.replicate, List.getElem?_cons_succ, List.getElem?_cons_zero, List.cons_append, List.nil_append, List.set_cons_succ, List.set_cons_zero, Nat.reduceAdd, Nat.reduceSub, Nat.reduceEqDiff, wipeD, List.filterMap_cons, List.filterMap_nil, List.length_range, List.getElem?_map, Int.zero_add, List.length_map, List.eraseIdx_cons_zero, Bool.and_true, Bool.true_and, Bool.and_false, Bool.false_and, oQ_s, oQ_n, if_t, if_f, dEq, dNe, bv_int, bv_bl, bv_str, bv_tup, bv_lst, bv_non, eqD_int, eqD_str, eqD_bl, atI0, atI1, atI2, atI3, atI4, atI_nat, atI_nat', atI_succ, ok_int, ok_bl, ok_nil, sto_at, sto_at0, sto_set, sto_set0, Option.isSome_some, Option.isSome_none, Bool.false_eq_true, or_false, false_or, true_or, or_true, Option.map_some, Option.map_none, true_and, and_true, false_and, and_false, Bool.not_true, Bool.not_false, reduceIte, decide_true, decide_false, Bool.decide_eq_true, Bool.decide_eq_false, Bool.not_not, eq_self, reduceCtorEq, Int.reduceEq, Int.reduceLT, Int.reduceLE, u_neg, e_lc, e_lcB_if, e_lcB_ifn, e_lcB_t, e_lcB_if2, e_noG, e_lc_nil, e_lc_cons, e_for_nil, e_nx, e_dc, e_dcB_s, e_rt, e_rtF, e_frzR, e_frzR0, e_xq, e_sb_int, e_sb_bl, e_sb_str, e_sb_non, e_sb_scr, e_sb_loc, e_sb_tup, e_sb_ktp, e_sb_lst, e_sb_dct, e_sb_dcT, e_sbL_nil, e_sbK_nil, e_sbL_cons, e_sbL_ints, e_sbL_strs, e_sbL_bls, e_frz_l0, e_frz_d0, e_frz_l1, e_frz_d1, e_frz_l2, e_asS_tup, e_asS_ktp, e_asS_lst, e_asS_scr, e_asS_int, e_asS_non, e_asS_bl, e_asS_str, e_asS_dct, e_asD_dct, e_asD_int, e_asD_str, e_asD_lst, e_asD_tup, e_asDT_str, e_asL_lst, e_asL_tup, e_asL_ktp, e_asL_dct, e_asL_int, e_asL_bl, e_asL_str, e_asL_non, e_asL_loc, e_asS_loc, e_asD_loc, e_obL_s, e_obL_d, e_obD_s, e_obD_l, e_asK_str, e_asK_int, e_asI_int, e_asTK_tup, e_asTK_ktp, e_asLoc_loc, e_lstOf_lst, e_lstOf_tup, e_itOf_tup, e_itOf_ktp, e_itOf_lst, e_itOf_scr, e_itOf_str, e_alL_f, e_alL_t, e_alD_f, e_alD_t, e_kn_bool, e_kn_int, e_kn_str, e_kn_tuple, e_kn_list, e_kn_dict, e_su_ib, e_su_ii, e_su_ss, e_su_tt, e_sz0, e_sz1, e_sz2, e_sz3, e_sz4, e_sz5, e_sz6, e_sz7, e_sz8, e_sz9, e_sz10, e_sz11, e_sz12, e_app, e_iteT, e_iteF, e_new_len, e_new_len2, e_new_two, e_new_three, e_len_map, e_asBls, e_asStrs, e_asInts, e_asStrs0, e_asInts0, e_asBls0, e_all_id, e_any_id, e_sum, e_all, e_any, e_max1l, e_min1l, e_max2, e_min2, e_ixN0, e_bv_loc, e_bvO_l, e_bvO_d, e_eq_nn, e_eq_cn, e_ok_intsL, e_onB, e_oQ_map, e_inT, e_inK, e_inL, e_ninT, e_ninL, e_setS, e_in1, e_chr_len, ec_oQh, e_take_map, e_drop_map, e_rev_map, e_app_map, e_eqTT, e_eqLL, e_eqL_nil, e_eqL_cons, e_eqL_nc, e_eqL_cn, e_eqL_strs, e_eqL_ints, e_eqL_m0, e_eqL0, e_eqT0, e_wSkip, e_wSeq, e_wDrop, e_wRet, e_wRetN, e_wBrk, e_wCnt, e_wIfS, e_wSet, e_wTup, e_tg_nm, e_tg_tp, e_setAll_n, e_setAll_c, e_vQ, e_wVar, e_wC, e_wNil, e_wCons, e_wB1, e_wB2, e_wAnd, e_wOr, e_wNot, e_wIf, e_wB, e_wChain, e_wAndV, e_wOrV, e_wNotV, e_wP, e_wGet2, e_getQ_d, e_getQ_l, e_getO_d, e_getO_t, e_wSl, e_wM, e_pop, e_popi, e_wCall, e_wCallK, e_wLc, e_wDc, e_wSeqI, e_wRng1, e_wRng2, e_wEnum, e_enumI, e_wZip, e_wFor, e_wYes, e_wPut, e_wDisp, e_disp_n, e_disp_c, e_wRaise, e_wDict0, e_spb, e_c0, e_c1, e_c2, e_c3, e_c4, e_c5, e_c6, e_c7, e_c8, e_add_i, e_add_s, e_add_t, e_add_l, e_sub_i, e_mul_i, e_mul_l, e_fdiv_i, e_mod_i, e_pow_i, e_neg_i, e_lt_i, e_lt_s, e_le_i, e_gt_i, e_ge_i, e_is_n, e_is_b, e_isN_n, e_isN_b, e_isNon_n, e_isNon_i, e_isNon_s, e_isNon_t, e_isNon_l, e_isNon_b, e_ix_t, e_ix_k, e_ix_l, e_ix_ds, e_ix_di, e_ix_s, e_obDT_l, e_obDT_d, e_obDT_t, e_obD_t, e_obL_t, e_ix_loc, e_ixO_l, e_ixO_d, e_ixO_t, e_len_loc, e_lenO_l, e_lenO_d, e_lenO_t, e_tuple_loc, e_list_loc, e_listO_l, e_listO_d, e_list_d, e_add_ll, e_sl_loc, e_tup, e_lst, e_len_t, e_len_k, e_len_l, e_len_d, e_len_r, e_len_s, e_abs, e_int_i, e_int_b, e_tuple_t, e_tuple_l, e_list_t, e_list_l, e_dict_d, e_dict_l, e_sorted_l, e_isi, e_ty_n, e_ty_b, e_ty_i, e_ty_s, e_ty_t, e_ty_l, e_ty_d, e_sl_t, e_sl_l, e_rev_t, e_rev_l, e_cut_to1, e_cut_from1, e_cut_to, e_cut_from, ec_ok_str, ec_szle, ec_szlt, ec_rng1, ec_rng2, e_wopt_n, e_intQ, e_wopt_s, e_blQ, e_wT, e_putD0, e_putD1, e_putL0, e_putL1, e_setS_f, e_setS_a, e_wd_in, e_wd_mv, e_ok_wd, e_ok_in, e_ok_move, e_en_S, e_en_TK, e_en_L, e_en_ty, e_en_bv, e_en_sb, e_ens_sb, e_bal_sb, e_bals_sb, e_en_isNon, e_en_ix0, e_en_ix1, e_en_ix2, e_en_ix3, e_own, e_pl, ec_own64, ec_pl64, ec_es_sz, e_eqL_ens, e_getD_bal, e_put_bal, e_balK_len, ec_val_mem, e_getput, e_sorted_bal, e_asS_dw, e_asD_dw, e_v_large, e_v_cells, e_v_rest, e_v_turn, e_dw_0, e_dw_1, e_dw_set0, e_put_rest, e_put_turn, u_is_number, u_is_wordT, u_is_word1, u_is_word2, u_is_row, u_is_row_en, u_is_name, u_are_ascending, u_is_lot_of, u_owners_in, u_places_in, u_came_of, u_behind, u_is_entry, e_zero_pl, e_walk_last, e_walk_len, ec_ok_ens, ec_ok_led, ec_ok_pl, ec_ok_own, ec_ok_plT, ec_ok_ownT, ec_minV_bal, u_balances_of, u_is_ledger, u_check_ledger, u_owners_of, u_places_of, u_check_some, u_check_where, u_check_place, u_check_moment, u_others_of, e_bals_last, u_lying_at_end, e_led_sb, u_owners, u_places, u_others, u_balance, u_lying, u_came, u_begun, e_c18, u__law_behind, u__law_owners_of, u__law_places_of, e_asPs_zero, e_merge_zero, u__law_balances, u__law_others, u__law_lying, u__law_came, e_c9, e_p9, u__law_is_ledger])
--# law
theorem perm_take {xs ys : List Str} {m : Nat} (hp : ys.Perm xs) (nd : xs.Nodup) (h6 : xs.length = 6) (hm : 1 ≤ m) : ys.take m ≠ [] ∧ (ys.take m).length ≤ 6 ∧ (ys.take m).Nodup ∧ ∀ x ∈ ys.take m, x ∈ xs := by
  have hl := hp.length_eq
  refine ⟨fun z => ?_, by rw [List.length_take]; omega, (hp.nodup_iff.mpr nd).sublist (List.take_sublist _ _), fun x hx => hp.mem_iff.mp (List.mem_of_mem_take hx)⟩
  have := congrArg List.length z
  rw [List.length_take, List.length_nil] at this
  omega
theorem okA : ∀ x ∈ ownN ++ plN, PyData.strOk x = true ∧ isNm x = true ∧ x ∈ allN := by decide +kernel
theorem apart : ∀ x ∈ ownN, x ∉ plN := by decide +kernel
theorem hundred {r : Int} (h0 : 0 ≤ r) (h1 : r < 3) : ∃ h : Int, atI [D.int 3, D.int 100, D.int 1000000000] r = some (.int h) ∧ 1 ≤ h ∧ h ≤ 1000000000 := by
  have : r = 0 ∨ r = 1 ∨ r = 2 := by omega
  rcases this with rfl | rfl | rfl
  · exact ⟨3, rfl, by decide, by decide⟩
  · exact ⟨100, rfl, by decide, by decide⟩
  · exact ⟨1000000000, rfl, by decide, by decide⟩
theorem two_of {a b r : Int} (h0 : 0 ≤ r) (h1 : r < 2) (ha : 1 ≤ a ∧ a ≤ 40) (hb : 1 ≤ b ∧ b ≤ 40) : ∃ m : Nat, atI [D.int a, D.int b] r = some (.int m) ∧ 1 ≤ m ∧ m ≤ 40 := by
  have : r = 0 ∨ r = 1 := by omega
  rcases this with rfl | rfl
  · exact ⟨a.toNat, by rw [show ((a.toNat : Nat) : Int) = a by omega]; rfl, by omega, by omega⟩
  · exact ⟨b.toNat, by rw [show ((b.toNat : Nat) : Int) = b by omega]; rfl, by omega, by omega⟩
theorem isL_nil : isL [] = true := by decide +kernel
theorem own_nil : ownS [] = [] := by decide +kernel
theorem pl_nil : plS [] = [] := by decide +kernel
theorem ok_nilE : OkEs [] := Pool.ok (es := []) (fun e he => by cases he) (by decide)
theorem e_nil_ens : D.tup [] = D.tup (([] : List En).map En.d) := rfl
theorem u_law {ns : List Int} (hl : ns.length ≤ 63) (q : ∀ S', Q (.bl true) S') : sp_law c [.scr ns] [] Q Ex := by
  unfold sp_law rd_law
  walk_at "ev"
  refine d_begun hl fun S0 hD0 => ?_
  walk_at "ev"
  refine for_inv (fun k : Nat => D.int k) (fun _ ρ S' => ∃ o2 o3 o4 o5 o6 o7 o8 o9 o10, ρ = [some (.scr ns), some (.loc 1), o2, o3, o4, o5, o6, o7, o8, o9, o10] ∧ DrawS [] S') (fun _ _ _ _ => trivial) ?_ ?_ ⟨_, _, _, _, _, _, _, _, _, rfl, hD0⟩
  · rintro x l ρ S1 ⟨o2, o3, o4, o5, o6, o7, o8, o9, o10, rfl, hD1⟩ N k
    walk_at "ev"
    refine d_take (by decide) (by decide) hD1 fun r S2 h1 h2 hD2 => ?_
    obtain ⟨high, hh, hh1, hh2⟩ := hundred h1 h2
    walk_at "ev"
    refine d_take (by decide) (by decide) hD2 fun r2 S3 h1 h2 hD3 => ?_
    obtain ⟨m1, rfl⟩ := Int.eq_ofNat_of_zero_le h1
    walk_at "ev"
    rw [show (1 + (m1 : Int)) = ((1 + m1 : Nat) : Int) by omega]
    refine d_owners hD3 fun ys S4 hy hD4 => ?_
    obtain ⟨f1, f2, f3, f4⟩ := perm_take (m := 1 + m1) hy (by decide +kernel) rfl (by omega)
    generalize ys.take (1 + m1) = few at f1 f2 f3 f4
    walk_at "ev"
    refine d_take (by decide) (by decide) hD4 fun r3 S5 h1 h2 hD5 => ?_
    obtain ⟨m2, rfl⟩ := Int.eq_ofNat_of_zero_le h1
    walk_at "ev"
    rw [show (1 + (m2 : Int)) = ((1 + m2 : Nat) : Int) by omega]
    refine d_places hD5 fun zs S6 hz hD6 => ?_
    obtain ⟨p1, p2, p3, p4⟩ := perm_take (m := 1 + m2) hz (by decide +kernel) rfl (by omega)
    generalize zs.take (1 + m2) = sites at p1 p2 p3 p4
    walk_at "ev"
    refine d_take (by decide) (by decide) hD6 fun r4 S7 h1 h2 hD7 => ?_
    walk_at "ev"
    refine d_take (by decide) (by decide) hD7 fun r5 S8 h3 h4 hD8 => ?_
    walk_at "ev"
    refine d_take (by decide) (by decide) hD8 fun r6 S9 h5 h6 hD9 => ?_
    obtain ⟨m, hm, hm1, hm40⟩ := two_of (a := 1 + r4) (b := 38 + r5) h5 h6 (by omega) (by omega)
    walk_at "ev"
    refine d_ledger f1 f2 p1 p2 p3 hm40 hh1 hh2 (fun x hx => (okA x ?_).1) hD9 fun es S10 hes hdr hD10 => ?_
    · rcases List.mem_append.mp hx with z | z
      · exact List.mem_append_left _ (f4 x z)
      · exact List.mem_append_right _ (p4 x z)
    have hnm : ∀ x ∈ few ++ sites, isNm x = true := fun x hx => (okA x (by
      rcases List.mem_append.mp hx with z | z
      · exact List.mem_append_left _ (f4 x z)
      · exact List.mem_append_right _ (p4 x z))).2.1
    have hL : isL es = true := drawn_isL hdr (by omega) f2 p2 (fun x hx hx2 => apart x (f4 x hx) (p4 x hx2)) hnm
    have hdn := drawn_names hdr (by simp)
    have hP : Pool es := fun e he => by
      obtain ⟨a, b, d⟩ := hdn e he
      refine ⟨?_, (okA _ (List.mem_append_right _ (p4 _ a))).2.2⟩
      cases hmv : e.mv
      · exact (okA _ (List.mem_append_left _ (f4 _ (d hmv)))).2.2
      · exact (okA _ (List.mem_append_right _ (p4 _ (b hmv)))).2.2
    have hn : ∀ e ∈ es, isNm e.a = true ∧ isNm e.b = true := fun e he => ⟨allN_nm _ (hP e he).1, allN_nm _ (hP e he).2⟩
    have hO : OkEs es := hP.ok (by omega)
    have hne : es ≠ [] := fun z => by
      rw [z, List.length_nil] at hes
      omega
    walk_at "ev"
    rw [hL]
    walk_at "ev"
    refine told_right hO hL (fun k => (hP.take k).ok (by rw [List.length_take]; omega)) (isL_take hn hL) came_lie hD10 fun S11 hD11 => ?_
    walk_at "ev"
    refine for_inv (fun k : Nat => D.int k) (fun _ ρ S' => ∃ o8 o9, ρ = [some (.scr ns), some (.loc 1), some (.int x), some (.int high), some (.lst (few.map D.str)), some (.lst (sites.map D.str)), some (.int m), some (.tup [.str "ledger", .tup (es.map En.d)]), o8, o9, o10] ∧ DrawS [] S') (fun _ _ _ _ => trivial) ?_ ?_ ⟨_, _, rfl, hD11⟩
    · rintro y l ρ S12 ⟨o8, o9, rfl, hD12⟩ N kN
      walk_at "ev"
      refine d_bent hP hne (by omega) hD12 fun fs S13 hfl hPf hD13 => ?_
      have hOf : OkEs fs := hPf.ok (by omega)
      have hEq : isL fs = ownL fs := isL_ownL fun e he => ⟨allN_nm _ (hPf e he).1, allN_nm _ (hPf e he).2⟩
      walk_at "ev"
      rw [hEq]
      have : (ownL fs == ownL fs) = true := by simp
      simp only [this]
      walk_at "ev"
      exact kN _ _ ⟨_, _, rfl, hD13⟩
    · rintro ρ S12 ⟨o8, o9, rfl, hD12⟩
      obtain ⟨s0, sr, rfl⟩ : ∃ s0 sr, sites = s0 :: sr := by
        cases sites with
        | nil => exact absurd rfl p1
        | cons a b => exact ⟨a, b, rfl⟩
      walk_at "ev"
      refine d_take (by decide) (by decide) hD12 fun r7 S13 h7 h8 hD13 => ?_
      obtain ⟨m3, rfl⟩ := Int.eq_ofNat_of_zero_le h7
      walk_at "ev"
      rw [show (1 + (m3 : Int)) = ((1 + m3 : Nat) : Int) by omega]
      have hz : ([D.tup [.str "in", .str "zoe", .str s0, .int 1], D.tup [.str "in", .str "yul", .str s0, .int 1], D.tup [.str "in", .str "xan", .str s0, .int 1], D.tup [.str "in", .str "wim", .str s0, .int 1]] : List D) = ([⟨false, "zoe", s0, 1⟩, ⟨false, "yul", s0, 1⟩, ⟨false, "xan", s0, 1⟩, ⟨false, "wim", s0, 1⟩] : List En).map En.d := rfl
      rw [hz]
      have hs0 := (okA _ (List.mem_append_right _ (p4 s0 List.mem_cons_self))).2.2
      have hPm : ∀ e ∈ ([⟨false, "zoe", s0, 1⟩, ⟨false, "yul", s0, 1⟩, ⟨false, "xan", s0, 1⟩, ⟨false, "wim", s0, 1⟩] : List En), e.a ∈ allN ∧ e.b ∈ allN := fun e he => by
        simp only [List.mem_cons, List.not_mem_nil, or_false] at he
        rcases he with rfl | rfl | rfl | rfl
        · exact ⟨show ("zoe" : Str) ∈ allN by decide +kernel, hs0⟩
        · exact ⟨show ("yul" : Str) ∈ allN by decide +kernel, hs0⟩
        · exact ⟨show ("xan" : Str) ∈ allN by decide +kernel, hs0⟩
        · exact ⟨show ("wim" : Str) ∈ allN by decide +kernel, hs0⟩
      have hln : ([⟨false, "zoe", s0, 1⟩, ⟨false, "yul", s0, 1⟩, ⟨false, "xan", s0, 1⟩, ⟨false, "wim", s0, 1⟩] : List En).length = 4 := rfl
      generalize ([⟨false, "zoe", s0, 1⟩, ⟨false, "yul", s0, 1⟩, ⟨false, "xan", s0, 1⟩, ⟨false, "wim", s0, 1⟩] : List En) = more at hPm hln
      walk_at "ev"
      have hfl : (es ++ more.take (1 + m3)).length ≤ 50 := by
        rw [List.length_append, List.length_take]
        omega
      have hPf : Pool (es ++ more.take (1 + m3)) := fun e he => by
        rcases List.mem_append.mp he with z | z
        · exact hP e z
        · exact hPm e (List.mem_of_mem_take z)
      have hsz : es.length + min (1 + m3) 4 ≤ sizeLine := by
        have e2 := sizeLine_eq
        omega
      generalize es ++ more.take (1 + m3) = fs at hfl hPf
      have hOf : OkEs fs := hPf.ok (by omega)
      have hEq : isL fs = ownL fs := isL_ownL fun e he => ⟨allN_nm _ (hPf e he).1, allN_nm _ (hPf e he).2⟩
      walk_at "ev"
      rw [hEq]
      have : (ownL fs == ownL fs) = true := by simp
      simp only [this]
      walk_at "ev"
      exact ⟨by rw [List.length_take, hln]; exact hsz, k _ _ ⟨_, _, _, _, _, _, _, _, _, rfl, hD13⟩⟩
  · rintro ρ S1 ⟨o2, o3, o4, o5, o6, o7, o8, o9, o10, rfl, hD1⟩
    walk_at "ev"
    refine Eq.mpr (u_is_ledger (es := []) ok_nilE) ?_
    rw [isL_nil]
    walk_at "ev"
    refine Eq.mpr (u_owners (es := []) ok_nilE) ?_
    rw [isL_nil, own_nil]
    walk_at "ev"
    have okn : okD (.tup []) = true := ok_has (k := 1) (has_tup hasL_nil) (by decide)
    refine ⟨okn, okn, Eq.mpr (u_lying (es := []) (xs := []) ok_nilE isL_nil (by decide +kernel)) ?_⟩
    walk_at "ev"
    rw [show lieS [] [] = 0 from rfl]
    show Q (.bl (eqD (.int 0) (.int 0))) []
    rw [eqD_int]
    exact q _

end DL

set_option Elab.async false
set_option linter.all false
set_option maxRecDepth 100000
set_option maxHeartbeats 0
namespace DL
open PySem PySem.Spec PyProof.Rows L2 RZ
def top (i : Nat) : Stmt := PySem.Challenge.pw_mixedmoney_k10_whole_ledgers_and_balance.main.body.getD i (.Pass ⟨0, 0, 0, 0⟩)
abbrev s0 : Stmt := top 10
abbrev s1 : Stmt := top 11
abbrev s2 : Stmt := top 12
abbrev s3 : Stmt := top 13
abbrev s4 : Stmt := top 14
abbrev s5 : Stmt := top 15
abbrev s6 : Stmt := top 20
abbrev s7 : Stmt := top 21
abbrev s8 : Stmt := top 22
abbrev s9 : Stmt := top 23
abbrev s10 : Stmt := top 24
abbrev s11 : Stmt := top 25
abbrev s12 : Stmt := top 26
abbrev s13 : Stmt := top 27
abbrev s14 : Stmt := top 28
abbrev s15 : Stmt := top 29
abbrev s16 : Stmt := top 30
abbrev s17 : Stmt := top 31
abbrev s18 : Stmt := top 32
abbrev s19 : Stmt := top 33
abbrev s20 : Stmt := top 34
abbrev s21 : Stmt := top 35
abbrev s22 : Stmt := top 36
abbrev s23 : Stmt := top 37
abbrev s24 : Stmt := top 38
abbrev s25 : Stmt := top 39
abbrev s26 : Stmt := top 40
abbrev s27 : Stmt := top 41
abbrev s28 : Stmt := top 42
abbrev s29 : Stmt := top 44
abbrev s30 : Stmt := top 45
abbrev s31 : Stmt := top 46
abbrev s32 : Stmt := top 47
abbrev s33 : Stmt := top 48
abbrev s34 : Stmt := top 49
abbrev s35 : Stmt := top 50
abbrev s36 : Stmt := top 51
abbrev s37 : Stmt := top 52
abbrev s38 : Stmt := top 53
abbrev s39 : Stmt := top 54
abbrev s40 : Stmt := top 55
abbrev s41 : Stmt := top 56
abbrev s42 : Stmt := top 57
abbrev s43 : Stmt := top 58
abbrev s44 : Stmt := top 59
abbrev s45 : Stmt := top 60
abbrev s46 : Stmt := top 61
abbrev s47 : Stmt := top 62
abbrev s48 : Stmt := top 63
abbrev s49 : Stmt := top 64
abbrev s50 : Stmt := top 65
def d0 : He.DefD := ⟨("is_name", none), "is_name", "is_name", defArgs s0, defBody s0, defScope s0, [], []⟩
def d1 : He.DefD := ⟨("is_number", none), "is_number", "is_number", defArgs s1, defBody s1, defScope s1, [], []⟩
def d2 : He.DefD := ⟨("is_word", none), "is_word", "is_word", defArgs s2, defBody s2, defScope s2, [], []⟩
def d3 : He.DefD := ⟨("is_row", none), "is_row", "is_row", defArgs s3, defBody s3, defScope s3, [], []⟩
def d4 : He.DefD := ⟨("are_ascending", none), "are_ascending", "are_ascending", defArgs s4, defBody s4, defScope s4, [], []⟩
def d5 : He.DefD := ⟨("is_lot_of", none), "is_lot_of", "is_lot_of", defArgs s5, defBody s5, defScope s5, [], []⟩
def d6 : He.DefD := ⟨("is_entry", none), "is_entry", "is_entry", defArgs s6, defBody s6, defScope s6, [], []⟩
def d7 : He.DefD := ⟨("owners_in", none), "owners_in", "owners_in", defArgs s7, defBody s7, defScope s7, [], []⟩
def d8 : He.DefD := ⟨("places_in", none), "places_in", "places_in", defArgs s8, defBody s8, defScope s8, [], []⟩
def d9 : He.DefD := ⟨("behind", none), "behind", "behind", defArgs s9, defBody s9, defScope s9, [], []⟩
def d10 : He.DefD := ⟨("balances_of", none), "balances_of", "balances_of", defArgs s10, defBody s10, defScope s10, [], []⟩
def d11 : He.DefD := ⟨("is_ledger", none), "is_ledger", "is_ledger", defArgs s11, defBody s11, defScope s11, [], []⟩
def d12 : He.DefD := ⟨("check_ledger", none), "check_ledger", "check_ledger", defArgs s12, defBody s12, defScope s12, [], []⟩
def d13 : He.DefD := ⟨("owners_of", none), "owners_of", "owners_of", defArgs s13, defBody s13, defScope s13, [], []⟩
def d14 : He.DefD := ⟨("places_of", none), "places_of", "places_of", defArgs s14, defBody s14, defScope s14, [], []⟩
def d15 : He.DefD := ⟨("check_some", none), "check_some", "check_some", defArgs s15, defBody s15, defScope s15, [], []⟩
def d16 : He.DefD := ⟨("check_where", none), "check_where", "check_where", defArgs s16, defBody s16, defScope s16, [], []⟩
def d17 : He.DefD := ⟨("check_place", none), "check_place", "check_place", defArgs s17, defBody s17, defScope s17, [], []⟩
def d18 : He.DefD := ⟨("check_moment", none), "check_moment", "check_moment", defArgs s18, defBody s18, defScope s18, [], []⟩
def d19 : He.DefD := ⟨("others_of", none), "others_of", "others_of", defArgs s19, defBody s19, defScope s19, [], []⟩
def d20 : He.DefD := ⟨("lying_at_end", none), "lying_at_end", "lying_at_end", defArgs s20, defBody s20, defScope s20, [], []⟩
def d21 : He.DefD := ⟨("came_of", none), "came_of", "came_of", defArgs s21, defBody s21, defScope s21, [], []⟩
def d22 : He.DefD := ⟨("owners", none), "owners", "owners", defArgs s22, defBody s22, defScope s22, [], []⟩
def d23 : He.DefD := ⟨("places", none), "places", "places", defArgs s23, defBody s23, defScope s23, [], []⟩
def d24 : He.DefD := ⟨("others", none), "others", "others", defArgs s24, defBody s24, defScope s24, [], []⟩
def d25 : He.DefD := ⟨("balance", none), "balance", "balance", defArgs s25, defBody s25, defScope s25, [], []⟩
def d26 : He.DefD := ⟨("lying", none), "lying", "lying", defArgs s26, defBody s26, defScope s26, [], []⟩
def d27 : He.DefD := ⟨("came", none), "came", "came", defArgs s27, defBody s27, defScope s27, [], []⟩
def d28 : He.DefD := ⟨("begun", none), "begun", "begun", defArgs s28, defBody s28, defScope s28, [], []⟩
def d29 : He.DefD := ⟨("_law_begun", none), "_law_begun", "_law_begun", defArgs s29, defBody s29, defScope s29, [], []⟩
def d30 : He.DefD := ⟨("_law_mixed", none), "_law_mixed", "_law_mixed", defArgs s30, defBody s30, defScope s30, [], []⟩
def d31 : He.DefD := ⟨("_law_take", none), "_law_take", "_law_take", defArgs s31, defBody s31, defScope s31, [], []⟩
def d32 : He.DefD := ⟨("_law_pick", none), "_law_pick", "_law_pick", defArgs s32, defBody s32, defScope s32, [], []⟩
def d33 : He.DefD := ⟨("_law_shuffled", none), "_law_shuffled", "_law_shuffled", defArgs s33, defBody s33, defScope s33, [], []⟩
def d34 : He.DefD := ⟨("_law_names_of", none), "_law_names_of", "_law_names_of", defArgs s34, defBody s34, defScope s34, [], []⟩
def d35 : He.DefD := ⟨("_law_owners", none), "_law_owners", "_law_owners", defArgs s35, defBody s35, defScope s35, [], []⟩
def d36 : He.DefD := ⟨("_law_places", none), "_law_places", "_law_places", defArgs s36, defBody s36, defScope s36, [], []⟩
def d37 : He.DefD := ⟨("_law_behind", none), "_law_behind", "_law_behind", defArgs s37, defBody s37, defScope s37, [], []⟩
def d38 : He.DefD := ⟨("_law_entry", none), "_law_entry", "_law_entry", defArgs s38, defBody s38, defScope s38, [], []⟩
def d39 : He.DefD := ⟨("_law_ledger", none), "_law_ledger", "_law_ledger", defArgs s39, defBody s39, defScope s39, [], []⟩
def d40 : He.DefD := ⟨("_law_owners_of", none), "_law_owners_of", "_law_owners_of", defArgs s40, defBody s40, defScope s40, [], []⟩
def d41 : He.DefD := ⟨("_law_places_of", none), "_law_places_of", "_law_places_of", defArgs s41, defBody s41, defScope s41, [], []⟩
def d42 : He.DefD := ⟨("_law_balances", none), "_law_balances", "_law_balances", defArgs s42, defBody s42, defScope s42, [], []⟩
def d43 : He.DefD := ⟨("_law_lot", none), "_law_lot", "_law_lot", defArgs s43, defBody s43, defScope s43, [], []⟩
def d44 : He.DefD := ⟨("_law_others", none), "_law_others", "_law_others", defArgs s44, defBody s44, defScope s44, [], []⟩
def d45 : He.DefD := ⟨("_law_lying", none), "_law_lying", "_law_lying", defArgs s45, defBody s45, defScope s45, [], []⟩
def d46 : He.DefD := ⟨("_law_came", none), "_law_came", "_law_came", defArgs s46, defBody s46, defScope s46, [], []⟩
def d47 : He.DefD := ⟨("_law_is_ledger", none), "_law_is_ledger", "_law_is_ledger", defArgs s47, defBody s47, defScope s47, [], []⟩
def d48 : He.DefD := ⟨("_law_bent", none), "_law_bent", "_law_bent", defArgs s48, defBody s48, defScope s48, [], []⟩
def d49 : He.DefD := ⟨("_law_is_told_right", none), "_law_is_told_right", "_law_is_told_right", defArgs s49, defBody s49, defScope s49, [], []⟩
def d50 : He.DefD := ⟨("law", none), "law", "law", defArgs s50, defBody s50, defScope s50, [], []⟩
def fn : List He.DefD := [d0, d1, d2, d3, d4, d5, d6, d7, d8, d9, d10, d11, d12, d13, d14, d15, d16, d17, d18, d19, d20, d21, d22, d23, d24, d25, d26, d27, d28, d29, d30, d31, d32, d33, d34, d35, d36, d37, d38, d39, d40, d41, d42, d43, d44, d45, d46, d47, d48, d49, d50]
def fa : List He.Fa := [.glo "is_name", .glo "is_number", .glo "is_word", .glo "is_row", .glo "are_ascending", .glo "is_lot_of", .glo "is_entry", .glo "owners_in", .glo "places_in", .glo "behind", .glo "balances_of", .glo "is_ledger", .glo "check_ledger", .glo "owners_of", .glo "places_of", .glo "check_some", .glo "check_where", .glo "check_place", .glo "check_moment", .glo "others_of", .glo "lying_at_end", .glo "came_of", .glo "owners", .glo "places", .glo "others", .glo "balance", .glo "lying", .glo "came", .glo "begun", .glo "_law_begun", .glo "_law_mixed", .glo "_law_take", .glo "_law_pick", .glo "_law_shuffled", .glo "_law_names_of", .glo "_law_owners", .glo "_law_places", .glo "_law_behind", .glo "_law_entry", .glo "_law_ledger", .glo "_law_owners_of", .glo "_law_places_of", .glo "_law_balances", .glo "_law_lot", .glo "_law_others", .glo "_law_lying", .glo "_law_came", .glo "_law_is_ledger", .glo "_law_bent", .glo "_law_is_told_right", .glo "law", .glo "MoneyError", .glo "BadLedger", .glo "BadMoment", .glo "BadPlace", .glo "BadSome", .glo "BadWhere", .exc "MoneyError", .exc "BadLedger", .exc "BadMoment", .exc "BadPlace", .exc "BadSome", .exc "BadWhere", .free "abs", .free "all", .free "any", .free "bool", .free "dict", .free "int", .free "isinstance", .free "len", .free "list", .free "min", .free "range", .free "set", .free "sorted", .free "str", .free "sum", .free "tuple", .glo "KEPT", .str "LETTERS" "abcdefghijklmnopqrstuvwxyz", .int "ENTRIES" 40, .int "NAMES" 6, .int "HIGH" 1000000000]
def exB (K : PySem.W.Frag) : Bool := He.tupB K "KEPT" (kt_KEPT.map He.Dv.str)
theorem tup_KEPT {K : PySem.W.Frag} {mg : Str → Option Value} (fx : Fx fa fn exB K mg) : He.tupB K "KEPT" (kt_KEPT.map He.Dv.str) = true := fx.m
abbrev ps_is_name : List Str := ["thing"]
theorem bp_is_name : BindP "is_name" s0 ps_is_name := fun _ _ _ _ _ _ us h => match us, h with | [_], _ => rfl
theorem sc_is_name : FnScope N_is_name ps_is_name (defScope s0) := ⟨rfl, rfl, rfl, by decide +kernel, rfl, by decide +kernel, by decide +kernel⟩
abbrev ps_is_number : List Str := ["thing", "low", "high"]
theorem bp_is_number : BindP "is_number" s1 ps_is_number := fun _ _ _ _ _ _ us h => match us, h with | [_, _, _], _ => rfl
theorem sc_is_number : FnScope N_is_number ps_is_number (defScope s1) := ⟨rfl, rfl, rfl, by decide +kernel, rfl, by decide +kernel, by decide +kernel⟩
abbrev ps_is_word : List Str := ["thing", "words"]
theorem bp_is_word : BindP "is_word" s2 ps_is_word := fun _ _ _ _ _ _ us h => match us, h with | [_, _], _ => rfl
theorem sc_is_word : FnScope N_is_word ps_is_word (defScope s2) := ⟨rfl, rfl, rfl, by decide +kernel, rfl, by decide +kernel, by decide +kernel⟩
abbrev ps_is_row : List Str := ["thing", "many"]
theorem bp_is_row : BindP "is_row" s3 ps_is_row := fun _ _ _ _ _ _ us h => match us, h with | [_, _], _ => rfl
theorem sc_is_row : FnScope N_is_row ps_is_row (defScope s3) := ⟨rfl, rfl, rfl, by decide +kernel, rfl, by decide +kernel, by decide +kernel⟩
abbrev ps_are_ascending : List Str := ["things"]
theorem bp_are_ascending : BindP "are_ascending" s4 ps_are_ascending := fun _ _ _ _ _ _ us h => match us, h with | [_], _ => rfl
theorem sc_are_ascending : FnScope N_are_ascending ps_are_ascending (defScope s4) := ⟨rfl, rfl, rfl, by decide +kernel, rfl, by decide +kernel, by decide +kernel⟩
abbrev ps_owners_in : List Str := ["entries"]
theorem bp_owners_in : BindP "owners_in" s7 ps_owners_in := fun _ _ _ _ _ _ us h => match us, h with | [_], _ => rfl
theorem sc_owners_in : FnScope N_owners_in ps_owners_in (defScope s7) := ⟨rfl, rfl, rfl, by decide +kernel, rfl, by decide +kernel, by decide +kernel⟩
abbrev ps_places_in : List Str := ["entries"]
theorem bp_places_in : BindP "places_in" s8 ps_places_in := fun _ _ _ _ _ _ us h => match us, h with | [_], _ => rfl
theorem sc_places_in : FnScope N_places_in ps_places_in (defScope s8) := ⟨rfl, rfl, rfl, by decide +kernel, rfl, by decide +kernel, by decide +kernel⟩
abbrev ps_behind : List Str := ["balances", "entry"]
theorem bp_behind : BindP "behind" s9 ps_behind := fun _ _ _ _ _ _ us h => match us, h with | [_, _], _ => rfl
theorem sc_behind : FnScope N_behind ps_behind (defScope s9) := ⟨rfl, rfl, rfl, by decide +kernel, rfl, by decide +kernel, by decide +kernel⟩
abbrev ps_came_of : List Str := ["ledger", "some"]
theorem bp_came_of : BindP "came_of" s21 ps_came_of := fun _ _ _ _ _ _ us h => match us, h with | [_, _], _ => rfl
theorem sc_came_of : FnScope N_came_of ps_came_of (defScope s21) := ⟨rfl, rfl, rfl, by decide +kernel, rfl, by decide +kernel, by decide +kernel⟩
abbrev ps__law_begun : List Str := ["script"]
theorem bp__law_begun : BindP "_law_begun" s29 ps__law_begun := fun _ _ _ _ _ _ us h => match us, h with | [_], _ => rfl
theorem sc__law_begun : FnScope N__law_begun ps__law_begun (defScope s29) := ⟨rfl, rfl, rfl, by decide +kernel, rfl, by decide +kernel, by decide +kernel⟩
abbrev ps__law_mixed : List Str := ["draw"]
theorem bp__law_mixed : BindP "_law_mixed" s30 ps__law_mixed := fun _ _ _ _ _ _ us h => match us, h with | [_], _ => rfl
theorem sc__law_mixed : FnScope N__law_mixed ps__law_mixed (defScope s30) := ⟨rfl, rfl, rfl, by decide +kernel, rfl, by decide +kernel, by decide +kernel⟩
abbrev ps__law_behind : List Str := ["balances", "entry"]
theorem bp__law_behind : BindP "_law_behind" s37 ps__law_behind := fun _ _ _ _ _ _ us h => match us, h with | [_, _], _ => rfl
theorem sc__law_behind : FnScope N__law_behind ps__law_behind (defScope s37) := ⟨rfl, rfl, rfl, by decide +kernel, rfl, by decide +kernel, by decide +kernel⟩
abbrev ps__law_owners_of : List Str := ["ledger"]
theorem bp__law_owners_of : BindP "_law_owners_of" s40 ps__law_owners_of := fun _ _ _ _ _ _ us h => match us, h with | [_], _ => rfl
theorem sc__law_owners_of : FnScope N__law_owners_of ps__law_owners_of (defScope s40) := ⟨rfl, rfl, rfl, by decide +kernel, rfl, by decide +kernel, by decide +kernel⟩
abbrev ps__law_places_of : List Str := ["ledger"]
theorem bp__law_places_of : BindP "_law_places_of" s41 ps__law_places_of := fun _ _ _ _ _ _ us h => match us, h with | [_], _ => rfl
theorem sc__law_places_of : FnScope N__law_places_of ps__law_places_of (defScope s41) := ⟨rfl, rfl, rfl, by decide +kernel, rfl, by decide +kernel, by decide +kernel⟩
abbrev ps__law_came : List Str := ["ledger", "some"]
theorem bp__law_came : BindP "_law_came" s46 ps__law_came := fun _ _ _ _ _ _ us h => match us, h with | [_, _], _ => rfl
theorem sc__law_came : FnScope N__law_came ps__law_came (defScope s46) := ⟨rfl, rfl, rfl, by decide +kernel, rfl, by decide +kernel, by decide +kernel⟩
abbrev ps__law_is_ledger : List Str := ["entries"]
theorem bp__law_is_ledger : BindP "_law_is_ledger" s47 ps__law_is_ledger := fun _ _ _ _ _ _ us h => match us, h with | [_], _ => rfl
theorem sc__law_is_ledger : FnScope N__law_is_ledger ps__law_is_ledger (defScope s47) := ⟨rfl, rfl, rfl, by decide +kernel, rfl, by decide +kernel, by decide +kernel⟩
abbrev ps_is_lot_of : List Str := ["thing", "names"]
theorem bp_is_lot_of : BindP "is_lot_of" s5 ps_is_lot_of := fun _ _ _ _ _ _ us h => match us, h with | [_, _], _ => rfl
theorem sc_is_lot_of : FnScope N_is_lot_of ps_is_lot_of (defScope s5) := ⟨rfl, rfl, rfl, by decide +kernel, rfl, by decide +kernel, by decide +kernel⟩
abbrev ps_is_entry : List Str := ["thing"]
theorem bp_is_entry : BindP "is_entry" s6 ps_is_entry := fun _ _ _ _ _ _ us h => match us, h with | [_], _ => rfl
theorem sc_is_entry : FnScope N_is_entry ps_is_entry (defScope s6) := ⟨rfl, rfl, rfl, by decide +kernel, rfl, by decide +kernel, by decide +kernel⟩
abbrev ps_balances_of : List Str := ["entries"]
theorem bp_balances_of : BindP "balances_of" s10 ps_balances_of := fun _ _ _ _ _ _ us h => match us, h with | [_], _ => rfl
theorem sc_balances_of : FnScope N_balances_of ps_balances_of (defScope s10) := ⟨rfl, rfl, rfl, by decide +kernel, rfl, by decide +kernel, by decide +kernel⟩
abbrev ps_owners_of : List Str := ["ledger"]
theorem bp_owners_of : BindP "owners_of" s13 ps_owners_of := fun _ _ _ _ _ _ us h => match us, h with | [_], _ => rfl
theorem sc_owners_of : FnScope N_owners_of ps_owners_of (defScope s13) := ⟨rfl, rfl, rfl, by decide +kernel, rfl, by decide +kernel, by decide +kernel⟩
abbrev ps_places_of : List Str := ["ledger"]
theorem bp_places_of : BindP "places_of" s14 ps_places_of := fun _ _ _ _ _ _ us h => match us, h with | [_], _ => rfl
theorem sc_places_of : FnScope N_places_of ps_places_of (defScope s14) := ⟨rfl, rfl, rfl, by decide +kernel, rfl, by decide +kernel, by decide +kernel⟩
abbrev ps_check_moment : List Str := ["ledger", "moment"]
theorem bp_check_moment : BindP "check_moment" s18 ps_check_moment := fun _ _ _ _ _ _ us h => match us, h with | [_, _], _ => rfl
theorem sc_check_moment : FnScope N_check_moment ps_check_moment (defScope s18) := ⟨rfl, rfl, rfl, by decide +kernel, rfl, by decide +kernel, by decide +kernel⟩
abbrev ps__law_take : List Str := ["draw", "many"]
theorem bp__law_take : BindP "_law_take" s31 ps__law_take := fun _ _ _ _ _ _ us h => match us, h with | [_, _], _ => rfl
theorem sc__law_take : FnScope N__law_take ps__law_take (defScope s31) := ⟨rfl, rfl, rfl, by decide +kernel, rfl, by decide +kernel, by decide +kernel⟩
abbrev ps__law_balances : List Str := ["ledger"]
theorem bp__law_balances : BindP "_law_balances" s42 ps__law_balances := fun _ _ _ _ _ _ us h => match us, h with | [_], _ => rfl
theorem sc__law_balances : FnScope N__law_balances ps__law_balances (defScope s42) := ⟨rfl, rfl, rfl, by decide +kernel, rfl, by decide +kernel, by decide +kernel⟩
abbrev ps__law_others : List Str := ["ledger", "some"]
theorem bp__law_others : BindP "_law_others" s44 ps__law_others := fun _ _ _ _ _ _ us h => match us, h with | [_, _], _ => rfl
theorem sc__law_others : FnScope N__law_others ps__law_others (defScope s44) := ⟨rfl, rfl, rfl, by decide +kernel, rfl, by decide +kernel, by decide +kernel⟩
abbrev ps_is_ledger : List Str := ["thing"]
theorem bp_is_ledger : BindP "is_ledger" s11 ps_is_ledger := fun _ _ _ _ _ _ us h => match us, h with | [_], _ => rfl
theorem sc_is_ledger : FnScope N_is_ledger ps_is_ledger (defScope s11) := ⟨rfl, rfl, rfl, by decide +kernel, rfl, by decide +kernel, by decide +kernel⟩
abbrev ps_check_some : List Str := ["ledger", "some"]
theorem bp_check_some : BindP "check_some" s15 ps_check_some := fun _ _ _ _ _ _ us h => match us, h with | [_, _], _ => rfl
theorem sc_check_some : FnScope N_check_some ps_check_some (defScope s15) := ⟨rfl, rfl, rfl, by decide +kernel, rfl, by decide +kernel, by decide +kernel⟩
abbrev ps_check_where : List Str := ["ledger", "where"]
theorem bp_check_where : BindP "check_where" s16 ps_check_where := fun _ _ _ _ _ _ us h => match us, h with | [_, _], _ => rfl
theorem sc_check_where : FnScope N_check_where ps_check_where (defScope s16) := ⟨rfl, rfl, rfl, by decide +kernel, rfl, by decide +kernel, by decide +kernel⟩
abbrev ps_check_place : List Str := ["ledger", "place"]
theorem bp_check_place : BindP "check_place" s17 ps_check_place := fun _ _ _ _ _ _ us h => match us, h with | [_, _], _ => rfl
theorem sc_check_place : FnScope N_check_place ps_check_place (defScope s17) := ⟨rfl, rfl, rfl, by decide +kernel, rfl, by decide +kernel, by decide +kernel⟩
abbrev ps_others_of : List Str := ["ledger", "some"]
theorem bp_others_of : BindP "others_of" s19 ps_others_of := fun _ _ _ _ _ _ us h => match us, h with | [_, _], _ => rfl
theorem sc_others_of : FnScope N_others_of ps_others_of (defScope s19) := ⟨rfl, rfl, rfl, by decide +kernel, rfl, by decide +kernel, by decide +kernel⟩
abbrev ps_lying_at_end : List Str := ["ledger", "where"]
theorem bp_lying_at_end : BindP "lying_at_end" s20 ps_lying_at_end := fun _ _ _ _ _ _ us h => match us, h with | [_, _], _ => rfl
theorem sc_lying_at_end : FnScope N_lying_at_end ps_lying_at_end (defScope s20) := ⟨rfl, rfl, rfl, by decide +kernel, rfl, by decide +kernel, by decide +kernel⟩
abbrev ps__law_pick : List Str := ["draw", "some"]
theorem bp__law_pick : BindP "_law_pick" s32 ps__law_pick := fun _ _ _ _ _ _ us h => match us, h with | [_, _], _ => rfl
theorem sc__law_pick : FnScope N__law_pick ps__law_pick (defScope s32) := ⟨rfl, rfl, rfl, by decide +kernel, rfl, by decide +kernel, by decide +kernel⟩
abbrev ps__law_shuffled : List Str := ["draw", "some"]
theorem bp__law_shuffled : BindP "_law_shuffled" s33 ps__law_shuffled := fun _ _ _ _ _ _ us h => match us, h with | [_, _], _ => rfl
theorem sc__law_shuffled : FnScope N__law_shuffled ps__law_shuffled (defScope s33) := ⟨rfl, rfl, rfl, by decide +kernel, rfl, by decide +kernel, by decide +kernel⟩
abbrev ps__law_lot : List Str := ["draw", "names"]
theorem bp__law_lot : BindP "_law_lot" s43 ps__law_lot := fun _ _ _ _ _ _ us h => match us, h with | [_, _], _ => rfl
theorem sc__law_lot : FnScope N__law_lot ps__law_lot (defScope s43) := ⟨rfl, rfl, rfl, by decide +kernel, rfl, by decide +kernel, by decide +kernel⟩
abbrev ps__law_lying : List Str := ["ledger", "where"]
theorem bp__law_lying : BindP "_law_lying" s45 ps__law_lying := fun _ _ _ _ _ _ us h => match us, h with | [_, _], _ => rfl
theorem sc__law_lying : FnScope N__law_lying ps__law_lying (defScope s45) := ⟨rfl, rfl, rfl, by decide +kernel, rfl, by decide +kernel, by decide +kernel⟩
abbrev ps_check_ledger : List Str := ["ledger"]
theorem bp_check_ledger : BindP "check_ledger" s12 ps_check_ledger := fun _ _ _ _ _ _ us h => match us, h with | [_], _ => rfl
theorem sc_check_ledger : FnScope N_check_ledger ps_check_ledger (defScope s12) := ⟨rfl, rfl, rfl, by decide +kernel, rfl, by decide +kernel, by decide +kernel⟩
abbrev ps__law_names_of : List Str := ["draw", "pool", "many"]
theorem bp__law_names_of : BindP "_law_names_of" s34 ps__law_names_of := fun _ _ _ _ _ _ us h => match us, h with | [_, _, _], _ => rfl
theorem sc__law_names_of : FnScope N__law_names_of ps__law_names_of (defScope s34) := ⟨rfl, rfl, rfl, by decide +kernel, rfl, by decide +kernel, by decide +kernel⟩
abbrev ps__law_entry : List Str := ["draw", "few", "sites", "balances", "high"]
theorem bp__law_entry : BindP "_law_entry" s38 ps__law_entry := fun _ _ _ _ _ _ us h => match us, h with | [_, _, _, _, _], _ => rfl
theorem sc__law_entry : FnScope N__law_entry ps__law_entry (defScope s38) := ⟨rfl, rfl, rfl, by decide +kernel, rfl, by decide +kernel, by decide +kernel⟩
abbrev ps__law_bent : List Str := ["draw", "entries"]
theorem bp__law_bent : BindP "_law_bent" s48 ps__law_bent := fun _ _ _ _ _ _ us h => match us, h with | [_, _], _ => rfl
theorem sc__law_bent : FnScope N__law_bent ps__law_bent (defScope s48) := ⟨rfl, rfl, rfl, by decide +kernel, rfl, by decide +kernel, by decide +kernel⟩
abbrev ps_owners : List Str := ["ledger"]
theorem bp_owners : BindP "owners" s22 ps_owners := fun _ _ _ _ _ _ us h => match us, h with | [_], _ => rfl
theorem sc_owners : FnScope N_owners ps_owners (defScope s22) := ⟨rfl, rfl, rfl, by decide +kernel, rfl, by decide +kernel, by decide +kernel⟩
abbrev ps_places : List Str := ["ledger"]
theorem bp_places : BindP "places" s23 ps_places := fun _ _ _ _ _ _ us h => match us, h with | [_], _ => rfl
theorem sc_places : FnScope N_places ps_places (defScope s23) := ⟨rfl, rfl, rfl, by decide +kernel, rfl, by decide +kernel, by decide +kernel⟩
abbrev ps_others : List Str := ["ledger", "some"]
theorem bp_others : BindP "others" s24 ps_others := fun _ _ _ _ _ _ us h => match us, h with | [_, _], _ => rfl
theorem sc_others : FnScope N_others ps_others (defScope s24) := ⟨rfl, rfl, rfl, by decide +kernel, rfl, by decide +kernel, by decide +kernel⟩
abbrev ps_balance : List Str := ["ledger", "place", "moment"]
theorem bp_balance : BindP "balance" s25 ps_balance := fun _ _ _ _ _ _ us h => match us, h with | [_, _, _], _ => rfl
theorem sc_balance : FnScope N_balance ps_balance (defScope s25) := ⟨rfl, rfl, rfl, by decide +kernel, rfl, by decide +kernel, by decide +kernel⟩
abbrev ps_lying : List Str := ["ledger", "where"]
theorem bp_lying : BindP "lying" s26 ps_lying := fun _ _ _ _ _ _ us h => match us, h with | [_, _], _ => rfl
theorem sc_lying : FnScope N_lying ps_lying (defScope s26) := ⟨rfl, rfl, rfl, by decide +kernel, rfl, by decide +kernel, by decide +kernel⟩
abbrev ps_came : List Str := ["ledger", "some"]
theorem bp_came : BindP "came" s27 ps_came := fun _ _ _ _ _ _ us h => match us, h with | [_, _], _ => rfl
theorem sc_came : FnScope N_came ps_came (defScope s27) := ⟨rfl, rfl, rfl, by decide +kernel, rfl, by decide +kernel, by decide +kernel⟩
abbrev ps_begun : List Str := ["ledger", "moment"]
theorem bp_begun : BindP "begun" s28 ps_begun := fun _ _ _ _ _ _ us h => match us, h with | [_, _], _ => rfl
theorem sc_begun : FnScope N_begun ps_begun (defScope s28) := ⟨rfl, rfl, rfl, by decide +kernel, rfl, by decide +kernel, by decide +kernel⟩
abbrev ps__law_owners : List Str := ["draw", "many"]
theorem bp__law_owners : BindP "_law_owners" s35 ps__law_owners := fun _ _ _ _ _ _ us h => match us, h with | [_, _], _ => rfl
theorem sc__law_owners : FnScope N__law_owners ps__law_owners (defScope s35) := ⟨rfl, rfl, rfl, by decide +kernel, rfl, by decide +kernel, by decide +kernel⟩
abbrev ps__law_places : List Str := ["draw", "many"]
theorem bp__law_places : BindP "_law_places" s36 ps__law_places := fun _ _ _ _ _ _ us h => match us, h with | [_, _], _ => rfl
theorem sc__law_places : FnScope N__law_places ps__law_places (defScope s36) := ⟨rfl, rfl, rfl, by decide +kernel, rfl, by decide +kernel, by decide +kernel⟩
abbrev ps__law_ledger : List Str := ["draw", "few", "sites", "many", "high"]
theorem bp__law_ledger : BindP "_law_ledger" s39 ps__law_ledger := fun _ _ _ _ _ _ us h => match us, h with | [_, _, _, _, _], _ => rfl
theorem sc__law_ledger : FnScope N__law_ledger ps__law_ledger (defScope s39) := ⟨rfl, rfl, rfl, by decide +kernel, rfl, by decide +kernel, by decide +kernel⟩
abbrev ps__law_is_told_right : List Str := ["draw", "ledger"]
theorem bp__law_is_told_right : BindP "_law_is_told_right" s49 ps__law_is_told_right := fun _ _ _ _ _ _ us h => match us, h with | [_, _], _ => rfl
theorem sc__law_is_told_right : FnScope N__law_is_told_right ps__law_is_told_right (defScope s49) := ⟨rfl, rfl, rfl, by decide +kernel, rfl, by decide +kernel, by decide +kernel⟩
abbrev ps_law : List Str := ["script"]
theorem bp_law : BindP "law" s50 ps_law := fun _ _ _ _ _ _ us h => match us, h with | [_], _ => rfl
theorem sc_law : FnScope N_law ps_law (defScope s50) := ⟨rfl, rfl, rfl, by decide +kernel, rfl, by decide +kernel, by decide +kernel⟩
section
variable {P : Program} {w : World} {K : PySem.W.Frag} {mg : Str → Option Value} {base : Heap}
theorem dv_is_name (fx : Fx fa fn exB K mg)  {f : Addr} {cdv : Value} {A : Around} {outer : List Env} {s : Shared} {H : Hp} {E : XK} (hr : Room 0 (A.deeper (envOfC "is_name" (defScope s0) s.heap.objs.size f cdv))) (b : Bd (cxOf (L2.CX P w) P w K mg base N_is_name "is_name" (defScope s0) f cdv A outer s H E) E) :
    PDSs (cxOf (L2.CX P w) P w K mg base N_is_name "is_name" (defScope s0) f cdv A outer s H E) E (defBody s0) (rd_is_name) :=
 (pdss_cons (pds_if (pdt_w (pdw_or (pdt_not (pdt_val (pd_bf c_isi boot_isinstance (fx.f 69) (pda_cons (pd_var 0) (pda_cons (pd_gty (fx.f 76) boot_str) pda_nil))))) (pdw_or (pdt_not (pdt_chain o_le o_le pd_int (pd_bf c_len boot_len (fx.f 70) (pda_cons (pd_var 0) pda_nil)) pd_int)) (pdw_or1 (pdt_cmp (o_in b.cn false .In rfl) (pd_var 0) (pd_gtup (fx.g 79) (tup_KEPT fx))))))) (pdss_one (pds_ret pd_bl)) pdss_nil)
 (pdss_one (pds_ret (pd_bf (c_all b.cn) boot_all (fx.f 64) (pda_cons (pd_lc (b := false) (own := [("sign", 1)]) b.cn (pdi_seq (pd_var 0)) (blkOk_by (by kernel_rfl)) (by decide) (fun _ _ _ _ _ => (pdg_nm (i := 1) b.cn.blk)) (fun _ _ _ _ _ => pdts_nil) (fun _ _ _ _ _ => (pd_cmp (o_in b.cn.blk false .In rfl) (pd_var 1) (pd_gstr (fx.s 80))))) pda_nil)))))
theorem dv_is_number (fx : Fx fa fn exB K mg)  {f : Addr} {cdv : Value} {A : Around} {outer : List Env} {s : Shared} {H : Hp} {E : XK} (hr : Room 0 (A.deeper (envOfC "is_number" (defScope s1) s.heap.objs.size f cdv))) (b : Bd (cxOf (L2.CX P w) P w K mg base N_is_number "is_number" (defScope s1) f cdv A outer s H E) E) :
    PDSs (cxOf (L2.CX P w) P w K mg base N_is_number "is_number" (defScope s1) f cdv A outer s H E) E (defBody s1) (rd_is_number) :=
 (pdss_cons (pds_if (pdt_w (pdw_or (pdt_val (pd_bf c_isi boot_isinstance (fx.f 69) (pda_cons (pd_var 0) (pda_cons (pd_gty (fx.f 66) boot_bool) pda_nil)))) (pdw_or1 (pdt_not (pdt_val (pd_bf c_isi boot_isinstance (fx.f 69) (pda_cons (pd_var 0) (pda_cons (pd_gty (fx.f 68) boot_int) pda_nil)))))))) (pdss_one (pds_ret pd_bl)) pdss_nil)
 (pdss_one (pds_ret (pd_and (pd_cmp o_ge (pd_var 0) (pd_var 1)) (pd_one (pd_or (pd_cmp o_is (pd_var 2) pd_non) (pd_one (pd_cmp o_le (pd_var 0) (pd_var 2)))))))))
theorem dv_is_word (fx : Fx fa fn exB K mg)  {f : Addr} {cdv : Value} {A : Around} {outer : List Env} {s : Shared} {H : Hp} {E : XK} (hr : Room 0 (A.deeper (envOfC "is_word" (defScope s2) s.heap.objs.size f cdv))) (b : Bd (cxOf (L2.CX P w) P w K mg base N_is_word "is_word" (defScope s2) f cdv A outer s H E) E) :
    PDSs (cxOf (L2.CX P w) P w K mg base N_is_word "is_word" (defScope s2) f cdv A outer s H E) E (defBody s2) (rd_is_word) :=
 (pdss_one (pds_ret (pd_and (pd_bf c_isi boot_isinstance (fx.f 69) (pda_cons (pd_var 0) (pda_cons (pd_gty (fx.f 76) boot_str) pda_nil))) (pd_one (pd_cmp (o_in b.cn false .In rfl) (pd_var 0) (pd_var 1))))))
theorem dv_is_row (fx : Fx fa fn exB K mg)  {f : Addr} {cdv : Value} {A : Around} {outer : List Env} {s : Shared} {H : Hp} {E : XK} (hr : Room 0 (A.deeper (envOfC "is_row" (defScope s3) s.heap.objs.size f cdv))) (b : Bd (cxOf (L2.CX P w) P w K mg base N_is_row "is_row" (defScope s3) f cdv A outer s H E) E) :
    PDSs (cxOf (L2.CX P w) P w K mg base N_is_row "is_row" (defScope s3) f cdv A outer s H E) E (defBody s3) (rd_is_row) :=
 (pdss_one (pds_ret (pd_and (pd_bf c_isi boot_isinstance (fx.f 69) (pda_cons (pd_var 0) (pda_cons (pd_gty (fx.f 78) boot_tuple) pda_nil))) (pd_one (pd_cmp (o_eq b.cn) (pd_bf c_len boot_len (fx.f 70) (pda_cons (pd_var 0) pda_nil)) (pd_var 1))))))
theorem dv_are_ascending (fx : Fx fa fn exB K mg)  {f : Addr} {cdv : Value} {A : Around} {outer : List Env} {s : Shared} {H : Hp} {E : XK} (hr : Room 0 (A.deeper (envOfC "are_ascending" (defScope s4) s.heap.objs.size f cdv))) (b : Bd (cxOf (L2.CX P w) P w K mg base N_are_ascending "are_ascending" (defScope s4) f cdv A outer s H E) E) :
    PDSs (cxOf (L2.CX P w) P w K mg base N_are_ascending "are_ascending" (defScope s4) f cdv A outer s H E) E (defBody s4) (rd_are_ascending) :=
 (pdss_one (pds_ret (pd_bf (c_all b.cn) boot_all (fx.f 64) (pda_cons (pd_lc (b := false) (own := [("k", 1)]) b.cn (pdi_rng1 (fx.f 73) (pd_op o_sub (pd_bf c_len boot_len (fx.f 70) (pda_cons (pd_var 0) pda_nil)) pd_int)) (blkOk_by (by kernel_rfl)) (by decide) (fun _ _ _ _ _ => (pdg_nm (i := 1) b.cn.blk)) (fun _ _ _ _ _ => pdts_nil) (fun _ _ _ _ _ => (pd_cmp o_lt (pd_ix b.cn.blk (pd_var 0) (pd_var 1)) (pd_ix b.cn.blk (pd_var 0) (pd_op o_add (pd_var 1) pd_int))))) pda_nil))))
theorem dv_owners_in (fx : Fx fa fn exB K mg)  {f : Addr} {cdv : Value} {A : Around} {outer : List Env} {s : Shared} {H : Hp} {E : XK} (hr : Room 0 (A.deeper (envOfC "owners_in" (defScope s7) s.heap.objs.size f cdv))) (b : Bd (cxOf (L2.CX P w) P w K mg base N_owners_in "owners_in" (defScope s7) f cdv A outer s H E) E) :
    PDSs (cxOf (L2.CX P w) P w K mg base N_owners_in "owners_in" (defScope s7) f cdv A outer s H E) E (defBody s7) (rd_owners_in) :=
 (pdss_one (pds_ret (pd_setS b.cn false (fx.f 75) (fx.f 74) (pd_lc (b := false) (own := [("entry", 1)]) b.cn (pdi_seq (pd_var 0)) (blkOk_by (by kernel_rfl)) (by decide) (fun _ _ _ _ _ => (pdg_nm (i := 1) b.cn.blk)) (fun _ _ _ _ _ => (pdts_one (pdt_cmp (o_eq b.cn.blk) (pd_ix b.cn.blk (pd_var 1) pd_int) pd_str))) (fun _ _ _ _ _ => (pd_ix b.cn.blk (pd_var 1) pd_int))))))
theorem dv_places_in (fx : Fx fa fn exB K mg)  {f : Addr} {cdv : Value} {A : Around} {outer : List Env} {s : Shared} {H : Hp} {E : XK} (hr : Room 0 (A.deeper (envOfC "places_in" (defScope s8) s.heap.objs.size f cdv))) (b : Bd (cxOf (L2.CX P w) P w K mg base N_places_in "places_in" (defScope s8) f cdv A outer s H E) E) :
    PDSs (cxOf (L2.CX P w) P w K mg base N_places_in "places_in" (defScope s8) f cdv A outer s H E) E (defBody s8) (rd_places_in) :=
 (pdss_one (pds_ret (pd_setS b.cn false (fx.f 75) (fx.f 74) (pd_op o_add (pd_lc (b := false) (own := [("entry", 1)]) b.cn (pdi_seq (pd_var 0)) (blkOk_by (by kernel_rfl)) (by decide) (fun _ _ _ _ _ => (pdg_nm (i := 1) b.cn.blk)) (fun _ _ _ _ _ => pdts_nil) (fun _ _ _ _ _ => (pd_ix b.cn.blk (pd_var 1) pd_int))) (pd_lc (b := false) (own := [("entry", 1)]) b.cn (pdi_seq (pd_var 0)) (blkOk_by (by kernel_rfl)) (by decide) (fun _ _ _ _ _ => (pdg_nm (i := 1) b.cn.blk)) (fun _ _ _ _ _ => (pdts_one (pdt_cmp (o_eq b.cn.blk) (pd_ix b.cn.blk (pd_var 1) pd_int) pd_str))) (fun _ _ _ _ _ => (pd_ix b.cn.blk (pd_var 1) pd_int)))))))
theorem dv_behind (fx : Fx fa fn exB K mg)  {f : Addr} {cdv : Value} {A : Around} {outer : List Env} {s : Shared} {H : Hp} {E : XK} (hr : Room 0 (A.deeper (envOfC "behind" (defScope s9) s.heap.objs.size f cdv))) (b : Bd (cxOf (L2.CX P w) P w K mg base N_behind "behind" (defScope s9) f cdv A outer s H E) E) :
    PDSs (cxOf (L2.CX P w) P w K mg base N_behind "behind" (defScope s9) f cdv A outer s H E) E (defBody s9) (rd_behind) :=
 (pdss_cons (pds_set (i := 2) b.cn (pd_bt (c_dict b.cn true) boot_dict (fx.f 67) (pda_cons (pd_var 0) pda_nil)))
 (pdss_cons (pds_if (pdt_cmp (o_eq b.cn) (pd_ix b.cn (pd_var 1) pd_int) pd_str) (pdss_one (pds_put b.cn (pd_var 2) (pd_ix b.cn (pd_var 1) pd_int) (pd_op o_sub (pd_get2 b.cn ⟨rfl, rfl, rfl, rfl⟩ (pd_var 2) (pd_ix b.cn (pd_var 1) pd_int) pd_int) (pd_ix b.cn (pd_var 1) pd_int)))) pdss_nil)
 (pdss_cons (pds_put b.cn (pd_var 2) (pd_ix b.cn (pd_var 1) pd_int) (pd_op o_add (pd_get2 b.cn ⟨rfl, rfl, rfl, rfl⟩ (pd_var 2) (pd_ix b.cn (pd_var 1) pd_int) pd_int) (pd_ix b.cn (pd_var 1) pd_int)))
 (pdss_one (pds_ret (pd_var 2))))))
theorem dv_came_of (fx : Fx fa fn exB K mg)  {f : Addr} {cdv : Value} {A : Around} {outer : List Env} {s : Shared} {H : Hp} {E : XK} (hr : Room 0 (A.deeper (envOfC "came_of" (defScope s21) s.heap.objs.size f cdv))) (b : Bd (cxOf (L2.CX P w) P w K mg base N_came_of "came_of" (defScope s21) f cdv A outer s H E) E) :
    PDSs (cxOf (L2.CX P w) P w K mg base N_came_of "came_of" (defScope s21) f cdv A outer s H E) E (defBody s21) (rd_came_of) :=
 (pdss_one (pds_ret (pd_bf (c_sum b.cn) boot_sum (fx.f 77) (pda_cons (pd_lc (b := false) (own := [("entry", 2)]) b.cn (pdi_seq (pd_ix b.cn (pd_var 0) pd_int)) (blkOk_by (by kernel_rfl)) (by decide) (fun _ _ _ _ _ => (pdg_nm (i := 2) b.cn.blk)) (fun _ _ _ _ _ => (pdts_one (pdt_w (pdw_and (pdt_cmp (o_eq b.cn.blk) (pd_ix b.cn.blk (pd_var 2) pd_int) pd_str) (pdw_and1 (pdt_cmp (o_in b.cn.blk false .In rfl) (pd_ix b.cn.blk (pd_var 2) pd_int) (pd_var 1))))))) (fun _ _ _ _ _ => (pd_ix b.cn.blk (pd_var 2) pd_int))) pda_nil))))
theorem dv__law_begun (fx : Fx fa fn exB K mg)  {f : Addr} {cdv : Value} {A : Around} {outer : List Env} {s : Shared} {H : Hp} {E : XK} (hr : Room 0 (A.deeper (envOfC "_law_begun" (defScope s29) s.heap.objs.size f cdv))) (b : Bd (cxOf (L2.CX P w) P w K mg base N__law_begun "_law_begun" (defScope s29) f cdv A outer s H E) E) :
    PDSs (cxOf (L2.CX P w) P w K mg base N__law_begun "_law_begun" (defScope s29) f cdv A outer s H E) E (defBody s29) (rd__law_begun) :=
 (pdss_cons (by first | exact pds_set (i := 1) b.cn (pd_lc (b := true) (own := [("grain", 2)]) b.cn (pdi_seq (pd_var 0)) (blkOk_by (by kernel_rfl)) (by decide) (fun _ _ _ _ _ => (pdg_nm (i := 2) b.cn.blk)) (fun _ _ _ _ _ => (pdts_one (pdt_cmp o_ge (pd_bf c_abs boot_abs (fx.f 63) (pda_cons (pd_var 2) pda_nil)) (pd_op o_pow pd_int pd_int)))) (fun _ _ _ _ _ => (pd_op o_sub (pd_bf c_abs boot_abs (fx.f 63) (pda_cons (pd_var 2) pda_nil)) (pd_op o_pow pd_int pd_int)))) | exact pds_setLc (b := true) (i := 1) (own := [("grain", 2)]) b.cn (pdi_seq (pd_var 0)) (blkOk_by (by kernel_rfl)) (by decide) (fun _ _ _ _ _ => (pdg_nm (i := 2) b.cn.blk)) (fun _ _ _ _ _ => (pdts_one (pdt_cmp o_ge (pd_bf c_abs boot_abs (fx.f 63) (pda_cons (pd_var 2) pda_nil)) (pd_op o_pow pd_int pd_int)))) (fun _ _ _ _ _ => (pd_op o_sub (pd_bf c_abs boot_abs (fx.f 63) (pda_cons (pd_var 2) pda_nil)) (pd_op o_pow pd_int pd_int))) (by rfl))
 (pdss_one (pds_ret (pd_disp (pdd_cons pd_str (pd_var 1) (pdd_cons pd_str (pd_lc (b := false) (own := [("grain", 2)]) b.cn (pdi_seq (pd_var 0)) (blkOk_by (by kernel_rfl)) (by decide) (fun _ _ _ _ _ => (pdg_nm (i := 2) b.cn.blk)) (fun _ _ _ _ _ => pdts_nil) (fun _ _ _ _ _ => (pd_op o_mod (pd_bt c_int boot_int (fx.f 68) (pda_cons (pd_bf c_abs boot_abs (fx.f 63) (pda_cons (pd_var 2) pda_nil)) pda_nil)) pd_int))) (pdd_cons pd_str pd_int (pdd_cons pd_str pd_int pdd_nil))))))))
theorem dv__law_mixed (fx : Fx fa fn exB K mg)  {f : Addr} {cdv : Value} {A : Around} {outer : List Env} {s : Shared} {H : Hp} {E : XK} (hr : Room 0 (A.deeper (envOfC "_law_mixed" (defScope s30) s.heap.objs.size f cdv))) (b : Bd (cxOf (L2.CX P w) P w K mg base N__law_mixed "_law_mixed" (defScope s30) f cdv A outer s H E) E) :
    PDSs (cxOf (L2.CX P w) P w K mg base N__law_mixed "_law_mixed" (defScope s30) f cdv A outer s H E) E (defBody s30) (rd__law_mixed) :=
 (pdss_cons (by first | exact pds_parT (i := 1) (j := 2) b.cn (pda_cons (pd_op o_add (pd_ix b.cn (pd_var 0) pd_str) pd_int) (pda_cons pd_int pda_nil)) | exact (pds_tup (pd_tup (pda_cons (pd_op o_add (pd_ix b.cn (pd_var 0) pd_str) pd_int) (pda_cons pd_int pda_nil))) (pdg_tp b.cn (pdgs_cons (pdg_nm (i := 1) b.cn) (pdgs_cons (pdg_nm (i := 2) b.cn) pdgs_nil)))))
 (pdss_cons (pds_put b.cn (pd_var 0) pd_str (pd_var 1))
 (pdss_cons (pds_for b.cn b.ow (pdi_seq (pd_lst false (pda_cons pd_int (pda_cons pd_int (pda_cons pd_int (pda_cons pd_int pda_nil)))))) (pdg_nm (i := 3) b.cn) (pdss_cons (pds_set (i := 4) b.cn (pd_op o_add (pd_op o_mul pd_int (pd_var 1)) (pd_op o_fdiv (pd_var 3) pd_int)))
 (pdss_cons (pds_for b.cn b.ow (pdi_seq (pd_ix b.cn (pd_var 0) pd_str)) (pdg_nm (i := 5) b.cn) (pdss_one (pds_set (i := 4) b.cn (pd_op o_mod (pd_bt c_int boot_int (fx.f 68) (pda_cons (pd_op o_add (pd_op o_add (pd_op o_mul (pd_var 4) pd_int) (pd_var 5)) (pd_var 1)) pda_nil)) (pd_var 3)))))
 (pdss_one (pds_set (i := 2) b.cn (pd_op o_add (pd_op o_mul (pd_var 2) pd_int) (pd_var 4)))))))
 (pdss_one (pds_ret (pd_var 2))))))
theorem dv__law_behind (fx : Fx fa fn exB K mg)  {f : Addr} {cdv : Value} {A : Around} {outer : List Env} {s : Shared} {H : Hp} {E : XK} (hr : Room 0 (A.deeper (envOfC "_law_behind" (defScope s37) s.heap.objs.size f cdv))) (b : Bd (cxOf (L2.CX P w) P w K mg base N__law_behind "_law_behind" (defScope s37) f cdv A outer s H E) E) :
    PDSs (cxOf (L2.CX P w) P w K mg base N__law_behind "_law_behind" (defScope s37) f cdv A outer s H E) E (defBody s37) (rd__law_behind) :=
 (pdss_cons (pds_set (i := 2) b.cn (pd_bt (c_dict b.cn true) boot_dict (fx.f 67) (pda_cons (pd_var 0) pda_nil)))
 (pdss_cons (pds_if (pdt_cmp (o_eq b.cn) (pd_ix b.cn (pd_var 1) pd_int) pd_str) (pdss_one (pds_put b.cn (pd_var 2) (pd_ix b.cn (pd_var 1) pd_int) (pd_op o_sub (pd_ix b.cn (pd_var 2) (pd_ix b.cn (pd_var 1) pd_int)) (pd_ix b.cn (pd_var 1) pd_int)))) pdss_nil)
 (pdss_cons (pds_put b.cn (pd_var 2) (pd_ix b.cn (pd_var 1) pd_int) (pd_op o_add (pd_get2 b.cn ⟨rfl, rfl, rfl, rfl⟩ (pd_var 2) (pd_ix b.cn (pd_var 1) pd_int) pd_int) (pd_ix b.cn (pd_var 1) pd_int)))
 (pdss_one (pds_ret (pd_var 2))))))
theorem dv__law_owners_of (fx : Fx fa fn exB K mg)  {f : Addr} {cdv : Value} {A : Around} {outer : List Env} {s : Shared} {H : Hp} {E : XK} (hr : Room 0 (A.deeper (envOfC "_law_owners_of" (defScope s40) s.heap.objs.size f cdv))) (b : Bd (cxOf (L2.CX P w) P w K mg base N__law_owners_of "_law_owners_of" (defScope s40) f cdv A outer s H E) E) :
    PDSs (cxOf (L2.CX P w) P w K mg base N__law_owners_of "_law_owners_of" (defScope s40) f cdv A outer s H E) E (defBody s40) (rd__law_owners_of) :=
 (pdss_one (pds_ret (pd_bt c_tuple boot_tuple (fx.f 78) (pda_cons (pd_setS b.cn false (fx.f 75) (fx.f 74) (pd_lc (b := false) (own := [("entry", 1)]) b.cn (pdi_seq (pd_ix b.cn (pd_var 0) pd_int)) (blkOk_by (by kernel_rfl)) (by decide) (fun _ _ _ _ _ => (pdg_nm (i := 1) b.cn.blk)) (fun _ _ _ _ _ => (pdts_one (pdt_cmp (o_eq b.cn.blk) (pd_ix b.cn.blk (pd_var 1) pd_int) pd_str))) (fun _ _ _ _ _ => (pd_ix b.cn.blk (pd_var 1) pd_int)))) pda_nil))))
theorem dv__law_places_of (fx : Fx fa fn exB K mg)  {f : Addr} {cdv : Value} {A : Around} {outer : List Env} {s : Shared} {H : Hp} {E : XK} (hr : Room 0 (A.deeper (envOfC "_law_places_of" (defScope s41) s.heap.objs.size f cdv))) (b : Bd (cxOf (L2.CX P w) P w K mg base N__law_places_of "_law_places_of" (defScope s41) f cdv A outer s H E) E) :
    PDSs (cxOf (L2.CX P w) P w K mg base N__law_places_of "_law_places_of" (defScope s41) f cdv A outer s H E) E (defBody s41) (rd__law_places_of) :=
 (pdss_one (pds_ret (pd_bt c_tuple boot_tuple (fx.f 78) (pda_cons (pd_setS b.cn false (fx.f 75) (fx.f 74) (pd_op o_add (pd_lc (b := false) (own := [("entry", 1)]) b.cn (pdi_seq (pd_ix b.cn (pd_var 0) pd_int)) (blkOk_by (by kernel_rfl)) (by decide) (fun _ _ _ _ _ => (pdg_nm (i := 1) b.cn.blk)) (fun _ _ _ _ _ => pdts_nil) (fun _ _ _ _ _ => (pd_ix b.cn.blk (pd_var 1) pd_int))) (pd_lc (b := false) (own := [("entry", 1)]) b.cn (pdi_seq (pd_ix b.cn (pd_var 0) pd_int)) (blkOk_by (by kernel_rfl)) (by decide) (fun _ _ _ _ _ => (pdg_nm (i := 1) b.cn.blk)) (fun _ _ _ _ _ => (pdts_one (pdt_cmp (o_eq b.cn.blk) (pd_ix b.cn.blk (pd_var 1) pd_int) pd_str))) (fun _ _ _ _ _ => (pd_ix b.cn.blk (pd_var 1) pd_int))))) pda_nil))))
theorem dv__law_came (fx : Fx fa fn exB K mg)  {f : Addr} {cdv : Value} {A : Around} {outer : List Env} {s : Shared} {H : Hp} {E : XK} (hr : Room 0 (A.deeper (envOfC "_law_came" (defScope s46) s.heap.objs.size f cdv))) (b : Bd (cxOf (L2.CX P w) P w K mg base N__law_came "_law_came" (defScope s46) f cdv A outer s H E) E) :
    PDSs (cxOf (L2.CX P w) P w K mg base N__law_came "_law_came" (defScope s46) f cdv A outer s H E) E (defBody s46) (rd__law_came) :=
 (pdss_one (pds_ret (pd_bf (c_sum b.cn) boot_sum (fx.f 77) (pda_cons (pd_lc (b := false) (own := [("entry", 2)]) b.cn (pdi_seq (pd_ix b.cn (pd_var 0) pd_int)) (blkOk_by (by kernel_rfl)) (by decide) (fun _ _ _ _ _ => (pdg_nm (i := 2) b.cn.blk)) (fun _ _ _ _ _ => (pdts_one (pdt_w (pdw_and (pdt_cmp (o_eq b.cn.blk) (pd_ix b.cn.blk (pd_var 2) pd_int) pd_str) (pdw_and1 (pdt_cmp (o_in b.cn.blk false .In rfl) (pd_ix b.cn.blk (pd_var 2) pd_int) (pd_var 1))))))) (fun _ _ _ _ _ => (pd_ix b.cn.blk (pd_var 2) pd_int))) pda_nil))))
theorem dv__law_is_ledger (fx : Fx fa fn exB K mg)  {f : Addr} {cdv : Value} {A : Around} {outer : List Env} {s : Shared} {H : Hp} {E : XK} (hr : Room 0 (A.deeper (envOfC "_law_is_ledger" (defScope s47) s.heap.objs.size f cdv))) (b : Bd (cxOf (L2.CX P w) P w K mg base N__law_is_ledger "_law_is_ledger" (defScope s47) f cdv A outer s H E) E) :
    PDSs (cxOf (L2.CX P w) P w K mg base N__law_is_ledger "_law_is_ledger" (defScope s47) f cdv A outer s H E) E (defBody s47) (rd__law_is_ledger) :=
 (pdss_cons (pds_set (i := 1) b.cn (pd_setS b.cn false (fx.f 75) (fx.f 74) (pd_lc (b := false) (own := [("entry", 2)]) b.cn (pdi_seq (pd_var 0)) (blkOk_by (by kernel_rfl)) (by decide) (fun _ _ _ _ _ => (pdg_nm (i := 2) b.cn.blk)) (fun _ _ _ _ _ => (pdts_one (pdt_cmp (o_eq b.cn.blk) (pd_ix b.cn.blk (pd_var 2) pd_int) pd_str))) (fun _ _ _ _ _ => (pd_ix b.cn.blk (pd_var 2) pd_int)))))
 (pdss_cons (pds_set (i := 3) b.cn (pd_setS b.cn false (fx.f 75) (fx.f 74) (pd_op o_add (pd_lc (b := false) (own := [("entry", 2)]) b.cn (pdi_seq (pd_var 0)) (blkOk_by (by kernel_rfl)) (by decide) (fun _ _ _ _ _ => (pdg_nm (i := 2) b.cn.blk)) (fun _ _ _ _ _ => pdts_nil) (fun _ _ _ _ _ => (pd_ix b.cn.blk (pd_var 2) pd_int))) (pd_lc (b := false) (own := [("entry", 2)]) b.cn (pdi_seq (pd_var 0)) (blkOk_by (by kernel_rfl)) (by decide) (fun _ _ _ _ _ => (pdg_nm (i := 2) b.cn.blk)) (fun _ _ _ _ _ => (pdts_one (pdt_cmp (o_eq b.cn.blk) (pd_ix b.cn.blk (pd_var 2) pd_int) pd_str))) (fun _ _ _ _ _ => (pd_ix b.cn.blk (pd_var 2) pd_int))))))
 (pdss_cons (pds_if (pdt_w (pdw_or (pdt_cmp o_gt (pd_bf c_len boot_len (fx.f 70) (pda_cons (pd_var 0) pda_nil)) pd_int) (pdw_or (pdt_cmp o_gt (pd_bf c_len boot_len (fx.f 70) (pda_cons (pd_var 1) pda_nil)) pd_int) (pdw_or (pdt_cmp o_gt (pd_bf c_len boot_len (fx.f 70) (pda_cons (pd_var 3) pda_nil)) pd_int) (pdw_or1 (pdt_cmp (o_ne b.cn) (pd_lc (b := false) (own := [("name", 4)]) b.cn (pdi_seq (pd_var 1)) (blkOk_by (by kernel_rfl)) (by decide) (fun _ _ _ _ _ => (pdg_nm (i := 4) b.cn.blk)) (fun _ _ _ _ _ => (pdts_one (pdt_cmp (o_in b.cn.blk false .In rfl) (pd_var 4) (pd_var 3)))) (fun _ _ _ _ _ => (pd_var 4))) (pd_lst false pda_nil))))))) (pdss_one (pds_ret pd_bl)) pdss_nil)
 (pdss_cons (pds_set (i := 5) b.cn (pd_bt (c_dict b.cn true) boot_dict (fx.f 67) (pda_cons (pd_lc (b := false) (own := [("place", 6)]) b.cn (pdi_seq (pd_var 3)) (blkOk_by (by kernel_rfl)) (by decide) (fun _ _ _ _ _ => (pdg_nm (i := 6) b.cn.blk)) (fun _ _ _ _ _ => pdts_nil) (fun _ _ _ _ _ => (pd_tup (pda_cons (pd_var 6) (pda_cons pd_int pda_nil))))) pda_nil)))
 (pdss_cons (pds_for b.cn b.ow (pdi_seq (pd_var 0)) (pdg_nm (i := 2) b.cn) (pdss_cons (pds_if (pdt_w (pdw_or (pdt_cmp (o_eq b.cn) (pd_ix b.cn (pd_var 2) pd_int) (pd_ix b.cn (pd_var 2) pd_int)) (pdw_or1 (pdt_not (pdt_chain o_le o_le pd_int (pd_ix b.cn (pd_var 2) pd_int) (pd_op o_pow pd_int pd_int)))))) (pdss_one (pds_ret pd_bl)) pdss_nil)
 (pdss_cons (pds_if (pdt_cmp (o_eq b.cn) (pd_ix b.cn (pd_var 2) pd_int) pd_str) (pdss_cons (pds_put b.cn (pd_var 5) (pd_ix b.cn (pd_var 2) pd_int) (pd_op o_sub (pd_ix b.cn (pd_var 5) (pd_ix b.cn (pd_var 2) pd_int)) (pd_ix b.cn (pd_var 2) pd_int)))
 (pdss_one (pds_if (pdt_cmp o_lt (pd_ix b.cn (pd_var 5) (pd_ix b.cn (pd_var 2) pd_int)) pd_int) (pdss_one (pds_ret pd_bl)) pdss_nil))) pdss_nil)
 (pdss_one (pds_put b.cn (pd_var 5) (pd_ix b.cn (pd_var 2) pd_int) (pd_op o_add (pd_ix b.cn (pd_var 5) (pd_ix b.cn (pd_var 2) pd_int)) (pd_ix b.cn (pd_var 2) pd_int)))))))
 (pdss_one (pds_ret pd_bl)))))))
theorem dv_is_lot_of (fx : Fx fa fn exB K mg) (h_is_word : Has P w K mg base 1 "is_word" s2 ps_is_word (sp_is_word)) (h_are_ascending : Has P w K mg base 1 "are_ascending" s4 ps_are_ascending (sp_are_ascending)) {f : Addr} {cdv : Value} {A : Around} {outer : List Env} {s : Shared} {H : Hp} {E : XK} (hr : Room 1 (A.deeper (envOfC "is_lot_of" (defScope s5) s.heap.objs.size f cdv))) (b : Bd (cxOf (L2.CX P w) P w K mg base N_is_lot_of "is_lot_of" (defScope s5) f cdv A outer s H E) E) :
    PDSs (cxOf (L2.CX P w) P w K mg base N_is_lot_of "is_lot_of" (defScope s5) f cdv A outer s H E) E (defBody s5) (rd_is_lot_of) :=
 (pdss_cons (pds_if (pdt_w (pdw_or (pdt_not (pdt_val (pd_bf c_isi boot_isinstance (fx.f 69) (pda_cons (pd_var 0) (pda_cons (pd_gty (fx.f 78) boot_tuple) pda_nil))))) (pdw_or (pdt_cmp o_gt (pd_bf c_len boot_len (fx.f 70) (pda_cons (pd_var 0) pda_nil)) (pd_bf c_len boot_len (fx.f 70) (pda_cons (pd_var 1) pda_nil))) (pdw_or1 (pdt_not (pdt_val (pd_bf (c_all b.cn) boot_all (fx.f 64) (pda_cons (pd_lc (b := false) (own := [("name", 2)]) b.cn (pdi_seq (pd_var 0)) (blkOk_by (by kernel_rfl)) (by decide) (fun _ _ _ _ _ => (pdg_nm (i := 2) b.cn.blk)) (fun _ _ _ _ _ => pdts_nil) (fun _ _ _ _ _ => (pd_callH b.cn.blk h_is_word bp_is_word hr (by decide) (pda_cons (pd_var 2) (pda_cons (pd_var 1) pda_nil))))) pda_nil)))))))) (pdss_one (pds_ret pd_bl)) pdss_nil)
 (pdss_one (pds_ret (pd_callH b.cn h_are_ascending bp_are_ascending hr (by decide) (pda_cons (pd_var 0) pda_nil)))))
theorem dv_is_entry (fx : Fx fa fn exB K mg) (h_is_row : Has P w K mg base 1 "is_row" s3 ps_is_row (sp_is_row)) (h_is_word : Has P w K mg base 1 "is_word" s2 ps_is_word (sp_is_word)) (h_is_name : Has P w K mg base 1 "is_name" s0 ps_is_name (sp_is_name)) (h_is_number : Has P w K mg base 1 "is_number" s1 ps_is_number (sp_is_number)) {f : Addr} {cdv : Value} {A : Around} {outer : List Env} {s : Shared} {H : Hp} {E : XK} (hr : Room 1 (A.deeper (envOfC "is_entry" (defScope s6) s.heap.objs.size f cdv))) (b : Bd (cxOf (L2.CX P w) P w K mg base N_is_entry "is_entry" (defScope s6) f cdv A outer s H E) E) :
    PDSs (cxOf (L2.CX P w) P w K mg base N_is_entry "is_entry" (defScope s6) f cdv A outer s H E) E (defBody s6) (rd_is_entry) :=
 (pdss_cons (pds_if (pdt_w (pdw_or (pdt_not (pdt_val (pd_callH b.cn h_is_row bp_is_row hr (by decide) (pda_cons (pd_var 0) (pda_cons pd_int pda_nil))))) (pdw_or1 (pdt_not (pdt_val (pd_callH b.cn h_is_word bp_is_word hr (by decide) (pda_cons (pd_ix b.cn (pd_var 0) pd_int) (pda_cons (pd_tup (pda_cons pd_str (pda_cons pd_str pda_nil))) pda_nil)))))))) (pdss_one (pds_ret pd_bl)) pdss_nil)
 (pdss_cons (pds_if (pdt_w (pdw_or (pdt_not (pdt_val (pd_callH b.cn h_is_name bp_is_name hr (by decide) (pda_cons (pd_ix b.cn (pd_var 0) pd_int) pda_nil)))) (pdw_or (pdt_not (pdt_val (pd_callH b.cn h_is_name bp_is_name hr (by decide) (pda_cons (pd_ix b.cn (pd_var 0) pd_int) pda_nil)))) (pdw_or1 (pdt_cmp (o_eq b.cn) (pd_ix b.cn (pd_var 0) pd_int) (pd_ix b.cn (pd_var 0) pd_int)))))) (pdss_one (pds_ret pd_bl)) pdss_nil)
 (pdss_one (pds_ret (pd_callH b.cn h_is_number bp_is_number hr (by decide) (pda_cons (pd_ix b.cn (pd_var 0) pd_int) (pda_cons pd_int (pda_cons (pd_gint (fx.n 83)) pda_nil))))))))
theorem dv_balances_of (fx : Fx fa fn exB K mg) (h_places_in : Has P w K mg base 1 "places_in" s8 ps_places_in (sp_places_in)) (h_behind : Has P w K mg base 1 "behind" s9 ps_behind (sp_behind)) {f : Addr} {cdv : Value} {A : Around} {outer : List Env} {s : Shared} {H : Hp} {E : XK} (hr : Room 1 (A.deeper (envOfC "balances_of" (defScope s10) s.heap.objs.size f cdv))) (b : Bd (cxOf (L2.CX P w) P w K mg base N_balances_of "balances_of" (defScope s10) f cdv A outer s H E) E) :
    PDSs (cxOf (L2.CX P w) P w K mg base N_balances_of "balances_of" (defScope s10) f cdv A outer s H E) E (defBody s10) (rd_balances_of) :=
 (pdss_cons (pds_set (i := 1) b.cn (pd_lst true (pda_cons (pd_dc (b := false) (own := [("place", 2)]) b.cn (pdi_seq (pd_callH b.cn h_places_in bp_places_in hr (by decide) (pda_cons (pd_var 0) pda_nil))) (blkOk_by (by kernel_rfl)) (by decide) (fun _ _ _ _ _ => (pdg_nm (i := 2) b.cn.blk)) (fun _ _ _ _ _ => pdts_nil) (fun _ _ _ _ _ => (pd_var 2)) (fun _ _ _ _ _ => pd_int)) pda_nil)))
 (pdss_cons (pds_for b.cn b.ow (pdi_seq (pd_var 0)) (pdg_nm (i := 3) b.cn) (pdss_one (pds_expr (pd_bm PySem.F.slot_list_append PySem.F.type_list_append m_app (pd_var 1) (pda_cons (pd_callH b.cn h_behind bp_behind hr (by decide) (pda_cons (pd_ix b.cn (pd_var 1) (pd_un u_neg pd_int)) (pda_cons (pd_var 3) pda_nil))) pda_nil)))))
 (pdss_one (pds_ret (pd_var 1)))))
theorem dv_owners_of (fx : Fx fa fn exB K mg) (h_owners_in : Has P w K mg base 1 "owners_in" s7 ps_owners_in (sp_owners_in)) {f : Addr} {cdv : Value} {A : Around} {outer : List Env} {s : Shared} {H : Hp} {E : XK} (hr : Room 1 (A.deeper (envOfC "owners_of" (defScope s13) s.heap.objs.size f cdv))) (b : Bd (cxOf (L2.CX P w) P w K mg base N_owners_of "owners_of" (defScope s13) f cdv A outer s H E) E) :
    PDSs (cxOf (L2.CX P w) P w K mg base N_owners_of "owners_of" (defScope s13) f cdv A outer s H E) E (defBody s13) (rd_owners_of) :=
 (pdss_one (pds_ret (pd_bt c_tuple boot_tuple (fx.f 78) (pda_cons (pd_callH b.cn h_owners_in bp_owners_in hr (by decide) (pda_cons (pd_ix b.cn (pd_var 0) pd_int) pda_nil)) pda_nil))))
theorem dv_places_of (fx : Fx fa fn exB K mg) (h_places_in : Has P w K mg base 1 "places_in" s8 ps_places_in (sp_places_in)) {f : Addr} {cdv : Value} {A : Around} {outer : List Env} {s : Shared} {H : Hp} {E : XK} (hr : Room 1 (A.deeper (envOfC "places_of" (defScope s14) s.heap.objs.size f cdv))) (b : Bd (cxOf (L2.CX P w) P w K mg base N_places_of "places_of" (defScope s14) f cdv A outer s H E) E) :
    PDSs (cxOf (L2.CX P w) P w K mg base N_places_of "places_of" (defScope s14) f cdv A outer s H E) E (defBody s14) (rd_places_of) :=
 (pdss_one (pds_ret (pd_bt c_tuple boot_tuple (fx.f 78) (pda_cons (pd_callH b.cn h_places_in bp_places_in hr (by decide) (pda_cons (pd_ix b.cn (pd_var 0) pd_int) pda_nil)) pda_nil))))
theorem dv_check_moment (fx : Fx fa fn exB K mg) (h_is_number : Has P w K mg base 1 "is_number" s1 ps_is_number (sp_is_number)) {f : Addr} {cdv : Value} {A : Around} {outer : List Env} {s : Shared} {H : Hp} {E : XK} (hr : Room 1 (A.deeper (envOfC "check_moment" (defScope s18) s.heap.objs.size f cdv))) (b : Bd (cxOf (L2.CX P w) P w K mg base N_check_moment "check_moment" (defScope s18) f cdv A outer s H E) E) :
    PDSs (cxOf (L2.CX P w) P w K mg base N_check_moment "check_moment" (defScope s18) f cdv A outer s H E) E (defBody s18) (rd_check_moment (He.ga K)) :=
 (pdss_one (pds_if (pdt_not (pdt_val (pd_callH b.cn h_is_number bp_is_number hr (by decide) (pda_cons (pd_var 1) (pda_cons pd_int (pda_cons (pd_bf c_len boot_len (fx.f 70) (pda_cons (pd_ix b.cn (pd_var 0) pd_int) pda_nil)) pda_nil)))))) (pdss_one (pds_raise b (fx.x 59) (fx.g 53))) pdss_nil))
theorem dv__law_take (fx : Fx fa fn exB K mg) (h__law_mixed : Has P w K mg base 1 "_law_mixed" s30 ps__law_mixed (sp__law_mixed)) {f : Addr} {cdv : Value} {A : Around} {outer : List Env} {s : Shared} {H : Hp} {E : XK} (hr : Room 1 (A.deeper (envOfC "_law_take" (defScope s31) s.heap.objs.size f cdv))) (b : Bd (cxOf (L2.CX P w) P w K mg base N__law_take "_law_take" (defScope s31) f cdv A outer s H E) E) :
    PDSs (cxOf (L2.CX P w) P w K mg base N__law_take "_law_take" (defScope s31) f cdv A outer s H E) E (defBody s31) (rd__law_take) :=
 (pdss_cons (pds_if (pdt_cmp (o_eq b.cn) (pd_ix b.cn (pd_var 0) pd_str) pd_int) (pdss_one (pds_put b.cn (pd_var 0) pd_str (pd_ife (pdt_cmp (o_ne b.cn) (pd_ix b.cn (pd_var 0) pd_str) (pd_lst false pda_nil)) (pd_bm PySem.F.slot_list_pop PySem.F.type_list_pop m_pop (pd_ix b.cn (pd_var 0) pd_str) (pda_cons pd_int pda_nil)) (pd_callH b.cn h__law_mixed bp__law_mixed hr (by decide) (pda_cons (pd_var 0) pda_nil))))) pdss_nil)
 (pdss_cons (pds_set (i := 2) b.cn (pd_op o_mod (pd_bt c_int boot_int (fx.f 68) (pda_cons (pd_ix b.cn (pd_var 0) pd_str) pda_nil)) (pd_var 1)))
 (pdss_cons (pds_put b.cn (pd_var 0) pd_str (pd_op o_fdiv (pd_bt c_int boot_int (fx.f 68) (pda_cons (pd_ix b.cn (pd_var 0) pd_str) pda_nil)) (pd_var 1)))
 (pdss_one (pds_ret (pd_var 2))))))
theorem dv__law_balances (fx : Fx fa fn exB K mg) (h__law_places_of : Has P w K mg base 1 "_law_places_of" s41 ps__law_places_of (sp__law_places_of)) (h__law_behind : Has P w K mg base 1 "_law_behind" s37 ps__law_behind (sp__law_behind)) {f : Addr} {cdv : Value} {A : Around} {outer : List Env} {s : Shared} {H : Hp} {E : XK} (hr : Room 1 (A.deeper (envOfC "_law_balances" (defScope s42) s.heap.objs.size f cdv))) (b : Bd (cxOf (L2.CX P w) P w K mg base N__law_balances "_law_balances" (defScope s42) f cdv A outer s H E) E) :
    PDSs (cxOf (L2.CX P w) P w K mg base N__law_balances "_law_balances" (defScope s42) f cdv A outer s H E) E (defBody s42) (rd__law_balances) :=
 (pdss_cons (pds_set (i := 1) b.cn (pd_lst true (pda_cons (pd_bt (c_dict b.cn false) boot_dict (fx.f 67) (pda_cons (pd_lc (b := false) (own := [("place", 2)]) b.cn (pdi_seq (pd_callH b.cn h__law_places_of bp__law_places_of hr (by decide) (pda_cons (pd_var 0) pda_nil))) (blkOk_by (by kernel_rfl)) (by decide) (fun _ _ _ _ _ => (pdg_nm (i := 2) b.cn.blk)) (fun _ _ _ _ _ => pdts_nil) (fun _ _ _ _ _ => (pd_tup (pda_cons (pd_var 2) (pda_cons pd_int pda_nil))))) pda_nil)) pda_nil)))
 (pdss_cons (pds_for b.cn b.ow (pdi_seq (pd_ix b.cn (pd_var 0) pd_int)) (pdg_nm (i := 3) b.cn) (pdss_one (pds_expr (pd_bm PySem.F.slot_list_append PySem.F.type_list_append m_app (pd_var 1) (pda_cons (pd_callH b.cn h__law_behind bp__law_behind hr (by decide) (pda_cons (pd_ix b.cn (pd_var 1) (pd_un u_neg pd_int)) (pda_cons (pd_var 3) pda_nil))) pda_nil)))))
 (pdss_one (pds_ret (pd_var 1)))))
theorem dv__law_others (fx : Fx fa fn exB K mg) (h__law_owners_of : Has P w K mg base 1 "_law_owners_of" s40 ps__law_owners_of (sp__law_owners_of)) {f : Addr} {cdv : Value} {A : Around} {outer : List Env} {s : Shared} {H : Hp} {E : XK} (hr : Room 1 (A.deeper (envOfC "_law_others" (defScope s44) s.heap.objs.size f cdv))) (b : Bd (cxOf (L2.CX P w) P w K mg base N__law_others "_law_others" (defScope s44) f cdv A outer s H E) E) :
    PDSs (cxOf (L2.CX P w) P w K mg base N__law_others "_law_others" (defScope s44) f cdv A outer s H E) E (defBody s44) (rd__law_others) :=
 (pdss_one (pds_ret (pd_bt c_tuple boot_tuple (fx.f 78) (pda_cons (pd_lc (b := false) (own := [("owner", 2)]) b.cn (pdi_seq (pd_callH b.cn h__law_owners_of bp__law_owners_of hr (by decide) (pda_cons (pd_var 0) pda_nil))) (blkOk_by (by kernel_rfl)) (by decide) (fun _ _ _ _ _ => (pdg_nm (i := 2) b.cn.blk)) (fun _ _ _ _ _ => (pdts_one (pdt_cmp (o_in b.cn.blk true .NotIn rfl) (pd_var 2) (pd_var 1)))) (fun _ _ _ _ _ => (pd_var 2))) pda_nil))))
theorem dv_is_ledger (fx : Fx fa fn exB K mg) (h_is_row : Has P w K mg base 1 "is_row" s3 ps_is_row (sp_is_row)) (h_is_word : Has P w K mg base 1 "is_word" s2 ps_is_word (sp_is_word)) (h_is_entry : Has P w K mg base 2 "is_entry" s6 ps_is_entry (sp_is_entry)) (h_owners_in : Has P w K mg base 1 "owners_in" s7 ps_owners_in (sp_owners_in)) (h_places_in : Has P w K mg base 1 "places_in" s8 ps_places_in (sp_places_in)) (h_balances_of : Has P w K mg base 2 "balances_of" s10 ps_balances_of (sp_balances_of)) {f : Addr} {cdv : Value} {A : Around} {outer : List Env} {s : Shared} {H : Hp} {E : XK} (hr : Room 2 (A.deeper (envOfC "is_ledger" (defScope s11) s.heap.objs.size f cdv))) (b : Bd (cxOf (L2.CX P w) P w K mg base N_is_ledger "is_ledger" (defScope s11) f cdv A outer s H E) E) :
    PDSs (cxOf (L2.CX P w) P w K mg base N_is_ledger "is_ledger" (defScope s11) f cdv A outer s H E) E (defBody s11) (rd_is_ledger) :=
 (pdss_cons (pds_if (pdt_w (pdw_or (pdt_not (pdt_val (pd_callH b.cn h_is_row bp_is_row hr (by decide) (pda_cons (pd_var 0) (pda_cons pd_int pda_nil))))) (pdw_or1 (pdt_not (pdt_val (pd_callH b.cn h_is_word bp_is_word hr (by decide) (pda_cons (pd_ix b.cn (pd_var 0) pd_int) (pda_cons (pd_tup (pda_cons pd_str pda_nil)) pda_nil)))))))) (pdss_one (pds_ret pd_bl)) pdss_nil)
 (pdss_cons (pds_set (i := 1) b.cn (pd_ix b.cn (pd_var 0) pd_int))
 (pdss_cons (pds_if (pdt_w (pdw_or (pdt_not (pdt_val (pd_bf c_isi boot_isinstance (fx.f 69) (pda_cons (pd_var 1) (pda_cons (pd_gty (fx.f 78) boot_tuple) pda_nil))))) (pdw_or (pdt_cmp o_gt (pd_bf c_len boot_len (fx.f 70) (pda_cons (pd_var 1) pda_nil)) (pd_gint (fx.n 81))) (pdw_or1 (pdt_not (pdt_val (pd_bf (c_all b.cn) boot_all (fx.f 64) (pda_cons (pd_lc (b := false) (own := [("entry", 2)]) b.cn (pdi_seq (pd_var 1)) (blkOk_by (by kernel_rfl)) (by decide) (fun _ _ _ _ _ => (pdg_nm (i := 2) b.cn.blk)) (fun _ _ _ _ _ => pdts_nil) (fun _ _ _ _ _ => (pd_callH b.cn.blk h_is_entry bp_is_entry hr (by decide) (pda_cons (pd_var 2) pda_nil)))) pda_nil)))))))) (pdss_one (pds_ret pd_bl)) pdss_nil)
 (pdss_cons (by first | exact pds_parT (i := 3) (j := 4) b.cn (pda_cons (pd_callH b.cn h_owners_in bp_owners_in hr (by decide) (pda_cons (pd_var 1) pda_nil)) (pda_cons (pd_callH b.cn h_places_in bp_places_in hr (by decide) (pda_cons (pd_var 1) pda_nil)) pda_nil)) | exact (pds_tup (pd_tup (pda_cons (pd_callH b.cn h_owners_in bp_owners_in hr (by decide) (pda_cons (pd_var 1) pda_nil)) (pda_cons (pd_callH b.cn h_places_in bp_places_in hr (by decide) (pda_cons (pd_var 1) pda_nil)) pda_nil))) (pdg_tp b.cn (pdgs_cons (pdg_nm (i := 3) b.cn) (pdgs_cons (pdg_nm (i := 4) b.cn) pdgs_nil)))))
 (pdss_cons (pds_if (pdt_w (pdw_or (pdt_cmp o_gt (pd_bf c_len boot_len (fx.f 70) (pda_cons (pd_var 3) pda_nil)) (pd_gint (fx.n 82))) (pdw_or (pdt_cmp o_gt (pd_bf c_len boot_len (fx.f 70) (pda_cons (pd_var 4) pda_nil)) (pd_gint (fx.n 82))) (pdw_or1 (pdt_val (pd_bf (c_any b.cn) boot_any (fx.f 65) (pda_cons (pd_lc (b := false) (own := [("name", 5)]) b.cn (pdi_seq (pd_var 3)) (blkOk_by (by kernel_rfl)) (by decide) (fun _ _ _ _ _ => (pdg_nm (i := 5) b.cn.blk)) (fun _ _ _ _ _ => pdts_nil) (fun _ _ _ _ _ => (pd_cmp (o_in b.cn.blk false .In rfl) (pd_var 5) (pd_var 4)))) pda_nil))))))) (pdss_one (pds_ret pd_bl)) pdss_nil)
 (pdss_one (pds_ret (pd_bf (c_all b.cn) boot_all (fx.f 64) (pda_cons (pd_lc (b := false) (own := [("balances", 6)]) b.cn (pdi_seq (pd_callH b.cn h_balances_of bp_balances_of hr (by decide) (pda_cons (pd_var 1) pda_nil))) (blkOk_by (by kernel_rfl)) (by decide) (fun _ _ _ _ _ => (pdg_nm (i := 6) b.cn.blk)) (fun _ _ _ _ _ => (pdts_one (pdt_cmp (o_ne b.cn.blk) (pd_var 4) (pd_lst false pda_nil)))) (fun _ _ _ _ _ => (pd_cmp o_ge (pd_minV b.cn.blk (fx.f 72) (pd_var 6)) pd_int))) pda_nil)))))))))
theorem dv_check_some (fx : Fx fa fn exB K mg) (h_is_lot_of : Has P w K mg base 2 "is_lot_of" s5 ps_is_lot_of (sp_is_lot_of)) (h_owners_of : Has P w K mg base 2 "owners_of" s13 ps_owners_of (sp_owners_of)) {f : Addr} {cdv : Value} {A : Around} {outer : List Env} {s : Shared} {H : Hp} {E : XK} (hr : Room 2 (A.deeper (envOfC "check_some" (defScope s15) s.heap.objs.size f cdv))) (b : Bd (cxOf (L2.CX P w) P w K mg base N_check_some "check_some" (defScope s15) f cdv A outer s H E) E) :
    PDSs (cxOf (L2.CX P w) P w K mg base N_check_some "check_some" (defScope s15) f cdv A outer s H E) E (defBody s15) (rd_check_some (He.ga K)) :=
 (pdss_one (pds_if (pdt_not (pdt_val (pd_callH b.cn h_is_lot_of bp_is_lot_of hr (by decide) (pda_cons (pd_var 1) (pda_cons (pd_callH b.cn h_owners_of bp_owners_of hr (by decide) (pda_cons (pd_var 0) pda_nil)) pda_nil))))) (pdss_one (pds_raise b (fx.x 61) (fx.g 55))) pdss_nil))
theorem dv_check_where (fx : Fx fa fn exB K mg) (h_is_lot_of : Has P w K mg base 2 "is_lot_of" s5 ps_is_lot_of (sp_is_lot_of)) (h_places_of : Has P w K mg base 2 "places_of" s14 ps_places_of (sp_places_of)) {f : Addr} {cdv : Value} {A : Around} {outer : List Env} {s : Shared} {H : Hp} {E : XK} (hr : Room 2 (A.deeper (envOfC "check_where" (defScope s16) s.heap.objs.size f cdv))) (b : Bd (cxOf (L2.CX P w) P w K mg base N_check_where "check_where" (defScope s16) f cdv A outer s H E) E) :
    PDSs (cxOf (L2.CX P w) P w K mg base N_check_where "check_where" (defScope s16) f cdv A outer s H E) E (defBody s16) (rd_check_where (He.ga K)) :=
 (pdss_one (pds_if (pdt_not (pdt_val (pd_callH b.cn h_is_lot_of bp_is_lot_of hr (by decide) (pda_cons (pd_var 1) (pda_cons (pd_callH b.cn h_places_of bp_places_of hr (by decide) (pda_cons (pd_var 0) pda_nil)) pda_nil))))) (pdss_one (pds_raise b (fx.x 62) (fx.g 56))) pdss_nil))
theorem dv_check_place (fx : Fx fa fn exB K mg) (h_is_word : Has P w K mg base 1 "is_word" s2 ps_is_word (sp_is_word)) (h_places_of : Has P w K mg base 2 "places_of" s14 ps_places_of (sp_places_of)) {f : Addr} {cdv : Value} {A : Around} {outer : List Env} {s : Shared} {H : Hp} {E : XK} (hr : Room 2 (A.deeper (envOfC "check_place" (defScope s17) s.heap.objs.size f cdv))) (b : Bd (cxOf (L2.CX P w) P w K mg base N_check_place "check_place" (defScope s17) f cdv A outer s H E) E) :
    PDSs (cxOf (L2.CX P w) P w K mg base N_check_place "check_place" (defScope s17) f cdv A outer s H E) E (defBody s17) (rd_check_place (He.ga K)) :=
 (pdss_one (pds_if (pdt_not (pdt_val (pd_callH b.cn h_is_word bp_is_word hr (by decide) (pda_cons (pd_var 1) (pda_cons (pd_callH b.cn h_places_of bp_places_of hr (by decide) (pda_cons (pd_var 0) pda_nil)) pda_nil))))) (pdss_one (pds_raise b (fx.x 60) (fx.g 54))) pdss_nil))
theorem dv_others_of (fx : Fx fa fn exB K mg) (h_owners_of : Has P w K mg base 2 "owners_of" s13 ps_owners_of (sp_owners_of)) {f : Addr} {cdv : Value} {A : Around} {outer : List Env} {s : Shared} {H : Hp} {E : XK} (hr : Room 2 (A.deeper (envOfC "others_of" (defScope s19) s.heap.objs.size f cdv))) (b : Bd (cxOf (L2.CX P w) P w K mg base N_others_of "others_of" (defScope s19) f cdv A outer s H E) E) :
    PDSs (cxOf (L2.CX P w) P w K mg base N_others_of "others_of" (defScope s19) f cdv A outer s H E) E (defBody s19) (rd_others_of) :=
 (pdss_one (pds_ret (pd_bt c_tuple boot_tuple (fx.f 78) (pda_cons (pd_lc (b := false) (own := [("owner", 2)]) b.cn (pdi_seq (pd_callH b.cn h_owners_of bp_owners_of hr (by decide) (pda_cons (pd_var 0) pda_nil))) (blkOk_by (by kernel_rfl)) (by decide) (fun _ _ _ _ _ => (pdg_nm (i := 2) b.cn.blk)) (fun _ _ _ _ _ => (pdts_one (pdt_cmp (o_in b.cn.blk true .NotIn rfl) (pd_var 2) (pd_var 1)))) (fun _ _ _ _ _ => (pd_var 2))) pda_nil))))
theorem dv_lying_at_end (fx : Fx fa fn exB K mg) (h_balances_of : Has P w K mg base 2 "balances_of" s10 ps_balances_of (sp_balances_of)) {f : Addr} {cdv : Value} {A : Around} {outer : List Env} {s : Shared} {H : Hp} {E : XK} (hr : Room 2 (A.deeper (envOfC "lying_at_end" (defScope s20) s.heap.objs.size f cdv))) (b : Bd (cxOf (L2.CX P w) P w K mg base N_lying_at_end "lying_at_end" (defScope s20) f cdv A outer s H E) E) :
    PDSs (cxOf (L2.CX P w) P w K mg base N_lying_at_end "lying_at_end" (defScope s20) f cdv A outer s H E) E (defBody s20) (rd_lying_at_end) :=
 (pdss_cons (pds_set (i := 2) b.cn (pd_ix b.cn (pd_callH b.cn h_balances_of bp_balances_of hr (by decide) (pda_cons (pd_ix b.cn (pd_var 0) pd_int) pda_nil)) (pd_un u_neg pd_int)))
 (pdss_one (pds_ret (pd_bf (c_sum b.cn) boot_sum (fx.f 77) (pda_cons (pd_lc (b := false) (own := [("place", 3)]) b.cn (pdi_seq (pd_var 1)) (blkOk_by (by kernel_rfl)) (by decide) (fun _ _ _ _ _ => (pdg_nm (i := 3) b.cn.blk)) (fun _ _ _ _ _ => pdts_nil) (fun _ _ _ _ _ => (pd_ix b.cn.blk (pd_var 2) (pd_var 3)))) pda_nil)))))
theorem dv__law_pick (fx : Fx fa fn exB K mg) (h__law_take : Has P w K mg base 2 "_law_take" s31 ps__law_take (sp__law_take)) {f : Addr} {cdv : Value} {A : Around} {outer : List Env} {s : Shared} {H : Hp} {E : XK} (hr : Room 2 (A.deeper (envOfC "_law_pick" (defScope s32) s.heap.objs.size f cdv))) (b : Bd (cxOf (L2.CX P w) P w K mg base N__law_pick "_law_pick" (defScope s32) f cdv A outer s H E) E) :
    PDSs (cxOf (L2.CX P w) P w K mg base N__law_pick "_law_pick" (defScope s32) f cdv A outer s H E) E (defBody s32) (rd__law_pick) :=
 (pdss_one (pds_ret (pd_ix b.cn (pd_var 1) (pd_callH b.cn h__law_take bp__law_take hr (by decide) (pda_cons (pd_var 0) (pda_cons (pd_bf c_len boot_len (fx.f 70) (pda_cons (pd_var 1) pda_nil)) pda_nil))))))
theorem dv__law_shuffled (fx : Fx fa fn exB K mg) (h__law_take : Has P w K mg base 2 "_law_take" s31 ps__law_take (sp__law_take)) {f : Addr} {cdv : Value} {A : Around} {outer : List Env} {s : Shared} {H : Hp} {E : XK} (hr : Room 2 (A.deeper (envOfC "_law_shuffled" (defScope s33) s.heap.objs.size f cdv))) (b : Bd (cxOf (L2.CX P w) P w K mg base N__law_shuffled "_law_shuffled" (defScope s33) f cdv A outer s H E) E) :
    PDSs (cxOf (L2.CX P w) P w K mg base N__law_shuffled "_law_shuffled" (defScope s33) f cdv A outer s H E) E (defBody s33) (rd__law_shuffled) :=
 (pdss_cons (by first | exact pds_parT (i := 2) (j := 3) b.cn (pda_cons (pd_bt (c_list b.cn true) boot_list (fx.f 71) (pda_cons (pd_var 1) pda_nil)) (pda_cons (pd_lst true pda_nil) pda_nil)) | exact (pds_tup (pd_tup (pda_cons (pd_bt (c_list b.cn true) boot_list (fx.f 71) (pda_cons (pd_var 1) pda_nil)) (pda_cons (pd_lst true pda_nil) pda_nil))) (pdg_tp b.cn (pdgs_cons (pdg_nm (i := 2) b.cn) (pdgs_cons (pdg_nm (i := 3) b.cn) pdgs_nil)))))
 (pdss_cons (pds_while b.ow (pdt_cmp (o_ne b.cn) (pd_var 2) (pd_lst false pda_nil)) (pdss_one (pds_expr (pd_bm PySem.F.slot_list_append PySem.F.type_list_append m_app (pd_var 3) (pda_cons (pd_bm PySem.F.slot_list_pop PySem.F.type_list_pop m_pop (pd_var 2) (pda_cons (pd_callH b.cn h__law_take bp__law_take hr (by decide) (pda_cons (pd_var 0) (pda_cons (pd_bf c_len boot_len (fx.f 70) (pda_cons (pd_var 2) pda_nil)) pda_nil))) pda_nil)) pda_nil)))))
 (pdss_one (pds_ret (pd_var 3)))))
theorem dv__law_lot (fx : Fx fa fn exB K mg) (h__law_take : Has P w K mg base 2 "_law_take" s31 ps__law_take (sp__law_take)) {f : Addr} {cdv : Value} {A : Around} {outer : List Env} {s : Shared} {H : Hp} {E : XK} (hr : Room 2 (A.deeper (envOfC "_law_lot" (defScope s43) s.heap.objs.size f cdv))) (b : Bd (cxOf (L2.CX P w) P w K mg base N__law_lot "_law_lot" (defScope s43) f cdv A outer s H E) E) :
    PDSs (cxOf (L2.CX P w) P w K mg base N__law_lot "_law_lot" (defScope s43) f cdv A outer s H E) E (defBody s43) (rd__law_lot) :=
 (pdss_one (pds_ret (pd_bt c_tuple boot_tuple (fx.f 78) (pda_cons (pd_bf (c_sorted b.cn false) boot_sorted (fx.f 75) (pda_cons (pd_lc (b := false) (own := [("name", 2)]) b.cn (pdi_seq (pd_var 1)) (blkOk_by (by kernel_rfl)) (by decide) (fun _ _ _ _ _ => (pdg_nm (i := 2) b.cn.blk)) (fun _ _ _ _ _ => (pdts_one (pdt_cmp (o_eq b.cn.blk) (pd_callH b.cn.blk h__law_take bp__law_take hr (by decide) (pda_cons (pd_var 0) (pda_cons pd_int pda_nil))) pd_int))) (fun _ _ _ _ _ => (pd_var 2))) pda_nil)) pda_nil))))
theorem dv__law_lying (fx : Fx fa fn exB K mg) (h__law_balances : Has P w K mg base 2 "_law_balances" s42 ps__law_balances (sp__law_balances)) {f : Addr} {cdv : Value} {A : Around} {outer : List Env} {s : Shared} {H : Hp} {E : XK} (hr : Room 2 (A.deeper (envOfC "_law_lying" (defScope s45) s.heap.objs.size f cdv))) (b : Bd (cxOf (L2.CX P w) P w K mg base N__law_lying "_law_lying" (defScope s45) f cdv A outer s H E) E) :
    PDSs (cxOf (L2.CX P w) P w K mg base N__law_lying "_law_lying" (defScope s45) f cdv A outer s H E) E (defBody s45) (rd__law_lying) :=
 (pdss_cons (pds_set (i := 2) b.cn (pd_ix b.cn (pd_callH b.cn h__law_balances bp__law_balances hr (by decide) (pda_cons (pd_var 0) pda_nil)) (pd_un u_neg pd_int)))
 (pdss_one (pds_ret (pd_bf (c_sum b.cn) boot_sum (fx.f 77) (pda_cons (pd_lc (b := false) (own := [("place", 3)]) b.cn (pdi_seq (pd_var 1)) (blkOk_by (by kernel_rfl)) (by decide) (fun _ _ _ _ _ => (pdg_nm (i := 3) b.cn.blk)) (fun _ _ _ _ _ => pdts_nil) (fun _ _ _ _ _ => (pd_ix b.cn.blk (pd_var 2) (pd_var 3)))) pda_nil)))))
theorem dv_check_ledger (fx : Fx fa fn exB K mg) (h_is_ledger : Has P w K mg base 3 "is_ledger" s11 ps_is_ledger (sp_is_ledger)) {f : Addr} {cdv : Value} {A : Around} {outer : List Env} {s : Shared} {H : Hp} {E : XK} (hr : Room 3 (A.deeper (envOfC "check_ledger" (defScope s12) s.heap.objs.size f cdv))) (b : Bd (cxOf (L2.CX P w) P w K mg base N_check_ledger "check_ledger" (defScope s12) f cdv A outer s H E) E) :
    PDSs (cxOf (L2.CX P w) P w K mg base N_check_ledger "check_ledger" (defScope s12) f cdv A outer s H E) E (defBody s12) (rd_check_ledger (He.ga K)) :=
 (pdss_one (pds_if (pdt_not (pdt_val (pd_callH b.cn h_is_ledger bp_is_ledger hr (by decide) (pda_cons (pd_var 0) pda_nil)))) (pdss_one (pds_raise b (fx.x 58) (fx.g 52))) pdss_nil))
theorem dv__law_names_of (fx : Fx fa fn exB K mg) (h__law_shuffled : Has P w K mg base 3 "_law_shuffled" s33 ps__law_shuffled (sp__law_shuffled)) {f : Addr} {cdv : Value} {A : Around} {outer : List Env} {s : Shared} {H : Hp} {E : XK} (hr : Room 3 (A.deeper (envOfC "_law_names_of" (defScope s34) s.heap.objs.size f cdv))) (b : Bd (cxOf (L2.CX P w) P w K mg base N__law_names_of "_law_names_of" (defScope s34) f cdv A outer s H E) E) :
    PDSs (cxOf (L2.CX P w) P w K mg base N__law_names_of "_law_names_of" (defScope s34) f cdv A outer s H E) E (defBody s34) (rd__law_names_of) :=
 (pdss_one (pds_ret (pd_sl false (pd_callH b.cn h__law_shuffled bp__law_shuffled hr (by decide) (pda_cons (pd_var 0) (pda_cons (pd_var 1) pda_nil))) pdo_none (pdo_some (pd_var 2)))))
theorem dv__law_entry (fx : Fx fa fn exB K mg) (h__law_take : Has P w K mg base 2 "_law_take" s31 ps__law_take (sp__law_take)) (h__law_pick : Has P w K mg base 3 "_law_pick" s32 ps__law_pick (sp__law_pick)) {f : Addr} {cdv : Value} {A : Around} {outer : List Env} {s : Shared} {H : Hp} {E : XK} (hr : Room 3 (A.deeper (envOfC "_law_entry" (defScope s38) s.heap.objs.size f cdv))) (b : Bd (cxOf (L2.CX P w) P w K mg base N__law_entry "_law_entry" (defScope s38) f cdv A outer s H E) E) :
    PDSs (cxOf (L2.CX P w) P w K mg base N__law_entry "_law_entry" (defScope s38) f cdv A outer s H E) E (defBody s38) (rd__law_entry) :=
 (pdss_cons (by first | exact pds_set (i := 5) b.cn (pd_lc (b := false) (own := [("place", 6)]) b.cn (pdi_seq (pd_bf (c_sorted b.cn false) boot_sorted (fx.f 75) (pda_cons (pd_var 3) pda_nil))) (blkOk_by (by kernel_rfl)) (by decide) (fun _ _ _ _ _ => (pdg_nm (i := 6) b.cn.blk)) (fun _ _ _ _ _ => (pdts_one (pdt_cmp o_gt (pd_ix b.cn.blk (pd_var 3) (pd_var 6)) pd_int))) (fun _ _ _ _ _ => (pd_var 6))) | exact pds_setLc (b := false) (i := 5) (own := [("place", 6)]) b.cn (pdi_seq (pd_bf (c_sorted b.cn false) boot_sorted (fx.f 75) (pda_cons (pd_var 3) pda_nil))) (blkOk_by (by kernel_rfl)) (by decide) (fun _ _ _ _ _ => (pdg_nm (i := 6) b.cn.blk)) (fun _ _ _ _ _ => (pdts_one (pdt_cmp o_gt (pd_ix b.cn.blk (pd_var 3) (pd_var 6)) pd_int))) (fun _ _ _ _ _ => (pd_var 6)) (by rfl))
 (pdss_cons (pds_if (pdt_w (pdw_or (pdt_cmp (o_eq b.cn) (pd_var 5) (pd_lst false pda_nil)) (pdw_or (pdt_cmp o_lt (pd_bf c_len boot_len (fx.f 70) (pda_cons (pd_var 2) pda_nil)) pd_int) (pdw_or1 (pdt_cmp o_lt (pd_callH b.cn h__law_take bp__law_take hr (by decide) (pda_cons (pd_var 0) (pda_cons pd_int pda_nil))) pd_int))))) (pdss_one (pds_ret (pd_tup (pda_cons pd_str (pda_cons (pd_callH b.cn h__law_pick bp__law_pick hr (by decide) (pda_cons (pd_var 0) (pda_cons (pd_var 1) pda_nil))) (pda_cons (pd_callH b.cn h__law_pick bp__law_pick hr (by decide) (pda_cons (pd_var 0) (pda_cons (pd_var 2) pda_nil))) (pda_cons (pd_op o_add pd_int (pd_callH b.cn h__law_take bp__law_take hr (by decide) (pda_cons (pd_var 0) (pda_cons (pd_var 4) pda_nil)))) pda_nil))))))) pdss_nil)
 (pdss_cons (pds_set (i := 6) b.cn (pd_callH b.cn h__law_pick bp__law_pick hr (by decide) (pda_cons (pd_var 0) (pda_cons (pd_var 5) pda_nil))))
 (pdss_cons (pds_set (i := 7) b.cn (pd_ife (pdt_cmp (o_eq b.cn) (pd_callH b.cn h__law_take bp__law_take hr (by decide) (pda_cons (pd_var 0) (pda_cons pd_int pda_nil))) pd_int) (pd_bf (c_min b.cn) boot_min (fx.f 72) (pda_cons (pd_ix b.cn (pd_var 3) (pd_var 6)) (pda_cons (pd_op o_pow pd_int pd_int) pda_nil))) (pd_op o_add pd_int (pd_callH b.cn h__law_take bp__law_take hr (by decide) (pda_cons (pd_var 0) (pda_cons (pd_bf (c_min b.cn) boot_min (fx.f 72) (pda_cons (pd_ix b.cn (pd_var 3) (pd_var 6)) (pda_cons (pd_var 4) pda_nil))) pda_nil))))))
 (pdss_one (pds_ret (pd_tup (pda_cons pd_str (pda_cons (pd_var 6) (pda_cons (pd_callH b.cn h__law_pick bp__law_pick hr (by decide) (pda_cons (pd_var 0) (pda_cons (pd_lc (b := false) (own := [("one", 8)]) b.cn (pdi_seq (pd_var 2)) (blkOk_by (by kernel_rfl)) (by decide) (fun _ _ _ _ _ => (pdg_nm (i := 8) b.cn.blk)) (fun _ _ _ _ _ => (pdts_one (pdt_cmp (o_ne b.cn.blk) (pd_var 8) (pd_var 6)))) (fun _ _ _ _ _ => (pd_var 8))) pda_nil))) (pda_cons (pd_var 7) pda_nil)))))))))))
theorem dv__law_bent (fx : Fx fa fn exB K mg) (h__law_take : Has P w K mg base 2 "_law_take" s31 ps__law_take (sp__law_take)) (h__law_pick : Has P w K mg base 3 "_law_pick" s32 ps__law_pick (sp__law_pick)) {f : Addr} {cdv : Value} {A : Around} {outer : List Env} {s : Shared} {H : Hp} {E : XK} (hr : Room 3 (A.deeper (envOfC "_law_bent" (defScope s48) s.heap.objs.size f cdv))) (b : Bd (cxOf (L2.CX P w) P w K mg base N__law_bent "_law_bent" (defScope s48) f cdv A outer s H E) E) :
    PDSs (cxOf (L2.CX P w) P w K mg base N__law_bent "_law_bent" (defScope s48) f cdv A outer s H E) E (defBody s48) (rd__law_bent) :=
 (pdss_cons (by first | exact pds_parT (i := 2) (j := 3) b.cn (pda_cons (pd_callH b.cn h__law_take bp__law_take hr (by decide) (pda_cons (pd_var 0) (pda_cons (pd_bf c_len boot_len (fx.f 70) (pda_cons (pd_var 1) pda_nil)) pda_nil))) (pda_cons (pd_callH b.cn h__law_take bp__law_take hr (by decide) (pda_cons (pd_var 0) (pda_cons pd_int pda_nil))) pda_nil)) | exact (pds_tup (pd_tup (pda_cons (pd_callH b.cn h__law_take bp__law_take hr (by decide) (pda_cons (pd_var 0) (pda_cons (pd_bf c_len boot_len (fx.f 70) (pda_cons (pd_var 1) pda_nil)) pda_nil))) (pda_cons (pd_callH b.cn h__law_take bp__law_take hr (by decide) (pda_cons (pd_var 0) (pda_cons pd_int pda_nil))) pda_nil))) (pdg_tp b.cn (pdgs_cons (pdg_nm (i := 2) b.cn) (pdgs_cons (pdg_nm (i := 3) b.cn) pdgs_nil)))))
 (pdss_cons (pds_tup (pd_ix b.cn (pd_var 1) (pd_var 2)) (pdg_tp b.cn (pdgs_cons (pdg_nm (i := 4) b.cn) (pdgs_cons (pdg_nm (i := 5) b.cn) (pdgs_cons (pdg_nm (i := 6) b.cn) (pdgs_cons (pdg_nm (i := 7) b.cn) pdgs_nil))))))
 (pdss_cons (pds_if (pdt_cmp (o_eq b.cn) (pd_var 3) pd_int) (pdss_one (pds_ret (pd_op o_add (pd_sl false (pd_var 1) pdo_none (pdo_some (pd_var 2))) (pd_sl false (pd_var 1) (pdo_some (pd_op o_add (pd_var 2) pd_int)) pdo_none)))) pdss_nil)
 (pdss_cons (pds_if (pdt_cmp (o_eq b.cn) (pd_var 3) pd_int) (pdss_one (pds_ret (pd_op o_add (pd_sl false (pd_var 1) pdo_none (pdo_some (pd_op o_add (pd_var 2) pd_int))) (pd_sl false (pd_var 1) (pdo_some (pd_var 2)) pdo_none)))) pdss_nil)
 (pdss_cons (pds_if (pdt_cmp (o_eq b.cn) (pd_var 3) pd_int) (pdss_one (pds_ret (pd_op o_add (pd_op o_add (pd_sl false (pd_var 1) pdo_none (pdo_some (pd_var 2))) (pd_tup (pda_cons (pd_tup (pda_cons (pd_var 4) (pda_cons (pd_var 5) (pda_cons (pd_var 6) (pda_cons (pd_op o_add (pd_var 7) (pd_callH b.cn h__law_pick bp__law_pick hr (by decide) (pda_cons (pd_var 0) (pda_cons (pd_lst false (pda_cons pd_int (pda_cons (pd_un u_neg pd_int) (pda_cons (pd_var 7) (pda_cons (pd_op o_sub pd_int (pd_var 7)) (pda_cons (pd_op o_pow pd_int pd_int) pda_nil)))))) pda_nil)))) pda_nil))))) pda_nil))) (pd_sl false (pd_var 1) (pdo_some (pd_op o_add (pd_var 2) pd_int)) pdo_none)))) pdss_nil)
 (pdss_cons (pds_if (pdt_cmp (o_eq b.cn) (pd_var 3) pd_int) (pdss_one (pds_ret (pd_op o_add (pd_op o_add (pd_sl false (pd_var 1) pdo_none (pdo_some (pd_var 2))) (pd_tup (pda_cons (pd_tup (pda_cons (pd_var 4) (pda_cons (pd_var 5) (pda_cons (pd_callH b.cn h__law_pick bp__law_pick hr (by decide) (pda_cons (pd_var 0) (pda_cons (pd_lst false (pda_cons pd_str (pda_cons pd_str (pda_cons pd_str (pda_cons (pd_var 5) pda_nil))))) pda_nil))) (pda_cons (pd_var 7) pda_nil))))) pda_nil))) (pd_sl false (pd_var 1) (pdo_some (pd_op o_add (pd_var 2) pd_int)) pdo_none)))) pdss_nil)
 (pdss_cons (pds_if (pdt_cmp (o_eq b.cn) (pd_var 3) pd_int) (pdss_one (pds_ret (pd_op o_add (pd_op o_add (pd_sl false (pd_var 1) pdo_none (pdo_some (pd_var 2))) (pd_tup (pda_cons (pd_tup (pda_cons (pd_var 4) (pda_cons (pd_callH b.cn h__law_pick bp__law_pick hr (by decide) (pda_cons (pd_var 0) (pda_cons (pd_lst false (pda_cons pd_str (pda_cons pd_str (pda_cons pd_str (pda_cons pd_str (pda_cons (pd_var 6) pda_nil)))))) pda_nil))) (pda_cons (pd_var 6) (pda_cons (pd_var 7) pda_nil))))) pda_nil))) (pd_sl false (pd_var 1) (pdo_some (pd_op o_add (pd_var 2) pd_int)) pdo_none)))) pdss_nil)
 (pdss_cons (pds_if (pdt_cmp (o_eq b.cn) (pd_var 3) pd_int) (pdss_one (pds_ret (pd_op o_add (pd_op o_add (pd_sl false (pd_var 1) pdo_none (pdo_some (pd_var 2))) (pd_tup (pda_cons (pd_tup (pda_cons (pd_ife (pdt_cmp (o_eq b.cn) (pd_var 4) pd_str) pd_str pd_str) (pda_cons (pd_var 5) (pda_cons (pd_var 6) (pda_cons (pd_var 7) pda_nil))))) pda_nil))) (pd_sl false (pd_var 1) (pdo_some (pd_op o_add (pd_var 2) pd_int)) pdo_none)))) pdss_nil)
 (pdss_one (pds_ret (pd_rev false (pd_var 1))))))))))))
theorem dv_owners (fx : Fx fa fn exB K mg) (h_check_ledger : Has P w K mg base 4 "check_ledger" s12 ps_check_ledger (sp_check_ledger (He.ga K))) (h_owners_of : Has P w K mg base 2 "owners_of" s13 ps_owners_of (sp_owners_of)) {f : Addr} {cdv : Value} {A : Around} {outer : List Env} {s : Shared} {H : Hp} {E : XK} (hr : Room 4 (A.deeper (envOfC "owners" (defScope s22) s.heap.objs.size f cdv))) (b : Bd (cxOf (L2.CX P w) P w K mg base N_owners "owners" (defScope s22) f cdv A outer s H E) E) :
    PDSs (cxOf (L2.CX P w) P w K mg base N_owners "owners" (defScope s22) f cdv A outer s H E) E (defBody s22) (rd_owners (He.ga K)) :=
 (pdss_cons (pds_expr (pd_callH b.cn h_check_ledger bp_check_ledger hr (by decide) (pda_cons (pd_var 0) pda_nil)))
 (pdss_one (pds_ret (pd_callH b.cn h_owners_of bp_owners_of hr (by decide) (pda_cons (pd_var 0) pda_nil)))))
theorem dv_places (fx : Fx fa fn exB K mg) (h_check_ledger : Has P w K mg base 4 "check_ledger" s12 ps_check_ledger (sp_check_ledger (He.ga K))) (h_places_of : Has P w K mg base 2 "places_of" s14 ps_places_of (sp_places_of)) {f : Addr} {cdv : Value} {A : Around} {outer : List Env} {s : Shared} {H : Hp} {E : XK} (hr : Room 4 (A.deeper (envOfC "places" (defScope s23) s.heap.objs.size f cdv))) (b : Bd (cxOf (L2.CX P w) P w K mg base N_places "places" (defScope s23) f cdv A outer s H E) E) :
    PDSs (cxOf (L2.CX P w) P w K mg base N_places "places" (defScope s23) f cdv A outer s H E) E (defBody s23) (rd_places (He.ga K)) :=
 (pdss_cons (pds_expr (pd_callH b.cn h_check_ledger bp_check_ledger hr (by decide) (pda_cons (pd_var 0) pda_nil)))
 (pdss_one (pds_ret (pd_callH b.cn h_places_of bp_places_of hr (by decide) (pda_cons (pd_var 0) pda_nil)))))
theorem dv_others (fx : Fx fa fn exB K mg) (h_check_ledger : Has P w K mg base 4 "check_ledger" s12 ps_check_ledger (sp_check_ledger (He.ga K))) (h_check_some : Has P w K mg base 3 "check_some" s15 ps_check_some (sp_check_some (He.ga K))) (h_others_of : Has P w K mg base 3 "others_of" s19 ps_others_of (sp_others_of)) {f : Addr} {cdv : Value} {A : Around} {outer : List Env} {s : Shared} {H : Hp} {E : XK} (hr : Room 4 (A.deeper (envOfC "others" (defScope s24) s.heap.objs.size f cdv))) (b : Bd (cxOf (L2.CX P w) P w K mg base N_others "others" (defScope s24) f cdv A outer s H E) E) :
    PDSs (cxOf (L2.CX P w) P w K mg base N_others "others" (defScope s24) f cdv A outer s H E) E (defBody s24) (rd_others (He.ga K)) :=
 (pdss_cons (pds_expr (pd_callH b.cn h_check_ledger bp_check_ledger hr (by decide) (pda_cons (pd_var 0) pda_nil)))
 (pdss_cons (pds_expr (pd_callH b.cn h_check_some bp_check_some hr (by decide) (pda_cons (pd_var 0) (pda_cons (pd_var 1) pda_nil))))
 (pdss_one (pds_ret (pd_callH b.cn h_others_of bp_others_of hr (by decide) (pda_cons (pd_var 0) (pda_cons (pd_var 1) pda_nil)))))))
theorem dv_balance (fx : Fx fa fn exB K mg) (h_check_ledger : Has P w K mg base 4 "check_ledger" s12 ps_check_ledger (sp_check_ledger (He.ga K))) (h_check_place : Has P w K mg base 3 "check_place" s17 ps_check_place (sp_check_place (He.ga K))) (h_check_moment : Has P w K mg base 2 "check_moment" s18 ps_check_moment (sp_check_moment (He.ga K))) (h_balances_of : Has P w K mg base 2 "balances_of" s10 ps_balances_of (sp_balances_of)) {f : Addr} {cdv : Value} {A : Around} {outer : List Env} {s : Shared} {H : Hp} {E : XK} (hr : Room 4 (A.deeper (envOfC "balance" (defScope s25) s.heap.objs.size f cdv))) (b : Bd (cxOf (L2.CX P w) P w K mg base N_balance "balance" (defScope s25) f cdv A outer s H E) E) :
    PDSs (cxOf (L2.CX P w) P w K mg base N_balance "balance" (defScope s25) f cdv A outer s H E) E (defBody s25) (rd_balance (He.ga K)) :=
 (pdss_cons (pds_expr (pd_callH b.cn h_check_ledger bp_check_ledger hr (by decide) (pda_cons (pd_var 0) pda_nil)))
 (pdss_cons (pds_expr (pd_callH b.cn h_check_place bp_check_place hr (by decide) (pda_cons (pd_var 0) (pda_cons (pd_var 1) pda_nil))))
 (pdss_cons (pds_expr (pd_callH b.cn h_check_moment bp_check_moment hr (by decide) (pda_cons (pd_var 0) (pda_cons (pd_var 2) pda_nil))))
 (pdss_one (pds_ret (pd_ix b.cn (pd_ix b.cn (pd_callH b.cn h_balances_of bp_balances_of hr (by decide) (pda_cons (pd_ix b.cn (pd_var 0) pd_int) pda_nil)) (pd_var 2)) (pd_var 1)))))))
theorem dv_lying (fx : Fx fa fn exB K mg) (h_check_ledger : Has P w K mg base 4 "check_ledger" s12 ps_check_ledger (sp_check_ledger (He.ga K))) (h_check_where : Has P w K mg base 3 "check_where" s16 ps_check_where (sp_check_where (He.ga K))) (h_lying_at_end : Has P w K mg base 3 "lying_at_end" s20 ps_lying_at_end (sp_lying_at_end)) {f : Addr} {cdv : Value} {A : Around} {outer : List Env} {s : Shared} {H : Hp} {E : XK} (hr : Room 4 (A.deeper (envOfC "lying" (defScope s26) s.heap.objs.size f cdv))) (b : Bd (cxOf (L2.CX P w) P w K mg base N_lying "lying" (defScope s26) f cdv A outer s H E) E) :
    PDSs (cxOf (L2.CX P w) P w K mg base N_lying "lying" (defScope s26) f cdv A outer s H E) E (defBody s26) (rd_lying (He.ga K)) :=
 (pdss_cons (pds_expr (pd_callH b.cn h_check_ledger bp_check_ledger hr (by decide) (pda_cons (pd_var 0) pda_nil)))
 (pdss_cons (pds_expr (pd_callH b.cn h_check_where bp_check_where hr (by decide) (pda_cons (pd_var 0) (pda_cons (pd_var 1) pda_nil))))
 (pdss_one (pds_ret (pd_callH b.cn h_lying_at_end bp_lying_at_end hr (by decide) (pda_cons (pd_var 0) (pda_cons (pd_var 1) pda_nil)))))))
theorem dv_came (fx : Fx fa fn exB K mg) (h_check_ledger : Has P w K mg base 4 "check_ledger" s12 ps_check_ledger (sp_check_ledger (He.ga K))) (h_check_some : Has P w K mg base 3 "check_some" s15 ps_check_some (sp_check_some (He.ga K))) (h_came_of : Has P w K mg base 1 "came_of" s21 ps_came_of (sp_came_of)) {f : Addr} {cdv : Value} {A : Around} {outer : List Env} {s : Shared} {H : Hp} {E : XK} (hr : Room 4 (A.deeper (envOfC "came" (defScope s27) s.heap.objs.size f cdv))) (b : Bd (cxOf (L2.CX P w) P w K mg base N_came "came" (defScope s27) f cdv A outer s H E) E) :
    PDSs (cxOf (L2.CX P w) P w K mg base N_came "came" (defScope s27) f cdv A outer s H E) E (defBody s27) (rd_came (He.ga K)) :=
 (pdss_cons (pds_expr (pd_callH b.cn h_check_ledger bp_check_ledger hr (by decide) (pda_cons (pd_var 0) pda_nil)))
 (pdss_cons (pds_expr (pd_callH b.cn h_check_some bp_check_some hr (by decide) (pda_cons (pd_var 0) (pda_cons (pd_var 1) pda_nil))))
 (pdss_one (pds_ret (pd_callH b.cn h_came_of bp_came_of hr (by decide) (pda_cons (pd_var 0) (pda_cons (pd_var 1) pda_nil)))))))
theorem dv_begun (fx : Fx fa fn exB K mg) (h_check_ledger : Has P w K mg base 4 "check_ledger" s12 ps_check_ledger (sp_check_ledger (He.ga K))) (h_check_moment : Has P w K mg base 2 "check_moment" s18 ps_check_moment (sp_check_moment (He.ga K))) {f : Addr} {cdv : Value} {A : Around} {outer : List Env} {s : Shared} {H : Hp} {E : XK} (hr : Room 4 (A.deeper (envOfC "begun" (defScope s28) s.heap.objs.size f cdv))) (b : Bd (cxOf (L2.CX P w) P w K mg base N_begun "begun" (defScope s28) f cdv A outer s H E) E) :
    PDSs (cxOf (L2.CX P w) P w K mg base N_begun "begun" (defScope s28) f cdv A outer s H E) E (defBody s28) (rd_begun (He.ga K)) :=
 (pdss_cons (pds_expr (pd_callH b.cn h_check_ledger bp_check_ledger hr (by decide) (pda_cons (pd_var 0) pda_nil)))
 (pdss_cons (pds_expr (pd_callH b.cn h_check_moment bp_check_moment hr (by decide) (pda_cons (pd_var 0) (pda_cons (pd_var 1) pda_nil))))
 (pdss_one (pds_ret (pd_tup (pda_cons pd_str (pda_cons (pd_sl false (pd_ix b.cn (pd_var 0) pd_int) pdo_none (pdo_some (pd_var 1))) pda_nil)))))))
theorem dv__law_owners (fx : Fx fa fn exB K mg) (h__law_names_of : Has P w K mg base 4 "_law_names_of" s34 ps__law_names_of (sp__law_names_of)) {f : Addr} {cdv : Value} {A : Around} {outer : List Env} {s : Shared} {H : Hp} {E : XK} (hr : Room 4 (A.deeper (envOfC "_law_owners" (defScope s35) s.heap.objs.size f cdv))) (b : Bd (cxOf (L2.CX P w) P w K mg base N__law_owners "_law_owners" (defScope s35) f cdv A outer s H E) E) :
    PDSs (cxOf (L2.CX P w) P w K mg base N__law_owners "_law_owners" (defScope s35) f cdv A outer s H E) E (defBody s35) (rd__law_owners) :=
 (pdss_one (pds_ret (pd_callH b.cn h__law_names_of bp__law_names_of hr (by decide) (pda_cons (pd_var 0) (pda_cons (pd_lst false (pda_cons pd_str (pda_cons pd_str (pda_cons pd_str (pda_cons pd_str (pda_cons pd_str (pda_cons pd_str pda_nil))))))) (pda_cons (pd_var 1) pda_nil))))))
theorem dv__law_places (fx : Fx fa fn exB K mg) (h__law_names_of : Has P w K mg base 4 "_law_names_of" s34 ps__law_names_of (sp__law_names_of)) {f : Addr} {cdv : Value} {A : Around} {outer : List Env} {s : Shared} {H : Hp} {E : XK} (hr : Room 4 (A.deeper (envOfC "_law_places" (defScope s36) s.heap.objs.size f cdv))) (b : Bd (cxOf (L2.CX P w) P w K mg base N__law_places "_law_places" (defScope s36) f cdv A outer s H E) E) :
    PDSs (cxOf (L2.CX P w) P w K mg base N__law_places "_law_places" (defScope s36) f cdv A outer s H E) E (defBody s36) (rd__law_places) :=
 (pdss_one (pds_ret (pd_callH b.cn h__law_names_of bp__law_names_of hr (by decide) (pda_cons (pd_var 0) (pda_cons (pd_lst false (pda_cons pd_str (pda_cons pd_str (pda_cons pd_str (pda_cons pd_str (pda_cons pd_str (pda_cons pd_str pda_nil))))))) (pda_cons (pd_var 1) pda_nil))))))
theorem dv__law_ledger (fx : Fx fa fn exB K mg) (h__law_entry : Has P w K mg base 4 "_law_entry" s38 ps__law_entry (sp__law_entry)) (h__law_behind : Has P w K mg base 1 "_law_behind" s37 ps__law_behind (sp__law_behind)) {f : Addr} {cdv : Value} {A : Around} {outer : List Env} {s : Shared} {H : Hp} {E : XK} (hr : Room 4 (A.deeper (envOfC "_law_ledger" (defScope s39) s.heap.objs.size f cdv))) (b : Bd (cxOf (L2.CX P w) P w K mg base N__law_ledger "_law_ledger" (defScope s39) f cdv A outer s H E) E) :
    PDSs (cxOf (L2.CX P w) P w K mg base N__law_ledger "_law_ledger" (defScope s39) f cdv A outer s H E) E (defBody s39) (rd__law_ledger) :=
 (pdss_cons (by first | exact pds_parT (i := 5) (j := 6) b.cn (pda_cons (pd_lst true pda_nil) (pda_cons (pd_dict0 false) pda_nil)) | exact (pds_tup (pd_tup (pda_cons (pd_lst true pda_nil) (pda_cons (pd_dict0 false) pda_nil))) (pdg_tp b.cn (pdgs_cons (pdg_nm (i := 5) b.cn) (pdgs_cons (pdg_nm (i := 6) b.cn) pdgs_nil)))))
 (pdss_cons (pds_for b.cn b.ow (pdi_rng1 (fx.f 73) (pd_var 3)) (pdg_nm (i := 7) b.cn) (pdss_cons (pds_expr (pd_bm PySem.F.slot_list_append PySem.F.type_list_append m_app (pd_var 5) (pda_cons (pd_callH b.cn h__law_entry bp__law_entry hr (by decide) (pda_cons (pd_var 0) (pda_cons (pd_var 1) (pda_cons (pd_var 2) (pda_cons (pd_var 6) (pda_cons (pd_var 4) pda_nil)))))) pda_nil)))
 (pdss_one (pds_set (i := 6) b.cn (pd_callH b.cn h__law_behind bp__law_behind hr (by decide) (pda_cons (pd_var 6) (pda_cons (pd_ix b.cn (pd_var 5) (pd_un u_neg pd_int)) pda_nil)))))))
 (pdss_one (pds_ret (pd_tup (pda_cons pd_str (pda_cons (pd_bt c_tuple boot_tuple (fx.f 78) (pda_cons (pd_var 5) pda_nil)) pda_nil)))))))
theorem dv__law_is_told_right (fx : Fx fa fn exB K mg) (h__law_owners_of : Has P w K mg base 1 "_law_owners_of" s40 ps__law_owners_of (sp__law_owners_of)) (h__law_places_of : Has P w K mg base 1 "_law_places_of" s41 ps__law_places_of (sp__law_places_of)) (h__law_balances : Has P w K mg base 2 "_law_balances" s42 ps__law_balances (sp__law_balances)) (h_owners : Has P w K mg base 5 "owners" s22 ps_owners (sp_owners (He.ga K))) (h_places : Has P w K mg base 5 "places" s23 ps_places (sp_places (He.ga K))) (h__law_take : Has P w K mg base 2 "_law_take" s31 ps__law_take (sp__law_take)) (h_balance : Has P w K mg base 5 "balance" s25 ps_balance (sp_balance (He.ga K))) (h_begun : Has P w K mg base 5 "begun" s28 ps_begun (sp_begun (He.ga K))) (h_is_ledger : Has P w K mg base 3 "is_ledger" s11 ps_is_ledger (sp_is_ledger)) (h__law_lot : Has P w K mg base 3 "_law_lot" s43 ps__law_lot (sp__law_lot)) (h_others : Has P w K mg base 5 "others" s24 ps_others (sp_others (He.ga K))) (h__law_others : Has P w K mg base 2 "_law_others" s44 ps__law_others (sp__law_others)) (h_came : Has P w K mg base 5 "came" s27 ps_came (sp_came (He.ga K))) (h__law_came : Has P w K mg base 1 "_law_came" s46 ps__law_came (sp__law_came)) (h_lying : Has P w K mg base 5 "lying" s26 ps_lying (sp_lying (He.ga K))) (h__law_lying : Has P w K mg base 3 "_law_lying" s45 ps__law_lying (sp__law_lying)) {f : Addr} {cdv : Value} {A : Around} {outer : List Env} {s : Shared} {H : Hp} {E : XK} (hr : Room 5 (A.deeper (envOfC "_law_is_told_right" (defScope s49) s.heap.objs.size f cdv))) (b : Bd (cxOf (L2.CX P w) P w K mg base N__law_is_told_right "_law_is_told_right" (defScope s49) f cdv A outer s H E) E) :
    PDSs (cxOf (L2.CX P w) P w K mg base N__law_is_told_right "_law_is_told_right" (defScope s49) f cdv A outer s H E) E (defBody s49) (rd__law_is_told_right (He.ga K)) :=
 (pdss_cons (by first | exact pds_par3T (i := 2) (j := 3) (l := 4) b.cn (pda_cons (pd_callH b.cn h__law_owners_of bp__law_owners_of hr (by decide) (pda_cons (pd_var 1) pda_nil)) (pda_cons (pd_callH b.cn h__law_places_of bp__law_places_of hr (by decide) (pda_cons (pd_var 1) pda_nil)) (pda_cons (pd_callH b.cn h__law_balances bp__law_balances hr (by decide) (pda_cons (pd_var 1) pda_nil)) pda_nil))) | exact (pds_tup (pd_tup (pda_cons (pd_callH b.cn h__law_owners_of bp__law_owners_of hr (by decide) (pda_cons (pd_var 1) pda_nil)) (pda_cons (pd_callH b.cn h__law_places_of bp__law_places_of hr (by decide) (pda_cons (pd_var 1) pda_nil)) (pda_cons (pd_callH b.cn h__law_balances bp__law_balances hr (by decide) (pda_cons (pd_var 1) pda_nil)) pda_nil)))) (pdg_tp b.cn (pdgs_cons (pdg_nm (i := 2) b.cn) (pdgs_cons (pdg_nm (i := 3) b.cn) (pdgs_cons (pdg_nm (i := 4) b.cn) pdgs_nil))))))
 (pdss_cons (pds_if (pdt_w (pdw_or (pdt_cmp (o_ne b.cn) (pd_callH b.cn h_owners bp_owners hr (by decide) (pda_cons (pd_var 1) pda_nil)) (pd_var 2)) (pdw_or1 (pdt_cmp (o_ne b.cn) (pd_callH b.cn h_places bp_places hr (by decide) (pda_cons (pd_var 1) pda_nil)) (pd_var 3))))) (pdss_one (pds_ret pd_bl)) pdss_nil)
 (pdss_cons (pds_for b.cn b.ow (pdi_seq (pd_lst false (pda_cons pd_int (pda_cons (pd_bf c_len boot_len (fx.f 70) (pda_cons (pd_ix b.cn (pd_var 1) pd_int) pda_nil)) (pda_cons (pd_callH b.cn h__law_take bp__law_take hr (by decide) (pda_cons (pd_var 0) (pda_cons (pd_op o_add (pd_bf c_len boot_len (fx.f 70) (pda_cons (pd_ix b.cn (pd_var 1) pd_int) pda_nil)) pd_int) pda_nil))) pda_nil))))) (pdg_nm (i := 5) b.cn) (pdss_cons (pds_for b.cn b.ow (pdi_seq (pd_var 3)) (pdg_nm (i := 6) b.cn) (pdss_one (pds_if (pdt_w (pdw_or (pdt_cmp (o_ne b.cn) (pd_callH b.cn h_balance bp_balance hr (by decide) (pda_cons (pd_var 1) (pda_cons (pd_var 6) (pda_cons (pd_var 5) pda_nil)))) (pd_ix b.cn (pd_ix b.cn (pd_var 4) (pd_var 5)) (pd_var 6))) (pdw_or1 (pdt_cmp (o_ne b.cn) (pd_callHK0 (ks := ["moment", "place", "ledger"]) [2, 1, 0] b.cn h_balance (fun _ _ _ _ _ _ us ws h1 h2 => match us, ws, h1, h2 with | [], [_, _, _], _, _ => rfl) hr (by decide) (pdk_cons (pd_var 5) (pdk_cons (pd_var 6) (pdk_cons (pd_var 1) pdk_nil)))) (pd_ix b.cn (pd_ix b.cn (pd_var 4) (pd_var 5)) (pd_var 6)))))) (pdss_one (pds_ret pd_bl)) pdss_nil)))
 (pdss_cons (pds_set (i := 7) b.cn (pd_tup (pda_cons pd_str (pda_cons (pd_sl false (pd_ix b.cn (pd_var 1) pd_int) pdo_none (pdo_some (pd_var 5))) pda_nil))))
 (pdss_one (pds_if (pdt_w (pdw_or (pdt_cmp (o_ne b.cn) (pd_callH b.cn h_begun bp_begun hr (by decide) (pda_cons (pd_var 1) (pda_cons (pd_var 5) pda_nil))) (pd_var 7)) (pdw_or1 (pdt_cmp o_isNot (pd_callH b.cn h_is_ledger bp_is_ledger hr (by decide) (pda_cons (pd_callH b.cn h_begun bp_begun hr (by decide) (pda_cons (pd_var 1) (pda_cons (pd_var 5) pda_nil))) pda_nil)) pd_bl)))) (pdss_one (pds_ret pd_bl)) pdss_nil)))))
 (pdss_cons (by first | exact pds_parT (i := 8) (j := 9) b.cn (pda_cons (pd_callH b.cn h__law_lot bp__law_lot hr (by decide) (pda_cons (pd_var 0) (pda_cons (pd_var 2) pda_nil))) (pda_cons (pd_callH b.cn h__law_lot bp__law_lot hr (by decide) (pda_cons (pd_var 0) (pda_cons (pd_var 3) pda_nil))) pda_nil)) | exact (pds_tup (pd_tup (pda_cons (pd_callH b.cn h__law_lot bp__law_lot hr (by decide) (pda_cons (pd_var 0) (pda_cons (pd_var 2) pda_nil))) (pda_cons (pd_callH b.cn h__law_lot bp__law_lot hr (by decide) (pda_cons (pd_var 0) (pda_cons (pd_var 3) pda_nil))) pda_nil))) (pdg_tp b.cn (pdgs_cons (pdg_nm (i := 8) b.cn) (pdgs_cons (pdg_nm (i := 9) b.cn) pdgs_nil)))))
 (pdss_cons (pds_if (pdt_w (pdw_or (pdt_cmp (o_ne b.cn) (pd_callH b.cn h_others bp_others hr (by decide) (pda_cons (pd_var 1) (pda_cons (pd_var 8) pda_nil))) (pd_callH b.cn h__law_others bp__law_others hr (by decide) (pda_cons (pd_var 1) (pda_cons (pd_var 8) pda_nil)))) (pdw_or1 (pdt_cmp (o_ne b.cn) (pd_callH b.cn h_came bp_came hr (by decide) (pda_cons (pd_var 1) (pda_cons (pd_var 8) pda_nil))) (pd_callH b.cn h__law_came bp__law_came hr (by decide) (pda_cons (pd_var 1) (pda_cons (pd_var 8) pda_nil))))))) (pdss_one (pds_ret pd_bl)) pdss_nil)
 (pdss_one (pds_ret (pd_and (pd_cmp (o_eq b.cn) (pd_callH b.cn h_lying bp_lying hr (by decide) (pda_cons (pd_var 1) (pda_cons (pd_var 9) pda_nil))) (pd_callH b.cn h__law_lying bp__law_lying hr (by decide) (pda_cons (pd_var 1) (pda_cons (pd_var 9) pda_nil)))) (pd_one (pd_cmp (o_eq b.cn) (pd_callH b.cn h_came bp_came hr (by decide) (pda_cons (pd_var 1) (pda_cons (pd_var 2) pda_nil))) (pd_callH b.cn h_lying bp_lying hr (by decide) (pda_cons (pd_var 1) (pda_cons (pd_var 3) pda_nil)))))))))))))
theorem dv_law (fx : Fx fa fn exB K mg) (h__law_begun : Has P w K mg base 1 "_law_begun" s29 ps__law_begun (sp__law_begun)) (h__law_take : Has P w K mg base 2 "_law_take" s31 ps__law_take (sp__law_take)) (h__law_owners : Has P w K mg base 5 "_law_owners" s35 ps__law_owners (sp__law_owners)) (h__law_places : Has P w K mg base 5 "_law_places" s36 ps__law_places (sp__law_places)) (h__law_ledger : Has P w K mg base 5 "_law_ledger" s39 ps__law_ledger (sp__law_ledger)) (h_is_ledger : Has P w K mg base 3 "is_ledger" s11 ps_is_ledger (sp_is_ledger)) (h__law_is_told_right : Has P w K mg base 6 "_law_is_told_right" s49 ps__law_is_told_right (sp__law_is_told_right (He.ga K))) (h__law_bent : Has P w K mg base 4 "_law_bent" s48 ps__law_bent (sp__law_bent)) (h__law_is_ledger : Has P w K mg base 1 "_law_is_ledger" s47 ps__law_is_ledger (sp__law_is_ledger)) (h_owners : Has P w K mg base 5 "owners" s22 ps_owners (sp_owners (He.ga K))) (h_lying : Has P w K mg base 5 "lying" s26 ps_lying (sp_lying (He.ga K))) {f : Addr} {cdv : Value} {A : Around} {outer : List Env} {s : Shared} {H : Hp} {E : XK} (hr : Room 6 (A.deeper (envOfC "law" (defScope s50) s.heap.objs.size f cdv))) (b : Bd (cxOf (L2.CX P w) P w K mg base N_law "law" (defScope s50) f cdv A outer s H E) E) :
    PDSs (cxOf (L2.CX P w) P w K mg base N_law "law" (defScope s50) f cdv A outer s H E) E (defBody s50) (rd_law (He.ga K)) :=
 (pdss_cons (pds_set (i := 1) b.cn (pd_callH b.cn h__law_begun bp__law_begun hr (by decide) (pda_cons (pd_var 0) pda_nil)))
 (pdss_cons (pds_for b.cn b.ow (pdi_rng1 (fx.f 73) (pd_op o_add pd_int (pd_bf (c_min b.cn) boot_min (fx.f 72) (pda_cons (pd_bf c_len boot_len (fx.f 70) (pda_cons (pd_var 0) pda_nil)) (pda_cons pd_int pda_nil))))) (pdg_nm (i := 2) b.cn) (pdss_cons (pds_set (i := 3) b.cn (pd_ix b.cn (pd_lst false (pda_cons pd_int (pda_cons pd_int (pda_cons (pd_op o_pow pd_int pd_int) pda_nil)))) (pd_callH b.cn h__law_take bp__law_take hr (by decide) (pda_cons (pd_var 1) (pda_cons pd_int pda_nil)))))
 (pdss_cons (by first | exact pds_parT (i := 4) (j := 5) b.cn (pda_cons (pd_callH b.cn h__law_owners bp__law_owners hr (by decide) (pda_cons (pd_var 1) (pda_cons (pd_op o_add pd_int (pd_callH b.cn h__law_take bp__law_take hr (by decide) (pda_cons (pd_var 1) (pda_cons pd_int pda_nil)))) pda_nil))) (pda_cons (pd_callH b.cn h__law_places bp__law_places hr (by decide) (pda_cons (pd_var 1) (pda_cons (pd_op o_add pd_int (pd_callH b.cn h__law_take bp__law_take hr (by decide) (pda_cons (pd_var 1) (pda_cons pd_int pda_nil)))) pda_nil))) pda_nil)) | exact (pds_tup (pd_tup (pda_cons (pd_callH b.cn h__law_owners bp__law_owners hr (by decide) (pda_cons (pd_var 1) (pda_cons (pd_op o_add pd_int (pd_callH b.cn h__law_take bp__law_take hr (by decide) (pda_cons (pd_var 1) (pda_cons pd_int pda_nil)))) pda_nil))) (pda_cons (pd_callH b.cn h__law_places bp__law_places hr (by decide) (pda_cons (pd_var 1) (pda_cons (pd_op o_add pd_int (pd_callH b.cn h__law_take bp__law_take hr (by decide) (pda_cons (pd_var 1) (pda_cons pd_int pda_nil)))) pda_nil))) pda_nil))) (pdg_tp b.cn (pdgs_cons (pdg_nm (i := 4) b.cn) (pdgs_cons (pdg_nm (i := 5) b.cn) pdgs_nil)))))
 (pdss_cons (pds_set (i := 6) b.cn (pd_ix b.cn (pd_lst false (pda_cons (pd_op o_add pd_int (pd_callH b.cn h__law_take bp__law_take hr (by decide) (pda_cons (pd_var 1) (pda_cons pd_int pda_nil)))) (pda_cons (pd_op o_add pd_int (pd_callH b.cn h__law_take bp__law_take hr (by decide) (pda_cons (pd_var 1) (pda_cons pd_int pda_nil)))) pda_nil))) (pd_callH b.cn h__law_take bp__law_take hr (by decide) (pda_cons (pd_var 1) (pda_cons pd_int pda_nil)))))
 (pdss_cons (pds_set (i := 7) b.cn (pd_callH b.cn h__law_ledger bp__law_ledger hr (by decide) (pda_cons (pd_var 1) (pda_cons (pd_var 4) (pda_cons (pd_var 5) (pda_cons (pd_var 6) (pda_cons (pd_var 3) pda_nil)))))))
 (pdss_cons (pds_if (pdt_w (pdw_or (pdt_cmp o_isNot (pd_callH b.cn h_is_ledger bp_is_ledger hr (by decide) (pda_cons (pd_var 7) pda_nil)) pd_bl) (pdw_or1 (pdt_not (pdt_val (pd_callH b.cn h__law_is_told_right bp__law_is_told_right hr (by decide) (pda_cons (pd_var 1) (pda_cons (pd_var 7) pda_nil)))))))) (pdss_one (pds_ret pd_bl)) pdss_nil)
 (pdss_cons (pds_for b.cn b.ow (pdi_rng1 (fx.f 73) pd_int) (pdg_nm (i := 8) b.cn) (pdss_cons (pds_set (i := 9) b.cn (pd_callH b.cn h__law_bent bp__law_bent hr (by decide) (pda_cons (pd_var 1) (pda_cons (pd_ix b.cn (pd_var 7) pd_int) pda_nil))))
 (pdss_one (pds_if (pdt_cmp (o_ne b.cn) (pd_callH b.cn h_is_ledger bp_is_ledger hr (by decide) (pda_cons (pd_tup (pda_cons pd_str (pda_cons (pd_var 9) pda_nil))) pda_nil)) (pd_callH b.cn h__law_is_ledger bp__law_is_ledger hr (by decide) (pda_cons (pd_var 9) pda_nil))) (pdss_one (pds_ret pd_bl)) pdss_nil))))
 (pdss_cons (pds_set (i := 10) b.cn (pd_op o_add (pd_ix b.cn (pd_var 7) pd_int) (pd_sl false (pd_tup (pda_cons (pd_tup (pda_cons pd_str (pda_cons pd_str (pda_cons (pd_ix b.cn (pd_var 5) pd_int) (pda_cons pd_int pda_nil))))) (pda_cons (pd_tup (pda_cons pd_str (pda_cons pd_str (pda_cons (pd_ix b.cn (pd_var 5) pd_int) (pda_cons pd_int pda_nil))))) (pda_cons (pd_tup (pda_cons pd_str (pda_cons pd_str (pda_cons (pd_ix b.cn (pd_var 5) pd_int) (pda_cons pd_int pda_nil))))) (pda_cons (pd_tup (pda_cons pd_str (pda_cons pd_str (pda_cons (pd_ix b.cn (pd_var 5) pd_int) (pda_cons pd_int pda_nil))))) pda_nil))))) pdo_none (pdo_some (pd_op o_add pd_int (pd_callH b.cn h__law_take bp__law_take hr (by decide) (pda_cons (pd_var 1) (pda_cons pd_int pda_nil))))))))
 (pdss_one (pds_if (pdt_cmp (o_ne b.cn) (pd_callH b.cn h_is_ledger bp_is_ledger hr (by decide) (pda_cons (pd_tup (pda_cons pd_str (pda_cons (pd_var 10) pda_nil))) pda_nil)) (pd_callH b.cn h__law_is_ledger bp__law_is_ledger hr (by decide) (pda_cons (pd_var 10) pda_nil))) (pdss_one (pds_ret pd_bl)) pdss_nil))))))))))
 (pdss_one (pds_ret (pd_and (pd_cmp o_is (pd_callH b.cn h_is_ledger bp_is_ledger hr (by decide) (pda_cons (pd_tup (pda_cons pd_str (pda_cons (pd_tup pda_nil) pda_nil))) pda_nil)) pd_bl) (pd_and (pd_cmp (o_eq b.cn) (pd_callH b.cn h_owners bp_owners hr (by decide) (pda_cons (pd_tup (pda_cons pd_str (pda_cons (pd_tup pda_nil) pda_nil))) pda_nil)) (pd_tup pda_nil)) (pd_one (pd_cmp (o_eq b.cn) (pd_callH b.cn h_lying bp_lying hr (by decide) (pda_cons (pd_tup (pda_cons pd_str (pda_cons (pd_tup pda_nil) pda_nil))) (pda_cons (pd_tup pda_nil) pda_nil))) pd_int))))))))
theorem has_is_name (fx : Fx fa fn exB K mg) : Has P w K mg base 1 "is_name" s0 ps_is_name (sp_is_name) :=
  has_b true (rd_is_name) fx 0 0 rfl rfl rfl sc_is_name (by unfold sp_is_name; rfl) fun f cdv A outer s H E hr b => dv_is_name fx  hr b
theorem has_is_number (fx : Fx fa fn exB K mg) : Has P w K mg base 1 "is_number" s1 ps_is_number (sp_is_number) :=
  has_b true (rd_is_number) fx 1 1 rfl rfl rfl sc_is_number (by unfold sp_is_number; rfl) fun f cdv A outer s H E hr b => dv_is_number fx  hr b
theorem has_is_word (fx : Fx fa fn exB K mg) : Has P w K mg base 1 "is_word" s2 ps_is_word (sp_is_word) :=
  has_b true (rd_is_word) fx 2 2 rfl rfl rfl sc_is_word (by unfold sp_is_word; rfl) fun f cdv A outer s H E hr b => dv_is_word fx  hr b
theorem has_is_row (fx : Fx fa fn exB K mg) : Has P w K mg base 1 "is_row" s3 ps_is_row (sp_is_row) :=
  has_b true (rd_is_row) fx 3 3 rfl rfl rfl sc_is_row (by unfold sp_is_row; rfl) fun f cdv A outer s H E hr b => dv_is_row fx  hr b
theorem has_are_ascending (fx : Fx fa fn exB K mg) : Has P w K mg base 1 "are_ascending" s4 ps_are_ascending (sp_are_ascending) :=
  has_b true (rd_are_ascending) fx 4 4 rfl rfl rfl sc_are_ascending (by unfold sp_are_ascending; rfl) fun f cdv A outer s H E hr b => dv_are_ascending fx  hr b
theorem has_owners_in (fx : Fx fa fn exB K mg) : Has P w K mg base 1 "owners_in" s7 ps_owners_in (sp_owners_in) :=
  has_b true (rd_owners_in) fx 7 7 rfl rfl rfl sc_owners_in (by unfold sp_owners_in; rfl) fun f cdv A outer s H E hr b => dv_owners_in fx  hr b
theorem has_places_in (fx : Fx fa fn exB K mg) : Has P w K mg base 1 "places_in" s8 ps_places_in (sp_places_in) :=
  has_b true (rd_places_in) fx 8 8 rfl rfl rfl sc_places_in (by unfold sp_places_in; rfl) fun f cdv A outer s H E hr b => dv_places_in fx  hr b
theorem has_behind (fx : Fx fa fn exB K mg) : Has P w K mg base 1 "behind" s9 ps_behind (sp_behind) :=
  has_b true (rd_behind) fx 9 9 rfl rfl rfl sc_behind (by unfold sp_behind; rfl) fun f cdv A outer s H E hr b => dv_behind fx  hr b
theorem has_came_of (fx : Fx fa fn exB K mg) : Has P w K mg base 1 "came_of" s21 ps_came_of (sp_came_of) :=
  has_b true (rd_came_of) fx 21 21 rfl rfl rfl sc_came_of (by unfold sp_came_of; rfl) fun f cdv A outer s H E hr b => dv_came_of fx  hr b
theorem has__law_begun (fx : Fx fa fn exB K mg) : Has P w K mg base 1 "_law_begun" s29 ps__law_begun (sp__law_begun) :=
  has_b false (rd__law_begun) fx 29 29 rfl rfl rfl sc__law_begun (by unfold sp__law_begun; rfl) fun f cdv A outer s H E hr b => dv__law_begun fx  hr b
theorem has__law_mixed (fx : Fx fa fn exB K mg) : Has P w K mg base 1 "_law_mixed" s30 ps__law_mixed (sp__law_mixed) :=
  has_b true (rd__law_mixed) fx 30 30 rfl rfl rfl sc__law_mixed (by unfold sp__law_mixed; rfl) fun f cdv A outer s H E hr b => dv__law_mixed fx  hr b
theorem has__law_behind (fx : Fx fa fn exB K mg) : Has P w K mg base 1 "_law_behind" s37 ps__law_behind (sp__law_behind) :=
  has_b true (rd__law_behind) fx 37 37 rfl rfl rfl sc__law_behind (by unfold sp__law_behind; rfl) fun f cdv A outer s H E hr b => dv__law_behind fx  hr b
theorem has__law_owners_of (fx : Fx fa fn exB K mg) : Has P w K mg base 1 "_law_owners_of" s40 ps__law_owners_of (sp__law_owners_of) :=
  has_b true (rd__law_owners_of) fx 40 40 rfl rfl rfl sc__law_owners_of (by unfold sp__law_owners_of; rfl) fun f cdv A outer s H E hr b => dv__law_owners_of fx  hr b
theorem has__law_places_of (fx : Fx fa fn exB K mg) : Has P w K mg base 1 "_law_places_of" s41 ps__law_places_of (sp__law_places_of) :=
  has_b true (rd__law_places_of) fx 41 41 rfl rfl rfl sc__law_places_of (by unfold sp__law_places_of; rfl) fun f cdv A outer s H E hr b => dv__law_places_of fx  hr b
theorem has__law_came (fx : Fx fa fn exB K mg) : Has P w K mg base 1 "_law_came" s46 ps__law_came (sp__law_came) :=
  has_b true (rd__law_came) fx 46 46 rfl rfl rfl sc__law_came (by unfold sp__law_came; rfl) fun f cdv A outer s H E hr b => dv__law_came fx  hr b
theorem has__law_is_ledger (fx : Fx fa fn exB K mg) : Has P w K mg base 1 "_law_is_ledger" s47 ps__law_is_ledger (sp__law_is_ledger) :=
  has_b true (rd__law_is_ledger) fx 47 47 rfl rfl rfl sc__law_is_ledger (by unfold sp__law_is_ledger; rfl) fun f cdv A outer s H E hr b => dv__law_is_ledger fx  hr b
theorem has_is_lot_of (fx : Fx fa fn exB K mg) : Has P w K mg base 2 "is_lot_of" s5 ps_is_lot_of (sp_is_lot_of) :=
  has_b true (rd_is_lot_of) fx 5 5 rfl rfl rfl sc_is_lot_of (by unfold sp_is_lot_of; rfl) fun f cdv A outer s H E hr b => dv_is_lot_of fx (has_is_word fx) (has_are_ascending fx) hr b
theorem has_is_entry (fx : Fx fa fn exB K mg) : Has P w K mg base 2 "is_entry" s6 ps_is_entry (sp_is_entry) :=
  has_b true (rd_is_entry) fx 6 6 rfl rfl rfl sc_is_entry (by unfold sp_is_entry; rfl) fun f cdv A outer s H E hr b => dv_is_entry fx (has_is_row fx) (has_is_word fx) (has_is_name fx) (has_is_number fx) hr b
theorem has_balances_of (fx : Fx fa fn exB K mg) : Has P w K mg base 2 "balances_of" s10 ps_balances_of (sp_balances_of) :=
  has_b true (rd_balances_of) fx 10 10 rfl rfl rfl sc_balances_of (by unfold sp_balances_of; rfl) fun f cdv A outer s H E hr b => dv_balances_of fx (has_places_in fx) (has_behind fx) hr b
theorem has_owners_of (fx : Fx fa fn exB K mg) : Has P w K mg base 2 "owners_of" s13 ps_owners_of (sp_owners_of) :=
  has_b true (rd_owners_of) fx 13 13 rfl rfl rfl sc_owners_of (by unfold sp_owners_of; rfl) fun f cdv A outer s H E hr b => dv_owners_of fx (has_owners_in fx) hr b
theorem has_places_of (fx : Fx fa fn exB K mg) : Has P w K mg base 2 "places_of" s14 ps_places_of (sp_places_of) :=
  has_b true (rd_places_of) fx 14 14 rfl rfl rfl sc_places_of (by unfold sp_places_of; rfl) fun f cdv A outer s H E hr b => dv_places_of fx (has_places_in fx) hr b
theorem has_check_moment (fx : Fx fa fn exB K mg) : Has P w K mg base 2 "check_moment" s18 ps_check_moment (sp_check_moment (He.ga K)) :=
  has_b true (rd_check_moment (He.ga K)) fx 18 18 rfl rfl rfl sc_check_moment (by unfold sp_check_moment; rfl) fun f cdv A outer s H E hr b => dv_check_moment fx (has_is_number fx) hr b
theorem has__law_take (fx : Fx fa fn exB K mg) : Has P w K mg base 2 "_law_take" s31 ps__law_take (sp__law_take) :=
  has_b true (rd__law_take) fx 31 31 rfl rfl rfl sc__law_take (by unfold sp__law_take; rfl) fun f cdv A outer s H E hr b => dv__law_take fx (has__law_mixed fx) hr b
theorem has__law_balances (fx : Fx fa fn exB K mg) : Has P w K mg base 2 "_law_balances" s42 ps__law_balances (sp__law_balances) :=
  has_b true (rd__law_balances) fx 42 42 rfl rfl rfl sc__law_balances (by unfold sp__law_balances; rfl) fun f cdv A outer s H E hr b => dv__law_balances fx (has__law_places_of fx) (has__law_behind fx) hr b
theorem has__law_others (fx : Fx fa fn exB K mg) : Has P w K mg base 2 "_law_others" s44 ps__law_others (sp__law_others) :=
  has_b true (rd__law_others) fx 44 44 rfl rfl rfl sc__law_others (by unfold sp__law_others; rfl) fun f cdv A outer s H E hr b => dv__law_others fx (has__law_owners_of fx) hr b
theorem has_is_ledger (fx : Fx fa fn exB K mg) : Has P w K mg base 3 "is_ledger" s11 ps_is_ledger (sp_is_ledger) :=
  has_b true (rd_is_ledger) fx 11 11 rfl rfl rfl sc_is_ledger (by unfold sp_is_ledger; rfl) fun f cdv A outer s H E hr b => dv_is_ledger fx (has_is_row fx) (has_is_word fx) (has_is_entry fx) (has_owners_in fx) (has_places_in fx) (has_balances_of fx) hr b
theorem has_check_some (fx : Fx fa fn exB K mg) : Has P w K mg base 3 "check_some" s15 ps_check_some (sp_check_some (He.ga K)) :=
  has_b true (rd_check_some (He.ga K)) fx 15 15 rfl rfl rfl sc_check_some (by unfold sp_check_some; rfl) fun f cdv A outer s H E hr b => dv_check_some fx (has_is_lot_of fx) (has_owners_of fx) hr b
theorem has_check_where (fx : Fx fa fn exB K mg) : Has P w K mg base 3 "check_where" s16 ps_check_where (sp_check_where (He.ga K)) :=
  has_b true (rd_check_where (He.ga K)) fx 16 16 rfl rfl rfl sc_check_where (by unfold sp_check_where; rfl) fun f cdv A outer s H E hr b => dv_check_where fx (has_is_lot_of fx) (has_places_of fx) hr b
theorem has_check_place (fx : Fx fa fn exB K mg) : Has P w K mg base 3 "check_place" s17 ps_check_place (sp_check_place (He.ga K)) :=
  has_b true (rd_check_place (He.ga K)) fx 17 17 rfl rfl rfl sc_check_place (by unfold sp_check_place; rfl) fun f cdv A outer s H E hr b => dv_check_place fx (has_is_word fx) (has_places_of fx) hr b
theorem has_others_of (fx : Fx fa fn exB K mg) : Has P w K mg base 3 "others_of" s19 ps_others_of (sp_others_of) :=
  has_b true (rd_others_of) fx 19 19 rfl rfl rfl sc_others_of (by unfold sp_others_of; rfl) fun f cdv A outer s H E hr b => dv_others_of fx (has_owners_of fx) hr b
theorem has_lying_at_end (fx : Fx fa fn exB K mg) : Has P w K mg base 3 "lying_at_end" s20 ps_lying_at_end (sp_lying_at_end) :=
  has_b true (rd_lying_at_end) fx 20 20 rfl rfl rfl sc_lying_at_end (by unfold sp_lying_at_end; rfl) fun f cdv A outer s H E hr b => dv_lying_at_end fx (has_balances_of fx) hr b
theorem has__law_pick (fx : Fx fa fn exB K mg) : Has P w K mg base 3 "_law_pick" s32 ps__law_pick (sp__law_pick) :=
  has_b true (rd__law_pick) fx 32 32 rfl rfl rfl sc__law_pick (by unfold sp__law_pick; rfl) fun f cdv A outer s H E hr b => dv__law_pick fx (has__law_take fx) hr b
theorem has__law_shuffled (fx : Fx fa fn exB K mg) : Has P w K mg base 3 "_law_shuffled" s33 ps__law_shuffled (sp__law_shuffled) :=
  has_b true (rd__law_shuffled) fx 33 33 rfl rfl rfl sc__law_shuffled (by unfold sp__law_shuffled; rfl) fun f cdv A outer s H E hr b => dv__law_shuffled fx (has__law_take fx) hr b
theorem has__law_lot (fx : Fx fa fn exB K mg) : Has P w K mg base 3 "_law_lot" s43 ps__law_lot (sp__law_lot) :=
  has_b true (rd__law_lot) fx 43 43 rfl rfl rfl sc__law_lot (by unfold sp__law_lot; rfl) fun f cdv A outer s H E hr b => dv__law_lot fx (has__law_take fx) hr b
theorem has__law_lying (fx : Fx fa fn exB K mg) : Has P w K mg base 3 "_law_lying" s45 ps__law_lying (sp__law_lying) :=
  has_b true (rd__law_lying) fx 45 45 rfl rfl rfl sc__law_lying (by unfold sp__law_lying; rfl) fun f cdv A outer s H E hr b => dv__law_lying fx (has__law_balances fx) hr b
theorem has_check_ledger (fx : Fx fa fn exB K mg) : Has P w K mg base 4 "check_ledger" s12 ps_check_ledger (sp_check_ledger (He.ga K)) :=
  has_b true (rd_check_ledger (He.ga K)) fx 12 12 rfl rfl rfl sc_check_ledger (by unfold sp_check_ledger; rfl) fun f cdv A outer s H E hr b => dv_check_ledger fx (has_is_ledger fx) hr b
theorem has__law_names_of (fx : Fx fa fn exB K mg) : Has P w K mg base 4 "_law_names_of" s34 ps__law_names_of (sp__law_names_of) :=
  has_b true (rd__law_names_of) fx 34 34 rfl rfl rfl sc__law_names_of (by unfold sp__law_names_of; rfl) fun f cdv A outer s H E hr b => dv__law_names_of fx (has__law_shuffled fx) hr b
theorem has__law_entry (fx : Fx fa fn exB K mg) : Has P w K mg base 4 "_law_entry" s38 ps__law_entry (sp__law_entry) :=
  has_b true (rd__law_entry) fx 38 38 rfl rfl rfl sc__law_entry (by unfold sp__law_entry; rfl) fun f cdv A outer s H E hr b => dv__law_entry fx (has__law_take fx) (has__law_pick fx) hr b
theorem has__law_bent (fx : Fx fa fn exB K mg) : Has P w K mg base 4 "_law_bent" s48 ps__law_bent (sp__law_bent) :=
  has_b true (rd__law_bent) fx 48 48 rfl rfl rfl sc__law_bent (by unfold sp__law_bent; rfl) fun f cdv A outer s H E hr b => dv__law_bent fx (has__law_take fx) (has__law_pick fx) hr b
theorem has_owners (fx : Fx fa fn exB K mg) : Has P w K mg base 5 "owners" s22 ps_owners (sp_owners (He.ga K)) :=
  has_b true (rd_owners (He.ga K)) fx 22 22 rfl rfl rfl sc_owners (by unfold sp_owners; rfl) fun f cdv A outer s H E hr b => dv_owners fx (has_check_ledger fx) (has_owners_of fx) hr b
theorem has_places (fx : Fx fa fn exB K mg) : Has P w K mg base 5 "places" s23 ps_places (sp_places (He.ga K)) :=
  has_b true (rd_places (He.ga K)) fx 23 23 rfl rfl rfl sc_places (by unfold sp_places; rfl) fun f cdv A outer s H E hr b => dv_places fx (has_check_ledger fx) (has_places_of fx) hr b
theorem has_others (fx : Fx fa fn exB K mg) : Has P w K mg base 5 "others" s24 ps_others (sp_others (He.ga K)) :=
  has_b true (rd_others (He.ga K)) fx 24 24 rfl rfl rfl sc_others (by unfold sp_others; rfl) fun f cdv A outer s H E hr b => dv_others fx (has_check_ledger fx) (has_check_some fx) (has_others_of fx) hr b
theorem has_balance (fx : Fx fa fn exB K mg) : Has P w K mg base 5 "balance" s25 ps_balance (sp_balance (He.ga K)) :=
  has_b true (rd_balance (He.ga K)) fx 25 25 rfl rfl rfl sc_balance (by unfold sp_balance; rfl) fun f cdv A outer s H E hr b => dv_balance fx (has_check_ledger fx) (has_check_place fx) (has_check_moment fx) (has_balances_of fx) hr b
theorem has_lying (fx : Fx fa fn exB K mg) : Has P w K mg base 5 "lying" s26 ps_lying (sp_lying (He.ga K)) :=
  has_b true (rd_lying (He.ga K)) fx 26 26 rfl rfl rfl sc_lying (by unfold sp_lying; rfl) fun f cdv A outer s H E hr b => dv_lying fx (has_check_ledger fx) (has_check_where fx) (has_lying_at_end fx) hr b
theorem has_came (fx : Fx fa fn exB K mg) : Has P w K mg base 5 "came" s27 ps_came (sp_came (He.ga K)) :=
  has_b true (rd_came (He.ga K)) fx 27 27 rfl rfl rfl sc_came (by unfold sp_came; rfl) fun f cdv A outer s H E hr b => dv_came fx (has_check_ledger fx) (has_check_some fx) (has_came_of fx) hr b
theorem has_begun (fx : Fx fa fn exB K mg) : Has P w K mg base 5 "begun" s28 ps_begun (sp_begun (He.ga K)) :=
  has_b true (rd_begun (He.ga K)) fx 28 28 rfl rfl rfl sc_begun (by unfold sp_begun; rfl) fun f cdv A outer s H E hr b => dv_begun fx (has_check_ledger fx) (has_check_moment fx) hr b
theorem has__law_owners (fx : Fx fa fn exB K mg) : Has P w K mg base 5 "_law_owners" s35 ps__law_owners (sp__law_owners) :=
  has_b true (rd__law_owners) fx 35 35 rfl rfl rfl sc__law_owners (by unfold sp__law_owners; rfl) fun f cdv A outer s H E hr b => dv__law_owners fx (has__law_names_of fx) hr b
theorem has__law_places (fx : Fx fa fn exB K mg) : Has P w K mg base 5 "_law_places" s36 ps__law_places (sp__law_places) :=
  has_b true (rd__law_places) fx 36 36 rfl rfl rfl sc__law_places (by unfold sp__law_places; rfl) fun f cdv A outer s H E hr b => dv__law_places fx (has__law_names_of fx) hr b
theorem has__law_ledger (fx : Fx fa fn exB K mg) : Has P w K mg base 5 "_law_ledger" s39 ps__law_ledger (sp__law_ledger) :=
  has_b true (rd__law_ledger) fx 39 39 rfl rfl rfl sc__law_ledger (by unfold sp__law_ledger; rfl) fun f cdv A outer s H E hr b => dv__law_ledger fx (has__law_entry fx) (has__law_behind fx) hr b
theorem has__law_is_told_right (fx : Fx fa fn exB K mg) : Has P w K mg base 6 "_law_is_told_right" s49 ps__law_is_told_right (sp__law_is_told_right (He.ga K)) :=
  has_b true (rd__law_is_told_right (He.ga K)) fx 49 49 rfl rfl rfl sc__law_is_told_right (by unfold sp__law_is_told_right; rfl) fun f cdv A outer s H E hr b => dv__law_is_told_right fx (has__law_owners_of fx) (has__law_places_of fx) (has__law_balances fx) (has_owners fx) (has_places fx) (has__law_take fx) (has_balance fx) (has_begun fx) (has_is_ledger fx) (has__law_lot fx) (has_others fx) (has__law_others fx) (has_came fx) (has__law_came fx) (has_lying fx) (has__law_lying fx) hr b
theorem has_law (fx : Fx fa fn exB K mg) : Has P w K mg base 7 "law" s50 ps_law (sp_law (He.ga K)) :=
  has_b true (rd_law (He.ga K)) fx 50 50 rfl rfl rfl sc_law (by unfold sp_law; rfl) fun f cdv A outer s H E hr b => dv_law fx (has__law_begun fx) (has__law_take fx) (has__law_owners fx) (has__law_places fx) (has__law_ledger fx) (has_is_ledger fx) (has__law_is_told_right fx) (has__law_bent fx) (has__law_is_ledger fx) (has_owners fx) (has_lying fx) hr b
end
theorem walk_ofW {l : PySem.W.OpenLaw} {n k : Nat} {q : Program} {loose : List Str} {XP : (Str → Option Value) → Heap → Prop} {YP : World → Heap → Prop} {d : DefRec} {CX : World → CXT} {x : Str}
    (hn : l.most = some n) (hn2 : n ≤ sizeLine) (hdf : d.params.defaults = []) (hr : Room k callerA)
    (F : ∀ (w : World) (mg : Str → Option Value) (fa : Addr) (h : Heap), YP w h → h.Ns mainGlobals mg → mg d.name = some (.ref fa) →
      ∃ (K : PySem.W.Frag) (fd : FuncData) (sp : Sp), K.In h ∧ (∀ (s : Shared) (u : Value), BindsTo s fd ⟨[u], []⟩ [(x, u)]) ∧
        (∀ (H : Hp) (a : Addr) (ns : List Int), ns.length ≤ n → Only H → SqL K H a (ns.map V.int) → sp [.ref a] H (fun v _ => v = .bl true) fun _ _ _ => False) ∧
        ∀ base : Heap, K.In base → base.Ns mainGlobals mg → FnOk l.prog w K mg base (CX w) k fa fd [x] sp)
    (hCX : ∀ (w : World) (H : Hp) (s : Shared) (e : Value) (s' : Shared), CX w [] H s (fun _ _ _ => False) e s' → False) :
    PySem.W.WalkO q loose XP YP l.row.toRowW d [] (fun f vs => PySem.call f vs) := by
  refine Att.attach_call hn hdf fun w s₀ s₁ mg mb fa o pm cd doc a vs ns G Y ho hd hcd hmg hobj hints hlen hg => ?_
  obtain ⟨K, fd, sp, KX, hb, hsp, hF⟩ := F w mg fa _ Y G.T.g hmg
  exact law_call KX G.T.g G.T.b G.T.builtins G.T.nolimit hg hobj hints (Nat.le_trans hlen hn2) hr hF hb (fun H hO hS => hsp H a ns hlen hO hS) fun H e s' => hCX w H s₁ e s'
theorem sp_start {K : PySem.W.Frag} {g : DSp} {H : Hp} {a : Addr} {ns : List Int} (hS : SqL K H a (ns.map V.int)) (h : ∀ Q Ex, (∀ S', Q (.bl true) S') → g [.scr ns] [] Q Ex) : liftSp K g [.ref a] H (fun v _ => v = .bl true) fun _ _ _ => False := by
  refine ⟨⟨H, [], fun _ => none⟩, [], [.scr ns], .cons ⟨a, rfl, hS⟩ .nil, ⟨Same.refl _, rfl, List.nodup_nil, fun l o e => (by simp at e), fun a o e => (by cases e)⟩, fun d _ => d = .bl true, fun _ _ => False, h _ _ fun _ => rfl, fun W' S' H' d v l rl r e => ?_, fun _ _ _ _ _ _ _ _ _ z => z.elim⟩
  subst e
  exact r
abbrev R : PySem.W.OpenRow := PySem.W.OpenLaw.row PySem.Challenge.rw_mixedmoney_k10_whole_ledgers_and_balance
abbrev hk : PySem.W.Hook := He.hookX 5 fa fn noTab noDfn exB
def ob (s : PySem.W.SharedT) : He.AlX := He.obsX 5 fa fn noTab noDfn exB (HandSHeadRun.getT s)
theorem ob_eq (s : PySem.W.SharedT) : ob s = hk.obs s.abs := He.obsX_eq (HandSHeadRun.getT_eq s)
def nm0 : List PySem.Str := ["__name__", "MoneyError", "BadLedger", "BadMoment", "BadPlace", "BadSome", "BadWhere", "KEPT", "LETTERS", "is_name", "is_number", "is_word", "is_row", "are_ascending"]
def nm1 : List PySem.Str := ["is_lot_of", "ENTRIES", "NAMES", "HIGH", "is_entry", "owners_in", "places_in", "behind", "balances_of", "is_ledger", "check_ledger", "owners_of", "places_of", "check_some"]
def nm2 : List PySem.Str := ["check_where", "check_place", "check_moment", "others_of", "lying_at_end", "came_of", "owners", "places", "others", "balance", "lying", "came", "begun", "_law_begun"]
def nm3 : List PySem.Str := ["_law_mixed", "_law_take", "_law_pick", "_law_shuffled", "_law_names_of", "_law_owners", "_law_places", "_law_behind", "_law_entry", "_law_ledger", "_law_owners_of", "_law_places_of", "_law_balances", "_law_lot"]
def nm4 : List PySem.Str := ["_law_others", "_law_lying", "_law_came", "_law_is_ledger", "_law_bent", "_law_is_told_right"]
def names : List PySem.Str := nm0 ++ nm1 ++ nm2 ++ nm3 ++ nm4
theorem run (w : World) : HandSHeadRun.RunEq R (PySem.W.view R.prog [65]) hk ob 4000 names w := by
  intro os
  kernel_rfl
theorem lawH {K : PySem.W.Frag} {mg : Str → Option Value} {w : World} {h : Heap} {f : Addr} (X : K.In h) (G : h.Ns mainGlobals mg) (hfa : mg ("law" : Str) = some (.ref f)) (c : He.SaysX fa fn noTab noDfn exB w h K) :
    ∃ fd : FuncData, (∀ (s : Shared) (v : Value), BindsTo s fd ⟨[v], []⟩ [("script", v)]) ∧ ∀ base : Heap, FnOk (PySem.Challenge.rw_mixedmoney_k10_whole_ledgers_and_balance).prog w K mg base (L2.CX (PySem.Challenge.rw_mixedmoney_k10_whole_ledgers_and_balance).prog w) 7 f fd ["script"] (liftSp K (sp_law (He.ga K))) := by
  have fx : Fx fa fn exB K mg := ⟨w, h, X, G, c⟩
  obtain ⟨fd, F⟩ := fx.d 50 rfl
  have b := FunD.bindsA (ps := ["script"]) F fun _ _ _ _ _ _ us hl => match us, hl with | [_], _ => rfl
  have hm := fx.g 50 (x := "law") rfl
  have hm : mg "law" = some (.ref (He.fAd K ("law", none))) := hm
  rw [hm] at hfa
  cases hfa
  refine ⟨fd, fun s v => b s [v] rfl, fun base => ?_⟩
  obtain ⟨f', fd', F1, m1, FD⟩ := (has_law (P := (PySem.Challenge.rw_mixedmoney_k10_whole_ledgers_and_balance).prog) (w := w) (base := base) fx).ex
  rw [hm] at m1
  cases m1
  obtain ⟨_, _, _, _, _, _, _, _, _, _, _, l1, _⟩ := F.ex
  obtain ⟨_, _, _, _, _, _, _, _, _, _, _, l2, _⟩ := FD.ex
  have e := l1.symm.trans l2
  have e2 : fd = fd' := by
    injection e with e
    injection e with _ _ e _
    injection e
  rw [e2]
  exact F1
end DL
open PySem PySem.W PySem.Calls PyProof.Rows
theorem PySem.Challenge.cw_mixedmoney_k10_whole_ledgers_and_balance_holds : PySem.Challenge.rw_mixedmoney_k10_whole_ledgers_and_balance.Holds := by
  w_on; o_law
  refine HandSHeadRun.head_any (r := OpenLaw.row PySem.Challenge.rw_mixedmoney_k10_whole_ledgers_and_balance) (q := view (OpenLaw.row PySem.Challenge.rw_mixedmoney_k10_whole_ledgers_and_balance).prog [65]) (H := DL.hk) (ob := DL.ob) (M := 4000) (loose := DL.names) (d := HandSHeadRun.topDef (OpenLaw.row PySem.Challenge.rw_mixedmoney_k10_whole_ledgers_and_balance).prog 65) (kwd := []) DL.ob_eq
    (by kernel_rfl) (fun s => by kernel_rfl) DL.run (by kernel_rfl) (by kernel_rfl) (by kernel_rfl) (by rfl) (by first | assumption | decide +kernel) (by decide +kernel) ⟨rfl, rfl, rfl, rfl, rfl, by decide +kernel⟩ ?hw ?hc
  case hw => w_witness2
  case hc =>
    refine DL.walk_ofW (l := PySem.Challenge.rw_mixedmoney_k10_whole_ledgers_and_balance) (n := 63) (k := 7) (x := "script") (CX := fun w => L2.CX (PySem.Challenge.rw_mixedmoney_k10_whole_ledgers_and_balance).prog w) rfl (by decide) (by kernel_rfl) ⟨rfl, by decide, by decide⟩ ?F (fun w H s e s' ⟨_, _, _, _, _, _, _, _, _, _, _, _, z⟩ => z)
    intro w mg fa h Y G hmg0
    obtain ⟨K, KX, c⟩ := Y
    have hmg : mg ("law" : PySem.Str) = some (.ref fa) := by
      have e : (HandSHeadRun.topDef (OpenLaw.row PySem.Challenge.rw_mixedmoney_k10_whole_ledgers_and_balance).prog 65).name = ("law" : PySem.Str) := by kernel_rfl
      rw [← e]
      exact hmg0
    obtain ⟨fd, hb, hF⟩ := DL.lawH (w := w) KX G hmg c
    exact ⟨K, fd, _, KX, hb, fun H a ns hl _ hS => DL.sp_start hS fun Q Ex q => DL.u_law hl q, fun base _ _ => hF base⟩

