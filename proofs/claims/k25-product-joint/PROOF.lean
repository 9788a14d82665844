import PyProof.Rows.All
import PyProof.Rows.SortStr
import PyProof.Rows.TmSorted
import Wide.All
import OpenK.AllK
import Wide.FinOn
import HandS.ForMost
import HandS.Set
import HandS.Strs
import HandS.SetFor
import HandS.FStr
import PyProof.ReprLen
import PyProof.ReprRoads
import HandS.EndBits
import PyProof.ReprNest
import OpenK.KMeth
import HandS.DictTup
import KE.SortData
import PyProof.StrLawsRepr
import HandS.TupMul
import HandS.DictComp
import HandS.Walk
import HandS.IsInst
import HandS.Property
import HandS.Flow
import PyProof.StrOps2
import PySem.Challenge.RW_vouchchains_k25_whole_product_and_joint
import HandS.Defaults
import HandS.Evl
import HandS.Text
import HandS.Style
import HandS.ForDict
set_option Elab.async false
set_option linter.all false
/-! The order of texts, sorted lists of different texts. -/
namespace VC
open PySem PyProof.Rows

def lts (a b : Str) : Prop := a.cps.toList < b.cps.toList
instance (a b : Str) : Decidable (lts a b) := by unfold lts; infer_instance
theorem lts_irrefl (a : Str) : ¬ lts a a := List.lt_irrefl _
theorem lts_trans {a b c : Str} (h : lts a b) (h' : lts b c) : lts a c := List.lt_trans h h'
theorem str_ext {a b : Str} (h : a.cps.toList = b.cps.toList) : a = b := by
  cases a; cases b
  simp only [Array.toList_inj] at h
  rw [h]
theorem lts_tri (a b : Str) : lts a b ∨ a = b ∨ lts b a := by
  by_cases h : lts a b
  · exact .inl h
  · by_cases h' : lts b a
    · exact .inr (.inr h')
    · exact .inr (.inl (str_ext (List.le_antisymm (List.not_lt.mp h') (List.not_lt.mp h))))
theorem lts_asymm {a b : Str} (h : lts a b) : ¬ lts b a := fun q => lts_irrefl _ (lts_trans h q)

/-- ascending, all different -/
def Up (l : List Str) : Prop := l.Pairwise lts
theorem Up.nil : Up [] := List.Pairwise.nil
theorem Up.nodup {l : List Str} (h : Up l) : l.Nodup := by
  refine List.Pairwise.imp ?_ h
  intro a b q e
  subst e
  exact lts_irrefl a q
theorem Up.one (x : Str) : Up [x] := List.pairwise_singleton ..
theorem up_ext : ∀ {l l' : List Str}, Up l → Up l' → (∀ x, x ∈ l ↔ x ∈ l') → l = l'
  | [], [], _, _, _ => rfl
  | [], y :: r, _, _, m => absurd ((m y).2 List.mem_cons_self) (by simp)
  | x :: r, [], _, _, m => absurd ((m x).1 List.mem_cons_self) (by simp)
  | x :: r, y :: t, h, h', m => by
    obtain ⟨h1, h2⟩ := List.pairwise_cons.mp h
    obtain ⟨g1, g2⟩ := List.pairwise_cons.mp h'
    have e : x = y := by
      rcases List.mem_cons.mp ((m x).1 List.mem_cons_self) with e | e
      · exact e
      · rcases List.mem_cons.mp ((m y).2 List.mem_cons_self) with q | q
        · exact q.symm
        · exact absurd (g1 x e) (lts_asymm (h1 y q))
    subst e
    have nx : x ∉ r := fun q => lts_irrefl _ (h1 x q)
    have ny : x ∉ t := fun q => lts_irrefl _ (g1 x q)
    rw [up_ext h2 g2 fun z => ?_]
    constructor
    · intro q
      rcases List.mem_cons.mp ((m z).1 (List.mem_cons_of_mem _ q)) with e | e
      · exact absurd (e ▸ q) nx
      · exact e
    · intro q
      rcases List.mem_cons.mp ((m z).2 (List.mem_cons_of_mem _ q)) with e | e
      · exact absurd (e ▸ q) ny
      · exact e
/-- one more -/
def ins (x : Str) : List Str → List Str
  | [] => [x]
  | y :: r => if lts x y then x :: y :: r else if x = y then y :: r else y :: ins x r
theorem mem_ins {x z : Str} : ∀ {l : List Str}, z ∈ ins x l ↔ z = x ∨ z ∈ l
  | [] => by simp [ins]
  | y :: r => by
    unfold ins
    split
    · simp
    · split
      · rename_i e
        subst e
        simp
      · rw [List.mem_cons, mem_ins, List.mem_cons]
        constructor
        · rintro (h | h | h) <;> simp [h]
        · rintro (h | h | h) <;> simp [h]
theorem ins_up {x : Str} : ∀ {l : List Str}, Up l → Up (ins x l)
  | [], _ => Up.one x
  | y :: r, h => by
    obtain ⟨h1, h2⟩ := List.pairwise_cons.mp h
    unfold ins
    split
    · rename_i hx
      exact List.pairwise_cons.mpr ⟨fun z hz => (List.mem_cons.mp hz).elim (fun e => e ▸ hx) fun q => lts_trans hx (h1 z q), h⟩
    · rename_i hx
      split
      · exact h
      · rename_i hn
        refine List.pairwise_cons.mpr ⟨fun z hz => ?_, ins_up h2⟩
        rcases mem_ins.mp hz with e | q
        · subst e
          exact ((lts_tri z y).resolve_left hx).resolve_left hn
        · exact h1 z q
/-- sorted(set(xs)) -/
def sd (xs : List Str) : List Str := xs.foldr ins []
theorem sd_up (xs : List Str) : Up (sd xs) := by
  induction xs with
  | nil => exact Up.nil
  | cons x r ih => exact ins_up ih
theorem mem_sd {x : Str} {xs : List Str} : x ∈ sd xs ↔ x ∈ xs := by
  induction xs with
  | nil => simp [sd]
  | cons y r ih =>
    show x ∈ ins y (sd r) ↔ _
    rw [mem_ins, ih, List.mem_cons]
theorem sd_eq {xs ys : List Str} (h : Up ys) (m : ∀ x, x ∈ ys ↔ x ∈ xs) : ys = sd xs := up_ext h (sd_up xs) fun x => (m x).trans mem_sd.symm
theorem sd_congr {xs ys : List Str} (m : ∀ x, x ∈ xs ↔ x ∈ ys) : sd xs = sd ys := up_ext (sd_up xs) (sd_up ys) fun x => by rw [mem_sd, mem_sd, m]
theorem sd_self {xs : List Str} (h : Up xs) : sd xs = xs := (sd_eq h fun _ => Iff.rfl).symm
theorem sd_sd (xs : List Str) : sd (sd xs) = sd xs := sd_self (sd_up xs)
theorem sd_len_ins (x : Str) : ∀ l : List Str, (ins x l).length ≤ l.length + 1
  | [] => Nat.le_refl _
  | y :: r => by
    unfold ins
    split
    · exact Nat.le_refl _
    · split
      · exact Nat.le_succ _
      · have := sd_len_ins x r
        simp only [List.length_cons]; omega
theorem sd_len (xs : List Str) : (sd xs).length ≤ xs.length := by
  induction xs with
  | nil => exact Nat.le_refl _
  | cons x r ih =>
    show (ins x (sd r)).length ≤ _
    have := sd_len_ins x (sd r)
    simp only [List.length_cons]; omega

/-! what the library's sort says -/
theorem rising_up : ∀ {l : List Str} {p : Str}, risingS p l = true → (p :: l).Nodup → Up (p :: l)
  | [], p, _, _ => Up.one p
  | x :: r, p, h, nd => by
    have h' : (!PySem.Spec.ltCps x.cps.toList p.cps.toList && risingS x r) = true := h
    rw [Bool.and_eq_true] at h'
    obtain ⟨n1, n2⟩ := List.nodup_cons.mp nd
    have u := rising_up h'.2 n2
    have hlt : lts p x := by
      have q := h'.1
      rw [ltCps_eq] at q
      have q' : ¬ lts x p := fun z => by
        have z' : decide (x.cps.toList < p.cps.toList) = true := decide_eq_true z
        rw [z'] at q
        cases q
      rcases lts_tri p x with z | z | z
      · exact z
      · exact absurd (z ▸ List.mem_cons_self) n1
      · exact absurd z q'
    refine List.pairwise_cons.mpr ⟨fun z hz => ?_, u⟩
    rcases List.mem_cons.mp hz with e | e
    · exact e ▸ hlt
    · exact lts_trans hlt ((List.pairwise_cons.mp u).1 z e)
theorem sortedS_up : ∀ {l : List Str}, sortedS l = true → l.Nodup → Up l
  | [], _, _ => Up.nil
  | _ :: _, h, nd => rising_up h nd
end VC
set_option Elab.async false
set_option linter.all false
set_option maxRecDepth 100000
set_option maxHeartbeats 4000000
/-! Sets of texts: set(xs) of a list or a tuple, len of it, sorted of it. Turned from the layer's rules for ints. -/
namespace VC
open PySem PySem.Spec PyProof.Rows L2

def tkey (e : Int × Value) : Str := match e.2 with | .str k _ => k | _ => Str.empty
def TGood (w : World) (e : Int × Value) : Prop := ∃ k tk, e.2 = Value.str k tk ∧ e.1 = hashStr w k
/-- the set of texts at a: its members are those of xs -/
def TSet (w : World) (h : Heap) (a : Addr) (S : Str → Prop) (n : Nat) : Prop :=
  ∃ o es ep t, h.get? a = some o ∧ o.ExactSet ∧ o.data = .set es ep t ∧ (∀ e ∈ es.toList, TGood w e) ∧ (es.toList.map tkey).Nodup ∧ (∀ k, S k ↔ k ∈ es.toList.map tkey) ∧
    es.size < scanBound ∧ t.fits es.size = true ∧ es.size = n ∧ Ris t.place.toList ∧ (w.params.followText "set-order" = true ∨ t.led = true)
section
variable {P : Program} {w : World} {h h' : Heap} {a : Addr} {S : Str → Prop} {n : Nat}
theorem TSet.at (R : TSet w h a S n) (k : ∀ o, h.get? a = some o → h'.get? a = some o) : TSet w h' a S n := by
  obtain ⟨o, es, ep, t, ho, r⟩ := R
  exact ⟨o, es, ep, t, k o ho, r⟩
theorem TSet.congr {S' : Str → Prop} (R : TSet w h a S n) (e : ∀ k, S' k ↔ S k) : TSet w h a S' n := by
  have q : S' = S := funext fun k => propext (e k)
  rw [q]; exact R
theorem tgood_elems {l : List (Int × Value)} (g : ∀ e ∈ l, TGood w e) : ElemsOf (PySem.strKind P w) l := fun e he => by
  obtain ⟨k, tk, h1, h2⟩ := g e he
  exact ⟨⟨k, by rw [h1]; exact strKind_is P w k tk, h2⟩, by rw [h1] <;> rfl⟩
theorem tgood_is {e : Int × Value} (g : TGood w e) (k : Str) : (PySem.strKind P w).is k e.2 = true ↔ tkey e = k := by
  obtain ⟨k0, tk, h1, _⟩ := g
  have e2 : tkey e = k0 := by unfold tkey; rw [h1]
  rw [e2, h1]
  constructor
  · intro q
    exact ((PySem.strKind P w).inj _ _ _ (strKind_is P w k0 tk) q)
  · rintro rfl
    exact strKind_is P w k0 tk
theorem tgood_mem {l : List (Int × Value)} (g : ∀ e ∈ l, TGood w e) (k : Str) : k ∈ l.map tkey ↔ ∃ e ∈ l, (PySem.strKind P w).is k e.2 = true := by
  rw [List.mem_map]
  exact ⟨fun ⟨e, he, q⟩ => ⟨e, he, (tgood_is (g e he) k).2 q⟩, fun ⟨e, he, q⟩ => ⟨e, he, (tgood_is (g e he) k).1 q⟩⟩
end
section
variable {P : Program} {w : World} {A : Around} {E : Value → Shared → Prop} {s : Shared} {a : Addr} {S : Str → Prop} {n : Nat}
theorem tset_tail {g : Bool → Sem Unit} (hg : ∀ (b : Bool) (s₁ : Shared) (Q' : Unit → Shared → Prop), Q' () s₁ → wpAny (model P w) A (g b) Q' E s₁)
    {o : Obj} {es : Array (Int × Value)} {ep : Nat} {t : SetTable} (ho : s.heap.get? a = some o) (hex : o.ExactSet) (hd : o.data = .set es ep t)
    {es1 : Array (Int × Value)} {t2 : SetTable} {S' : Str → Prop} (g1 : ∀ e ∈ es1.toList, TGood w e) (nd1 : (es1.toList.map tkey).Nodup) (m1 : ∀ k, S' k ↔ k ∈ es1.toList.map tkey)
    (hb1 : es1.size < scanBound) (hf2 : t2.fits es1.size = true) (hr : Ris t2.place.toList) (hl : w.params.followText "set-order" = true ∨ t2.led = true) {wasDummy : Bool} {R : Option Bool → Shared → Prop}
    (hR : ∀ h', Heap.SameBut a s.heap h' → TSet w h' a S' es1.size → R (some true) { s with heap := h' }) :
    wpAny (model P w) A (do
        storeSet a es1 t2
        if (!wasDummy && t2.tooFull) = true then do
            g (relayAll t2 es1 (SetTable.grown es1.size)).2.2
            storeSet a (relayAll t2 es1 (SetTable.grown es1.size)).1 (relayAll t2 es1 (SetTable.grown es1.size)).2.1
            pure (some true)
          else pure (some true)) R E s := by
  refine wpAny_bind (wpAny_storeSet_of ho hd ?_ (fits_of_scanBound hb1))
  have ho1 := store_at (es' := es1) (t' := t2) ho hd
  have sb1 := Heap.SameBut.update s.heap a (Obj.putSet es1 t2)
  split
  · have pm := relayAll_perm t2 es1 (SetTable.grown es1.size)
    have hf3 := relayAll_fits t2 es1 (SetTable.grown es1.size)
    have hr3 := relayAll_ris t2 es1 (SetTable.grown es1.size)
    have hl3 := relayAll_led t2 es1 (SetTable.grown es1.size)
    generalize relayAll t2 es1 (SetTable.grown es1.size) = Z at pm hf3 hr3 hl3 ⊢
    obtain ⟨es2, t3, gave⟩ := Z
    dsimp only at pm hf3 hr3 hl3 ⊢
    have hsz : es2.size = es1.size := by rw [← Array.length_toList, pm.length_eq, Array.length_toList]
    have hb2 : es2.size < scanBound := by rw [hsz]; exact hb1
    refine wpAny_bind (hg _ _ _ ?_)
    refine wpAny_bind (wpAny_storeSet_of ho1 rfl ?_ (fits_of_scanBound hb2))
    have ho2 := store_at (es' := es2) (t' := t3) ho1 rfl
    refine wpAny_pure (hR _ (sb1.trans (Heap.SameBut.update _ a _)) ?_)
    exact ⟨_, es2, _, t3, ho2, hex, rfl, fun e he => g1 e (pm.mem_iff.mp he), (pm.map tkey).nodup_iff.mpr nd1, fun k => (m1 k).trans (pm.map tkey).mem_iff.symm, hb2, hf3, hsz, hr3,
      hl.imp id fun z => by rw [hl3]; exact z⟩
  · exact wpAny_pure (hR _ sb1 ⟨_, es1, _, t2, ho1, hex, rfl, g1, nd1, m1, hb1, hf2, rfl, hr, hl⟩)

theorem tset_add {k : Str} {tk : Tok} {Q : Bool → Shared → Prop} (R : TSet w s.heap a S n) (room : n + 1 < scanBound)
    (hQ : ∀ h' b n', Heap.SameBut a s.heap h' → TSet w h' a (fun j => S j ∨ j = k) n' → n' ≤ n + 1 → Q b { s with heap := h' }) :
    wpAny (model P w) A (setAddHashed a (.str k tk) ((PySem.strKind P w).hash k)) Q E s := by
  obtain ⟨o, es, ep, t, ho, hex, hd, g, nd, hm, hb, hf, hn, hr, hl⟩ := R
  have hkey : (PySem.strKind P w).is k (.str k tk) = true := strKind_is P w k tk
  have hsc : (Value.str k tk).scannable = true := rfl
  have hel : ElemsOf (PySem.strKind P w) es.toList := tgood_elems g
  unfold setAddHashed setAddHashedIn
  refine wpAny_holding (wpAny_bind (wpAny_setState_of ho hd hf ?_))
  dsimp only
  rw [byScan_of hsc hb hel]
  simp only [↓reduceIte]
  unfold setAddByScan
  refine wpAny_bind ?_
  refine wpAny_bind (wpAny_rule ?_)
  refine wpAny_bind (wpAny_setScan_of hkey ho hd hf hel ?_)
  cases hfi : List.findIdx? (fun e => (PySem.strKind P w).is k e.2) es.toList with
  | some j =>
    dsimp only
    obtain ⟨hj, pj, _⟩ := List.findIdx?_eq_some_iff_getElem.mp hfi
    have hSk : S k := (hm k).2 ((tgood_mem (P := P) (w := w) g k).2 ⟨es.toList[j], List.getElem_mem hj, pj⟩)
    refine wpAny_pure (wpAny_pure ?_)
    exact hQ s.heap _ n (Heap.SameBut.refl a s.heap) ⟨o, es, ep, t, ho, hex, hd, g, nd, fun i => by
      rw [← hm i]
      exact ⟨fun z => z.elim id (fun e => e ▸ hSk), .inl⟩, hb, hf, hn, hr, hl⟩ (Nat.le_succ _)
  | none =>
    dsimp only
    have hnk : k ∉ es.toList.map tkey := fun z => by
      obtain ⟨e, he, q⟩ := (tgood_mem (P := P) (w := w) g k).1 z
      have c := List.findIdx?_eq_none_iff.mp hfi e he
      rw [q] at c
      cases c
    have hgw : ∀ (b : Bool) {s₁ : Shared} {Q' : Unit → Shared → Prop}, Q' () s₁ → wpAny (model P w) A (match b with | true => rule "set.scan.the-table-gave-way" | false => pure ()) Q' E s₁ :=
      fun b s₁ Q' q => by cases b <;> first | exact wpAny_pure q | exact wpAny_rule q
    have pm := layNew_perm t es ((PySem.strKind P w).hash k) (.str k tk)
    have hf1 := layNew_fits t es ((PySem.strKind P w).hash k) (.str k tk)
    have hr1 := layNew_ris t es ((PySem.strKind P w).hash k) (.str k tk) hr
    have hl1 := layNew_led t es ((PySem.strKind P w).hash k) (.str k tk)
    generalize layNew t es ((PySem.strKind P w).hash k) (.str k tk) = Z at pm hf1 hr1 hl1 ⊢
    obtain ⟨es1, t1, wasDummy, gave⟩ := Z
    dsimp only at pm hf1 hr1 hl1 ⊢
    rw [Array.toList_push] at pm
    have pc : es1.toList.Perm (((PySem.strKind P w).hash k, Value.str k tk) :: es.toList) := pm.trans (List.perm_append_singleton _ _)
    have pk : (es1.toList.map tkey).Perm (k :: es.toList.map tkey) := pc.map tkey
    have g1 : ∀ e ∈ es1.toList, TGood w e := fun e he => by
      rcases List.mem_cons.mp (pc.mem_iff.mp he) with z | z
      · rw [z]; exact ⟨k, tk, rfl, rfl⟩
      · exact g e z
    have nd1 : (es1.toList.map tkey).Nodup := pk.nodup_iff.mpr (List.nodup_cons.mpr ⟨hnk, nd⟩)
    have m1 : ∀ i, (S i ∨ i = k) ↔ i ∈ es1.toList.map tkey := fun i => by
      rw [hm i, pk.mem_iff, List.mem_cons]
      exact Or.comm
    have hsz : es1.size = n + 1 := by rw [← Array.length_toList, pc.length_eq, List.length_cons, Array.length_toList, hn]
    have hb1 : es1.size < scanBound := by rw [hsz]; exact room
    have hled : w.params.followText "set-order" = true ∨ t1.led = true := hl.imp id fun z => by rw [hl1]; exact z
    have fin : ∀ h', Heap.SameBut a s.heap h' → TSet w h' a (fun j => S j ∨ j = k) es1.size → Q true { s with heap := h' } := fun h' sb r =>
      hQ h' true es1.size sb r (Nat.le_of_eq hsz)
    refine wpAny_bind (hgw _ ?_)
    split
    · refine wpAny_bind ?_
      rw [hashByValue_scannable 8 hsc]
      refine wpAny_pure ?_
      refine tset_tail ?_ ho hex hd g1 nd1 m1 hb1 ?_ ?_ ?_ ?_
      · intro b s₁ Q' q; cases b <;> first | exact wpAny_pure q | exact wpAny_rule q
      · first | (split <;> first | exact hf1 | exact SetTable.fits_plain_off hf1) | exact hf1
      · first | (split <;> exact hr1) | exact hr1
      · first | (split <;> exact hled) | exact hled
      · intro h' sb r; dsimp only; exact wpAny_pure (fin h' sb r)
    · refine wpAny_bind (wpAny_pure ?_)
      simp only [↓reduceIte]
      refine tset_tail ?_ ho hex hd g1 nd1 m1 hb1 hf1 hr1 hled ?_
      · intro b s₁ Q' q; cases b <;> first | exact wpAny_pure q | exact wpAny_rule q
      · intro h' sb r; dsimp only; exact wpAny_pure (fin h' sb r)
theorem tset_fresh {h : Heap} {w : World} {a : Addr} (ho : h.get? a = some { cls := .type "set", dict := none, data := .set #[] 0 (.fresh 0 0 (!w.params.followText "set-order")) }) : TSet w h a (fun _ => False) 0 :=
  ⟨_, #[], 0, _, ho, ⟨rfl, rfl, rfl⟩, rfl, (fun e he => by simp at he), (by simp), (fun k => by simp), (by decide), (by rfl), rfl, List.Pairwise.nil, by
    show _ ∨ (!w.params.followText "set-order") = true
    cases w.params.followText "set-order"
    · exact .inr rfl
    · exact .inl rfl⟩
theorem tset_update {I : Addr} {fp wr : List Addr} {G : Array GenState → Array GenState → Prop} {n : Nat} {Pv : Nat → Value → Prop} {St : Nat → Shared → Prop} {R : Result → Shared → Prop}
    (W : WalksS P w A.in1 I fp wr G n Pv St) (S : Addr) (hSf : S ∉ fp) (xs : List Str) (hn : n = xs.length) (hb : xs.length + 1 < scanBound) (hval : ∀ i v, Pv i v → ∃ k t, xs[i]? = some k ∧ v = .str k t) :
    ∀ (k i : Nat) (s : Shared), n - i = k → i ≤ n → St i s → (∃ c, c ≤ i ∧ TSet w s.heap S (fun j => j ∈ xs.take i) c) →
      (∀ s' c, Moved (S :: wr) G s s' → c ≤ n → TSet w s'.heap S (fun j => j ∈ xs) c → R (.ok (.ret .none)) s') →
      codeAny (model P w) A (.builtin "set.update.loop" ⟨[.ref S, .ref I], []⟩) R s := by
  have hSw : S ∉ wr := fun h => hSf (W.sub _ h)
  have hsub : ∀ b ∈ wr, b ∈ S :: wr := fun b hb => List.mem_cons_of_mem _ hb
  intro k
  induction k with
  | zero =>
    intro i s hk' hi hst ⟨c, hc, hS⟩ hR
    have hin : i = n := by omega
    subst hin
    refine codeAny_builtin PyProof.Rows.F.entry_set_update_loop ?_
    rw [Around.under_plainId PyProof.Rows.F.plain_set_update_loop _]
    show wpAny _ A.in1 (pyNext (.ref I) >>= _) _ _ s
    refine wpAny_bind (W.done s _ _ hst fun s' hm => ?_)
    show wpAny _ A.in1 (ret Value.none) _ _ s'
    have e : xs.take i = xs := List.take_of_length_le (by omega)
    rw [e] at hS
    exact wpAny_pure (hR s' c (hm.mono hsub) hc (hS.at fun o e => hm.heap S o hSw e))
  | succ k ih =>
    intro i s hk' hi hst ⟨c, hc, hS⟩ hR
    have hlt : i < n := by omega
    refine codeAny_builtin PyProof.Rows.F.entry_set_update_loop ?_
    rw [Around.under_plainId PyProof.Rows.F.plain_set_update_loop _]
    show wpAny _ A.in1 (pyNext (.ref I) >>= _) _ _ s
    refine wpAny_bind (W.item i s _ _ hlt hst fun v s' hP hst' hm => ?_)
    obtain ⟨z, t, hz, rfl⟩ := hval i v hP
    have hS' : TSet w s'.heap S (fun j => j ∈ xs.take i) c := hS.at fun o e => hm.heap S o hSw e
    show wpAny _ A.in1 (holding [Value.str z t] (setAdd S (.str z t)) >>= _) _ _ s'
    refine wpAny_bind (wpAny_holding ?_)
    unfold setAdd
    refine wpAny_holding ?_
    refine wpAny_bind ((PySem.strKind P w).pyHash (k := z) (strKind_is _ _ _ _) ?_)
    refine tset_add (s := { s' with toks := s'.toks + 1 }) hS' (by omega) fun h' b n' hsb hS2 hn' => ?_
    have hS3 : TSet w h' S (fun j => j ∈ xs.take (i + 1)) n' := hS2.congr fun j => by
      rw [List.take_add_one, hz]
      simp [List.mem_append]
    refine wpAny_pure ⟨plainId_quiet PyProof.Rows.F.plain_set_update_loop _, ih (i + 1) _ (by omega) hlt (W.frame _ s' _ _ hst' (Nat.le_succ _) fun b hb o e => ?_) ⟨_, (by omega), hS3⟩ fun s'' c2 hm'' hc'' hS'' => ?_⟩
    · rw [hsb.2 b (fun h : b = S => hSf (by rw [← h]; exact hb))]; exact e
    · refine hR s'' c2 (Moved.trans W.gtrans ((hm.mono hsub).then_heap (Nat.le_succ _) fun b o hb e => ?_) hm'') hc'' hS''
      rw [hsb.2 b (fun h : b = S => hb (by rw [h]; exact List.mem_cons_self))]; exact e

/-- what is walked: a list or a tuple of texts -/
def SeqAt0 (h : Heap) (l : Addr) (items : Array Value) : Prop := h.IsList l items ∨ h.IsTuple l items
set_option maxHeartbeats 6400000 in
theorem call_set_strs {l : Addr} {items : Array Value} (xs : List Str) {Q : Value → Shared → Prop} (hh : A.handled = none) (hl : SeqAt0 s.heap l items) (hit : StrsAre items.toList xs) (hb : xs.length + 1 < scanBound)
    (h : ∀ (h' : Heap) (tk c : Nat), TSet w h' s.heap.objs.size (fun j => j ∈ xs) c → c ≤ xs.length → (∀ b o, s.heap.get? b = some o → h'.get? b = some o) → Q (.ref s.heap.objs.size) { s with heap := h', toks := tk }) :
    wpAny (model P w) A (call (.type "set") [.ref l]) Q E s := by
  have hisz : items.size = xs.length := by rw [← StrsAre.len_eq hit, Array.length_toList]
  obtain ⟨c, tl, hmro⟩ := PySem.F.called_set.mro
  have hmade := PySem.F.called_set.made
  have hsub := PySem.F.called_set.sub
  refine wpAny_call (codeAny_of_tree ?_)
  show wpAny _ _ (callAny (.type "set") _) _ _ _
  refine wpAny_pure ⟨Code.quiet_builtin _ (by decide +kernel), codeAny_builtin PySem.F.entry_type_call ?_⟩
  rw [Around.under_plain (weight_type_call_type "set" [.ref l] []) rfl]
  have h1 := PySem.F.called_set.notType
  have h2 := PySem.F.called_set.canCreate
  have hct := PySem.F.typeCall_set_1 (.ref l)
  repeat (any_goals (first | assumption | wp_step))
  refine codeAny_mono (code_set_led1 (.ref l) (E := E) (Q₁ := fun obj s₁ => obj = .ref s.heap.objs.size ∧ s₁ = { s with heap := s.heap.push { cls := .type "set", dict := none, data := .set #[] 0 (.fresh 0 0 (!w.params.followText "set-order")) } }) ⟨rfl, rfl⟩) fun r s₁ hr => ?_
  cases r with
  | error e => exact hr
  | ok fl =>
    cases fl with
    | ret obj =>
      obtain ⟨rfl, rfl⟩ := hr
      have hS : (s.heap.push { cls := .type "set", dict := none, data := .set #[] 0 (.fresh 0 0 (!w.params.followText "set-order")) }).get? s.heap.objs.size = some { cls := .type "set", dict := none, data := .set #[] 0 (.fresh 0 0 (!w.params.followText "set-order")) } := Heap.get?_push_size _ rfl
      have hT : Shared.TypeIs { s with heap := s.heap.push { cls := .type "set", dict := none, data := .set #[] 0 (.fresh 0 0 (!w.params.followText "set-order")) } } (.ref s.heap.objs.size) "set" := ⟨_, hS, rfl⟩
      have hli := PySem.F.called_set.init.lookup
      have hbi := PySem.F.called_set.init.bind (.ref s.heap.objs.size)
      repeat (any_goals (first | assumption | wp_step))
      refine codeAny_mono (codeAny_call_builtin (R := wants (fun r s₂ => r = .none ∧ ∃ h' tk c, s₂ = { s with heap := h', toks := tk } ∧ TSet w h' s.heap.objs.size (fun j => j ∈ xs) c ∧ c ≤ xs.length ∧
          (∀ b o, s.heap.get? b = some o → h'.get? b = some o)) E) PySem.F.called_set.init.plain PySem.F.entry_set_init (check_set_init_1 hT ?_)) fun r₂ s₂ hr₂ => ?_
      · have hfin : ∀ (T : String) (s' : Shared) (c' : Nat), Moved [s.heap.objs.size, (s.heap.push { cls := .type "set", dict := none, data := .set #[] 0 (.fresh 0 0 (!w.params.followText "set-order")) }).objs.size] (fun g g' => g' = g)
            { s with heap := (s.heap.push { cls := .type "set", dict := none, data := .set #[] 0 (.fresh 0 0 (!w.params.followText "set-order")) }).push { cls := .type T, data := .fields #[.ref l, .int 0 0] } } s' → c' ≤ items.size → TSet w s'.heap s.heap.objs.size (fun j => j ∈ xs) c' →
            ∃ h' tk c, s' = { s with heap := h', toks := tk } ∧ TSet w h' s.heap.objs.size (fun j => j ∈ xs) c ∧ c ≤ xs.length ∧ (∀ b o, s.heap.get? b = some o → h'.get? b = some o) := fun T s' c' hm hc' hS' => by
          obtain ⟨h', g2, d', tk', os'⟩ := s'
          have eg : g2 = s.gens := hm.gens
          have ed : d' = s.drawn := hm.drawn
          have eo : os' = s.os := hm.os
          subst eg; subst ed; subst eo
          rw [hisz] at hc'
          refine ⟨h', tk', c', rfl, hS', hc', fun b o e => ?_⟩
          have hb0 : b < s.heap.objs.size := Heap.lt_size e
          have hb1 : b ≠ s.heap.objs.size := Nat.ne_of_lt hb0
          have hb2 : b ≠ (s.heap.push { cls := .type "set", dict := none, data := .set #[] 0 (.fresh 0 0 (!w.params.followText "set-order")) }).objs.size := by
            rw [Heap.size_push]; exact Nat.ne_of_lt (Nat.lt_succ_of_lt hb0)
          exact hm.heap b o (by simp only [List.mem_cons, List.mem_singleton, List.not_mem_nil, or_false, not_or]; exact ⟨hb1, hb2⟩) (Heap.get?_push_of_some _ (Heap.get?_push_of_some _ e))
        have hval : ∀ (i : Nat) (v : Value), items[i]? = some v → ∃ k t, xs[i]? = some k ∧ v = .str k t := fun i v hv => by
          have hi : i < xs.length := by rw [← hisz]; exact (Array.getElem?_eq_some_iff.mp hv).1
          obtain ⟨t, e⟩ := SS.strs_at hit i v (by rw [Array.getElem?_toList]; exact hv)
          refine ⟨xs[i], t, List.getElem?_eq_getElem hi, ?_⟩
          rw [e, List.getD_eq_getElem?_getD, List.getElem?_eq_getElem hi] <;> rfl
        have hh3 : A.in1.in1.in1.handled = none := by simp [hh]
        have hz1 : (s.heap.push { cls := .type "set", dict := none, data := .set #[] 0 (.fresh 0 0 (!w.params.followText "set-order")) }).objs.size = s.heap.objs.size + 1 := Heap.size_push ..
        rcases hl with hl | hl
        · obtain ⟨ol, hol, hcl, nl, hdl⟩ := hl
          obtain ⟨ocls, odict, odata, oslots⟩ := ol
          simp only at hcl hdl
          subst hcl; subst hdl
          have hol' : (s.heap.push { cls := .type "set", dict := none, data := .set #[] 0 (.fresh 0 0 (!w.params.followText "set-order")) }).get? l = some { cls := .type "list", dict := odict, data := .seq items nl, slots := oslots } := Heap.get?_push_of_some _ hol
          have hsls := PySem.F.sub_list_set
          have hslf := PySem.F.sub_list_frozenset
          have hne : (Value.type "list" == Value.type "dict") = false := by decide
          have hl1 : (s.heap.push { cls := .type "set", dict := none, data := .set #[] 0 (.fresh 0 0 (!w.params.followText "set-order")) }).IsList l items := ⟨_, hol', rfl, nl, rfl⟩
          unfold Builtin.«set.__init__» noKeywords Builtin.Frozenset.updateFrom
          generalize hPI : pyIter = PI
          wp_walk
          subst hPI
          refine wpAny_pyIter_list hl1 ?_
          refine wpAny_bind (wpAny_runValue ?_)
          have hlS : l < s.heap.objs.size := Heap.lt_size hol
          have hneI : l ≠ (s.heap.push { cls := .type "set", dict := none, data := .set #[] 0 (.fresh 0 0 (!w.params.followText "set-order")) }).objs.size := by
            rw [Heap.size_push]; exact Nat.ne_of_lt (Nat.lt_succ_of_lt hlS)
          have hSf : s.heap.objs.size ∉ [(s.heap.push { cls := .type "set", dict := none, data := .set #[] 0 (.fresh 0 0 (!w.params.followText "set-order")) }).objs.size, l] := by
            rw [Heap.size_push]; simp only [List.mem_cons, List.mem_singleton, List.not_mem_nil, or_false, not_or]
            exact ⟨Nat.ne_of_lt (Nat.lt_succ_self _), Nat.ne_of_gt hlS⟩
          refine tset_update ((Walks.list hh3 _ l hneI items).toS) s.heap.objs.size
            hSf xs hisz hb hval (items.size - 0) 0 _ (by omega) (Nat.zero_le _)
            ⟨⟨_, Heap.get?_push_size _ rfl, rfl, rfl⟩, (hl1.push _)⟩ ?hS0 ?hR
          case hS0 =>
            have hget : ((s.heap.push { cls := .type "set", dict := none, data := .set #[] 0 (.fresh 0 0 (!w.params.followText "set-order")) }).push { cls := .type "list_iterator", data := .fields #[.ref l, .int 0 0] }).get? s.heap.objs.size
                = some { cls := .type "set", dict := none, data := .set #[] 0 (.fresh 0 0 (!w.params.followText "set-order")) } := Heap.get?_push_of_some _ hS
            exact ⟨0, Nat.le_refl 0, (tset_fresh hget).congr fun j => by simp⟩
          case hR =>
            intro s' c' hm hc' hS'
            show wpAny _ _ _ _ _ _
            refine wpAny_pure ?_
            show wpAny _ _ (ret Value.none) _ _ _
            exact wpAny_pure ⟨rfl, hfin _ s' c' hm hc' hS'⟩
        · obtain ⟨ol, hol, hcl, nl, hdl⟩ := hl
          obtain ⟨ocls, odict, odata, oslots⟩ := ol
          simp only at hcl hdl
          subst hcl; subst hdl
          have hol' : (s.heap.push { cls := .type "set", dict := none, data := .set #[] 0 (.fresh 0 0 (!w.params.followText "set-order")) }).get? l = some { cls := .type "tuple", dict := odict, data := .seq items nl, slots := oslots } := Heap.get?_push_of_some _ hol
          have hsls := PySem.F.sub_tuple_set
          have hslf := PySem.F.sub_tuple_frozenset
          have hne : (Value.type "tuple" == Value.type "dict") = false := by decide
          have hl1 : (s.heap.push { cls := .type "set", dict := none, data := .set #[] 0 (.fresh 0 0 (!w.params.followText "set-order")) }).IsTuple l items := ⟨_, hol', rfl, nl, rfl⟩
          unfold Builtin.«set.__init__» noKeywords Builtin.Frozenset.updateFrom
          generalize hPI : pyIter = PI
          wp_walk
          subst hPI
          refine wpAny_pyIter_tuple hl1 ?_
          refine wpAny_bind (wpAny_runValue ?_)
          have hlS : l < s.heap.objs.size := Heap.lt_size hol
          have hneI : l ≠ (s.heap.push { cls := .type "set", dict := none, data := .set #[] 0 (.fresh 0 0 (!w.params.followText "set-order")) }).objs.size := by
            rw [Heap.size_push]; exact Nat.ne_of_lt (Nat.lt_succ_of_lt hlS)
          have hSf : s.heap.objs.size ∉ [(s.heap.push { cls := .type "set", dict := none, data := .set #[] 0 (.fresh 0 0 (!w.params.followText "set-order")) }).objs.size, l] := by
            rw [Heap.size_push]; simp only [List.mem_cons, List.mem_singleton, List.not_mem_nil, or_false, not_or]
            exact ⟨Nat.ne_of_lt (Nat.lt_succ_self _), Nat.ne_of_gt hlS⟩
          refine tset_update ((Walks.tuple hh3 _ l hneI items).toS) s.heap.objs.size
            hSf xs hisz hb hval (items.size - 0) 0 _ (by omega) (Nat.zero_le _)
            ⟨⟨_, Heap.get?_push_size _ rfl, rfl, rfl⟩, (hl1.push _)⟩ ?hS0 ?hR
          case hS0 =>
            have hget : ((s.heap.push { cls := .type "set", dict := none, data := .set #[] 0 (.fresh 0 0 (!w.params.followText "set-order")) }).push { cls := .type "tuple_iterator", data := .fields #[.ref l, .int 0 0] }).get? s.heap.objs.size
                = some { cls := .type "set", dict := none, data := .set #[] 0 (.fresh 0 0 (!w.params.followText "set-order")) } := Heap.get?_push_of_some _ hS
            exact ⟨0, Nat.le_refl 0, (tset_fresh hget).congr fun j => by simp⟩
          case hR =>
            intro s' c' hm hc' hS'
            show wpAny _ _ _ _ _ _
            refine wpAny_pure ?_
            show wpAny _ _ (ret Value.none) _ _ _
            exact wpAny_pure ⟨rfl, hfin _ s' c' hm hc' hS'⟩
      · cases r₂ with
        | error e => exact hr₂
        | ok fl₂ =>
          cases fl₂ with
          | ret r =>
            obtain ⟨rfl, h', tk, c', rfl, hS', hc', hk'⟩ := hr₂
            repeat (any_goals (first | assumption | wp_step))
            exact h _ _ _ hS' hc' hk'
          | _ => exact hr₂.elim
    | _ => exact hr.elim
end
end VC
set_option Elab.async false
set_option linter.all false
set_option maxRecDepth 100000
set_option maxHeartbeats 4000000
namespace VC
open PySem PySem.Spec PyProof.Rows L2
section
variable {P : Program} {w : World} {A : Around} {E : Value → Shared → Prop} {s : Shared} {a : Addr} {S : Str → Prop} {n : Nat}
theorem TSet.setOf (R : TSet w s.heap a S n) [DecidablePred S] : s.heap.SetOf (PySem.strKind P w) a (fun k => decide (S k)) n := by
  obtain ⟨o, es, ep, t, ho, hx, hd, g, nd, hm, hb, hf, hn, _⟩ := R
  exact ⟨o, es, ep, t, ho, hx, hd, tgood_elems g, fun k => by rw [decide_eq_true_eq]; exact (hm k).trans (tgood_mem g k), hb, hf, hn⟩
theorem tset_len {xs : List Str} (R : TSet w s.heap a (fun j => j ∈ xs) n) (nd : xs.Nodup) : n = xs.length := by
  obtain ⟨o, es, ep, t, ho, hx, hd, g, ndk, hm, hb, hf, hn, _⟩ := R
  have p : (es.toList.map tkey).Perm xs := (List.perm_ext_iff_of_nodup ndk nd).mpr fun k => (hm k).symm
  rw [← hn, ← p.length_eq, List.length_map, Array.length_toList]
/-- sorted(a set of texts) -/
theorem sorted_tset {Q : Value → Shared → Prop} (R : TSet w s.heap a S n) (hh : A.handled = none) (h64 : n < 64)
    (hQ : ∀ s' p (out : Array Value) (c : Nat) (ys : List Str), (∀ b o, s.heap.get? b = some o → s'.heap.get? b = some o) → s'.gens = s.gens → s'.os = s.os → s.heap.objs.size ≤ p →
      s'.heap.get? p = some (seqObj "list" out c) → StrsAre out.toList ys → Up ys → (∀ k, k ∈ ys ↔ S k) → ys.length = n → Q (.ref p) s') :
    wpAny (model P w) A (call (.builtin "sorted") [.ref a]) Q E s := by
  obtain ⟨o, es, ep, t, ho, hex, hd, g, nd, hm, hb, hf, hn, hr, hl⟩ := R
  refine Calls.call_function_entry kind_sorted plain_sorted entry_sorted (args_sorted1 _) ?_
  unfold Builtin.«sorted»
  refine wpAny_bind (m := checkCount "sorted" 1 1 _) (wpAny_pure ?_)
  refine wpAny_bind (collect_set (A := A.in1) hh ⟨o, ho, hex.1, hd⟩ hf hb hr hl fun s1 vs k1 hz g1 o1 pm => ?_)
  have hvl : vs.length = n := by rw [pm.length_eq, List.length_map, Array.length_toList]; exact hn
  have hI : StrsAre vs (vs.map strOf) := strsAre_map vs fun v hv => by
    obtain ⟨e, he, q⟩ := List.mem_map.mp (pm.mem_iff.mp hv)
    obtain ⟨k, tk, h1, _⟩ := g e he
    exact ⟨k, tk, by rw [← q]; exact h1⟩
  have pk : (vs.map strOf).Perm (es.toList.map tkey) := by
    have q := pm.map strOf
    rw [List.map_map] at q
    exact q
  refine wpAny_bind (wpAny_newList ?_ (by rw [hvl, sizeLine_eq]; omega))
  have hoL : (s1.heap.push (seqObj "list" vs.toArray 0)).get? s1.heap.objs.size = some (seqObj "list" vs.toArray 0) := Heap.get?_push_size _ rfl
  refine wpAny_bind (wpAny_holding (wpAny_call_entry slot_list_sort ⟨_, hoL, rfl⟩ entry_list_sort
    (list_sort_treeK strKind_oneLt hoL hI.keysOf (fun v₁ v₂ rest e => keyKind_strs (by rw [← e]; exact hI)) (by rw [hvl]; exact h64) fun st' hp hs => ?_) (args_list_sort _)))
  obtain ⟨ys, a1, a2, a3⟩ := sorted_out_str hI hp hs
  refine ⟨_, rfl, ?_⟩
  obtain ⟨c, hc⟩ := sortedHeap_at (vs := vs) (out := (arrOf st').map (·.2)) hoL
  have pn : ys.Perm (es.toList.map tkey) := a2.trans pk
  refine wpAny_pure ⟨_, rfl, hQ _ s1.heap.objs.size ((arrOf st').map (·.2)) c ys (fun b u e => ?_) g1 o1 hz hc a1 (sortedS_up a3 (pn.nodup_iff.mpr nd)) (fun k => by rw [pn.mem_iff, ← hm k]) ?_⟩
  · have q := k1 b u e
    have hlt := Heap.lt_size q
    show (sortedHeap (s1.heap.push (seqObj "list" vs.toArray 0)) s1.heap.objs.size vs ((arrOf st').map (·.2))).get? b = some u
    rw [sortedHeap_old (Nat.ne_of_lt hlt) (by rw [size_push']; exact Nat.lt_succ_of_lt hlt)]
    exact Heap.get?_push_of_some _ q
  · rw [pn.length_eq, List.length_map, Array.length_toList]; exact hn
end
/-- the set of texts at a, tracked -/
def TSetO (w : World) (a : Addr) (S : Str → Prop) (n : Nat) : HO := .ext fun h => TSet w h a S n
section
variable {X : Cx}
theorem tsetO_new {w : World} {P : Program} {H : Hp} {h : Heap} {a : Addr} {S : Str → Prop} {n : Nat} (R : TSet w h a S n) : ObjOk P w H h a (TSetO w a S n) := by
  have ⟨o, _, _, _, ho, _⟩ := R
  exact ⟨R, ⟨o, ho⟩, fun h1 h2 p k => TSet.at p k⟩
theorem tsetO_get {pins : List (Addr × Obj)} {σ : L2.St} {H : Hp} {s : Shared} {a : Addr} {S : Str → Prop} {n : Nat} (I : Inv X pins σ H s) (ha : H a = some (TSetO X.w a S n)) : TSet X.w s.heap a S n := (I.hok a _ ha).1
/-- set(xs), xs a list or a tuple of texts -/
def rSetS (K : PySem.W.Frag) (w : World) : List V → Hp → VK → Prop := fun vs H Q => ∃ (l : Addr) (xs : List Str), vs = [V.ref l] ∧ (SqL K H l (xs.map V.str) ∨ SqT K H l (xs.map V.str)) ∧ xs.length ≤ 1000 ∧
  ∀ a n, H a = none → n ≤ xs.length → (xs.Nodup → n = xs.length) → Q (.ref a) (upd H a (TSetO w a (fun j => j ∈ xs) n))
theorem cr_setS (hc : X.calm = true) : CallR X (.type "set") (rSetS X.K X.w) := by
  intro pins s σ H vs us Q I r h
  obtain ⟨l, xs, rfl, hq, hz, q⟩ := h
  rw [Vals.ref1 r]
  have go : ∀ its : List Value, Vals (xs.map V.str) its → SeqAt0 s.heap l its.toArray → wpAny (model X.prog X.w) X.A (call (.type "set") [.ref l]) (EP X pins σ Q) X.xe s := fun its rv sq => by
    refine call_set_strs xs (I.ok.hd hc) sq (by simpa using strsAre_of rv) (by unfold scanBound; omega) fun h' tk c hS hcl hk => ?_
    have hn : H s.heap.objs.size = none := I.hok.fresh (Nat.le_refl _)
    refine ⟨.ref _, upd H s.heap.objs.size (TSetO X.w s.heap.objs.size (fun j => j ∈ xs) c), I.laid (t' := tk) hk (Nat.le_refl _) (tsetO_new hS), rfl, q _ c hn hcl fun nd => ?_⟩
    exact tset_len (s := { s with heap := h' }) hS nd
  rcases hq with hq | hq
  · obtain ⟨its, rv, pl, _⟩ := I.list hq
    exact go its rv (.inl pl.isList)
  · obtain ⟨its, rv, pl, _⟩ := I.tuple hq
    exact go its rv (.inr pl)
/-- len(set) -/
def rLenSetS (w : World) : List V → Hp → VK → Prop := fun vs H Q => ∃ (a : Addr) (xs : List Str) (n : Nat), vs = [V.ref a] ∧ H a = some (TSetO w a (fun j => j ∈ xs) n) ∧ Q (.int n) H
theorem cr_lenSetS : CallR X (.builtin "len") (rLenSetS X.w) := by
  intro pins s σ H vs us Q I r h
  obtain ⟨a, xs, n, rfl, ha, q⟩ := h
  rw [Vals.ref1 r]
  obtain ⟨o, es, ep, t, ho, hex, hd, _, _, _, hb, hf, hn, _⟩ := tsetO_get I ha
  refine call_len_set ho hex hd hf (by unfold scanBound at hb; omega) ⟨.int n, H, I.tok _, ⟨_, by rw [hn]⟩, q⟩
/-- sorted(set), fewer than 64 members -/
def rSortSetS (w : World) : List V → Hp → VK → Prop := fun vs H Q => ∃ (a : Addr) (xs : List Str) (n : Nat), vs = [V.ref a] ∧ H a = some (TSetO w a (fun j => j ∈ xs) n) ∧ n < 64 ∧
  ∀ p, H p = none → Q (.ref p) (upd H p (.lst ((sd xs).map V.str)))
theorem cr_sortSetS (hc : X.calm = true) : CallR X (.builtin "sorted") (rSortSetS X.w) := by
  intro pins s σ H vs us Q I r h
  obtain ⟨a, xs, n, rfl, ha, h64, q⟩ := h
  rw [Vals.ref1 r]
  refine sorted_tset (tsetO_get I ha) (I.ok.hd hc) h64 fun s' p out c ys k g o hp hg hi hs hm hl => ?_
  have e1 : ys = sd xs := sd_eq hs hm
  subst e1
  have hlen : ((sd xs).map V.str).length ≤ sizeLine := by rw [List.length_map, hl, sizeLine_eq]; omega
  have hn : H p = none := I.hok.fresh hp
  have J : Inv X pins σ (upd H p (.lst ((sd xs).map V.str))) { s with heap := s'.heap, gens := s'.gens, drawn := s'.drawn, toks := s'.toks } :=
    I.call (ch := []) (Un.laid k hp hn) (I.hok.laid k hp ⟨hlen, out.toList, c, vals_of_strs hi, hg⟩) (by rw [g]; exact I.bare) (fun _ z => nomatch z)
  have e : s' = { s with heap := s'.heap, gens := s'.gens, drawn := s'.drawn, toks := s'.toks } := by
    cases s'
    cases s
    cases o
    rfl
  rw [e]
  exact ⟨.ref p, _, J, rfl, q p hn⟩
end
end VC
set_option Elab.async false
set_option linter.all false
set_option maxRecDepth 100000
set_option maxHeartbeats 4000000
/-! repr of data, of truth values; the rows of a carry in an f-string. -/
namespace VC
open PySem PySem.Spec PyProof.Rows L2

/-- repr(x), x a list or a tuple of data, no repr around -/
def rReprD (X : Cx) : List V → Hp → VK → Prop := fun vs H Q => X.A.guards = some [] ∧ ∃ (a : Addr) (d : PyData), vs = [V.ref a] ∧ Dp X.K H (.ref a) d ∧ d.showable = true ∧ d.hasDict = false ∧ d.shown.length ≤ sizeLine ∧
  X.A.units + (d.depth + 1) < cLine ∧ Q (.str d.shown) H
section
variable {X : Cx}
theorem cr_reprD : CallR X (.builtin "repr") (rReprD X) := by
  intro pins s σ H vs us Q I r h
  obtain ⟨hg, a, d, rfl, hd, hs, hn, hz, hu, q⟩ := h
  rw [Vals.ref1 r]
  obtain ⟨as, rd⟩ := Dp.reads I d _ _ hd rfl
  exact repr_of_reads' rd hs (PyData.noDict_hsm hn) hg hu (fun _ _ e => e) (fun h' u tk hk => ⟨.str d.shown, H, I.kept hk, ⟨_, rfl⟩, q⟩) hz
def boolText (b : Bool) : Str := (if b then "True" else "False" : String)
theorem cr_reprB : CallR X (.builtin "repr") (fun vs H Q => ∃ b, vs = [V.bl b] ∧ Q (.str (boolText b)) H) := by
  intro pins s σ H vs us Q I r h
  obtain ⟨b, rfl, q⟩ := h
  obtain ⟨u, rfl, ru⟩ := vals1 r
  cases ru
  exact P.repr_of_bool ⟨.str (boolText b), H, I.tok _, ⟨s.toks, by cases b <;> rfl⟩, q⟩
/-! rows: tuples (word, tuple of words) -/
def RowV (H : Hp) (v : V) (r : Str × List Str) : Prop := ∃ t q, v = V.ref t ∧ H t = some (.tup [.str r.1, .ref q]) ∧ H q = some (.tup (r.2.map V.str))
def rowText (r : Str × List Str) : Str := tupleText [reprText r.1, tupleText (r.2.map reprText)]
def rowsText (rs : List (Str × List Str)) : Str := listText (rs.map rowText)
theorem reprAll_strs {P : Program} {w : World} {as : List Addr} {h : Heap} {d : Nat} : ∀ {us : List Value} {xs : List Str}, Vals (xs.map V.str) us → (∀ x ∈ xs, (reprText x).length ≤ sizeLine) → ReprAllK P w as h d us (xs.map reprText)
  | _, [], r, _ => by
    cases r
    exact .nil
  | _, x :: xs, r, hz => by
    cases r with
    | cons r1 r2 =>
      obtain ⟨t, rfl⟩ := r1
      exact .cons (.of_is (ReprIs.str x t (hz x List.mem_cons_self)) _ _ _) (reprAll_strs r2 fun y hy => hz y (List.mem_cons_of_mem _ hy))
section
variable {pins : List (Addr × Obj)} {σ : L2.St} {H : Hp} {s : Shared}
theorem repr_words (I : Inv X pins σ H s) {q : Addr} {xs : List Str} (hq : H q = some (.tup (xs.map V.str))) (hz : (tupleText (xs.map reprText)).length ≤ sizeLine) : ReprK X.prog X.w [q] s.heap 1 (.ref q) (tupleText (xs.map reprText)) := by
  obtain ⟨_, its, rv, o, ho, hc, n, hd⟩ := (show ObjOk X.prog X.w H s.heap q (.tup (xs.map V.str)) from I.hok q _ hq)
  exact ReprK.tuple (as := []) (d := 0) ho hc hd (by simp) (by simpa using reprAll_strs rv fun x hx => Nat.le_trans (tupleText_mem_le (List.mem_map.mpr ⟨x, hx, rfl⟩)) hz)
theorem repr_row (I : Inv X pins σ H s) {v : V} {u : Value} {r : Str × List Str} (hv : RowV H v r) (ru : RelV v u) (hz : (rowText r).length ≤ sizeLine) :
    ∃ as : List Addr, (∀ b ∈ as, ∃ xs, H b = some (.tup xs)) ∧ ReprK X.prog X.w as s.heap 2 u (rowText r) := by
  obtain ⟨t, q, rfl, ht, hq⟩ := hv
  obtain rfl : u = Value.ref t := ru
  have hz1 : (reprText r.1).length ≤ sizeLine := Nat.le_trans (tupleText_mem_le (ts := [reprText r.1, tupleText (r.2.map reprText)]) (by simp)) hz
  have hz2 : (tupleText (r.2.map reprText)).length ≤ sizeLine := Nat.le_trans (tupleText_mem_le (ts := [reprText r.1, tupleText (r.2.map reprText)]) (by simp)) hz
  have k := repr_words I hq hz2
  have ne : t ≠ q := by
    intro e
    subst e
    rw [ht] at hq
    injection hq with hq
    injection hq with hq
    have e2 := congrArg (fun l : List V => l[1]?) hq
    simp only [List.getElem?_map] at e2
    cases z : r.2[1]? with
    | none => rw [z] at e2; simp at e2
    | some y => rw [z] at e2; simp at e2
  obtain ⟨_, its, rv, o, ho, hc, n, hd⟩ := (show ObjOk X.prog X.w H s.heap t (.tup [.str r.1, .ref q]) from I.hok t _ ht)
  refine ⟨[t, q], fun b hb => ?_, ReprK.tuple (as := [q]) (d := 1) ho hc hd (by simpa using ne) ?_⟩
  · rcases List.mem_cons.mp hb with e | e
    · exact e ▸ ⟨_, ht⟩
    · exact (List.mem_singleton.mp e) ▸ ⟨_, hq⟩
  · cases rv with
    | cons r1 r2 =>
      cases r2 with
      | cons r3 r4 =>
        cases r4
        obtain ⟨tk, rfl⟩ := r1
        cases r3
        exact .cons (.of_is (ReprIs.str r.1 tk hz1) _ _ _) (.cons k .nil)
theorem repr_rows (I : Inv X pins σ H s) : ∀ {vs : List V} {us : List Value} {rs : List (Str × List Str)}, Paired (RowV H) vs rs → Vals vs us → (∀ r ∈ rs, (rowText r).length ≤ sizeLine) →
    ∃ as : List Addr, (∀ b ∈ as, ∃ xs, H b = some (.tup xs)) ∧ ReprAllK X.prog X.w as s.heap 2 us (rs.map rowText)
  | _, _, _, .nil, r, _ => by
    cases r
    exact ⟨[], fun _ h => (by cases h), .nil⟩
  | _, _, _, .cons h1 h2, r, hz => by
    cases r with
    | cons r1 r2 =>
      obtain ⟨as, a1, k1⟩ := repr_row I h1 r1 (hz _ List.mem_cons_self)
      obtain ⟨bs, b1, k2⟩ := repr_rows I h2 r2 fun x hx => hz x (List.mem_cons_of_mem _ hx)
      exact ⟨as ++ bs, fun b hb => (List.mem_append.mp hb).elim (a1 b) (b1 b), .cons (k1.more fun b hb => List.mem_append_left _ hb) (k2.more_le (fun b hb => List.mem_append_right _ hb) (Nat.le_refl _))⟩
end
/-- what stands around, where a repr may run: no list that is being shown is any of ours -/
def GdAt (A : Around) (H : Hp) (l : Addr) : Prop := ∃ g, A.guards = some g ∧ Clear g l ∧ ∀ b xs, H b = some (.tup xs) → Clear g b
theorem list_text_run {pins : List (Addr × Obj)} {σ : L2.St} {H : Hp} {s : Shared} {l : Addr} {vs : List V} {rs : List (Str × List Str)} {A : Around} {E : Value → Shared → Prop} {Q : Value → Shared → Prop} (I : Inv X pins σ H s) (hl : H l = some (.lst vs))
    (hr : Paired (RowV H) vs rs) (hz : (rowsText rs).length ≤ sizeLine) (hu : A.units + 3 < cLine) (hg : GdAt A H l)
    (hQ : ∀ h' u tk, (∀ b o, s.heap.get? b = some o → h'.get? b = some o) → Q (.str (rowsText rs) u) { s with heap := h', toks := tk }) :
    wpAny (model X.prog X.w) A (call (.builtin "list.__repr__") [.ref l]) Q E s := by
  obtain ⟨g, g1, g2, g3⟩ := hg
  obtain ⟨_, its, n, rv, ho⟩ := (show ObjOk X.prog X.w H s.heap l (.lst vs) from I.hok l _ hl)
  obtain ⟨as, a1, k⟩ := repr_rows I hr rv fun r hr' => Nat.le_trans (listText_mem_le (List.mem_map.mpr ⟨r, hr', rfl⟩)) hz
  cases its with
  | nil =>
    cases rv
    cases hr
    exact call_list_repr_empty ⟨_, ho, rfl⟩ ho rfl (by have := hQ s.heap s.toks (s.toks + 1) fun _ _ e => e; rw [show rowsText [] = ("[]" : Str) from listText_nil] at this; exact this)
  | cons x its =>
    refine call_list_reprK (as := as) (d := 2) ho rfl rfl (fun hm => ?_) (by simpa using k.length_eq) (fun i y e => k.item i y (by simpa using e)) g1 (fun b hb => ?_) (by omega) (fun _ _ e => e) (fun h' u tk hk => hQ h' u tk hk) hz
    · obtain ⟨xs, e⟩ := a1 l hm
      rw [hl] at e
      cases e
    · rcases List.mem_cons.mp hb with e | e
      · rw [e]; exact g2
      · obtain ⟨xs, e2⟩ := a1 b e
        exact g3 b xs e2
/-- {rows} of an f-string -/
def tFmtRows (X : Cx) (te : TE) : TE := fun σ H Q => te σ H fun x H1 => ∃ (l : Addr) (vs : List V) (rs : List (Str × List Str)), x = .ref l ∧ H1 l = some (.lst vs) ∧ Paired (RowV H1) vs rs ∧ (rowsText rs).length ≤ sizeLine ∧
  X.A.units + 6 < cLine ∧ GdAt X.A H1 l ∧ Q (.str (rowsText rs)) H1
theorem pe_fmtRows {e : Expr} {te : TE} {pos : Pos} (he : PE X e te) : PE X (.FormattedValue e (-1) none pos) (tFmtRows X te) := by
  refine ⟨fun pins s σ H Q I h => ?_⟩
  refine wpAny_FormattedValue_plain (thn (he.run pins s σ H _ I h) fun v s1 hv => ?_)
  obtain ⟨x, H1, I1, r1, l, vs, rs, rfl, hl, hr, hz, hu, hg, q⟩ := hv
  obtain rfl : v = Value.ref l := r1
  obtain ⟨_, its, n, rv, ho⟩ := (show ObjOk X.prog X.w H1 s1.heap l (.lst vs) from I1.hok l _ hl)
  refine wpAny_formatField_slot (fun _ _ => nofun) (by omega) ⟨_, ho, rfl⟩ PySem.F.slot_list_format PySem.F.slot_list_str PySem.F.slot_list_repr.toG ?_
  exact list_text_run (A := X.A.in1.in1) (I1.tok (s1.toks + 1)) hl hr hz (by show X.A.units + 1 + 1 + 3 < cLine; omega) hg fun h' u tk hk => ⟨_, _, rfl, .str (rowsText rs), H1, (I1.tok (s1.toks + 1)).kept hk, ⟨_, rfl⟩, q⟩
/-- {flag} of an f-string -/
def tFmtB (te : TE) : TE := fun σ H Q => te σ H fun x H1 => ∃ b, x = V.bl b ∧ Q (.str (boolText b)) H1
theorem pe_fmtB {e : Expr} {te : TE} {pos : Pos} (he : PE X e te) : PE X (.FormattedValue e (-1) none pos) (tFmtB te) := by
  refine ⟨fun pins s σ H Q I h => ?_⟩
  refine wpAny_FormattedValue_plain (thn (he.run pins s σ H _ I h) fun v s1 hv => ?_)
  obtain ⟨x, H1, I1, r1, b, rfl, q⟩ := hv
  obtain rfl : v = Value.bool b := r1
  exact wpAny_formatField_bool ⟨.str (boolText b), H1, I1.tok _, ⟨s1.toks + 1, by cases b <;> rfl⟩, q⟩
end
end VC
set_option Elab.async false
set_option linter.all false
set_option maxRecDepth 100000
set_option maxHeartbeats 4000000
/-! A def's promise where it is known what stands around it (G): for defs that show things (repr). -/
namespace VC
open PySem PySem.Spec PyProof.Rows L2

/-- as FnOk, G of what stands around and of the heap at the call -/
structure FnG (P : Program) (w : World) (K : PySem.W.Frag) (mg : Str → Option Value) (base : Heap) (CX : CXT) (k : Nat) (f : Addr) (fd : FuncData) (ps : List Str) (G : Around → Hp → Prop) (sp : Sp) : Prop where
  len : ∀ vs H Q E, sp vs H Q E → vs.length = ps.length
  run : ∀ (A : Around) (outer : List Env) (s : Shared) (H : Hp) (args : Args) (us : List Value) (vs : List V) (Q : VK) (E : XK), Room k A → G A H → Env0 P w K mg base A outer s H → BindsTo s fd args (ps.zip us) → Vals vs us → sp vs H Q E →
    codeAny (model P w) A (.call (.ref f) args) (CR CX outer P w H s Q E) s
/-- no repr around -/
def G0 : Around → Hp → Prop := fun A _ => A.guards = some []
section
variable {X : Cx} {CX : CXT} {k : Nat} {f C : Addr} {fd : FuncData} {ps : List Str} {sp : Sp} {E : XK} {x m : Str} {p pos apos : Pos} {e o : Expr} {es : List Expr} {ta : TE} {t : TA} {G : Around → Hp → Prop}
theorem run_fnG {pins : List (Addr × Obj)} {σ : L2.St} {H : Hp} {s : Shared} {Q : VK} {us : List Value} {vs : List V} (F : FnG X.prog X.w X.K X.mg X.base CX k f fd ps G sp) (hr : Room k X.A) (hb : Binds X.K fd ps []) (hx : Passes CX X E)
    (I : Inv X pins σ H s) (r : Vals vs us) (hG : G X.A H) (h : sp vs H Q E) : wpAny (model X.prog X.w) X.A (call (.ref f) us) (EP X pins σ Q) X.xe s := by
  have hl : (us ++ []).length = ps.length := by rw [List.append_nil, ← r.length]; exact F.len _ _ _ _ h
  have hb' := hb s us I.kIn hl
  rw [List.append_nil] at hb'
  refine wpAny_call (codeAny_mono (F.run X.A X.stack s H ⟨us, []⟩ us vs Q E hr hG I.env0 hb' r h) fun r s' hq => ?_)
  cases r with
  | error e => exact hx pins σ H s e s' I hq
  | ok fl =>
    cases fl with
    | ret u => exact I.after hq
    | next => exact False.elim hq
    | brk => exact False.elim hq
    | cont => exact False.elim hq
def tCallG (X : Cx) (G : Around → Hp → Prop) (sp : Sp) (E : XK) (t : TA) : TE := fun σ H Q => t σ H fun vs H1 => G X.A H1 ∧ sp vs H1 Q E
theorem pe_callG (F : FnG X.prog X.w X.K X.mg X.base CX k f fd ps G sp) (hr : Room k X.A) (hg : Gl X x) (hm : X.mg x = some (.ref f)) (hk : PySem.W.keepIn X.K (.ref f) = true) (hb : Binds X.K fd ps []) (hx : Passes CX X E)
    (ha : PA X (e :: es) t) (hdb : (x == ("__debug__" : Str)) = false := by decide) (he : starEach (e :: es) X.env = (false, eval e X.env) :: starEach es X.env := by rfl) (hpl : (backTo pos (starEach es X.env)).any (·.1) = false := by rfl) :
    PE X (.Call (.Name x p) (e :: es) [] pos) (tCallG X G sp E t) := by
  refine ⟨fun pins s σ H Q I h => ?_⟩
  refine wpAny_Call_Name_kw (ld_glob I hg hm ?_ hdb)
  refine PySem.W.callWith_K (h₀ := X.base) I.ok.mod.kin hk (thn (ha.run pos pins s σ H _ I h) fun us s1 ⟨vs, H1, I1, r, hG, q⟩ => ⟨I1.kIn, ?_⟩) he hpl
  exact run_fnG F hr hb hx I1 r hG q
end
/-- a def of the text by its body -/
theorem fnG_of {CX : CXT} {P : Program} {w : World} {K : PySem.W.Frag} {mg : Str → Option Value} {base : Heap} {k : Nat} {f : Addr} {name qual : Str} {params : Arguments} {body : List Stmt} {scope : Scope} {dV kV doc pm cdv ct oc : Value} {an od : Option Addr}
    {osl : Array (Option Value)} {N ps : List Str} {G : Around → Hp → Prop} {sp : Sp} (lk : K.lookup f = some ⟨oc, od, .func (PySem.W.fnOf name qual params body scope dV kV doc pm an cdv ct), osl⟩) (hcd : PySem.W.codeIn K cdv qual = true) (S : FnScope N ps scope)
    (len : ∀ vs H Q E, sp vs H Q E → vs.length = ps.length)
    (hbody : ∀ (A : Around) (outer : List Env) (s : Shared) (H : Hp) (vs : List V) (Q : VK) (E : XK), Room k (A.deeper (envOfC qual scope s.heap.objs.size f cdv)) → G A H → sp vs H Q E →
      ∃ t, PSs (cxOf CX P w K mg base N qual scope f cdv A outer s H E) body t ∧ t { nx := fun _ H' => Q .non H', rt := Q } (start N vs) H) :
    FnG P w K mg base CX (k + 1) f (PySem.W.fnOf name qual params body scope dV kV doc pm an cdv ct) ps G sp := by
  refine ⟨len, fun A outer s H args us vs Q E hr hG e0 hb r hsp => ?_⟩
  have hl := len _ _ _ _ hsp
  have KX : K.In s.heap := e0.mod.kin.keeps fun b o e => (e0.bs b o e).1
  have lim : s.heap.NoLimit := e0.mod.nolimit.keeps fun b o e => (e0.bs b o e).1
  have hkind : ∀ y ∈ ps.zip us, scope.names.lookup y.1 = some .local ∨ (scope.names.lookup y.1 = some .cell ∧ ((cellsFrom (s.heap.objs.size + 1) scope.names []).lookup y.1).isSome = true) := fun ⟨n, v⟩ hy => by
    rcases S.par n (List.of_mem_zip hy).1 with q | q
    · exact .inl q
    · exact .inr ⟨q, PySem.W.cellsFrom_some _ _ _ (.inl q)⟩
  refine codeAny_call_function hr.depth (KX _ _ lk) rfl S.co S.gen rfl (PySem.W.codeRec_of KX hcd) (hb _ _ _ _ ?_)
  refine wpAny_newFunctionEnv_cells S.kind hkind fun env he s1 x => ?_
  subst he
  refine ⟨lim.keeps x.toInCall.keep, codeAny_func ?_⟩
  obtain ⟨t, ht, hq⟩ := hbody A outer s H vs Q E (hr.deeper _) hG hsp
  have I : Inv (cxOf CX P w K mg base N qual scope f cdv A outer s H E) [] (start N vs) H s1 := inv_start S hr.hd e0 hl r x
  refine wpAny_mono (ht.run [] s1 (start N vs) H _ I hq) (fun fl s' hs => ?_) fun e s' hs => hs
  have fin : ∀ {σ' : L2.St} {H' : Hp} {v : V} {u : Value}, Inv (cxOf CX P w K mg base N qual scope f cdv A outer s H E) [] σ' H' s' → RelV v u → Q v H' → CE outer P w H s Q u s' :=
    fun {σ' H' v u} J rv q => ⟨v, H', J.os, J.bare, J.base, J.hok, rv, q⟩
  cases fl with
  | ret u =>
    obtain ⟨v, σ', H', J, rv, q⟩ := hs
    exact fin J rv q
  | next =>
    obtain ⟨σ', H', J, q⟩ := hs
    exact fin (v := V.non) (u := Value.none) J rfl q
  | brk =>
    obtain ⟨_, _, _, q⟩ := hs
    exact False.elim q
  | cont =>
    obtain ⟨_, _, _, q⟩ := hs
    exact False.elim q
theorem Fun.okG {P : Program} {w : World} {K : PySem.W.Frag} {mg : Str → Option Value} {base : Heap} {x qual : Str} {st : Stmt} {f : Addr} {fd : FuncData} {N ps : List Str} {k : Nat} {G : Around → Hp → Prop} {sp : Sp} (F : L2.Fun K x qual st f fd) (S : FnScope N ps (defScope st)) (len : ∀ vs H Q E, sp vs H Q E → vs.length = ps.length)
    (hbody : ∀ (cdv : Value) (A : Around) (outer : List Env) (s : Shared) (H : Hp) (vs : List V) (Q : VK) (E : XK), Room k (A.deeper (envOfC qual (defScope st) s.heap.objs.size f cdv)) → G A H → sp vs H Q E →
      ∃ t, PSs (cxOf CX0 P w K mg base N qual (defScope st) f cdv A outer s H E).nox (defBody st) t ∧ t { nx := fun _ H' => Q .non H', rt := Q } (start N vs) H) : FnG P w K mg base CX0 (k + 1) f fd ps G sp := by
  obtain ⟨oc, od, kV, doc, pm, an, cdv, ct, osl, rfl, lk, hcd⟩ := F.ex
  refine fnG_of lk hcd S len fun A outer s H vs Q E hr hG hsp => ?_
  obtain ⟨t, h, q⟩ := hbody cdv A outer s H vs Q E hr hG hsp
  exact ⟨t, h.nox, q⟩
/-! the law's end, with G0 -/
theorem law_callG {P : Program} {w : World} {K : PySem.W.Frag} {mg mb : Str → Option Value} {k : Nat} {fa a : Addr} {fd : FuncData} {x : Str} {sp : Sp} {s₁ : Shared} {vs : List Value} {ns : List Int}
    (KX : K.In s₁.heap) (hns : s₁.heap.Ns mainGlobals mg) (hb : s₁.heap.Ns builtinsNs mb) (hbb : ∀ x : Str, x ≠ "__name__" → mb x = bootBuiltins x) (hlim : s₁.heap.NoLimit) (hg : s₁.gens = #[])
    (ha : s₁.heap.get? a = some { cls := .type "list", data := .seq vs.toArray }) (hi : IntsAre vs ns) (hl : ns.length ≤ sizeLine) (hr : Room k callerA)
    (F : ∀ base : Heap, K.In base → base.Ns mainGlobals mg → FnG P w K mg base CX0 k fa fd [x] G0 sp) (hbind : ∀ (s : Shared) (u : Value), BindsTo s fd ⟨[u], []⟩ [(x, u)])
    (hsp : ∀ H : Hp, Only H → SqL K H a (ns.map V.int) → sp [.ref a] H (fun v _ => v = .bl true) fun _ _ _ => False) :
    codeAny (model P w) callerA (.call (.ref fa) ⟨[.ref a], []⟩) (fun r s' => r = .ok (.ret (.bool true)) ∧ OldK s₁.heap s'.heap ∧ s'.os = s₁.os ∧ AllBare s'.gens) s₁ := by
  have rv := vals_ints hi
  have lenV := hi.length
  have core : ∀ H : Hp, Only H → SqL K H a (ns.map V.int) → HOk P w H s₁.heap → (∀ b, H b ≠ none → b = a) → (H a ≠ none → K.lookup a = none) →
      codeAny (model P w) callerA (.call (.ref fa) ⟨[.ref a], []⟩) (fun r s' => r = .ok (.ret (.bool true)) ∧ OldK s₁.heap s'.heap ∧ s'.os = s₁.os ∧ AllBare s'.gens) s₁ := by
    intro H hO hS hok hA hK
    have atA : ∀ {b : Addr}, H b ≠ none → b = a := fun {b} z => hA b z
    have noA : ∀ {b : Addr} {o : Obj} {es : Array DictEntry} {ep : Nat}, s₁.heap.get? b = some o → o.data = .dict es ep → H b = none := fun {b o es ep} e d => by
      cases q : H b with
      | none => rfl
      | some u =>
        obtain rfl : b = a := atA (by rw [q]; simp)
        rw [ha] at e; cases e
        exact nomatch (show Data.seq vs.toArray _ = Data.dict es ep from d)
    have nsK : ∀ {b : Addr} {m : Str → Option Value}, s₁.heap.Ns b m → (hidT s₁.heap H).Ns b m := fun {b m} ⟨o, es, ep, e, d, r⟩ => ⟨o, es, ep, hidT_get e (noA e d), d, r⟩
    have hKb : K.In (hidT s₁.heap H) := fun b o e => hidT_get (KX b o e) (by
      cases q : H b with
      | none => rfl
      | some u =>
        obtain rfl : b = a := atA (by rw [q]; simp)
        rw [hK (by rw [q]; simp)] at e; cases e)
    have hM : Mod K mg (hidT s₁.heap H) := ⟨hKb, nsK hns, ⟨mb, nsK hb, hbb⟩, let ⟨mc, h1, h2⟩ := hlim; ⟨mc, nsK h1, h2⟩⟩
    have e0 : Env0 P w K mg (hidT s₁.heap H) callerA [] s₁ H := ⟨rfl, hM, fun b o e => of_hidT e, Nat.le_of_eq (hidT_size _ _), trivial, fun b hb => absurd (show b ∈ ([] : List Addr) from hb) (by simp), hok, .of_eq hg⟩
    refine codeAny_mono ((F _ hKb (nsK hns)).run callerA [] s₁ H ⟨[.ref a], []⟩ [.ref a] [.ref a] _ _ hr rfl e0 (hbind s₁ (.ref a)) (.cons rfl .nil) (hsp H hO hS)) fun r s' h => ?_
    cases r with
    | error e => exact False.elim h
    | ok fl =>
      cases fl with
      | next => exact False.elim h
      | brk => exact False.elim h
      | cont => exact False.elim h
      | ret u =>
        obtain ⟨v, H', os, bare, un, hok', r', q⟩ := h
        obtain rfl : v = .bl true := q
        obtain rfl : u = Value.bool true := r'
        refine ⟨rfl, OldK.of_keep fun b o e => ?_, os, bare⟩
        cases q : H b with
        | none => exact un.keep b o e q (by intro z; exact absurd (show b ∈ ([] : List Addr) from z) (by simp)) (by simp)
        | some u =>
          rcases hO b with z | ⟨ob, xs, z⟩
          · rw [q] at z; cases z
          · obtain ⟨e1, _⟩ := hok b _ z
            obtain ⟨e2, _⟩ := hok' b _ (un.frzs b ob _ z)
            rw [e] at e1; cases e1
            exact e2
  cases hk : K.lookup a with
  | some o =>
    have e := KX a o hk
    rw [ha] at e
    cases e
    refine core (fun _ => none) (fun _ => .inl rfl) (.inr ⟨_, vs.toArray, _, hk, rfl, rfl, rfl, by rw [List.size_toArray, lenV]; exact hl, by simpa using rv⟩) (fun b u z => nomatch (show (none : Option HO) = some u from z)) (fun b z => absurd rfl z) fun z => absurd rfl z
  | none =>
    refine core (fun b => if b = a then some (.frz { cls := .type "list", data := .seq vs.toArray } (.lst (ns.map V.int))) else none) (fun b => ?_) (.inl (.inr ⟨{ cls := .type "list", data := .seq vs.toArray }, if_pos rfl⟩)) (fun b u z => ?_) (fun b z => ?_) fun _ => hk
    · by_cases hb : b = a
      · exact .inr ⟨_, _, if_pos hb⟩
      · exact .inl (if_neg hb)
    · by_cases hb : b = a
      · have z' := (if_pos hb).symm.trans z
        cases z'
        subst hb
        exact ⟨ha, by rw [List.length_map]; exact hl, vs, _, rv, ha⟩
      · have z' := (if_neg hb).symm.trans z
        cases z'
    · by_cases hb : b = a
      · exact hb
      · exact absurd (if_neg hb) z
theorem walk_G {l : PySem.W.OpenLaw} {n k : Nat} {q : Program} {loose : List Str} {XP : (Str → Option Value) → Heap → Prop} {YP : World → Heap → Prop} {d : DefRec} {K : Params → PySem.W.Frag} {sp : World → Sp} {x : Str}
    (hn : l.most = some n) (hn2 : n ≤ sizeLine) (hdf : d.params.defaults = []) (hr : Room k callerA)
    (hY : ∀ (w : World) (h : Heap), YP w h → (K w.params).In h)
    (F : ∀ (w : World) (mg : Str → Option Value) (fa : Addr) (h : Heap), (K w.params).In h → h.Ns mainGlobals mg → mg d.name = some (.ref fa) →
      ∃ fd : FuncData, (∀ (s : Shared) (u : Value), BindsTo s fd ⟨[u], []⟩ [(x, u)]) ∧
        ∀ base : Heap, (K w.params).In base → base.Ns mainGlobals mg → FnG l.prog w (K w.params) mg base CX0 k fa fd [x] G0 (sp w))
    (hsp : ∀ (w : World) (H : Hp) (a : Addr) (ns : List Int), ns.length ≤ n → Only H → SqL (K w.params) H a (ns.map V.int) → sp w [.ref a] H (fun v _ => v = .bl true) fun _ _ _ => False) :
    PySem.W.WalkO q loose XP YP l.row.toRowW d [] (fun f vs => PySem.call f vs) := by
  refine Att.attach_call hn hdf fun w s₀ s₁ mg mb fa o pm cd doc a vs ns G Y ho hd hcd hmg hobj hints hlen hg => ?_
  have KX := hY w _ Y
  obtain ⟨fd, hb, hF⟩ := F w mg fa _ KX G.T.g hmg
  exact law_callG KX G.T.g G.T.b G.T.builtins G.T.nolimit hg hobj hints (Nat.le_trans hlen hn2) hr hF hb (fun H hO hS => hsp w H a ns hlen hO hS)
end VC
set_option Elab.async false
set_option linter.all false
set_option maxRecDepth 100000
set_option maxHeartbeats 4000000
/-! An own class: its operators (a op b), repr of a list of its instances. -/
namespace VC
open PySem PySem.Spec PyProof.Rows L2
section
variable {X : Cx} {CX : CXT} {k : Nat} {f C : Addr} {fd : FuncData} {ps : List Str} {sp : Sp} {E : XK}
/-- a op b, both instances of the class at C, by the class's own method -/
def rOwn (C : Addr) (sp : Sp) (E : XK) : R2 := fun x y H Q => ∃ a b dx dy fs gs, x = V.ref a ∧ y = V.ref b ∧ H a = some (.ins C dx fs) ∧ H b = some (.ins C dy gs) ∧ sp [x, y] H Q E
theorem op_own {op : Operator} {m : Str} (hm : PySem.dunder op.info.2 = m) (hs : PySem.W.findIn X.K (.ref C) m = some (some (.ref f))) (hf : PySem.W.isFn X.K (.ref f) = true) (hc : PySem.W.selfFirst X.K C = true)
    (F : FnOk X.prog X.w X.K X.mg X.base CX k f fd ps sp) (hr : Room k X.A) (hb : Binds X.K fd ps []) (hx : Passes CX X E) : OpR X (binaryOp op) (rOwn C sp E) := by
  intro pins s σ H x y v u Q I rx ry h
  obtain ⟨a, b, dx, dy, fs, gs, rfl, rfl, ha, hb', q⟩ := h
  obtain rfl : v = Value.ref a := rx
  obtain rfl : u = Value.ref b := ry
  obtain ⟨m0, Fm⟩ := I.fr
  obtain ⟨mA, O, _⟩ := ins_get I.hok ha
  obtain ⟨od, J, _⟩ := O.look
  obtain ⟨mB, OB, _⟩ := ins_get I.hok hb'
  obtain ⟨odB, JB, _⟩ := OB.look
  refine PySem.W.binop_K Fm I.mod.kin J JB.type hc (by rw [hm]; exact hs) hf ?_
  refine thn (run_fn (us := [.ref a, .ref b]) (vs := [.ref a, .ref b]) F hr hb .nil hx I (.cons rfl (.cons rfl .nil)) (by simpa using q)) fun z s' hz => ?_
  obtain ⟨v, H', I', rv, q'⟩ := hz
  cases z with
  | notImplemented =>
    have e := rv.abs
    cases e
  | _ => exact ⟨v, H', I', rv, q'⟩

/-! ### repr -/
theorem repr_under_own {prog : Program} {w : World} {A : Around} {E : Value → Shared → Prop} {s : Shared} {K : PySem.W.Frag} {x C f : Addr} {ox : Obj} {od : Option Obj} {base : Nat} {Q : Str → Shared → Prop} (XK : K.In s.heap) (I : PySem.W.InstAt s.heap x ox C od)
    (hs : PySem.W.findIn K (.ref C) "__repr__" = some (some (.ref f))) (hf : PySem.W.isFn K (.ref f) = true) (hu : A.units < cLine) (hbase : base ≤ sizeLine)
    (h : wpAny (model prog w) A (call (.ref f) [.ref x]) (fun v s' => ∃ z t, v = .str z t ∧ Q z s') E s) : wpAny (model prog w) A (pyReprUnder base (.ref x)) Q E s := by
  refine wpAny_pyReprUnder_ref hbase ?_
  have L1 : PySem.W.Looks (model prog w) s.heap (specialOf (.ref x) "__repr__") (some (.ref f)) := I.type.andThen (PySem.W.looks_findIn XK hs)
  have L2 : PySem.W.Looks (model prog w) s.heap (bindSpecial (.ref f) (.ref x)) (.ref f, [.ref x]) := PySem.W.bind_fn XK _ (beq_iff_eq.mp hf)
  unfold pyReprObjUnder pyReprObjBy
  refine wpAny_bind (wpAny_cRoomFor hu ?_)
  refine wpAny_bind (L1.here ?_)
  rw [if_neg (by simp)]
  refine wpAny_bind ?_
  simp only [callSpecialIfBoundBy?, bindSpecialIfBound?]
  refine wpAny_holding (wpAny_bind (wpAny_bind (L1.here ?_)))
  have fin : wpAny (model prog w) A (call (.ref f) ([Value.ref x] ++ []) >>= fun v => pure (some v))
      (fun r s' => wpAny (model prog w) A (match r with
        | some r => do
          let __do_lift ← isInstance r (.type "str")
          if __do_lift = true then pure r else do
              let __do_lift ← typeNameOf r
              raiseError "TypeError" (toString "__repr__ returned non-string (type " ++ toString __do_lift ++ toString ")")
        | none => unsupported "repr:special-get-raises") (fun v s' => ∃ x u, v = Value.str x u ∧ Q x s') E s') E s := by
    refine wpAny_bind (wpAny_mono h (fun v s' hv => ?_) fun _ _ e => e)
    obtain ⟨z, t, rfl, q⟩ := hv
    exact wpAny_pure (wpAny_bind (wpAny_isInstance (T := "str") (b := true) rfl isSubtype_str_str (wpAny_pure ⟨z, t, rfl, q⟩)))
  refine wpAny_bind (wpAny_askSetting (wpAny_ite ?_))
  split
  · exact wpAny_bind (L2.here (wpAny_pure fin))
  · exact wpAny_tryCatch (wpAny_bind (L2.here (wpAny_pure fin)))
end
end VC
set_option Elab.async false
set_option linter.all false
set_option maxRecDepth 100000
set_option maxHeartbeats 4000000
namespace VC
open PySem PySem.Spec PyProof.Rows L2
theorem loop_depth {A : Around} {args : Args} : (A.under (.builtin "list.__repr__.loop" args)).depth = A.depth + 1 := by
  first | rfl | simp [Around.under, Code.weight, Code.isCreation, Code.isGuard, Code.isCaller, Code.frames, Code.isFrame, guardIds]
theorem room_loop {k : Nat} {A : Around} (r : Room (k + 1) A) (args : Args) : Room k (A.under (.builtin "list.__repr__.loop" args)) :=
  ⟨r.hd, by have := r.dp; rw [loop_depth]; omega, by have := r.un; rw [units_under_list_loop]; omega⟩
theorem frames_loop {A : Around} {l : List Env} {args : Args} (h : A.frames = some l) : (A.under (.builtin "list.__repr__.loop" args)).frames = some l := by
  first | exact h | (simpa [Around.under, Code.envs, Code.isFrame, pushEnvs] using h)
theorem vals_refs : ∀ {ps : List Addr} {us : List Value}, Vals (ps.map V.ref) us → us = ps.map Value.ref
  | [], _, .nil => rfl
  | p :: ps, _, .cons r t => by
    cases r
    rw [vals_refs t] <;> rfl
section
variable {X : Cx} {k : Nat} {f C : Addr} {fd : FuncData} {sp : Sp} {G : Around → Hp → Prop} {σ : L2.St} {pins : List (Addr × Obj)}
/-- what is asked of each item: an instance of the class, shown as t wherever the heap has grown to -/
def ShowsAs (C : Addr) (sp : Sp) (H : Hp) (p : Addr) (t : Str) : Prop := (∃ dx fs, H p = some (.ins C dx fs)) ∧ ∀ H1 Q, Same H H1 → (∀ H2, Same H1 H2 → Q (.str t) H2) → sp [.ref p] H1 Q E0
theorem own_loop (F : FnG X.prog X.w X.K X.mg X.base CX0 k f fd ["self"] G sp) (hb : Binds X.K fd ["self"] []) (hs : PySem.W.findIn X.K (.ref C) "__repr__" = some (some (.ref f))) (hfn : PySem.W.isFn X.K (.ref f) = true)
    {A : Around} (hr : Room (k + 1) A) (hA : A.frames = some X.stack) (hgd : A.guards = some []) {R : Result → Shared → Prop} {H : Hp} {l P : Addr} {ps : List Addr} {ts : List Str} (hlen : ts.length = ps.length)
    (hG : ∀ A' H1 rest, A'.guards = some [Code.builtin "list.__repr__.loop" ⟨.ref l :: rest, []⟩] → Same H H1 → G A' H1)
    (hsp : ∀ (i : Nat) p t, ps[i]? = some p → ts[i]? = some t → ShowsAs C sp H p t) (hl : H l = some (.lst (ps.map V.ref))) (hsz : (listText ts).length ≤ sizeLine) :
    ∀ (n i : Nat) (s : Shared) (H1 : Hp) (acc : Array Value) (c : Nat) (done : List (Str × Tok)), ps.length - i = n → i ≤ ps.length → Inv X pins σ H1 s → Same H H1 → FpOk X pins H1 P →
      s.heap.get? P = some { cls := .type "list", dict := none, data := .seq acc c, slots := #[] } → acc.toList = strValues done → done.map (·.1) = ts.take i →
      (∀ s' H2 u, Inv X pins σ H2 s' → Same H H2 → R (.ok (.ret (.str (listText ts) u))) s') →
      codeAny (model X.prog X.w) A (.builtin "list.__repr__.loop" ⟨[.ref l, rawInt i, .ref P, rawInt ((piled (ts.take i) : Nat) : Int)], []⟩) R s := by
  have hX : (listText ts).length = (textFrom 0 "[" ts).length + 1 := by
    show (textFrom 0 "[" ts ++ "]").length = _
    rw [strLen_append]; rfl
  have hL := textFrom_len ts 0 "["
  have hsz1 : ps.length ≤ sizeLine := by
    have h1 := hL.1
    rw [if_neg (Nat.lt_irrefl 0)] at h1
    omega
  have hsz2 : ∀ t ∈ ts, t.length ≤ sizeLine := fun t ht => by
    have h2 := hL.2.1 t ht
    omega
  have hp3 := piled_le_listText ts
  intro n
  induction n with
  | zero =>
    intro i s H1 acc c done hk hi I sm fp hP hacc hdone hR
    have hin : i = ps.length := by omega
    obtain ⟨_, its, na, rv, ho⟩ := (show ObjOk X.prog X.w H1 s.heap l (.lst (ps.map V.ref)) from I.hok l _ (sm l _ hl))
    have hits := vals_refs rv
    subst hits
    refine codeAny_builtin PySem.F.entry_list_repr_loop ?_
    show wpAny _ _ (Builtin.«list.__repr__.loop» ⟨[.ref l, .int i 0, .ref P, .int ((piled (ts.take i) : Nat) : Int) 0], []⟩) _ _ s
    rw [repr_loop_tree]
    refine wpAny_bind (wpAny_listItems ho rfl ?_)
    have hnone : ((ps.map Value.ref).toArray)[(i : Int).toNat]? = none := by simp [hin]
    simp only [hnone]
    unfold reprEnd
    refine wpAny_bind (wpAny_listItems hP rfl ?_)
    rw [hacc, repr_fold]
    refine wpAny_bind (wpAny_pure ?_)
    have hall : done.map (·.1) = ts := by rw [hdone, hin, ← hlen, List.take_length]
    rw [hall]
    refine wpAny_bind (wpAny_mkStr (wpAny_pure ?_) hsz)
    exact hR _ H1 _ (I.tok _) sm
  | succ n ih =>
    intro i s H1 acc c done hk hi I sm fp hP hacc hdone hR
    have hlt : i < ps.length := by omega
    have hlt2 : i < ts.length := by omega
    obtain ⟨⟨dx, fs, hp⟩, hshow⟩ := hsp i ps[i] ts[i] (by simp [hlt]) (by simp [hlt2])
    have ht : ts[i]? = some ts[i] := by simp [hlt2]
    have hp1 := piled_take_succ ht
    have hp2 := piled_take_le ts (i + 1)
    obtain ⟨_, its, na, rv, ho⟩ := (show ObjOk X.prog X.w H1 s.heap l (.lst (ps.map V.ref)) from I.hok l _ (sm l _ hl))
    have hits := vals_refs rv
    subst hits
    refine codeAny_builtin PySem.F.entry_list_repr_loop ?_
    show wpAny _ _ (Builtin.«list.__repr__.loop» ⟨[.ref l, .int i 0, .ref P, .int ((piled (ts.take i) : Nat) : Int) 0], []⟩) _ _ s
    rw [repr_loop_tree]
    refine wpAny_bind (wpAny_listItems ho rfl ?_)
    have hsome : ((ps.map Value.ref).toArray)[(i : Int).toNat]? = some (Value.ref ps[i]) := by simp [hlt]
    simp only [hsome]
    rw [Int.toNat_natCast]
    -- the item's own text
    obtain ⟨mA, O, _⟩ := ins_get I.hok (sm _ _ hp)
    obtain ⟨od, J, _⟩ := O.look
    have hmem : ts[i] ∈ ts := List.getElem_mem hlt2
    have hb0 : piled (ts.take i) + 1 ≤ sizeLine := by omega
    have Ip : Inv X (pins ++ [(P, { cls := .type "list", dict := none, data := .seq acc c, slots := #[] })]) σ H1 s := I.pins_of fun p hp' => (List.mem_append.mp hp').elim (fun z => I.pin p (List.mem_append_right _ z)) fun z => by
      obtain rfl := List.mem_singleton.mp z
      exact ⟨hP, fp.1, fp.2.1, fp.2.2.1, fun v z => by cases z⟩
    have hAg : (A.under (.builtin "list.__repr__.loop" ⟨[.ref l, .int i 0, .ref P, .int ((piled (ts.take i) : Nat) : Int) 0], []⟩)).guards = some [Code.builtin "list.__repr__.loop" ⟨.ref l :: [.int i 0, .ref P, .int ((piled (ts.take i) : Nat) : Int) 0], []⟩] :=
      guards_under_guard (isGuard_list_loop _) hgd
    have e0 : Env0 X.prog X.w X.K X.mg X.base (A.under (.builtin "list.__repr__.loop" ⟨[.ref l, .int i 0, .ref P, .int ((piled (ts.take i) : Nat) : Int) 0], []⟩)) X.stack s H1 :=
      ⟨frames_loop hA, I.ok.mod, I.bs, Nat.le_trans I.ok.bsz I.sz, I.stack, I.stkFree, I.hok, I.bare⟩
    have hbd := hb s [.ref ps[i]] I.kIn rfl
    refine wpAny_bind (wpAny_holding (repr_under_own I.kIn J hs hfn (by rw [units_under_list_loop]; have := hr.un; omega) hb0 ?_))
    refine wpAny_call (codeAny_mono (F.run _ X.stack s H1 ⟨[.ref ps[i]], []⟩ [.ref ps[i]] [.ref ps[i]] (fun v H2 => v = .str ts[i] ∧ Same H1 H2) E0 (room_loop hr _) (hG _ H1 _ hAg sm) e0 hbd (.cons rfl .nil) (hshow H1 _ sm fun H2 sm2 => ⟨rfl, sm2⟩)) fun r s1 hq => ?_)
    cases r with
    | error e => exact False.elim hq
    | ok fl =>
      cases fl with
      | next => exact False.elim hq
      | brk => exact False.elim hq
      | cont => exact False.elim hq
      | ret u =>
        obtain ⟨v, H2, I2, ru, rfl, sm2⟩ := Ip.after hq
        obtain ⟨tk, rfl⟩ := ru
        refine ⟨ts[i], tk, rfl, ?_⟩
        have hP2 := (I2.pin (P, _) (List.mem_append_right _ (List.mem_append_right _ (List.mem_singleton.mpr rfl)))).1
        have hPn := (I2.pin (P, _) (List.mem_append_right _ (List.mem_append_right _ (List.mem_singleton.mpr rfl)))).2.1
        have I3 : Inv X pins σ H2 s1 := I2.pins_of fun p hp' => I2.pin p (List.mem_append_right _ (List.mem_append_left _ hp'))
        refine wpAny_bind (wpAny_mkStr ?_ (hsz2 _ hmem))
        refine wpAny_bind ?_
        show wpAny _ _ (updateSeq P _) _ _ _
        have hasz : acc.size ≤ sizeLine := by
          have e1 : acc.toList.length = acc.size := by simp
          have e2 : (strValues done).length = done.length := by simp [strValues]
          have e3 : done.length = (ts.take i).length := by rw [← hdone, List.length_map]
          have e4 : (ts.take i).length ≤ i := by rw [List.length_take]; omega
          rw [hacc] at e1; omega
        refine wpAny_updateSeq (s := { s1 with toks := s1.toks + 1 }) hP2 rfl (wpAny_pure ⟨PySem.F.quiet_list_repr_loop _, ?_⟩) hasz
        have e1 : ((i : Int) + 1) = ((i + 1 : Nat) : Int) := by omega
        have e2 : piled (ts.take i) + (ts[i].length + 2) = piled (ts.take (i + 1)) := by omega
        rw [e1, e2]
        have I4 : Inv X pins σ H2 { s1 with heap := s1.heap.update P (Obj.mapSeq (·.push (.str ts[i] s1.toks))), toks := s1.toks + 1 } :=
          I3.turned (t' := s1.toks + 1) (fun b o hbP e => (Heap.get?_update_other _ _ (Ne.symm hbP)).trans e) hPn fp.2.1 fp.2.2.2.1 fp.2.2.2.2.1 fp.2.2.2.2.2
        exact ih (i + 1) _ H2 (acc.push (.str ts[i] s1.toks)) _ (done ++ [(ts[i], s1.toks)]) (by omega) hlt I4 (sm.trans sm2) ⟨hPn, fp.2⟩ (Heap.get?_update_self _ hP2 rfl) (by simp [hacc, strValues]) (by simp [List.take_add_one, hdone]) hR
/-- repr(xs), xs a list of instances of an own class that shows itself; at least one -/
def rReprOwn (X : Cx) (C : Addr) (sp : Sp) : List V → Hp → VK → Prop := fun vs H Q => X.A.guards = some [] ∧ ∃ (l : Addr) (ps : List Addr) (ts : List Str), vs = [V.ref l] ∧ H l = some (.lst (ps.map V.ref)) ∧ ps ≠ [] ∧ ts.length = ps.length ∧
  (∀ (i : Nat) p t, ps[i]? = some p → ts[i]? = some t → ShowsAs C sp H p t) ∧ (listText ts).length ≤ sizeLine ∧ ∀ H', Same H H' → Q (.str (listText ts)) H'
theorem cr_reprOwn (F : FnG X.prog X.w X.K X.mg X.base CX0 k f fd ["self"] G sp) (hb : Binds X.K fd ["self"] []) (hs : PySem.W.findIn X.K (.ref C) "__repr__" = some (some (.ref f))) (hfn : PySem.W.isFn X.K (.ref f) = true)
    (hr : Room (k + 2) X.A) (hG : ∀ A' (H H1 : Hp) l ps rest, H l = some (.lst ps) → A'.guards = some [Code.builtin "list.__repr__.loop" ⟨.ref l :: rest, []⟩] → Same H H1 → G A' H1) : CallR X (.builtin "repr") (rReprOwn X C sp) := by
  intro pins s σ H vs us Q I r h
  obtain ⟨hgd, l, ps, ts, rfl, hl, hne, hlen, hsp, hsz, q⟩ := h
  rw [Vals.ref1 r]
  obtain ⟨_, its, na, rv, ho⟩ := (show ObjOk X.prog X.w H s.heap l (.lst (ps.map V.ref)) from I.hok l _ hl)
  have hits := vals_refs rv
  subst hits
  have hun := hr.un
  refine call_repr_slot (by omega) ⟨_, ho, rfl⟩ PySem.F.slot_list_repr.toG ?_
  obtain ⟨p, ps', rfl⟩ : ∃ p ps', ps = p :: ps' := by
    cases ps with
    | nil => exact absurd rfl hne
    | cons p ps' => exact ⟨p, ps', rfl⟩
  have hT : s.TypeIs (.ref l) "list" := ⟨_, ho, rfl⟩
  refine wpAny_call (codeAny_call_builtin PySem.F.slot_list_repr.plain PySem.F.entry_list_repr (PySem.F.slot_list_repr.check _ _ _ _ _ _ _ _ hT (PySem.F.args_list_repr_1 _) ?_))
  refine wpAny_list_repr_head (b := 0) (A := X.A.in1.in1) (x := .ref p) (l := ps'.map Value.ref) (g := []) hgd (fun v rest kw hm => nomatch hm) ho rfl ?_
  refine wpAny_bind (m := newList []) (wpAny_newObj_type ?_)
  refine wpAny_pure ⟨PySem.F.quiet_list_repr_loop _, ?_⟩
  have I1 : Inv X pins σ H { s with heap := s.heap.push { cls := .type "list", data := .seq ([] : List Value).toArray } } := I.kept (t' := s.toks) fun b o e => Heap.get?_push_of_some _ e
  have rr : Room (k + 1) X.A.in1 := hr.in1
  refine own_loop (A := X.A.in1) (P := s.heap.objs.size) F hb hs hfn rr I.ok.frames hgd hlen (fun A' H1 rest hg sm => hG A' H H1 l _ rest hl hg sm) hsp hl hsz _ 0 _ H #[] _ [] rfl (Nat.zero_le _) I1 (Same.refl H)
    (I.fpOk (Nat.le_refl _) (I.hok.fresh (Nat.le_refl _))) (Heap.get?_push_size _ rfl) rfl (by simp) fun s' H2 u I2 sm => ?_
  exact ⟨_, _, rfl, .str (listText ts), H2, I2, ⟨_, rfl⟩, q H2 sm⟩
end
end VC
set_option Elab.async false
set_option linter.all false
set_option maxRecDepth 100000
set_option maxHeartbeats 4000000
/-! sorted(d.items()), the keys texts, the values tuples of texts. -/
namespace VC
open PySem PySem.Spec PyProof.Rows L2 L2.DX
abbrev RowE := Str × Addr × List Str
def entR (e : RowE) : L2.Key × V := (Sum.inr e.1, V.ref e.2.1)
def rowR (e : RowE) : Str × List Str := (e.1, e.2.2)
def encR (e : RowE) : PyData := .tuple [.str e.1, .tuple (e.2.2.map PyData.str)]
theorem alike_strs : ∀ xs ys : List Str, PySem.W.alikeAll (xs.map PyData.str) (ys.map PyData.str) = true
  | [], _ => by simp [PySem.W.alikeAll]
  | _ :: _, [] => by simp [PySem.W.alikeAll]
  | x :: xs, y :: ys => by
    show PySem.W.alikeAll (.str x :: xs.map .str) (.str y :: ys.map .str) = true
    rw [PySem.W.alikeAll, alike_strs xs ys]
    simp [PySem.W.alike]
theorem depth_strs : ∀ xs : List Str, PyData.depthAll (xs.map PyData.str) = 0
  | [] => by simp [PyData.depthAll]
  | x :: xs => by
    show PyData.depthAll (.str x :: xs.map .str) = 0
    rw [PyData.depthAll, depth_strs xs]
    simp [PyData.depth]
theorem encR_depth (e : RowE) : (encR e).depth = 2 := by
  simp [encR, PyData.depth, PyData.depthAll, depth_strs]
theorem encR_alike (e e' : RowE) : PySem.W.alike (encR e) (encR e') = true := by
  simp [encR, PySem.W.alike, PySem.W.alikeAll, alike_strs]
theorem encR_le (e e' : RowE) (hne : e.1 ≠ e'.1) : PySem.W.dataLe false encR e e' = !decide (lts e'.1 e.1) := by
  rw [PySem.W.dataLe_eq]
  show (!PySem.W.dataLt (encR e') (encR e)) = _
  unfold encR
  rw [PySem.W.dataLt_pair (by simp [PySem.W.alike]) (by simp [PySem.W.alike, alike_strs])]
  rw [if_neg (by simpa [PyData.eqv] using fun h => hne h.symm), PySem.W.dataLt_str]
  rfl
theorem pairs_get {P : Program} {w : World} : ∀ {es : List DictEntry} {vs : List (L2.Key × Value)} {j : Nat} {e : DictEntry}, PySem.Pairs (mixKind P w) es vs → es[j]? = some e → ∃ kv, vs[j]? = some kv ∧ (mixKind P w).is kv.1 e.key = true ∧ e.val = kv.2
  | _, _, _, _, .nil, h => by simp at h
  | _, _, 0, _, .cons h1 h2 _, h => by simp at h; subst h; exact ⟨_, rfl, h1, h2⟩
  | _, _, j + 1, _, .cons _ _ t, h => by
    obtain ⟨kv, a, b⟩ := pairs_get t (by simpa using h)
    exact ⟨kv, by simpa using a, b⟩
theorem pairs_len {P : Program} {w : World} : ∀ {es : List DictEntry} {vs : List (L2.Key × Value)}, PySem.Pairs (mixKind P w) es vs → es.length = vs.length
  | _, _, .nil => rfl
  | _, _, .cons _ _ t => by simp [pairs_len t]
theorem kv_get {κ : Type} : ∀ {ks : List (κ × V)} {vs : List (κ × Value)} {j : Nat} {q : κ × Value}, KV ks vs → vs[j]? = some q → ∃ p, ks[j]? = some p ∧ p.1 = q.1 ∧ RelV p.2 q.2
  | _, _, _, _, .nil, h => by simp at h
  | _, _, 0, _, .cons h1 _, h => by simp at h; subst h; exact ⟨_, rfl, h1⟩
  | _, _, j + 1, _, .cons _ t, h => by
    obtain ⟨p, a, b⟩ := kv_get t (by simpa using h)
    exact ⟨p, by simpa using a, b⟩
theorem each_of {α β : Type} {R : α → β → Prop} : ∀ (as : List α) (bs : List β), as.length = bs.length → (∀ (j : Nat) a b, as[j]? = some a → bs[j]? = some b → R a b) → PySem.W.EachIs R as bs
  | [], [], _, _ => .nil
  | [], _ :: _, h, _ => by simp at h
  | _ :: _, [], h, _ => by simp at h
  | a :: as, b :: bs, h, r => .cons (r 0 a b rfl rfl) (each_of as bs (by simpa using h) fun j x y h1 h2 => r (j + 1) x y (by simpa using h1) (by simpa using h2))
theorem paired_of_each {α β γ : Type} {R : α → β → Prop} {S : γ → β → Prop} {f : α → γ} (hf : ∀ a b, R a b → S (f a) b) : ∀ {as : List α} {bs : List β}, PySem.W.EachIs R as bs → Paired S (as.map f) bs
  | _, _, .nil => .nil
  | _, _, .cons h t => .cons (hf _ _ h) (paired_of_each hf t)
def bkA : Value → Addr
  | .ref a => a
  | _ => 0
theorem paired_map_right {α β γ : Type} {S : α → γ → Prop} (f : β → γ) : ∀ {as : List α} {bs : List β}, Paired (fun a b => S a (f b)) as bs → Paired S as (bs.map f)
  | _, _, .nil => .nil
  | _, _, .cons h t => .cons h (paired_map_right f t)
section
variable {X : Cx}
theorem mt_itemsK : MtR X "dict.items" (fun x xs H Q => ∃ (a : Addr) (kvs : List (L2.Key × V)), x = .ref a ∧ xs = [] ∧ H a = some (.dK kvs) ∧ ∀ p, H p = none → Q (.ref p) (upd H p (itemsO p a))) := by
  intro pins s σ H x xs v us Q I rx rxs h
  obtain ⟨a, kvs, rfl, rfl, ha, q⟩ := h
  cases rx
  cases rxs
  obtain ⟨z, hd, vs, rel, o, es, ep, ho, hx, hdat, _⟩ := dk_of I.hok ha
  refine DT.callItems (es := es) (ep := ep) hd ⟨o, ho, hx, hdat⟩ ?_
  have hf : H s.heap.objs.size = none := I.hok.fresh (Nat.le_refl _)
  exact ⟨.ref s.heap.objs.size, upd H s.heap.objs.size (itemsO s.heap.objs.size a), I.laid (t' := s.toks) (fun b u e => Heap.get?_push_of_some _ e) (Nat.le_refl _) (itemsO_ok (Heap.get?_push_size _ rfl)), rfl, q _ hf⟩
def rSortRows : List V → Hp → VK → Prop := fun vs H Q => ∃ (p a : Addr) (es : List RowE), vs = [.ref p] ∧ H p = some (itemsO p a) ∧ H a = some (.dK (es.map entR)) ∧ (∀ e ∈ es, H e.2.1 = some (.tup (e.2.2.map V.str))) ∧ (es.map (·.1)).Nodup ∧ es.length < 64 ∧
  ∀ (H' : Hp) (l : Addr) (ws : List V) (ds : List RowE), Same H H' → H l = none → ds.Perm es → Up (ds.map (·.1)) → H' l = some (.lst ws) → Paired (RowV H') ws (ds.map rowR) → (∀ v ∈ ws, ∃ t, v = V.ref t ∧ H t = none) → Q (.ref l) H'
theorem cr_sortedRows (hc : X.calm = true) (hu : X.A.units + 64 < cLine) : CallR X (.builtin "sorted") rSortRows := by
  intro pins s σ H vs us Q I r h
  obtain ⟨p, a, es, rfl, hp, ha, hv, hnd, h64, q⟩ := h
  obtain rfl := Vals.ref1 r
  have view : s.heap.IsItemsView p a := (show ObjOk X.prog X.w H s.heap p (itemsO p a) from I.hok p _ hp).1
  obtain ⟨z, hd, vs, rel, o, des, ep, ho, hx, hdat, hko, prs, _⟩ := dk_of I.hok ha
  have l1 : (es.map entR).length = vs.length := Paired.length rel
  rw [List.length_map] at l1
  have l2 : des.toList.length = vs.length := by
    exact pairs_len prs
  rw [Array.length_toList] at l2
  have hh : X.A.handled = none := I.ok.hd hc
  refine DT.sortedI (es := des) (ep := ep) hh view ⟨o, ho, hx, hdat⟩ (by rw [sizeLine_eq]; omega) fun h' tk as hk hlt hl hG => ?_
  have lak : as.length = es.length := by omega
  have nd : as.Nodup := List.Pairwise.imp (fun h => Nat.ne_of_lt h) hG.rise
  have pr : ∀ (j : Nat) (b : Addr) (e : RowE), as[j]? = some b → es[j]? = some e → ∃ t, h'.get? b = some { cls := .type "tuple", data := .seq #[Value.str e.1 t, Value.ref e.2.1] } := by
    intro j b e hj he
    obtain ⟨en, hen, hg⟩ := hG.pairs j b hj
    obtain ⟨kv, hkv, his, hval⟩ := pairs_get prs (by rw [Array.getElem?_toList]; exact hen)
    obtain ⟨p0, hp0, e1, r1⟩ := kv_get rel hkv
    rw [List.getElem?_map, he] at hp0
    have ep0 : entR e = p0 := Option.some.inj hp0
    subst ep0
    rw [← e1] at his
    obtain ⟨t, et⟩ := Value.isStrOf_shape (x := e.1) (v := en.key) his
    have ev : en.val = Value.ref e.2.1 := hval.trans r1
    exact ⟨t, by rw [hg, et, ev]⟩
  have hob : (h'.push { cls := .type "list", data := .seq (as.map Value.ref).toArray }).get? h'.objs.size = some (seqObj "list" (as.map Value.ref).toArray 0) := Heap.get?_push_size _ rfl
  have ka : ∀ b o, h'.get? b = some o → (h'.push { cls := .type "list", data := .seq (as.map Value.ref).toArray }).get? b = some o := fun b o e => Heap.get?_push_of_some _ e
  have ne0 : ∀ b o, h'.get? b = some o → b ≠ h'.objs.size := fun b o e => Nat.ne_of_lt (Heap.lt_size e)
  generalize hh2 : h'.push { cls := .type "list", data := .seq (as.map Value.ref).toArray } = h2 at hob ka ⊢
  -- what a pair reads as
  have rdw : ∀ e ∈ es, ∃ as', Reads h2 (.ref e.2.1) (.tuple (e.2.2.map PyData.str)) as' ∧ as' = [] := by
    intro e he
    obtain ⟨_, its, rv, ot, hot, hct, nt, hdt⟩ := (show ObjOk X.prog X.w H s.heap e.2.1 (.tup (e.2.2.map V.str)) from I.hok _ _ (hv e he))
    have rs : ∀ {us : List Value} {xs : List Str}, Vals (xs.map V.str) us → ReadsAll h2 us (xs.map PyData.str) [] := by
      intro us xs
      induction xs generalizing us with
      | nil => intro r; cases r; exact .nil
      | cons x xs ih =>
        intro r
        cases r with
        | cons r1 r2 =>
          obtain ⟨t, rfl⟩ := r1
          exact ReadsAll.cons (as := []) (bs := []) (.str x t) (ih r2)
    exact ⟨[], .tuple (ka _ _ (hk _ _ hot)) hct hdt (by simpa using rs rv), rfl⟩
  have rdt : ∀ (j : Nat) (b : Addr) (e : RowE), as[j]? = some b → es[j]? = some e → ∃ as', Reads h2 (.ref b) (encR e) as' ∧ h'.objs.size ∉ as' := by
    intro j b e hj he
    obtain ⟨t, hg⟩ := pr j b e hj he
    obtain ⟨as', r1, rfl⟩ := rdw e (List.mem_of_getElem? he)
    exact ⟨[], .tuple (ka _ _ hg) rfl rfl (ReadsAll.cons (as := []) (bs := []) (.str e.1 t) (ReadsAll.cons (as := []) (bs := []) r1 .nil)), by simp⟩
  have eE : PySem.W.EachIs (fun (v : Value) (e : RowE) => ∃ b, v = .ref b ∧ b ∈ as ∧ ∃ t, h'.get? b = some { cls := .type "tuple", data := .seq #[Value.str e.1 t, Value.ref e.2.1] }) (as.map Value.ref) es :=
    each_of _ _ (by rw [List.length_map]; exact lak) fun j v e hj he => by
      rw [List.getElem?_map] at hj
      cases hb : as[j]? with
      | none => rw [hb] at hj; cases hj
      | some b =>
        rw [hb] at hj
        cases hj
        exact ⟨b, rfl, List.mem_of_getElem? hb, pr j b e hb he⟩
  have eR : PySem.W.EachIs (fun (v : Value) (e : RowE) => ∃ as', Reads h2 v (encR e) as' ∧ h'.objs.size ∉ as') (as.map Value.ref) es :=
    each_of _ _ (by rw [List.length_map]; exact lak) fun j v e hj he => by
      rw [List.getElem?_map] at hj
      cases hb : as[j]? with
      | none => rw [hb] at hj; cases hj
      | some b =>
        rw [hb] at hj
        cases hj
        exact rdt j b e hb he
  refine PySem.W.list_sort_data (s := { s with heap := h2, toks := tk }) (enc := encR) hob eE eR (PySem.W.AllAlike.of encR_alike) (PySem.W.Sortable.tuples fun e => ⟨_, _, rfl⟩) (by rw [sizeLine_eq]; omega) (fun e _ => by rw [encR_depth]; show X.A.units + 1 + 1 + 2 < cLine; omega) fun out hol eo => ?_
  have hsort : es.mergeSort (PySem.W.dataLe false encR) = es.mergeSort (fun e e' => !decide (lts e'.1 e.1)) := PySem.W.sort_congr fun e he e' he' => by
    by_cases hq : e.1 = e'.1
    · have e2 : e = e' := by
        obtain ⟨i, hi⟩ := List.mem_iff_getElem?.mp he
        obtain ⟨j, hj⟩ := List.mem_iff_getElem?.mp he'
        have hij : i = j := nd_ix hnd (x := e.1) (by rw [List.getElem?_map, hi]; rfl) (by rw [List.getElem?_map, hj, hq]; rfl)
        rw [hij, hj] at hi
        exact (Option.some.inj hi).symm
      subst e2
      have h1 : lts e.1 e.1 = False := by simp [lts_irrefl]
      have h2 : PySem.W.dataLt (encR e) (encR e) = false := PyProof.Rows.lex_irrefl _
      rw [PySem.W.dataLe_eq]
      show (!PySem.W.dataLt (encR e) (encR e)) = _
      rw [h2]
      simp [h1]
    · exact encR_le e e' hq
  rw [hsort] at eo
  have tot : ∀ e e' : RowE, (!decide (lts e'.1 e.1) || !decide (lts e.1 e'.1)) = true := fun e e' => by
    by_cases h1 : lts e'.1 e.1
    · simp [h1, lts_asymm h1]
    · simp [h1]
  have trn : ∀ x y z : RowE, (!decide (lts y.1 x.1)) = true → (!decide (lts z.1 y.1)) = true → (!decide (lts z.1 x.1)) = true := fun x y z h1 h2 => by
    simp only [Bool.not_eq_true', decide_eq_false_iff_not] at h1 h2 ⊢
    intro h3
    rcases lts_tri x.1 y.1 with q | q | q
    · exact h2 (lts_trans h3 q)
    · rw [q] at h3; exact h2 h3
    · exact h1 q
  have pw := List.pairwise_mergeSort (le := fun e e' : RowE => !decide (lts e'.1 e.1)) trn tot es
  have pm := List.mergeSort_perm es (fun e e' : RowE => !decide (lts e'.1 e.1))
  generalize es.mergeSort (fun e e' : RowE => !decide (lts e'.1 e.1)) = ds at eo pw pm
  have hup : Up (ds.map (·.1)) := by
    have ndd : (ds.map (·.1)).Nodup := (pm.map (·.1)).nodup_iff.mpr hnd
    show (ds.map (·.1)).Pairwise lts
    rw [List.pairwise_map]
    have ndd' : ds.Pairwise (fun x y => x.1 ≠ y.1) := List.pairwise_map.mp ndd
    refine List.Pairwise.imp₂ (R := fun x y : RowE => (!decide (lts y.1 x.1)) = true) (S := fun x y : RowE => x.1 ≠ y.1) (fun {x y} h1 h2 => ?_) pw ndd'
    have h1' : ¬ lts y.1 x.1 := by simpa using h1
    exact ((lts_tri x.1 y.1).resolve_right fun z => z.elim h2 h1')
  -- behind the sort
  show EP X pins σ Q (.ref h'.objs.size) { s with heap := sortedHeap h2 h'.objs.size (as.map Value.ref) out.toArray, toks := tk }
  have kF : ∀ b o, h'.get? b = some o → (sortedHeap h2 h'.objs.size (as.map Value.ref) out.toArray).get? b = some o := fun b o e => (PyProof.Rows.sortedHeap_old (ne0 b o e) (Heap.lt_size (ka b o e))).trans (ka b o e)
  have kS : ∀ b o, s.heap.get? b = some o → (sortedHeap h2 h'.objs.size (as.map Value.ref) out.toArray).get? b = some o := fun b o e => kF b o (hk b o e)
  obtain ⟨eF, heF⟩ := PyProof.Rows.sortedHeap_at (vs := as.map Value.ref) (out := out.toArray) hob
  have I1 : Inv X pins σ H { s with heap := sortedHeap h2 h'.objs.size (as.map Value.ref) out.toArray, toks := tk } := I.kept (t' := tk) kS
  have hn0 : H h'.objs.size = none := I.hok.fresh (Nat.le_of_lt hlt)
  have eo2 : out = (out.map bkA).map Value.ref ∧ ∀ v ∈ out, ∃ b, v = Value.ref b ∧ b ∈ as := by
    have hm : ∀ v ∈ out, ∃ b, v = Value.ref b ∧ b ∈ as := by
      intro v hv'
      clear hol pw pm hup hsort heF kF kS I1
      induction eo with
      | nil => cases hv'
      | cons h1 _ ih =>
        rcases List.mem_cons.mp hv' with e | e
        · subst e
          obtain ⟨b, rfl, hb, _⟩ := h1
          exact ⟨b, rfl, hb⟩
        · exact ih e
    refine ⟨?_, hm⟩
    rw [List.map_map]
    exact (List.map_id' out).symm.trans (List.map_congr_left fun v hv' => by
      obtain ⟨b, rfl, _⟩ := hm v hv'
      rfl)
  obtain ⟨eo2, hom⟩ := eo2
  have rv : Vals ((out.map bkA).map V.ref) out := by
    have := vals_maps (fun b : Addr => V.ref b) (fun b => Value.ref b) (out.map bkA) fun _ _ => rfl
    rw [← eo2] at this
    exact this
  have hlen : ((out.map bkA).map V.ref).length ≤ sizeLine := by
    rw [List.length_map, List.length_map, hol, sizeLine_eq]; omega
  have I2 : Inv X pins σ (upd H h'.objs.size (.lst ((out.map bkA).map V.ref))) { s with heap := sortedHeap h2 h'.objs.size (as.map Value.ref) out.toArray, toks := tk } :=
    I1.take (h' := sortedHeap h2 h'.objs.size (as.map Value.ref) out.toArray) (t' := tk) (fun b ob _ e => e) (I.fpOk (Nat.le_of_lt hlt) hn0) ⟨hlen, out, eF, rv, heF⟩
  obtain ⟨H2, I3, g, qt⟩ := takeT (P := fun b vs => ∃ (j : Nat) (e : RowE), as[j]? = some b ∧ es[j]? = some e ∧ vs = [.str e.1, .ref e.2.1]) I as _ I2 nd fun b hb => by
    obtain ⟨j, hj⟩ := List.mem_iff_getElem?.mp hb
    have hjl : j < es.length := by rw [← lak]; exact (List.getElem?_eq_some_iff.mp hj).1
    obtain ⟨t, hg⟩ := pr j b es[j] hj (by simp [hjl])
    have hb1 : s.heap.objs.size ≤ b := Nat.le_of_lt (hG.above b hb)
    refine ⟨hb1, ?_, [.str es[j].1, .ref es[j].2.1], ⟨j, es[j], hj, by simp [hjl], rfl⟩, fun H3 => ⟨by show 2 ≤ sizeLine; decide, [.str es[j].1 t, .ref es[j].2.1], .cons ⟨t, rfl⟩ (.cons rfl .nil), _, kF _ _ hg, rfl, 0, rfl⟩⟩
    rw [upd_ne (ne0 _ _ hg)]
    exact I.hok.fresh hb1
  have sm : Same H H2 := fun b o e => g b o (by rw [upd_ne (ne_of_none e hn0)]; exact e)
  refine ⟨.ref h'.objs.size, H2, I3, rfl, q H2 h'.objs.size _ ds sm hn0 pm hup (g _ _ upd_same) ?_ fun v hv' => ?_⟩
  · have := paired_of_each (S := fun v e => RowV H2 v (rowR e)) (f := fun v => V.ref (bkA v)) (fun v e h => ?_) (PySem.W.each_mem eo)
    · rw [List.map_map]
      exact paired_map_right rowR this
    · obtain ⟨⟨b, rfl, hb, t, hg⟩, hme⟩ := h
      obtain ⟨vs, ⟨j, e', hj, he', rfl⟩, hH⟩ := qt b hb
      obtain ⟨t', hg'⟩ := pr j b e' hj he'
      rw [hg] at hg'
      have e3 : e'.1 = e.1 ∧ e'.2.1 = e.2.1 := by
        injection hg' with hg'
        injection hg' with _ _ hg' _
        injection hg' with hg' _
        have x0 := congrArg (fun z : Array Value => z[0]?) hg'
        have x1 := congrArg (fun z : Array Value => z[1]?) hg'
        simp at x0 x1
        exact ⟨x0.1.symm, x1.symm⟩
      rw [e3.1, e3.2] at hH
      have hev : H e.2.1 = some (.tup (e.2.2.map V.str)) := by
        exact hv e (pm.mem_iff.mp hme)
      exact ⟨b, e.2.1, rfl, hH, sm _ _ hev⟩
  · obtain ⟨v0, hv0, rfl⟩ := List.mem_map.mp (by rw [List.map_map] at hv'; exact hv')
    obtain ⟨b, rfl, hb⟩ := hom v0 hv0
    exact ⟨b, rfl, I.hok.fresh (Nat.le_of_lt (hG.above b hb))⟩
end
end VC
set_option Elab.async false
set_option linter.all false
set_option maxRecDepth 100000
set_option maxHeartbeats 4000000
/-! What a carry is, in plain terms; the mathematics of product, joint, within, rows. -/
namespace VC
open PySem PySem.Spec PyProof.Rows L2
structure Ca where
  rest : Bool
  f : Str → List Str
def unl (b : Bool) (r : Str) : List Str := if b then [r] else []
theorem unl_up (b : Bool) (r : Str) : Up (unl b r) := by
  cases b
  · exact Up.nil
  · exact Up.one r
theorem sd_unl (b : Bool) (r : Str) : sd (unl b r) = unl b r := sd_self (unl_up b r)
theorem mem_unl {b : Bool} {r x : Str} : x ∈ unl b r ↔ b = true ∧ x = r := by
  cases b <;> simp [unl]
structure Ca.Ok (ws : List Str) (c : Ca) : Prop where
  up : ∀ r, Up (c.f r)
  inn : ∀ r ∈ ws, ∀ x ∈ c.f r, x ∈ ws
  out : ∀ r, r ∉ ws → c.f r = unl c.rest r
def mulC (a b : Ca) : Ca := ⟨a.rest && b.rest, fun r => sd ((a.f r).flatMap b.f)⟩
def orC (a b : Ca) : Ca := ⟨a.rest || b.rest, fun r => sd (a.f r ++ b.f r)⟩
theorem mul_unl {a b : Ca} {r : Str} (ha : a.f r = unl a.rest r) (hb : b.f r = unl b.rest r) : sd ((a.f r).flatMap b.f) = unl (a.rest && b.rest) r := by
  rw [ha]
  cases h : a.rest with
  | false => rfl
  | true =>
    show sd ([r].flatMap b.f) = _
    rw [List.flatMap_singleton, hb, sd_unl]
    rfl
theorem or_unl {a b : Ca} {r : Str} (ha : a.f r = unl a.rest r) (hb : b.f r = unl b.rest r) : sd (a.f r ++ b.f r) = unl (a.rest || b.rest) r := by
  rw [ha, hb]
  refine (sd_eq (unl_up _ _) fun x => ?_).symm
  rw [List.mem_append, mem_unl, mem_unl, mem_unl, Bool.or_eq_true]
  constructor
  · rintro ⟨h | h, e⟩
    · exact .inl ⟨h, e⟩
    · exact .inr ⟨h, e⟩
  · rintro (⟨h, e⟩ | ⟨h, e⟩)
    · exact ⟨.inl h, e⟩
    · exact ⟨.inr h, e⟩
section
variable {ws : List Str} {a b c : Ca}
theorem mul_ok (ha : a.Ok ws) (hb : b.Ok ws) : (mulC a b).Ok ws where
  up := fun r => sd_up _
  inn := fun r hr x hx => by
    obtain ⟨m, hm, hx⟩ := List.mem_flatMap.mp (mem_sd.mp hx)
    exact hb.inn m (ha.inn r hr m hm) x hx
  out := fun r hr => mul_unl (ha.out r hr) (hb.out r hr)
theorem or_ok (ha : a.Ok ws) (hb : b.Ok ws) : (orC a b).Ok ws where
  up := fun r => sd_up _
  inn := fun r hr x hx => by
    rcases List.mem_append.mp (mem_sd.mp hx) with h | h
    · exact ha.inn r hr x h
    · exact hb.inn r hr x h
  out := fun r hr => or_unl (ha.out r hr) (hb.out r hr)
/-! ### rows -/
def rowsC (ws : List Str) (c : Ca) : List (Str × List Str) := ((sd ws).filter fun r => decide (c.f r ≠ unl c.rest r)).map fun r => (r, c.f r)
theorem rows_of {ks : List Str} (ok : c.Ok ws) (hk : Up ks) (hm : ∀ k, k ∈ ks ↔ c.f k ≠ unl c.rest k) : ks.map (fun r => (r, c.f r)) = rowsC ws c := by
  unfold rowsC
  congr 1
  refine up_ext hk ((sd_up ws).filter _) fun x => ?_
  rw [hm, List.mem_filter, mem_sd, decide_eq_true_iff]
  constructor
  · intro h
    exact ⟨Classical.byContradiction fun q => h (ok.out x q), h⟩
  · exact fun h => h.2
theorem nodup_len : ∀ {l ws : List Str}, l.Nodup → (∀ x ∈ l, x ∈ ws) → l.length ≤ ws.length
  | [], _, _, _ => Nat.zero_le _
  | x :: l, ws, nd, h => by
    obtain ⟨n1, n2⟩ := List.nodup_cons.mp nd
    have hx := h x List.mem_cons_self
    have := nodup_len (l := l) (ws := ws.erase x) n2 fun y hy => (List.mem_erase_of_ne (by intro e; exact n1 (e ▸ hy))).mpr (h y (List.mem_cons_of_mem _ hy))
    have e := List.length_erase_of_mem hx
    have : 0 < ws.length := List.length_pos_of_mem hx
    simp only [List.length_cons]
    omega
theorem f_len (ok : c.Ok ws) {r : Str} (hr : r ∈ ws) : (c.f r).length ≤ ws.length := nodup_len (ok.up r).nodup (ok.inn r hr)
theorem f_len1 (ok : c.Ok ws) (r : Str) : (c.f r).length ≤ ws.length + 1 := by
  by_cases hr : r ∈ ws
  · exact Nat.le_succ_of_le (f_len ok hr)
  · rw [ok.out r hr]
    unfold unl
    split <;> simp
/-! ### within -/
def Wi (a b : Ca) : Prop := ∀ r, ∀ x ∈ a.f r, x ∈ b.f r
theorem unl_sub {p q : Bool} {r : Str} : (∀ x ∈ unl p r, x ∈ unl q r) ↔ (p = true → q = true) := by
  constructor
  · intro h e
    exact (mem_unl.mp (h r (mem_unl.mpr ⟨e, rfl⟩))).1
  · intro h x hx
    obtain ⟨e1, e2⟩ := mem_unl.mp hx
    exact mem_unl.mpr ⟨h e1, e2⟩
theorem wi_or : Wi a (orC a b) := fun r x hx => mem_sd.mpr (List.mem_append_left _ hx)
theorem wi_rest (ha : a.Ok ws) (hb : b.Ok ws) {z : Str} (hz : z ∉ ws) (h : Wi a b) : a.rest = true → b.rest = true := by
  have q := h z
  rw [ha.out z hz, hb.out z hz] at q
  exact unl_sub.mp q
/-- by keys: outside of them both are as unlisted -/
theorem wi_of {ks : List Str} (ha : ∀ r, r ∉ ks → a.f r = unl a.rest r) (hb : ∀ r, r ∉ ks → b.f r = unl b.rest r) (hr : a.rest = true → b.rest = true) (h : ∀ r ∈ ks, ∀ x ∈ a.f r, x ∈ b.f r) : Wi a b := by
  intro r
  by_cases hk : r ∈ ks
  · exact h r hk
  · rw [ha r hk, hb r hk]
    exact unl_sub.mpr hr
/-! ### words, lengths of texts -/
def GoodW (x : Str) : Prop := 1 ≤ x.length ∧ x.length ≤ 8 ∧ ∀ c ∈ x.cps.toList, 97 ≤ c ∧ c ≤ 122
theorem good_repr {x : Str} (g : GoodW x) : (reprText x).length ≤ 82 := by
  have := PySem.StrLaws.reprText_len x fun c hc => by
    have := (g.2.2 c hc).2
    omega
  have := g.2.1
  omega
theorem sum_le {l : List Nat} {n : Nat} (h : ∀ x ∈ l, x ≤ n) : l.sum ≤ l.length * n := by
  induction l with
  | nil => simp
  | cons x l ih =>
    have h1 := ih fun y hy => h y (List.mem_cons_of_mem _ hy)
    have h2 := h x List.mem_cons_self
    simp only [List.sum_cons, List.length_cons, Nat.add_mul]
    omega
theorem tup_len {xs : List Str} {n : Nat} (hn : xs.length ≤ n) (g : ∀ x ∈ xs, GoodW x) : (tupleText (xs.map reprText)).length ≤ n * 84 + 3 := by
  have h1 := tupleText_len_le (xs.map reprText)
  have h2 := sum_le (l := (xs.map reprText).map (·.length)) (n := 82) fun y hy => by
    rw [List.map_map] at hy
    obtain ⟨x, hx, rfl⟩ := List.mem_map.mp hy
    exact good_repr (g x hx)
  simp only [List.length_map] at h1 h2
  omega
theorem row_len {r : Str × List Str} {n : Nat} (hk : GoodW r.1) (hn : r.2.length ≤ n) (g : ∀ x ∈ r.2, GoodW x) : (rowText r).length ≤ n * 84 + 100 := by
  have h1 := tupleText_len_le [reprText r.1, tupleText (r.2.map reprText)]
  have h2 := tup_len hn g
  have h3 := good_repr hk
  simp only [List.map_cons, List.map_nil, List.sum_cons, List.sum_nil, List.length_cons, List.length_nil] at h1
  show (tupleText [reprText r.1, tupleText (r.2.map reprText)]).length ≤ _
  omega
theorem rowsC_mem {r : Str × List Str} (h : r ∈ rowsC ws c) : r.1 ∈ ws ∧ r.2 = c.f r.1 := by
  obtain ⟨x, hx, rfl⟩ := List.mem_map.mp h
  exact ⟨mem_sd.mp (List.mem_filter.mp hx).1, rfl⟩
theorem rowsC_len : (rowsC ws c).length ≤ ws.length := by
  unfold rowsC
  rw [List.length_map]
  exact Nat.le_trans (List.length_filter_le _ _) (sd_len ws)
theorem rows_len (ok : c.Ok ws) (hw : ws.length ≤ 10) (g : ∀ x ∈ ws, GoodW x) : (rowsText (rowsC ws c)).length ≤ 20000 := by
  have h1 := listText_len_le ((rowsC ws c).map rowText)
  have h2 := sum_le (l := ((rowsC ws c).map rowText).map (·.length)) (n := 940) fun y hy => by
    rw [List.map_map] at hy
    obtain ⟨r, hr, rfl⟩ := List.mem_map.mp hy
    obtain ⟨m1, m2⟩ := rowsC_mem hr
    refine Nat.le_trans (row_len (n := 10) (g _ m1) ?_ ?_) (by omega)
    · rw [m2]
      exact Nat.le_trans (f_len ok m1) hw
    · rw [m2]
      exact fun x hx => g x (ok.inn _ m1 x hx)
  have h3 := rowsC_len (ws := ws) (c := c)
  simp only [List.length_map] at h1 h2
  show (listText ((rowsC ws c).map rowText)).length ≤ _
  have : (rowsC ws c).length * 940 ≤ 10 * 940 := Nat.mul_le_mul_right _ (by omega)
  omega
end
/-! ### tables of rows -/
theorem find_ent {es : List RowE} {r : Str} : valV (es.map entR) (Sum.inr r : L2.Key) = (es.find? fun e => decide (e.1 = r)).map fun e => V.ref e.2.1 := by
  induction es with
  | nil => rfl
  | cons e es ih =>
    by_cases h : e.1 = r
    · rw [List.map_cons, valV_pos (p := entR e) (by show (Sum.inr e.1 : L2.Key) = _; rw [h]), List.find?_cons_of_pos (by simpa using h)]
      rfl
    · rw [List.map_cons, valV_neg (p := entR e) (by intro z; exact h (Sum.inr.inj z)), List.find?_cons_of_neg (by simpa using h), ih]
theorem ent_none {es : List RowE} {r : Str} (h : r ∉ es.map (·.1)) : valV (es.map entR) (Sum.inr r : L2.Key) = none := by
  rw [find_ent, List.find?_eq_none.mpr fun e he => by simpa using fun z : e.1 = r => h (List.mem_map.mpr ⟨e, he, z⟩)]
  rfl
theorem ent_some {es : List RowE} {r : Str} (h : r ∈ es.map (·.1)) : ∃ e ∈ es, e.1 = r ∧ valV (es.map entR) (Sum.inr r : L2.Key) = some (.ref e.2.1) := by
  rw [find_ent]
  cases q : es.find? fun e => decide (e.1 = r) with
  | none =>
    obtain ⟨e, he, rfl⟩ := List.mem_map.mp h
    have := List.find?_eq_none.mp q e he
    simp at this
  | some e =>
    exact ⟨e, List.mem_of_find?_eq_some q, by simpa using List.find?_some q, rfl⟩
theorem put_ent {es : List RowE} {e : RowE} (h : e.1 ∉ es.map (·.1)) : putK (es.map entR) (Sum.inr e.1 : L2.Key) (.ref e.2.1) = (es ++ [e]).map entR := by
  rw [putK_new _ (ent_none h), List.map_append]
  rfl
theorem keys_ent (es : List RowE) : (es.map entR).map (·.1) = (es.map (·.1)).map Sum.inr := by
  rw [List.map_map, List.map_map]
  rfl
end VC
set_option Elab.async false
set_option linter.all false
set_option maxRecDepth 100000
set_option maxHeartbeats 4000000
/-! Further rules: text * int, tuple * 0 or 1, xs[i] op= e, dict comprehensions over any walk. -/
namespace VC
open PySem PySem.Spec PyProof.Rows L2
/-! ### text * int -/
def repS (x : Str) (k : Nat) : Str := ⟨(List.replicate k x.cps).foldl (· ++ ·) #[]⟩
theorem foldl_app (z : Array Nat) : ∀ (k : Nat) (acc : Array Nat), (List.replicate k z).foldl (· ++ ·) acc = acc ++ (List.replicate k z).foldl (· ++ ·) #[]
  | 0, acc => by simp
  | k + 1, acc => by
    rw [List.replicate_succ, List.foldl_cons, List.foldl_cons, foldl_app z k (acc ++ z), foldl_app z k (#[] ++ z)]
    simp [Array.append_assoc]
theorem repS_toList (x : Str) (k : Nat) : (repS x k).cps.toList = (List.replicate k x.cps.toList).flatten := by
  induction k with
  | zero => rfl
  | succ k ih =>
    unfold repS at ih ⊢
    rw [List.replicate_succ, List.replicate_succ, List.foldl_cons, foldl_app, List.flatten_cons, ← ih]
    simp
theorem repS_zero (x : Str) : repS x 0 = Str.empty := rfl
theorem repS_one (x : Str) : repS x 1 = x := by
  apply str_ext
  rw [repS_toList]
  simp
theorem repS_len (x : Str) (k : Nat) : (repS x k).length = k * x.length := by
  have h := congrArg List.length (repS_toList x k)
  rw [Array.length_toList] at h
  show (repS x k).cps.size = _
  rw [h]
  simp
  rfl
theorem repS_nil (x : Str) (k : Nat) (h : x.length = 0) : repS x k = x := by
  apply str_ext
  rw [repS_toList]
  have hx : x.cps.toList = [] := by
    apply List.eq_nil_of_length_eq_zero
    rw [Array.length_toList]; exact h
  rw [hx]
  simp
def rMulS : R2 := fun x y H Q => ∃ (z : Str) (k : Nat), x = .str z ∧ y = .int k ∧ k ≤ 1000 ∧ z.length ≤ 1000 ∧ Q (.str (repS z k)) H
section
variable {X : Cx}
theorem op_mulS : OpR X (binaryOp .Mult) rMulS := by
  intro pins s σ H x y v u Q I rx ry h
  obtain ⟨z, k, rfl, rfl, hk, hz, q⟩ := h
  obtain ⟨t, rfl⟩ := rx
  obtain ⟨t', rfl⟩ := ry
  have hm : z.length * ((k : Nat) : Int).toNat ≤ 1000000 := by
    rw [Int.toNat_natCast]
    exact Nat.mul_le_mul hz hk
  refine P.mul_str (by rw [decide_eq_false (by omega), decide_eq_false (by omega)]; rfl) (fun h1 h2 => ?_) (fun h1 h2 => ?_) ?_
  · have h3 : (1000 : Int) ≤ (2 ^ 63 - 1) / ((k : Nat) : Int) := by
      rw [Int.le_ediv_iff_mul_le (by omega)]
      omega
    omega
  · unfold PySem.Builtin.Str.tooLong
    rw [decide_eq_false_iff_not, sizeLine_eq]
    omega
  · by_cases h1 : ((k : Nat) : Int) < 1
    · rw [if_pos h1]
      obtain rfl : k = 0 := by omega
      exact ⟨by decide, ⟨.str (repS z 0), H, I.tok _, ⟨_, rfl⟩, q⟩⟩
    · rw [if_neg h1]
      by_cases h2 : (((k : Nat) : Int) == 1 || z.length == 0) = true
      · rw [if_pos h2]
        have e : repS z k = z := by
          rw [Bool.or_eq_true] at h2
          rcases h2 with h2 | h2
          · have e : k = 1 := by have := eq_of_beq h2; omega
            rw [e, repS_one]
          · exact repS_nil z k (eq_of_beq h2)
        rw [e] at q
        exact ⟨.str z, H, I, ⟨_, rfl⟩, q⟩
      · rw [if_neg h2]
        refine ⟨?_, ⟨.str (repS z k), H, I.tok _, ⟨_, by rw [Int.toNat_natCast]; rfl⟩, q⟩⟩
        have := repS_len z k
        rw [Int.toNat_natCast] at hm ⊢
        show (repS z k).length ≤ sizeLine
        rw [this, sizeLine_eq, Nat.mul_comm]
        omega
end
/-! ### tuple * 0 or 1 -/
section
theorem tuple_mul1 (l : Addr) (items : Array Value) (n : Nat) (dd : Option Addr) (sl : Array (Option Value)) (u : Tok) :
    Meets (Builtin.«tuple.__mul__» ⟨[.ref l, .int 1 u], []⟩) (fun _ R s => s.heap.get? l = some { cls := .type "tuple", dict := dd, data := .seq items n, slots := sl } ∧ R (.ok (.ret (Value.ref l))) s) :=
  .of_wp fun prog w A R s h => by
    obtain ⟨hp, g, d, tk, os⟩ := s
    obtain ⟨hl, h⟩ := h
    have f1 := AutoSeq1.idx_int
    have c1 : (items.isEmpty || (1 : Int) == 1) = true := by simp
    wp_walk using wpAny_loadPart' hl
    repeat (first
      | (refine wpAny_ite_true (by rw [c1]) ?_; wp_walk using wpAny_loadPart' hl))
    exact ⟨_, rfl, h⟩
theorem tuple_mul0 (l : Addr) (items : Array Value) (n : Nat) (dd : Option Addr) (sl : Array (Option Value)) (u : Tok) (hne : items.isEmpty = false) :
    Meets (Builtin.«tuple.__mul__» ⟨[.ref l, .int 0 u], []⟩) (fun _ R s => s.heap.get? l = some { cls := .type "tuple", dict := dd, data := .seq items n, slots := sl } ∧
      R (.ok (.ret (Value.ref s.heap.objs.size))) { s with heap := s.heap.push { cls := Value.type "tuple", data := Data.seq #[] }, toks := s.toks }) :=
  .of_wp fun prog w A R s h => by
    obtain ⟨hp, g, d, tk, os⟩ := s
    obtain ⟨hl, h⟩ := h
    have f1 := AutoSeq1.idx_int
    have c1 : (items.isEmpty || (0 : Int) == 1) = false := by rw [hne]; rfl
    wp_walk using wpAny_loadPart' hl
    repeat (first
      | (refine wpAny_ite_false (by rw [c1]; exact Bool.false_ne_true) ?_; wp_walk using wpAny_loadPart' hl))
    exact ⟨_, rfl, h⟩
/-- t * k, k 0 or 1, t not empty: an empty tuple, or t itself -/
def rRepT01 (K : PySem.W.Frag) : R2 := fun x y H Q => ∃ l k xs, x = .ref l ∧ y = .int k ∧ SqT K H l xs ∧ xs ≠ [] ∧ ((k = 1 ∧ Q (.ref l) H) ∨ (k = 0 ∧ ∀ p, H p = none → Q (.ref p) (upd H p (.tup []))))
variable {X : Cx}
theorem op_repT01 : OpR X (binaryOp .Mult) (rRepT01 X.K) := by
  intro pins s σ H x y v u Q I rx ry h
  obtain ⟨l, k, xs, rfl, rfl, hT, hne, q⟩ := h
  cases rx
  obtain ⟨t, rfl⟩ := ry
  obtain ⟨its, r, ⟨⟨cls, dd, data, sl⟩, ho, hc, n, hd⟩, hs⟩ := I.tuple hT
  simp only at hc hd
  subst hc hd
  have hle : its.length = xs.length := r.length.symm
  have hn : its ≠ [] := fun e => hne (by
    rw [e] at hle
    exact List.eq_nil_of_length_eq_zero hle.symm)
  have hi : its.toArray.isEmpty = false := by
    cases its with
    | nil => exact absurd rfl hn
    | cons a b => rfl
  rcases q with ⟨rfl, q⟩ | ⟨rfl, q⟩
  · exact wpAny_binaryOp_repeat_ref (T := "tuple") (U := "int") (by decide) ⟨_, ho, rfl⟩ (fun s' => typeIs_int s' 1 t) noFill_tuple_mul F.fills_int_mul F.slot_int_rmul repeat_tuple F.slot_int_index.lookup
      (call_meets F.slot_int_rmul (typeIs_int s 1 t) F.entry_int_rmul (F.args_int_rmul_2 _ _) (int_rmul_tuple 1 t l its.toArray n dd sl)
        ⟨ho, rfl, ⟨_, ho, rfl⟩, call_meets F.slot_tuple_mul ⟨_, ho, rfl⟩ F.entry_tuple_mul (F.args_tuple_mul_2 _ _) (tuple_mul1 l its.toArray n dd sl t) ⟨ho, ⟨.ref l, H, I, rfl, q⟩⟩⟩)
  · refine wpAny_binaryOp_repeat_ref (T := "tuple") (U := "int") (by decide) ⟨_, ho, rfl⟩ (fun s' => typeIs_int s' 0 t) noFill_tuple_mul F.fills_int_mul F.slot_int_rmul repeat_tuple F.slot_int_index.lookup
      (call_meets F.slot_int_rmul (typeIs_int s 0 t) F.entry_int_rmul (F.args_int_rmul_2 _ _) (int_rmul_tuple 0 t l its.toArray n dd sl)
        ⟨ho, rfl, ⟨_, ho, rfl⟩, call_meets F.slot_tuple_mul ⟨_, ho, rfl⟩ F.entry_tuple_mul (F.args_tuple_mul_2 _ _) (tuple_mul0 l its.toArray n dd sl t hi) ⟨ho, ?_⟩⟩)
    refine ⟨.ref s.heap.objs.size, _, I.laid (t' := s.toks) (o := .tup []) (fun b ob q => Heap.get?_push_of_some _ q) (Nat.le_refl _) ?_, rfl, q _ (I.hok.fresh (Nat.le_refl _))⟩
    exact ⟨by decide, [], .nil, IsTup.new _ _⟩
end
/-! ### xs[i] of a list, for xs[i] op= e -/
section
variable {X : Cx}
theorem pget_list : PGet X (rIxL X.K) := by
  intro pins s σ H o i ov iv Q I rx ry h
  obtain ⟨p, xs, i, z, rfl, rfl, hq, he, q⟩ := h
  cases rx
  obtain ⟨t, rfl⟩ := ry
  obtain ⟨its, r, pl, hz⟩ := I.list hq
  obtain ⟨j, h1, h2, h3, h4, h5⟩ := atI_get he
  obtain ⟨w, ew, rw'⟩ := r.get h2
  have hl := r.length
  have hn := line63
  have fin : EP X pins σ Q w s := ⟨z, H, I, rw', q⟩
  by_cases h0 : 0 ≤ i
  · have hj : i.toNat = j := by
      rw [seqIndex_of h0 h5] at h1
      exact Option.some.inj h1
    exact wpAny_getItem_list (x := w) pl.isList h0 (by omega) (by rw [hj]; simpa using ew) fin
  · have hj : (i + (its.toArray.size : Int)).toNat = j := by
      rw [seqIndex_neg (by omega) h4] at h1
      rw [List.size_toArray, ← hl]
      exact Option.some.inj h1
    exact wpAny_getItem_list_neg (x := w) pl.isList (by omega) (by rw [List.size_toArray] <;> omega) (by omega) (by rw [hj]; simpa using ew) fin
end
/-! ### dict comprehensions over any walk -/
section
variable {J : It} {n : Nat} {G : Hp → Prop} {Y : Nat → Hp → V → Hp → Prop}
theorem dc_it (w : Walk J n G Y) {g : TG} {tt : TT} {tk tv : TE} {vs : List Nat} {σ : L2.St} {H1 : Hp} {D : Addr} {Qd : Hp → Prop} (Pv : Nat → Hp → Prop) (h0 : Pv 0 (upd H1 D (.dK []))) (hG : ∀ i H, i ≤ n → Pv i H → G H)
    (hs : ∀ i x H H', i < n → Pv i H → Y i H x H' → g x (wipe σ vs) H' fun σ2 H2 => wipe σ2 vs = wipe σ vs ∧ tt σ2 H2 fun b H3 =>
      if b = true then tk σ2 H3 fun y H4 => tv σ2 H4 fun z H5 => ∃ kvs k, y = kV k ∧ H5 D = some (.dK kvs) ∧ kvs.length < sizeLine ∧ Pv (i + 1) (upd H5 D (.dK (putK kvs k z))) else Pv (i + 1) H3) (hd : ∀ H, Pv n H → Qd H) :
    ∃ W : Nat → Nat → Hp → Prop, (∃ m, W 0 m (upd H1 D (.dK []))) ∧ ∀ i m H, W i m H →
      (J.stop i H ∧ Qd H) ∨ (J.go i H ∧ ∃ Nx : Hp → Prop, (∀ H', Nx H' → ∃ m', m' < m ∧ W (i + 1) m' H') ∧ ∀ x H', J.yld i H x H' → g x (wipe σ vs) H' fun σ2 H2 => wipe σ2 vs = wipe σ vs ∧ tt σ2 H2 fun b H3 =>
        if b = true then tk σ2 H3 fun y H4 => tv σ2 H4 fun z H5 => ∃ kvs k, y = kV k ∧ H5 D = some (.dK kvs) ∧ kvs.length < sizeLine ∧ Nx (upd H5 D (.dK (putK kvs k z))) else Nx H3) := by
  refine ⟨fun i m H => m = n - i ∧ i ≤ n ∧ Pv i H, ⟨n, by simp, Nat.zero_le _, h0⟩, ?_⟩
  rintro i m H ⟨rfl, hi, p⟩
  have q := hG i H hi p
  by_cases hlt : i < n
  · refine .inr ⟨w.goes i H hlt q, Pv (i + 1), fun H' p' => ⟨n - (i + 1), by omega, rfl, hlt, p'⟩, fun x H' y => hs i x H H' hlt p (w.yields i H x H' hlt q y)⟩
  · have e : i = n := by omega
    subst e
    exact .inl ⟨w.stops H q, hd H p⟩
end
section
variable {X : Cx}
/-- name = {..} of a dict comprehension on one line, the name a local -/
theorem ps_setDc {i : Nat} {y : Str} {py : Pos} {kx vx tg iter : Expr} {ifs : List Expr} {scope : Scope} {own : List (Str × Nat)} {pos spos : Pos} {wi : TI} {g : TG} {tt : TT} {tk tv : TE} (hc : X.calm = true) (hN : X.N.Nodup) (hy : X.N[i]? = some y) (hyl : X.env.scope.names.lookup y = some .local)
    (hsw : swapsWith (.DictComp kx vx [⟨tg, iter, ifs, 0⟩] scope pos) (some (.Name y py)) spos.line X.env = pure true) (hi : PI X tg iter wi) (ok : BlkOk X.N X.env.scope scope own)
    (hg : ∀ (s : Shared) (H : Hp) (C : Addr) (cl : List (Str × Addr)) (fp : List Addr), PG (X.blk s H scope (compEnvC scope cl C X.env) fp) tg g) (ht : ∀ (s : Shared) (H : Hp) (C : Addr) (cl : List (Str × Addr)) (fp : List Addr), PTs (X.blk s H scope (compEnvC scope cl C X.env) fp) ifs tt)
    (hk : ∀ (s : Shared) (H : Hp) (C : Addr) (cl : List (Str × Addr)) (fp : List Addr), PE (X.blk s H scope (compEnvC scope cl C X.env) fp) kx tk)
    (he : ∀ (s : Shared) (H : Hp) (C : Addr) (cl : List (Str × Addr)) (fp : List Addr), PE (X.blk s H scope (compEnvC scope cl C X.env) fp) vx tv) (hs : ∀ x, foldedSetIterable iter X.env x = pure x := by intro _; rfl) :
    PS X (.Assign [.Name y py] (.DictComp kx vx [⟨tg, iter, ifs, 0⟩] scope pos) spos) (tAsg (tDc wi g tt tk tv (own.map (·.2))) (gName i)) := by
  refine ⟨fun pins s σ H D I h => ?_⟩
  rw [exec_Assign_Name_used _ _ _ _ hsw]
  refine wpAny_bind (wpAny_standAt (wpAny_bind ?_))
  show wpAny _ X.A (do let _ ← comprehension (.DictComp kx vx [⟨tg, iter, ifs, 0⟩] scope pos) scope X.env (firstIterPos [⟨tg, iter, ifs, 0⟩] pos) newDict false (eval iter X.env) (some (assign (.Name y py) X.env))) _ _ s
  have h : tDc wi g tt tk tv (own.map (·.2)) σ H (fun x H1 => gName i x σ H1 D.nx) := h
  refine wpAny_bind (thn (dc_core (Qf := fun _ s' => SP X pins D .next s') hc hN I hi ok hg ht hk he hs h fun L C s' m H' I' q hn f => ?_) fun _ s' hq => wpAny_pure (wpAny_pure hq))
  show wpAny _ _ (assign (.Name y py) X.env (.ref L)) _ _ _
  refine wpAny_assign_Name (store_ok2 (v := V.ref L) I' hN hy (.inl hyl) rfl (fun s2 I2 ⟨a, sb, ha⟩ => ?_) (.inr hyl))
  obtain ⟨f0, f1, f2, f3, f4, f5⟩ := f
  have haC : C ≠ a := by
    rcases ha with z | z
    · rw [z]; exact f1
    · exact fun e => f4 y a z e.symm
  refine ⟨m, hn.sameBut sb haC, fun h3 sb3 => ?_⟩
  exact ⟨_, H', I2.turned (t' := s2.toks) (fun b o hb e => (sb3.2 b hb).trans e) f0 f1 f3 f4 f5, q⟩
theorem swd_true {kx vx : Expr} {gs : List Comprehension} {scope : Scope} {pos py : Pos} {y : Str} {l : Nat} {env : Env} (hk : env.scope.kind = .function) (hy : env.scope.names.lookup y = some .local) (hl : (py.line == pos.line) = true)
    (ha : (scope.names.any fun (n, k) => n == y && (k == .local || k == .cell)) = false) : swapsWith (.DictComp kx vx gs scope pos) (some (.Name y py)) l env = pure true := by
  have ky : env.kindOf y = some .local := hy
  have hb : env.blockKind = .function := by unfold Env.blockKind; rw [hk]; rfl
  unfold swapsWith
  simp only [hb, ky, ha, Expr.pos, hl]
  rfl
end
/-! ### any body under a walk, the heap alone as state -/
theorem it_gen {J : It} {n : Nat} {G : Hp → Prop} {Y : Nat → Hp → V → Hp → Prop} (w : Walk J n G Y) {Body : (Hp → Prop) → V → Hp → Prop} {H0 : Hp} {Qd : Hp → Prop} (Pv : Nat → Hp → Prop) (h0 : Pv 0 H0) (hG : ∀ i H, i ≤ n → Pv i H → G H)
    (hs : ∀ i x H H', i < n → Pv i H → Y i H x H' → Body (Pv (i + 1)) x H') (hd : ∀ H, Pv n H → Qd H) :
    ∃ W : Nat → Nat → Hp → Prop, (∃ m, W 0 m H0) ∧ ∀ i m H, W i m H →
      (J.stop i H ∧ Qd H) ∨ (J.go i H ∧ ∃ Nx : Hp → Prop, (∀ H', Nx H' → ∃ m', m' < m ∧ W (i + 1) m' H') ∧ ∀ x H', J.yld i H x H' → Body Nx x H') := by
  refine ⟨fun i m H => m = n - i ∧ i ≤ n ∧ Pv i H, ⟨n, by simp, Nat.zero_le _, h0⟩, ?_⟩
  rintro i m H ⟨rfl, hi, p⟩
  have q := hG i H hi p
  by_cases hlt : i < n
  · refine .inr ⟨w.goes i H hlt q, Pv (i + 1), fun H' p' => ⟨n - (i + 1), by omega, rfl, hlt, p'⟩, fun x H' y => hs i x H H' hlt p (w.yields i H x H' hlt q y)⟩
  · have e : i = n := by omega
    subst e
    exact .inl ⟨w.stops H q, hd H p⟩
theorem inV_strs (x : Str) (xs : List Str) : inV (.str x) (xs.map V.str) = decide (x ∈ xs) := by
  unfold inV
  rw [List.any_map, Bool.eq_iff_iff, List.any_eq_true, decide_eq_true_iff]
  constructor
  · rintro ⟨y, hy, e⟩
    have : y = x := by simpa [eqV] using e
    exact this ▸ hy
  · intro hx
    exact ⟨x, hx, by simp [eqV]⟩
theorem flat_strs (xs : List Str) : (xs.map V.str).all flatV = true := by
  rw [List.all_map, List.all_eq_true]
  intro x _
  rfl
theorem map_get {α β : Type} {f : α → β} {xs : List α} {i : Nat} {y : β} (h : (xs.map f)[i]? = some y) : ∃ x, xs[i]? = some x ∧ y = f x := by
  rw [List.getElem?_map] at h
  cases e : xs[i]? with
  | none => rw [e] at h; cases h
  | some x => rw [e] at h; exact ⟨x, rfl, (Option.some.inj h).symm⟩
/-! ### a list or a tuple, by a flag -/
def isq (b : Bool) (xs : List V) : HO := if b then .lst xs else .tup xs
theorem isq_or {K : PySem.W.Frag} {b : Bool} {H : Hp} {a : Addr} {xs : List V} (h : H a = some (isq b xs)) : SqL K H a xs ∨ SqT K H a xs := by
  cases b
  · exact .inr (.of h)
  · exact .inl (.of h)
theorem isq_ty {K : PySem.W.Frag} {b : Bool} {H : Hp} {a : Addr} {xs : List V} (h : H a = some (isq b xs)) : TyX K H (.ref a) (.type (if b then "list" else "tuple")) := by
  cases b
  · exact .base (.tup h)
  · exact .base (.lst h)
theorem isq_kit {K : PySem.W.Frag} (b : Bool) : PySem.W.kitAny K (.type (if b then "list" else "tuple")) [.type "list", .type "tuple"] = some true := by
  cases b
  · exact kitAny_cons (b := false) (kit_ty (by decide +kernel)) (fun _ => kitAny_cons (b := true) (kit_ty (by decide +kernel)) (fun h => nomatch h) fun _ => rfl) fun h => nomatch h
  · exact kitAny_cons (b := true) (kit_ty (by decide +kernel)) (fun h => nomatch h) fun _ => rfl
section
variable {X : Cx} {tg : Expr}
def iSeq (tl : TE) : TI := fun σ H R => tl σ H fun x H1 => ∃ a b xs, x = .ref a ∧ H1 a = some (isq b xs) ∧ ∀ J, Walk J xs.length (fun H => H a = some (isq b xs)) (YAt xs) → R J H1
theorem pi_seq {l : Expr} {tl : TE} (hl : PE X l tl) : PI X tg l (iSeq tl) := by
  refine ⟨fun pins s σ H R I h => ?_⟩
  refine thn (hl.run pins s σ H _ I h) fun v s1 ⟨x, H1, I1, r1, q1⟩ => ?_
  obtain ⟨a, b, xs, e, hq, q⟩ := q1
  subst e
  cases r1
  cases b with
  | true =>
    obtain ⟨its, rv, p, hz⟩ := I1.list (.of hq)
    refine wpAny_pyIter_list p.isList ?_
    refine ⟨s1.heap.objs.size, [s1.heap.objs.size], _, _, H1, rfl, I1.kept (t' := s1.toks) fun b o e => Heap.get?_push_of_some _ e, turn_list a _, ⟨_, Heap.get?_push_size _ rfl, rfl, rfl⟩, fun b hb => ?_, q (Itl X.K a) (walk_list.mono (fun H h => .of h) fun _ _ _ _ _ _ y => y)⟩
    have e : b = s1.heap.objs.size := by simpa using hb
    subst e
    exact I1.fpOk (Nat.le_refl _) (I1.hok.fresh (Nat.le_refl _))
  | false =>
    obtain ⟨its, rv, p, hz⟩ := I1.tuple (.of hq)
    refine wpAny_pyIter_tuple (show s1.heap.IsTuple a its.toArray from p) ?_
    refine ⟨s1.heap.objs.size, [s1.heap.objs.size], _, _, H1, rfl, I1.kept (t' := s1.toks) fun b o e => Heap.get?_push_of_some _ e, turn_tuple a _, ⟨_, Heap.get?_push_size _ rfl, rfl, rfl⟩, fun b hb => ?_, q (Itt X.K a) (walk_tup.mono (fun H h => .of h) fun _ _ _ _ _ _ y => y)⟩
    have e : b = s1.heap.objs.size := by simpa using hb
    subst e
    exact I1.fpOk (Nat.le_refl _) (I1.hok.fresh (Nat.le_refl _))
end
theorem paired_get {α β : Type} {R : α → β → Prop} : ∀ {as : List α} {bs : List β} {i : Nat} {a : α}, Paired R as bs → as[i]? = some a → ∃ b, bs[i]? = some b ∧ R a b
  | _, _, _, _, .nil, e => by simp at e
  | _, _, 0, _, .cons r _, e => by simp at e; subst e; exact ⟨_, rfl, r⟩
  | _, _, i + 1, _, .cons _ t, e => by
    obtain ⟨b, h1, h2⟩ := paired_get t (by simpa using e)
    exact ⟨b, by simpa using h1, h2⟩
theorem paired_len {α β : Type} {R : α → β → Prop} : ∀ {as : List α} {bs : List β}, Paired R as bs → as.length = bs.length
  | _, _, .nil => rfl
  | _, _, .cons _ t => by simp [paired_len t]
theorem paired_snoc {α β : Type} {R : α → β → Prop} {a : α} {b : β} (r : R a b) : ∀ {as : List α} {bs : List β}, Paired R as bs → Paired R (as ++ [a]) (bs ++ [b])
  | _, _, .nil => .cons r .nil
  | _, _, .cons h t => .cons h (paired_snoc r t)
theorem nodup_at {α : Type} {xs : List α} {i : Nat} {x : α} (nd : xs.Nodup) (h : xs[i]? = some x) : x ∉ xs.take i := by
  have e : xs.take (i + 1) = xs.take i ++ [x] := by
    rw [List.take_add_one, h]
    rfl
  have n2 : (xs.take (i + 1)).Nodup := nd.sublist (List.take_sublist _ _)
  rw [e, List.nodup_append] at n2
  exact fun hx => n2.2.2 x hx x (List.mem_singleton.mpr rfl) rfl
theorem take_snoc {α : Type} {xs : List α} {i : Nat} {x : α} (h : xs[i]? = some x) : xs.take (i + 1) = xs.take i ++ [x] := by
  rw [List.take_add_one, h]
  rfl
end VC
set_option Elab.async false
set_option linter.all false
set_option maxRecDepth 100000
set_option maxHeartbeats 4000000
/-! The same rules with the written part told: for use within a comprehension's block. -/
namespace VC
open PySem PySem.Spec PyProof.Rows L2
def rTupOf (K : PySem.W.Frag) : List V → Hp → VK → Prop := fun xs H Q => ∃ p ys, xs = [.ref p] ∧ ((SqL K H p ys ∧ ∀ l, H l = none → Q (.ref l) (upd H l (.tup ys))) ∨ (SqT K H p ys ∧ Q (.ref p) H))
def rLstOf (K : PySem.W.Frag) : List V → Hp → VK → Prop := fun xs H Q => ∃ p ys, xs = [.ref p] ∧ (SqL K H p ys ∨ SqT K H p ys) ∧ ∀ l, H l = none → Q (.ref l) (upd H l (.lst ys))
def rLenSeq (K : PySem.W.Frag) : List V → Hp → VK → Prop := fun xs H Q => ∃ p ys, xs = [.ref p] ∧ (SqL K H p ys ∨ SqT K H p ys) ∧ Q (.int ys.length) H
section
variable {X : Cx} {K : PySem.W.Frag} {w : World}
theorem k_tupOf (hK : X.K = K) : CallR X (.type "tuple") (rTupOf K) := hK ▸ call_tuple_of
theorem k_lstOf (hK : X.K = K) : CallR X (.type "list") (rLstOf K) := hK ▸ call_list_of
theorem k_lenSeq (hK : X.K = K) : CallR X (.builtin "len") (rLenSeq K) := hK ▸ call_len_seq
theorem k_setS (hc : X.calm = true) (hK : X.K = K) (hw : X.w = w) : CallR X (.type "set") (rSetS K w) := hK ▸ hw ▸ cr_setS hc
theorem k_sortSetS (hc : X.calm = true) (hw : X.w = w) : CallR X (.builtin "sorted") (rSortSetS w) := hw ▸ cr_sortSetS hc
theorem k_neD (hu : X.A.units + 64 < cLine) (hK : X.K = K) : OpR X (compareOp .NotEq) (rNeD K) := hK ▸ op_neD hu
theorem k_in (hK : X.K = K) : OpR X (compareOp .In) (rIn K false) := hK ▸ op_in_seq
theorem k_notIn (hK : X.K = K) : OpR X (compareOp .NotIn) (rIn K true) := hK ▸ op_notIn_seq
theorem k_ixL (hK : X.K = K) : IxR X (rIxL K) := hK ▸ ix_list
theorem k_ixT (hK : X.K = K) : IxR X (rIxT K) := hK ▸ ix_tup
theorem k_rep01 (hK : X.K = K) : OpR X (binaryOp .Mult) (rRepT01 K) := hK ▸ op_repT01
end
end VC
set_option Elab.async false
set_option linter.all false
set_option maxRecDepth 100000
/-! The text by places. -/
namespace VC
open PySem L2
def top (i : Nat) : Stmt := PySem.Challenge.pw_vouchchains_k25_whole_product_and_joint.main.body.getD i (.Pass ⟨0, 0, 0, 0⟩)
abbrev dWord : Stmt := top 6
abbrev dRow : Stmt := top 8
abbrev dRows : Stmt := top 9
abbrev dUnl : Stmt := top 10
abbrev dC : Stmt := top 11
abbrev dInit : Stmt := inClass dC 0
abbrev dRest : Stmt := inClass dC 1
abbrev dCRows : Stmt := inClass dC 2
abbrev dCarried : Stmt := inClass dC 3
abbrev dWithin : Stmt := inClass dC 4
abbrev dMul : Stmt := inClass dC 6
abbrev dOr : Stmt := inClass dC 7
abbrev dRepr : Stmt := inClass dC 9
abbrev dListed : Stmt := top 12
abbrev lBag : Stmt := top 14
abbrev lTake : Stmt := top 15
abbrev lMixed : Stmt := top 16
abbrev lLabels : Stmt := top 17
abbrev lDrawn : Stmt := top 18
abbrev lCarries : Stmt := top 19
abbrev lSpare : Stmt := top 20
abbrev lMade : Stmt := top 21
abbrev lRows : Stmt := top 22
abbrev lProd : Stmt := top 23
abbrev lJoint : Stmt := top 24
abbrev lWithin : Stmt := top 25
abbrev lShown : Stmt := top 26
abbrev lLaw : Stmt := top 27
end VC
set_option Elab.async false
set_option linter.all false
set_option maxRecDepth 100000
set_option maxHeartbeats 4000000
/-! is_word, is_carry_row, are_carry_rows, unlisted. -/
namespace VC
open PySem PySem.Spec PyProof.Rows L2
/-- what the walks ask of the text's names -/
structure Txt (K : PySem.W.Frag) (mg : Str → Option Value) (C p g : Addr) : Prop where
  cl : Cls K C
  nR : NoAttr K C "kept_rest"
  nK : NoAttr K C "kept_rules"
  pR : PropOf K C "rest" p g
  mgC : mg "Carry" = some (.ref C)
  letters : ∃ t, mg "LETTERS" = some (.str "abcdefghijklmnopqrstuvwxyz" t)
  most : ∃ t, mg "MOST_LETTERS" = some (.int 8 t)
  isi : mg "isinstance" = none
  len : mg "len" = none
  all : mg "all" = none
  set : mg "set" = none
  sorted : mg "sorted" = none
  tuple : mg "tuple" = none
  list : mg "list" = none
  str : mg "str" = none
  bool : mg "bool" = none
  int : mg "int" = none
  abs : mg "abs" = none
  range : mg "range" = none
  repr : mg "repr" = none
  dict : mg "dict" = none
theorem Same.new {H : Hp} {p : Addr} {o : HO} (h : H p = none) : Same H (upd H p o) := fun b u e => by
  rw [upd_ne (ne_of_none e h)]; exact e
theorem Same.upd_new {H H1 : Hp} {p : Addr} {o : HO} (s : Same H H1) (h : H p = none) : Same H (upd H1 p o) := fun b u e => by
  rw [upd_ne (ne_of_none e h)]; exact s b u e
theorem Same.to_new {H H1 : Hp} {p : Addr} {o : HO} (s : Same H H1) (h : H1 p = none) : Same H (upd H1 p o) := s.trans (Same.new h)
theorem iteP {c A B : Prop} [Decidable c] (hc : c) (h : A) : if decide c = true then A else B := by
  rw [if_pos (decide_eq_true hc)]; exact h
theorem iteNP {c A B : Prop} [Decidable c] (hc : ¬ c) (h : B) : if decide c = true then A else B := by
  rw [if_neg (by simpa using hc)]; exact h
theorem iteB {b : Bool} {A B : Prop} (hb : b = true) (h : A) : if b = true then A else B := by
  rw [if_pos hb]; exact h
theorem iteNB {b : Bool} {A B : Prop} (hb : b = false) (h : B) : if b = true then A else B := by
  rw [hb]; exact h
/-- LETTERS' signs -/
theorem letter_in {c : Nat} (h1 : 97 ≤ c) (h2 : c ≤ 122) : c ∈ ("abcdefghijklmnopqrstuvwxyz" : Str).cps.toList := by
  have : ∀ d : Fin 26, (97 + d.val) ∈ ("abcdefghijklmnopqrstuvwxyz" : Str).cps.toList := by decide +kernel
  have q := this ⟨c - 97, by omega⟩
  have e : 97 + (c - 97) = c := by omega
  rw [← e]
  exact q
section
variable {P : Program} {w : World} {K : PySem.W.Frag} {mg : Str → Option Value} {base : Heap} {C p g : Addr}
def spWord : Sp := fun vs H Q _ => ∃ x, vs = [.str x] ∧ GoodW x ∧ ∀ H', Same H H' → Q (.bl true) H'
theorem scWord : FnScope ["thing", "letter"] ["thing"] (defScope dWord) := ⟨rfl, rfl, rfl, by decide +kernel, rfl, by decide +kernel, by decide +kernel⟩
theorem ok_word {f : Addr} {fd : FuncData} (F : L2.Fun K "is_word" "is_word" dWord f fd) (T : Txt K mg C p g) : FnOk P w K mg base CX0 1 f fd ["thing"] spWord := by
  refine F.ok scWord (fun vs H Q E h => ?_) (fun cdv A outer s H vs Q E hr h => ?_)
  · obtain ⟨x, rfl, _⟩ := h
    rfl
  · obtain ⟨x, rfl, gx, k⟩ := h
    obtain ⟨tl, hL⟩ := T.letters
    obtain ⟨tm, hM⟩ := T.most
    refine ⟨_, pss_cons (ps_if (PW.pt (pw_or (pt_not (pt_val (pe_callB call_isi (by rfl) T.isi (by decide +kernel) (pa_cons (pv 0) (pa_cons (pe_bltn (v := .ty "str") (by rfl) T.str (by decide +kernel) rfl) pa_nil)))))
        (pw_or1 (pt_not (pt_chain op_le op_le pe_int (pe_callB call_len_str (by rfl) T.len (by decide +kernel) (pa_cons (pv 0) pa_nil)) (pe_glob (v := .int 8) (by rfl) hM ⟨_, rfl⟩))))))
        (pss_one (ps_ret pe_bl)) pss_nil)
      (pss_one (ps_ret (pe_callB (cr_all rfl) (by rfl) T.all (by decide +kernel) (pa_cons
        (pe_lc (own := [("letter", 1)]) (g := gName 1) (tt := tYes) (by rfl) scWord.nd (pi_str (pv 0)) (blkOk_by (own := [("letter", 1)]) (N := ["thing", "letter"]) (sc := defScope dWord) (by decide +kernel))
          (fun _ _ _ _ _ => pg_name (i := 1) scWord.nd rfl (Or.inl rfl)) (fun _ _ _ _ _ => pts_nil)
          (fun _ _ _ _ _ => pe_cmpR op_in_sign (pv 1) (pe_glob (v := .str "abcdefghijklmnopqrstuvwxyz") (by rfl) hL ⟨_, rfl⟩) (by rfl))) pa_nil)))), ?_⟩
    refine ⟨_, rfl, .str x, .ty "str", _, _, true, rfl, .ty _, .base (.str x), kit_ty (by decide +kernel), true, rfl, ?_⟩
    refine iteF ?_
    obtain ⟨g1, g2, g3⟩ := gx
    refine ⟨_, rfl, x, rfl, by rw [sizeLine_eq]; omega, 1, _, rfl, rfl, _, rfl, ?_⟩
    refine iteP (by omega) ?_
    refine ⟨_, 8, rfl, rfl, _, rfl, ?_⟩
    refine iteNS (by omega) ?_
    refine ⟨_, rfl, x, rfl, fun D hD => ?_⟩
    refine lc_it walk_str (fun i H' => Same H H' ∧ H' D = some (.lst ((List.replicate i true).map V.bl))) ⟨Same.new hD, upd_same⟩ (fun _ _ _ _ => trivial) ?_ ?_
    · rintro i y H1 H2 hi ⟨s1, h1⟩ ⟨rfl, c, hc, rfl⟩
      refine ⟨rfl, ?_⟩
      refine ⟨_, rfl, c, _, rfl, rfl, _, h1, ?_, ?_⟩
      · rw [List.length_map, List.length_replicate, sizeLine_eq]
        have : i < x.length := hi
        omega
      · have hm : c ∈ x.cps.toList := by
          rw [← Array.getElem?_toList] at hc
          exact List.mem_of_getElem? hc
        have := g3 c hm
        rw [decide_eq_true (letter_in this.1 this.2), List.replicate_succ', List.map_append]
        exact ⟨Same.upd_new s1 hD, upd_same⟩
    · rintro H1 ⟨s1, h1⟩
      refine ⟨D, _, rfl, .of h1, ?_⟩
      have e : (List.replicate x.cps.size true).all id = true := by simp
      rw [e]
      exact k _ s1
/-! ### rows handed in -/
def RowIn (H : Hp) (v : V) (r : Str × List Str) : Prop := ∃ t l b, v = V.ref t ∧ H t = some (.tup [.str r.1, .ref l]) ∧ H l = some (isq b (r.2.map V.str))
theorem RowIn.same {H H' : Hp} {v : V} {r : Str × List Str} (s : Same H H') (h : RowIn H v r) : RowIn H' v r := by
  obtain ⟨t, l, b, e, h1, h2⟩ := h
  exact ⟨t, l, b, e, s _ _ h1, s _ _ h2⟩
structure GoodR (r : Str × List Str) : Prop where
  k : GoodW r.1
  v : ∀ x ∈ r.2, GoodW x
  n : r.2.length ≤ 1000
def spRow : Sp := fun vs H Q _ => ∃ v r, vs = [v] ∧ RowIn H v r ∧ GoodR r ∧ ∀ H', Same H H' → Q (.bl true) H'
theorem scRow : FnScope ["thing", "rule"] ["thing"] (defScope dRow) := ⟨rfl, rfl, rfl, by decide +kernel, rfl, by decide +kernel, by decide +kernel⟩
theorem ok_row {f fW : Addr} {fd fdW : FuncData} (F : L2.Fun K "is_carry_row" "is_carry_row" dRow f fd) (T : Txt K mg C p g) (FW : L2.Fun K "is_word" "is_word" dWord fW fdW) (bW : Binds K fdW ["thing"] []) (gW : mg "is_word" = some (.ref fW)) :
    FnOk P w K mg base CX0 2 f fd ["thing"] spRow := by
  have GW : FnOk P w K mg base CX0 1 fW fdW ["thing"] spWord := ok_word FW T
  refine F.ok scRow (fun vs H Q E h => ?_) (fun cdv A outer s H vs Q E hr h => ?_)
  · obtain ⟨v, r, rfl, _⟩ := h
    rfl
  · obtain ⟨v, r, rfl, ⟨t, l, b, rfl, ht, hl⟩, ⟨g1, g2, g3⟩, k⟩ := h
    refine ⟨_, pss_cons (ps_if (PW.pt (pw_or (pt_not (pt_val (pe_callB call_isi (by rfl) T.isi (by decide +kernel) (pa_cons (pv 0) (pa_cons (pe_bltn (v := .ty "tuple") (by rfl) T.tuple (by decide +kernel) rfl) pa_nil)))))
        (pw_or (pt_cmpR op_ne (pe_callB call_len_seq (by rfl) T.len (by decide +kernel) (pa_cons (pv 0) pa_nil)) pe_int (nomark _))
        (pw_or1 (pt_not (pt_val (pe_call GW hr rfl gW FW.kp bW .nil pass0 (pa_cons (pe_ix ix_tup (pv 0) pe_int (fun _ _ => rfl)) pa_nil))))))))
        (pss_one (ps_ret pe_bl)) pss_nil)
      (pss_one (ps_ret (pe_and (pe_callB call_isiT (by rfl) T.isi (by decide +kernel) (pa_cons (pe_ix ix_tup (pv 0) pe_int (fun _ _ => rfl)) (pa_cons (pe_tup (pa_cons (pe_bltn (v := .ty "list") (by rfl) T.list (by decide +kernel) rfl) (pa_cons (pe_bltn (v := .ty "tuple") (by rfl) T.tuple (by decide +kernel) rfl) pa_nil))) pa_nil)))
        (pe_one (pe_callB (cr_all rfl) (by rfl) T.all (by decide +kernel) (pa_cons
        (pe_lc (own := [("rule", 1)]) (g := gName 1) (tt := tYes) (by rfl) scRow.nd (pi_seq (pe_ix ix_tup (pv 0) pe_int (fun _ _ => rfl))) (blkOk_by (own := [("rule", 1)]) (N := ["thing", "rule"]) (sc := defScope dRow) (by decide +kernel))
          (fun _ _ _ _ _ => pg_name (i := 1) scRow.nd rfl (Or.inl rfl)) (fun _ _ _ _ _ => pts_nil)
          (fun _ _ _ _ _ => pe_call GW hr rfl gW FW.kp bW .nil pass0 (pa_cons (pv 1) pa_nil))) pa_nil)))))), ?_⟩
    refine ⟨_, rfl, .ref t, .ty "tuple", _, _, true, rfl, .ty _, .base (.tup ht), kit_ty (by decide +kernel), true, rfl, ?_⟩
    refine iteF ?_
    refine ⟨_, rfl, t, _, rfl, .inr (.of ht), rfl, _, rfl, ?_⟩
    refine iteF ?_
    refine ⟨_, rfl, t, _, _, _, rfl, rfl, .of ht, atI_nat (j := 0) rfl, r.1, rfl, g1, fun H1 s1 => ?_⟩
    refine ⟨true, rfl, ?_⟩
    refine iteF ?_
    have ht1 := s1 _ _ ht
    refine ⟨_, rfl, t, _, _, _, rfl, rfl, .of ht1, atI_nat (j := 1) rfl, by decide, fun q hq => ?_⟩
    have s2 : Same H1 _ := Same.new (o := .tup [.ty "list", .ty "tuple"]) hq
    refine ⟨.ref l, q, _, _, _, true, rfl, upd_same, .cons (.ty _) (.cons (.ty _) .nil), isq_ty (b := b) (s2 _ _ (s1 _ _ hl)), isq_kit b, true, rfl, ?_⟩
    refine iteT ?_
    have s3 := s1.trans s2
    refine ⟨_, rfl, t, _, _, _, rfl, rfl, .of (s3 _ _ ht), atI_nat (j := 1) rfl, l, b, _, rfl, s3 _ _ hl, fun J wk D hD => ?_⟩
    refine lc_it wk (fun i H' => Same H H' ∧ (∀ c, H c = none → c ≠ D → True) ∧ H' D = some (.lst ((List.replicate i true).map V.bl))) ⟨s3.trans (Same.new hD), fun _ _ _ => trivial, upd_same⟩ (fun i H' _ h => h.1 _ _ hl) ?_ ?_
    · rintro i y H2 H3 hi ⟨t1, _, h1⟩ ⟨rfl, hy⟩
      refine ⟨rfl, ?_⟩
      obtain ⟨x, hx, rfl⟩ : ∃ x, r.2[i]? = some x ∧ y = .str x := by
        rw [List.getElem?_map] at hy
        cases e : r.2[i]? with
        | none => rw [e] at hy; cases hy
        | some x => rw [e] at hy; exact ⟨x, rfl, (Option.some.inj hy).symm⟩
      have hn : H D = none := s3.free hD
      rw [List.length_map] at hi
      refine ⟨_, rfl, x, rfl, g2 x (List.mem_of_getElem? hx), fun H4 s4 => ⟨_, s4 _ _ h1, ?_, Same.upd_new (t1.trans s4) hn, fun _ _ _ => trivial, ?_⟩⟩
      · rw [List.length_map, List.length_replicate, sizeLine_eq]
        omega
      · rw [List.replicate_succ', List.map_append]
        exact upd_same
    · rintro H2 ⟨t1, _, h1⟩
      refine ⟨D, _, rfl, .of h1, ?_⟩
      rw [show (List.replicate (r.2.map V.str).length true).all id = true by simp]
      exact k _ t1
def spRows : Sp := fun vs H Q _ => ∃ a b us rs, vs = [V.ref a] ∧ H a = some (isq b us) ∧ Paired (RowIn H) us rs ∧ (∀ r ∈ rs, GoodR r) ∧ (rs.map (·.1)).Nodup ∧ rs.length ≤ 1000 ∧ ∀ H', Same H H' → Q (.bl true) H'
theorem scRows : FnScope ["thing", "row", "rule", "rules"] ["thing"] (defScope dRows) := ⟨rfl, rfl, rfl, by decide +kernel, rfl, by decide +kernel, by decide +kernel⟩
theorem ok_rows {f fR fW : Addr} {fd fdR fdW : FuncData} (F : L2.Fun K "are_carry_rows" "are_carry_rows" dRows f fd) (T : Txt K mg C p g) (FW : L2.Fun K "is_word" "is_word" dWord fW fdW) (bW : Binds K fdW ["thing"] []) (gW : mg "is_word" = some (.ref fW))
    (FR : L2.Fun K "is_carry_row" "is_carry_row" dRow fR fdR) (bR : Binds K fdR ["thing"] []) (gR : mg "is_carry_row" = some (.ref fR)) :
    FnOk P w K mg base CX0 3 f fd ["thing"] spRows := by
  have GR : FnOk P w K mg base CX0 2 fR fdR ["thing"] spRow := ok_row FR T FW bW gW
  refine F.ok scRows (fun vs H Q E h => ?_) (fun cdv A outer s H vs Q E hr h => ?_)
  · obtain ⟨a, b, us, rs, rfl, _⟩ := h
    rfl
  · obtain ⟨a, b, us, rs, rfl, ha, hus, gd, nd, hz, k⟩ := h
    refine ⟨_, pss_cons (ps_if (PW.pt (pw_or (pt_not (pt_val (pe_callB call_isiT (by rfl) T.isi (by decide +kernel) (pa_cons (pv 0) (pa_cons (pe_tup (pa_cons (pe_bltn (v := .ty "list") (by rfl) T.list (by decide +kernel) rfl) (pa_cons (pe_bltn (v := .ty "tuple") (by rfl) T.tuple (by decide +kernel) rfl) pa_nil))) pa_nil)))))
        (pw_or1 (pt_not (pt_val (pe_callB (cr_all rfl) (by rfl) T.all (by decide +kernel) (pa_cons
        (pe_lc (own := [("row", 1)]) (g := gName 1) (tt := tYes) (by rfl) scRows.nd (pi_seq (pv 0)) (blkOk_by (own := [("row", 1)]) (N := ["thing", "row", "rule", "rules"]) (sc := defScope dRows) (by decide +kernel))
          (fun _ _ _ _ _ => pg_name (i := 1) scRows.nd rfl (Or.inl rfl)) (fun _ _ _ _ _ => pts_nil)
          (fun _ _ _ _ _ => pe_call GR hr rfl gR FR.kp bR .nil pass0 (pa_cons (pv 1) pa_nil))) pa_nil)))))))
        (pss_one (ps_ret pe_bl)) pss_nil)
      (pss_one (ps_ret (pe_cmpR op_eq (pe_callB cr_lenSetS (by rfl) T.len (by decide +kernel) (pa_cons (pe_callTy (cr_setS rfl) (by rfl) T.set (by decide +kernel) (pa_cons
        (pe_lc (own := [("rule", 2), ("rules", 3)]) (g := gTup K 2 (gCons (gName 2) (gCons (gName 3) gNil))) (tt := tYes) (by rfl) scRows.nd (pi_seq (pv 0)) (blkOk_by (own := [("rule", 2), ("rules", 3)]) (N := ["thing", "row", "rule", "rules"]) (sc := defScope dRows) (by decide +kernel))
          (fun _ _ _ _ _ => pg_tup rfl (pgs_cons (pg_name (i := 2) scRows.nd rfl (Or.inl rfl)) (pgs_cons (pg_name (i := 3) scRows.nd rfl (Or.inl rfl)) pgs_nil))) (fun _ _ _ _ _ => pts_nil)
          (fun _ _ _ _ _ => pv 2)) pa_nil)) pa_nil))
        (pe_callB call_len_seq (by rfl) T.len (by decide +kernel) (pa_cons (pv 0) pa_nil)) (nomark _)))), ?_⟩
    have hul := paired_len hus
    refine ⟨_, rfl, by decide, fun q hq => ?_⟩
    have s2 : Same H _ := Same.new (o := .tup [.ty "list", .ty "tuple"]) hq
    refine ⟨.ref a, q, _, _, _, true, rfl, upd_same, .cons (.ty _) (.cons (.ty _) .nil), isq_ty (b := b) (s2 _ _ ha), isq_kit b, true, rfl, ?_⟩
    refine iteF ?_
    refine ⟨_, rfl, a, b, _, rfl, s2 _ _ ha, fun J wk D hD => ?_⟩
    refine lc_it wk (fun i H' => Same H H' ∧ H' D = some (.lst ((List.replicate i true).map V.bl))) ⟨s2.trans (Same.new hD), upd_same⟩ (fun i H' _ h => h.1 _ _ ha) ?_ ?_
    · rintro i y H2 H3 hi ⟨t1, h1⟩ ⟨rfl, hy⟩
      refine ⟨rfl, ?_⟩
      obtain ⟨r, hr1, hr2⟩ := paired_get hus hy
      have hn : H D = none := s2.free hD
      refine ⟨_, rfl, y, r, rfl, hr2.same t1, gd r (List.mem_of_getElem? hr1), fun H4 s4 => ⟨_, s4 _ _ h1, ?_, Same.upd_new (t1.trans s4) hn, ?_⟩⟩
      · rw [List.length_map, List.length_replicate, sizeLine_eq]
        omega
      · rw [List.replicate_succ', List.map_append]
        exact upd_same
    · rintro H2 ⟨t1, h1⟩
      refine ⟨D, _, rfl, .of h1, ?_⟩
      rw [show (List.replicate us.length true).all id = true by simp]
      refine ⟨true, rfl, ?_⟩
      refine iteF ?_
      refine ⟨_, rfl, a, b, _, rfl, t1 _ _ ha, fun J wk D hD => ?_⟩
      refine lc_it wk (fun i H' => Same H H' ∧ H' D = some (.lst (((rs.map (·.1)).take i).map V.str))) ⟨t1.trans (Same.new hD), upd_same⟩ (fun i H' _ h => h.1 _ _ ha) ?_ ?_
      · rintro i y H3 H4 hi ⟨t2, h2⟩ ⟨rfl, hy⟩
        obtain ⟨r, hr1, ⟨t, l, b', rfl, ht, hl⟩⟩ := paired_get hus hy
        have hn : H D = none := t1.free hD
        refine ⟨t, _, rfl, .of (t2 _ _ ht), rfl, _, _, rfl, _, _, rfl, rfl, rfl, ?_⟩
        refine ⟨_, rfl, _, h2, ?_, Same.upd_new t2 hn, ?_⟩
        · rw [List.length_map, sizeLine_eq]
          have := List.length_take_le i (rs.map (·.1))
          omega
        · rw [take_snoc (x := r.1) (by rw [List.getElem?_map, hr1]; rfl), List.map_append]
          exact upd_same
      · rintro H3 ⟨t2, h2⟩
        have e1 : (rs.map (·.1)).take us.length = rs.map (·.1) := by
          rw [hul]
          exact List.take_of_length_le (by rw [List.length_map]; exact Nat.le_refl _)
        rw [e1] at h2
        refine ⟨D, _, rfl, .inl (.of h2), by rw [List.length_map]; exact hz, fun c n hc hn1 hn2 => ?_⟩
        have e2 : n = us.length := by
          rw [hn2 nd, List.length_map, hul]
        subst e2
        refine ⟨c, _, _, rfl, upd_same, ?_⟩
        have t3 : Same H _ := t2.trans (Same.new (o := TSetO w c (fun j => j ∈ rs.map (·.1)) us.length) hc)
        refine ⟨_, rfl, a, _, rfl, isq_or (t3 _ _ ha), rfl, ?_⟩
        rw [decide_eq_true rfl]
        exact k _ t3
def spUnl : Sp := fun vs H Q _ => ∃ b r, vs = [.bl b, .str r] ∧ ∀ q H', Same H H' → H' q = some (.tup ((unl b r).map V.str)) → Q (.ref q) H'
theorem scUnl : FnScope ["rest", "rule"] ["rest", "rule"] (defScope dUnl) := ⟨rfl, rfl, rfl, by decide +kernel, rfl, by decide +kernel, by decide +kernel⟩
theorem ok_unl {f : Addr} {fd : FuncData} (F : L2.Fun K "unlisted" "unlisted" dUnl f fd) : FnOk P w K mg base CX0 1 f fd ["rest", "rule"] spUnl := by
  refine F.ok scUnl (fun vs H Q E h => ?_) (fun cdv A outer s H vs Q E hr h => ?_)
  · obtain ⟨b, r, rfl, _⟩ := h
    rfl
  · obtain ⟨b, r, rfl, k⟩ := h
    refine ⟨_, pss_one (ps_ret (pe_ifExp (pt_truth (pv 0) (fun _ => rfl)) (pe_tup (pa_cons (pv 1) pa_nil)) (pe_tup pa_nil))), ?_⟩
    refine ⟨_, rfl, b, rfl, ?_⟩
    cases b with
    | true =>
      refine iteT ?_
      exact ⟨_, rfl, (by show 1 ≤ sizeLine; decide), fun q hq => k q _ (Same.new hq) upd_same⟩
    | false =>
      refine iteF ?_
      exact ⟨by decide, fun q hq => k q _ (Same.new hq) upd_same⟩
end
end VC
set_option Elab.async false
set_option linter.all false
set_option maxRecDepth 100000
set_option maxHeartbeats 4000000
/-! Carry: __init__. -/
namespace VC
open PySem PySem.Spec PyProof.Rows L2
theorem kc : ¬ (("kept_rest" : Str) = "kept_rules") := by decide +kernel
def fl (b : Bool) (d : Addr) : List (Str × V) := putF "kept_rules" (.ref d) (putF "kept_rest" (.bl b) [])
theorem fl_rest (b : Bool) (d : Addr) : (fl b d).lookup ("kept_rest" : Str) = some (.bl b) := by
  unfold fl
  rw [lookup_putF, if_neg kc, lookup_putF, if_pos rfl]
theorem fl_rules (b : Bool) (d : Addr) : (fl b d).lookup ("kept_rules" : Str) = some (.ref d) := by
  unfold fl
  rw [lookup_putF, if_pos rfl]
theorem fl_no (b : Bool) (d : Addr) {m : Str} (h1 : ¬ m = "kept_rest") (h2 : ¬ m = "kept_rules") : (fl b d).lookup m = none := by
  unfold fl
  rw [lookup_putF, if_neg h2, lookup_putF, if_neg h1]
  rfl
/-- a Carry that means c stands at p; its kept rules are es -/
structure CarE (C : Addr) (H : Hp) (p : Addr) (c : Ca) (d : Addr) (es : List RowE) : Prop where
  ob : ∃ dx, H p = some (.ins C dx (fl c.rest d))
  dc : H d = some (.dK (es.map entR))
  nd : (es.map (·.1)).Nodup
  vals : ∀ e ∈ es, H e.2.1 = some (.tup (e.2.2.map V.str)) ∧ e.2.2 = c.f e.1 ∧ c.f e.1 ≠ unl c.rest e.1
  out : ∀ r, r ∉ es.map (·.1) → c.f r = unl c.rest r
def CarryAt (C : Addr) (H : Hp) (p : Addr) (c : Ca) : Prop := ∃ d es, CarE C H p c d es
theorem CarE.same {C : Addr} {H H' : Hp} {p d : Addr} {c : Ca} {es : List RowE} (s : Same H H') (h : CarE C H p c d es) : CarE C H' p c d es :=
  ⟨let ⟨dx, e⟩ := h.ob; ⟨dx, s _ _ e⟩, s _ _ h.dc, h.nd, fun e he => ⟨s _ _ (h.vals e he).1, (h.vals e he).2⟩, h.out⟩
theorem CarryAt.same {C : Addr} {H H' : Hp} {p : Addr} {c : Ca} (s : Same H H') (h : CarryAt C H p c) : CarryAt C H' p c := by
  obtain ⟨d, es, h⟩ := h
  exact ⟨d, es, h.same s⟩
theorem CarE.key {C : Addr} {H : Hp} {p d : Addr} {c : Ca} {es : List RowE} (h : CarE C H p c d es) (k : Str) : k ∈ es.map (·.1) ↔ c.f k ≠ unl c.rest k := by
  constructor
  · intro hk
    obtain ⟨e, he, rfl⟩ := List.mem_map.mp hk
    exact (h.vals e he).2.2
  · intro hk
    exact Classical.byContradiction fun q => hk (h.out k q)
theorem CarE.len {C : Addr} {H : Hp} {p d : Addr} {c : Ca} {es : List RowE} {ws : List Str} (h : CarE C H p c d es) (ok : c.Ok ws) : es.length ≤ ws.length := by
  rw [← List.length_map (f := (·.1)) (as := es)]
  exact nodup_len h.nd fun x hx => Classical.byContradiction fun q => (h.key x).mp hx (ok.out x q)
/-! ### what rows mean -/
def rowsF (b : Bool) (rs : List (Str × List Str)) (r : Str) : List Str := match rs.find? (fun q => decide (q.1 = r)) with
  | some q => sd q.2
  | none => unl b r
theorem rowsF_none {b : Bool} {rs : List (Str × List Str)} {r : Str} (h : r ∉ rs.map (·.1)) : rowsF b rs r = unl b r := by
  unfold rowsF
  rw [List.find?_eq_none.mpr fun e he => by simpa using fun z : e.1 = r => h (List.mem_map.mpr ⟨e, he, z⟩)]
theorem rowsF_some {b : Bool} : ∀ {rs : List (Str × List Str)} {q : Str × List Str}, (rs.map (·.1)).Nodup → q ∈ rs → rowsF b rs q.1 = sd q.2
  | p :: rs, q, nd, h => by
    rw [List.map_cons] at nd
    obtain ⟨n1, n2⟩ := List.nodup_cons.mp nd
    unfold rowsF
    rcases List.mem_cons.mp h with e | h
    · subst e
      rw [List.find?_cons_of_pos (by simp)]
    · have hne : ¬ p.1 = q.1 := fun e => n1 (e ▸ List.mem_map.mpr ⟨q, h, rfl⟩)
      rw [List.find?_cons_of_neg (by simpa using hne)]
      exact rowsF_some n2 h
theorem rowsF_up (b : Bool) (rs : List (Str × List Str)) (r : Str) : Up (rowsF b rs r) := by
  unfold rowsF
  split
  · exact sd_up _
  · exact unl_up _ _
theorem Same.unlock {H H' : Hp} {d : Addr} {o : Obj} {u : HO} (h : H d = some u) (s : Same (upd H d (.frz o u)) H') : Same H (upd H' d u) := fun b v e => by
  by_cases hb : b = d
  · subst hb
    rw [h] at e
    cases e
    exact upd_same
  · rw [upd_ne hb]
    exact s b v (by rw [upd_ne hb]; exact e)
theorem dp_strs {K : PySem.W.Frag} {H : Hp} : ∀ xs : List Str, DpAll K H (xs.map V.str) (xs.map PyData.str)
  | [] => .nil
  | x :: xs => .cons (.str x) (dp_strs xs)
theorem lay_strs : ∀ {xs : List Str}, (∀ x ∈ xs, PyData.strOk x = true) → PyData.canLayAll0 (xs.map PyData.str) = true
  | [], _ => by simp [PyData.canLayAll0]
  | x :: xs, h => by
    rw [List.map_cons, PyData.canLayAll0, lay_strs fun y hy => h y (List.mem_cons_of_mem _ hy), PyData.canLay0, h x List.mem_cons_self]
    rfl
theorem shaped_tup {xs : List Str} (h : ∀ x ∈ xs, PyData.strOk x = true) : SeqAt.shaped (.tuple (xs.map PyData.str)) = true := by
  unfold SeqAt.shaped
  rw [PyData.canLay0, lay_strs h, PyData.depth, depth_strs]
  rfl
theorem shaped_lst {xs : List Str} (h : ∀ x ∈ xs, PyData.strOk x = true) : SeqAt.shaped (.list (xs.map PyData.str)) = true := by
  unfold SeqAt.shaped
  rw [PyData.canLay0, lay_strs h, PyData.depth, depth_strs]
  rfl
theorem good_ok {x : Str} (g : GoodW x) : PyData.strOk x = true := by
  unfold PyData.strOk
  rw [Array.all_eq_true_iff_forall_mem]
  intro c hc
  have := (g.2.2 c (Array.mem_toList_iff.mpr hc)).2
  exact decide_eq_true (by omega)
theorem eqv_strs : ∀ xs ys : List Str, PyData.eqvAll (xs.map PyData.str) (ys.map PyData.str) = decide (xs = ys)
  | [], [] => by simp [PyData.eqvAll]
  | [], _ :: _ => by simp [PyData.eqvAll]
  | _ :: _, [] => by simp [PyData.eqvAll]
  | x :: xs, y :: ys => by
    rw [List.map_cons, List.map_cons, PyData.eqvAll, eqv_strs xs ys]
    rw [PyData.eqv]
    by_cases h : x = y
    · subst h
      simp
    · have : (x == y) = false := by simpa using h
      rw [this]
      simp [h]
section
variable {P : Program} {w : World} {K : PySem.W.Frag} {mg : Str → Option Value} {base : Heap} {C p g : Addr}
def spInit (C : Addr) : Sp := fun vs H Q _ => ∃ x dx b a kb us rs, vs = [V.ref x, .bl b, .ref a] ∧ H x = some (.ins C dx []) ∧ H a = some (isq kb us) ∧ Paired (RowIn H) us rs ∧ (∀ r ∈ rs, GoodR r ∧ r.2.length ≤ 60) ∧ (rs.map (·.1)).Nodup ∧ rs.length ≤ 60 ∧
  ∀ H', CarryAt C H' x ⟨b, rowsF b rs⟩ → (∀ c o, H c = some o → c ≠ x → H' c = some o) → Q .non H'
theorem scInit : FnScope ["self", "rest", "rows", "listed", "rule", "rules"] ["self", "rest", "rows"] (defScope dInit) := ⟨rfl, rfl, rfl, by decide +kernel, rfl, by decide +kernel, by decide +kernel⟩
theorem ok_init {f fL fU : Addr} {fd fdL fdU : FuncData} {dvs : List V} (F : FunD K "__init__" "Carry.__init__" (defArgs dInit) (defBody dInit) (defScope dInit) dvs [] f fd) (T : Txt K mg C p g)
    (GL : FnOk P w K mg base CX0 3 fL fdL ["thing"] spRows) (kL : PySem.W.keepIn K (.ref fL) = true) (bL : Binds K fdL ["thing"] []) (gL : mg "are_carry_rows" = some (.ref fL))
    (GU : FnOk P w K mg base CX0 1 fU fdU ["rest", "rule"] spUnl) (kU : PySem.W.keepIn K (.ref fU) = true) (bU : Binds K fdU ["rest", "rule"] []) (gU : mg "unlisted" = some (.ref fU)) :
    FnOk P w K mg base CX0 4 f fd ["self", "rest", "rows"] (spInit C) := by
  refine F.ok scInit (fun vs H Q E h => ?_) (fun cdv A outer s H vs Q E hr h => ?_)
  · obtain ⟨x, dx, b, a, kb, us, rs, rfl, _⟩ := h
    rfl
  · obtain ⟨x, dx, b, a, kb, us, rs, rfl, hx, ha, hus, gd, nd, hz, k⟩ := h
    have hr1 : Room 1 _ := hr.mono (by decide)
    refine ⟨_, PSs.nox (pss_cons (ps_if (pt_not (pt_val (pe_callB call_isi (by rfl) T.isi (by decide +kernel) (pa_cons (pv 1) (pa_cons (pe_bltn (v := .ty "bool") (by rfl) T.bool (by decide +kernel) rfl) pa_nil))))) pss_never pss_nil)
      (pss_cons (ps_if (pt_not (pt_val (pe_call GL hr rfl gL kL bL .nil pass0 (pa_cons (pv 2) pa_nil)))) pss_never pss_nil)
      (pss_cons (ps_setDc (i := 3) (own := [("rule", 4), ("rules", 5)]) (g := gTup K 2 (gCons (gName 4) (gCons (gName 5) gNil))) (tt := tYes) (by rfl) scInit.nd rfl rfl (swd_true rfl rfl rfl (by decide +kernel)) (pi_seq (pv 2))
          (blkOk_by (own := [("rule", 4), ("rules", 5)]) (N := ["self", "rest", "rows", "listed", "rule", "rules"]) (sc := defScope dInit) (by decide +kernel))
          (fun _ _ _ _ _ => pg_tup rfl (pgs_cons (pg_name (i := 4) scInit.nd rfl (Or.inl rfl)) (pgs_cons (pg_name (i := 5) scInit.nd rfl (Or.inl rfl)) pgs_nil))) (fun _ _ _ _ _ => pts_nil)
          (fun _ _ _ _ _ => pv 4)
          (fun _ _ _ _ _ => pe_callTy (T := "tuple") (k_tupOf (K := K) rfl) (by rfl) T.tuple (by decide +kernel) (pa_cons (pe_callB (id := "sorted") (k_sortSetS (w := w) rfl rfl) (by rfl) T.sorted (by decide +kernel) (pa_cons (pe_callTy (T := "set") (k_setS (K := K) (w := w) rfl rfl rfl) (by rfl) T.set (by decide +kernel) (pa_cons (pv 5) pa_nil)) pa_nil)) pa_nil)))
      (pss_cons (ps_fld (pv 0) (pv 1) rfl)
      (pss_one (ps_fld (pv 0) (pe_lock (pe_dc (own := [("rule", 4), ("rules", 5)]) (g := gTup K 2 (gCons (gName 4) (gCons (gName 5) gNil))) (by rfl) scInit.nd (pi_items (pv 3))
          (blkOk_by (own := [("rule", 4), ("rules", 5)]) (N := ["self", "rest", "rows", "listed", "rule", "rules"]) (sc := defScope dInit) (by decide +kernel))
          (fun _ _ _ _ _ => pg_tup rfl (pgs_cons (pg_name (i := 4) scInit.nd rfl (Or.inl rfl)) (pgs_cons (pg_name (i := 5) scInit.nd rfl (Or.inl rfl)) pgs_nil)))
          (fun _ _ _ _ _ => pts_one (pt_cmpR (k_neD (K := K) hr.units rfl) (pv 5) (pe_call GU hr1 rfl gU kU bU .nil pass0 (pa_cons (pv 1) (pa_cons (pv 4) pa_nil))) (nomark _)))
          (fun _ _ _ _ _ => pv 4) (fun _ _ _ _ _ => pv 5))) rfl)))))), ?_⟩
    have hul := paired_len hus
    refine ⟨_, rfl, .bl b, .ty "bool", _, _, true, rfl, .ty _, .base (.bl b), kit_ty (by decide +kernel), true, rfl, ?_⟩
    refine iteF ?_
    refine ⟨_, rfl, a, kb, us, rs, rfl, ha, hus, fun r hr' => (gd r hr').1, nd, by omega, fun H1 s1 => ?_⟩
    refine ⟨true, rfl, ?_⟩
    refine iteF ?_
    refine ⟨_, rfl, a, kb, us, rfl, s1 _ _ ha, fun J wk D hD => ?_⟩
    have hDn : H D = none := s1.free hD
    refine dc_it wk (fun i H' => Same H H' ∧ ∃ es : List RowE, H' D = some (.dK (es.map entR)) ∧ es.map rowR = (rs.take i).map (fun r => (r.1, sd r.2)) ∧ ∀ e ∈ es, H' e.2.1 = some (.tup (e.2.2.map V.str)))
      ⟨s1.trans (Same.new hD), [], upd_same, rfl, fun e he => (by cases he)⟩ (fun i H' _ h => h.1 _ _ ha) ?_ ?_
    · rintro i y H2 H3 hi ⟨t1, es, h1, h2, h3⟩ ⟨rfl, hy⟩
      obtain ⟨r, hr1, t, l, b', rfl, ht, hl⟩ := paired_get hus hy
      have hrm := List.mem_of_getElem? hr1
      refine ⟨t, _, rfl, .of (t1 _ _ ht), rfl, _, _, rfl, _, _, rfl, rfl, rfl, ?_⟩
      refine ⟨_, rfl, _, rfl, l, r.2, rfl, isq_or (t1 _ _ hl), (gd r hrm).1.n, fun c n hc hn1 _ => ⟨c, r.2, n, rfl, upd_same, by have := (gd r hrm).2; omega, fun q hq => ⟨q, _, rfl, .inl ⟨.of upd_same, fun u hu => ?_⟩⟩⟩⟩
      have s3 : Same H3 _ := ((Same.new (o := TSetO w c (fun j => j ∈ r.2) n) hc).trans (Same.new (o := .lst ((sd r.2).map V.str)) hq)).trans (Same.new (o := .tup ((sd r.2).map V.str)) hu)
      have hkeys : es.map (·.1) = (rs.take i).map (·.1) := by
        have := congrArg (List.map (·.1)) h2
        rw [List.map_map, List.map_map] at this
        exact this
      have hnew : r.1 ∉ es.map (·.1) := by
        rw [hkeys, List.map_take]
        exact nodup_at nd (by rw [List.getElem?_map, hr1]; rfl)
      have hlen : es.length ≤ 60 := by
        have := congrArg List.length hkeys
        rw [List.length_map, List.length_map] at this
        have := List.length_take_le i rs
        omega
      refine ⟨es.map entR, Sum.inr r.1, rfl, s3 _ _ h1, (by rw [List.length_map, sizeLine_eq]; omega), Same.upd_new (t1.trans s3) hDn, es ++ [(r.1, u, sd r.2)], ?_, ?_, ?_⟩
      · rw [upd_same, ← put_ent (e := (r.1, u, sd r.2)) hnew]
      · rw [List.map_append, h2, take_snoc hr1, List.map_append]
        rfl
      · intro e he
        rcases List.mem_append.mp he with he | he
        · rw [upd_ne (ne_of (h3 e he) h1 (by intro z; cases z))]
          exact s3 _ _ (h3 e he)
        · obtain rfl := List.mem_singleton.mp he
          have huD : u ≠ D := fun z => by
            subst z
            rw [((Same.new hc).trans (Same.new hq)) _ _ h1] at hu
            cases hu
          rw [upd_ne huD]
          exact upd_same
    · rintro H2 ⟨t1, es, h1, h2, h3⟩
      rw [hul, List.take_length] at h2
      have hE : ∀ e ∈ es, ∃ r ∈ rs, e.1 = r.1 ∧ e.2.2 = sd r.2 := fun e he => by
        have : rowR e ∈ es.map rowR := List.mem_map.mpr ⟨e, he, rfl⟩
        rw [h2] at this
        obtain ⟨r, hr', e'⟩ := List.mem_map.mp this
        injection e' with e1 e2
        exact ⟨r, hr', e1.symm, e2.symm⟩
      have hkeys : es.map (·.1) = rs.map (·.1) := by
        have := congrArg (List.map (·.1)) h2
        rw [List.map_map, List.map_map] at this
        exact this
      have hlen : es.length ≤ 60 := by
        have := congrArg List.length hkeys
        rw [List.length_map, List.length_map] at this
        omega
      have hDx : D ≠ x := ne_of h1 (t1 _ _ hx) (by intro z; cases z)
      refine ⟨_, rfl, _, rfl, x, C, dx, _, rfl, t1 _ _ hx, T.cl, T.nR, (by show 0 < 1000; decide), ?_⟩
      refine ⟨D, .dK (es.map entR), (by rw [upd_ne hDx]; exact h1), trivial, fun od => ?_⟩
      refine ⟨_, rfl, D, od, es.map entR, rfl, upd_same, fun D2 hD2 => ?_⟩
      have hD3 : (upd H2 x (.ins C dx (putF "kept_rest" (.bl b) []))) D = some (.dK (es.map entR)) := by rw [upd_ne hDx]; exact h1
      have hok : ∀ e ∈ es, (∀ y ∈ e.2.2, PyData.strOk y = true) ∧ PyData.strOk e.1 = true := fun e he => by
        obtain ⟨r, hr', e1, e2⟩ := hE e he
        rw [e1, e2]
        exact ⟨fun y hy => good_ok ((gd r hr').1.v y (mem_sd.mp hy)), good_ok (gd r hr').1.k⟩
      refine dc_it walk_items (fun i H' => Same (upd (upd H2 x (.ins C dx (putF "kept_rest" (.bl b) []))) D (.frz od (.dK (es.map entR)))) H' ∧ ∃ fs : List RowE, H' D2 = some (.dK (fs.map entR)) ∧ fs = (es.take i).filter (fun e => decide (e.2.2 ≠ unl b e.1)))
        ⟨Same.new hD2, [], upd_same, rfl⟩ (fun i H' _ h => h.1 _ _ upd_same) ?_ ?_
      · rintro i y H4 H5 hi ⟨t2, fs, k1, k2⟩ ⟨T', v1, v2, rfl, hT, rfl, hv1, hv2⟩
        obtain ⟨e, he, rfl, rfl⟩ : ∃ e, es[i]? = some e ∧ v1 = .str e.1 ∧ v2 = .ref e.2.1 := by
          simp only [List.getElem?_map] at hv1 hv2
          cases q : es[i]? with
          | none => rw [q] at hv1; cases hv1
          | some e => rw [q] at hv1 hv2; exact ⟨e, rfl, (Option.some.inj hv1).symm, (Option.some.inj hv2).symm⟩
        have hem := List.mem_of_getElem? he
        have hxe : e.2.1 ≠ x := ne_of (h3 e hem) (t1 _ _ hx) (by intro z; cases z)
        have hDe : e.2.1 ≠ D := ne_of (h3 e hem) h1 (by intro z; cases z)
        have hev : H4 e.2.1 = some (.tup (e.2.2.map V.str)) := t2 _ _ (by rw [upd_ne hDe, upd_ne hxe]; exact h3 e hem)
        have sT : Same H4 _ := Same.new (o := .tup [.str e.1, .ref e.2.1]) hT
        refine ⟨T', _, rfl, .of upd_same, rfl, _, _, rfl, _, _, rfl, rfl, rfl, ?_⟩
        refine ⟨_, rfl, _, rfl, _, rfl, b, e.1, rfl, fun q H6 s6 hq => ⟨_, _, .tup (.of ((sT.trans s6) _ _ hev)) (dp_strs _), .tup (.of hq) (dp_strs _), shaped_tup (hok e hem).1, shaped_tup ?_, _, rfl, ?_⟩⟩
        · intro y hy
          rw [(mem_unl.mp hy).2]
          exact (hok e hem).2
        · have e0 : (!PyData.eqv (.tuple (e.2.2.map PyData.str)) (.tuple ((unl b e.1).map PyData.str))) = decide (e.2.2 ≠ unl b e.1) := by
            rw [PyData.eqv, eqv_strs]
            by_cases z : e.2.2 = unl b e.1 <;> simp [z]
          rw [e0]
          have s6' := sT.trans s6
          have hfl : fs.length ≤ es.length := by
            rw [k2]
            exact Nat.le_trans (List.length_filter_le _ _) (List.length_take_le' _ _)
          by_cases hne : e.2.2 ≠ unl b e.1
          · refine iteP hne ?_
            refine ⟨_, rfl, _, rfl, fs.map entR, Sum.inr e.1, rfl, s6' _ _ k1, (by rw [List.length_map, sizeLine_eq]; omega), Same.upd_new (t2.trans s6') hD2, fs ++ [e], ?_, ?_⟩
            · have hnew : e.1 ∉ fs.map (·.1) := fun hm => by
                obtain ⟨e', he', e2⟩ := List.mem_map.mp hm
                rw [k2] at he'
                have := (List.mem_filter.mp he').1
                have nd' : (es.map (·.1)).Nodup := hkeys ▸ nd
                refine nodup_at nd' (i := i) (x := e.1) (by rw [List.getElem?_map, he]; rfl) ?_
                rw [← List.map_take]
                exact List.mem_map.mpr ⟨e', this, e2⟩
              rw [upd_same, ← put_ent hnew]
            · rw [take_snoc he, List.filter_append, ← k2, List.filter_cons_of_pos (by simpa using hne)]
              rfl
          · refine iteNP hne ?_
            refine ⟨t2.trans s6', fs, s6' _ _ k1, ?_⟩
            rw [take_snoc he, List.filter_append, ← k2, List.filter_cons_of_neg (by simpa using hne)]
            simp
      · rintro H4 ⟨t2, fs, k1, k2⟩
        rw [List.length_map, List.take_length] at k2
        refine ⟨t2 _ _ upd_same, ?_⟩
        have s7 : Same _ _ := Same.unlock hD3 t2
        have hD2D : D2 ≠ D := fun z => by
          subst z
          rw [upd_same] at hD2
          cases hD2
        have hD2x : D2 ≠ x := fun z => by
          subst z
          rw [upd_ne hDx.symm, upd_same] at hD2
          cases hD2
        refine ⟨_, rfl, x, C, dx, _, rfl, s7 _ _ upd_same, T.cl, T.nK, (by show 1 < 1000; decide), ?_⟩
        refine k _ ⟨D2, fs, ⟨dx, upd_same⟩, ?_, ?_, ?_, ?_⟩ ?_
        · rw [upd_ne hD2x, upd_ne hD2D]
          exact k1
        · rw [k2]
          exact ((hkeys ▸ nd : (es.map (·.1)).Nodup)).sublist ((List.filter_sublist).map _)
        · intro e he
          rw [k2] at he
          obtain ⟨hem, hf⟩ := List.mem_filter.mp he
          have hxe : e.2.1 ≠ x := ne_of (h3 e hem) (t1 _ _ hx) (by intro z; cases z)
          obtain ⟨r, hr', e1, e2⟩ := hE e hem
          have e3 : e.2.2 = rowsF b rs e.1 := by rw [e1, e2, rowsF_some nd hr']
          refine ⟨?_, e3, ?_⟩
          · rw [upd_ne hxe]
            exact s7 _ _ (by rw [upd_ne hxe]; exact h3 e hem)
          · show rowsF b rs e.1 ≠ unl b e.1
            rw [← e3]
            exact of_decide_eq_true hf
        · intro r hr'
          show rowsF b rs r = unl b r
          by_cases hm : r ∈ rs.map (·.1)
          · rw [← hkeys] at hm
            obtain ⟨e, hem, rfl⟩ := List.mem_map.mp hm
            obtain ⟨r', hr2, e1, e2⟩ := hE e hem
            have e3 : e.2.2 = rowsF b rs e.1 := by rw [e1, e2, rowsF_some nd hr2]
            rw [← e3]
            refine Classical.byContradiction fun hne => hr' (List.mem_map.mpr ⟨e, ?_, rfl⟩)
            rw [k2]
            exact List.mem_filter.mpr ⟨hem, decide_eq_true hne⟩
          · exact rowsF_none hm
        · intro c o hc hcx
          rw [upd_ne hcx]
          exact s7 _ _ (by rw [upd_ne hcx]; exact t1 _ _ hc)
end
end VC
set_option Elab.async false
set_option linter.all false
set_option maxRecDepth 100000
set_option maxHeartbeats 4000000
/-! Carry: rest, rows, carried; listed_rules; within. -/
namespace VC
open PySem PySem.Spec PyProof.Rows L2
structure WsOk (ws : List Str) : Prop where
  n : ws.length ≤ 7
  g : ∀ x ∈ ws, GoodW x
theorem rows_ds {C : Addr} {H : Hp} {p d : Addr} {c : Ca} {es ds : List RowE} {ws : List Str} (h : CarE C H p c d es) (ok : c.Ok ws) (pm : ds.Perm es) (up : Up (ds.map (·.1))) : ds.map rowR = rowsC ws c := by
  rw [← rows_of ok up fun k => ((pm.map (·.1)).mem_iff).trans (h.key k), List.map_map]
  refine List.map_congr_left fun e he => ?_
  have := (h.vals e (pm.mem_iff.mp he)).2.1
  show (e.1, e.2.2) = (e.1, c.f e.1)
  rw [this]
theorem paired_map {α β γ : Type} {R : α → γ → Prop} {f : β → γ} : ∀ {as : List α} {bs : List β}, Paired R as (bs.map f) → Paired (fun a b => R a (f b)) as bs
  | _, [], .nil => .nil
  | _, b :: bs, h => by
    rw [List.map_cons] at h
    cases h with
    | cons h1 h2 => exact .cons h1 (paired_map h2)
section
variable {P : Program} {w : World} {K : PySem.W.Frag} {mg : Str → Option Value} {base : Heap} {C p g : Addr}
def spCRows (C : Addr) : Sp := fun vs H Q _ => ∃ x c ws, vs = [V.ref x] ∧ CarryAt C H x c ∧ c.Ok ws ∧ WsOk ws ∧ ∀ l us H', Same H H' → H l = none → H' l = some (.lst us) → Paired (RowV H') us (rowsC ws c) → Q (.ref l) H'
theorem scCRows : FnScope ["self"] ["self"] (defScope dCRows) := ⟨rfl, rfl, rfl, by decide +kernel, rfl, by decide +kernel, by decide +kernel⟩
theorem ok_crows {f : Addr} {fd : FuncData} (F : L2.Fun K "rows" "Carry.rows" dCRows f fd) (T : Txt K mg C p g) : FnOk P w K mg base CX0 1 f fd ["self"] (spCRows C) := by
  refine F.ok scCRows (fun vs H Q E h => ?_) (fun cdv A outer s H vs Q E hr h => ?_)
  · obtain ⟨x, c, ws, rfl, _⟩ := h
    rfl
  · obtain ⟨x, c, ws, rfl, ⟨d, es, ca⟩, ok, wok, k⟩ := h
    refine ⟨_, pss_one (ps_ret (pe_callB (cr_sortedRows rfl hr.units) (by rfl) T.sorted (by decide +kernel) (pa_cons (pe_bm0 PySem.F.plainAttrs_dict PySem.F.slot_dict_items PySem.F.type_dict_items mt_itemsK (pe_fld (pv 0) rfl)) pa_nil))), ?_⟩
    obtain ⟨dx, hx⟩ := ca.ob
    refine ⟨_, rfl, x, C, dx, _, _, rfl, hx, T.cl, T.nK, fl_rules _ _, ?_⟩
    refine ⟨.inr (.inr (.inl ⟨rfl, .inl ⟨_, ca.dc⟩⟩)), d, _, rfl, rfl, ca.dc, fun q hq => ?_⟩
    have s1 := Same.new (o := L2.DX.itemsO q d) hq
    refine ⟨q, d, es, rfl, upd_same, s1 _ _ ca.dc, fun e he => s1 _ _ (ca.vals e he).1, ca.nd, ?_, fun H' l us ds sm hl pm up hl' pr _ => ?_⟩
    · have := ca.len ok
      have := wok.n
      omega
    · rw [rows_ds ca ok pm up] at pr
      exact k l us H' (s1.trans sm) (s1.free hl) hl' pr
def spCarried (C : Addr) : Sp := fun vs H Q _ => ∃ x c r, vs = [V.ref x, .str r] ∧ CarryAt C H x c ∧ ∀ l H', Same H H' → H l = none → H' l = some (.lst ((c.f r).map V.str)) → Q (.ref l) H'
theorem scCarried : FnScope ["self", "rule"] ["self", "rule"] (defScope dCarried) := ⟨rfl, rfl, rfl, by decide +kernel, rfl, by decide +kernel, by decide +kernel⟩
theorem ok_carried {f fU : Addr} {fd fdU : FuncData} (F : L2.Fun K "carried" "Carry.carried" dCarried f fd) (T : Txt K mg C p g)
    (GU : FnOk P w K mg base CX0 1 fU fdU ["rest", "rule"] spUnl) (kU : PySem.W.keepIn K (.ref fU) = true) (bU : Binds K fdU ["rest", "rule"] []) (gU : mg "unlisted" = some (.ref fU)) :
    FnOk P w K mg base CX0 2 f fd ["self", "rule"] (spCarried C) := by
  refine F.ok scCarried (fun vs H Q E h => ?_) (fun cdv A outer s H vs Q E hr h => ?_)
  · obtain ⟨x, c, r, rfl, _⟩ := h
    rfl
  · obtain ⟨x, c, r, rfl, ⟨d, es, ca⟩, k⟩ := h
    refine ⟨_, pss_one (ps_ret (pe_callTy call_list_of (by rfl) T.list (by decide +kernel) (pa_cons
      (pe_dget2 (hu_of hr) (pe_fld (pv 0) rfl) (pv 1) (pe_call GU hr rfl gU kU bU .nil pass0 (pa_cons (pe_fld (pv 0) rfl) (pa_cons (pv 1) pa_nil))) ⟨rfl, rfl, rfl, rfl⟩) pa_nil))), ?_⟩
    obtain ⟨dx, hx⟩ := ca.ob
    refine ⟨_, rfl, x, C, dx, _, _, rfl, hx, T.cl, T.nK, fl_rules _ _, ?_⟩
    refine ⟨d, rfl, .inl ⟨_, .of ca.dc⟩, ?_⟩
    refine ⟨_, rfl, _, rfl, x, C, dx, _, _, rfl, hx, T.cl, T.nR, fl_rest _ _, _, rfl, c.rest, r, rfl, fun q H1 s1 hq => ?_⟩
    refine ⟨_, DGet.k (k := Sum.inr r) (s1 _ _ ca.dc), ?_⟩
    by_cases hm : r ∈ es.map (·.1)
    · obtain ⟨e, he, rfl, hv⟩ := ent_some hm
      rw [hv]
      obtain ⟨v1, v2, v3⟩ := ca.vals e he
      rw [v2] at v1
      exact ⟨e.2.1, _, rfl, .inr (.of (s1 _ _ v1)), fun l hl => k l _ (s1.trans (Same.new hl)) (s1.free hl) upd_same⟩
    · rw [ent_none hm]
      have e1 := ca.out r hm
      rw [← e1] at hq
      exact ⟨q, _, rfl, .inr (.of hq), fun l hl => k l _ (s1.trans (Same.new hl)) (s1.free hl) upd_same⟩
def spListed (C : Addr) : Sp := fun vs H Q _ => ∃ x y a b ws, vs = [V.ref x, .ref y] ∧ CarryAt C H x a ∧ CarryAt C H y b ∧ a.Ok ws ∧ b.Ok ws ∧ WsOk ws ∧
  ∀ l ks H', Same H H' → H l = none → H' l = some (.lst (ks.map V.str)) → Up ks → (∀ k, k ∈ ks ↔ a.f k ≠ unl a.rest k ∨ b.f k ≠ unl b.rest k) → Q (.ref l) H'
theorem rowsC_key {ws : List Str} {c : Ca} (ok : c.Ok ws) (k : Str) : k ∈ (rowsC ws c).map (·.1) ↔ c.f k ≠ unl c.rest k := by
  unfold rowsC
  rw [List.map_map]
  constructor
  · intro h
    obtain ⟨x, hx, rfl⟩ := List.mem_map.mp h
    exact of_decide_eq_true (List.mem_filter.mp hx).2
  · intro h
    refine List.mem_map.mpr ⟨k, List.mem_filter.mpr ⟨mem_sd.mpr ?_, decide_eq_true h⟩, rfl⟩
    exact Classical.byContradiction fun q => h (ok.out k q)
theorem scListed : FnScope ["one", "other", "carry", "rule", "rules"] ["one", "other"] (defScope dListed) := ⟨rfl, rfl, rfl, by decide +kernel, rfl, by decide +kernel, by decide +kernel⟩
theorem ok_listed {f fR : Addr} {fd fdR : FuncData} (F : L2.Fun K "listed_rules" "listed_rules" dListed f fd) (T : Txt K mg C p g)
    (GR : FnOk P w K mg base CX0 1 fR fdR ["self"] (spCRows C)) (mR : Meth K C "rows" fR) (bR : Binds K fdR ["self"] []) :
    FnOk P w K mg base CX0 2 f fd ["one", "other"] (spListed C) := by
  refine F.ok scListed (fun vs H Q E h => ?_) (fun cdv A outer s H vs Q E hr h => ?_)
  · obtain ⟨x, y, a, b, ws, rfl, _⟩ := h
    rfl
  · obtain ⟨x, y, a, b, ws, rfl, ca, cb, oa, ob, wok, k⟩ := h
    refine ⟨_, pss_one (ps_ret (pe_callB (cr_sortSetS rfl) (by rfl) T.sorted (by decide +kernel) (pa_cons (pe_callTy (cr_setS rfl) (by rfl) T.set (by decide +kernel) (pa_cons
      (pe_lc2 (own := [("carry", 2), ("rule", 3), ("rules", 4)]) (vs1 := [3, 4]) (g := gName 2) (g1 := gTup K 2 (gCons (gName 3) (gCons (gName 4) gNil))) (tt := tYes) (tt1 := tYes) (by rfl) scListed.nd (pi_tup (pe_tup (pa_cons (pv 0) (pa_cons (pv 1) pa_nil))))
        (blkOk_by (own := [("carry", 2), ("rule", 3), ("rules", 4)]) (N := ["one", "other", "carry", "rule", "rules"]) (sc := defScope dListed) (by decide +kernel)) (by decide)
        (fun _ _ _ _ _ => pg_name (i := 2) scListed.nd rfl (Or.inl rfl)) (fun _ _ _ _ _ => pts_nil)
        (wi1 := iList K (tMeth C "rows" (spCRows C) [] E0 (tVar 2) tNil)) (fun _ _ _ _ _ => pi_list (pe_meth0 (pv 2) T.cl mR GR hr bR .nil pass0))
        (fun _ _ _ _ _ => pg_tup rfl (pgs_cons (pg_name (i := 3) scListed.nd rfl (Or.inl rfl)) (pgs_cons (pg_name (i := 4) scListed.nd rfl (Or.inl rfl)) pgs_nil))) (fun _ _ _ _ _ => pts_nil)
        (fun _ _ _ _ _ => pv 3)) pa_nil)) pa_nil))), ?_⟩
    obtain ⟨cs, hcs⟩ : ∃ cs : List (Addr × Ca), cs = [(x, a), (y, b)] := ⟨_, rfl⟩
    have hall : ∀ q ∈ cs, CarryAt C H q.1 q.2 ∧ q.2.Ok ws := by
      subst hcs
      intro q hq
      rcases List.mem_cons.mp hq with e | hq
      · subst e; exact ⟨ca, oa⟩
      · obtain rfl := List.mem_singleton.mp hq
        exact ⟨cb, ob⟩
    have hlen : ∀ l : List (Addr × Ca), (l.flatMap fun q => (rowsC ws q.2).map (·.1)).length ≤ l.length * 7 := by
      intro l
      induction l with
      | nil => simp
      | cons q l ih =>
        rw [List.flatMap_cons, List.length_append, List.length_map, List.length_cons, Nat.add_mul]
        have := rowsC_len (ws := ws) (c := q.2)
        have := wok.n
        omega
    refine ⟨_, rfl, _, rfl, (by show 2 ≤ sizeLine; decide), fun tq htq => ⟨tq, rfl, ⟨_, .of upd_same⟩, fun D hD => ?_⟩⟩
    have s1 : Same H _ := Same.new (o := .tup [.ref x, .ref y]) htq
    have hDn : H D = none := s1.free hD
    have eitems : ([.ref x, .ref y] : List V) = cs.map fun q => V.ref q.1 := by rw [hcs]; rfl
    refine it_gen (walk_tup (K := K) (a := tq) (xs := [.ref x, .ref y])) (fun i H' => Same H H' ∧ H' tq = some (.tup [.ref x, .ref y]) ∧ H' D = some (.lst (((cs.take i).flatMap fun q => (rowsC ws q.2).map (·.1)).map V.str)))
      ⟨s1.trans (Same.new hD), (Same.new hD) _ _ upd_same, upd_same⟩ (fun i H' _ h => .of h.2.1) ?_ ?_
    · rintro i v H1 H2 hi ⟨t1, t2, t3⟩ ⟨rfl, hv⟩
      rw [eitems] at hv
      obtain ⟨q, hq, rfl⟩ := map_get hv
      obtain ⟨cq, oq⟩ := hall q (List.mem_of_getElem? hq)
      refine ⟨rfl, ?_⟩
      have ⟨d, es, ce⟩ := cq.same t1
      obtain ⟨dx, hx⟩ := ce.ob
      refine ⟨_, rfl, q.1, dx, _, rfl, hx, fl_no _ _ (by decide +kernel) (by decide +kernel), q.1, q.2, ws, rfl, cq.same t1, oq, wok, fun l us H3 s3 hl hl3 pr => ?_⟩
      refine ⟨l, rfl, ⟨_, .of hl3⟩, ?_⟩
      have hus := paired_len pr
      have hlD : l ≠ D := (ne_of_none t3 hl).symm
      refine it_gen (walk_list (K := K) (a := l) (xs := us)) (fun j H' => Same H H' ∧ Same H3 H3 ∧ H' tq = some (.tup [.ref x, .ref y]) ∧ (∀ b o, H3 b = some o → b ≠ D → H' b = some o) ∧ H' D = some (.lst (((cs.take i).flatMap (fun q => (rowsC ws q.2).map (·.1)) ++ ((rowsC ws q.2).map (·.1)).take j).map V.str)))
        ⟨t1.trans s3, Same.refl _, s3 _ _ t2, fun b o e _ => e, by rw [List.take_zero, List.append_nil]; exact s3 _ _ t3⟩ (fun j H' _ h => .of (h.2.2.2.1 _ _ hl3 hlD)) ?_ ?_
      · rintro j v H4 H5 hj ⟨u1, _, u2, u3, u4⟩ ⟨rfl, hv⟩
        obtain ⟨r, hr1, t, z, rfl, ht, hz⟩ := paired_get pr hv
        have htD : t ≠ D := ne_of ht (s3 _ _ t3) (by intro z; cases z)
        refine ⟨t, _, rfl, .of (u3 _ _ ht htD), rfl, _, _, rfl, _, _, rfl, rfl, rfl, ?_⟩
        refine ⟨_, rfl, _, u4, ?_, Same.upd_new u1 hDn, Same.refl _, ?_, fun b o e hb => by rw [upd_ne hb]; exact u3 _ _ e hb, ?_⟩
        · rw [List.length_map, List.length_append]
          have h1 := hlen (cs.take i)
          have h2 := List.length_take_le i cs
          have h3 := List.length_take_le' j ((rowsC ws q.2).map (·.1))
          have h4 := rowsC_len (ws := ws) (c := q.2)
          have h5 := wok.n
          rw [List.length_map] at h3
          have h6 : cs.length = 2 := by rw [hcs]; rfl
          rw [List.length_take] at h1
          rw [sizeLine_eq]
          omega
        · have : tq ≠ D := ne_of u2 u4 (by intro z; cases z)
          rw [upd_ne this]
          exact u2
        · rw [take_snoc (x := r.1) (by rw [List.getElem?_map, hr1]; rfl), ← List.append_assoc, List.map_append (l₂ := [r.1])]
          exact upd_same
      · rintro H4 ⟨u1, _, u2, u3, u4⟩
        refine ⟨u1, u2, ?_⟩
        have e3 : ((rowsC ws q.2).map (·.1)).take us.length = (rowsC ws q.2).map (·.1) := by
          rw [hus]
          exact List.take_of_length_le (by rw [List.length_map]; exact Nat.le_refl _)
        rw [u4, e3, take_snoc hq, List.flatMap_append]
        simp
    · rintro H1 ⟨t1, t2, t3⟩
      have e2 : cs.take ([.ref x, .ref y] : List V).length = cs := by rw [hcs]; rfl
      rw [e2] at t3
      refine ⟨D, _, rfl, .inl (.of t3), ?_, fun c n hc hn _ => ?_⟩
      · have := hlen cs
        have : cs.length = 2 := by rw [hcs]; rfl
        omega
      have hn14 : n ≤ 14 := by
        have := hlen cs
        have : cs.length = 2 := by rw [hcs]; rfl
        omega
      refine ⟨c, _, n, rfl, upd_same, by omega, fun q hq => ?_⟩
      have s2 := (t1.trans (Same.new (o := TSetO w c (fun j => j ∈ cs.flatMap fun q => (rowsC ws q.2).map (·.1)) n) hc))
      refine k q _ _ (s2.trans (Same.new hq)) (s2.free hq) upd_same (sd_up _) fun z => ?_
      rw [mem_sd, hcs]
      simp only [List.flatMap_cons, List.flatMap_nil, List.append_nil, List.mem_append]
      rw [rowsC_key oa, rowsC_key ob]
end
end VC
set_option Elab.async false
set_option linter.all false
set_option maxRecDepth 100000
set_option maxHeartbeats 4000000
/-! Carry: within, product, joint. -/
namespace VC
open PySem PySem.Spec PyProof.Rows L2
section
variable {P : Program} {w : World} {K : PySem.W.Frag} {mg : Str → Option Value} {base : Heap} {C p g : Addr}
def spWithin (C : Addr) : Sp := fun vs H Q _ => ∃ x y a b ws, vs = [V.ref x, .ref y] ∧ CarryAt C H x a ∧ CarryAt C H y b ∧ a.Ok ws ∧ b.Ok ws ∧ WsOk ws ∧
  ∀ t H', Same H H' → (t = true ↔ Wi a b) → Q (.bl t) H'
theorem scWithin : FnScope ["self", "other", "rule", "there", "found"] ["self", "other"] (defScope dWithin) := ⟨rfl, rfl, rfl, by decide +kernel, rfl, by decide +kernel, by decide +kernel⟩
theorem ok_within {f fL fC : Addr} {fd fdL fdC fdg : FuncData} (F : L2.Fun K "within" "Carry.within" dWithin f fd) (T : Txt K mg C p g)
    (GG : FnOk P w K mg base CX0 1 g fdg ["self"] (getSp C "kept_rest")) (bG : Binds K fdg ["self"] [])
    (GL : FnOk P w K mg base CX0 2 fL fdL ["one", "other"] (spListed C)) (kL : PySem.W.keepIn K (.ref fL) = true) (bL : Binds K fdL ["one", "other"] []) (gL : mg "listed_rules" = some (.ref fL))
    (GC : FnOk P w K mg base CX0 2 fC fdC ["self", "rule"] (spCarried C)) (mC : Meth K C "carried" fC) (bC : Binds K fdC ["self", "rule"] []) :
    FnOk P w K mg base CX0 3 f fd ["self", "other"] (spWithin C) := by
  refine F.ok scWithin (fun vs H Q E h => ?_) (fun cdv A outer s H vs Q E hr h => ?_)
  · obtain ⟨x, y, a, b, ws, rfl, _⟩ := h
    rfl
  · obtain ⟨x, y, a, b, ws, rfl, ca, cb, oa, ob, wok, k⟩ := h
    refine ⟨_, Evl.pss_cut (ps_if (PW.pt (pw_and (pt_truth (pe_fld (pv 0) rfl) (fun _ => rfl)) (pw_and1 (pt_not (pt_truth (pe_prop (pv 1) T.cl T.pR GG hr bG .nil pass0 rfl) (fun _ => rfl)))))) (pss_one (ps_ret pe_bl)) pss_nil)
      (pss_cons (ps_for PassesOwn.never rfl (pi_list (pe_call GL hr rfl gL kL bL .nil pass0 (pa_cons (pv 0) (pa_cons (pv 1) pa_nil)))) (pg_name (i := 2) scWithin.nd rfl (Or.inl rfl))
        (pss_cons (ps_set (i := 3) scWithin.nd rfl (Or.inr rfl) (pe_meth (pv 1) T.cl mC GC hr bC .nil pass0 (pa_cons (pv 2) pa_nil)))
        (pss_one (ps_if (pt_not (pt_val (pe_callB (cr_all rfl) (by rfl) T.all (by decide +kernel) (pa_cons
          (pe_lc (own := [("found", 4)]) (g := gName 4) (tt := tYes) (by rfl) scWithin.nd (pi_list (pe_meth (pv 0) T.cl mC GC hr bC .nil pass0 (pa_cons (pv 2) pa_nil))) (blkOk_by (own := [("found", 4)]) (N := ["self", "other", "rule", "there", "found"]) (sc := defScope dWithin) (by decide +kernel))
            (fun _ _ _ _ _ => pg_name (i := 4) scWithin.nd rfl (Or.inl rfl)) (fun _ _ _ _ _ => pts_nil)
            (fun _ _ _ _ _ => pe_cmpR (k_in (K := K) rfl) (pv 4) (pv 3) (by rfl))) pa_nil)))) (pss_one (ps_ret pe_bl)) pss_nil))))
      (pss_one (ps_ret pe_bl))), ?_⟩
    have ⟨da, ea, cea⟩ := ca
    have ⟨db, eb, ceb⟩ := cb
    obtain ⟨dx, hx⟩ := cea.ob
    obtain ⟨dy, hy⟩ := ceb.ob
    refine ⟨fun σ' H' => σ' = start ["self", "other", "rule", "there", "found"] [.ref x, .ref y] ∧ H = H' ∧ (a.rest = true → b.rest = true), ?_, ?_⟩
    · refine ⟨_, rfl, x, C, dx, _, _, rfl, hx, T.cl, T.nR, fl_rest _ _, a.rest, rfl, ?_⟩
      cases ha : a.rest with
      | false =>
        refine iteF ?_
        refine iteF ?_
        exact ⟨rfl, rfl, fun h => nomatch h⟩
      | true =>
        refine iteT ?_
        refine ⟨_, rfl, y, dy, _, rfl, hy, y, dy, _, _, rfl, hy, fl_rest _ _, b.rest, rfl, ?_⟩
        cases hb : b.rest with
        | true =>
          refine iteF ?_
          exact ⟨rfl, rfl, fun _ => rfl⟩
        | false =>
          refine iteT ?_
          refine k false H (Same.refl H) ⟨fun h => (nomatch h), fun h => ?_⟩
          have := wi_rest oa ob (z := Str.empty) (fun hm => by have := (wok.g _ hm).1; exact absurd this (by decide)) h ha
          rw [hb] at this
          cases this
    · rintro σ' H' ⟨rfl, rfl, hrest⟩
      refine ⟨_, rfl, _, rfl, x, y, a, b, ws, rfl, ca, cb, oa, ob, wok, fun l ks H1 s1 hl hl1 up hk => ⟨l, rfl, ⟨_, .of hl1⟩, ?_⟩⟩
      refine for_it walk_list (fun i σ H2 => (∃ u v, σ = [some (.ref x), some (.ref y), u, v, none]) ∧ Same H H2 ∧ Same H1 H2 ∧ ∀ r ∈ ks.take i, ∀ z ∈ a.f r, z ∈ b.f r) ⟨⟨_, _, rfl⟩, s1, Same.refl _, fun r h => by simp at h⟩ (fun i σ H2 _ h => .of (h.2.2.1 _ _ hl1)) ?_ ?_
      · rintro i v σ H2 H3 hi ⟨⟨u0, v0, rfl⟩, t1, t2, t3⟩ ⟨rfl, hv⟩
        obtain ⟨r, hr', rfl⟩ := map_get hv
        refine ⟨_, rfl, y, dy, _, rfl, t1 _ _ hy, fl_no _ _ (by decide +kernel) (by decide +kernel), _, rfl, y, b, r, rfl, cb.same t1, fun lb H4 s4 hlb hlb4 => ?_⟩
        refine ⟨_, rfl, x, dx, _, rfl, (t1.trans s4) _ _ hx, fl_no _ _ (by decide +kernel) (by decide +kernel), _, rfl, x, a, r, rfl, ca.same (t1.trans s4), fun la H5 s5 hla hla5 => ?_⟩
        refine ⟨la, rfl, ⟨_, .of hla5⟩, fun D hD => ?_⟩
        refine lc_it walk_list (fun j H' => Same H5 H' ∧ H' D = some (.lst ((((a.f r).take j).map fun z => decide (z ∈ b.f r)).map V.bl))) ⟨Same.new hD, upd_same⟩ (fun j H' _ h => .of (h.1 _ _ hla5)) ?_ ?_
        · rintro j v H6 H7 hj ⟨u1, u2⟩ ⟨rfl, hv⟩
          obtain ⟨z, hz, rfl⟩ := map_get hv
          refine ⟨rfl, ?_⟩
          refine ⟨_, rfl, _, rfl, lb, (b.f r).map V.str, rfl, .inl (.of (u1 _ _ (s5 _ _ hlb4))), rfl, flat_strs _, _, u2, ?_, Same.upd_new u1 hD, ?_⟩
          · rw [List.length_map, List.length_map, sizeLine_eq]
            have := List.length_take_le' j (a.f r)
            have := f_len1 oa r
            have := wok.n
            omega
          · show upd _ _ _ D = _
            rw [upd_same, inV_strs, take_snoc hz]
            simp
        · rintro H6 ⟨u1, u2⟩
          refine ⟨D, _, rfl, .of u2, ?_⟩
          refine ⟨_, rfl, ?_⟩
          have t7 : Same H H6 := ((t1.trans s4).trans s5).trans u1
          have e1 : (((a.f r).take ((a.f r).map V.str).length).map fun z => decide (z ∈ b.f r)).all id = decide (∀ z ∈ a.f r, z ∈ b.f r) := by
            rw [List.length_map, List.take_length, List.all_map, Bool.eq_iff_iff, List.all_eq_true, decide_eq_true_iff]
            simp
          rw [e1]
          by_cases hs : ∀ z ∈ a.f r, z ∈ b.f r
          · refine iteNS hs ?_
            refine ⟨⟨_, _, rfl⟩, t7, ((t2.trans s4).trans s5).trans u1, ?_⟩
            rw [take_snoc hr']
            intro r2 h2
            rcases List.mem_append.mp h2 with h2 | h2
            · exact t3 r2 h2
            · obtain rfl := List.mem_singleton.mp h2
              exact hs
          · rw [decide_eq_false hs]
            refine iteT ?_
            exact k false H6 t7 ⟨fun h => (nomatch h), fun h => absurd (h r) hs⟩
      · rintro σ H2 ⟨_, t1, t2, t3⟩
        rw [List.length_map, List.take_length] at t3
        refine k true H2 t1 ⟨fun _ => ?_, fun _ => rfl⟩
        refine wi_of (ks := ks) (fun r hr' => ?_) (fun r hr' => ?_) hrest t3
        · exact Classical.byContradiction fun q => hr' ((hk r).mpr (.inl q))
        · exact Classical.byContradiction fun q => hr' ((hk r).mpr (.inr q))
end
end VC
set_option Elab.async false
set_option linter.all false
set_option maxRecDepth 100000
set_option maxHeartbeats 4000000
/-! Carry: product, joint. -/
namespace VC
open PySem PySem.Spec PyProof.Rows L2
theorem flat_len {α β : Type} {f : α → List β} {m : Nat} : ∀ {l : List α}, (∀ x ∈ l, (f x).length ≤ m) → (l.flatMap f).length ≤ l.length * m
  | [], _ => by simp
  | x :: l, h => by
    rw [List.flatMap_cons, List.length_append, List.length_cons, Nat.add_mul]
    have := flat_len (l := l) fun y hy => h y (List.mem_cons_of_mem _ hy)
    have := h x List.mem_cons_self
    omega
section
variable {ws : List Str} {a b : Ca}
theorem key_ws (ok : a.Ok ws) {k : Str} (h : a.f k ≠ unl a.rest k) : k ∈ ws := Classical.byContradiction fun q => h (ok.out k q)
theorem prod_len (wok : WsOk ws) (oa : a.Ok ws) (ob : b.Ok ws) {k : Str} (h : k ∈ ws) : ((a.f k).flatMap b.f).length ≤ 49 := by
  have h1 := flat_len (l := a.f k) (f := b.f) (m := 7) fun x hx => Nat.le_trans (f_len ob (oa.inn k h x hx)) wok.n
  have h2 := f_len oa h
  have h3 := wok.n
  have h4 : (a.f k).length * 7 ≤ 7 * 7 := Nat.mul_le_mul_right _ (by omega)
  omega
theorem prod_in (oa : a.Ok ws) (ob : b.Ok ws) {k : Str} (h : k ∈ ws) : ∀ x ∈ (a.f k).flatMap b.f, x ∈ ws := fun x hx => by
  obtain ⟨m, hm, hx⟩ := List.mem_flatMap.mp hx
  exact ob.inn m (oa.inn k h m hm) x hx
/-- rows of the keys ks, valued by v, mean f -/
theorem rowsF_eq {bb : Bool} {ks : List Str} {v f : Str → List Str} (nd : ks.Nodup) (h1 : ∀ k ∈ ks, sd (v k) = f k) (h2 : ∀ k, k ∉ ks → unl bb k = f k) : rowsF bb (ks.map fun k => (k, v k)) = f := by
  have e0 : (ks.map fun k => (k, v k)).map (·.1) = ks := by
    rw [List.map_map]
    exact List.map_id ks
  funext k
  by_cases hk : k ∈ ks
  · rw [rowsF_some (q := (k, v k)) (by rw [e0]; exact nd) (List.mem_map.mpr ⟨k, hk, rfl⟩)]
    exact h1 k hk
  · rw [rowsF_none (by rw [e0]; exact hk)]
    exact h2 k hk
end
theorem CarryAt.eta {C : Addr} {H : Hp} {x : Addr} {b : Bool} {f f' : Str → List Str} (h : CarryAt C H x ⟨b, f⟩) (e : f = f') : CarryAt C H x ⟨b, f'⟩ := e ▸ h
/-- a row handed in, apart from the object R that is still being built -/
def RowIX (R : Addr) (H : Hp) (v : V) (r : Str × List Str) : Prop := ∃ t l b, v = V.ref t ∧ t ≠ R ∧ l ≠ R ∧ H t = some (.tup [.str r.1, .ref l]) ∧ H l = some (isq b (r.2.map V.str))
theorem RowIX.upd {R : Addr} {H H1 : Hp} {o : HO} {v : V} {r : Str × List Str} (s : Same H H1) (h : RowIX R H v r) : RowIX R (upd H1 R o) v r := by
  obtain ⟨t, l, b, e, n1, n2, h1, h2⟩ := h
  exact ⟨t, l, b, e, n1, n2, by rw [upd_ne n1]; exact s _ _ h1, by rw [upd_ne n2]; exact s _ _ h2⟩
theorem RowIX.row {R : Addr} {H : Hp} {v : V} {r : Str × List Str} (h : RowIX R H v r) : RowIn H v r := by
  obtain ⟨t, l, b, e, n1, n2, h1, h2⟩ := h
  exact ⟨t, l, b, e, h1, h2⟩
section
variable {P : Program} {w : World} {K : PySem.W.Frag} {mg : Str → Option Value} {base : Heap} {C p g : Addr}
/-- Carry(flag, rows), the rows of the keys ks valued by v, in a new list or tuple -/
theorem make_rows {H H2 : Hp} {Q : VK} {bb kb : Bool} {R : Addr} {us : List V} {ks ws : List Str} {v f : Str → List Str} (sm : Same H H2) (hR : H2 R = some (isq kb us)) (pr : Paired (RowIn H2) us (ks.map fun k => (k, v k))) (wok : WsOk ws) (nd : ks.Nodup) (hk : ∀ k ∈ ks, k ∈ ws)
    (hv : ∀ k ∈ ks, (v k).length ≤ 60 ∧ ∀ x ∈ v k, x ∈ ws) (h1 : ∀ k ∈ ks, sd (v k) = f k) (h2 : ∀ k, k ∉ ks → unl bb k = f k) (q : ∀ z H', Same H H' → H z = none → CarryAt C H' z ⟨bb, f⟩ → Q (.ref z) H') :
    ∀ z dz, H2 z = none → H2 dz = none → dz ≠ z → spInit C [.ref z, .bl bb, .ref R] (upd (upd H2 dz (.own z)) z (.ins C dz [])) (fun u H' => u = .non ∧ Q (.ref z) H') E0 := by
  intro z dz hz hdz hne
  have s2 : Same H2 (upd (upd H2 dz (.own z)) z (.ins C dz [])) := fun b o e => by
    rw [upd_ne (ne_of_none e hz), upd_ne (ne_of_none e hdz)]
    exact e
  have hkl : ks.length ≤ 7 := Nat.le_trans (nodup_len nd hk) wok.n
  refine ⟨z, dz, bb, R, kb, us, _, rfl, upd_same, s2 _ _ hR, Paired.mapP pr fun _ _ h => h.same s2, ?_, ?_, ?_, fun H' cz kp => ⟨rfl, ?_⟩⟩
  · intro r hr
    obtain ⟨k, hk', rfl⟩ := List.mem_map.mp hr
    obtain ⟨l1, l2⟩ := hv k hk'
    exact ⟨⟨wok.g _ (hk k hk'), fun x hx => wok.g _ (l2 x hx), Nat.le_trans l1 (by decide)⟩, l1⟩
  · rw [List.map_map]
    exact (List.map_id ks).symm ▸ nd
  · rw [List.length_map]
    omega
  · have hzH : H z = none := sm.free hz
    refine q z H' (fun b o e => kp b o (s2 _ _ (sm _ _ e)) (ne_of_none e hzH)) hzH (cz.eta (rowsF_eq nd h1 h2))
/-- both: two carries over the same words, a new one -/
def spOp (C : Addr) (op : Ca → Ca → Ca) : Sp := fun vs H Q _ => ∃ x y a b ws, vs = [V.ref x, .ref y] ∧ CarryAt C H x a ∧ CarryAt C H y b ∧ a.Ok ws ∧ b.Ok ws ∧ WsOk ws ∧
  ∀ z H', Same H H' → H z = none → CarryAt C H' z (op a b) → Q (.ref z) H'
theorem scMul : FnScope ["self", "other", "rows", "rule", "middle", "last"] ["self", "other"] (defScope dMul) := ⟨rfl, rfl, rfl, by decide +kernel, rfl, by decide +kernel, by decide +kernel⟩
theorem scOr : FnScope ["self", "other", "rows", "rule"] ["self", "other"] (defScope dOr) := ⟨rfl, rfl, rfl, by decide +kernel, rfl, by decide +kernel, by decide +kernel⟩
theorem ok_mul {f fL fC fI : Addr} {fd fdL fdC fdg fdI : FuncData} (F : L2.Fun K "__mul__" "Carry.__mul__" dMul f fd) (T : Txt K mg C p g)
    (GG : FnOk P w K mg base CX0 1 g fdg ["self"] (getSp C "kept_rest")) (bG : Binds K fdg ["self"] [])
    (GL : FnOk P w K mg base CX0 2 fL fdL ["one", "other"] (spListed C)) (kL : PySem.W.keepIn K (.ref fL) = true) (bL : Binds K fdL ["one", "other"] []) (gL : mg "listed_rules" = some (.ref fL))
    (GC : FnOk P w K mg base CX0 2 fC fdC ["self", "rule"] (spCarried C)) (mC : Meth K C "carried" fC) (bC : Binds K fdC ["self", "rule"] [])
    (GI : FnOk P w K mg base CX0 4 fI fdI ["self", "rest", "rows"] (spInit C)) (M : Mk K C fI) (bI : Binds K fdI ["self", "rest", "rows"] []) :
    FnOk P w K mg base CX0 6 f fd ["self", "other"] (spOp C mulC) := by
  refine F.ok scMul (fun vs H Q E h => ?_) (fun cdv A outer s H vs Q E hr h => ?_)
  · obtain ⟨x, y, a, b, ws, rfl, _⟩ := h
    rfl
  · obtain ⟨x, y, a, b, ws, rfl, ca, cb, oa, ob, wok, k⟩ := h
    have hr2 : Room 2 _ := hr.mono (by decide)
    refine ⟨_, pss_cons (ps_set (i := 2) scMul.nd rfl (Or.inl rfl) (pe_lst pa_nil))
      (pss_cons (ps_for PassesOwn.never rfl (pi_list (pe_call GL hr2 rfl gL kL bL .nil pass0 (pa_cons (pv 0) (pa_cons (pv 1) pa_nil)))) (pg_name (i := 3) scMul.nd rfl (Or.inl rfl))
        (pss_one (ps_expr (pe_bm PySem.F.plainAttrs_list PySem.F.slot_list_append PySem.F.type_list_append mt_append (pv 2) (pa_cons (pe_tup (pa_cons (pv 3) (pa_cons
          (pe_lc2 (own := [("middle", 4), ("last", 5)]) (vs1 := [5]) (g := gName 4) (g1 := gName 5) (tt := tYes) (tt1 := tYes) (by rfl) scMul.nd (pi_list (pe_meth (pv 0) T.cl mC GC hr2 bC .nil pass0 (pa_cons (pv 3) pa_nil)))
            (blkOk_by (own := [("middle", 4), ("last", 5)]) (N := ["self", "other", "rows", "rule", "middle", "last"]) (sc := defScope dMul) (by decide +kernel)) (by decide)
            (fun _ _ _ _ _ => pg_name (i := 4) scMul.nd rfl (Or.inl rfl)) (fun _ _ _ _ _ => pts_nil)
            (wi1 := iList K (tMeth C "carried" (spCarried C) [] E0 (tVar 1) (tCons (tVar 4) tNil))) (fun _ _ _ _ _ => pi_list (pe_meth (pv 1) T.cl mC GC hr2 bC .nil pass0 (pa_cons (pv 4) pa_nil)))
            (fun _ _ _ _ _ => pg_name (i := 5) scMul.nd rfl (Or.inl rfl)) (fun _ _ _ _ _ => pts_nil)
            (fun _ _ _ _ _ => pv 5)) pa_nil))) pa_nil)))))
      (pss_one (ps_ret (pe_make M GI hr rfl T.mgC bI .nil pass0 (pa_cons (pe_and (pe_fld (pv 0) rfl) (pe_one (pe_prop (pv 1) T.cl T.pR GG hr2 bG .nil pass0 rfl))) (pa_cons (pv 2) pa_nil)))))), ?_⟩
    have ⟨da, ea, cea⟩ := ca
    have ⟨db, eb, ceb⟩ := cb
    obtain ⟨dx, hx⟩ := cea.ob
    obtain ⟨dy, hy⟩ := ceb.ob
    refine ⟨by decide, fun R hR => ?_⟩
    have s0 : Same H _ := Same.new (o := .lst []) hR
    refine ⟨_, rfl, _, rfl, x, y, a, b, ws, rfl, ca.same s0, cb.same s0, oa, ob, wok, fun l ks H1 s1 hl hl1 up hk => ⟨l, rfl, ⟨_, .of hl1⟩, ?_⟩⟩
    have hkw : ∀ r ∈ ks, r ∈ ws := fun r hr' => ((hk r).mp hr').elim (key_ws oa) (key_ws ob)
    have hkl : ks.length ≤ 7 := Nat.le_trans (nodup_len up.nodup hkw) wok.n
    have hlR : l ≠ R := (ne_of_none upd_same hl).symm
    refine for_it (walk_list (K := K) (a := l) (xs := ks.map V.str)) (fun i σ H2 => (∃ u, σ = [some (.ref x), some (.ref y), some (.ref R), u, none, none]) ∧ Same H H2 ∧ H2 l = some (.lst (ks.map V.str)) ∧
      ∃ us, H2 R = some (.lst us) ∧ Paired (RowIX R H2) us ((ks.take i).map fun r => (r, (a.f r).flatMap b.f)))
      ⟨⟨_, rfl⟩, s0.trans s1, hl1, [], s1 _ _ upd_same, .nil⟩ (fun i σ H2 _ h => .of h.2.2.1) ?_ ?_
    · rintro i v σ H2 H3 hi ⟨⟨u0, rfl⟩, t1, t2, us, t3, t4⟩ ⟨rfl, hv⟩
      obtain ⟨r, hr', rfl⟩ := map_get hv
      have hrw := hkw r (List.mem_of_getElem? hr')
      refine ⟨_, rfl, .inl ⟨rfl, _, .of t3⟩, ?_⟩
      refine ⟨_, rfl, _, rfl, x, dx, _, rfl, t1 _ _ hx, fl_no _ _ (by decide +kernel) (by decide +kernel), _, rfl, x, a, r, rfl, ca.same t1, fun la H4 s4 hla hla4 => ?_⟩
      refine ⟨la, rfl, ⟨_, .of hla4⟩, fun D hD => ?_⟩
      have h23 : Same H3 H4 := s4
      have hDn : H3 D = none := s4.free hD
      refine it_gen (walk_list (K := K) (a := la) (xs := (a.f r).map V.str)) (fun j H' => Same H4 H' ∧ H' D = some (.lst ((((a.f r).take j).flatMap b.f).map V.str))) ⟨Same.new hD, upd_same⟩ (fun j H' _ h => .of (h.1 _ _ hla4)) ?_ ?_
      · rintro j v H5 H6 hj ⟨u1, u2⟩ ⟨rfl, hv⟩
        obtain ⟨m, hm, rfl⟩ := map_get hv
        have t6 : Same H H6 := (t1.trans s4).trans u1
        refine ⟨rfl, ?_⟩
        refine ⟨_, rfl, y, dy, _, rfl, t6 _ _ hy, fl_no _ _ (by decide +kernel) (by decide +kernel), _, rfl, y, b, m, rfl, cb.same t6, fun lb H7 s7 hlb hlb7 => ⟨lb, rfl, ⟨_, .of hlb7⟩, ?_⟩⟩
        have hlbD : lb ≠ D := (ne_of_none u2 hlb).symm
        refine it_gen (walk_list (K := K) (a := lb) (xs := (b.f m).map V.str)) (fun n H' => Same H4 H' ∧ H' lb = some (.lst ((b.f m).map V.str)) ∧ H' D = some (.lst ((((a.f r).take j).flatMap b.f ++ (b.f m).take n).map V.str)))
          ⟨u1.trans s7, hlb7, by rw [List.take_zero, List.append_nil]; exact s7 _ _ u2⟩ (fun n H' _ h => .of h.2.1) ?_ ?_
        · rintro n v H8 H9 hn ⟨w1, w2, w3⟩ ⟨rfl, hv⟩
          obtain ⟨z, hz, rfl⟩ := map_get hv
          refine ⟨rfl, ?_⟩
          refine ⟨_, rfl, _, w3, ?_, Same.upd_new w1 hD, ?_, ?_⟩
          · have h1 : (((a.f r).take j).flatMap b.f).length ≤ ((a.f r).take j).length * 7 := flat_len fun z hz => Nat.le_trans (f_len ob (oa.inn r hrw z (List.mem_of_mem_take hz))) wok.n
            have h2 := List.length_take_le' j (a.f r)
            have h3 := List.length_take_le' n (b.f m)
            have h4 := f_len1 oa r
            have h5 := f_len1 ob m
            have h6 := wok.n
            have h7 : ((a.f r).take j).length * 7 ≤ 8 * 7 := Nat.mul_le_mul_right _ (by omega)
            rw [List.length_map, List.length_append, sizeLine_eq]
            omega
          · rw [upd_ne hlbD]
            exact w2
          · rw [take_snoc hz, ← List.append_assoc, List.map_append (l₂ := [z])]
            exact upd_same
        · rintro H8 ⟨w1, w2, w3⟩
          refine ⟨w1, ?_⟩
          rw [List.length_map, List.take_length] at w3
          rw [w3, take_snoc hm, List.flatMap_append]
          simp
      · rintro H5 ⟨u1, u2⟩
        rw [List.length_map, List.take_length] at u2
        have s5 : Same H3 H5 := s4.trans u1
        refine ⟨by show 2 ≤ sizeLine; decide, fun tp htp => ?_⟩
        have s6 := s5.trans (Same.new (o := .tup [.str r, .ref D]) htp)
        have hRt : tp ≠ R := fun z => by
          subst z
          rw [s5 _ _ t3] at htp
          cases htp
        refine ⟨R, us, _, rfl, rfl, s6 _ _ t3, ?_, ⟨_, rfl⟩, ?_, ?_, us ++ [.ref tp], upd_same, ?_⟩
        · have h1 := paired_len t4
          rw [List.length_map] at h1
          have h2 := List.length_take_le' i ks
          rw [sizeLine_eq]
          omega
        · exact Same.upd_new (t1.trans s6) hR
        · have : l ≠ R := hlR
          rw [upd_ne this]
          exact s6 _ _ t2
        · rw [take_snoc hr', List.map_append]
          have hDR : D ≠ R := fun z => by
            subst z
            rw [t3] at hDn
            cases hDn
          refine paired_snoc ⟨tp, D, true, rfl, hRt, hDR, ?_, ?_⟩ (Paired.mapP t4 fun v q h => h.upd s6)
          · rw [upd_ne hRt]
            exact upd_same
          · rw [upd_ne hDR, upd_ne (ne_of_none u2 htp)]
            exact u2
    · rintro σ H2 ⟨⟨u0, rfl⟩, t1, t2, us, t3, t4⟩
      rw [List.length_map, List.take_length] at t4
      have fin := make_rows (C := C) (Q := Q) (bb := a.rest && b.rest) (kb := true) (f := (mulC a b).f) t1 t3 (Paired.mapP t4 fun _ _ h => h.row) wok up.nodup hkw (fun k hk' => ⟨Nat.le_trans (prod_len wok oa ob (hkw k hk')) (by decide), prod_in oa ob (hkw k hk')⟩) (fun k _ => rfl)
        (fun r hr' => by
          have h1 : a.f r = unl a.rest r := Classical.byContradiction fun q => hr' ((hk r).mpr (.inl q))
          have h2 : b.f r = unl b.rest r := Classical.byContradiction fun q => hr' ((hk r).mpr (.inr q))
          exact (mul_unl h1 h2).symm) (fun z H' sm hz cz => k z H' sm hz cz)
      refine ⟨_, rfl, x, C, dx, _, _, rfl, t1 _ _ hx, T.cl, T.nR, fl_rest _ _, a.rest, rfl, ?_⟩
      cases e : a.rest with
      | false =>
        rw [e] at fin
        refine iteF ?_
        exact ⟨_, rfl, fin⟩
      | true =>
        rw [e] at fin
        refine iteT ?_
        exact ⟨_, rfl, y, dy, _, rfl, t1 _ _ hy, y, dy, _, _, rfl, t1 _ _ hy, fl_rest _ _, _, rfl, fin⟩
theorem ok_or {f fL fC fI : Addr} {fd fdL fdC fdg fdI : FuncData} (F : L2.Fun K "__or__" "Carry.__or__" dOr f fd) (T : Txt K mg C p g)
    (GG : FnOk P w K mg base CX0 1 g fdg ["self"] (getSp C "kept_rest")) (bG : Binds K fdg ["self"] [])
    (GL : FnOk P w K mg base CX0 2 fL fdL ["one", "other"] (spListed C)) (kL : PySem.W.keepIn K (.ref fL) = true) (bL : Binds K fdL ["one", "other"] []) (gL : mg "listed_rules" = some (.ref fL))
    (GC : FnOk P w K mg base CX0 2 fC fdC ["self", "rule"] (spCarried C)) (mC : Meth K C "carried" fC) (bC : Binds K fdC ["self", "rule"] [])
    (GI : FnOk P w K mg base CX0 4 fI fdI ["self", "rest", "rows"] (spInit C)) (M : Mk K C fI) (bI : Binds K fdI ["self", "rest", "rows"] []) :
    FnOk P w K mg base CX0 6 f fd ["self", "other"] (spOp C orC) := by
  refine F.ok scOr (fun vs H Q E h => ?_) (fun cdv A outer s H vs Q E hr h => ?_)
  · obtain ⟨x, y, a, b, ws, rfl, _⟩ := h
    rfl
  · obtain ⟨x, y, a, b, ws, rfl, ca, cb, oa, ob, wok, k⟩ := h
    have hr2 : Room 2 _ := hr.mono (by decide)
    refine ⟨_, pss_cons (ps_setLc (i := 2) (own := [("rule", 3)]) (g := gName 3) (tt := tYes) (by rfl) scOr.nd rfl rfl (sw_true rfl rfl rfl (by decide +kernel)) (pi_list (pe_call GL hr2 rfl gL kL bL .nil pass0 (pa_cons (pv 0) (pa_cons (pv 1) pa_nil))))
          (blkOk_by (own := [("rule", 3)]) (N := ["self", "other", "rows", "rule"]) (sc := defScope dOr) (by decide +kernel))
          (fun _ _ _ _ _ => pg_name (i := 3) scOr.nd rfl (Or.inl rfl)) (fun _ _ _ _ _ => pts_nil)
          (fun _ _ _ _ _ => pe_tup (pa_cons (pv 3) (pa_cons (pe_op op_cat (pe_meth (pv 0) T.cl mC GC hr2 bC .nil pass0 (pa_cons (pv 3) pa_nil)) (pe_meth (pv 1) T.cl mC GC hr2 bC .nil pass0 (pa_cons (pv 3) pa_nil))) pa_nil))))
      (pss_one (ps_ret (pe_make M GI hr rfl T.mgC bI .nil pass0 (pa_cons (pe_or (pe_fld (pv 0) rfl) (pe_one (pe_prop (pv 1) T.cl T.pR GG hr2 bG .nil pass0 rfl))) (pa_cons (pv 2) pa_nil))))), ?_⟩
    have ⟨da, ea, cea⟩ := ca
    have ⟨db, eb, ceb⟩ := cb
    obtain ⟨dx, hx⟩ := cea.ob
    obtain ⟨dy, hy⟩ := ceb.ob
    refine ⟨_, rfl, _, rfl, x, y, a, b, ws, rfl, ca, cb, oa, ob, wok, fun l ks H1 s1 hl hl1 up hk => ⟨l, rfl, ⟨_, .of hl1⟩, fun D hD => ?_⟩⟩
    have hkw : ∀ r ∈ ks, r ∈ ws := fun r hr' => ((hk r).mp hr').elim (key_ws oa) (key_ws ob)
    have hkl : ks.length ≤ 7 := Nat.le_trans (nodup_len up.nodup hkw) wok.n
    have hDn : H D = none := s1.free hD
    have hlD : l ≠ D := ne_of_none hl1 hD
    refine lc_it (walk_list (K := K) (a := l) (xs := ks.map V.str)) (fun i H2 => Same H H2 ∧ H2 l = some (.lst (ks.map V.str)) ∧
      ∃ us, H2 D = some (.lst us) ∧ Paired (RowIX D H2) us ((ks.take i).map fun r => (r, a.f r ++ b.f r)))
      ⟨s1.trans (Same.new hD), by rw [upd_ne hlD]; exact hl1, [], upd_same, .nil⟩ (fun i H2 _ h => .of h.2.1) ?_ ?_
    · rintro i v H2 H3 hi ⟨t1, t2, us, t3, t4⟩ ⟨rfl, hv⟩
      obtain ⟨r, hr', rfl⟩ := map_get hv
      have hrw := hkw r (List.mem_of_getElem? hr')
      refine ⟨rfl, ?_⟩
      refine ⟨_, rfl, _, rfl, x, dx, _, rfl, t1 _ _ hx, fl_no _ _ (by decide +kernel) (by decide +kernel), _, rfl, x, a, r, rfl, ca.same t1, fun la H4 s4 hla hla4 => ?_⟩
      refine ⟨_, rfl, y, dy, _, rfl, (t1.trans s4) _ _ hy, fl_no _ _ (by decide +kernel) (by decide +kernel), _, rfl, y, b, r, rfl, cb.same (t1.trans s4), fun lb H5 s5 hlb hlb5 => ?_⟩
      refine ⟨la, lb, _, _, rfl, rfl, s5 _ _ hla4, hlb5, ?_, fun q hq => ?_⟩
      · have h1 := f_len oa hrw
        have h2 := f_len ob hrw
        have h3 := wok.n
        rw [List.length_map, List.length_map, sizeLine_eq]
        omega
      have s6 := (s4.trans s5).trans (Same.new (o := .lst ((a.f r).map V.str ++ (b.f r).map V.str)) hq)
      refine ⟨by show 2 ≤ sizeLine; decide, fun tp htp => ?_⟩
      have s7 := s6.trans (Same.new (o := .tup [.str r, .ref q]) htp)
      refine ⟨us, s7 _ _ t3, ?_, Same.upd_new (t1.trans s7) hDn, ?_, us ++ [.ref tp], upd_same, ?_⟩
      · have h1 := paired_len t4
        rw [List.length_map] at h1
        have h2 := List.length_take_le' i ks
        rw [sizeLine_eq]
        omega
      · rw [upd_ne hlD]
        exact s7 _ _ t2
      · rw [take_snoc hr', List.map_append]
        have htD : tp ≠ D := fun z => by
          subst z
          rw [s6 _ _ t3] at htp
          cases htp
        have hqD : q ≠ D := fun z => by
          subst z
          rw [(s4.trans s5) _ _ t3] at hq
          cases hq
        have hqt : q ≠ tp := ne_of_none upd_same htp
        refine paired_snoc ⟨tp, q, true, rfl, htD, hqD, ?_, ?_⟩ (Paired.mapP t4 fun v q h => h.upd s7)
        · rw [upd_ne htD]
          exact upd_same
        · rw [upd_ne hqD, upd_ne hqt, upd_same]
          show _ = some (HO.lst ((a.f r ++ b.f r).map V.str))
          rw [List.map_append]
    · rintro H2 ⟨t1, t2, us, t3, t4⟩
      rw [List.length_map, List.take_length] at t4
      have fin := make_rows (C := C) (Q := Q) (bb := a.rest || b.rest) (kb := true) (f := (orC a b).f) t1 t3 (Paired.mapP t4 fun _ _ h => h.row) wok up.nodup hkw
        (fun k hk' => ⟨by
            have h1 := f_len oa (hkw k hk')
            have h2 := f_len ob (hkw k hk')
            have h3 := wok.n
            rw [List.length_append]
            omega, fun z hz => (List.mem_append.mp hz).elim (oa.inn k (hkw k hk') z) (ob.inn k (hkw k hk') z)⟩) (fun k _ => rfl)
        (fun r hr' => by
          have h1 : a.f r = unl a.rest r := Classical.byContradiction fun q => hr' ((hk r).mpr (.inl q))
          have h2 : b.f r = unl b.rest r := Classical.byContradiction fun q => hr' ((hk r).mpr (.inr q))
          exact (or_unl h1 h2).symm) (fun z H' sm hz cz => k z H' sm hz cz)
      refine ⟨_, rfl, x, C, dx, _, _, rfl, t1 _ _ hx, T.cl, T.nR, fl_rest _ _, a.rest, rfl, ?_⟩
      cases e : a.rest with
      | true =>
        rw [e] at fin
        refine iteT ?_
        exact ⟨_, rfl, fin⟩
      | false =>
        rw [e] at fin
        refine iteF ?_
        exact ⟨_, rfl, y, dy, _, rfl, t1 _ _ hy, y, dy, _, _, rfl, t1 _ _ hy, fl_rest _ _, _, rfl, fin⟩
end
end VC
set_option Elab.async false
set_option linter.all false
set_option maxRecDepth 100000
set_option maxHeartbeats 4000000
/-! Carry: its repr; the rest property. -/
namespace VC
open PySem PySem.Spec PyProof.Rows L2
theorem u6 {A : Around} {k : Nat} (hr : Room k A) : A.units + 6 < cLine := by have := hr.units; omega
/-- around a repr of a carry: no list that is being shown is a new one or a tuple -/
def GdR (A : Around) (H : Hp) : Prop := ∃ g, A.guards = some g ∧ ∀ b, (H b = none ∨ ∃ xs, H b = some (.tup xs)) → Clear g b
def carText (ws : List Str) (c : Ca) : Str := ((((Str.empty ++ ("Carry(" : Str)) ++ boolText c.rest) ++ (", " : Str)) ++ rowsText (rowsC ws c)) ++ (")" : Str)
theorem boolText_len (b : Bool) : (boolText b).length ≤ 5 := by cases b <;> decide
theorem car_len {ws : List Str} {c : Ca} (ok : c.Ok ws) (wok : WsOk ws) : (carText ws c).length ≤ 20020 := by
  have h1 := rows_len ok (Nat.le_trans wok.n (by decide)) wok.g
  have h2 := boolText_len c.rest
  unfold carText
  rw [strLen_append, strLen_append, strLen_append, strLen_append, strLen_append]
  have e1 : (Str.empty).length = 0 := rfl
  have e2 : (("Carry(" : Str)).length = 6 := rfl
  have e3 : ((", " : Str)).length = 2 := rfl
  have e4 : ((")" : Str)).length = 1 := rfl
  omega
section
variable {P : Program} {w : World} {K : PySem.W.Frag} {mg : Str → Option Value} {base : Heap} {C p g : Addr}
def spRepr (C : Addr) : Sp := fun vs H Q _ => ∃ x c ws, vs = [V.ref x] ∧ CarryAt C H x c ∧ c.Ok ws ∧ WsOk ws ∧ ∀ H', Same H H' → Q (.str (carText ws c)) H'
theorem scRepr : FnScope ["self"] ["self"] (defScope dRepr) := ⟨rfl, rfl, rfl, by decide +kernel, rfl, by decide +kernel, by decide +kernel⟩
theorem ok_repr {f fR : Addr} {fd fdR : FuncData} (F : L2.Fun K "__repr__" "Carry.__repr__" dRepr f fd) (T : Txt K mg C p g)
    (GR : FnOk P w K mg base CX0 1 fR fdR ["self"] (spCRows C)) (mR : Meth K C "rows" fR) (bR : Binds K fdR ["self"] []) :
    FnG P w K mg base CX0 2 f fd ["self"] GdR (spRepr C) := by
  refine Fun.okG F scRepr (fun vs H Q E h => ?_) (fun cdv A outer s H vs Q E hr hG h => ?_)
  · obtain ⟨x, c, ws, rfl, _⟩ := h
    rfl
  · obtain ⟨x, c, ws, rfl, ca, ok, wok, k⟩ := h
    refine ⟨_, pss_one (ps_ret (pe_joined (.cons pe_str (.cons (pe_fmtB (pe_fld (pv 0) rfl)) (.cons pe_str (.cons (pe_fmtRows (pe_meth0 (pv 0) T.cl mR GR hr bR .nil pass0)) (.cons pe_str .nil))))))), ?_⟩
    have ⟨d, es, ce⟩ := ca
    obtain ⟨dx, hx⟩ := ce.ob
    have hlen := car_len ok wok
    unfold carText at hlen
    rw [strLen_append, strLen_append, strLen_append, strLen_append, strLen_append] at hlen
    refine ⟨_, rfl, by rw [strLen_append, sizeLine_eq]; omega, ?_⟩
    refine ⟨_, rfl, x, C, dx, _, _, rfl, hx, T.cl, T.nR, fl_rest _ _, c.rest, rfl, _, rfl, by rw [strLen_append, strLen_append, sizeLine_eq]; omega, ?_⟩
    refine ⟨_, rfl, by rw [strLen_append, strLen_append, strLen_append, sizeLine_eq]; omega, ?_⟩
    refine ⟨_, rfl, x, dx, _, rfl, hx, fl_no _ _ (by decide +kernel) (by decide +kernel), x, c, ws, rfl, ca, ok, wok, fun l us H1 s1 hl hl1 pr => ?_⟩
    refine ⟨l, us, _, rfl, hl1, pr, by rw [sizeLine_eq]; omega, u6 hr, ?_, _, rfl, by rw [strLen_append, strLen_append, strLen_append, strLen_append, sizeLine_eq]; omega, ?_⟩
    · obtain ⟨gs, hg1, hg2⟩ := hG
      refine ⟨gs, hg1, hg2 l (.inl hl), fun b xs hb => hg2 b ?_⟩
      cases e : H b with
      | none => exact .inl rfl
      | some o =>
        have e1 := s1 _ _ e
        rw [hb] at e1
        cases e1
        exact .inr ⟨xs, e ▸ rfl⟩
    refine ⟨_, rfl, by rw [strLen_append, strLen_append, strLen_append, strLen_append, strLen_append, sizeLine_eq]; omega, ?_⟩
    exact k _ s1
theorem scRest : FnScope ["self"] ["self"] (defScope dRest) := ⟨rfl, rfl, rfl, by decide +kernel, rfl, by decide +kernel, by decide +kernel⟩
theorem ok_rest {fd : FuncData} (F : L2.Fun K "rest" "Carry.rest" dRest g fd) (T : Txt K mg C p g) : FnOk P w K mg base CX0 1 g fd ["self"] (getSp C "kept_rest") := by
  refine F.ok scRest (fun vs H Q E h => ?_) (fun cdv A outer s H vs Q E hr h => ?_)
  · obtain ⟨a, dx, fs, v, rfl, _⟩ := h
    rfl
  · obtain ⟨a, dx, fs, v, rfl, ha, hl, q⟩ := h
    refine ⟨_, pss_one (ps_ret (pe_fld (pv 0) rfl)), ?_⟩
    exact ⟨_, rfl, a, C, dx, fs, v, rfl, ha, T.cl, T.nR, hl, q⟩
end
end VC
set_option Elab.async false
set_option linter.all false
set_option maxRecDepth 100000
set_option maxHeartbeats 4000000
/-! The law's bag: _law_bag, _law_take, _law_mixed. -/
namespace VC
open PySem PySem.Spec PyProof.Rows L2
def isBag : HO → Bool
  | .lst [.int _, .int _, .int _, .ref _] => true
  | _ => false
/-- all but bags is as it was -/
structure Keeps (H H' : Hp) : Prop where
  k : ∀ c o, H c = some o → isBag o = false → H' c = some o
  free : ∀ c, H' c = none → H c = none
theorem Same.keeps {H H' : Hp} (s : Same H H') : Keeps H H' := ⟨fun c o e _ => s c o e, fun c e => s.free e⟩
theorem Keeps.refl (H : Hp) : Keeps H H := Same.keeps (Same.refl H)
theorem Keeps.trans {H H1 H2 : Hp} (a : Keeps H H1) (b : Keeps H1 H2) : Keeps H H2 := ⟨fun c o e n => b.k c o (a.k c o e n) n, fun c e => a.free c (b.free c e)⟩
theorem Keeps.then {H H1 H2 : Hp} (a : Keeps H H1) (b : Same H1 H2) : Keeps H H2 := a.trans (Same.keeps b)
theorem Keeps.upd_bag {H H1 : Hp} {b : Addr} {o u : HO} (a : Keeps H H1) (h : H1 b = some u) (hu : isBag u = true) : Keeps H (upd H1 b o) := by
  refine ⟨fun c v e n => ?_, fun c e => ?_⟩
  · by_cases hc : c = b
    · subst hc
      rw [a.k _ _ e n] at h
      cases h
      rw [n] at hu
      cases hu
    · rw [upd_ne hc]
      exact a.k _ _ e n
  · by_cases hc : c = b
    · subst hc
      rw [upd_same] at e
      cases e
    · rw [upd_ne hc] at e
      exact a.free c e
theorem Keeps.upd_new {H H1 : Hp} {p : Addr} {o : HO} (a : Keeps H H1) (h : H p = none) : Keeps H (upd H1 p o) := by
  refine ⟨fun c v e n => ?_, fun c e => ?_⟩
  · rw [upd_ne (ne_of_none e h)]
    exact a.k _ _ e n
  · by_cases hc : c = p
    · subst hc
      rw [upd_same] at e
      cases e
    · rw [upd_ne hc] at e
      exact a.free c e
theorem noBag {ys : List V} (h : ∀ y ∈ ys, ∀ i, y ≠ V.int i) : isBag (.lst ys) = false := by
  cases ys with
  | nil => rfl
  | cons y ys =>
    have := h y List.mem_cons_self
    cases y with
    | int i => exact absurd rfl (this i)
    | _ => rfl
theorem noBag_strs (xs : List Str) : isBag (.lst (xs.map V.str)) = false := noBag fun y hy i => by
  obtain ⟨x, _, rfl⟩ := List.mem_map.mp hy
  nofun
theorem noBag_refs (xs : List Addr) : isBag (.lst (xs.map V.ref)) = false := noBag fun y hy i => by
  obtain ⟨x, _, rfl⟩ := List.mem_map.mp hy
  nofun
theorem noBag_ints : ∀ ns : List Int, isBag (.lst (ns.map V.int)) = false
  | [] => rfl
  | [_] => rfl
  | [_, _] => rfl
  | [_, _, _] => rfl
  | [_, _, _, _] => rfl
  | _ :: _ :: _ :: _ :: _ :: _ => rfl
def BagAt (H : Hp) (b l : Addr) : Prop := ∃ x y z ns, H b = some (.lst [.int x, .int y, .int z, .ref l]) ∧ 0 ≤ z ∧ H l = some (.lst ((ns : List Int).map V.int)) ∧ ns.length ≤ 63
theorem BagAt.same {H H' : Hp} {b l : Addr} (s : Same H H') (h : BagAt H b l) : BagAt H' b l := by
  obtain ⟨x, y, z, ns, h1, h2, h3, h4⟩ := h
  exact ⟨x, y, z, ns, s _ _ h1, h2, s _ _ h3, h4⟩
theorem BagAt.there {H : Hp} {b l p : Addr} (h : BagAt H b l) (hp : H p = none) : b ≠ p ∧ l ≠ p := by
  obtain ⟨x, y, z, ns, h1, h2, h3, h4⟩ := h
  exact ⟨ne_of_none h1 hp, ne_of_none h3 hp⟩
theorem BagAt.upd {H : Hp} {b l p : Addr} {o : HO} (h : BagAt H b l) (hp : b ≠ p ∧ l ≠ p) : BagAt (upd H p o) b l := by
  obtain ⟨x, y, z, ns, h1, h2, h3, h4⟩ := h
  exact ⟨x, y, z, ns, by rw [upd_ne hp.1]; exact h1, h2, by rw [upd_ne hp.2]; exact h3, h4⟩
section
variable {P : Program} {w : World} {K : PySem.W.Frag} {mg : Str → Option Value} {base : Heap} {C p g : Addr}
def spBag (K : PySem.W.Frag) : Sp := fun vs H Q _ => ∃ a ns, vs = [V.ref a] ∧ SqL K H a ((ns : List Int).map V.int) ∧ ns.length ≤ 63 ∧ ∀ b l H', Same H H' → BagAt H' b l → Q (.ref b) H'
theorem scBag : FnScope ["_law_script", "_law_cell"] ["_law_script"] (defScope lBag) := ⟨rfl, rfl, rfl, by decide +kernel, rfl, by decide +kernel, by decide +kernel⟩
theorem cut_ints (ns : List Int) (lo hi : Option Int) : ∃ ms : List Int, cutV (ns.map V.int) lo hi = ms.map V.int ∧ ms.length ≤ ns.length := by
  unfold cutV
  rw [← List.map_drop, ← List.map_take]
  refine ⟨_, rfl, ?_⟩
  rw [List.length_take, List.length_drop]
  omega
theorem ok_bag {f : Addr} {fd : FuncData} (F : L2.Fun K "_law_bag" "_law_bag" lBag f fd) (T : Txt K mg C p g) : FnOk P w K mg base CX0 1 f fd ["_law_script"] (spBag K) := by
  refine F.ok scBag (fun vs H Q E h => ?_) (fun cdv A outer s H vs Q E hr h => ?_)
  · obtain ⟨a, ns, rfl, _⟩ := h
    rfl
  · obtain ⟨a, ns, rfl, hS, hz, k⟩ := h
    refine ⟨_, pss_one (ps_ret (pe_lst (pa_cons pe_int (pa_cons pe_int (pa_cons pe_int (pa_cons
      (pe_lc (own := [("_law_cell", 1)]) (g := gName 1) (tt := tYes) (by rfl) scBag.nd (pi_list (pe_slice sl_list (pv 0) po_none (po_some pe_int))) (blkOk_by (own := [("_law_cell", 1)]) (N := ["_law_script", "_law_cell"]) (sc := defScope lBag) (by decide +kernel))
          (fun _ _ _ _ _ => pg_name (i := 1) scBag.nd rfl (Or.inl rfl)) (fun _ _ _ _ _ => pts_nil)
          (fun _ _ _ _ _ => pe_callB (id := "abs") call_abs (by rfl) T.abs (by decide +kernel) (pa_cons (pv 1) pa_nil))) pa_nil)))))), ?_⟩
    obtain ⟨ms, hm, hml⟩ := cut_ints ns none (some 63)
    refine ⟨_, rfl, 63, rfl, a, _, rfl, hS, fun q hq => ?_⟩
    rw [hm]
    refine ⟨q, rfl, ⟨_, .of upd_same⟩, fun D hD => ?_⟩
    have s1 : Same H _ := Same.new (o := .lst (ms.map V.int)) hq
    have hDn := s1.free hD
    refine lc_it (walk_list (K := K) (a := q) (xs := ms.map V.int)) (fun i H' => Same H H' ∧ H' q = some (.lst (ms.map V.int)) ∧ H' D = some (.lst (((ms.take i).map fun i => if i < 0 then -i else i).map V.int)))
      ⟨s1.trans (Same.new hD), (Same.new hD) _ _ upd_same, upd_same⟩ (fun i H' _ h => .of h.2.1) ?_ ?_
    · rintro i v H1 H2 hi ⟨t1, t2, t3⟩ ⟨rfl, hv⟩
      obtain ⟨n, hn, rfl⟩ := map_get hv
      refine ⟨rfl, ?_⟩
      refine ⟨_, rfl, n, rfl, _, t3, ?_, Same.upd_new t1 hDn, ?_, ?_⟩
      · have := List.length_take_le' i ms
        rw [List.length_map, List.length_map, sizeLine_eq]
        omega
      · have : q ≠ D := ne_of_none upd_same hD
        rw [L2.upd_ne this]
        exact t2
      · rw [upd_same, take_snoc hn, List.map_append, List.map_append]
        rfl
    · rintro H1 ⟨t1, t2, t3⟩
      rw [List.length_map, List.take_length] at t3
      refine ⟨by show 4 ≤ sizeLine; decide, fun b hb => k b D _ (t1.trans (Same.new hb)) ⟨0, 1234567891, 0, _, upd_same, by decide, (Same.new hb) _ _ t3, ?_⟩⟩
      rw [List.length_map]
      omega
def spTake : Sp := fun vs H Q _ => ∃ b l many, vs = [V.ref b, .int many] ∧ BagAt H b l ∧ 1 ≤ many ∧ many ≤ 1000 ∧ ∀ n H', 0 ≤ n → n < many → Keeps H H' → BagAt H' b l → Q (.int n) H'
theorem scTake : FnScope ["_law_bag_here", "_law_many", "_law_cell", "_law_more", "_law_drawn", "_law_begin", "_law_second"] ["_law_bag_here", "_law_many"] (defScope lTake) := ⟨rfl, rfl, rfl, by decide +kernel, rfl, by decide +kernel, by decide +kernel⟩
theorem ints_at {ns : List Int} {z : Int} (h0 : 0 ≤ z) (h : z < ns.length) : ∃ c, atI (ns.map V.int) z = some (.int c) := by
  obtain ⟨j, rfl⟩ : ∃ j : Nat, z = (j : Int) := ⟨z.toNat, by omega⟩
  have hl : j < ns.length := by omega
  exact ⟨ns[j], atI_nat (by rw [List.getElem?_map, List.getElem?_eq_getElem hl]; rfl)⟩
theorem m1 : (0 : Int) < 2147483647 := by decide
theorem m2 : (0 : Int) < 1000000007 := by decide
theorem m3 : (0 : Int) < 998244353 := by decide
theorem ok_take {f : Addr} {fd : FuncData} (F : L2.Fun K "_law_take" "_law_take" lTake f fd) (T : Txt K mg C p g) : FnOk P w K mg base CX0 1 f fd ["_law_bag_here", "_law_many"] spTake := by
  refine F.ok scTake (fun vs H Q E h => ?_) (fun cdv A outer s H vs Q E hr h => ?_)
  · obtain ⟨b, l, m, rfl, _⟩ := h
    rfl
  · obtain ⟨b, l, m, rfl, ⟨x, y, z, ns, hb, hz, hl, hn⟩, hm1, hm2, k⟩ := h
    refine ⟨_, Evl.pss_cut (ps_if (pt_cmpR op_eq (pe_ix ix_list (pv 0) pe_int (fun _ _ => rfl)) pe_int (nomark _))
        (pss_cons (ps_set (i := 2) scTake.nd rfl (Or.inl rfl) pe_int)
        (Evl.pss_cut (ps_if (pt_cmpR op_lt (pe_ix ix_list (pv 0) pe_int (fun _ _ => rfl)) (pe_callB call_len (by rfl) T.len (by decide +kernel) (pa_cons (pe_ix ix_list (pv 0) pe_int (fun _ _ => rfl)) pa_nil)) (nomark _))
          (pss_one (ps_set (i := 2) scTake.nd rfl (Or.inl rfl) (pe_ix ix_list (pe_ix ix_list (pv 0) pe_int (fun _ _ => rfl)) (pe_ix ix_list (pv 0) pe_int (fun _ _ => rfl)) (fun _ _ => rfl)))) pss_nil)
        (pss_cons (ps_augS (pv 0) pe_int pget_list pe_int ip_add set_list)
        (Evl.pss_cut (ps_if (pt_cmpR op_ge (pv 2) pe_int (nomark _)) (pss_one (ps_asg (pv 2) (pg_sub (pv 0) pe_int set_list))) pss_nil)
        (pss_cons (ps_set (i := 3) scTake.nd rfl (Or.inl rfl) (pe_op op_add (pe_op op_mod (pe_callTy call_int1 (by rfl) T.int (by decide +kernel) (pa_cons (pv 2) pa_nil)) pe_int) (pe_op op_mul pe_int (pe_ix ix_list (pv 0) pe_int (fun _ _ => rfl)))))
        (pss_one (ps_asg (pe_op op_mod (pe_callTy call_int1 (by rfl) T.int (by decide +kernel) (pa_cons (pe_op op_add (pe_op op_mul (pe_ix ix_list (pv 0) pe_int (fun _ _ => rfl)) pe_int) (pv 3)) pa_nil)) pe_int) (pg_sub (pv 0) pe_int set_list))))))))
        pss_nil)
      (pss_cons (ps_if (pt_cmpR op_gt (pe_ix ix_list (pv 0) pe_int (fun _ _ => rfl)) pe_int (nomark _))
        (pss_cons (ps_set (i := 4) scTake.nd rfl (Or.inl rfl) (pe_op op_mod (pe_callTy call_int1 (by rfl) T.int (by decide +kernel) (pa_cons (pe_ix ix_list (pv 0) pe_int (fun _ _ => rfl)) pa_nil)) (pv 1)))
        (pss_cons (ps_asg (pe_op op_fdiv (pe_ix ix_list (pv 0) pe_int (fun _ _ => rfl)) (pv 1)) (pg_sub (pv 0) pe_int set_list))
        (pss_one (ps_ret (pv 4))))) pss_nil)
      (pss_cons (ps_set (i := 5) scTake.nd rfl (Or.inl rfl) (pe_op op_mod (pe_callTy call_int1 (by rfl) T.int (by decide +kernel) (pa_cons (pe_op op_mul (pe_op op_add (pe_ix ix_list (pv 0) pe_int (fun _ _ => rfl)) pe_int) pe_int) pa_nil)) pe_int))
      (pss_cons (ps_set (i := 6) scTake.nd rfl (Or.inl rfl) (pe_op op_mod (pe_callTy call_int1 (by rfl) T.int (by decide +kernel) (pa_cons (pe_op op_mul (pe_op op_mod (pe_callTy call_int1 (by rfl) T.int (by decide +kernel) (pa_cons (pe_op op_mul (pv 5) (pv 5)) pa_nil)) pe_int) pe_int) pa_nil)) pe_int))
      (pss_cons (ps_if (pt_cmpR op_gt (pv 1) pe_int (nomark _)) pss_never pss_nil)
      (pss_one (ps_ret (pe_op op_mod (pe_callTy call_int1 (by rfl) T.int (by decide +kernel) (pa_cons (pe_op op_fdiv (pv 6) pe_int) pa_nil)) (pv 1)))))))), ?_⟩
    have kb : ∀ (o : HO), Keeps H (upd H b o) := fun o => (Keeps.refl H).upd_bag hb rfl
    have hlb : l ≠ b := fun e => by
      subst e
      rw [hb] at hl
      have := noBag_ints ns
      cases ns with
      | nil => cases hl
      | cons a ns => 
        injection hl with hl
        rw [← hl] at this
        cases this
    refine ⟨fun σ' H' => ∃ u2 u3 x y z, σ' = [some (.ref b), some (.int m), u2, u3, none, none, none] ∧ Keeps H H' ∧ H' b = some (.lst [.int x, .int y, .int z, .ref l]) ∧ 0 ≤ z ∧ H' l = some (.lst (ns.map V.int)), ?_, ?_⟩
    · refine ⟨_, rfl, b, _, 0, _, rfl, rfl, .of hb, atI_nat (j := 0) rfl, rfl, _, rfl, ?_⟩
      refine ite2 (fun _ => ?_) (fun _ => ⟨_, _, x, y, z, rfl, Keeps.refl H, hb, hz, hl⟩)
      refine ⟨fun σ' H' => H = H' ∧ ∃ c, σ' = [some (.ref b), some (.int m), some (.int c), none, none, none, none], ?_, ?_⟩
      · refine ⟨_, rfl, b, _, 2, _, rfl, rfl, .of hb, atI_nat (j := 2) rfl, _, rfl, b, _, 3, _, rfl, rfl, .of hb, atI_nat (j := 3) rfl, _, _, rfl, .inl ⟨_, .of hl, rfl⟩, z, _, rfl, rfl, _, rfl, ?_⟩
        refine ite2 (fun h1 => ?_) (fun _ => ⟨rfl, 0, rfl⟩)
        have h1 := of_decide_eq_true h1
        rw [List.length_map] at h1
        obtain ⟨c, hc⟩ := ints_at hz h1
        exact ⟨_, rfl, b, _, 3, _, rfl, rfl, .of hb, atI_nat (j := 3) rfl, _, rfl, b, _, 2, _, rfl, rfl, .of hb, atI_nat (j := 2) rfl, l, _, z, _, rfl, rfl, .of hl, hc, rfl, c, rfl⟩
      · rintro σ' H' ⟨rfl, c, rfl⟩
        refine ⟨_, rfl, b, _, 2, _, rfl, rfl, .of hb, atI_nat (j := 2) rfl, z, 1, rfl, rfl, b, _, 2, 2, rfl, rfl, hb, rfl, ?_⟩
        refine ⟨fun σ' H' => σ' = [some (.ref b), some (.int m), some (.int c), none, none, none, none] ∧ ∃ x, Keeps H H' ∧ H' b = some (.lst [.int x, .int y, .int (z + 1), .ref l]) ∧ H' l = some (.lst (ns.map V.int)), ?_, ?_⟩
        · refine ⟨_, rfl, c, _, rfl, rfl, _, rfl, ?_⟩
          refine ite2 (fun _ => ?_) (fun _ => ⟨rfl, x, kb _, upd_same, by rw [upd_ne hlb]; exact hl⟩)
          exact ⟨_, rfl, _, rfl, b, _, 0, 0, rfl, rfl, upd_same, rfl, rfl, c, (kb _).upd_bag upd_same (by rfl), upd_same, by rw [upd_ne hlb, upd_ne hlb]; exact hl⟩
        · rintro σ' H' ⟨rfl, x, k1, hb1, hl1⟩
          refine ⟨_, rfl, .inl ⟨c, rfl, _, _, rfl, rfl, m1, _, rfl, b, _, 2, _, rfl, rfl, .of hb1, atI_nat (j := 2) rfl, _, _, rfl, rfl, .inl ⟨by decide, by decide⟩, _, _, rfl, rfl, ?_⟩⟩
          refine ⟨_, rfl, b, _, 1, _, rfl, rfl, .of hb1, atI_nat (j := 1) rfl, _, _, rfl, rfl, .inr ⟨by decide, by decide⟩, _, rfl, _, _, rfl, rfl, .inl ⟨_, rfl, _, _, rfl, rfl, m1, ?_⟩⟩
          exact ⟨_, rfl, b, _, 1, 1, rfl, rfl, hb1, rfl, _, _, x, _, z + 1, rfl, k1.upd_bag hb1 rfl, upd_same, by omega, by rw [upd_ne hlb]; exact hl1⟩
    · rintro σ' H' ⟨u2, u3, x, y, z, rfl, k1, hb1, hz1, hl1⟩
      refine ⟨_, rfl, b, _, 0, _, rfl, rfl, .of hb1, atI_nat (j := 0) rfl, _, _, rfl, rfl, _, rfl, ?_⟩
      refine ite2 (fun _ => ?_) (fun _ => ?_)
      · refine ⟨_, rfl, b, _, 0, _, rfl, rfl, .of hb1, atI_nat (j := 0) rfl, .inl ⟨_, rfl, _, rfl, _, _, rfl, rfl, by omega, ?_⟩⟩
        refine ⟨_, rfl, b, _, 0, _, rfl, rfl, .of hb1, atI_nat (j := 0) rfl, _, rfl, _, _, rfl, rfl, ⟨by omega, by omega⟩, _, rfl, b, _, 0, 0, rfl, rfl, hb1, rfl, ?_⟩
        exact ⟨_, rfl, k _ _ (Int.emod_nonneg _ (by omega)) (Int.emod_lt_of_pos _ (by omega)) (k1.upd_bag hb1 rfl) ⟨_, y, z, ns, upd_same, hz1, by rw [upd_ne hlb]; exact hl1, hn⟩⟩
      · have hB : BagAt H' b l := ⟨x, y, z, ns, hb1, hz1, hl1, hn⟩
        have g1 : 0 ≤ (y + 1) * 39373 % 1000000007 := Int.emod_nonneg _ (by decide)
        have g2 : (y + 1) * 39373 % 1000000007 < 1000000007 := Int.emod_lt_of_pos _ (by decide)
        refine ⟨_, rfl, b, _, 1, _, rfl, rfl, .of hb1, atI_nat (j := 1) rfl, _, _, rfl, rfl, _, _, rfl, rfl, .inr ⟨by decide, by decide⟩, .inl ⟨_, rfl, _, _, rfl, rfl, m2, ?_⟩⟩
        refine ⟨_, rfl, _, rfl, _, _, rfl, rfl, .inl ⟨by omega, by omega⟩, .inl ⟨_, rfl, _, _, rfl, rfl, m3, _, _, rfl, rfl, .inr ⟨by decide, by decide⟩, .inl ⟨_, rfl, _, _, rfl, rfl, m3, ?_⟩⟩⟩
        refine ⟨_, rfl, m, _, rfl, rfl, _, rfl, ?_⟩
        refine iteNP (by omega) ?_
        exact ⟨_, rfl, _, _, rfl, rfl, ⟨by decide, by decide⟩, .inl ⟨_, rfl, _, rfl, _, _, rfl, rfl, by omega, k _ _ (Int.emod_nonneg _ (by omega)) (Int.emod_lt_of_pos _ (by omega)) k1 hB⟩⟩
def spMixed : Sp := fun vs H Q _ => ∃ b l a xs, vs = [V.ref b, .ref a] ∧ BagAt H b l ∧ H a = some (.lst xs) ∧ (∀ x ∈ xs, ∀ i, x ≠ V.int i) ∧ xs.length ≤ 900 ∧
  ∀ q ys H', Keeps H H' → BagAt H' b l → H q = none → H' q = some (.lst ys) → ys.Perm xs → Q (.ref q) H'
theorem scMixed : FnScope ["_law_bag_here", "_law_things", "_law_found", "_law_thing"] ["_law_bag_here", "_law_things"] (defScope lMixed) := ⟨rfl, rfl, rfl, by decide +kernel, rfl, by decide +kernel, by decide +kernel⟩
theorem ok_mixed {f fT : Addr} {fd fdT : FuncData} (F : L2.Fun K "_law_mixed" "_law_mixed" lMixed f fd) (T : Txt K mg C p g)
    (GT : FnOk P w K mg base CX0 1 fT fdT ["_law_bag_here", "_law_many"] spTake) (kT : PySem.W.keepIn K (.ref fT) = true) (bT : Binds K fdT ["_law_bag_here", "_law_many"] []) (gT : mg "_law_take" = some (.ref fT)) :
    FnOk P w K mg base CX0 2 f fd ["_law_bag_here", "_law_things"] spMixed := by
  refine F.ok scMixed (fun vs H Q E h => ?_) (fun cdv A outer s H vs Q E hr h => ?_)
  · obtain ⟨b, l, a, xs, rfl, _⟩ := h
    rfl
  · obtain ⟨b, l, a, xs, rfl, hB, ha, hni, hz, k⟩ := h
    refine ⟨_, pss_cons (ps_set (i := 2) scMixed.nd rfl (Or.inl rfl) (pe_lst pa_nil))
      (pss_cons (ps_for PassesOwn.never rfl (pi_list (pv 1)) (pg_name (i := 3) scMixed.nd rfl (Or.inl rfl))
        (pss_one (ps_expr (pe_bm PySem.F.plainAttrs_list PySem.F.slot_list_insert PySem.F.type_list_insert mt_insert (pv 2) (pa_cons
          (pe_call GT hr rfl gT kT bT .nil pass0 (pa_cons (pv 0) (pa_cons (pe_op op_add (pe_callB call_len_seq (by rfl) T.len (by decide +kernel) (pa_cons (pv 2) pa_nil)) pe_int) pa_nil))) (pa_cons (pv 3) pa_nil))))))
      (pss_one (ps_ret (pv 2)))), ?_⟩
    have hbag := noBag hni
    refine ⟨by decide, fun q hq => ?_⟩
    have s0 : Same H _ := Same.new (o := .lst []) hq
    have hne := hB.there hq
    refine ⟨_, rfl, a, rfl, ⟨xs, .of (s0 _ _ ha)⟩, ?_⟩
    refine for_it (walk_list (K := K) (a := a) (xs := xs)) (fun i σ H' => (∃ u, σ = [some (.ref b), some (.ref a), some (.ref q), u]) ∧ Keeps H H' ∧ BagAt H' b l ∧ ∃ ys, H' q = some (.lst ys) ∧ ys.Perm (xs.take i))
      ⟨⟨_, rfl⟩, Same.keeps s0, hB.same s0, [], upd_same, .nil⟩ (fun i σ H' _ h => .of (h.2.1.k _ _ ha hbag)) ?_ ?_
    · rintro i v σ H1 H2 hi ⟨⟨u, rfl⟩, t1, t2, ys, t3, t4⟩ ⟨rfl, hv⟩
      have hyl : ys.length ≤ 900 := by
        rw [t4.length_eq]
        have := List.length_take_le' i xs
        omega
      have hyb : isBag (.lst ys) = false := noBag fun y hy => hni y (List.mem_of_mem_take (t4.mem_iff.mp hy))
      refine ⟨_, rfl, .inl ⟨rfl, _, .of t3⟩, ?_⟩
      refine ⟨_, rfl, _, rfl, q, ys, rfl, .inl (.of t3), _, _, rfl, rfl, b, l, _, rfl, t2, by omega, by omega, fun n H3 h0 h1 k3 B3 => ?_⟩
      refine ⟨_, rfl, q, ys, n, v, rfl, rfl, k3.k _ _ t3 hyb, by rw [sizeLine_eq]; omega, h0, by omega, ?_⟩
      refine ⟨⟨_, rfl⟩, (t1.trans k3).upd_new hq, B3.upd hne, _, upd_same, ?_⟩
      rw [take_snoc hv]
      refine List.Perm.trans ?_ (t4.append_right [v])
      have e : ys = ys.take n.toNat ++ ys.drop n.toNat := (List.take_append_drop _ _).symm
      conv => rhs; rw [e]
      rw [List.append_assoc, List.append_assoc]
      exact (List.perm_append_comm (l₁ := [v])).append_left _
    · rintro σ H1 ⟨⟨u, rfl⟩, t1, t2, ys, t3, t4⟩
      rw [List.take_length] at t4
      exact ⟨_, rfl, k q ys H1 t1 t2 hq t3 t4⟩
end
end VC
set_option Elab.async false
set_option linter.all false
set_option maxRecDepth 100000
set_option maxHeartbeats 4000000
/-! The words of the law's labels, in plain terms. -/
namespace VC
open PySem PySem.Spec PyProof.Rows L2
structure WsLaw (ws : List Str) : Prop where
  n : ws.length = 5
  nd : ws.Nodup
  g : ∀ x ∈ ws, GoodW x
abbrev lettersS : Str := "abcdefghijklmnopqrstuvwxyz"
def sgn (c : Nat) : Str := ⟨#[c]⟩
theorem let_at {i : Int} (h0 : 0 ≤ i) (h1 : i < 26) : atI lettersS.cps.toList i = some (97 + i.toNat) := by
  obtain ⟨j, rfl⟩ : ∃ j : Nat, i = (j : Int) := ⟨i.toNat, by omega⟩
  have : ∀ d : Fin 26, lettersS.cps.toList[d.val]? = some (97 + d.val) := by decide +kernel
  rw [atI_nat (this ⟨j, by omega⟩)]
  rfl
def Abc (x : Str) : Prop := ∀ c ∈ x.cps.toList, 97 ≤ c ∧ c ≤ 122
theorem app_list (x y : Str) : (x ++ y).cps.toList = x.cps.toList ++ y.cps.toList := by
  show (x.cps ++ y.cps).toList = _
  simp
theorem len_list (x : Str) : x.length = x.cps.toList.length := by simp [Str.length]
theorem app_len (x y : Str) : (x ++ y).length = x.length + y.length := by rw [len_list, app_list, List.length_append, ← len_list, ← len_list]
theorem abc_app {x y : Str} (hx : Abc x) (hy : Abc y) : Abc (x ++ y) := fun c hc => by
  rw [app_list] at hc
  exact (List.mem_append.mp hc).elim (hx c) (hy c)
theorem abc_nil : Abc Str.empty := fun c hc => by cases hc
theorem abc_cut {x : Str} (hx : Abc x) (lo hi : Option Int) : Abc (cutS x lo hi) := fun c hc => hx c (List.mem_of_mem_drop (List.mem_of_mem_take hc))
theorem abc_rep {x : Str} (hx : Abc x) (k : Nat) : Abc (repS x k) := fun c hc => by
  rw [repS_toList] at hc
  obtain ⟨l, hl, hc⟩ := List.mem_flatten.mp hc
  exact hx c ((List.mem_replicate.mp hl).2 ▸ hc)
theorem cut_len {x : Str} {a : Int} (h : 0 ≤ a) : (cutS x none (some a)).length + (cutS x (some a) none).length ≤ x.length := by
  obtain ⟨j, rfl⟩ : ∃ j : Nat, a = (j : Int) := ⟨a.toNat, by omega⟩
  rw [len_list, len_list]
  unfold cutS
  simp only [HT.sIx_nat, HT.sIx_none, List.length_take, List.length_drop, ← len_list]
  omega
/-! ### the joined letters -/
theorem joinL_nil : ∀ l : List (List Nat), TL.joinL [] l = l.flatten
  | [] => rfl
  | [p] => by simp [TL.joinL]
  | p :: q :: r => by
    rw [TL.joinL, joinL_nil (q :: r)]
    simp
theorem join_list (ys : List Str) : (Txt.join (Str.ofString "") ys).cps.toList = (ys.map fun y => y.cps.toList).flatten := by
  rw [TL.join_eq]
  have := TL.tl_join (Str.ofString "") ys
  rw [show TL.tl (Str.ofString "") = [] from rfl, joinL_nil] at this
  exact this
theorem join_abc {ys : List Str} (h : ∀ y ∈ ys, Abc y) : Abc (Txt.join (Str.ofString "") ys) := fun c hc => by
  rw [join_list] at hc
  obtain ⟨l, hl, hc⟩ := List.mem_flatten.mp hc
  obtain ⟨y, hy, rfl⟩ := List.mem_map.mp hl
  exact h y hy c hc
theorem join_len {ys : List Str} (h : ∀ y ∈ ys, y.length = 1) : (Txt.join (Str.ofString "") ys).length = ys.length := by
  rw [len_list, join_list, List.length_flatten, List.map_map]
  induction ys with
  | nil => rfl
  | cons y ys ih =>
    rw [List.map_cons, List.sum_cons, ih fun z hz => h z (List.mem_cons_of_mem _ hz), List.length_cons]
    have := h y List.mem_cons_self
    rw [len_list] at this
    show y.cps.toList.length + _ = _
    omega
/-! ### the written words -/
def W0 : List Str := ["lists", "paper", "anchor", "notice", "trust", "arrive", "renew", "back", "all", "none", "any", "named", "open", "shut", "soft", "strict", "ok", "root", "a", "b", "ab", "zz", "ask", "days"]
instance (x : Str) : Decidable (GoodW x) := by unfold GoodW; infer_instance
theorem split_W0 : Txt.split (("lists paper anchor notice trust arrive renew back all none any named open shut soft strict ok root" : Str) ++ (" a b ab zz ask days" : Str)) " " = W0 := by decide +kernel
def rotW (t : Nat) : List Str := ((W0.drop t ++ W0.take t).take 5)
theorem rot_law (t : Nat) (h : t < 24) : WsLaw (rotW t) := by
  have : ∀ d : Fin 24, (rotW d.val).length = 5 ∧ (rotW d.val).Nodup ∧ ∀ x ∈ rotW d.val, GoodW x := by decide +kernel
  obtain ⟨h1, h2, h3⟩ := this ⟨t, h⟩
  exact ⟨h1, h2, h3⟩
theorem cutV_map (xs : List Str) (lo hi : Option Int) : cutV (xs.map V.str) lo hi = ((xs.drop (HT.sIx xs.length 0 lo)).take (HT.sIx xs.length xs.length hi - HT.sIx xs.length 0 lo)).map V.str := by
  unfold cutV
  rw [← List.map_drop, ← List.map_take, List.length_map]
theorem rot_cut (t : Nat) (h : t < 24) : cutV (cutV (W0.map V.str) (some (t : Int)) none ++ cutV (W0.map V.str) none (some (t : Int))) none (some 5) = (rotW t).map V.str := by
  have : ∀ d : Fin 24, cutV (cutV (W0.map V.str) (some (d.val : Int)) none ++ cutV (W0.map V.str) none (some (d.val : Int))) none (some 5) = (rotW d.val).map V.str := by decide +kernel
  exact this ⟨t, h⟩
/-! ### the made words -/
/-- the letter's place at turn k -/
def ixk (far : Int) (k : Nat) : Int := if far = 0 then 3 * (k : Int) else (k : Int) / 8
def sk (t far : Int) (k : Nat) : Str := repS (sgn (97 + ((t + ixk far k) % 26).toNat)) (1 + (k : Int) % 8 * far).toNat
theorem sgn_abc {j : Int} (h0 : 0 ≤ j) (h1 : j < 26) : Abc (sgn (97 + j.toNat)) := fun c hc => by
  have : c = 97 + j.toNat := by simpa [sgn] using hc
  omega
theorem sk_abc (t far : Int) (k : Nat) : Abc (sk t far k) := abc_rep (sgn_abc (Int.emod_nonneg _ (by decide)) (Int.emod_lt_of_pos _ (by decide))) _
theorem sk_len (t far : Int) (k : Nat) : (sk t far k).length = (1 + (k : Int) % 8 * far).toNat := by
  unfold sk
  rw [repS_len]
  show _ * 1 = _
  omega
theorem sk_inj {t far : Int} {j k : Nat} (hf : far = 0 ∨ far = 1) (hj : j < 5) (hk : k < 5) (e : sk t far j = sk t far k) : j = k := by
  rcases hf with rfl | rfl
  · have h1 : sk t 0 j = sgn (97 + ((t + 3 * (j : Int)) % 26).toNat) := by
      unfold sk ixk
      simp only [Int.mul_zero, Int.add_zero, if_true]
      exact repS_one _
    have h2 : sk t 0 k = sgn (97 + ((t + 3 * (k : Int)) % 26).toNat) := by
      unfold sk ixk
      simp only [Int.mul_zero, Int.add_zero, if_true]
      exact repS_one _
    rw [h1, h2] at e
    have e2 : 97 + ((t + 3 * (j : Int)) % 26).toNat = 97 + ((t + 3 * (k : Int)) % 26).toNat := by
      have := congrArg (fun s : Str => s.cps.toList) e
      simpa [sgn] using this
    omega
  · have := congrArg Str.length e
    rw [sk_len, sk_len] at this
    omega
def labels (base : Str) (t far a : Int) : List Str := (List.range 5).map fun k => cutS base none (some a) ++ sk t far k ++ cutS base (some a) none
theorem labels_law {base : Str} {t far a : Int} (hb : Abc base) (ha : 0 ≤ a) (h : (far = 0 ∧ base.length ≤ 7) ∨ (far = 1 ∧ base.length = 0)) : WsLaw (labels base t far a) := by
  have hf : far = 0 ∨ far = 1 := h.elim (fun h => .inl h.1) fun h => .inr h.1
  refine ⟨by simp [labels], ?_, ?_⟩
  · unfold labels
    have hp : (List.range 5).Pairwise (· ≠ ·) := List.nodup_range
    refine List.pairwise_map.mpr (List.Pairwise.imp_of_mem (fun {j k} hj hk hne e => hne ?_) hp)
    refine sk_inj (t := t) hf (List.mem_range.mp hj) (List.mem_range.mp hk) ?_
    have := congrArg (fun s : Str => s.cps.toList) e
    simp only [app_list] at this
    exact str_ext (List.append_cancel_left (List.append_cancel_right this))
  · intro x hx
    obtain ⟨k, hk, rfl⟩ := List.mem_map.mp hx
    have hk := List.mem_range.mp hk
    have hl := cut_len (x := base) ha
    have hs := sk_len t far k
    refine ⟨?_, ?_, abc_app (abc_app (abc_cut hb _ _) (sk_abc _ _ _)) (abc_cut hb _ _)⟩
    · rw [app_len, app_len]
      rcases h with ⟨rfl, h⟩ | ⟨rfl, h⟩ <;> omega
    · rw [app_len, app_len]
      rcases h with ⟨rfl, h⟩ | ⟨rfl, h⟩ <;> omega
end VC
set_option Elab.async false
set_option linter.all false
set_option maxRecDepth 100000
set_option maxHeartbeats 4000000
/-! _law_labels. -/
namespace VC
open PySem PySem.Spec PyProof.Rows L2
theorem m26 : (0 : Int) < 26 := by decide
theorem m8 : (0 : Int) < 8 := by decide
section
variable {P : Program} {w : World} {K : PySem.W.Frag} {mg : Str → Option Value} {base : Heap} {C p g : Addr}
def spLabels : Sp := fun vs H Q _ => ∃ b l, vs = [V.ref b, .int 5] ∧ BagAt H b l ∧ ∀ q ws H', Keeps H H' → BagAt H' b l → H q = none → H' q = some (.lst ((ws : List Str).map V.str)) → WsLaw ws → Q (.ref q) H'
abbrev nLab : List Str := ["_law_bag_here", "_law_many", "_law_letters", "_law_words", "_law_way", "_law_turn", "_law_base", "_law_at", "_law_far", "_law_some", "_law_k"]
theorem scLabels : FnScope nLab ["_law_bag_here", "_law_many"] (defScope lLabels) := ⟨rfl, rfl, rfl, by decide +kernel, rfl, by decide +kernel, by decide +kernel⟩
theorem ok_labels {f fT : Addr} {fd fdT : FuncData} (F : L2.Fun K "_law_labels" "_law_labels" lLabels f fd) (T : Txt K mg C p g)
    (GT : FnOk P w K mg base CX0 1 fT fdT ["_law_bag_here", "_law_many"] spTake) (kT : PySem.W.keepIn K (.ref fT) = true) (bT : Binds K fdT ["_law_bag_here", "_law_many"] []) (gT : mg "_law_take" = some (.ref fT)) :
    FnOk P w K mg base CX0 2 f fd ["_law_bag_here", "_law_many"] spLabels := by
  refine F.ok scLabels (fun vs H Q E h => ?_) (fun cdv A outer s H vs Q E hr h => ?_)
  · obtain ⟨b, l, rfl, _⟩ := h
    rfl
  · obtain ⟨b, l, rfl, hB, k⟩ := h
    refine ⟨_, pss_cons (ps_set (i := 2) scLabels.nd rfl (Or.inr rfl) pe_str)
      (pss_cons (ps_set (i := 3) scLabels.nd rfl (Or.inl rfl) pe_str)
      (pss_cons (ps_set (i := 3) scLabels.nd rfl (Or.inl rfl) (pe_split (pe_op op_add_str (pv 3) pe_str) pe_str))
      (pss_cons (ps_asg (pe_tup (pa_cons (pe_call GT hr rfl gT kT bT .nil pass0 (pa_cons (pv 0) (pa_cons pe_int pa_nil))) (pa_cons (pe_call GT hr rfl gT kT bT .nil pass0 (pa_cons (pv 0) (pa_cons pe_int pa_nil))) pa_nil)))
          (pg_tup rfl (pgs_cons (pg_name (i := 4) scLabels.nd rfl (Or.inl rfl)) (pgs_cons (pg_name (i := 5) scLabels.nd rfl (Or.inr rfl)) pgs_nil))))
      (pss_cons (ps_set (i := 6) scLabels.nd rfl (Or.inr rfl) (pe_join pe_str
          (pe_lc (own := [("_law_k", 10)]) (g := gName 10) (tt := tYes) (by rfl) scLabels.nd (pi_range1 rfl T.range (pa_cons (pe_op op_add pe_int (pe_call GT hr rfl gT kT bT .nil pass0 (pa_cons (pv 0) (pa_cons pe_int pa_nil)))) pa_nil))
            (blkOk_by (own := [("_law_k", 10)]) (N := nLab) (sc := defScope lLabels) (by decide +kernel))
            (fun _ _ _ _ _ => pg_name (i := 10) scLabels.nd rfl (Or.inl rfl)) (fun _ _ _ _ _ => pts_nil)
            (fun _ _ _ _ _ => pe_ix ix_str (pv 2) (pe_call GT hr rfl gT kT bT .nil pass0 (pa_cons (pv 0) (pa_cons pe_int pa_nil))) (fun _ _ => rfl)))))
      (Evl.pss_cut (ps_asg (pe_tup (pa_cons (pe_call GT hr rfl gT kT bT .nil pass0 (pa_cons (pv 0) (pa_cons (pe_op op_add (pe_callB call_len_str (by rfl) T.len (by decide +kernel) (pa_cons (pv 6) pa_nil)) pe_int) pa_nil))) (pa_cons (pe_op op_fdiv (pv 4) pe_int) pa_nil)))
          (pg_tup rfl (pgs_cons (pg_name (i := 7) scLabels.nd rfl (Or.inr rfl)) (pgs_cons (pg_name (i := 8) scLabels.nd rfl (Or.inr rfl)) pgs_nil))))
      (pss_cons (ps_if (pt_cmpR op_eq (pv 4) pe_int (nomark _))
          (pss_one (ps_ret (pe_slice sl_list (pe_op op_cat (pe_slice sl_list (pv 3) (po_some (pv 5)) po_none) (pe_slice sl_list (pv 3) po_none (po_some (pv 5)))) po_none (po_some (pv 1))))) pss_nil)
      (pss_cons (ps_set (i := 9) scLabels.nd rfl (Or.inr rfl)
          (pe_lc (own := [("_law_k", 10)]) (g := gName 10) (tt := tYes) (by rfl) scLabels.nd (pi_range1 rfl T.range (pa_cons (pv 1) pa_nil))
            (blkOk_by (own := [("_law_k", 10)]) (N := nLab) (sc := defScope lLabels) (by decide +kernel))
            (fun _ _ _ _ _ => pg_name (i := 10) scLabels.nd rfl (Or.inl rfl)) (fun _ _ _ _ _ => pts_nil)
            (fun _ _ _ _ _ => pe_op op_mulS
              (pe_ix ix_str (pv 2) (pe_op op_mod (pe_callTy (T := "int") call_int1 (by rfl) T.int (by decide +kernel) (pa_cons (pe_op op_add (pv 5) (pe_ix (k_ixL (K := K) rfl) (pe_lst (pa_cons (pe_op op_mul pe_int (pv 10)) (pa_cons (pe_op op_fdiv (pv 10) pe_int) pa_nil))) (pv 8) (fun _ _ => rfl))) pa_nil)) pe_int) (fun _ _ => rfl))
              (pe_op op_add pe_int (pe_op op_mul (pe_op op_mod (pe_callTy (T := "int") call_int1 (by rfl) T.int (by decide +kernel) (pa_cons (pv 10) pa_nil)) pe_int) (pv 8))))))
      (pss_cons (ps_set (i := 6) scLabels.nd rfl (Or.inr rfl) (pe_op op_mulS (pv 6) (pe_callTy call_int1 (by rfl) T.int (by decide +kernel) (pa_cons (pe_cmpR op_eq (pv 4) pe_int (nomark _)) pa_nil))))
      (pss_one (ps_ret
          (pe_lc (own := [("_law_k", 10)]) (g := gName 10) (tt := tYes) (by rfl) scLabels.nd (pi_range1 rfl T.range (pa_cons (pv 1) pa_nil))
            (blkOk_by (own := [("_law_k", 10)]) (N := nLab) (sc := defScope lLabels) (by decide +kernel))
            (fun _ _ _ _ _ => pg_name (i := 10) scLabels.nd rfl (Or.inl rfl)) (fun _ _ _ _ _ => pts_nil)
            (fun _ _ _ _ _ => pe_op op_add_str (pe_op op_add_str (pe_slice sl_str (pv 6) po_none (po_some (pv 7))) (pe_ix (k_ixL (K := K) rfl) (pv 9) (pv 10) (fun _ _ => rfl))) (pe_slice sl_str (pv 6) (po_some (pv 7)) po_none))))))))))))), ?_⟩
    refine ⟨_, rfl, _, _, rfl, rfl, by decide +kernel, ⟨_, rfl⟩, _, _, rfl, rfl, by decide +kernel, by decide +kernel, fun q1 hq1 => ?_⟩
    rw [split_W0]
    have s1 : Same H _ := Same.new (o := .lst (W0.map V.str)) hq1
    refine ⟨_, rfl, b, l, 4, rfl, hB.same s1, by decide, by decide, fun way H2 w0 w1 k2 B2 => ⟨_, rfl, b, l, 24, rfl, B2, by decide, by decide, fun turn H3 t0 t1 k3 B3 => ⟨by show 2 ≤ sizeLine; decide, fun tp htp => ⟨tp, _, rfl, .of upd_same, rfl, _, _, rfl, _, _, rfl, rfl, ?_⟩⟩⟩⟩
    have hW3 : H3 q1 = some (.lst (W0.map V.str)) := k3.k _ _ (k2.k _ _ upd_same (noBag_strs _)) (noBag_strs _)
    have kk : Keeps H (upd H3 tp (.tup [.int way, .int turn])) := (((Same.keeps s1).trans k2).trans k3).then (Same.new htp)
    have BB : BagAt (upd H3 tp (.tup [.int way, .int turn])) b l := B3.same (Same.new htp)
    have hW4 : (upd H3 tp (.tup [.int way, .int turn])) q1 = some (.lst (W0.map V.str)) := Same.new htp _ _ hW3
    generalize upd H3 tp (.tup [.int way, .int turn]) = H4 at kk BB hW4 ⊢
    clear hW3 k2 B2 k3 B3 htp
    refine ⟨⟨_, rfl⟩, _, rfl, b, l, 7, rfl, BB, by decide, by decide, fun n5 H5 n50 n51 k5 B5 => ⟨_, _, rfl, rfl, _, rfl, by omega, by omega, fun D hD => ?_⟩⟩
    have hW5 : H5 q1 = some (.lst (W0.map V.str)) := k5.k _ _ hW4 (noBag_strs _)
    have kk5 := kk.trans k5
    have hqD : q1 ≠ D := ne_of_none hW5 hD
    have hbD := B5.there hD
    have hHD := kk5.free D hD
    have hn5 : (1 + n5).toNat ≤ 7 := by omega
    have hn51 : 1 ≤ (1 + n5).toNat := by omega
    refine lc_it walk_range (fun i H' => Keeps H H' ∧ BagAt H' b l ∧ H' q1 = some (.lst (W0.map V.str)) ∧ ∃ xs, H' D = some (.lst (xs.map V.str)) ∧ xs.length = i ∧ ∀ y ∈ xs, y.length = 1 ∧ Abc y)
      ⟨kk5.then (Same.new hD), B5.same (Same.new hD), Same.new hD _ _ hW5, [], upd_same, rfl, fun y hy => (by cases hy)⟩ (fun _ _ _ _ => trivial) ?_ ?_
    · rintro i v H6 H7 hi ⟨u1, u2, u3, xs, u4, u5, u6⟩ ⟨rfl, rfl⟩
      refine ⟨rfl, ?_⟩
      refine ⟨_, rfl, _, rfl, b, l, 26, rfl, u2, by decide, by decide, fun n H8 n0 n1 k8 B8 => ⟨_, _, _, rfl, rfl, by decide, let_at n0 n1, _, k8.k _ _ u4 (noBag_strs _), by rw [List.length_map, sizeLine_eq]; omega, (u1.trans k8).upd_new hHD, B8.upd hbD, ?_, xs ++ [sgn (97 + n.toNat)], ?_, ?_, ?_⟩⟩
      · rw [upd_ne hqD]
        exact k8.k _ _ u3 (noBag_strs _)
      · rw [upd_same, List.map_append]
        rfl
      · rw [List.length_append, u5]
        rfl
      · intro y hy
        rcases List.mem_append.mp hy with hy | hy
        · exact u6 y hy
        · obtain rfl := List.mem_singleton.mp hy
          exact ⟨rfl, sgn_abc n0 n1⟩
    · rintro H6 ⟨u1, u2, u3, xs, u4, u5, u6⟩
      have jl := join_len fun y hy => (u6 y hy).1
      have ja := join_abc fun y hy => (u6 y hy).2
      refine ⟨_, D, xs, rfl, rfl, .inl (.of u4), ?_, ?_⟩
      · have h1 := sum_le (l := xs.map (·.length)) (n := 1) fun z hz => by
          obtain ⟨y, hy, rfl⟩ := List.mem_map.mp hz
          exact Nat.le_of_eq (u6 y hy).1
        rw [List.length_map] at h1
        show _ + xs.length * 0 ≤ _
        omega
      generalize Txt.join (Str.ofString "") xs = bs at jl ja ⊢
      refine ⟨fun σ' H' => ∃ at_, σ' = [some (.ref b), some (.int 5), some (.str lettersS), some (.ref q1), some (.int way), some (.int turn), some (.str bs), some (.int at_), some (.int (way / 3)), none, none] ∧ 0 ≤ at_ ∧ Keeps H H' ∧ BagAt H' b l ∧ H' q1 = some (.lst (W0.map V.str)), ?_, ?_⟩
      · refine ⟨_, rfl, _, rfl, _, rfl, by rw [sizeLine_eq]; omega, _, _, rfl, rfl, b, l, _, rfl, u2, by omega, by omega, fun at_ H9 a0 a1 k9 B9 => ⟨_, rfl, _, _, rfl, rfl, ⟨by decide, by decide⟩, by show 2 ≤ sizeLine; decide, fun tp2 htp2 => ⟨tp2, _, rfl, .of upd_same, rfl, _, _, rfl, _, _, rfl, rfl, ?_⟩⟩⟩
        exact ⟨at_, rfl, a0, (u1.trans k9).then (Same.new htp2), B9.same (Same.new htp2), Same.new htp2 _ _ (k9.k _ _ u3 (noBag_strs _))⟩
      · clear u1 u2 u3 u4
        rintro σ' H6 ⟨at_, rfl, a0, u1, u2, u3⟩
        refine ⟨_, rfl, rfl, _, rfl, ?_⟩
        refine ite2 (fun _ => ?_) (fun hw => ?_)
        · refine ⟨_, rfl, _, rfl, _, rfl, q1, _, rfl, .of u3, fun c1 hc1 => ?_⟩
          have v1 := Same.new (o := .lst (cutV (W0.map V.str) (some turn) none)) hc1
          refine ⟨_, rfl, _, rfl, _, rfl, q1, _, rfl, .of (v1 _ _ u3), fun c2 hc2 => ?_⟩
          have v2 := Same.new (o := .lst (cutV (W0.map V.str) none (some turn))) hc2
          refine ⟨c1, c2, _, _, rfl, rfl, v2 _ _ upd_same, upd_same, ?_, fun c3 hc3 => ?_⟩
          · have h1 := cutV_length (W0.map V.str) (some turn) none
            have h2 := cutV_length (W0.map V.str) none (some turn)
            have h3 : (W0.map V.str).length = 24 := by decide +kernel
            rw [sizeLine_eq]
            omega
          have v3 := Same.new (o := .lst (cutV (W0.map V.str) (some turn) none ++ cutV (W0.map V.str) none (some turn))) hc3
          refine ⟨_, rfl, 5, rfl, c3, _, rfl, .of upd_same, fun c4 hc4 => ?_⟩
          obtain ⟨tn, rfl⟩ : ∃ tn : Nat, turn = (tn : Int) := ⟨turn.toNat, by omega⟩
          rw [rot_cut tn (by omega)]
          have v4 := ((v1.trans v2).trans v3)
          exact k c4 (rotW tn) _ (u1.then (v4.trans (Same.new hc4))) (u2.same (v4.trans (Same.new hc4))) (u1.free _ (v4.free hc4)) upd_same (rot_law tn (by omega))
        · have hw0 : ¬ way = 0 := fun e => hw (by rw [e]; decide)
          have hf : way / 3 = 0 ∨ way / 3 = 1 := by omega
          refine ⟨_, rfl, 5, rfl, by decide, by decide, fun D hD => ?_⟩
          refine lc_it walk_range (fun i H' => Same H6 H' ∧ H' D = some (.lst (((List.range i).map (sk turn (way / 3))).map V.str))) ⟨Same.new hD, upd_same⟩ (fun _ _ _ _ => trivial) ?_ ?_
          · rintro i v H7 H8 hi ⟨v1, v2⟩ ⟨rfl, hv⟩
            simp only [Int.zero_add] at hv
            subst hv
            have hi5 : i < 5 := hi
            have hix : atI [V.int (3 * (i : Int)), V.int ((i : Int) / 8)] (way / 3) = some (.int (ixk (way / 3) i)) := by
              rcases hf with e | e
              · rw [e]; rfl
              · rw [e]; rfl
            have hn : (0 : Int) ≤ 1 + (i : Int) % 8 * (way / 3) := by
              rcases hf with e | e <;> rw [e] <;> omega
            have hn2 : (1 + (i : Int) % 8 * (way / 3)).toNat ≤ 1000 := by
              rcases hf with e | e <;> rw [e] <;> omega
            refine ⟨rfl, ?_⟩
            refine ⟨_, rfl, _, rfl, _, rfl, _, _, rfl, rfl, .inl ⟨by decide, by decide⟩, _, rfl, _, _, rfl, rfl, ⟨by decide, by decide⟩, by show 2 ≤ sizeLine; decide, fun dl hdl => ⟨_, rfl, dl, _, _, _, rfl, rfl, .of upd_same, hix, ?_⟩⟩
            have v3 := v1.trans (Same.new (o := .lst [V.int (3 * (i : Int)), V.int ((i : Int) / 8)]) hdl)
            have hdD : D ≠ dl := ne_of_none v2 hdl
            refine ⟨_, _, rfl, rfl, .inl ⟨_, rfl, _, _, rfl, rfl, m26, _, _, _, rfl, rfl, by decide, let_at (Int.emod_nonneg _ (by decide)) (Int.emod_lt_of_pos _ (by decide)), ?_⟩⟩
            refine ⟨_, rfl, .inl ⟨_, rfl, _, _, rfl, rfl, m8, _, rfl, _, _, rfl, rfl, .inr ⟨by omega, by omega⟩, _, _, rfl, rfl, ?_⟩⟩
            refine ⟨_, (1 + (i : Int) % 8 * (way / 3)).toNat, rfl, congrArg V.int (Int.toNat_of_nonneg hn).symm, hn2, (by show 1 ≤ 1000; decide), ?_⟩
            refine ⟨_, (Same.new hdl) _ _ v2, ?_, Same.upd_new v3 hD, ?_⟩
            · rw [List.length_map, List.length_map, List.length_range, sizeLine_eq]
              omega
            · rw [upd_same, List.range_succ, List.map_append, List.map_append]
              rfl
          · rintro H7 ⟨v1, v2⟩
            -- base * int(way == 2)
            obtain ⟨bn, hbn, hbe⟩ : ∃ bn : Nat, V.int (if decide (V.int way = V.int 2) = true then 1 else 0) = V.int (bn : Int) ∧ ((way / 3 = 0 ∧ bn ≤ 1) ∨ (way / 3 = 1 ∧ bn = 0)) := by
              by_cases h2 : way = 2
              · subst h2
                exact ⟨1, by decide, .inl ⟨by decide, by decide⟩⟩
              · have e : decide (V.int way = V.int 2) = false := by simpa using h2
                rw [e]
                refine ⟨0, rfl, ?_⟩
                rcases hf with e | e
                · exact .inl ⟨e, by decide⟩
                · exact .inr ⟨e, rfl⟩
            refine ⟨_, rfl, _, rfl, rfl, .inr ⟨_, rfl, _, bn, rfl, hbn, by omega, by omega, ?_⟩⟩
            have bl := repS_len bs bn
            have ba := abc_rep ja bn
            have hlaw : WsLaw (labels (repS bs bn) turn (way / 3) at_) := labels_law ba a0 (by
              rcases hbe with ⟨e1, e2⟩ | ⟨e1, e2⟩
              · refine .inl ⟨e1, ?_⟩
                have : bn * bs.length ≤ 1 * bs.length := Nat.mul_le_mul_right _ e2
                omega
              · refine .inr ⟨e1, ?_⟩
                rw [bl, e2, Nat.zero_mul])
            have bl7 : (repS bs bn).length ≤ 7 := by
              rw [bl]
              have : bn * bs.length ≤ 1 * bs.length := Nat.mul_le_mul_right _ (by omega)
              omega
            generalize repS bs bn = b2 at bl7 hlaw ⊢
            have hDs : H D = none := u1.free _ hD
            refine ⟨_, rfl, 5, rfl, by decide, by decide, fun D2 hD2 => ?_⟩
            refine lc_it walk_range (fun i H' => Same H7 H' ∧ H' D2 = some (.lst (((List.range i).map fun k => cutS b2 none (some at_) ++ sk turn (way / 3) k ++ cutS b2 (some at_) none).map V.str))) ⟨Same.new hD2, upd_same⟩ (fun _ _ _ _ => trivial) ?_ ?_
            · rintro i v H8 H9 hi ⟨w1, w2⟩ ⟨rfl, hv⟩
              simp only [Int.zero_add] at hv
              subst hv
              have hi5 : i < 5 := hi
              have hs := sk_len turn (way / 3) i
              have hs2 : (sk turn (way / 3) i).length ≤ 8 := by
                rw [hs]
                rcases hf with e | e <;> rw [e] <;> omega
              have hc := cut_len (x := b2) a0
              refine ⟨rfl, ?_⟩
              refine ⟨_, rfl, _, rfl, _, rfl, _, rfl, by rw [sizeLine_eq]; omega, ?_⟩
              refine ⟨_, rfl, _, rfl, D, _, _, .str (sk turn (way / 3) i), rfl, rfl, .of (w1 _ _ v2), atI_nat ?_, ?_⟩
              · rw [List.getElem?_map, List.getElem?_map, List.getElem?_range (by show i < 5; exact hi5)]
                rfl
              refine ⟨_, _, rfl, rfl, by rw [sizeLine_eq]; omega, ?_⟩
              refine ⟨_, rfl, _, rfl, _, rfl, _, rfl, by rw [sizeLine_eq]; omega, _, _, rfl, rfl, by rw [app_len, sizeLine_eq]; omega, ?_⟩
              refine ⟨_, w2, ?_, Same.upd_new w1 hD2, ?_⟩
              · rw [List.length_map, List.length_map, List.length_range, sizeLine_eq]
                omega
              · rw [upd_same, List.range_succ, List.map_append, List.map_append]
                rfl
            · rintro H8 ⟨w1, w2⟩
              have x1 := v1.trans w1
              exact k D2 _ H8 (u1.then x1) (u2.same x1) (u1.free _ (v1.free hD2)) w2 hlaw
end
end VC
set_option Elab.async false
set_option linter.all false
set_option maxRecDepth 100000
set_option maxHeartbeats 4000000
/-! The law's own carries: _law_carries, _law_spare, _law_drawn_carry. -/
namespace VC
open PySem PySem.Spec PyProof.Rows L2
/-- the law's own pair (flag, dict of lists) that means c -/
structure LawE (ws : List Str) (H : Hp) (q : Addr) (c : Ca) (d : Addr) (es : List RowE) : Prop where
  ob : H q = some (.tup [.bl c.rest, .ref d])
  dc : H d = some (.dK (es.map entR))
  nd : (es.map (·.1)).Nodup
  vals : ∀ e ∈ es, H e.2.1 = some (.lst (e.2.2.map V.str)) ∧ c.f e.1 = sd e.2.2 ∧ e.2.2.length ≤ 60
  ins : ∀ e ∈ es, e.1 ∈ ws
  out : ∀ r, r ∉ es.map (·.1) → c.f r = unl c.rest r
def LawAt (ws : List Str) (H : Hp) (q : Addr) (c : Ca) : Prop := ∃ d es, LawE ws H q c d es
section
variable {ws : List Str} {H H' : Hp} {q d : Addr} {c : Ca} {es : List RowE}
theorem LawE.keeps (s : Keeps H H') (h : LawE ws H q c d es) : LawE ws H' q c d es :=
  ⟨s.k _ _ h.ob rfl, s.k _ _ h.dc rfl, h.nd, fun e he => ⟨s.k _ _ (h.vals e he).1 (noBag_strs _), (h.vals e he).2⟩, h.ins, h.out⟩
theorem LawAt.keeps (s : Keeps H H') (h : LawAt ws H q c) : LawAt ws H' q c := by
  obtain ⟨d, es, h⟩ := h
  exact ⟨d, es, h.keeps s⟩
theorem LawAt.same (s : Same H H') (h : LawAt ws H q c) : LawAt ws H' q c := h.keeps (Same.keeps s)
theorem LawE.len (h : LawE ws H q c d es) : es.length ≤ ws.length := by
  rw [← List.length_map (f := (·.1)) (as := es)]
  refine nodup_len h.nd fun x hx => ?_
  obtain ⟨e, he, rfl⟩ := List.mem_map.mp hx
  exact h.ins e he
end
theorem unl_len (b : Bool) (r : Str) : (unl b r).length ≤ 1 := by cases b <;> simp [unl]
theorem WsLaw.ok {ws : List Str} (h : WsLaw ws) : WsOk ws := ⟨by rw [h.n]; decide, h.g⟩
section
variable {P : Program} {w : World} {K : PySem.W.Frag} {mg : Str → Option Value} {base : Heap} {C p g : Addr}
def spCarries : Sp := fun vs H Q _ => ∃ q r c ws, vs = [V.ref q, .str r] ∧ LawAt ws H q c ∧ ∀ l H', Same H H' → H l = none → H' l = some (.lst ((c.f r).map V.str)) → Q (.ref l) H'
theorem scCarries : FnScope ["_law_carry", "_law_rule", "_law_rest", "_law_listed"] ["_law_carry", "_law_rule"] (defScope lCarries) := ⟨rfl, rfl, rfl, by decide +kernel, rfl, by decide +kernel, by decide +kernel⟩
theorem rep_unl (b : Bool) (r : Str) : (List.replicate (if b = true then (1 : Int) else 0).toNat [V.str r]).flatten = (unl b r).map V.str := by
  cases b <;> rfl
theorem ok_carries {f : Addr} {fd : FuncData} (F : L2.Fun K "_law_carries" "_law_carries" lCarries f fd) (T : Txt K mg C p g) : FnOk P w K mg base CX0 1 f fd ["_law_carry", "_law_rule"] spCarries := by
  refine F.ok scCarries (fun vs H Q E h => ?_) (fun cdv A outer s H vs Q E hr h => ?_)
  · obtain ⟨q, r, c, ws, rfl, _⟩ := h
    rfl
  · obtain ⟨q, r, c, ws, rfl, ⟨d, es, L⟩, k⟩ := h
    refine ⟨_, pss_cons (ps_asg (pv 0) (pg_tup rfl (pgs_cons (pg_name (i := 2) scCarries.nd rfl (Or.inl rfl)) (pgs_cons (pg_name (i := 3) scCarries.nd rfl (Or.inl rfl)) pgs_nil))))
      (pss_one (ps_ret (pe_callB (cr_sortSetS rfl) (by rfl) T.sorted (by decide +kernel) (pa_cons (pe_callTy (cr_setS rfl) (by rfl) T.set (by decide +kernel) (pa_cons
        (pe_dget2 (hu_of hr) (pv 3) (pv 1) (pe_op op_rep (pe_lst (pa_cons (pv 1) pa_nil)) (pe_callTy call_int1 (by rfl) T.int (by decide +kernel) (pa_cons (pv 2) pa_nil))) ⟨rfl, rfl, rfl, rfl⟩) pa_nil)) pa_nil)))), ?_⟩
    refine ⟨_, rfl, q, _, rfl, .of L.ob, rfl, _, _, rfl, _, _, rfl, rfl, ?_⟩
    refine ⟨_, rfl, d, rfl, .inl ⟨_, .of L.dc⟩, _, rfl, _, rfl, by show 1 ≤ sizeLine; decide, fun l1 hl1 => ⟨_, rfl, .inr ⟨_, rfl, l1, _, _, rfl, rfl, upd_same, ?_, ?_, ?_, fun l2 hl2 => ?_⟩⟩⟩
    · split <;> decide
    · split <;> decide
    · show 1 * _ ≤ sizeLine
      rw [sizeLine_eq]
      split <;> decide
    rw [rep_unl]
    have s1 := Same.new (o := .lst [.str r]) hl1
    have s2 := s1.trans (Same.new (o := .lst ((unl c.rest r).map V.str)) hl2)
    refine ⟨_, DGet.k (k := Sum.inr r) (s2 _ _ L.dc), ?_⟩
    have fin : ∀ (l3 : Addr) (xs : List Str), (upd (upd H l1 (.lst [.str r])) l2 (.lst ((unl c.rest r).map V.str))) l3 = some (.lst (xs.map V.str)) → xs.length ≤ 60 → c.f r = sd xs → ∀ (X1 : Prop), X1 = X1 →
        rSetS K w [.ref l3] (upd (upd H l1 (.lst [.str r])) l2 (.lst ((unl c.rest r).map V.str))) fun x H1 => rSortSetS w [x] H1 Q := by
      intro l3 xs h3 hz e _ _
      refine ⟨l3, xs, rfl, .inl (.of h3), by omega, fun a n ha hn _ => ⟨a, xs, n, rfl, upd_same, by omega, fun z hz' => ?_⟩⟩
      have s3 := s2.trans (Same.new (o := TSetO w a (fun j => j ∈ xs) n) ha)
      refine k z _ (s3.trans (Same.new hz')) (s3.free hz') ?_
      rw [upd_same, e]
    by_cases hm : r ∈ es.map (·.1)
    · obtain ⟨e, he, rfl, hv⟩ := ent_some hm
      rw [hv]
      obtain ⟨v1, v2, v3⟩ := L.vals e he
      exact fin e.2.1 e.2.2 (s2 _ _ v1) v3 v2 True rfl
    · rw [ent_none hm]
      refine fin l2 _ upd_same ?_ ?_ True rfl
      · exact Nat.le_trans (unl_len _ _) (by decide)
      · rw [L.out r hm, sd_unl]
abbrev spares : List Str := ["spare", "spares", "sparse", "spark", "sparks", "space", "spade"]
def spSpare : Sp := fun vs H Q _ => ∃ a ws, vs = [V.ref a] ∧ H a = some (.lst ((ws : List Str).map V.str)) ∧ ws.length ≤ 6 ∧ ∀ z H', Same H H' → z ∉ ws → PyData.strOk z = true → Q (.str z) H'
theorem scSpare : FnScope ["_law_words", "_law_word"] ["_law_words"] (defScope lSpare) := ⟨rfl, rfl, rfl, by decide +kernel, rfl, by decide +kernel, by decide +kernel⟩
theorem spare_some {ws : List Str} (h : ws.length ≤ 6) : ∃ z, (spares.filter fun z => decide (z ∉ ws))[0]? = some z ∧ z ∉ ws ∧ PyData.strOk z = true := by
  cases e : spares.filter fun z => decide (z ∉ ws) with
  | nil =>
    have hall : ∀ z ∈ spares, z ∈ ws := fun z hz => Classical.byContradiction fun hn => by
      have : z ∈ spares.filter fun z => decide (z ∉ ws) := List.mem_filter.mpr ⟨hz, decide_eq_true hn⟩
      rw [e] at this
      cases this
    have nd : spares.Nodup := by decide +kernel
    have := nodup_len nd hall
    have h7 : spares.length = 7 := rfl
    omega
  | cons z r =>
    refine ⟨z, rfl, ?_⟩
    have hz : z ∈ spares.filter fun z => decide (z ∉ ws) := by rw [e]; exact List.mem_cons_self
    obtain ⟨h1, h2⟩ := List.mem_filter.mp hz
    have ok : ∀ z ∈ spares, PyData.strOk z = true := by decide +kernel
    exact ⟨of_decide_eq_true h2, ok z h1⟩
theorem ok_spare {f : Addr} {fd : FuncData} (F : L2.Fun K "_law_spare" "_law_spare" lSpare f fd) (T : Txt K mg C p g) : FnOk P w K mg base CX0 1 f fd ["_law_words"] spSpare := by
  refine F.ok scSpare (fun vs H Q E h => ?_) (fun cdv A outer s H vs Q E hr h => ?_)
  · obtain ⟨a, ws, rfl, _⟩ := h
    rfl
  · obtain ⟨a, ws, rfl, ha, hn, k⟩ := h
    refine ⟨_, pss_one (ps_ret (pe_ix ix_list
      (pe_lc (own := [("_law_word", 1)]) (g := gName 1) (by rfl) scSpare.nd (pi_list (pe_lst (pa_cons pe_str (pa_cons pe_str (pa_cons pe_str (pa_cons pe_str (pa_cons pe_str (pa_cons pe_str (pa_cons pe_str pa_nil)))))))))
          (blkOk_by (own := [("_law_word", 1)]) (N := ["_law_words", "_law_word"]) (sc := defScope lSpare) (by decide +kernel))
          (fun _ _ _ _ _ => pg_name (i := 1) scSpare.nd rfl (Or.inl rfl)) (fun _ _ _ _ _ => pts_one (pt_cmpR (k_notIn (K := K) rfl) (pv 1) (pv 0) (by rfl)))
          (fun _ _ _ _ _ => pv 1)) pe_int (fun _ _ => rfl))), ?_⟩
    refine ⟨by show 7 ≤ sizeLine; decide, fun q hq => ⟨q, rfl, ⟨_, .of upd_same⟩, fun D hD => ?_⟩⟩
    have s1 : Same H _ := Same.new (o := .lst (spares.map V.str)) hq
    have hDn := s1.free hD
    have hqD : q ≠ D := ne_of_none upd_same hD
    refine lc_it (walk_list (K := K) (a := q) (xs := spares.map V.str)) (fun i H' => Same H H' ∧ H' q = some (.lst (spares.map V.str)) ∧ H' D = some (.lst (((spares.take i).filter fun z => decide (z ∉ ws)).map V.str)))
      ⟨s1.trans (Same.new hD), by rw [upd_ne hqD]; exact upd_same, upd_same⟩ (fun i H' _ h => .of h.2.1) ?_ ?_
    · rintro i v H1 H2 hi ⟨t1, t2, t3⟩ ⟨rfl, hv⟩
      obtain ⟨z, hz, rfl⟩ := map_get hv
      refine ⟨rfl, ?_⟩
      refine ⟨_, rfl, _, rfl, a, _, rfl, .inl (.of (t1 _ _ ha)), rfl, flat_strs _, _, rfl, ?_⟩
      have e : (if true = true then !inV (.str z) (ws.map V.str) else inV (.str z) (ws.map V.str)) = decide (z ∉ ws) := by
        rw [inV_strs]
        by_cases h : z ∈ ws <;> simp [h]
      rw [e]
      by_cases hz2 : z ∉ ws
      · refine iteP hz2 ?_
        refine ⟨_, rfl, _, t3, ?_, Same.upd_new t1 hDn, ?_, ?_⟩
        · rw [List.length_map, sizeLine_eq]
          have := List.length_filter_le (fun z => decide (z ∉ ws)) (spares.take i)
          have := List.length_take_le' i spares
          have h7 : spares.length = 7 := rfl
          omega
        · rw [upd_ne hqD]
          exact t2
        · rw [upd_same, take_snoc hz, List.filter_append, List.filter_cons_of_pos (by simpa using hz2), List.map_append]
          rfl
      · refine iteNP hz2 ?_
        refine ⟨t1, t2, ?_⟩
        rw [t3, take_snoc hz, List.filter_append, List.filter_cons_of_neg (by simpa using hz2)]
        simp
    · rintro H1 ⟨t1, t2, t3⟩
      have e2 : spares.take (spares.map V.str).length = spares := rfl
      rw [e2] at t3
      obtain ⟨z, z1, z2, z3⟩ := spare_some hn
      exact ⟨D, _, 0, _, rfl, rfl, .of t3, atI_nat (j := 0) (by rw [List.getElem?_map, z1]; rfl), k z H1 t1 z2 z3⟩
def spDrawn : Sp := fun vs H Q _ => ∃ b l a ws, vs = [V.ref b, .ref a] ∧ BagAt H b l ∧ H a = some (.lst ((ws : List Str).map V.str)) ∧ WsLaw ws ∧
  ∀ q c d es H', Keeps H H' → BagAt H' b l → H q = none → H d = none → (∀ e ∈ es, H e.2.1 = none) → LawE ws H' q c d es → c.Ok ws → Q (.ref q) H'
theorem rowsF_ok {ws : List Str} {b : Bool} {rs : List (Str × List Str)} (nd : (rs.map (·.1)).Nodup) (hk : ∀ r ∈ rs, r.1 ∈ ws) (hv : ∀ r ∈ rs, ∀ x ∈ r.2, x ∈ ws) : Ca.Ok ws ⟨b, rowsF b rs⟩ where
  up := fun r => rowsF_up b rs r
  inn := fun r hr x hx => by
    have hx : x ∈ rowsF b rs r := hx
    by_cases hm : r ∈ rs.map (·.1)
    · obtain ⟨q, hq, rfl⟩ := List.mem_map.mp hm
      rw [rowsF_some nd hq] at hx
      exact hv q hq x (mem_sd.mp hx)
    · rw [rowsF_none hm] at hx
      rw [(mem_unl.mp hx).2]
      exact hr
  out := fun r hr => rowsF_none fun hm => by
    obtain ⟨q, hq, rfl⟩ := List.mem_map.mp hm
    exact hr (hk q hq)
/-- the dict of lists while it is being filled: its keys among ks -/
structure DrE (ws ks : List Str) (H : Hp) (d : Addr) (es : List RowE) : Prop where
  dc : H d = some (.dK (es.map entR))
  nd : (es.map (·.1)).Nodup
  ks : ∀ e ∈ es, e.1 ∈ ks
  vals : ∀ e ∈ es, H e.2.1 = some (.lst (e.2.2.map V.str)) ∧ (∀ x ∈ e.2.2, x ∈ ws) ∧ e.2.2.length ≤ 60
theorem DrE.keeps {ws ks : List Str} {H H' : Hp} {d : Addr} {es : List RowE} (s : Keeps H H') (h : DrE ws ks H d es) : DrE ws ks H' d es :=
  ⟨s.k _ _ h.dc rfl, h.nd, h.ks, fun e he => ⟨s.k _ _ (h.vals e he).1 (noBag_strs _), (h.vals e he).2⟩⟩
theorem DrE.len {ws ks : List Str} {H : Hp} {d : Addr} {es : List RowE} (h : DrE ws ks H d es) : es.length ≤ ks.length := by
  rw [← List.length_map (f := (·.1)) (as := es)]
  refine nodup_len h.nd fun x hx => ?_
  obtain ⟨e, he, rfl⟩ := List.mem_map.mp hx
  exact h.ks e he
/-- one more key -/
theorem DrE.put {ws ks ks' : List Str} {H : Hp} {d v : Addr} {es : List RowE} {r : Str} {ys : List Str} (h : DrE ws ks H d es) (hr : r ∉ ks) (hr' : r ∈ ks') (hk : ∀ k ∈ ks, k ∈ ks') (hv : H v = some (.lst (ys.map V.str))) (hy : ∀ x ∈ ys, x ∈ ws) (hz : ys.length ≤ 60) :
    DrE ws ks' (upd H d (.dK (putK (es.map entR) (Sum.inr r) (.ref v)))) d (es ++ [(r, v, ys)]) := by
  have hn : r ∉ es.map (·.1) := fun hm => by
    obtain ⟨e, he, rfl⟩ := List.mem_map.mp hm
    exact hr (h.ks e he)
  refine ⟨by rw [upd_same, ← put_ent (e := (r, v, ys)) hn], ?_, ?_, ?_⟩
  · rw [List.map_append, List.nodup_append]
    refine ⟨h.nd, by simp, fun a ha b hb => ?_⟩
    rw [List.mem_singleton.mp hb]
    intro e
    have e : a = r := e
    exact hn (e ▸ ha)
  · intro e he
    rcases List.mem_append.mp he with he | he
    · exact hk _ (h.ks e he)
    · rw [List.mem_singleton.mp he]
      exact hr'
  · intro e he
    rcases List.mem_append.mp he with he | he
    · obtain ⟨v1, v2⟩ := h.vals e he
      exact ⟨by rw [upd_ne (ne_of v1 h.dc (by intro z; cases z))]; exact v1, v2⟩
    · rw [List.mem_singleton.mp he]
      exact ⟨by rw [upd_ne (ne_of hv h.dc (by intro z; cases z))]; exact hv, hy, hz⟩
theorem DrE.law {ws ks : List Str} {H : Hp} {d q : Addr} {es : List RowE} {rb : Bool} (h : DrE ws ks H d es) (hk : ∀ k ∈ ks, k ∈ ws) (hq : H q = some (.tup [.bl rb, .ref d])) : LawE ws H q ⟨rb, rowsF rb (es.map rowR)⟩ d es ∧ Ca.Ok ws ⟨rb, rowsF rb (es.map rowR)⟩ := by
  have e0 : (es.map rowR).map (·.1) = es.map (·.1) := by
    rw [List.map_map]
    rfl
  have nd : ((es.map rowR).map (·.1)).Nodup := e0.symm ▸ h.nd
  refine ⟨⟨hq, h.dc, h.nd, fun e he => ⟨(h.vals e he).1, rowsF_some (q := rowR e) nd (List.mem_map.mpr ⟨e, he, rfl⟩), (h.vals e he).2.2⟩, fun e he => hk _ (h.ks e he), fun r hr => rowsF_none (by rw [e0]; exact hr)⟩, ?_⟩
  refine rowsF_ok nd (fun r hr => ?_) fun r hr => ?_
  · obtain ⟨e, he, rfl⟩ := List.mem_map.mp hr
    exact hk _ (h.ks e he)
  · obtain ⟨e, he, rfl⟩ := List.mem_map.mp hr
    exact (h.vals e he).2.1
abbrev nDrawn : List Str := ["_law_bag_here", "_law_words", "_law_rest", "_law_found", "_law_rule", "_law_way", "_law_some", "_law_word"]
theorem scDrawn : FnScope nDrawn ["_law_bag_here", "_law_words"] (defScope lDrawn) := ⟨rfl, rfl, rfl, by decide +kernel, rfl, by decide +kernel, by decide +kernel⟩
theorem ok_drawn {f fT : Addr} {fd fdT : FuncData} (F : L2.Fun K "_law_drawn_carry" "_law_drawn_carry" lDrawn f fd) (T : Txt K mg C p g)
    (GT : FnOk P w K mg base CX0 1 fT fdT ["_law_bag_here", "_law_many"] spTake) (kT : PySem.W.keepIn K (.ref fT) = true) (bT : Binds K fdT ["_law_bag_here", "_law_many"] []) (gT : mg "_law_take" = some (.ref fT)) :
    FnOk P w K mg base CX0 2 f fd ["_law_bag_here", "_law_words"] spDrawn := by
  refine F.ok scDrawn (fun vs H Q E h => ?_) (fun cdv A outer s H vs Q E hr h => ?_)
  · obtain ⟨b, l, a, ws, rfl, _⟩ := h
    rfl
  · obtain ⟨b, l, a, ws, rfl, hB, ha, wl, k⟩ := h
    have hu := hu_of hr
    refine ⟨_, pss_cons (ps_par (i := 2) (j := 3) rfl scDrawn.nd rfl rfl (by decide) rfl rfl (pa_cons (pe_cmpR op_eq (pe_call GT hr rfl gT kT bT .nil pass0 (pa_cons (pv 0) (pa_cons pe_int pa_nil))) pe_int (nomark _)) (pa_cons pe_dnewK pa_nil)) rfl)
      (pss_cons (ps_for PassesOwn.never rfl (pi_list (pv 1)) (pg_name (i := 4) scDrawn.nd rfl (Or.inl rfl))
        (pss_one (ps_if (pt_cmpR op_gt (pe_call GT hr rfl gT kT bT .nil pass0 (pa_cons (pv 0) (pa_cons pe_int pa_nil))) pe_int (nomark _))
          (pss_cons (ps_set (i := 5) scDrawn.nd rfl (Or.inl rfl) (pe_call GT hr rfl gT kT bT .nil pass0 (pa_cons (pv 0) (pa_cons pe_int pa_nil))))
          (Evl.pss_cut (ps_setLc (i := 6) (own := [("_law_word", 7)]) (g := gName 7) (by rfl) scDrawn.nd rfl rfl (sw_true rfl rfl rfl (by decide +kernel)) (pi_list (pv 1))
            (blkOk_by (own := [("_law_word", 7)]) (N := nDrawn) (sc := defScope lDrawn) (by decide +kernel))
            (fun _ _ _ _ _ => pg_name (i := 7) scDrawn.nd rfl (Or.inl rfl)) (fun _ _ _ _ _ => pts_one (pt_cmpR op_eq (pe_call GT hr rfl gT kT bT .nil pass0 (pa_cons (pv 0) (pa_cons pe_int pa_nil))) pe_int (nomark _)))
            (fun _ _ _ _ _ => pv 7))
          (pss_one (ps_dput hu (pv 3) (pv 4) (pe_ix ix_list (pe_lst (pa_cons (pv 6) (pa_cons (pv 6) (pa_cons (pe_lst (pa_cons (pv 4) pa_nil)) (pa_cons (pe_lst pa_nil) (pa_cons (pe_op op_cat (pv 6) (pe_slice sl_list (pv 6) po_none (po_some pe_int))) pa_nil)))))) (pv 5) (fun _ _ => rfl)) rfl))))
          pss_nil)))
      (pss_one (ps_ret (pe_tup (pa_cons (pv 2) (pa_cons (pv 3) pa_nil)))))), ?_⟩
    refine ⟨_, rfl, b, l, 2, rfl, hB, by decide, by decide, fun n H2 n0 n1 k2 B2 => ⟨rfl, fun d hd => ⟨_, _, rfl, ?_⟩⟩⟩
    generalize decide (V.int n = V.int 0) = rb
    have kd := k2.then (Same.new (o := .dK []) hd)
    have hdn : H d = none := k2.free d hd
    have Bd := B2.same (Same.new (o := .dK []) hd)
    have hd1 : (upd H2 d (.dK [])) d = some (.dK (([] : List RowE).map entR)) := upd_same
    generalize upd H2 d (.dK []) = H3 at kd Bd hd1 ⊢
    have ha3 : H3 a = some (.lst (ws.map V.str)) := kd.k _ _ ha (noBag_strs _)
    refine ⟨_, rfl, a, rfl, ⟨_, .of ha3⟩, ?_⟩
    refine for_it (walk_list (K := K) (a := a) (xs := ws.map V.str)) (fun i σ H' => (∃ u4 u5 u6, σ = [some (.ref b), some (.ref a), some (.bl rb), some (.ref d), u4, u5, u6, none]) ∧ Keeps H H' ∧ BagAt H' b l ∧ ∃ es, DrE ws (ws.take i) H' d es ∧ ∀ e ∈ es, H e.2.1 = none)
      ⟨⟨_, _, _, rfl⟩, kd, Bd, [], ⟨hd1, List.nodup_nil, fun e he => (by cases he), fun e he => (by cases he)⟩, fun e he => (by cases he)⟩ (fun i σ H' _ h => .of (h.2.1.k _ _ ha (noBag_strs _))) ?_ ?_
    · rintro i v σ H4 H5 hi ⟨⟨u4, u5, u6, rfl⟩, t1, t2, es, t3, tn⟩ ⟨rfl, hv⟩
      obtain ⟨r, hr', rfl⟩ := map_get hv
      have hrw := List.mem_of_getElem? hr'
      have hmono : ∀ x ∈ ws.take i, x ∈ ws.take (i + 1) := fun x hx => by
        rw [take_snoc hr']
        exact List.mem_append_left _ hx
      have hrt : r ∈ ws.take (i + 1) := by
        rw [take_snoc hr']
        exact List.mem_append_right _ (List.mem_singleton.mpr rfl)
      refine ⟨_, rfl, b, l, 3, rfl, t2, by decide, by decide, fun n3 H6 _ _ k6 B6 => ⟨_, _, rfl, rfl, _, rfl, ite2 (fun _ => ?_) (fun _ => ?_)⟩⟩
      · refine ⟨_, rfl, b, l, 5, rfl, B6, by decide, by decide, fun way H7 y0 y1 k7 B7 => ?_⟩
        have t7 := (t1.trans k6).trans k7
        have d7 := (t3.keeps k6).keeps k7
        have ha7 := t7.k _ _ ha (noBag_strs _)
        refine ⟨fun σ' H' => ∃ sm xs, σ' = [some (.ref b), some (.ref a), some (.bl rb), some (.ref d), some (.str r), some (.int way), some (.ref sm), none] ∧ Keeps H7 H' ∧ BagAt H' b l ∧ H' sm = some (.lst ((xs : List Str).map V.str)) ∧ (∀ x ∈ xs, x ∈ ws) ∧ xs.length ≤ 5 ∧ H sm = none, ?_, ?_⟩
        · refine ⟨_, rfl, a, rfl, ⟨_, .of ha7⟩, fun D hD => ?_⟩
          have hbD := B7.there hD
          refine lc_it (walk_list (K := K) (a := a) (xs := ws.map V.str)) (fun j H' => Keeps H7 H' ∧ BagAt H' b l ∧ ∃ xs, H' D = some (.lst ((xs : List Str).map V.str)) ∧ (∀ x ∈ xs, x ∈ ws) ∧ xs.length ≤ j)
            ⟨Same.keeps (Same.new hD), B7.same (Same.new hD), [], upd_same, fun x hx => (by cases hx), Nat.le_refl _⟩ (fun j H' _ h => .of (h.1.k _ _ ha7 (noBag_strs _))) ?_ ?_
          · rintro j v H8 H9 hj ⟨w1, w2, xs, w3, w4, w5⟩ ⟨rfl, hv⟩
            obtain ⟨z, hz, rfl⟩ := map_get hv
            refine ⟨rfl, ?_⟩
            refine ⟨_, rfl, b, l, 3, rfl, w2, by decide, by decide, fun n H10 _ _ k10 B10 => ⟨rfl, _, rfl, ite2 (fun _ => ?_) (fun _ => ?_)⟩⟩
            · refine ⟨_, rfl, _, k10.k _ _ w3 (noBag_strs _), ?_, (w1.trans k10).upd_new hD, B10.upd hbD, xs ++ [z], ?_, ?_, ?_⟩
              · rw [List.length_map, sizeLine_eq]
                rw [List.length_map] at hj
                have := wl.n
                omega
              · rw [upd_same, List.map_append]
                rfl
              · intro x hx
                rcases List.mem_append.mp hx with hx | hx
                · exact w4 x hx
                · rw [List.mem_singleton.mp hx]
                  exact List.mem_of_getElem? hz
              · rw [List.length_append]
                show xs.length + 1 ≤ _
                omega
            · exact ⟨w1.trans k10, B10, xs, k10.k _ _ w3 (noBag_strs _), w4, by omega⟩
          · rintro H8 ⟨w1, w2, xs, w3, w4, w5⟩
            rw [List.length_map, wl.n] at w5
            exact ⟨D, xs, rfl, w1, w2, w3, w4, w5, t7.free _ hD⟩
        · rintro σ' H8 ⟨sm, xs, rfl, w1, w2, w3, w4, w5, w6⟩
          obtain ⟨cs, hcs, hcs1, hcs2⟩ : ∃ cs : List Str, cutV (xs.map V.str) none (some 1) = cs.map V.str ∧ (∀ x ∈ cs, x ∈ ws) ∧ cs.length ≤ 5 := by
            refine ⟨_, cutV_map _ _ _, fun x hx => w4 x (List.mem_of_mem_drop (List.mem_of_mem_take hx)), ?_⟩
            rw [List.length_take, List.length_drop]
            omega
          refine ⟨_, rfl, _, rfl, _, rfl, by show 1 ≤ sizeLine; decide, fun l3 hl3 => ⟨by decide, fun l4 hl4 => ?_⟩⟩
          have s3 : Same H8 _ := Same.new (o := .lst [.str r]) hl3
          have s4 := s3.trans (Same.new (o := .lst []) hl4)
          refine ⟨_, rfl, _, rfl, 1, rfl, sm, _, rfl, .of (s4 _ _ w3), fun l5 hl5 => ?_⟩
          have s5 := s4.trans (Same.new (o := .lst (cutV (xs.map V.str) none (some 1))) hl5)
          refine ⟨sm, l5, _, _, rfl, rfl, s5 _ _ w3, upd_same, ?_, fun l6 hl6 => ⟨by show 5 ≤ sizeLine; decide, fun l7 hl7 => ?_⟩⟩
          · rw [hcs, List.length_map, List.length_map, sizeLine_eq]
            omega
          have s6 := Same.new (o := .lst (xs.map V.str ++ cutV (xs.map V.str) none (some 1))) hl6
          have s7 := Same.new (o := .lst [.ref sm, .ref sm, .ref l3, .ref l4, .ref l6]) hl7
          have s57 := (Same.new (o := .lst (cutV (xs.map V.str) none (some 1))) hl5).trans (s6.trans s7)
          have s47 := (Same.new (o := .lst []) hl4).trans s57
          have s37 := s3.trans s47
          have t8 := t7.trans w1
          obtain ⟨v, ys, h1, h2, h3, h4, hvn⟩ : ∃ v ys, atI [V.ref sm, .ref sm, .ref l3, .ref l4, .ref l6] way = some (.ref v) ∧ (upd (upd (upd (upd (upd H8 l3 (.lst [.str r])) l4 (.lst [])) l5 (.lst (cutV (xs.map V.str) none (some 1)))) l6 (.lst (xs.map V.str ++ cutV (xs.map V.str) none (some 1)))) l7 (.lst [.ref sm, .ref sm, .ref l3, .ref l4, .ref l6])) v = some (.lst ((ys : List Str).map V.str)) ∧ (∀ x ∈ ys, x ∈ ws) ∧ ys.length ≤ 60 ∧ H v = none := by
            have : way = 0 ∨ way = 1 ∨ way = 2 ∨ way = 3 ∨ way = 4 := by omega
            rcases this with e | e | e | e | e <;> subst e
            · exact ⟨sm, xs, rfl, s37 _ _ w3, w4, by omega, w6⟩
            · exact ⟨sm, xs, rfl, s37 _ _ w3, w4, by omega, w6⟩
            · exact ⟨l3, [r], rfl, s47 _ _ upd_same, fun x hx => by rw [List.mem_singleton.mp hx]; exact hrw, (by show 1 ≤ 60; decide), t8.free _ hl3⟩
            · exact ⟨l4, [], rfl, s57 _ _ upd_same, fun x hx => (by cases hx), by decide, t8.free _ (s3.free hl4)⟩
            · refine ⟨l6, xs ++ cs, rfl, ?_, ?_, ?_, t8.free _ (s5.free hl6)⟩
              · rw [s7 _ _ upd_same, hcs, List.map_append]
              · intro x hx
                exact (List.mem_append.mp hx).elim (w4 x) (hcs1 x)
              · rw [List.length_append]
                omega
          have d8 := (d7.keeps w1).keeps (Same.keeps s37)
          refine ⟨_, rfl, l7, _, way, _, rfl, rfl, .of upd_same, h1, _, rfl, _, rfl, d, _, rfl, DPut.k (k := Sum.inr r) d8.dc ?_, ⟨_, _, _, rfl⟩, ?_, ?_, _, d8.put (nodup_at wl.nd hr') hrt hmono h2 h3 h4, ?_⟩
          · rw [List.length_map, sizeLine_eq]
            have := t3.len
            have := List.length_take_le' i ws
            have := wl.n
            omega
          · exact ((t7.trans w1).then s37).upd_new hdn
          · exact (w2.same s37).upd (hB.there hdn)
          · intro e he
            rcases List.mem_append.mp he with he | he
            · exact tn e he
            · rw [List.mem_singleton.mp he]
              exact hvn
      · exact ⟨⟨_, _, _, rfl⟩, t1.trans k6, B6, es, ⟨(t3.keeps k6).dc, t3.nd, fun e he => hmono _ (t3.ks e he), (t3.keeps k6).vals⟩, tn⟩
    · rintro σ H4 ⟨⟨u4, u5, u6, rfl⟩, t1, t2, es, t3, tn⟩
      refine ⟨_, rfl, _, rfl, by show 2 ≤ sizeLine; decide, fun q hq => ?_⟩
      obtain ⟨L, ok⟩ := (t3.keeps (Same.keeps (Same.new (o := .tup [.bl rb, .ref d]) hq))).law (fun x hx => List.mem_of_mem_take hx) upd_same
      exact k q _ d es _ (t1.then (Same.new hq)) (t2.same (Same.new hq)) (t1.free _ hq) hdn tn L ok
end
end VC
set_option Elab.async false
set_option linter.all false
set_option maxRecDepth 100000
set_option maxHeartbeats 4000000
/-! The law's own reckoning: _law_carry_rows, _law_product, _law_joint, _law_is_within. -/
namespace VC
open PySem PySem.Spec PyProof.Rows L2
section
variable {P : Program} {w : World} {K : PySem.W.Frag} {mg : Str → Option Value} {base : Heap} {C p g : Addr}
def spLRows : Sp := fun vs H Q _ => ∃ q c ws, vs = [V.ref q] ∧ LawAt ws H q c ∧ c.Ok ws ∧ WsOk ws ∧ ∀ l us H', Same H H' → H l = none → H' l = some (.lst us) → Paired (RowV H') us (rowsC ws c) → Q (.ref l) H'
theorem scLRows : FnScope ["_law_carry", "_law_rest", "_law_listed", "_law_some", "_law_rule", "_law_rules"] ["_law_carry"] (defScope lRows) := ⟨rfl, rfl, rfl, by decide +kernel, rfl, by decide +kernel, by decide +kernel⟩
theorem RowV.same {H H' : Hp} {v : V} {r : Str × List Str} (s : Same H H') (h : RowV H v r) : RowV H' v r := by
  obtain ⟨t, q, e, h1, h2⟩ := h
  exact ⟨t, q, e, s _ _ h1, s _ _ h2⟩
/-- a row, apart from the list R that is being built -/
theorem RowV.updl {H H' : Hp} {R : Addr} {us xs : List V} {v : V} {r : Str × List Str} (s : Same H H') (hR : H R = some (.lst us)) (h : RowV H v r) : RowV (upd H' R (.lst xs)) v r := by
  obtain ⟨t, q, e, h1, h2⟩ := h
  exact ⟨t, q, e, by rw [upd_ne (ne_of h1 hR (by intro z; cases z))]; exact s _ _ h1, by rw [upd_ne (ne_of h2 hR (by intro z; cases z))]; exact s _ _ h2⟩
theorem ok_lrows {f fC : Addr} {fd fdC : FuncData} (F : L2.Fun K "_law_carry_rows" "_law_carry_rows" lRows f fd) (T : Txt K mg C p g)
    (GC : FnOk P w K mg base CX0 1 fC fdC ["_law_carry", "_law_rule"] spCarries) (kC : PySem.W.keepIn K (.ref fC) = true) (bC : Binds K fdC ["_law_carry", "_law_rule"] []) (gC : mg "_law_carries" = some (.ref fC)) :
    FnOk P w K mg base CX0 2 f fd ["_law_carry"] spLRows := by
  refine F.ok scLRows (fun vs H Q E h => ?_) (fun cdv A outer s H vs Q E hr h => ?_)
  · obtain ⟨q, c, ws, rfl, _⟩ := h
    rfl
  · obtain ⟨q, c, ws, rfl, la, ok, wok, k⟩ := h
    refine ⟨_, pss_cons (ps_asg (pv 0) (pg_tup rfl (pgs_cons (pg_name (i := 1) scLRows.nd rfl (Or.inr rfl)) (pgs_cons (pg_name (i := 2) scLRows.nd rfl (Or.inl rfl)) pgs_nil))))
      (Evl.pss_cut (ps_setLc (i := 3) (own := [("_law_rule", 4)]) (g := gName 4) (tt := tYes) (by rfl) scLRows.nd rfl rfl (sw_true rfl rfl rfl (by decide +kernel)) (pi_list (pe_callB (call_sortedD rfl) (by rfl) T.sorted (by decide +kernel) (pa_cons (pv 2) pa_nil)))
          (blkOk_by (own := [("_law_rule", 4)]) (N := ["_law_carry", "_law_rest", "_law_listed", "_law_some", "_law_rule", "_law_rules"]) (sc := defScope lRows) (by decide +kernel))
          (fun _ _ _ _ _ => pg_name (i := 4) scLRows.nd rfl (Or.inl rfl)) (fun _ _ _ _ _ => pts_nil)
          (fun _ _ _ _ _ => pe_tup (pa_cons (pv 4) (pa_cons (pe_callTy (T := "tuple") (k_tupOf (K := K) rfl) (by rfl) T.tuple (by decide +kernel) (pa_cons (pe_call GC hr rfl gC kC bC .nil pass0 (pa_cons (pv 0) (pa_cons (pv 4) pa_nil))) pa_nil)) pa_nil))))
      (pss_one (ps_ret (pe_lc (own := [("_law_rule", 4), ("_law_rules", 5)]) (g := gTup K 2 (gCons (gName 4) (gCons (gName 5) gNil))) (by rfl) scLRows.nd (pi_list (pv 3))
          (blkOk_by (own := [("_law_rule", 4), ("_law_rules", 5)]) (N := ["_law_carry", "_law_rest", "_law_listed", "_law_some", "_law_rule", "_law_rules"]) (sc := defScope lRows) (by decide +kernel))
          (fun _ _ _ _ _ => pg_tup rfl (pgs_cons (pg_name (i := 4) scLRows.nd rfl (Or.inl rfl)) (pgs_cons (pg_name (i := 5) scLRows.nd rfl (Or.inl rfl)) pgs_nil)))
          (fun _ _ _ _ _ => pts_one (pt_cmpR (k_neD (K := K) hr.units rfl) (pv 5) (pe_op (k_rep01 (K := K) rfl) (pe_tup (pa_cons (pv 4) pa_nil)) (pe_callTy (T := "int") call_int1 (by rfl) T.int (by decide +kernel) (pa_cons (pv 1) pa_nil))) (nomark _)))
          (fun _ _ _ _ _ => pe_tup (pa_cons (pv 4) (pa_cons (pv 5) pa_nil))))))), ?_⟩
    have ⟨d, es, L⟩ := la
    have hel : es.length ≤ 7 := Nat.le_trans L.len wok.n
    refine ⟨_, rfl, q, _, rfl, .of L.ob, rfl, _, _, rfl, _, _, rfl, rfl, ?_⟩
    have hks : (es.map entR).map (·.1) = (es.map (·.1)).map Sum.inr := keys_ent es
    refine ⟨fun σ' H' => ∃ s3 us ks, σ' = [some (.ref q), some (.bl c.rest), some (.ref d), some (.ref s3), none, none] ∧ Same H H' ∧ H' s3 = some (.lst us) ∧ Up (ks : List Str) ∧ (∀ x, x ∈ ks ↔ x ∈ es.map (·.1)) ∧ Paired (RowV H') us (ks.map fun r => (r, c.f r)), ?_, ?_⟩
    · refine ⟨_, rfl, d, _, _, rfl, .of L.dc, hks, by rw [List.length_map]; omega, fun ks s1 pm hs hn => ⟨s1, rfl, ⟨_, .of upd_same⟩, fun D hD => ?_⟩⟩
      have hup : Up ks := sortedS_up hs (pm.nodup_iff.mpr L.nd)
      have hkl : ks.length ≤ 7 := by rw [pm.length_eq, List.length_map]; exact hel
      have v1 : Same H _ := Same.new (o := .lst (ks.map V.str)) hn
      have hsD : s1 ≠ D := ne_of_none upd_same hD
      have hDn := v1.free hD
      refine lc_it (walk_list (K := K) (a := s1) (xs := ks.map V.str)) (fun i H' => Same H H' ∧ H' s1 = some (.lst (ks.map V.str)) ∧ ∃ us, H' D = some (.lst us) ∧ Paired (RowV H') us ((ks.take i).map fun r => (r, c.f r)))
        ⟨v1.trans (Same.new hD), by rw [upd_ne hsD]; exact upd_same, [], upd_same, .nil⟩ (fun i H' _ h => .of h.2.1) ?_ ?_
      · rintro i v H1 H2 hi ⟨t1, t2, us, t3, t4⟩ ⟨rfl, hv⟩
        obtain ⟨r, hr', rfl⟩ := map_get hv
        refine ⟨rfl, ?_⟩
        refine ⟨_, rfl, _, rfl, _, rfl, q, r, c, ws, rfl, la.same t1, fun l H3 s3 hl hl3 => ⟨l, _, rfl, .inl ⟨.of hl3, fun z hz => ?_⟩⟩⟩
        have s4 := s3.trans (Same.new (o := .tup ((c.f r).map V.str)) hz)
        refine ⟨by show 2 ≤ sizeLine; decide, fun t ht => ?_⟩
        have s5 := s4.trans (Same.new (o := .tup [.str r, .ref z]) ht)
        have htD : t ≠ D := fun e => by
          subst e
          rw [s4 _ _ t3] at ht
          cases ht
        have hzD : z ≠ D := fun e => by
          subst e
          rw [s3 _ _ t3] at hz
          cases hz
        refine ⟨us, s5 _ _ t3, ?_, Same.upd_new (t1.trans s5) hDn, ?_, us ++ [.ref t], upd_same, ?_⟩
        · have h1 := paired_len t4
          rw [List.length_map] at h1
          have h2 := List.length_take_le' i ks
          rw [sizeLine_eq]
          omega
        · rw [upd_ne hsD]
          exact s5 _ _ t2
        · rw [take_snoc hr', List.map_append]
          refine paired_snoc ⟨t, z, rfl, ?_, ?_⟩ (Paired.mapP t4 fun v q h => h.updl s5 t3)
          · rw [upd_ne htD]
            exact upd_same
          · rw [upd_ne hzD, upd_ne (ne_of_none upd_same ht)]
            exact upd_same
      · rintro H1 ⟨t1, t2, us, t3, t4⟩
        rw [List.length_map, List.take_length] at t4
        exact ⟨D, us, ks, rfl, t1, t3, hup, fun x => pm.mem_iff, t4⟩
    · rintro σ' H1 ⟨s3, us, ks, rfl, t1, t2, hup, hmem, t3⟩
      have hkl : ks.length ≤ 7 := Nat.le_trans (nodup_len hup.nodup fun x hx => by
        obtain ⟨e, he, rfl⟩ := List.mem_map.mp ((hmem x).mp hx)
        exact L.ins e he) wok.n
      have hkw : ∀ k ∈ ks, k ∈ ws := fun k hk => by
        obtain ⟨e, he, rfl⟩ := List.mem_map.mp ((hmem k).mp hk)
        exact L.ins e he
      have hul := paired_len t3
      rw [List.length_map] at hul
      refine ⟨_, rfl, s3, rfl, ⟨_, .of t2⟩, fun D hD => ?_⟩
      have hDn := t1.free hD
      refine lc_it (walk_list (K := K) (a := s3) (xs := us)) (fun i H' => Same H1 H' ∧ ∃ vs, H' D = some (.lst vs) ∧ vs.length ≤ i ∧ Paired (RowV H') vs (((ks.take i).filter fun r => decide (c.f r ≠ unl c.rest r)).map fun r => (r, c.f r)))
        ⟨Same.new hD, [], upd_same, Nat.le_refl _, .nil⟩ (fun i H' _ h => .of (h.1 _ _ t2)) ?_ ?_
      · rintro i v H2 H3 hi ⟨u1, vs, u2, u3, u4⟩ ⟨rfl, hv⟩
        obtain ⟨r', hr1, t, z, rfl, ht, hz⟩ := paired_get t3 hv
        obtain ⟨r, hr', rfl⟩ := map_get hr1
        have hrk := List.mem_of_getElem? hr'
        refine ⟨t, _, rfl, .of (u1 _ _ ht), rfl, _, _, rfl, _, _, rfl, rfl, rfl, ?_⟩
        refine ⟨_, rfl, _, rfl, by show 1 ≤ sizeLine; decide, fun y hy => ⟨_, rfl, .inr ⟨_, rfl, ?_⟩⟩⟩
        have s1 := Same.new (o := .tup [.str r]) hy
        have s1' : (upd H3 y (.tup [.str r])) y = some (.tup [.str r]) := upd_same
        -- what follows the product, at the tuple y2
        have go : ∀ (y2 : Addr) (H4 : Hp), Same H3 H4 → H4 y2 = some (.tup ((unl c.rest r).map V.str)) → rNeD K (.ref z) (.ref y2) H4 fun x H' => ∃ kb, x = .bl kb ∧
            (if kb = true then tTup (tCons (tVar 4) (tCons (tVar 5) tNil)) [some (V.ref q), some (V.bl c.rest), some (V.ref d), some (V.ref s3), some (V.str r), some (V.ref z)] H' fun y H6 => ∃ acc, H6 D = some (.lst acc) ∧ acc.length < sizeLine ∧ Same H1 (upd H6 D (.lst (acc ++ [y]))) ∧ ∃ vs, (upd H6 D (.lst (acc ++ [y]))) D = some (.lst vs) ∧ vs.length ≤ i + 1 ∧
              Paired (RowV (upd H6 D (.lst (acc ++ [y])))) vs (((ks.take (i + 1)).filter fun r => decide (c.f r ≠ unl c.rest r)).map fun r => (r, c.f r))
            else Same H1 H' ∧ ∃ vs, H' D = some (.lst vs) ∧ vs.length ≤ i + 1 ∧ Paired (RowV H') vs (((ks.take (i + 1)).filter fun r => decide (c.f r ≠ unl c.rest r)).map fun r => (r, c.f r))) := by
          intro y2 H4 s4 hy2
          have hzv : H4 z = some (.tup ((c.f r).map V.str)) := s4 _ _ (u1 _ _ hz)
          refine ⟨_, _, .tup (.of hzv) (dp_strs _), .tup (.of hy2) (dp_strs _), shaped_tup fun x hx => good_ok (wok.g x (ok.inn r (hkw r hrk) x hx)), shaped_tup fun x hx => ?_, _, rfl, ?_⟩
          · rw [(mem_unl.mp hx).2]
            exact good_ok (wok.g r (hkw r hrk))
          have e0 : (!PyData.eqv (.tuple ((c.f r).map PyData.str)) (.tuple ((unl c.rest r).map PyData.str))) = decide (c.f r ≠ unl c.rest r) := by
            rw [PyData.eqv, eqv_strs]
            by_cases z : c.f r = unl c.rest r <;> simp [z]
          rw [e0, take_snoc hr', List.filter_append]
          by_cases hne : c.f r ≠ unl c.rest r
          · refine iteP hne ?_
            refine ⟨_, rfl, _, rfl, by show 2 ≤ sizeLine; decide, fun t2' ht2 => ?_⟩
            have s5 := s4.trans (Same.new (o := .tup [.str r, .ref z]) ht2)
            have htD : t2' ≠ D := fun e => by
              subst e
              rw [s4 _ _ u2] at ht2
              cases ht2
            refine ⟨vs, s5 _ _ u2, by rw [sizeLine_eq]; omega, Same.upd_new (u1.trans s5) hD, vs ++ [.ref t2'], upd_same, by rw [List.length_append]; show vs.length + 1 ≤ _; omega, ?_⟩
            rw [List.filter_cons_of_pos (by simpa using hne), List.map_append]
            refine paired_snoc ⟨t2', z, rfl, ?_, ?_⟩ (Paired.mapP u4 fun v q h => h.updl s5 u2)
            · rw [upd_ne htD]
              exact upd_same
            · have hzD : z ≠ D := ne_of (u1 _ _ hz) u2 (by intro z; cases z)
              rw [upd_ne hzD]
              exact s5 _ _ (u1 _ _ hz)
          · refine iteNP hne ?_
            rw [List.filter_cons_of_neg (by simpa using hne)]
            refine ⟨u1.trans s4, vs, s4 _ _ u2, by omega, ?_⟩
            rw [show ([] : List Str).filter (fun r => decide (c.f r ≠ unl c.rest r)) = [] from rfl, List.append_nil]
            exact Paired.mapP u4 fun v q h => h.same s4
        refine ⟨y, _, _, rfl, rfl, .of upd_same, by simp, ?_⟩
        cases hcr : c.rest with
        | true =>
          refine .inl ⟨rfl, ?_⟩
          have := go y _ s1 (by rw [hcr]; exact s1')
          rw [hcr] at this
          exact this
        | false =>
          refine .inr ⟨rfl, fun y2 hy2 => ?_⟩
          have := go y2 _ (s1.trans (Same.new (o := .tup []) hy2)) (by rw [hcr]; exact upd_same)
          rw [hcr] at this
          exact this
      · rintro H2 ⟨u1, vs, u2, u3, u4⟩
        rw [hul, List.take_length] at u4
        refine k D vs H2 (t1.trans u1) hDn u2 ?_
        rw [rows_of ok (hup.filter _) fun x => ?_] at u4
        · exact u4
        · rw [List.mem_filter, decide_eq_true_iff, hmem]
          constructor
          · exact fun h => h.2
          · intro h
            exact ⟨Classical.byContradiction fun q => h (L.out x q), h⟩
end
end VC
set_option Elab.async false
set_option linter.all false
set_option maxRecDepth 100000
set_option maxHeartbeats 4000000
/-! The law's own reckoning: _law_product, _law_joint, _law_is_within. -/
namespace VC
open PySem PySem.Spec PyProof.Rows L2
/-- all but d as it was -/
def Exc (d : Addr) (H H' : Hp) : Prop := ∀ b o, H b = some o → b ≠ d → H' b = some o
theorem Exc.then {d : Addr} {H H1 H2 : Hp} (a : Exc d H H1) (s : Same H1 H2) : Exc d H H2 := fun b o e n => s _ _ (a b o e n)
theorem Exc.upd {d : Addr} {H H1 : Hp} {o : HO} (a : Exc d H H1) : Exc d H (upd H1 d o) := fun b u e n => by
  rw [upd_ne n]
  exact a b u e n
theorem last_val {es : List RowE} {r : Str} {v : Addr} {ys : List Str} (h : r ∉ es.map (·.1)) : valV ((es ++ [(r, v, ys)]).map entR) (Sum.inr r : L2.Key) = some (.ref v) := by
  rw [find_ent, List.find?_append, List.find?_eq_none.mpr fun e he => by simpa using fun z : e.1 = r => h (List.mem_map.mpr ⟨e, he, z⟩)]
  simp
theorem put_last {es : List RowE} {r : Str} {v v' : Addr} {ys zs : List Str} (h : r ∉ es.map (·.1)) : putK ((es ++ [(r, v, ys)]).map entR) (Sum.inr r : L2.Key) (.ref v') = (es ++ [(r, v', zs)]).map entR := by
  unfold putK
  have e1 : (((es ++ [(r, v, ys)]).map entR).any fun kv => decide (kv.1 = (Sum.inr r : L2.Key))) = true := by
    rw [List.map_append, List.any_append]
    simp [entR]
  rw [if_pos e1, List.map_map, List.map_append, List.map_append]
  congr 1
  · refine List.map_congr_left fun e he => ?_
    show (if (entR e).1 = (Sum.inr r : L2.Key) then ((entR e).1, V.ref v') else entR e) = entR e
    rw [if_neg]
    intro z
    exact h (List.mem_map.mpr ⟨e, he, Sum.inr.inj z⟩)
  · show [if (entR (r, v, ys)).1 = (Sum.inr r : L2.Key) then ((entR (r, v, ys)).1, V.ref v') else entR (r, v, ys)] = [entR (r, v', zs)]
    have e2 : (entR (r, v, ys)).1 = (Sum.inr r : L2.Key) := rfl
    rw [if_pos e2]
    rfl
theorem DrE.set_last {ws ks : List Str} {H : Hp} {d v v' : Addr} {es : List RowE} {r : Str} {ys zs : List Str} (h : DrE ws ks H d (es ++ [(r, v, ys)])) (hv : H v' = some (.lst (zs.map V.str))) (hy : ∀ x ∈ zs, x ∈ ws) (hz : zs.length ≤ 60) :
    DrE ws ks (upd H d (.dK (putK ((es ++ [(r, v, ys)]).map entR) (Sum.inr r) (.ref v')))) d (es ++ [(r, v', zs)]) := by
  have hn : r ∉ es.map (·.1) := fun hm => by
    have := h.nd
    rw [List.map_append, List.nodup_append] at this
    exact this.2.2 r hm r (List.mem_singleton.mpr rfl) rfl
  refine ⟨by rw [upd_same, put_last hn (zs := zs)], ?_, ?_, ?_⟩
  · have := h.nd
    rw [List.map_append] at this ⊢
    exact this
  · intro e he
    rcases List.mem_append.mp he with he | he
    · exact h.ks e (List.mem_append_left _ he)
    · rw [List.mem_singleton.mp he]
      exact h.ks (r, v, ys) (List.mem_append_right _ (List.mem_singleton.mpr rfl))
  · intro e he
    rcases List.mem_append.mp he with he | he
    · obtain ⟨v1, v2⟩ := h.vals e (List.mem_append_left _ he)
      exact ⟨by rw [upd_ne (ne_of v1 h.dc (by intro z; cases z))]; exact v1, v2⟩
    · rw [List.mem_singleton.mp he]
      exact ⟨by rw [upd_ne (ne_of hv h.dc (by intro z; cases z))]; exact hv, hy, hz⟩
theorem DrE.same {ws ks : List Str} {H H' : Hp} {d : Addr} {es : List RowE} (s : Same H H') (h : DrE ws ks H d es) : DrE ws ks H' d es := h.keeps (Same.keeps s)
theorem DrE.means {ws ks : List Str} {H : Hp} {d q : Addr} {es : List RowE} {c : Ca} (h : DrE ws ks H d es) (hk : ∀ k ∈ ks, k ∈ ws) (hq : H q = some (.tup [.bl c.rest, .ref d])) (h1 : ∀ e ∈ es, c.f e.1 = sd e.2.2) (h2 : ∀ r, r ∉ es.map (·.1) → c.f r = unl c.rest r) : LawAt ws H q c :=
  ⟨d, es, hq, h.dc, h.nd, fun e he => ⟨(h.vals e he).1, h1 e he, (h.vals e he).2.2⟩, fun e he => hk _ (h.ks e he), h2⟩
section
variable {P : Program} {w : World} {K : PySem.W.Frag} {mg : Str → Option Value} {base : Heap} {C p g : Addr}
def spLOp (op : Ca → Ca → Ca) : Sp := fun vs H Q _ => ∃ x y a c1 c2 ws, vs = [V.ref x, .ref y, .ref a] ∧ LawAt ws H x c1 ∧ LawAt ws H y c2 ∧ c1.Ok ws ∧ c2.Ok ws ∧ WsLaw ws ∧ H a = some (.lst ((ws : List Str).map V.str)) ∧
  ∀ q H', Same H H' → H q = none → LawAt ws H' q (op c1 c2) → Q (.ref q) H'
abbrev nProd : List Str := ["_law_one", "_law_other", "_law_words", "_law_found", "_law_rule", "_law_middle"]
theorem scProd : FnScope nProd ["_law_one", "_law_other", "_law_words"] (defScope lProd) := ⟨rfl, rfl, rfl, by decide +kernel, rfl, by decide +kernel, by decide +kernel⟩
theorem ok_lprod {f fC : Addr} {fd fdC : FuncData} (F : L2.Fun K "_law_product" "_law_product" lProd f fd) (T : Txt K mg C p g)
    (GC : FnOk P w K mg base CX0 1 fC fdC ["_law_carry", "_law_rule"] spCarries) (kC : PySem.W.keepIn K (.ref fC) = true) (bC : Binds K fdC ["_law_carry", "_law_rule"] []) (gC : mg "_law_carries" = some (.ref fC)) :
    FnOk P w K mg base CX0 2 f fd ["_law_one", "_law_other", "_law_words"] (spLOp mulC) := by
  refine F.ok scProd (fun vs H Q E h => ?_) (fun cdv A outer s H vs Q E hr h => ?_)
  · obtain ⟨x, y, a, c1, c2, ws, rfl, _⟩ := h
    rfl
  · obtain ⟨x, y, a, c1, c2, ws, rfl, lx, ly, o1, o2, wl, ha, k⟩ := h
    have hu := hu_of hr
    refine ⟨_, pss_cons (ps_set (i := 3) scProd.nd rfl (Or.inl rfl) pe_dnewK)
      (pss_cons (ps_for PassesOwn.never rfl (pi_list (pv 2)) (pg_name (i := 4) scProd.nd rfl (Or.inl rfl))
        (pss_cons (ps_dput hu (pv 3) (pv 4) (pe_lst pa_nil) rfl)
        (pss_one (ps_for PassesOwn.never rfl (pi_list (pe_call GC hr rfl gC kC bC .nil pass0 (pa_cons (pv 0) (pa_cons (pv 4) pa_nil)))) (pg_name (i := 5) scProd.nd rfl (Or.inl rfl))
          (pss_one (ps_dput hu (pv 3) (pv 4) (pe_op op_cat (pe_dget hu (pv 3) (pv 4) (fun _ _ => rfl)) (pe_call GC hr rfl gC kC bC .nil pass0 (pa_cons (pv 1) (pa_cons (pv 5) pa_nil)))) rfl))))))
      (pss_one (ps_ret (pe_tup (pa_cons (pe_and (pe_ix ix_tup (pv 0) pe_int (fun _ _ => rfl)) (pe_one (pe_ix ix_tup (pv 1) pe_int (fun _ _ => rfl)))) (pa_cons (pv 3) pa_nil)))))), ?_⟩
    refine fun d hd => ?_
    have s0 : Same H _ := Same.new (o := .dK []) hd
    have wok := wl.ok
    refine ⟨_, rfl, a, rfl, ⟨_, .of (s0 _ _ ha)⟩, ?_⟩
    refine for_it (walk_list (K := K) (a := a) (xs := ws.map V.str)) (fun i σ H' => (∃ u4 u5, σ = [some (.ref x), some (.ref y), some (.ref a), some (.ref d), u4, u5]) ∧ Same H H' ∧ ∃ es, DrE ws (ws.take i) H' d es ∧ es.map rowR = (ws.take i).map fun k => (k, (c1.f k).flatMap c2.f))
      ⟨⟨_, _, rfl⟩, s0, [], ⟨upd_same, List.nodup_nil, fun e he => (by cases he), fun e he => (by cases he)⟩, rfl⟩ (fun i σ H' _ h => .of (h.2.1 _ _ ha)) ?_ ?_
    · rintro i v σ H1 H2 hi ⟨⟨u4, u5, rfl⟩, t1, es, t2, t3⟩ ⟨rfl, hv⟩
      obtain ⟨r, hr', rfl⟩ := map_get hv
      have hrw := List.mem_of_getElem? hr'
      have hmono : ∀ x ∈ ws.take i, x ∈ ws.take (i + 1) := fun x hx => by
        rw [take_snoc hr']
        exact List.mem_append_left _ hx
      have hrt : r ∈ ws.take (i + 1) := by
        rw [take_snoc hr']
        exact List.mem_append_right _ (List.mem_singleton.mpr rfl)
      have hnew := nodup_at wl.nd hr'
      have hesl : es.length ≤ 5 := by
        have := t2.len
        have := List.length_take_le' i ws
        have := wl.n
        omega
      refine ⟨by decide, fun v hv => ?_⟩
      have s3 := Same.new (o := .lst []) hv
      have t2' := t2.same s3
      refine ⟨_, rfl, _, rfl, d, _, rfl, DPut.k (k := Sum.inr r) t2'.dc (by rw [List.length_map, sizeLine_eq]; omega), ?_⟩
      have d3 := t2'.put (ys := []) hnew hrt hmono upd_same (fun x hx => (by cases hx)) (by decide)
      have t4 := Same.upd_new (o := .dK (putK (es.map entR) (Sum.inr r) (.ref v))) (t1.trans s3) hd
      generalize upd (upd H2 v (.lst [])) d (.dK (putK (es.map entR) (Sum.inr r) (.ref v))) = H3 at d3 t4 ⊢
      refine ⟨_, rfl, _, rfl, x, r, c1, ws, rfl, lx.same t4, fun la H4 s4 hla hla4 => ⟨la, rfl, ⟨_, .of hla4⟩, ?_⟩⟩
      have d4 := d3.same s4
      have t5 := t4.trans s4
      have hlad : la ≠ d := ne_of hla4 d4.dc (by intro z; cases z)
      refine for_it (walk_list (K := K) (a := la) (xs := (c1.f r).map V.str)) (fun j σ H' => (∃ u5, σ = [some (.ref x), some (.ref y), some (.ref a), some (.ref d), some (.str r), u5]) ∧ Same H H' ∧ Exc d H4 H' ∧ ∃ v, DrE ws (ws.take (i + 1)) H' d (es ++ [(r, v, ((c1.f r).take j).flatMap c2.f)]))
        ⟨⟨_, rfl⟩, t5, fun b o e _ => e, v, d4⟩ (fun j σ H' _ h => .of (h.2.2.1 _ _ hla4 hlad)) ?_ ?_
      · rintro j v1 σ H5 H6 hj ⟨⟨u5', rfl⟩, w1, w2, v2, w3⟩ ⟨rfl, hv1⟩
        obtain ⟨m, hm, rfl⟩ := map_get hv1
        have hn : r ∉ es.map (·.1) := fun hmm => by
          obtain ⟨e, he, e2⟩ := List.mem_map.mp hmm
          exact hnew (e2 ▸ t2.ks e he)
        have hv2 := (w3.vals _ (List.mem_append_right _ (List.mem_singleton.mpr rfl))).1
        have hg : DGet H6 d (.str r) (some (.ref v2)) := by
          have := DGet.k (k := (Sum.inr r : L2.Key)) w3.dc
          rw [last_val hn] at this
          exact this
        refine ⟨_, rfl, _, rfl, d, _, rfl, hg, ?_⟩
        refine ⟨_, rfl, _, rfl, y, m, c2, ws, rfl, ly.same w1, fun lb H7 s7 hlb hlb7 => ?_⟩
        have hfl : ∀ j', ((((c1.f r).take j').flatMap c2.f).length ≤ 49) := fun j' => by
          have h1 := flat_len (l := (c1.f r).take j') (f := c2.f) (m := 7) fun z hz => Nat.le_trans (f_len o2 (o1.inn r hrw z (List.mem_of_mem_take hz))) wok.n
          have h2 := List.length_take_le' j' (c1.f r)
          have h3 := f_len o1 hrw
          have h4 := wok.n
          have h5 : ((c1.f r).take j').length * 7 ≤ 7 * 7 := Nat.mul_le_mul_right _ (by omega)
          omega
        refine ⟨v2, lb, _, _, rfl, rfl, s7 _ _ hv2, hlb7, ?_, fun v3 hv3 => ?_⟩
        · have := hfl j
          have := f_len1 o2 m
          have := wok.n
          rw [List.length_map, List.length_map, sizeLine_eq]
          show (((c1.f r).take j).flatMap c2.f).length + (c2.f m).length ≤ _
          omega
        have s8 := s7.trans (Same.new (o := .lst ((((c1.f r).take j).flatMap c2.f).map V.str ++ (c2.f m).map V.str)) hv3)
        have w4 := w3.same s8
        refine ⟨_, rfl, _, rfl, d, _, rfl, DPut.k (k := Sum.inr r) w4.dc (by rw [List.length_map, List.length_append, sizeLine_eq]; show es.length + 1 < _; omega), ⟨_, rfl⟩, Same.upd_new (w1.trans s8) hd, (w2.then s8).upd, v3, ?_⟩
        refine w4.set_last ?_ ?_ (Nat.le_trans (hfl (j + 1)) (by decide))
        · rw [upd_same, take_snoc hm, List.flatMap_append, List.map_append]
          simp
        · intro z hz
          obtain ⟨m', hm', hz⟩ := List.mem_flatMap.mp hz
          exact o2.inn m' (o1.inn r hrw m' (List.mem_of_mem_take hm')) z hz
      · rintro σ H5 ⟨⟨u5', rfl⟩, w1, w2, v2, w3⟩
        rw [List.length_map, List.take_length] at w3
        refine ⟨⟨_, _, rfl⟩, w1, _, w3, ?_⟩
        rw [List.map_append, t3, take_snoc hr', List.map_append]
        rfl
    · rintro σ H1 ⟨⟨u4, u5, rfl⟩, t1, es, t2, t3⟩
      rw [List.length_map, List.take_length] at t2 t3
      have ⟨d1, e1, L1⟩ := lx.same t1
      have ⟨d2, e2, L2'⟩ := ly.same t1
      have hkeys : es.map (·.1) = ws := by
        have := congrArg (List.map (·.1)) t3
        rw [List.map_map, List.map_map] at this
        have e : es.map (·.1) = ws.map id := this
        rw [e, List.map_id]
      have fin : ∀ q, H1 q = none → Q (.ref q) (upd H1 q (.tup [.bl (c1.rest && c2.rest), .ref d])) := fun q hq => by
        refine k q _ (t1.trans (Same.new hq)) (t1.free hq) ((t2.same (Same.new hq)).means (c := mulC c1 c2) (fun _ h => h) upd_same (fun e he => ?_) fun r hr' => ?_)
        · have : rowR e ∈ es.map rowR := List.mem_map.mpr ⟨e, he, rfl⟩
          rw [t3] at this
          obtain ⟨k', hk', e'⟩ := List.mem_map.mp this
          injection e' with e1 e2
          show sd ((c1.f e.1).flatMap c2.f) = sd e.2.2
          rw [← e2, e1]
        · rw [hkeys] at hr'
          exact mul_unl (o1.out r hr') (o2.out r hr')
      refine ⟨_, rfl, x, _, 0, _, rfl, rfl, .of L1.ob, atI_nat (j := 0) rfl, _, rfl, ?_⟩
      cases e : c1.rest with
      | false =>
        rw [e] at fin
        refine iteF ?_
        exact ⟨_, rfl, by show 2 ≤ sizeLine; decide, fin⟩
      | true =>
        rw [e] at fin
        refine iteT ?_
        exact ⟨_, rfl, y, _, 0, _, rfl, rfl, .of L2'.ob, atI_nat (j := 0) rfl, _, rfl, by show 2 ≤ sizeLine; decide, fin⟩
theorem mergeK_nd : ∀ (more kvs : List (L2.Key × V)), ((kvs ++ more).map (·.1)).Nodup → mergeK kvs more = kvs ++ more
  | [], kvs, _ => by rw [List.append_nil]; rfl
  | q :: more, kvs, nd => by
    show mergeK (putK kvs q.1 q.2) more = _
    have hn : valV kvs q.1 = none := by
      have h1 := valV_any q.1 kvs
      cases e : valV kvs q.1 with
      | none => rfl
      | some v =>
        rw [e] at h1
        obtain ⟨kv, hkv, h2⟩ := List.any_eq_true.mp h1
        have h2 := of_decide_eq_true h2
        rw [List.map_append, List.nodup_append] at nd
        exact absurd rfl (nd.2.2 q.1 (List.mem_map.mpr ⟨kv, hkv, h2⟩) q.1 (List.mem_map.mpr ⟨q, List.mem_cons_self, rfl⟩))
    rw [putK_new _ hn, mergeK_nd more (kvs ++ [(q.1, q.2)]) (by rw [List.append_assoc]; exact nd), List.append_assoc]
    rfl
theorem merge_ent {es : List RowE} (nd : (es.map (·.1)).Nodup) : mergeK [] (es.map entR) = es.map entR := by
  have := mergeK_nd (es.map entR) [] (by
    rw [List.nil_append, keys_ent]
    exact List.Pairwise.map _ (fun a b h e => h (Sum.inr.inj e)) nd)
  exact this
abbrev nJoint : List Str := ["_law_one", "_law_other", "_law_words", "_law_found", "_law_rule"]
theorem scJoint : FnScope nJoint ["_law_one", "_law_other", "_law_words"] (defScope lJoint) := ⟨rfl, rfl, rfl, by decide +kernel, rfl, by decide +kernel, by decide +kernel⟩
theorem ok_ljoint {f fC : Addr} {fd fdC : FuncData} (F : L2.Fun K "_law_joint" "_law_joint" lJoint f fd) (T : Txt K mg C p g)
    (GC : FnOk P w K mg base CX0 1 fC fdC ["_law_carry", "_law_rule"] spCarries) (kC : PySem.W.keepIn K (.ref fC) = true) (bC : Binds K fdC ["_law_carry", "_law_rule"] []) (gC : mg "_law_carries" = some (.ref fC)) :
    FnOk P w K mg base CX0 2 f fd ["_law_one", "_law_other", "_law_words"] (spLOp orC) := by
  refine F.ok scJoint (fun vs H Q E h => ?_) (fun cdv A outer s H vs Q E hr h => ?_)
  · obtain ⟨x, y, a, c1, c2, ws, rfl, _⟩ := h
    rfl
  · obtain ⟨x, y, a, c1, c2, ws, rfl, lx, ly, o1, o2, wl, ha, k⟩ := h
    refine ⟨_, pss_cons (ps_set (i := 3) scJoint.nd rfl (Or.inl rfl) (pe_callTy (call_dictP rfl) (by rfl) T.dict (by decide +kernel) (pa_cons
        (pe_lc (own := [("_law_rule", 4)]) (g := gName 4) (tt := tYes) (by rfl) scJoint.nd (pi_list (pv 2))
          (blkOk_by (own := [("_law_rule", 4)]) (N := nJoint) (sc := defScope lJoint) (by decide +kernel))
          (fun _ _ _ _ _ => pg_name (i := 4) scJoint.nd rfl (Or.inl rfl)) (fun _ _ _ _ _ => pts_nil)
          (fun _ _ _ _ _ => pe_tup (pa_cons (pv 4) (pa_cons (pe_op op_cat (pe_call GC hr rfl gC kC bC .nil pass0 (pa_cons (pv 0) (pa_cons (pv 4) pa_nil))) (pe_call GC hr rfl gC kC bC .nil pass0 (pa_cons (pv 1) (pa_cons (pv 4) pa_nil)))) pa_nil)))) pa_nil)))
      (pss_one (ps_ret (pe_tup (pa_cons (pe_or (pe_ix ix_tup (pv 0) pe_int (fun _ _ => rfl)) (pe_one (pe_ix ix_tup (pv 1) pe_int (fun _ _ => rfl)))) (pa_cons (pv 3) pa_nil))))), ?_⟩
    have wok := wl.ok
    refine ⟨_, rfl, a, rfl, ⟨_, .of ha⟩, fun D hD => ?_⟩
    refine lc_it (walk_list (K := K) (a := a) (xs := ws.map V.str)) (fun i H' => Same H H' ∧ ∃ ps es, H' D = some (.lst (ps.map V.ref)) ∧ Paired (fun q (e : RowE) => H' q = some (.tup [.str e.1, .ref e.2.1])) ps es ∧ (∀ e ∈ es, H' e.2.1 = some (.lst (e.2.2.map V.str)) ∧ e.2.1 ≠ D) ∧ es.map rowR = (ws.take i).map fun k => (k, c1.f k ++ c2.f k))
      ⟨Same.new hD, [], [], upd_same, .nil, fun e he => (by cases he), rfl⟩ (fun i H' _ h => .of (h.1 _ _ ha)) ?_ ?_
    · rintro i v H1 H2 hi ⟨t1, ps, es, t2, t3, t4, t5⟩ ⟨rfl, hv⟩
      obtain ⟨r, hr', rfl⟩ := map_get hv
      have hrw := List.mem_of_getElem? hr'
      refine ⟨rfl, ?_⟩
      refine ⟨_, rfl, _, rfl, _, rfl, x, r, c1, ws, rfl, lx.same t1, fun la H4 s4 hla hla4 => ?_⟩
      refine ⟨_, rfl, _, rfl, y, r, c2, ws, rfl, ly.same (t1.trans s4), fun lb H5 s5 hlb hlb5 => ?_⟩
      have h1 := f_len o1 hrw
      have h2 := f_len o2 hrw
      have h3 := wok.n
      refine ⟨la, lb, _, _, rfl, rfl, s5 _ _ hla4, hlb5, by rw [List.length_map, List.length_map, sizeLine_eq]; omega, fun q hq => ?_⟩
      have s6 := (s4.trans s5).trans (Same.new (o := .lst ((c1.f r).map V.str ++ (c2.f r).map V.str)) hq)
      refine ⟨by show 2 ≤ sizeLine; decide, fun t ht => ?_⟩
      have s7 := s6.trans (Same.new (o := .tup [.str r, .ref q]) ht)
      have htD : t ≠ D := fun z => by
        subst z
        rw [s6 _ _ t2] at ht
        cases ht
      have hqD : q ≠ D := fun z => by
        subst z
        rw [(s4.trans s5) _ _ t2] at hq
        cases hq
      refine ⟨ps.map V.ref, s7 _ _ t2, ?_, Same.upd_new (t1.trans s7) hD, ps ++ [t], es ++ [(r, q, c1.f r ++ c2.f r)], ?_, ?_, ?_, ?_⟩
      · have e1 := paired_len t3
        have e2 := congrArg List.length t5
        rw [List.length_map, List.length_map] at e2
        have e3 := List.length_take_le' i ws
        rw [List.length_map, sizeLine_eq]
        omega
      · rw [upd_same, List.map_append]
        rfl
      · refine paired_snoc ?_ (Paired.mapP t3 fun q e h => ?_)
        · rw [upd_ne htD]
          exact upd_same
        · rw [upd_ne (ne_of h t2 (by intro z; cases z))]
          exact s7 _ _ h
      · intro e he
        rcases List.mem_append.mp he with he | he
        · obtain ⟨v1, v2⟩ := t4 e he
          exact ⟨by rw [upd_ne v2]; exact s7 _ _ v1, v2⟩
        · rw [List.mem_singleton.mp he]
          refine ⟨?_, hqD⟩
          show upd _ _ _ q = _
          rw [upd_ne hqD, upd_ne (ne_of_none upd_same ht), upd_same, List.map_append]
      · rw [List.map_append, t5, take_snoc hr', List.map_append]
        rfl
    · rintro H1 ⟨t1, ps, es, t2, t3, t4, t5⟩
      rw [List.length_map, List.take_length] at t5
      have hkeys : es.map (·.1) = ws := by
        have := congrArg (List.map (·.1)) t5
        rw [List.map_map, List.map_map] at this
        have e : es.map (·.1) = ws.map id := this
        rw [e, List.map_id]
      have hnd : (es.map (·.1)).Nodup := hkeys ▸ wl.nd
      refine ⟨D, ps, es.map entR, rfl, .of t2, ?_, fun d hd => ?_⟩
      · refine paired_map_right entR (Paired.mapP t3 fun q e h => .of h)
      rw [merge_ent hnd]
      have t6 := t1.trans (Same.new (o := .dK (es.map entR)) hd)
      have dr : DrE ws ws (upd H1 d (.dK (es.map entR))) d es := by
        refine ⟨upd_same, hnd, fun e he => hkeys ▸ List.mem_map.mpr ⟨e, he, rfl⟩, fun e he => ⟨(Same.new hd) _ _ (t4 e he).1, ?_⟩⟩
        have : rowR e ∈ es.map rowR := List.mem_map.mpr ⟨e, he, rfl⟩
        rw [t5] at this
        obtain ⟨k', hk', e'⟩ := List.mem_map.mp this
        injection e' with e1 e2
        have e2 : c1.f k' ++ c2.f k' = e.2.2 := e2
        rw [← e2]
        refine ⟨fun z hz => (List.mem_append.mp hz).elim (o1.inn k' hk' z) (o2.inn k' hk' z), ?_⟩
        have h1 := f_len o1 hk'
        have h2 := f_len o2 hk'
        have h3 := wok.n
        rw [List.length_append]
        omega
      generalize upd H1 d (.dK (es.map entR)) = H2 at t6 dr ⊢
      have ⟨d1, e1, L1⟩ := lx.same t6
      have ⟨d2, e2, L2'⟩ := ly.same t6
      have fin : ∀ q, H2 q = none → Q (.ref q) (upd H2 q (.tup [.bl (c1.rest || c2.rest), .ref d])) := fun q hq => by
        refine k q _ (t6.trans (Same.new hq)) (t6.free hq) ((dr.same (Same.new hq)).means (c := orC c1 c2) (fun _ h => h) upd_same (fun e he => ?_) fun r hr' => ?_)
        · have : rowR e ∈ es.map rowR := List.mem_map.mpr ⟨e, he, rfl⟩
          rw [t5] at this
          obtain ⟨k', hk', e'⟩ := List.mem_map.mp this
          injection e' with e1 e2
          show sd (c1.f e.1 ++ c2.f e.1) = sd e.2.2
          rw [← e2, e1]
        · rw [hkeys] at hr'
          exact or_unl (o1.out r hr') (o2.out r hr')
      refine ⟨_, rfl, x, _, 0, _, rfl, rfl, .of L1.ob, atI_nat (j := 0) rfl, _, rfl, ?_⟩
      cases e : c1.rest with
      | true =>
        rw [e] at fin
        refine iteT ?_
        exact ⟨_, rfl, by show 2 ≤ sizeLine; decide, fin⟩
      | false =>
        rw [e] at fin
        refine iteF ?_
        exact ⟨_, rfl, y, _, 0, _, rfl, rfl, .of L2'.ob, atI_nat (j := 0) rfl, _, rfl, by show 2 ≤ sizeLine; decide, fin⟩
end
end VC
set_option Elab.async false
set_option linter.all false
set_option maxRecDepth 100000
set_option maxHeartbeats 4000000
/-! _law_is_within, _law_shown_right. -/
namespace VC
open PySem PySem.Spec PyProof.Rows L2
section
variable {X : Cx}
/-- repr(rows) -/
def rReprRows (X : Cx) : List V → Hp → VK → Prop := fun vs H Q => X.A.guards = some [] ∧ ∃ (l : Addr) (us : List V) (rs : List (Str × List Str)), vs = [V.ref l] ∧ H l = some (.lst us) ∧ Paired (RowV H) us rs ∧ (rowsText rs).length ≤ sizeLine ∧ Q (.str (rowsText rs)) H
theorem cr_reprRows (hu : X.A.units + 64 < cLine) : CallR X (.builtin "repr") (rReprRows X) := by
  intro pins s σ H vs us Q I r h
  obtain ⟨hg, l, ws, rs, rfl, hl, hr, hz, q⟩ := h
  rw [Vals.ref1 r]
  obtain ⟨_, its, na, rv, ho⟩ := (show ObjOk X.prog X.w H s.heap l (.lst ws) from I.hok l _ hl)
  refine call_repr_slot (by omega) ⟨_, ho, rfl⟩ PySem.F.slot_list_repr.toG ?_
  exact list_text_run (A := X.A.in1) I hl hr hz (by show X.A.units + 1 + 3 < cLine; omega) ⟨[], hg, Clear.nil _, fun b xs _ => Clear.nil _⟩ fun h' u tk hk => ⟨_, _, rfl, V.str (rowsText rs), H, I.kept hk, ⟨_, rfl⟩, q⟩
end
theorem eqv_lst (xs ys : List Str) : (!PyData.eqv (.list (xs.map PyData.str)) (.list (ys.map PyData.str))) = decide (xs ≠ ys) := by
  rw [PyData.eqv, eqv_strs]
  by_cases z : xs = ys <;> simp [z]
theorem ok_in {ws : List Str} {c : Ca} (ok : c.Ok ws) (wok : WsOk ws) {r : Str} (h : r ∈ ws ∨ PyData.strOk r = true) : ∀ x ∈ c.f r, PyData.strOk x = true := by
  intro x hx
  by_cases hr : r ∈ ws
  · exact good_ok (wok.g x (ok.inn r hr x hx))
  · rw [ok.out r hr] at hx
    rw [(mem_unl.mp hx).2]
    exact h.resolve_left hr
section
variable {P : Program} {w : World} {K : PySem.W.Frag} {mg : Str → Option Value} {base : Heap} {C p g : Addr}
def spLWithin : Sp := fun vs H Q _ => ∃ x y a c1 c2 ws, vs = [V.ref x, .ref y, .ref a] ∧ LawAt ws H x c1 ∧ LawAt ws H y c2 ∧ c1.Ok ws ∧ c2.Ok ws ∧ WsLaw ws ∧ H a = some (.lst ((ws : List Str).map V.str)) ∧
  ∀ t H', Same H H' → (t = true ↔ Wi c1 c2) → Q (.bl t) H'
abbrev nLW : List Str := ["_law_one", "_law_other", "_law_words", "_law_rule", "_law_there", "_law_found"]
theorem scLW : FnScope nLW ["_law_one", "_law_other", "_law_words"] (defScope lWithin) := ⟨rfl, rfl, rfl, by decide +kernel, rfl, by decide +kernel, by decide +kernel⟩
theorem ok_lwithin {f fC fS : Addr} {fd fdC fdS : FuncData} (F : L2.Fun K "_law_is_within" "_law_is_within" lWithin f fd) (T : Txt K mg C p g)
    (GC : FnOk P w K mg base CX0 1 fC fdC ["_law_carry", "_law_rule"] spCarries) (kC : PySem.W.keepIn K (.ref fC) = true) (bC : Binds K fdC ["_law_carry", "_law_rule"] []) (gC : mg "_law_carries" = some (.ref fC))
    (GS : FnOk P w K mg base CX0 1 fS fdS ["_law_words"] spSpare) (kS : PySem.W.keepIn K (.ref fS) = true) (bS : Binds K fdS ["_law_words"] []) (gS : mg "_law_spare" = some (.ref fS)) :
    FnOk P w K mg base CX0 2 f fd ["_law_one", "_law_other", "_law_words"] spLWithin := by
  refine F.ok scLW (fun vs H Q E h => ?_) (fun cdv A outer s H vs Q E hr h => ?_)
  · obtain ⟨x, y, a, c1, c2, ws, rfl, _⟩ := h
    rfl
  · obtain ⟨x, y, a, c1, c2, ws, rfl, lx, ly, o1, o2, wl, ha, k⟩ := h
    have wok := wl.ok
    refine ⟨_, pss_cons (ps_for PassesOwn.never rfl (pi_list (pe_op op_cat (pv 2) (pe_lst (pa_cons (pe_call GS hr rfl gS kS bS .nil pass0 (pa_cons (pv 2) pa_nil)) pa_nil)))) (pg_name (i := 3) scLW.nd rfl (Or.inl rfl))
        (pss_cons (ps_set (i := 4) scLW.nd rfl (Or.inr rfl) (pe_call GC hr rfl gC kC bC .nil pass0 (pa_cons (pv 1) (pa_cons (pv 3) pa_nil))))
        (pss_one (ps_if (pt_cmpR (op_neD hr.units)
          (pe_lc (own := [("_law_found", 5)]) (g := gName 5) (by rfl) scLW.nd (pi_list (pe_call GC hr rfl gC kC bC .nil pass0 (pa_cons (pv 0) (pa_cons (pv 3) pa_nil))))
            (blkOk_by (own := [("_law_found", 5)]) (N := nLW) (sc := defScope lWithin) (by decide +kernel))
            (fun _ _ _ _ _ => pg_name (i := 5) scLW.nd rfl (Or.inl rfl)) (fun _ _ _ _ _ => pts_one (pt_cmpR (k_notIn (K := K) rfl) (pv 5) (pv 4) (by rfl)))
            (fun _ _ _ _ _ => pv 5)) (pe_lst pa_nil) (nomark _)) (pss_one (ps_ret pe_bl)) pss_nil))))
      (pss_one (ps_ret pe_bl)), ?_⟩
    refine ⟨_, rfl, _, rfl, a, ws, rfl, ha, by rw [wl.n]; decide, fun z H1 s1 hz1 hz2 => ⟨by show 1 ≤ sizeLine; decide, fun l1 hl1 => ?_⟩⟩
    have s2 := s1.trans (Same.new (o := .lst [.str z]) hl1)
    refine ⟨a, l1, _, _, rfl, rfl, s2 _ _ ha, upd_same, ?_, fun l2 hl2 => ⟨l2, rfl, ⟨_, .of upd_same⟩, ?_⟩⟩
    · rw [List.length_map, wl.n]
      show 5 + 1 ≤ sizeLine
      decide
    have s3 := s2.trans (Same.new (o := .lst (ws.map V.str ++ [.str z])) hl2)
    have h2 : (upd (upd H1 l1 (.lst [.str z])) l2 (.lst (ws.map V.str ++ [.str z]))) l2 = some (.lst ((ws ++ [z]).map V.str)) := by
      rw [upd_same, List.map_append]
      rfl
    generalize upd (upd H1 l1 (.lst [.str z])) l2 (.lst (ws.map V.str ++ [.str z])) = H3 at s3 h2 ⊢
    refine for_it (walk_list (K := K) (a := l2) (xs := (ws ++ [z]).map V.str)) (fun i σ H' => (∃ u3 u4, σ = [some (.ref x), some (.ref y), some (.ref a), u3, u4, none]) ∧ Same H H' ∧ Same H3 H' ∧ ∀ r ∈ (ws ++ [z]).take i, ∀ m ∈ c1.f r, m ∈ c2.f r)
      ⟨⟨_, _, rfl⟩, s3, Same.refl _, fun r h => by simp at h⟩ (fun i σ H' _ h => .of (h.2.2.1 _ _ h2)) ?_ ?_
    · rintro i v σ H4 H5 hi ⟨⟨u3, u4, rfl⟩, t1, t2, t3⟩ ⟨rfl, hv⟩
      obtain ⟨r, hr', rfl⟩ := map_get hv
      have hrw : r ∈ ws ∨ PyData.strOk r = true := (List.mem_append.mp (List.mem_of_getElem? hr')).elim .inl fun h => .inr (by rw [List.mem_singleton.mp h]; exact hz2)
      refine ⟨_, rfl, _, rfl, y, r, c2, ws, rfl, ly.same t1, fun lb H6 s6 hlb hlb6 => ?_⟩
      refine ⟨_, rfl, _, rfl, x, r, c1, ws, rfl, lx.same (t1.trans s6), fun la H7 s7 hla hla7 => ⟨la, rfl, ⟨_, .of hla7⟩, fun D hD => ?_⟩⟩
      refine lc_it (walk_list (K := K) (a := la) (xs := (c1.f r).map V.str)) (fun j H' => Same H7 H' ∧ H' D = some (.lst ((((c1.f r).take j).filter fun m => decide (m ∉ c2.f r)).map V.str))) ⟨Same.new hD, upd_same⟩ (fun j H' _ h => .of (h.1 _ _ hla7)) ?_ ?_
      · rintro j v H8 H9 hj ⟨w1, w2⟩ ⟨rfl, hv⟩
        obtain ⟨m, hm, rfl⟩ := map_get hv
        refine ⟨rfl, ?_⟩
        refine ⟨_, rfl, _, rfl, lb, _, rfl, .inl (.of (w1 _ _ (s7 _ _ hlb6))), rfl, flat_strs _, _, rfl, ?_⟩
        have e : (if true = true then !inV (.str m) ((c2.f r).map V.str) else inV (.str m) ((c2.f r).map V.str)) = decide (m ∉ c2.f r) := by
          rw [inV_strs]
          by_cases h : m ∈ c2.f r <;> simp [h]
        rw [e]
        by_cases hm2 : m ∉ c2.f r
        · refine iteP hm2 ?_
          refine ⟨_, rfl, _, w2, ?_, Same.upd_new w1 hD, ?_⟩
          · rw [List.length_map, sizeLine_eq]
            have := List.length_filter_le (fun m => decide (m ∉ c2.f r)) ((c1.f r).take j)
            have := List.length_take_le' j (c1.f r)
            have := f_len1 o1 r
            have := wok.n
            omega
          · rw [upd_same, take_snoc hm, List.filter_append, List.filter_cons_of_pos (by simpa using hm2), List.map_append]
            rfl
        · refine iteNP hm2 ?_
          refine ⟨w1, ?_⟩
          rw [w2, take_snoc hm, List.filter_append, List.filter_cons_of_neg (by simpa using hm2)]
          simp
      · rintro H8 ⟨w1, w2⟩
        rw [List.length_map, List.take_length] at w2
        refine ⟨by decide, fun l5 hl5 => ?_⟩
        have s9 := w1.trans (Same.new (o := .lst []) hl5)
        have t9 := ((t1.trans s6).trans s7).trans s9
        refine ⟨_, _, .lst (.of ((Same.new hl5) _ _ w2)) (dp_strs _), .lst (.of upd_same) (dp_strs []), shaped_lst fun m hm => ok_in o1 wok hrw m (List.mem_filter.mp hm).1, shaped_lst (xs := []) (fun m hm => (by cases hm)), _, rfl, ?_⟩
        rw [eqv_lst]
        by_cases hs : ((c1.f r).filter fun m => decide (m ∉ c2.f r)) ≠ []
        · refine iteP hs ?_
          refine k false _ t9 ⟨fun h => (nomatch h), fun h => absurd ?_ hs⟩
          refine List.filter_eq_nil_iff.mpr fun m hm => ?_
          simpa using h r m hm
        · refine iteNP hs ?_
          refine ⟨⟨_, _, rfl⟩, t9, ((t2.trans s6).trans s7).trans s9, ?_⟩
          rw [take_snoc hr']
          intro r2 h2
          rcases List.mem_append.mp h2 with h2 | h2
          · exact t3 r2 h2
          · obtain rfl := List.mem_singleton.mp h2
            intro m hm
            have := List.filter_eq_nil_iff.mp (Classical.byContradiction hs) m hm
            simpa using this
    · rintro σ H4 ⟨⟨u3, u4, rfl⟩, t1, t2, t3⟩
      rw [List.length_map, List.take_length] at t3
      refine k true H4 t1 ⟨fun _ => ?_, fun _ => rfl⟩
      refine wi_of (ks := ws) o1.out o2.out ?_ fun r hr' => t3 r (List.mem_append_left _ hr')
      have hz3 := t3 z (List.mem_append_right _ (List.mem_singleton.mpr rfl))
      rw [o1.out z hz1, o2.out z hz1] at hz3
      exact unl_sub.mp hz3
def spShown (C : Addr) : Sp := fun vs H Q _ => ∃ x q a c ws, vs = [V.ref x, .ref q, .ref a] ∧ CarryAt C H x c ∧ LawAt ws H q c ∧ c.Ok ws ∧ WsLaw ws ∧ H a = some (.lst ((ws : List Str).map V.str)) ∧ ∀ H', Same H H' → Q (.bl true) H'
abbrev nShown : List Str := ["_law_found", "_law_due", "_law_words", "_law_rule"]
theorem scShown : FnScope nShown ["_law_found", "_law_due", "_law_words"] (defScope lShown) := ⟨rfl, rfl, rfl, by decide +kernel, rfl, by decide +kernel, by decide +kernel⟩
theorem ok_shown {f fC fS fR fL fCd : Addr} {fd fdC fdS fdR fdL fdg fdCd : FuncData} (F : L2.Fun K "_law_shown_right" "_law_shown_right" lShown f fd) (T : Txt K mg C p g)
    (GC : FnOk P w K mg base CX0 1 fC fdC ["_law_carry", "_law_rule"] spCarries) (kC : PySem.W.keepIn K (.ref fC) = true) (bC : Binds K fdC ["_law_carry", "_law_rule"] []) (gC : mg "_law_carries" = some (.ref fC))
    (GS : FnOk P w K mg base CX0 1 fS fdS ["_law_words"] spSpare) (kS : PySem.W.keepIn K (.ref fS) = true) (bS : Binds K fdS ["_law_words"] []) (gS : mg "_law_spare" = some (.ref fS))
    (GL : FnOk P w K mg base CX0 2 fL fdL ["_law_carry"] spLRows) (kL : PySem.W.keepIn K (.ref fL) = true) (bL : Binds K fdL ["_law_carry"] []) (gL : mg "_law_carry_rows" = some (.ref fL))
    (GR : FnOk P w K mg base CX0 1 fR fdR ["self"] (spCRows C)) (mR : Meth K C "rows" fR) (bR : Binds K fdR ["self"] [])
    (GG : FnOk P w K mg base CX0 1 g fdg ["self"] (getSp C "kept_rest")) (bG : Binds K fdg ["self"] [])
    (GD : FnOk P w K mg base CX0 2 fCd fdCd ["self", "rule"] (spCarried C)) (mD : Meth K C "carried" fCd) (bD : Binds K fdCd ["self", "rule"] []) :
    FnG P w K mg base CX0 3 f fd ["_law_found", "_law_due", "_law_words"] G0 (spShown C) := by
  refine Fun.okG F scShown (fun vs H Q E h => ?_) (fun cdv A outer s H vs Q E hr hG h => ?_)
  · obtain ⟨x, q, a, c, ws, rfl, _⟩ := h
    rfl
  · obtain ⟨x, q, a, c, ws, rfl, cx, lq, ok, wl, ha, k⟩ := h
    have hr1 : Room 1 _ := hr.mono (by decide)
    have wok := wl.ok
    refine ⟨_, pss_cons (ps_if (PW.pt (pw_or (pt_cmpR op_ne (pe_callB (cr_reprRows hr.units) (by rfl) T.repr (by decide +kernel) (pa_cons (pe_meth0 (pv 0) T.cl mR GR hr1 bR .nil pass0) pa_nil))
          (pe_callB (cr_reprRows hr.units) (by rfl) T.repr (by decide +kernel) (pa_cons (pe_call GL hr rfl gL kL bL .nil pass0 (pa_cons (pv 1) pa_nil)) pa_nil)) (nomark _))
        (pw_or1 (pt_cmpR op_ne (pe_callB cr_reprB (by rfl) T.repr (by decide +kernel) (pa_cons (pe_prop (pv 0) T.cl T.pR GG hr bG .nil pass0 rfl) pa_nil))
          (pe_callB cr_reprB (by rfl) T.repr (by decide +kernel) (pa_cons (pe_ix ix_tup (pv 1) pe_int (fun _ _ => rfl)) pa_nil)) (nomark _)))))
        (pss_one (ps_ret pe_bl)) pss_nil)
      (pss_cons (ps_for PassesOwn.never rfl (pi_list (pe_op op_cat (pv 2) (pe_lst (pa_cons pe_str (pa_cons (pe_call GS hr1 rfl gS kS bS .nil pass0 (pa_cons (pv 2) pa_nil)) pa_nil))))) (pg_name (i := 3) scShown.nd rfl (Or.inl rfl))
        (pss_one (ps_if (pt_cmpR (op_neD hr.units) (pe_meth (pv 0) T.cl mD GD hr bD .nil pass0 (pa_cons (pv 3) pa_nil)) (pe_call GC hr1 rfl gC kC bC .nil pass0 (pa_cons (pv 1) (pa_cons (pv 3) pa_nil))) (nomark _)) (pss_one (ps_ret pe_bl)) pss_nil)))
      (pss_one (ps_ret pe_bl))), ?_⟩
    have ⟨d, es, ce⟩ := cx
    obtain ⟨dx, hx⟩ := ce.ob
    have ⟨ld, les, L⟩ := lq
    have hrl := rows_len ok (Nat.le_trans wok.n (by decide)) wok.g
    have hrl : (rowsText (rowsC ws c)).length ≤ sizeLine := by rw [sizeLine_eq]; omega
    refine ⟨_, rfl, x, dx, _, rfl, hx, fl_no _ _ (by decide +kernel) (by decide +kernel), x, c, ws, rfl, cx, ok, wok, fun l1 us1 H1 s1 _ hl1 pr1 => ⟨hG, l1, us1, _, rfl, hl1, pr1, hrl, ?_⟩⟩
    refine ⟨_, rfl, q, c, ws, rfl, lq.same s1, ok, wok, fun l2 us2 H2 s2 _ hl2 pr2 => ⟨hG, l2, us2, _, rfl, hl2, pr2, hrl, rfl, _, rfl, ?_⟩⟩
    rw [decide_eq_true rfl]
    refine iteF ?_
    have s3 := s1.trans s2
    refine ⟨_, rfl, x, dx, _, rfl, s3 _ _ hx, x, dx, _, _, rfl, s3 _ _ hx, fl_rest _ _, c.rest, rfl, _, rfl, q, _, 0, _, rfl, rfl, .of (s3 _ _ L.ob), atI_nat (j := 0) rfl, c.rest, rfl, rfl, _, rfl, ?_⟩
    rw [decide_eq_true rfl]
    refine iteF ?_
    refine ⟨_, rfl, _, rfl, a, ws, rfl, s3 _ _ ha, by rw [wl.n]; decide, fun z H4 s4 hz1 hz2 => ⟨by show 2 ≤ sizeLine; decide, fun l4 hl4 => ?_⟩⟩
    have s5 := (s3.trans s4).trans (Same.new (o := .lst [.str "", .str z]) hl4)
    refine ⟨a, l4, _, _, rfl, rfl, s5 _ _ ha, upd_same, ?_, fun l5 hl5 => ⟨l5, rfl, ⟨_, .of upd_same⟩, ?_⟩⟩
    · rw [List.length_map, wl.n]
      show 5 + 2 ≤ sizeLine
      decide
    have s6 := s5.trans (Same.new (o := .lst (ws.map V.str ++ [.str "", .str z])) hl5)
    have h5 : (upd (upd H4 l4 (.lst [.str "", .str z])) l5 (.lst (ws.map V.str ++ [.str "", .str z]))) l5 = some (.lst ((ws ++ [Str.ofString "", z]).map V.str)) := by
      rw [upd_same, List.map_append]
      rfl
    generalize upd (upd H4 l4 (.lst [.str "", .str z])) l5 (.lst (ws.map V.str ++ [.str "", .str z])) = H6 at s6 h5 ⊢
    refine for_it (walk_list (K := K) (a := l5) (xs := (ws ++ [Str.ofString "", z]).map V.str)) (fun i σ H' => (∃ u3, σ = [some (.ref x), some (.ref q), some (.ref a), u3]) ∧ Same H H' ∧ Same H6 H')
      ⟨⟨_, rfl⟩, s6, Same.refl _⟩ (fun i σ H' _ h => .of (h.2.2 _ _ h5)) ?_ ?_
    · rintro i v σ H7 H8 hi ⟨⟨u3, rfl⟩, t1, t2⟩ ⟨rfl, hv⟩
      obtain ⟨r, hr', rfl⟩ := map_get hv
      have hrw : r ∈ ws ∨ PyData.strOk r = true := (List.mem_append.mp (List.mem_of_getElem? hr')).elim .inl fun h => .inr (by
        rcases List.mem_cons.mp h with e | h
        · rw [e]; decide +kernel
        · rw [List.mem_singleton.mp h]; exact hz2)
      refine ⟨_, rfl, x, dx, _, rfl, t1 _ _ hx, fl_no _ _ (by decide +kernel) (by decide +kernel), _, rfl, x, c, r, rfl, cx.same t1, fun la H9 s9 _ hla => ?_⟩
      refine ⟨_, rfl, _, rfl, q, r, c, ws, rfl, lq.same (t1.trans s9), fun lb H10 s10 _ hlb => ?_⟩
      refine ⟨_, _, .lst (.of (s10 _ _ hla)) (dp_strs _), .lst (.of hlb) (dp_strs _), shaped_lst (ok_in ok wok hrw), shaped_lst (ok_in ok wok hrw), _, rfl, ?_⟩
      rw [eqv_lst]
      refine iteNP (by simp) ?_
      exact ⟨⟨_, rfl⟩, (t1.trans s9).trans s10, (t2.trans s9).trans s10⟩
    · rintro σ H7 ⟨⟨u3, rfl⟩, t1, t2⟩
      exact k H7 t1
end
end VC
set_option Elab.async false
set_option linter.all false
set_option maxRecDepth 100000
set_option maxHeartbeats 4000000
/-! _law_made_carry. -/
namespace VC
open PySem PySem.Spec PyProof.Rows L2
def unStr : V → Str
  | .str x => x
  | _ => Str.empty
theorem perm_strs {ys : List V} {xs : List Str} (h : ys.Perm (xs.map V.str)) : ∃ zs : List Str, ys = zs.map V.str ∧ zs.Perm xs := by
  refine ⟨ys.map unStr, ?_, ?_⟩
  · rw [List.map_map]
    refine (List.map_id ys).symm.trans (List.map_congr_left fun y hy => ?_)
    obtain ⟨x, _, rfl⟩ := List.mem_map.mp (h.mem_iff.mp hy)
    rfl
  · have := h.map unStr
    rw [List.map_map] at this
    have e : xs.map (unStr ∘ V.str) = xs := List.map_id xs
    rwa [e] at this
theorem paired_perm {α β : Type} {R : α → β → Prop} {as as' : List α} (h : as'.Perm as) : ∀ {bs : List β}, Paired R as bs → ∃ bs', bs'.Perm bs ∧ Paired R as' bs' := by
  induction h with
  | nil => intro bs r; cases r; exact ⟨[], .nil, .nil⟩
  | cons x h ih =>
    intro bs r
    cases r with
    | cons r1 r2 =>
      obtain ⟨bs', p, q⟩ := ih r2
      exact ⟨_ :: bs', p.cons _, .cons r1 q⟩
  | swap x y l =>
    intro bs r
    cases r with
    | cons r1 r2 =>
      cases r2 with
      | cons r2 r3 => exact ⟨_ :: _ :: _, .swap _ _ _, .cons r2 (.cons r1 r3)⟩
  | trans h1 h2 ih1 ih2 =>
    intro bs r
    obtain ⟨b1, p1, q1⟩ := ih2 r
    obtain ⟨b2, p2, q2⟩ := ih1 q1
    exact ⟨b2, p2.trans p1, q2⟩
theorem key_uniq : ∀ {es : List RowE} {e e' : RowE}, (es.map (·.1)).Nodup → e ∈ es → e' ∈ es → e.1 = e'.1 → e = e'
  | x :: es, e, e', nd, h, h', q => by
    rw [List.map_cons] at nd
    obtain ⟨n1, n2⟩ := List.nodup_cons.mp nd
    rcases List.mem_cons.mp h with a | a
    · rcases List.mem_cons.mp h' with a' | a'
      · rw [a, a']
      · exact (n1 (List.mem_map.mpr ⟨e', a', by rw [← a]; exact q.symm⟩)).elim
    · rcases List.mem_cons.mp h' with a' | a'
      · exact (n1 (List.mem_map.mpr ⟨e, a, by rw [← a']; exact q⟩)).elim
      · exact key_uniq n2 a a' q
theorem ent_at {es : List RowE} {e : RowE} (nd : (es.map (·.1)).Nodup) (h : e ∈ es) : valV (es.map entR) (Sum.inr e.1 : L2.Key) = some (.ref e.2.1) := by
  obtain ⟨e', he', q, hv⟩ := ent_some (List.mem_map.mpr ⟨e, h, rfl⟩ : e.1 ∈ es.map (·.1))
  rw [hv, key_uniq nd he' h q]
/-- rows that list what es lists, each in some order -/
theorem made_f {ws : List Str} {H : Hp} {q d : Addr} {c : Ca} {es : List RowE} {rs rs' : List (Str × List Str)} (L : LawE ws H q c d es) (pr : Paired (fun (r : Str × List Str) (e : RowE) => r.1 = e.1 ∧ r.2.Perm e.2.2) rs es) (pm : rs'.Perm rs) :
    (rs'.map (·.1)).Nodup ∧ rowsF c.rest rs' = c.f := by
  have e0 : rs.map (·.1) = es.map (·.1) := by
    clear pm L
    induction pr with
    | nil => rfl
    | cons h _ ih => rw [List.map_cons, List.map_cons, ih, h.1]
  have nd : (rs'.map (·.1)).Nodup := (pm.map (·.1)).nodup_iff.mpr (e0 ▸ L.nd)
  refine ⟨nd, funext fun r => ?_⟩
  by_cases hm : r ∈ rs'.map (·.1)
  · obtain ⟨y, hy, rfl⟩ := List.mem_map.mp hm
    rw [rowsF_some nd hy]
    obtain ⟨i, hi⟩ := List.mem_iff_getElem?.mp (pm.mem_iff.mp hy)
    obtain ⟨e, he, h1, h2⟩ := paired_get pr hi
    rw [h1, (L.vals e (List.mem_of_getElem? he)).2.1]
    exact sd_congr fun x => h2.mem_iff
  · rw [rowsF_none hm, L.out r]
    rw [← e0]
    exact fun h => hm ((pm.map (·.1)).mem_iff.mpr h)
/-! ### a mixed row -/
def RowM (H0 : Hp) (D : Addr) (H : Hp) (v : V) (r : Str × List Str) : Prop := ∃ t m, v = V.ref t ∧ t ≠ D ∧ m ≠ D ∧ H0 m = none ∧ H t = some (.tup [.str r.1, .ref m]) ∧ H m = some (.lst (r.2.map V.str))
theorem RowM.keeps {H0 : Hp} {D : Addr} {H H1 : Hp} {v : V} {r : Str × List Str} (s : Keeps H H1) (h : RowM H0 D H v r) : RowM H0 D H1 v r := by
  obtain ⟨t, m, e, n1, n2, n3, h1, h2⟩ := h
  exact ⟨t, m, e, n1, n2, n3, s.k _ _ h1 rfl, s.k _ _ h2 (noBag_strs _)⟩
theorem RowM.upd {H0 : Hp} {D : Addr} {H : Hp} {o : HO} {v : V} {r : Str × List Str} (h : RowM H0 D H v r) : RowM H0 D (upd H D o) v r := by
  obtain ⟨t, m, e, n1, n2, n3, h1, h2⟩ := h
  exact ⟨t, m, e, n1, n2, n3, by rw [upd_ne n1]; exact h1, by rw [upd_ne n2]; exact h2⟩
theorem RowM.row {H0 : Hp} {D : Addr} {H : Hp} {v : V} {r : Str × List Str} (h : RowM H0 D H v r) : RowIn H v r := by
  obtain ⟨t, m, e, n1, n2, n3, h1, h2⟩ := h
  exact ⟨t, m, true, e, h1, h2⟩
/-- the data of such a row -/
def datM (r : Str × List Str) : PyData := .tuple [.str r.1, .list (r.2.map PyData.str)]
theorem dp_rows {K : PySem.W.Frag} {H0 H : Hp} {D : Addr} : ∀ {us : List V} {rs : List (Str × List Str)}, Paired (RowM H0 D H) us rs → DpAll K H us (rs.map datM)
  | _, _, .nil => .nil
  | _, _, .cons h t => by
    obtain ⟨a, m, rfl, _, _, _, h1, h2⟩ := h
    exact .cons (.tup (.of h1) (.cons (.str _) (.cons (.lst (.of h2) (dp_strs _)) .nil))) (dp_rows t)
theorem shownAll_strs : ∀ xs : List Str, PyData.shownAll (xs.map PyData.str) = xs.map reprText
  | [] => by simp [PyData.shownAll]
  | x :: xs => by rw [List.map_cons, PyData.shownAll, shownAll_strs xs, PyData.shown, List.map_cons]
theorem showAll_strs : ∀ xs : List Str, PyData.showableAll (xs.map PyData.str) = true
  | [] => by simp [PyData.showableAll]
  | x :: xs => by rw [List.map_cons, PyData.showableAll, showAll_strs xs, PyData.showable]; rfl
theorem noD_strs : ∀ xs : List Str, PyData.hasDictAll (xs.map PyData.str) = false
  | [] => by simp [PyData.hasDictAll]
  | x :: xs => by rw [List.map_cons, PyData.hasDictAll, noD_strs xs, PyData.hasDict]; rfl
theorem datM_ok : ∀ rs : List (Str × List Str), PyData.showableAll (rs.map datM) = true ∧ PyData.hasDictAll (rs.map datM) = false ∧ PyData.depthAll (rs.map datM) ≤ 2
  | [] => by simp [PyData.showableAll, PyData.hasDictAll, PyData.depthAll]
  | r :: rs => by
    obtain ⟨h1, h2, h3⟩ := datM_ok rs
    have e1 : (datM r).showable = true := by simp [datM, PyData.showable, PyData.showableAll, showAll_strs]
    have e2 : (datM r).hasDict = false := by simp [datM, PyData.hasDict, PyData.hasDictAll, noD_strs]
    have e3 : (datM r).depth ≤ 2 := by simp [datM, PyData.depth, PyData.depthAll, depth_strs]
    rw [List.map_cons, PyData.showableAll, PyData.hasDictAll, PyData.depthAll, h1, h2, e1, e2]
    exact ⟨rfl, rfl, by omega⟩
theorem shownAll_len : ∀ {rs : List (Str × List Str)}, (∀ r ∈ rs, GoodR r ∧ r.2.length ≤ 60) → ∀ t ∈ PyData.shownAll (rs.map datM), t.length ≤ 6000
  | [], _ => by simp [PyData.shownAll]
  | r :: rs, h => by
    intro t ht
    rw [List.map_cons, PyData.shownAll] at ht
    rcases List.mem_cons.mp ht with e | ht
    · subst e
      obtain ⟨g1, g2⟩ := h r List.mem_cons_self
      have e : (datM r).shown = tupleText [reprText r.1, listText (r.2.map reprText)] := by
        simp [datM, PyData.shown, PyData.shownAll, shownAll_strs]
      rw [e]
      have h1 := tupleText_len_le [reprText r.1, listText (r.2.map reprText)]
      have h2 := listText_len_le (r.2.map reprText)
      have h3 := sum_le (l := (r.2.map reprText).map (·.length)) (n := 82) fun y hy => by
        rw [List.map_map] at hy
        obtain ⟨x, hx, rfl⟩ := List.mem_map.mp hy
        exact good_repr (g1.v x hx)
      have h4 := good_repr g1.k
      simp only [List.length_map] at h2 h3
      simp only [List.map_cons, List.map_nil, List.sum_cons, List.sum_nil, List.length_cons, List.length_nil] at h1
      have : r.2.length * 82 ≤ 60 * 82 := Nat.mul_le_mul_right _ g2
      omega
    · exact shownAll_len (fun r hr => h r (List.mem_cons_of_mem _ hr)) t ht
theorem shownAll_count : ∀ ds : List PyData, (PyData.shownAll ds).length = ds.length
  | [] => by simp [PyData.shownAll]
  | d :: ds => by rw [PyData.shownAll, List.length_cons, List.length_cons, shownAll_count ds]
theorem datM_len {rs : List (Str × List Str)} (h : ∀ r ∈ rs, GoodR r ∧ r.2.length ≤ 60) (hn : rs.length ≤ 60) : (PyData.list (rs.map datM)).shown.length ≤ sizeLine := by
  rw [PyData.shown]
  have h1 := listText_len_le (PyData.shownAll (rs.map datM))
  have h2 := sum_le (l := (PyData.shownAll (rs.map datM)).map (·.length)) (n := 6000) fun y hy => by
    obtain ⟨t, ht, rfl⟩ := List.mem_map.mp hy
    exact shownAll_len h t ht
  rw [shownAll_count, List.length_map] at h1
  rw [List.length_map, shownAll_count, List.length_map] at h2
  have : rs.length * 6000 ≤ 60 * 6000 := Nat.mul_le_mul_right _ hn
  rw [sizeLine_eq]
  omega
end VC
set_option Elab.async false
set_option linter.all false
set_option maxRecDepth 100000
set_option maxHeartbeats 4000000
/-! _law_made_carry. -/
namespace VC
open PySem PySem.Spec PyProof.Rows L2
theorem Keeps.unlock {H H' : Hp} {d : Addr} {o : Obj} {u : HO} (h : H d = some u) (s : Keeps (upd H d (.frz o u)) H') : Keeps H (upd H' d u) := by
  refine ⟨fun b v e n => ?_, fun b e => ?_⟩
  · by_cases hb : b = d
    · subst hb
      rw [h] at e
      cases e
      exact upd_same
    · rw [upd_ne hb]
      exact s.k b v (by rw [upd_ne hb]; exact e) n
  · by_cases hb : b = d
    · subst hb
      rw [upd_same] at e
      cases e
    · rw [upd_ne hb] at e
      have := s.free b e
      rw [upd_ne hb] at this
      exact this
theorem CarryAt.updl {C : Addr} {H : Hp} {x m : Addr} {c : Ca} {xs ys : List V} (h : CarryAt C H x c) (hm : H m = some (.lst xs)) : CarryAt C (upd H m (.lst ys)) x c := by
  obtain ⟨d, es, ce⟩ := h
  obtain ⟨dx, hx⟩ := ce.ob
  refine ⟨d, es, ⟨dx, ?_⟩, ?_, ce.nd, fun e he => ⟨?_, (ce.vals e he).2⟩, ce.out⟩
  · rw [upd_ne (ne_of hx hm (by intro z; cases z))]
    exact hx
  · rw [upd_ne (ne_of ce.dc hm (by intro z; cases z))]
    exact ce.dc
  · rw [upd_ne (ne_of (ce.vals e he).1 hm (by intro z; cases z))]
    exact (ce.vals e he).1
theorem noBag_rows {H0 H : Hp} {D : Addr} {us : List V} {rs : List (Str × List Str)} (h : Paired (RowM H0 D H) us rs) : (∀ v ∈ us, ∀ i, v ≠ V.int i) ∧ isBag (.lst us) = false := by
  have h1 : ∀ v ∈ us, ∀ i, v ≠ V.int i := fun v hv i => by
    obtain ⟨j, hj⟩ := List.mem_iff_getElem?.mp hv
    obtain ⟨r, _, t, m, e, _⟩ := paired_get h hj
    rw [e]
    nofun
  exact ⟨h1, noBag h1⟩
/-- a row whose list may be added to -/
def RowA (H0 : Hp) (R : Addr) (n : Nat) (H : Hp) (v : V) : Prop := ∃ t k m xs, v = V.ref t ∧ m ≠ R ∧ H0 m = none ∧ H t = some (.tup [.str k, .ref m]) ∧ H m = some (.lst xs) ∧ xs.length ≤ n
theorem RowA.upd {H0 : Hp} {R : Addr} {n : Nat} {H : Hp} {v : V} {m' : Addr} {ys zs : List V} (h : RowA H0 R n H v) (hm : H m' = some (.lst ys)) (hz : zs.length ≤ n + 1) : RowA H0 R (n + 1) (upd H m' (.lst zs)) v := by
  obtain ⟨t, k, m, xs, e, n1, n2, h1, h2, h3⟩ := h
  have ht : t ≠ m' := ne_of h1 hm (by intro z; cases z)
  by_cases q : m = m'
  · subst q
    exact ⟨t, k, m, zs, e, n1, n2, by rw [upd_ne ht]; exact h1, upd_same, hz⟩
  · exact ⟨t, k, m, xs, e, n1, n2, by rw [upd_ne ht]; exact h1, by rw [upd_ne q]; exact h2, by omega⟩
section
variable {P : Program} {w : World} {K : PySem.W.Frag} {mg : Str → Option Value} {base : Heap} {C p g : Addr}
def spMade (C : Addr) : Sp := fun vs H Q _ => ∃ b l q c ws, vs = [V.ref b, .ref q] ∧ BagAt H b l ∧ LawAt ws H q c ∧ c.Ok ws ∧ WsOk ws ∧
  ∀ ls x H', Keeps H H' → BagAt H' b l → H' ls = some (.lst [.ref x]) → CarryAt C H' x c → Q (.ref ls) H'
abbrev nMade : List Str := ["_law_bag_here", "_law_carry", "_law_rows", "_law_shown", "_law_found", "_law_stays", "_law_rule", "_law_some"]
theorem scMade : FnScope nMade ["_law_bag_here", "_law_carry"] (defScope lMade) := ⟨rfl, rfl, rfl, by decide +kernel, rfl, by decide +kernel, by decide +kernel⟩
theorem ok_made {f fT fM fI : Addr} {fd fdT fdM fdI : FuncData} (F : L2.Fun K "_law_made_carry" "_law_made_carry" lMade f fd) (T : Txt K mg C p g)
    (GT : FnOk P w K mg base CX0 1 fT fdT ["_law_bag_here", "_law_many"] spTake) (kT : PySem.W.keepIn K (.ref fT) = true) (bT : Binds K fdT ["_law_bag_here", "_law_many"] []) (gT : mg "_law_take" = some (.ref fT))
    (GM : FnOk P w K mg base CX0 2 fM fdM ["_law_bag_here", "_law_things"] spMixed) (kM : PySem.W.keepIn K (.ref fM) = true) (bM : Binds K fdM ["_law_bag_here", "_law_things"] []) (gM : mg "_law_mixed" = some (.ref fM))
    (GI : FnOk P w K mg base CX0 4 fI fdI ["self", "rest", "rows"] (spInit C)) (M : Mk K C fI) (bI : Binds K fdI ["self", "rest", "rows"] []) :
    FnG P w K mg base CX0 6 f fd ["_law_bag_here", "_law_carry"] G0 (spMade C) := by
  refine Fun.okG F scMade (fun vs H Q E h => ?_) (fun cdv A outer s H vs Q E hr hG h => ?_)
  · obtain ⟨b, l, q, c, ws, rfl, _⟩ := h
    rfl
  · obtain ⟨b, l, q, c, ws, rfl, hB, lq, ok, wok, k⟩ := h
    have hr1 : Room 1 _ := hr.mono (by decide)
    have hr2 : Room 2 _ := hr.mono (by decide)
    have hu := hu_of hr
    refine ⟨_, Evl.pss_cut (ps_set (i := 2) scMade.nd rfl (Or.inl rfl) (pe_call GM hr2 rfl gM kM bM .nil pass0 (pa_cons (pv 0) (pa_cons
        (pe_lock (pe_lc (own := [("_law_rule", 6)]) (g := gName 6) (tt := tYes) (by rfl) scMade.nd (pi_keys (pe_ix ix_tup (pv 1) pe_int (fun _ _ => rfl)))
          (blkOk_by (own := [("_law_rule", 6)]) (N := nMade) (sc := defScope lMade) (by decide +kernel))
          (fun _ _ _ _ _ => pg_name (i := 6) scMade.nd rfl (Or.inl rfl)) (fun _ _ _ _ _ => pts_nil)
          (fun _ _ _ _ _ => pe_tup (pa_cons (pv 6) (pa_cons (pe_call GM hr2 rfl gM kM bM .nil pass0 (pa_cons (pv 0) (pa_cons (pe_dget hu (pe_ix (k_ixT (K := K) rfl) (pv 1) pe_int (fun _ _ => rfl)) (pv 6) (fun _ _ => rfl)) pa_nil))) pa_nil))))) pa_nil))))
      (pss_cons (ps_if (pt_cmpR op_eq (pe_call GT hr1 rfl gT kT bT .nil pass0 (pa_cons (pv 0) (pa_cons pe_int pa_nil))) pe_int (nomark _))
        (pss_one (ps_ret (pe_lst (pa_cons (pe_make M GI hr rfl T.mgC bI .nil pass0 (pa_cons (pe_ix ix_tup (pv 1) pe_int (fun _ _ => rfl)) (pa_cons
          (pe_callTy call_tuple_of (by rfl) T.tuple (by decide +kernel) (pa_cons
            (pe_lc (own := [("_law_rule", 6), ("_law_some", 7)]) (g := gTup K 2 (gCons (gName 6) (gCons (gName 7) gNil))) (tt := tYes) (by rfl) scMade.nd (pi_list (pv 2))
              (blkOk_by (own := [("_law_rule", 6), ("_law_some", 7)]) (N := nMade) (sc := defScope lMade) (by decide +kernel))
              (fun _ _ _ _ _ => pg_tup rfl (pgs_cons (pg_name (i := 6) scMade.nd rfl (Or.inl rfl)) (pgs_cons (pg_name (i := 7) scMade.nd rfl (Or.inl rfl)) pgs_nil))) (fun _ _ _ _ _ => pts_nil)
              (fun _ _ _ _ _ => pe_tup (pa_cons (pv 6) (pa_cons (pe_callTy (T := "tuple") (k_tupOf (K := K) rfl) (by rfl) T.tuple (by decide +kernel) (pa_cons (pv 7) pa_nil)) pa_nil)))) pa_nil)) pa_nil))) pa_nil)))) pss_nil)
      (pss_cons (ps_set (i := 3) scMade.nd rfl (Or.inl rfl) (pe_callB cr_reprD (by rfl) T.repr (by decide +kernel) (pa_cons (pv 2) pa_nil)))
      (pss_cons (ps_set (i := 4) scMade.nd rfl (Or.inl rfl) (pe_make M GI hr rfl T.mgC bI .nil pass0 (pa_cons (pe_ix ix_tup (pv 1) pe_int (fun _ _ => rfl)) (pa_cons (pv 2) pa_nil))))
      (pss_cons (ps_set (i := 5) scMade.nd rfl (Or.inl rfl) (pe_cmpR op_eq (pe_callB cr_reprD (by rfl) T.repr (by decide +kernel) (pa_cons (pv 2) pa_nil)) (pv 3) (nomark _)))
      (pss_cons (ps_for PassesOwn.never rfl (pi_list (pv 2)) (pg_tup rfl (pgs_cons (pg_name (i := 6) scMade.nd rfl (Or.inl rfl)) (pgs_cons (pg_name (i := 7) scMade.nd rfl (Or.inl rfl)) pgs_nil)))
          (pss_one (ps_expr (pe_bm PySem.F.plainAttrs_list PySem.F.slot_list_append PySem.F.type_list_append mt_append (pv 7) (pa_cons (pv 6) pa_nil)))))
      (pss_cons (ps_expr (pe_bm0 PySem.F.plainAttrs_list PySem.F.slot_list_clear PySem.F.type_list_clear mt_clear (pv 2)))
      (pss_one (ps_ret (pe_op op_rep (pe_lst (pa_cons (pv 4) pa_nil)) (pe_callTy call_int1 (by rfl) T.int (by decide +kernel) (pa_cons (pv 5) pa_nil))))))))))), ?_⟩
    have ⟨d, es, L⟩ := lq
    have hel : es.length ≤ 7 := Nat.le_trans L.len wok.n
    have hbd : b ≠ d ∧ l ≠ d := by
      obtain ⟨_, _, _, _, h1, _, h3, _⟩ := hB
      exact ⟨ne_of h1 L.dc (by intro z; cases z), ne_of h3 L.dc (by intro z; cases z)⟩
    have hqd : q ≠ d := ne_of L.ob L.dc (by intro z; cases z)
    refine ⟨fun σ' H' => ∃ R us rs, σ' = [some (.ref b), some (.ref q), some (.ref R), none, none, none, none, none] ∧ Keeps H H' ∧ BagAt H' b l ∧ H' R = some (.lst us) ∧ H R = none ∧ Paired (RowM H R H') us rs ∧ (∀ r ∈ rs, GoodR r ∧ r.2.length ≤ 60) ∧ rs.length ≤ 60 ∧ (rs.map (·.1)).Nodup ∧ rowsF c.rest rs = c.f, ?_, ?_⟩
    · refine ⟨_, rfl, d, .dK (es.map entR), L.dc, trivial, fun od => ?_⟩
      have hq0 : (upd H d (.frz od (.dK (es.map entR)))) q = some (.tup [.bl c.rest, .ref d]) := by rw [upd_ne hqd]; exact L.ob
      refine ⟨_, rfl, q, _, 1, _, rfl, rfl, .of hq0, atI_nat (j := 1) rfl, d, od, rfl, .inl ⟨_, upd_same, fun D hD => ?_⟩⟩
      have hBf := hB.upd (o := .frz od (.dK (es.map entR))) hbd
      have hbD := hBf.there hD
      refine lc_it walk_keys (fun i H' => Keeps (upd H d (.frz od (.dK (es.map entR)))) H' ∧ BagAt H' b l ∧ ∃ us rs, H' D = some (.lst us) ∧ Paired (RowM H D H') us rs ∧ Paired (fun (r : Str × List Str) (e : RowE) => r.1 = e.1 ∧ r.2.Perm e.2.2) rs (es.take i))
        ⟨Same.keeps (Same.new hD), hBf.same (Same.new hD), [], [], upd_same, .nil, .nil⟩ (fun i H' _ h => h.1.k _ _ upd_same rfl) ?_ ?_
      · rintro i v H1 H2 hi ⟨t1, t2, us, rs, t3, t4, t5⟩ ⟨rfl, key, val, hkv, rfl⟩
        obtain ⟨e, he, hee⟩ := map_get hkv
        injection hee with e1 e2
        subst e1 e2
        have hem := List.mem_of_getElem? he
        obtain ⟨v1, v2, v3⟩ := L.vals e hem
        have hed : e.2.1 ≠ d := ne_of v1 L.dc (by intro z; cases z)
        have hv1 : H2 e.2.1 = some (.lst (e.2.2.map V.str)) := t1.k _ _ (by rw [upd_ne hed]; exact v1) (noBag_strs _)
        have hg : DGet H2 d (.str e.1) (some (.ref e.2.1)) := .inl ⟨es.map entR, .inr e.1, .inr ⟨od, t1.k _ _ upd_same rfl⟩, rfl, (ent_at L.nd hem).symm⟩
        refine ⟨rfl, ?_⟩
        refine ⟨_, rfl, _, rfl, _, rfl, q, _, 1, _, rfl, rfl, .of (t1.k _ _ hq0 rfl), atI_nat (j := 1) rfl, _, rfl, d, _, rfl, hg, b, l, e.2.1, _, rfl, t2, hv1, ?_, ?_, fun m ysV H3 k3 B3 hm hm3 pm => ?_⟩
        · intro z hz i'
          obtain ⟨z', _, rfl⟩ := List.mem_map.mp hz
          nofun
        · rw [List.length_map]
          omega
        obtain ⟨zs, rfl, pz⟩ := perm_strs pm
        refine ⟨by show 2 ≤ sizeLine; decide, fun t ht => ?_⟩
        have t3' := k3.k _ _ t3 (noBag_rows t4).2
        have sT := Same.new (o := .tup [.str e.1, .ref m]) ht
        have htD : t ≠ D := fun z => by
          subst z
          rw [t3'] at ht
          cases ht
        have hmD : m ≠ D := fun z => by
          subst z
          rw [t3] at hm
          cases hm
        have hmH : H m = none := by
          have h1 := t1.free m hm
          by_cases hmd : m = d
          · subst hmd
            rw [upd_same] at h1
            cases h1
          · rw [upd_ne hmd] at h1
            exact h1
        refine ⟨us, sT _ _ t3', ?_, ((t1.trans k3).then sT).upd_new hD, (B3.same sT).upd hbD, us ++ [.ref t], rs ++ [(e.1, zs)], upd_same, ?_, ?_⟩
        · have h1 := paired_len t4
          have h2 := paired_len t5
          have h3 := List.length_take_le' i es
          rw [sizeLine_eq]
          omega
        · refine paired_snoc ⟨t, m, rfl, htD, hmD, hmH, ?_, ?_⟩ (Paired.mapP t4 fun v r h => ((h.keeps k3).keeps (Same.keeps sT)).upd)
          · rw [upd_ne htD]
            exact upd_same
          · rw [upd_ne hmD]
            exact sT _ _ hm3
        · rw [take_snoc he]
          exact paired_snoc ⟨rfl, pz⟩ t5
      · rintro H1 ⟨t1, t2, us, rs, t3, t4, t5⟩
        rw [List.length_map, List.take_length] at t5
        have hfr : H1 d = some (.frz od (.dK (es.map entR))) := t1.k _ _ upd_same rfl
        have hDd : D ≠ d := ne_of t3 hfr (by intro z; cases z)
        have kU : Keeps H (upd H1 d (.dK (es.map entR))) := Keeps.unlock L.dc t1
        have pU : Paired (RowM H D (upd H1 d (.dK (es.map entR)))) us rs := Paired.mapP t4 fun v r ⟨t, m, e, n1, n2, n3, h1, h2⟩ => ⟨t, m, e, n1, n2, n3, by rw [upd_ne (ne_of h1 hfr (by intro z; cases z))]; exact h1, by rw [upd_ne (ne_of h2 hfr (by intro z; cases z))]; exact h2⟩
        have hul : us.length ≤ 7 := by
          have h1 := paired_len t4
          have h2 := paired_len t5
          omega
        refine ⟨hfr, b, l, D, us, rfl, t2.upd hbd, (by rw [upd_ne hDd]; exact t3), (noBag_rows t4).1, by omega, fun R us' H2 k2 B2 hR hR2 pm => ?_⟩
        have pU2 : Paired (RowM H R H2) us rs := Paired.mapP pU fun v r h => by
          obtain ⟨t, m, e, n1, n2, n3, h1, h2⟩ := h
          exact ⟨t, m, e, ne_of_none h1 hR, ne_of_none h2 hR, n3, k2.k _ _ h1 rfl, k2.k _ _ h2 (noBag_strs _)⟩
        obtain ⟨rs', pm', pr'⟩ := paired_perm pm pU2
        obtain ⟨nd', hf'⟩ := made_f L t5 pm'
        refine ⟨R, us', rs', rfl, kU.trans k2, B2, hR2, kU.free _ hR, pr', ?_, ?_, nd', hf'⟩
        · intro r hr'
          obtain ⟨i, hi⟩ := List.mem_iff_getElem?.mp (pm'.mem_iff.mp hr')
          obtain ⟨e, he, h1, h2⟩ := paired_get t5 hi
          have hem := List.mem_of_getElem? he
          obtain ⟨v1, v2, v3⟩ := L.vals e hem
          have hl : r.2.length ≤ 60 := by rw [h2.length_eq]; exact v3
          refine ⟨⟨?_, ?_, by omega⟩, hl⟩
          · rw [h1]
            exact wok.g _ (L.ins e hem)
          · intro x hx
            refine wok.g x (ok.inn e.1 (L.ins e hem) x ?_)
            rw [v2]
            exact mem_sd.mpr (h2.mem_iff.mp hx)
        · have h1 := pm'.length_eq
          have h2 := paired_len t5
          omega
    · rintro σ' H1 ⟨R, us, rs, rfl, t1, t2, hR, hRn, pr, gd, hz, nd, hf⟩
      have hce : (⟨c.rest, rowsF c.rest rs⟩ : Ca) = c := by rw [hf]
      have hul := paired_len pr
      refine ⟨_, rfl, b, l, 3, rfl, t2, by decide, by decide, fun n H2 _ _ k2 B2 => ⟨rfl, _, rfl, ?_⟩⟩
      have t3 := t1.trans k2
      have hR2 := k2.k _ _ hR (noBag_rows pr).2
      have pr2 : Paired (RowM H R H2) us rs := Paired.mapP pr fun v r h => h.keeps k2
      have hq2 := t3.k _ _ L.ob rfl
      refine ite2 (fun _ => ?_) (fun _ => ?_)
      · refine ⟨_, rfl, q, _, 0, _, rfl, rfl, .of hq2, atI_nat (j := 0) rfl, _, rfl, R, rfl, ⟨_, .of hR2⟩, fun D hD => ?_⟩
        refine lc_it (walk_list (K := K) (a := R) (xs := us)) (fun i H' => Same H2 H' ∧ ∃ vs, H' D = some (.lst vs) ∧ Paired (RowIX D H') vs (rs.take i)) ⟨Same.new hD, [], upd_same, .nil⟩ (fun i H' _ h => .of (h.1 _ _ hR2)) ?_ ?_
        · rintro i v H3 H4 hi ⟨u1, vs, u2, u3⟩ ⟨rfl, hv⟩
          obtain ⟨r, hr', t, m, rfl, _, _, _, h1, h2⟩ := paired_get pr2 hv
          refine ⟨t, _, rfl, .of (u1 _ _ h1), rfl, _, _, rfl, _, _, rfl, rfl, rfl, ?_⟩
          refine ⟨_, rfl, _, rfl, m, _, rfl, .inl ⟨.of (u1 _ _ h2), fun z hz' => ⟨by show 2 ≤ sizeLine; decide, fun t' ht' => ?_⟩⟩⟩
          have s1 := Same.new (o := .tup (r.2.map V.str)) hz'
          have s2 := s1.trans (Same.new (o := .tup [.str r.1, .ref z]) ht')
          have htD : t' ≠ D := fun e => by
            subst e
            rw [s1 _ _ u2] at ht'
            cases ht'
          have hzD : z ≠ D := fun e => by
            subst e
            rw [u2] at hz'
            cases hz'
          refine ⟨vs, s2 _ _ u2, ?_, Same.upd_new (u1.trans s2) hD, vs ++ [.ref t'], upd_same, ?_⟩
          · have e1 := paired_len u3
            have e2 := List.length_take_le' i rs
            rw [sizeLine_eq]
            omega
          · rw [take_snoc hr']
            refine paired_snoc ⟨t', z, false, rfl, htD, hzD, ?_, ?_⟩ (Paired.mapP u3 fun v q h => h.upd s2)
            · rw [upd_ne htD]
              exact upd_same
            · rw [upd_ne hzD, upd_ne (ne_of_none upd_same ht')]
              exact upd_same
        · rintro H3 ⟨u1, vs, u2, u3⟩
          rw [hul, List.take_length] at u3
          refine ⟨D, _, rfl, .inl ⟨.of u2, fun T' hT => fun x dx hx hdx hne => ?_⟩⟩
          have sT := Same.new (o := .tup vs) hT
          have s2 : Same (upd H3 T' (.tup vs)) (upd (upd (upd H3 T' (.tup vs)) dx (.own x)) x (.ins C dx [])) := fun b o e => by
            rw [upd_ne (ne_of_none e hx), upd_ne (ne_of_none e hdx)]
            exact e
          refine ⟨x, dx, c.rest, T', false, vs, rs, rfl, upd_same, s2 _ _ upd_same, Paired.mapP u3 fun v r h => (h.row.same sT).same s2, gd, nd, hz, fun H5 cx kp => ⟨rfl, by show 1 ≤ sizeLine; decide, fun ls hls => ?_⟩⟩
          rw [hce] at cx
          have s5 : Same (upd H3 T' (.tup vs)) H5 := fun b o e => kp b o (s2 b o e) (ne_of_none e hx)
          have s6 := ((u1.trans sT).trans s5).trans (Same.new (o := .lst [.ref x]) hls)
          exact k ls x _ (t3.then s6) (B2.same s6) upd_same (cx.same (Same.new hls))
      · have hsh : (PyData.list (rs.map datM)).showable = true ∧ (PyData.list (rs.map datM)).hasDict = false ∧ (PyData.list (rs.map datM)).depth ≤ 3 := by
          obtain ⟨h1, h2, h3⟩ := datM_ok rs
          rw [PyData.showable, PyData.hasDict, PyData.depth]
          exact ⟨h1, h2, by omega⟩
        have hlen := datM_len gd hz
        have hun : ∀ X : Nat, X ≤ 3 → (A.deeper (envOfC "_law_made_carry" (defScope lMade) s.heap.objs.size f cdv)).units + (X + 1) < cLine := fun X hX => by
          have := hr.units
          omega
        refine ⟨_, rfl, hG, R, _, rfl, .lst (.of hR2) (dp_rows pr2), hsh.1, hsh.2.1, hlen, hun _ hsh.2.2, ?_⟩
        refine ⟨_, rfl, q, _, 0, _, rfl, rfl, .of hq2, atI_nat (j := 0) rfl, _, rfl, fun x dx hx hdx hne => ?_⟩
        have s2 : Same H2 (upd (upd H2 dx (.own x)) x (.ins C dx [])) := fun b o e => by
          rw [upd_ne (ne_of_none e hx), upd_ne (ne_of_none e hdx)]
          exact e
        refine ⟨x, dx, c.rest, R, true, us, rs, rfl, upd_same, s2 _ _ hR2, Paired.mapP pr2 fun v r h => h.row.same s2, gd, nd, hz, fun H5 cx kp => ⟨rfl, ?_⟩⟩
        rw [hce] at cx
        have s5 : Same H2 H5 := fun b o e => kp b o (s2 b o e) (ne_of_none e hx)
        have pr5 : Paired (RowM H R H5) us rs := Paired.mapP pr2 fun v r h => h.keeps (Same.keeps s5)
        refine ⟨_, rfl, hG, R, _, rfl, .lst (.of (s5 _ _ hR2)) (dp_rows pr5), hsh.1, hsh.2.1, hlen, hun _ hsh.2.2, _, rfl, rfl, ?_⟩
        rw [decide_eq_true rfl]
        refine ⟨_, rfl, R, rfl, ⟨_, .of (s5 _ _ hR2)⟩, ?_⟩
        refine for_it (walk_list (K := K) (a := R) (xs := us)) (fun i σ H' => (∃ u6 u7, σ = [some (.ref b), some (.ref q), some (.ref R), some (.str (PyData.list (rs.map datM)).shown), some (.ref x), some (.bl true), u6, u7]) ∧ Keeps H H' ∧ BagAt H' b l ∧ H' R = some (.lst us) ∧ CarryAt C H' x c ∧ ∀ v ∈ us, RowA H R (60 + i) H' v)
          ⟨⟨_, _, rfl⟩, t3.then s5, B2.same s5, s5 _ _ hR2, cx, fun v hv => ?_⟩ (fun i σ H' _ h => .of h.2.2.2.1) ?_ ?_
        · obtain ⟨i, hi⟩ := List.mem_iff_getElem?.mp hv
          obtain ⟨r, hr', t, m, e, n1, n2, n3, h1, h2⟩ := paired_get pr5 hi
          exact ⟨t, r.1, m, _, e, n2, n3, h1, h2, by rw [List.length_map]; exact (gd r (List.mem_of_getElem? hr')).2⟩
        · rintro i v σ H6 H7 hi ⟨⟨u6, u7, rfl⟩, w1, w2, w3, w4, w5⟩ ⟨rfl, hv⟩
          obtain ⟨t, k', m, xs, rfl, n1, n2, h1, h2, h3⟩ := w5 v (List.mem_of_getElem? hv)
          refine ⟨t, _, rfl, .of h1, rfl, _, _, rfl, _, _, rfl, rfl, ?_⟩
          refine ⟨_, rfl, .inl ⟨rfl, _, .of h2⟩, _, rfl, m, xs, _, rfl, rfl, h2, by rw [sizeLine_eq]; omega, ⟨_, _, rfl⟩, w1.upd_new n2, w2.upd (hB.there n2), by rw [upd_ne n1.symm]; exact w3, w4.updl h2, fun v hv => (w5 v hv).upd h2 ?_⟩
          rw [List.length_append]
          show xs.length + 1 ≤ _
          omega
        · rintro σ H6 ⟨⟨u6, u7, rfl⟩, w1, w2, w3, w4, w5⟩
          refine ⟨_, rfl, .inl ⟨rfl, _, .of w3⟩, R, us, rfl, rfl, w3, ?_⟩
          have w1' := w1.upd_new (o := .lst []) hRn
          have w2' := w2.upd (o := .lst []) (hB.there hRn)
          have w4' := w4.updl (ys := []) w3
          refine ⟨_, rfl, by show 1 ≤ sizeLine; decide, fun l3 hl3 => ⟨_, rfl, .inr ⟨_, rfl, l3, _, _, rfl, rfl, upd_same, by decide, by decide, by show 1 * 1 ≤ sizeLine; decide, fun ls hls => ?_⟩⟩⟩
          have s8 := (Same.new (o := .lst [.ref x]) hl3).trans (Same.new (o := .lst (List.replicate (if true = true then (1 : Int) else 0).toNat [V.ref x]).flatten) hls)
          exact k ls x _ (w1'.then s8) (w2'.same s8) upd_same (w4'.same s8)
end
end VC
set_option Elab.async false
set_option linter.all false
set_option maxRecDepth 100000
set_option maxHeartbeats 4000000
/-! The law itself. -/
namespace VC
open PySem PySem.Spec PyProof.Rows L2
theorem Keeps.car {C : Addr} {H H' : Hp} {x : Addr} {c : Ca} (s : Keeps H H') (h : CarryAt C H x c) : CarryAt C H' x c := by
  obtain ⟨d, es, ce⟩ := h
  obtain ⟨dx, hx⟩ := ce.ob
  exact ⟨d, es, ⟨dx, s.k _ _ hx rfl⟩, s.k _ _ ce.dc rfl, ce.nd, fun e he => ⟨s.k _ _ (ce.vals e he).1 rfl, (ce.vals e he).2⟩, ce.out⟩
theorem str_ref_ne {H : Hp} {l m : Addr} {ys : List Str} {xs : List Addr} (h : H l = some (.lst (ys.map V.str))) (h' : H m = some (.lst (xs.map V.ref))) (hx : xs ≠ []) : l ≠ m := by
  refine ne_of h h' fun e => ?_
  injection e with e
  cases xs with
  | nil => exact hx rfl
  | cons x xs =>
    cases ys with
    | nil => cases e
    | cons y ys =>
      rw [List.map_cons, List.map_cons] at e
      injection e with e _
      cases e
theorem LawAt.updr {ws : List Str} {H : Hp} {q m : Addr} {c : Ca} {xs : List Addr} {o : HO} (h : LawAt ws H q c) (hm : H m = some (.lst (xs.map V.ref))) (hx : xs ≠ []) : LawAt ws (upd H m o) q c := by
  obtain ⟨d, es, L⟩ := h
  refine ⟨d, es, ?_, ?_, L.nd, fun e he => ⟨?_, (L.vals e he).2⟩, L.ins, L.out⟩
  · rw [upd_ne (ne_of L.ob hm (by intro z; cases z))]
    exact L.ob
  · rw [upd_ne (ne_of L.dc hm (by intro z; cases z))]
    exact L.dc
  · rw [upd_ne (str_ref_ne (L.vals e he).1 hm hx)]
    exact (L.vals e he).1
theorem BagAt.updr {H : Hp} {b l m : Addr} {xs : List Addr} {o : HO} (h : BagAt H b l) (hm : H m = some (.lst (xs.map V.ref))) (hx : xs ≠ []) : BagAt (L2.upd H m o) b l := by
  obtain ⟨x, y, z, ns, h1, h2, h3, h4⟩ := h
  refine ⟨x, y, z, ns, ?_, h2, ?_, h4⟩
  · rw [upd_ne (ne_of h1 hm fun e => ?_)]
    · exact h1
    · injection e with e
      cases xs with
      | nil => cases e
      | cons x xs =>
        rw [List.map_cons] at e
        injection e with e _
        cases e
  · rw [upd_ne (ne_of h3 hm fun e => ?_)]
    · exact h3
    · injection e with e
      cases xs with
      | nil => exact hx rfl
      | cons x xs =>
        cases ns with
        | nil => cases e
        | cons n ns =>
          rw [List.map_cons, List.map_cons] at e
          injection e with e _
          cases e
/-- the state of one round -/
structure Rnd (C b l : Addr) (ws : List Str) (w sv sm : Addr) (qs xs : List Addr) (cs : List Ca) (n : Nat) (H : Hp) : Prop where
  B : BagAt H b l
  hw : H w = some (.lst (ws.map V.str))
  hv : H sv = some (.lst (qs.map V.ref))
  hm : H sm = some (.lst (xs.map V.ref))
  lq : Paired (fun q c => LawAt ws H q c ∧ c.Ok ws) qs cs
  cx : Paired (fun x c => CarryAt C H x c) xs cs
  ne : sv ≠ sm
  n1 : 5 ≤ cs.length
  n2 : cs.length ≤ 5 + n
theorem Rnd.keeps {C b l : Addr} {ws : List Str} {w sv sm : Addr} {qs xs : List Addr} {cs : List Ca} {n : Nat} {H H' : Hp} (R : Rnd C b l ws w sv sm qs xs cs n H) (s : Keeps H H') (B : BagAt H' b l) : Rnd C b l ws w sv sm qs xs cs n H' :=
  ⟨B, s.k _ _ R.hw (noBag_strs _), s.k _ _ R.hv (noBag_refs _), s.k _ _ R.hm (noBag_refs _), Paired.mapP R.lq fun _ _ h => ⟨h.1.keeps s, h.2⟩, Paired.mapP R.cx fun _ _ h => s.car h, R.ne, R.n1, R.n2⟩
theorem Rnd.same {C b l : Addr} {ws : List Str} {w sv sm : Addr} {qs xs : List Addr} {cs : List Ca} {n : Nat} {H H' : Hp} (R : Rnd C b l ws w sv sm qs xs cs n H) (s : Same H H') : Rnd C b l ws w sv sm qs xs cs n H' :=
  R.keeps (Same.keeps s) (R.B.same s)
theorem Rnd.len {C b l : Addr} {ws : List Str} {w sv sm : Addr} {qs xs : List Addr} {cs : List Ca} {n : Nat} {H : Hp} (R : Rnd C b l ws w sv sm qs xs cs n H) : qs.length = cs.length ∧ xs.length = cs.length := ⟨paired_len R.lq, paired_len R.cx⟩
theorem Rnd.at_ {C b l : Addr} {ws : List Str} {w sv sm : Addr} {qs xs : List Addr} {cs : List Ca} {n : Nat} {H : Hp} (R : Rnd C b l ws w sv sm qs xs cs n H) {i : Int} (h0 : 0 ≤ i) (h1 : i < (qs.map V.ref).length) :
    ∃ q x c, atI (qs.map V.ref) i = some (.ref q) ∧ atI (xs.map V.ref) i = some (.ref x) ∧ LawAt ws H q c ∧ c.Ok ws ∧ CarryAt C H x c := by
  obtain ⟨j, rfl⟩ : ∃ j : Nat, i = (j : Int) := ⟨i.toNat, by omega⟩
  obtain ⟨e1, e2⟩ := R.len
  rw [List.length_map] at h1
  have hj : j < qs.length := by omega
  have hq : qs[j]? = some qs[j] := List.getElem?_eq_getElem hj
  have hjx : j < xs.length := by omega
  have hx : xs[j]? = some xs[j] := List.getElem?_eq_getElem hjx
  obtain ⟨c, hc, h2, h3⟩ := paired_get R.lq hq
  obtain ⟨c', hc', h4⟩ := paired_get R.cx hx
  rw [hc] at hc'
  cases hc'
  exact ⟨qs[j], xs[j], c, atI_nat (by rw [List.getElem?_map, hq]; rfl), atI_nat (by rw [List.getElem?_map, hx]; rfl), h2, h3, h4⟩
/-- one more on both lists -/
theorem Rnd.push1 {C b l : Addr} {ws : List Str} {w sv sm : Addr} {qs xs : List Addr} {cs : List Ca} {n : Nat} {H : Hp} {vs : List V} (R : Rnd C b l ws w sv sm qs xs cs n H) (hws : ws ≠ []) : BagAt (upd H sv (.lst vs)) b l ∧ (upd H sv (.lst vs)) w = some (.lst (ws.map V.str)) ∧ (upd H sv (.lst vs)) sm = some (.lst (xs.map V.ref)) ∧
    Paired (fun q c => LawAt ws (upd H sv (.lst vs)) q c ∧ c.Ok ws) qs cs ∧ Paired (fun x c => CarryAt C (upd H sv (.lst vs)) x c) xs cs := by
  have hne : qs ≠ [] := fun e => by
    have := R.len.1
    have := R.n1
    rw [e] at *
    simp only [List.length_nil] at *
    omega
  exact ⟨R.B.updr R.hv hne, by rw [upd_ne (str_ref_ne R.hw R.hv hne)]; exact R.hw, by rw [upd_ne R.ne.symm]; exact R.hm, Paired.mapP R.lq fun _ _ h => ⟨h.1.updr R.hv hne, h.2⟩, Paired.mapP R.cx fun _ _ h => h.updl R.hv⟩
theorem LawE.updn {ws : List Str} {H : Hp} {q d D : Addr} {c : Ca} {es : List RowE} {o : HO} (h : LawE ws H q c d es) (n1 : q ≠ D) (n2 : d ≠ D) (n3 : ∀ e ∈ es, e.2.1 ≠ D) : LawE ws (L2.upd H D o) q c d es :=
  ⟨by rw [upd_ne n1]; exact h.ob, by rw [upd_ne n2]; exact h.dc, h.nd, fun e he => ⟨by rw [upd_ne (n3 e he)]; exact (h.vals e he).1, (h.vals e he).2⟩, h.ins, h.out⟩
theorem law_upd_refs {ws : List Str} {H : Hp} {D : Addr} {qs : List Addr} {cs : List Ca} {o : HO} (h : Paired (fun q c => LawAt ws H q c ∧ c.Ok ws) qs cs) (hD : H D = some (.lst (qs.map V.ref))) : Paired (fun q c => LawAt ws (L2.upd H D o) q c ∧ c.Ok ws) qs cs := by
  cases h with
  | nil => exact .nil
  | cons h1 h2 =>
    exact .cons ⟨h1.1.updr hD (by simp), h1.2⟩ (Paired.mapP h2 fun _ _ h => ⟨h.1.updr hD (by simp), h.2⟩)
theorem law_keeps {ws : List Str} {H H' : Hp} {qs : List Addr} {cs : List Ca} (s : Keeps H H') (h : Paired (fun q c => LawAt ws H q c ∧ c.Ok ws) qs cs) : Paired (fun q c => LawAt ws H' q c ∧ c.Ok ws) qs cs := Paired.mapP h fun _ _ h => ⟨h.1.keeps s, h.2⟩
theorem paired_app {α β : Type} {R : α → β → Prop} : ∀ {as as' : List α} {bs bs' : List β}, Paired R as bs → Paired R as' bs' → Paired R (as ++ as') (bs ++ bs')
  | _, _, _, _, .nil, h => h
  | _, _, _, _, .cons r t, h => .cons r (paired_app t h)
def emptyC (b : Bool) : Ca := ⟨b, unl b⟩
theorem empty_ok (ws : List Str) (b : Bool) : (emptyC b).Ok ws := ⟨fun r => unl_up b r, fun r hr x hx => by rw [(mem_unl.mp hx).2]; exact hr, fun r _ => rfl⟩
theorem empty_at {ws : List Str} {H : Hp} {q d : Addr} {b : Bool} (hq : H q = some (.tup [.bl b, .ref d])) (hd : H d = some (.dK [])) : LawAt ws H q (emptyC b) :=
  ⟨d, [], hq, hd, List.nodup_nil, fun e he => (by cases he), fun e he => (by cases he), fun r _ => rfl⟩
section
variable {P : Program} {w : World} {K : PySem.W.Frag} {mg : Str → Option Value} {base : Heap} {C p g : Addr}
def spLaw (K : PySem.W.Frag) : Sp := fun vs H Q _ => ∃ a ns, vs = [V.ref a] ∧ SqL K H a ((ns : List Int).map V.int) ∧ ns.length ≤ 63 ∧ ∀ H', Q (.bl true) H'
abbrev nLaw : List Str := ["_law_script", "_law_bag_here", "_law_go", "_law_words", "_law_several", "_law_some", "_law_carry", "_law_turn", "_law_a", "_law_b", "_law_one", "_law_other", "_law_shown", "_law_dues", "_law_again", "_law_found", "_law_due", "_law_k"]
theorem scLaw : FnScope nLaw ["_law_script"] (defScope lLaw) := ⟨rfl, rfl, rfl, by decide +kernel, rfl, by decide +kernel, by decide +kernel⟩
/-- a list of carries is shown in a place of its own -/
theorem gd_rows (A' : Around) (H H1 : Hp) (l : Addr) (ps : List V) (rest : List Value) (hl : H l = some (.lst ps)) (hg : A'.guards = some [Code.builtin "list.__repr__.loop" ⟨.ref l :: rest, []⟩]) (sm : Same H H1) : GdR A' H1 := by
  refine ⟨_, hg, fun b hb => Clear.cons (Clear.nil _) fun e => ?_⟩
  subst e
  have h1 := sm _ _ hl
  rcases hb with hb | ⟨xs, hb⟩
  · rw [h1] at hb
    cases hb
  · rw [h1] at hb
    cases hb
theorem Rnd.repr {C b l : Addr} {ws : List Str} {w sv sm : Addr} {qs xs : List Addr} {cs : List Ca} {n : Nat} {H : Hp} (R : Rnd C b l ws w sv sm qs xs cs n H) (wok : WsOk ws) (hn : n ≤ 10) :
    xs ≠ [] ∧ (cs.map (carText ws)).length = xs.length ∧ (∀ (i : Nat) p t, xs[i]? = some p → (cs.map (carText ws))[i]? = some t → ShowsAs C (spRepr C) H p t) ∧ (listText (cs.map (carText ws))).length ≤ sizeLine := by
  have hl := R.len
  refine ⟨fun e => ?_, by rw [List.length_map, hl.2], fun i p t hp ht => ?_, ?_⟩
  · have := R.n1
    rw [e] at hl
    simp only [List.length_nil] at hl
    omega
  · obtain ⟨c, hc, rfl⟩ := map_get ht
    obtain ⟨c', hc', ca⟩ := paired_get R.cx hp
    rw [hc] at hc'
    cases hc'
    have hil : i < qs.length := by
      rw [hl.1]
      exact (List.getElem?_eq_some_iff.mp hc).1
    obtain ⟨c', hc', _, ok⟩ := paired_get R.lq (List.getElem?_eq_getElem hil)
    rw [hc] at hc'
    cases hc'
    have ⟨d, es, ce⟩ := ca
    obtain ⟨dx, hx⟩ := ce.ob
    exact ⟨⟨dx, _, hx⟩, fun H1 Q s h => ⟨p, c, ws, rfl, ca.same s, ok, wok, h⟩⟩
  · have h1 := listText_len_le (cs.map (carText ws))
    have h2 := sum_le (l := (cs.map (carText ws)).map (·.length)) (n := 20020) fun y hy => by
      rw [List.map_map] at hy
      obtain ⟨c, hc, rfl⟩ := List.mem_map.mp hy
      obtain ⟨i, hi⟩ := List.mem_iff_getElem?.mp hc
      have hil : i < qs.length := by
        rw [hl.1]
        exact (List.getElem?_eq_some_iff.mp hi).1
      obtain ⟨c', hc', _, ok⟩ := paired_get R.lq (List.getElem?_eq_getElem hil)
      rw [hi] at hc'
      cases hc'
      exact car_len ok wok
    simp only [List.length_map] at h1 h2
    have := R.n2
    have : cs.length * 20020 ≤ 15 * 20020 := Nat.mul_le_mul_right _ (by omega)
    rw [sizeLine_eq]
    omega
theorem Rnd.mono {C b l : Addr} {ws : List Str} {w sv sm : Addr} {qs xs : List Addr} {cs : List Ca} {n m : Nat} {H : Hp} (R : Rnd C b l ws w sv sm qs xs cs n H) (h : n ≤ m) : Rnd C b l ws w sv sm qs xs cs m H :=
  ⟨R.B, R.hw, R.hv, R.hm, R.lq, R.cx, R.ne, R.n1, by have := R.n2; omega⟩
theorem bools_ok (t u v : Bool) : (PyData.list [.bool t, .bool u, .bool v]).showable = true ∧ (PyData.list [.bool t, .bool u, .bool v]).hasDict = false ∧ (PyData.list [.bool t, .bool u, .bool v]).shown.length ≤ sizeLine ∧ (PyData.list [.bool t, .bool u, .bool v]).depth ≤ 3 := by
  refine ⟨by simp [PyData.showable, PyData.showableAll], by simp [PyData.hasDict, PyData.hasDictAll], ?_, by simp [PyData.depth, PyData.depthAll]⟩
  have h1 := listText_len_le (PyData.shownAll [.bool t, .bool u, .bool v])
  have h2 : ∀ b : Bool, (PyData.bool b).shown.length ≤ 5 := fun b => by cases b <;> simp [PyData.shown] <;> decide
  have ht := h2 t
  have hu := h2 u
  have hv := h2 v
  simp only [PyData.shownAll, List.map_cons, List.map_nil, List.sum_cons, List.sum_nil, List.length_cons, List.length_nil] at h1
  rw [PyData.shown, sizeLine_eq]
  simp only [PyData.shownAll]
  omega
structure Callees (P : Program) (w : World) (K : PySem.W.Frag) (mg : Str → Option Value) (base : Heap) (C : Addr) (fB fT fL fD fM fP fJ fS fW fMul fOr fWi fRp : Addr) (dB dT dL dD dM dP dJ dS dW dMul dOr dWi dRp : FuncData) : Prop where
  gB : mg "_law_bag" = some (.ref fB)
  kB : PySem.W.keepIn K (.ref fB) = true
  bB : Binds K dB ["_law_script"] []
  GB : FnOk P w K mg base CX0 1 fB dB ["_law_script"] (spBag K)
  gT : mg "_law_take" = some (.ref fT)
  kT : PySem.W.keepIn K (.ref fT) = true
  bT : Binds K dT ["_law_bag_here", "_law_many"] []
  GT : FnOk P w K mg base CX0 1 fT dT ["_law_bag_here", "_law_many"] spTake
  gL : mg "_law_labels" = some (.ref fL)
  kL : PySem.W.keepIn K (.ref fL) = true
  bL : Binds K dL ["_law_bag_here", "_law_many"] []
  GL : FnOk P w K mg base CX0 2 fL dL ["_law_bag_here", "_law_many"] spLabels
  gD : mg "_law_drawn_carry" = some (.ref fD)
  kD : PySem.W.keepIn K (.ref fD) = true
  bD : Binds K dD ["_law_bag_here", "_law_words"] []
  GD : FnOk P w K mg base CX0 2 fD dD ["_law_bag_here", "_law_words"] spDrawn
  gM : mg "_law_made_carry" = some (.ref fM)
  kM : PySem.W.keepIn K (.ref fM) = true
  bM : Binds K dM ["_law_bag_here", "_law_carry"] []
  GM : FnG P w K mg base CX0 6 fM dM ["_law_bag_here", "_law_carry"] G0 (spMade C)
  gP : mg "_law_product" = some (.ref fP)
  kP : PySem.W.keepIn K (.ref fP) = true
  bP : Binds K dP ["_law_one", "_law_other", "_law_words"] []
  GP : FnOk P w K mg base CX0 2 fP dP ["_law_one", "_law_other", "_law_words"] (spLOp mulC)
  gJ : mg "_law_joint" = some (.ref fJ)
  kJ : PySem.W.keepIn K (.ref fJ) = true
  bJ : Binds K dJ ["_law_one", "_law_other", "_law_words"] []
  GJ : FnOk P w K mg base CX0 2 fJ dJ ["_law_one", "_law_other", "_law_words"] (spLOp orC)
  gS : mg "_law_shown_right" = some (.ref fS)
  kS : PySem.W.keepIn K (.ref fS) = true
  bS : Binds K dS ["_law_found", "_law_due", "_law_words"] []
  GS : FnG P w K mg base CX0 3 fS dS ["_law_found", "_law_due", "_law_words"] G0 (spShown C)
  gW : mg "_law_is_within" = some (.ref fW)
  kW : PySem.W.keepIn K (.ref fW) = true
  bW : Binds K dW ["_law_one", "_law_other", "_law_words"] []
  GW : FnOk P w K mg base CX0 2 fW dW ["_law_one", "_law_other", "_law_words"] spLWithin
  sMul : PySem.W.findIn K (.ref C) "__mul__" = some (some (.ref fMul))
  iMul : PySem.W.isFn K (.ref fMul) = true
  bMul : Binds K dMul ["self", "other"] []
  GMul : FnOk P w K mg base CX0 6 fMul dMul ["self", "other"] (spOp C mulC)
  sOr : PySem.W.findIn K (.ref C) "__or__" = some (some (.ref fOr))
  iOr : PySem.W.isFn K (.ref fOr) = true
  bOr : Binds K dOr ["self", "other"] []
  GOr : FnOk P w K mg base CX0 6 fOr dOr ["self", "other"] (spOp C orC)
  mWi : Meth K C "within" fWi
  bWi : Binds K dWi ["self", "other"] []
  GWi : FnOk P w K mg base CX0 3 fWi dWi ["self", "other"] (spWithin C)
  sRp : PySem.W.findIn K (.ref C) "__repr__" = some (some (.ref fRp))
  iRp : PySem.W.isFn K (.ref fRp) = true
  bRp : Binds K dRp ["self"] []
  GRp : FnG P w K mg base CX0 2 fRp dRp ["self"] GdR (spRepr C)
  sf : PySem.W.selfFirst K C = true
theorem ok_law {f fB fT fL fD fM fP fJ fS fW fMul fOr fWi fRp : Addr} {fd dB dT dL dD dM dP dJ dS dW dMul dOr dWi dRp : FuncData} (F : L2.Fun K "law" "law" lLaw f fd) (T : Txt K mg C p g)
    (Z : Callees P w K mg base C fB fT fL fD fM fP fJ fS fW fMul fOr fWi fRp dB dT dL dD dM dP dJ dS dW dMul dOr dWi dRp) :
    FnG P w K mg base CX0 7 f fd ["_law_script"] G0 (spLaw K) := by
  refine Fun.okG F scLaw (fun vs H Q E h => ?_) (fun cdv A outer s H vs Q E hr hG h => ?_)
  · obtain ⟨a, ns, rfl, _⟩ := h
    rfl
  · obtain ⟨a, ns, rfl, hS, hz, k⟩ := h
    have hr1 : Room 1 _ := hr.mono (by decide)
    have hr2 : Room 2 _ := hr.mono (by decide)
    have hr3 : Room 3 _ := hr.mono (by decide)
    have hr4 : Room 4 _ := hr.mono (by decide)
    refine ⟨_, pss_cons (ps_set (i := 1) scLaw.nd rfl (Or.inr rfl) (pe_call Z.GB hr1 rfl Z.gB Z.kB Z.bB .nil pass0 (pa_cons (pv 0) pa_nil)))
      (pss_cons (ps_for PassesOwn.never rfl (pi_range1 rfl T.range (pa_cons pe_int pa_nil)) (pg_name (i := 2) scLaw.nd rfl (Or.inl rfl))
        (pss_cons (ps_set (i := 3) scLaw.nd rfl (Or.inr rfl) (pe_call Z.GL hr2 rfl Z.gL Z.kL Z.bL .nil pass0 (pa_cons (pv 1) (pa_cons pe_int pa_nil))))
        (pss_cons (ps_set (i := 4) scLaw.nd rfl (Or.inl rfl) (pe_op op_cat
            (pe_lc (own := [("_law_k", 17)]) (g := gName 17) (tt := tYes) (by rfl) scLaw.nd (pi_range1 rfl T.range (pa_cons pe_int pa_nil))
              (blkOk_by (own := [("_law_k", 17)]) (N := nLaw) (sc := defScope lLaw) (by decide +kernel))
              (fun _ _ _ _ _ => pg_name (i := 17) scLaw.nd rfl (Or.inl rfl)) (fun _ _ _ _ _ => pts_nil)
              (fun _ _ _ _ _ => pe_call Z.GD hr2 rfl Z.gD Z.kD Z.bD .nil pass0 (pa_cons (pv 1) (pa_cons (pv 3) pa_nil))))
            (pe_lst (pa_cons (pe_tup (pa_cons pe_bl (pa_cons pe_dnewK pa_nil))) (pa_cons (pe_tup (pa_cons pe_bl (pa_cons pe_dnewK pa_nil))) pa_nil)))))
        (pss_cons (ps_set (i := 5) scLaw.nd rfl (Or.inl rfl) (pe_lst pa_nil))
        (Evl.pss_cut (ps_for PassesOwn.never rfl (pi_list (pv 4)) (pg_name (i := 6) scLaw.nd rfl (Or.inl rfl))
            (pss_one (ps_expr (pe_bm PySem.F.plainAttrs_list PySem.F.slot_list_extend PySem.F.type_list_extend mt_extend (pv 5) (pa_cons (pe_callG Z.GM hr rfl Z.gM Z.kM Z.bM pass0 (pa_cons (pv 1) (pa_cons (pv 6) pa_nil))) pa_nil)))))
        (pss_cons (ps_if (pt_cmpR op_ne (pe_callB call_len_seq (by rfl) T.len (by decide +kernel) (pa_cons (pv 5) pa_nil)) (pe_callB call_len_seq (by rfl) T.len (by decide +kernel) (pa_cons (pv 4) pa_nil)) (nomark _)) (pss_one (ps_ret pe_bl)) pss_nil)
        (pss_one (ps_for PassesOwn.never rfl (pi_range1 rfl T.range (pa_cons pe_int pa_nil)) (pg_name (i := 7) scLaw.nd rfl (Or.inl rfl))
          (pss_cons (ps_par (i := 8) (j := 9) rfl scLaw.nd rfl rfl (by decide) rfl rfl
              (pa_cons (pe_call Z.GT hr1 rfl Z.gT Z.kT Z.bT .nil pass0 (pa_cons (pv 1) (pa_cons (pe_callB call_len_seq (by rfl) T.len (by decide +kernel) (pa_cons (pv 4) pa_nil)) pa_nil)))
              (pa_cons (pe_call Z.GT hr1 rfl Z.gT Z.kT Z.bT .nil pass0 (pa_cons (pv 1) (pa_cons (pe_callB call_len_seq (by rfl) T.len (by decide +kernel) (pa_cons (pv 4) pa_nil)) pa_nil))) pa_nil)) rfl)
          (pss_cons (ps_par3 (i := 10) (j := 11) (l := 12) rfl scLaw.nd rfl rfl rfl (by decide) (by decide) (by decide) rfl rfl rfl
              (pa_cons (pe_ix ix_list (pv 4) (pv 8) (fun _ _ => rfl)) (pa_cons (pe_ix ix_list (pv 4) (pv 9) (fun _ _ => rfl)) (pa_cons (pe_callB (cr_reprOwn Z.GRp Z.bRp Z.sRp Z.iRp hr4 gd_rows) (by rfl) T.repr (by decide +kernel) (pa_cons (pv 5) pa_nil)) pa_nil))) rfl)
          (Evl.pss_cut (ps_set (i := 13) scLaw.nd rfl (Or.inl rfl) (pe_lst (pa_cons (pe_call Z.GP hr2 rfl Z.gP Z.kP Z.bP .nil pass0 (pa_cons (pv 10) (pa_cons (pv 11) (pa_cons (pv 3) pa_nil))))
              (pa_cons (pe_call Z.GJ hr2 rfl Z.gJ Z.kJ Z.bJ .nil pass0 (pa_cons (pv 10) (pa_cons (pv 11) (pa_cons (pv 3) pa_nil)))) pa_nil))))
          (Evl.pss_cut (ps_for PassesOwn.never rfl (pi_range1 rfl T.range (pa_cons pe_int pa_nil)) (pg_name (i := 14) scLaw.nd rfl (Or.inl rfl))
            (pss_cons (ps_if (pt_not (pt_val (pe_callG Z.GS hr3 rfl Z.gS Z.kS Z.bS pass0 (pa_cons (pe_op (op_own rfl Z.sMul Z.iMul Z.sf Z.GMul hr Z.bMul pass0) (pe_ix ix_list (pv 5) (pv 8) (fun _ _ => rfl)) (pe_ix ix_list (pv 5) (pv 9) (fun _ _ => rfl))) (pa_cons (pe_ix ix_list (pv 13) pe_int (fun _ _ => rfl)) (pa_cons (pv 3) pa_nil)))))) (pss_one (ps_ret pe_bl)) pss_nil)
            (pss_one (ps_if (pt_not (pt_val (pe_callG Z.GS hr3 rfl Z.gS Z.kS Z.bS pass0 (pa_cons (pe_op (op_own rfl Z.sOr Z.iOr Z.sf Z.GOr hr Z.bOr pass0) (pe_ix ix_list (pv 5) (pv 8) (fun _ _ => rfl)) (pe_ix ix_list (pv 5) (pv 9) (fun _ _ => rfl))) (pa_cons (pe_ix ix_list (pv 13) pe_int (fun _ _ => rfl)) (pa_cons (pv 3) pa_nil)))))) (pss_one (ps_ret pe_bl)) pss_nil))))
          (pss_cons (ps_set (i := 15) scLaw.nd rfl (Or.inl rfl) (pe_lst
              (pa_cons (pe_meth (pe_ix ix_list (pv 5) (pv 8) (fun _ _ => rfl)) T.cl Z.mWi Z.GWi hr3 Z.bWi .nil pass0 (pa_cons (pe_ix ix_list (pv 5) (pv 9) (fun _ _ => rfl)) pa_nil))
              (pa_cons (pe_meth (pe_ix ix_list (pv 5) (pv 9) (fun _ _ => rfl)) T.cl Z.mWi Z.GWi hr3 Z.bWi .nil pass0 (pa_cons (pe_ix ix_list (pv 5) (pv 8) (fun _ _ => rfl)) pa_nil))
              (pa_cons (pe_meth (pe_ix ix_list (pv 5) (pv 8) (fun _ _ => rfl)) T.cl Z.mWi Z.GWi hr3 Z.bWi .nil pass0 (pa_cons (pe_op (op_own rfl Z.sOr Z.iOr Z.sf Z.GOr hr Z.bOr pass0) (pe_ix ix_list (pv 5) (pv 8) (fun _ _ => rfl)) (pe_ix ix_list (pv 5) (pv 9) (fun _ _ => rfl))) pa_nil)) pa_nil)))))
          (pss_cons (ps_set (i := 16) scLaw.nd rfl (Or.inl rfl) (pe_lst
              (pa_cons (pe_call Z.GW hr2 rfl Z.gW Z.kW Z.bW .nil pass0 (pa_cons (pv 10) (pa_cons (pv 11) (pa_cons (pv 3) pa_nil))))
              (pa_cons (pe_call Z.GW hr2 rfl Z.gW Z.kW Z.bW .nil pass0 (pa_cons (pv 11) (pa_cons (pv 10) (pa_cons (pv 3) pa_nil))))
              (pa_cons pe_bl pa_nil)))))
          (pss_cons (ps_if (PW.pt (pw_or (pt_cmpR op_ne (pe_callB cr_reprD (by rfl) T.repr (by decide +kernel) (pa_cons (pv 15) pa_nil)) (pe_callB cr_reprD (by rfl) T.repr (by decide +kernel) (pa_cons (pv 16) pa_nil)) (nomark _))
              (pw_or1 (pt_cmpR op_ne (pe_callB (cr_reprOwn Z.GRp Z.bRp Z.sRp Z.iRp hr4 gd_rows) (by rfl) T.repr (by decide +kernel) (pa_cons (pv 5) pa_nil)) (pv 12) (nomark _))))) (pss_one (ps_ret pe_bl)) pss_nil)
          (pss_one (ps_if (pt_cmpR op_eq (pv 7) pe_int (nomark _))
            (pss_cons (ps_expr (pe_bm PySem.F.plainAttrs_list PySem.F.slot_list_append PySem.F.type_list_append mt_append (pv 4) (pa_cons (pe_ix ix_list (pv 13) pe_int (fun _ _ => rfl)) pa_nil)))
            (pss_one (ps_expr (pe_bm PySem.F.plainAttrs_list PySem.F.slot_list_append PySem.F.type_list_append mt_append (pv 5) (pa_cons (pe_op (op_own rfl Z.sMul Z.iMul Z.sf Z.GMul hr Z.bMul pass0) (pe_ix ix_list (pv 5) (pv 8) (fun _ _ => rfl)) (pe_ix ix_list (pv 5) (pv 9) (fun _ _ => rfl))) pa_nil))))) pss_nil)))))))))))))))))
      (pss_one (ps_ret pe_bl))), ?_⟩
    refine ⟨_, rfl, a, ns, rfl, hS, hz, fun b l H1 s1 B1 => ?_⟩
    refine ⟨3, rfl, by decide, by decide, ?_⟩
    refine for_it walk_range (fun i σ H' => (∃ u2 u3 u4 u5 u6 u7 u8 u9 u10 u11 u12 u13 u14 u15 u16, σ = [some (.ref a), some (.ref b), u2, u3, u4, u5, u6, u7, u8, u9, u10, u11, u12, u13, u14, u15, u16, none]) ∧ BagAt H' b l)
      ⟨⟨_, _, _, _, _, _, _, _, _, _, _, _, _, _, _, rfl⟩, B1⟩ (fun _ _ _ _ _ => trivial) ?_ ?_
    · rintro gi v σ H2 H3 hi ⟨⟨u2, u3, u4, u5, u6, u7, u8, u9, u10, u11, u12, u13, u14, u15, u16, rfl⟩, B2⟩ ⟨rfl, rfl⟩
      refine ⟨_, rfl, b, l, rfl, B2, fun w4 ws H4 k4 B4 hw4n hw4 wl => ?_⟩
      have wok := wl.ok
      -- the drawn pairs
      refine ⟨3, rfl, by decide, by decide, fun D hD => ?_⟩
      have hwD : w4 ≠ D := ne_of_none hw4 hD
      have hBD := B4.there hD
      refine lc_it walk_range (fun i H' => Keeps H4 H' ∧ BagAt H' b l ∧ ∃ qs cs, H' D = some (.lst (qs.map V.ref)) ∧ Paired (fun q c => LawAt ws H' q c ∧ c.Ok ws) qs cs ∧ cs.length = i)
        ⟨Same.keeps (Same.new hD), B4.same (Same.new hD), [], [], upd_same, .nil, rfl⟩ (fun _ _ _ _ => trivial) ?_ ?_
      · rintro i v H5 H6 hi ⟨t1, t2, qs, cs, t3, t4, t5⟩ ⟨rfl, rfl⟩
        refine ⟨rfl, ?_⟩
        refine ⟨_, rfl, _, rfl, b, l, w4, ws, rfl, t2, t1.k _ _ hw4 (noBag_strs _), wl, fun q c d es H7 k7 B7 hq hd hes lq oq => ?_⟩
        have hD7 := k7.k _ _ t3 (noBag_refs _)
        have hi3 : i < 3 := hi
        have hnD : ∀ z, H6 z = none → z ≠ D := fun z hz e => by
          subst e
          rw [t3] at hz
          cases hz
        refine ⟨_, hD7, ?_, (t1.trans k7).upd_new hD, B7.upd hBD, qs ++ [q], cs ++ [c], ?_, ?_, ?_⟩
        · have := paired_len t4
          rw [List.length_map, sizeLine_eq]
          omega
        · rw [upd_same, List.map_append]
          rfl
        · exact paired_snoc ⟨⟨d, es, lq.updn (hnD _ hq) (hnD _ hd) fun e he => hnD _ (hes e he)⟩, oq⟩ (law_upd_refs (law_keeps k7 t4) hD7)
        · rw [List.length_append, t5]
          rfl
      · rintro H5 ⟨t1, t2, qs, cs, t3, t4, t5⟩
        have hcs3 : cs.length = 3 := t5
        refine fun d1 hd1 => ⟨by show 2 ≤ sizeLine; decide, fun p1 hp1 => fun d2 hd2 => ⟨by show 2 ≤ sizeLine; decide, fun p2 hp2 => ⟨by show 2 ≤ sizeLine; decide, fun l3 hl3 => ?_⟩⟩⟩
        have a1 := Same.new (o := .dK []) hd1
        have a2 := Same.new (o := .tup [.bl true, .ref d1]) hp1
        have a3 := Same.new (o := .dK []) hd2
        have a4 := Same.new (o := .tup [.bl false, .ref d2]) hp2
        have a5 := Same.new (o := .lst [.ref p1, .ref p2]) hl3
        have a15 := a1.trans (a2.trans (a3.trans (a4.trans a5)))
        refine ⟨D, l3, _, _, rfl, rfl, a15 _ _ t3, upd_same, ?_, fun sv hsv => ?_⟩
        · have := paired_len t4
          rw [List.length_map, sizeLine_eq]
          show qs.length + 2 ≤ _
          omega
        have a6 := Same.new (o := .lst (qs.map V.ref ++ [.ref p1, .ref p2])) hsv
        have a16 := a15.trans a6
        have hsv6 : (upd (upd (upd (upd (upd (upd H5 d1 (.dK [])) p1 (.tup [.bl true, .ref d1])) d2 (.dK [])) p2 (.tup [.bl false, .ref d2])) l3 (.lst [.ref p1, .ref p2])) sv (.lst (qs.map V.ref ++ [.ref p1, .ref p2]))) sv = some (.lst ((qs ++ [p1, p2]).map V.ref)) := by
          rw [upd_same, List.map_append]
          rfl
        have e1 := empty_at (ws := ws) ((a3.trans (a4.trans (a5.trans a6))) _ _ upd_same) ((a2.trans (a3.trans (a4.trans (a5.trans a6)))) _ _ upd_same)
        have e2 := empty_at (ws := ws) ((a5.trans a6) _ _ upd_same) ((a4.trans (a5.trans a6)) _ _ upd_same)
        have lq6 : Paired (fun q c => LawAt ws _ q c ∧ c.Ok ws) (qs ++ [p1, p2]) (cs ++ [emptyC true, emptyC false]) := paired_app (law_keeps (Same.keeps a16) t4) (.cons ⟨e1, empty_ok ws true⟩ (.cons ⟨e2, empty_ok ws false⟩ .nil))
        have B6 := t2.same a16
        have k6 := t1.then a16
        have hw6 := k6.k _ _ hw4 (noBag_strs _)
        generalize upd (upd (upd (upd (upd (upd H5 d1 (.dK [])) p1 (.tup [.bl true, .ref d1])) d2 (.dK [])) p2 (.tup [.bl false, .ref d2])) l3 (.lst [.ref p1, .ref p2])) sv (.lst (qs.map V.ref ++ [.ref p1, .ref p2])) = H6 at hsv6 lq6 B6 hw6 ⊢
        have hcl : (cs ++ [emptyC true, emptyC false]).length = 5 := by
          rw [List.length_append, hcs3]
          rfl
        generalize qs ++ [p1, p2] = qs1 at hsv6 lq6 ⊢
        generalize cs ++ [emptyC true, emptyC false] = cs1 at lq6 hcl ⊢
        clear e1 e2 a1 a2 a3 a4 a5 a6 a15 a16 k6 t3 t4 t5
        have hql := paired_len lq6
        refine ⟨by decide, fun sm hsm => ?_⟩
        have hBs := B6.there hsm
        have hvm : sv ≠ sm := ne_of_none hsv6 hsm
        refine ⟨fun σ' H' => ∃ u6 xs, σ' = [some (.ref a), some (.ref b), some (.int (0 + (gi : Int))), some (.ref w4), some (.ref sv), some (.ref sm), u6, u7, u8, u9, u10, u11, u12, u13, u14, u15, u16, none] ∧ Rnd C b l ws w4 sv sm qs1 xs cs1 0 H', ?_, ?_⟩
        · have s7 := Same.new (o := .lst []) hsm
          refine ⟨_, rfl, sv, rfl, ⟨_, .of (s7 _ _ hsv6)⟩, ?_⟩
          refine for_it (walk_list (K := K) (a := sv) (xs := qs1.map V.ref)) (fun i σ H' => (∃ u6, σ = [some (.ref a), some (.ref b), some (.int (0 + (gi : Int))), some (.ref w4), some (.ref sv), some (.ref sm), u6, u7, u8, u9, u10, u11, u12, u13, u14, u15, u16, none]) ∧ Keeps H6 H' ∧ BagAt H' b l ∧
              ∃ xs, H' sm = some (.lst (xs.map V.ref)) ∧ Paired (fun x c => CarryAt C H' x c) xs (cs1.take i))
            ⟨⟨_, rfl⟩, Same.keeps s7, B6.same s7, [], upd_same, .nil⟩ (fun i σ H' _ h => .of (h.2.1.k _ _ hsv6 (noBag_refs _))) ?_ ?_
          · rintro i v σ H7 H8 hi ⟨⟨u6', rfl⟩, w1, w2, xs, w3, w4'⟩ ⟨rfl, hv⟩
            obtain ⟨q, hq, rfl⟩ := map_get hv
            obtain ⟨c, hc, lq, oq⟩ := paired_get lq6 hq
            refine ⟨_, rfl, .inl ⟨rfl, _, .of w3⟩, _, rfl, _, rfl, hG, b, l, q, c, ws, rfl, w2, lq.keeps w1, oq, wok, fun ls x H9 k9 B9 hls cx => ?_⟩
            have hm9 := k9.k _ _ w3 (noBag_refs _)
            refine ⟨sm, ls, _, _, rfl, rfl, hm9, hls, ?_, ⟨_, rfl⟩, (w1.trans k9).upd_new hsm, B9.upd hBs, xs ++ [x], ?_, ?_⟩
            · have h1 := paired_len w4'
              have h2 := List.length_take_le' i cs1
              rw [List.length_map, sizeLine_eq]
              show xs.length + 1 ≤ _
              omega
            · rw [upd_same, List.map_append]
              rfl
            · rw [take_snoc hc]
              exact paired_snoc (cx.updl hm9) (Paired.mapP w4' fun _ _ h => (k9.car h).updl hm9)
          · rintro σ H7 ⟨⟨u6', rfl⟩, w1, w2, xs, w3, w4'⟩
            rw [List.length_map, hql, List.take_length] at w4'
            exact ⟨u6', xs, rfl, w2, w1.k _ _ hw6 (noBag_strs _), w1.k _ _ hsv6 (noBag_refs _), w3, law_keeps w1 lq6, w4', hvm, by omega, by omega⟩
        · rintro σ' H7 ⟨u6', xs1, rfl, R0⟩
          refine ⟨_, rfl, sm, _, rfl, .inl (.of R0.hm), _, rfl, sv, _, rfl, .inl (.of R0.hv), rfl, _, rfl, ?_⟩
          refine iteNS ?_ ?_
          · rw [List.length_map, List.length_map, R0.len.1, R0.len.2]
          refine ⟨8, rfl, by decide, by decide, ?_⟩
          refine for_it walk_range (fun i σ H' => (∃ u7 u8 u9 u10 u11 u12 u13 u14 u15 u16, σ = [some (.ref a), some (.ref b), some (.int (0 + (gi : Int))), some (.ref w4), some (.ref sv), some (.ref sm), u6', u7, u8, u9, u10, u11, u12, u13, u14, u15, u16, none]) ∧ ∃ qs xs cs, Rnd C b l ws w4 sv sm qs xs cs i H')
            ⟨⟨_, _, _, _, _, _, _, _, _, _, rfl⟩, _, _, _, R0⟩ (fun _ _ _ _ _ => trivial) ?_ ?_
          · rintro ti v σ H8 H9 hti ⟨⟨v7, v8, v9, v10, v11, v12, v13, v14, v15, v16, rfl⟩, qs, xs, cs, R⟩ ⟨rfl, rfl⟩
            have hti : ti < 8 := hti
            have hn1 := R.n1
            have hn2 := R.n2
            have hql := R.len.1
            refine ⟨_, rfl, _, rfl, sv, _, rfl, .inl (.of R.hv), b, l, _, rfl, R.B, by rw [List.length_map]; omega, by rw [List.length_map]; omega, fun n1 H10 a0 a1 k10 B10 => ?_⟩
            have R10 := R.keeps k10 B10
            refine ⟨_, rfl, _, rfl, sv, _, rfl, .inl (.of R10.hv), b, l, _, rfl, R10.B, by rw [List.length_map]; omega, by rw [List.length_map]; omega, fun n2 H11 b0 b1 k11 B11 => ⟨_, _, rfl, ?_⟩⟩
            have R11 := R10.keeps k11 B11
            obtain ⟨qa, xa, ca, ia1, ia2, la, oa, cxa⟩ := R11.at_ a0 a1
            obtain ⟨qb, xb, cb, ib1, ib2, lb, ob, cxb⟩ := R11.at_ b0 b1
            have ⟨da, ea, cea⟩ := cxa
            have ⟨db, eb, ceb⟩ := cxb
            obtain ⟨dxa, hxa⟩ := cea.ob
            obtain ⟨dxb, hxb⟩ := ceb.ob
            obtain ⟨r1, r2, r3, r4⟩ := R11.repr wok (by omega)
            refine ⟨_, rfl, _, rfl, sv, _, _, _, rfl, rfl, .of R11.hv, ia1, _, rfl, _, rfl, sv, _, _, _, rfl, rfl, .of R11.hv, ib1, _, rfl, hG, sm, xs, _, rfl, R11.hm, r1, r2, r3, r4, fun H12 s12 => ⟨_, _, _, rfl, ?_⟩⟩
            refine ⟨fun σ' H' => ∃ d1 d2 du, σ' = [some (.ref a), some (.ref b), some (.int (0 + (gi : Int))), some (.ref w4), some (.ref sv), some (.ref sm), u6', some (.int (0 + (ti : Int))), some (.int n1), some (.int n2), some (.ref qa), some (.ref qb), some (.str (listText (cs.map (carText ws)))), some (.ref du), v14, v15, v16, none] ∧
              Same H11 H' ∧ LawAt ws H' d1 (mulC ca cb) ∧ LawAt ws H' d2 (orC ca cb) ∧ H' du = some (.lst [.ref d1, .ref d2]), ?_, ?_⟩
            · refine ⟨_, rfl, _, rfl, _, rfl, qa, qb, w4, ca, cb, ws, rfl, la.same s12, lb.same s12, oa, ob, wl, s12 _ _ R11.hw, fun d1 H13 s13 hd1 l1 => ?_⟩
              have s123 := s12.trans s13
              refine ⟨_, rfl, _, rfl, _, rfl, qa, qb, w4, ca, cb, ws, rfl, la.same s123, lb.same s123, oa, ob, wl, s123 _ _ R11.hw, fun d2 H14 s14 hd2 l2 => ⟨by show 2 ≤ sizeLine; decide, fun du hdu => ?_⟩⟩
              have sd := Same.new (o := .lst [.ref d1, .ref d2]) hdu
              exact ⟨d1, d2, du, rfl, (s123.trans s14).trans sd, l1.same (s14.trans sd), l2.same sd, upd_same⟩
            · rintro σ' H13 ⟨d1, d2, du, rfl, s13, l1, l2, hdu⟩
              refine ⟨fun σ' H' => ∃ v14, σ' = [some (.ref a), some (.ref b), some (.int (0 + (gi : Int))), some (.ref w4), some (.ref sv), some (.ref sm), u6', some (.int (0 + (ti : Int))), some (.int n1), some (.int n2), some (.ref qa), some (.ref qb), some (.str (listText (cs.map (carText ws)))), some (.ref du), v14, v15, v16, none] ∧ Same H13 H', ?_, ?_⟩
              · refine ⟨3, rfl, by decide, by decide, ?_⟩
                refine for_it walk_range (fun i σ' H' => ∃ v14, σ' = [some (.ref a), some (.ref b), some (.int (0 + (gi : Int))), some (.ref w4), some (.ref sv), some (.ref sm), u6', some (.int (0 + (ti : Int))), some (.int n1), some (.int n2), some (.ref qa), some (.ref qb), some (.str (listText (cs.map (carText ws)))), some (.ref du), v14, v15, v16, none] ∧ Same H13 H')
                  ⟨_, rfl, Same.refl _⟩ (fun _ _ _ _ _ => trivial) ?_ ?_
                · rintro i v σ H14 H15 hi ⟨v14, rfl, s15⟩ ⟨rfl, rfl⟩
                  have s1 := s13.trans s15
                  refine ⟨_, rfl, _, rfl, sm, _, _, _, rfl, rfl, .of (s1 _ _ R11.hm), ia2, _, rfl, _, rfl, sm, _, _, _, rfl, rfl, .of (s1 _ _ R11.hm), ib2, xa, xb, dxa, dxb, _, _, rfl, rfl, s1 _ _ hxa, s1 _ _ hxb, xa, xb, ca, cb, ws, rfl, cxa.same s1, cxb.same s1, oa, ob, wok, fun z H16 s16 hz16 cz => ?_⟩
                  refine ⟨_, rfl, du, _, 0, _, rfl, rfl, .of (s16 _ _ (s15 _ _ hdu)), atI_nat (j := 0) rfl, _, rfl, hG, z, d1, w4, mulC ca cb, ws, rfl, cz, l1.same (s15.trans s16), mul_ok oa ob, wl, (s1.trans s16) _ _ R11.hw, fun H17 s17 => ⟨true, rfl, ?_⟩⟩
                  refine iteF ?_
                  have s2 := (s15.trans s16).trans s17
                  have s3 := s13.trans s2
                  refine ⟨_, rfl, _, rfl, sm, _, _, _, rfl, rfl, .of (s3 _ _ R11.hm), ia2, _, rfl, _, rfl, sm, _, _, _, rfl, rfl, .of (s3 _ _ R11.hm), ib2, xa, xb, dxa, dxb, _, _, rfl, rfl, s3 _ _ hxa, s3 _ _ hxb, xa, xb, ca, cb, ws, rfl, cxa.same s3, cxb.same s3, oa, ob, wok, fun z H18 s18 hz18 cz => ?_⟩
                  refine ⟨_, rfl, du, _, 1, _, rfl, rfl, .of (s18 _ _ (s2 _ _ hdu)), atI_nat (j := 1) rfl, _, rfl, hG, z, d2, w4, orC ca cb, ws, rfl, cz, l2.same (s2.trans s18), or_ok oa ob, wl, (s3.trans s18) _ _ R11.hw, fun H19 s19 => ⟨true, rfl, ?_⟩⟩
                  refine iteF ?_
                  exact ⟨_, rfl, (s2.trans s18).trans s19⟩
                · rintro σ H14 ⟨v14, rfl, s14⟩
                  exact ⟨_, rfl, s14⟩
              · rintro σ' H14 ⟨v14, rfl, s14⟩
                have R11 := R11.same s13
                have hxa := s13 _ _ hxa
                have hxb := s13 _ _ hxb
                have cxa := cxa.same s13
                have cxb := cxb.same s13
                have la := la.same s13
                have lb := lb.same s13
                have s1 := s14
                -- within, by the program
                refine ⟨_, rfl, _, rfl, sm, _, _, _, rfl, rfl, .of (s1 _ _ R11.hm), ia2, xa, dxa, _, rfl, s1 _ _ hxa, fl_no _ _ (by decide +kernel) (by decide +kernel), _, rfl, _, rfl, sm, _, _, _, rfl, rfl, .of (s1 _ _ R11.hm), ib2, xa, xb, ca, cb, ws, rfl, cxa.same s1, cxb.same s1, oa, ob, wok, fun t1 H15 s15 ht1 => ?_⟩
                have s2 := s1.trans s15
                refine ⟨_, rfl, _, rfl, sm, _, _, _, rfl, rfl, .of (s2 _ _ R11.hm), ib2, xb, dxb, _, rfl, s2 _ _ hxb, fl_no _ _ (by decide +kernel) (by decide +kernel), _, rfl, _, rfl, sm, _, _, _, rfl, rfl, .of (s2 _ _ R11.hm), ia2, xb, xa, cb, ca, ws, rfl, cxb.same s2, cxa.same s2, ob, oa, wok, fun t2 H16 s16 ht2 => ?_⟩
                have s3 := s2.trans s16
                refine ⟨_, rfl, _, rfl, sm, _, _, _, rfl, rfl, .of (s3 _ _ R11.hm), ia2, xa, dxa, _, rfl, s3 _ _ hxa, fl_no _ _ (by decide +kernel) (by decide +kernel), ?_⟩
                refine ⟨_, rfl, _, rfl, sm, _, _, _, rfl, rfl, .of (s3 _ _ R11.hm), ia2, _, rfl, _, rfl, sm, _, _, _, rfl, rfl, .of (s3 _ _ R11.hm), ib2, xa, xb, dxa, dxb, _, _, rfl, rfl, s3 _ _ hxa, s3 _ _ hxb, xa, xb, ca, cb, ws, rfl, cxa.same s3, cxb.same s3, oa, ob, wok, fun z H17 s17 hz17 cz => ?_⟩
                have s4 := s3.trans s17
                refine ⟨xa, z, ca, orC ca cb, ws, rfl, cxa.same s4, cz, oa, or_ok oa ob, wok, fun t3 H18 s18 ht3 => ⟨by show 3 ≤ sizeLine; decide, fun lf hlf => ?_⟩⟩
                have s5 := s4.trans s18
                obtain rfl : t3 = true := ht3.mpr wi_or
                have s6 := s5.trans (Same.new (o := .lst [.bl t1, .bl t2, .bl true]) hlf)
                have hlf2 : (upd H18 lf (.lst [.bl t1, .bl t2, .bl true])) lf = some (.lst [.bl t1, .bl t2, .bl true]) := upd_same
                generalize upd H18 lf (.lst [.bl t1, .bl t2, .bl true]) = H19 at s6 hlf2 ⊢
                -- within, by the law
                refine ⟨_, rfl, _, rfl, _, rfl, qa, qb, w4, ca, cb, ws, rfl, la.same s6, lb.same s6, oa, ob, wl, s6 _ _ R11.hw, fun t1' H20 s20 ht1' => ?_⟩
                have s7 := s6.trans s20
                refine ⟨_, rfl, _, rfl, _, rfl, qb, qa, w4, cb, ca, ws, rfl, lb.same s7, la.same s7, ob, oa, wl, s7 _ _ R11.hw, fun t2' H21 s21 ht2' => ⟨by show 3 ≤ sizeLine; decide, fun ld hld => ?_⟩⟩
                obtain rfl : t1 = t1' := by rw [Bool.eq_iff_iff, ht1, ht1']
                obtain rfl : t2 = t2' := by rw [Bool.eq_iff_iff, ht2, ht2']
                have sld := Same.new (o := .lst [.bl t1, .bl t2, .bl true]) hld
                have s8 := (s7.trans s21).trans sld
                have hlf3 := (s20.trans (s21.trans sld)) _ _ hlf2
                have hld2 : (upd H21 ld (.lst [.bl t1, .bl t2, .bl true])) ld = some (.lst [.bl t1, .bl t2, .bl true]) := upd_same
                generalize upd H21 ld (.lst [.bl t1, .bl t2, .bl true]) = H22 at s8 hlf3 hld2 ⊢
                obtain ⟨g1, g2, g3, g4⟩ := bools_ok t1 t2 true
                have hun : ∀ X : Nat, X ≤ 3 → (A.deeper (envOfC "law" (defScope lLaw) s.heap.objs.size f cdv)).units + (X + 1) < cLine := fun X hX => by
                  have := hr.units
                  omega
                refine ⟨_, rfl, hG, lf, _, rfl, .lst (.of hlf3) (.cons (.bl t1) (.cons (.bl t2) (.cons (.bl true) .nil))), g1, g2, g3, hun _ g4, ?_⟩
                refine ⟨_, rfl, hG, ld, _, rfl, .lst (.of hld2) (.cons (.bl t1) (.cons (.bl t2) (.cons (.bl true) .nil))), g1, g2, g3, hun _ g4, rfl, _, rfl, ?_⟩
                rw [decide_eq_true rfl]
                refine iteF ?_
                have R22 := R11.same s8
                obtain ⟨r1, r2, r3, r4⟩ := R22.repr wok (by omega)
                refine ⟨_, rfl, hG, sm, xs, _, rfl, R22.hm, r1, r2, r3, r4, fun H23 s23 => ⟨_, rfl, rfl, _, rfl, ?_⟩⟩
                rw [decide_eq_true rfl]
                refine iteF ?_
                have R23 := R22.same s23
                have s9 := s8.trans s23
                have hdu9 := s9 _ _ hdu
                have l9 := l1.same s9
                refine ⟨_, rfl, rfl, _, rfl, ?_⟩
                refine ite2 (fun _ => ?_) (fun _ => ?_)
                · have hqne : qs ≠ [] := fun e => by
                    rw [e] at hql
                    simp only [List.length_nil] at hql
                    omega
                  obtain ⟨p1, p2, p3, p4, p5⟩ := R23.push1 (vs := qs.map V.ref ++ [.ref d1]) (fun e => by have := wl.n; rw [e] at this; cases this)
                  have lpush : LawAt ws (upd H23 sv (.lst (qs.map V.ref ++ [.ref d1]))) d1 (mulC ca cb) := l9.updr R23.hv hqne
                  have hxa9 : (upd H23 sv (.lst (qs.map V.ref ++ [.ref d1]))) xa = _ := (upd_ne (ne_of (s9 _ _ hxa) R23.hv (by intro z; cases z))).trans (s9 _ _ hxa)
                  have hxb9 : (upd H23 sv (.lst (qs.map V.ref ++ [.ref d1]))) xb = _ := (upd_ne (ne_of (s9 _ _ hxb) R23.hv (by intro z; cases z))).trans (s9 _ _ hxb)
                  have cxa9 := (cxa.same s9).updl (ys := qs.map V.ref ++ [.ref d1]) R23.hv
                  have cxb9 := (cxb.same s9).updl (ys := qs.map V.ref ++ [.ref d1]) R23.hv
                  have hv9 : (upd H23 sv (.lst (qs.map V.ref ++ [.ref d1]))) sv = some (.lst ((qs ++ [d1]).map V.ref)) := by
                    rw [upd_same, List.map_append]
                    rfl
                  refine ⟨_, rfl, .inl ⟨rfl, _, .of R23.hv⟩, _, rfl, du, _, 0, _, rfl, rfl, .of hdu9, atI_nat (j := 0) rfl, sv, _, _, rfl, rfl, R23.hv, by rw [List.length_map, sizeLine_eq]; omega, ?_⟩
                  generalize upd H23 sv (.lst (qs.map V.ref ++ [.ref d1])) = H24 at p1 p2 p3 p4 p5 lpush hxa9 hxb9 cxa9 cxb9 hv9 ⊢
                  refine ⟨_, rfl, .inl ⟨rfl, _, .of p3⟩, ?_⟩
                  refine ⟨_, rfl, _, rfl, sm, _, _, _, rfl, rfl, .of p3, ia2, _, rfl, _, rfl, sm, _, _, _, rfl, rfl, .of p3, ib2, xa, xb, dxa, dxb, _, _, rfl, rfl, hxa9, hxb9, xa, xb, ca, cb, ws, rfl, cxa9, cxb9, oa, ob, wok, fun z H25 s25 hz25 cz => ?_⟩
                  have hm25 := s25 _ _ p3
                  have hxl := R.len.2
                  refine ⟨sm, _, _, rfl, rfl, hm25, by rw [List.length_map, sizeLine_eq]; omega, ⟨_, _, _, _, _, _, _, _, _, _, rfl⟩, qs ++ [d1], xs ++ [z], cs ++ [mulC ca cb], ?_⟩
                  refine ⟨(p1.same s25).updr hm25 r1, ?_, ?_, ?_, ?_, ?_, R.ne, ?_, ?_⟩
                  · rw [upd_ne (str_ref_ne (s25 _ _ p2) hm25 r1)]
                    exact s25 _ _ p2
                  · rw [upd_ne R.ne]
                    exact s25 _ _ hv9
                  · rw [upd_same, List.map_append]
                    rfl
                  · exact paired_snoc ⟨(lpush.same s25).updr hm25 r1, mul_ok oa ob⟩ (Paired.mapP (law_keeps (Same.keeps s25) p4) fun _ _ h => ⟨h.1.updr hm25 r1, h.2⟩)
                  · exact paired_snoc (cz.updl hm25) (Paired.mapP p5 fun _ _ h => (h.same s25).updl hm25)
                  · rw [List.length_append]
                    omega
                  · rw [List.length_append]
                    show cs.length + 1 ≤ _
                    omega
                · exact ⟨⟨_, _, _, _, _, _, _, _, _, _, rfl⟩, qs, xs, cs, R23.mono (by omega)⟩
          · rintro σ H8 ⟨⟨v7, v8, v9, v10, v11, v12, v13, v14, v15, v16, rfl⟩, _, _, _, R8⟩
            exact ⟨⟨_, _, _, _, _, _, _, _, _, _, _, _, _, _, _, rfl⟩, R8.B⟩
    · rintro σ H2 ⟨_, _⟩
      exact k H2
end
end VC
set_option Elab.async false
set_option linter.all false
set_option maxRecDepth 100000
/-! What the top has left, collected; the law's end. -/
namespace VC
open PySem PySem.Spec PyProof.Rows L2
theorem all_mk {l : PySem.W.OpenLaw} {w : World} {K : PySem.W.Frag} {h : Heap} {mg : Str → Option Value} {fa C pP aT aE fW fRw fRs fU fLi fBg fTk fMx fLb fDr fCa fSp fMd fLr fPr fJo fLw fSh fLa fCr fCd fWi fMu fOr fRp fIn fGe : Addr} (X : K.In h) (G : h.Ns mainGlobals mg) (hfa : mg "law" = some (.ref fa))
    {odW anW odRw anRw odRs anRs odU anU odLi anLi odBg anBg odTk anTk odMx anMx odLb anLb odDr anDr odCa anCa odSp anSp odMd anMd odLr anLr odPr anPr odJo anJo odLw anLw odSh anSh odLa anLa odCr anCr odCd anCd odWi anWi odMu anMu odOr anOr odRp anRp odIn anIn odGe anGe odT : Option Addr} {slW slRw slRs slU slLi slBg slTk slMx slLb slDr slCa slSp slMd slLr slPr slJo slLw slSh slLa slCr slCd slWi slMu slOr slRp slIn slGe slT : Array (Option Value)} {ocW kVW dcW pmW cdW ctW ocRw kVRw dcRw pmRw cdRw ctRw ocRs kVRs dcRs pmRs cdRs ctRs ocU kVU dcU pmU cdU ctU ocLi kVLi dcLi pmLi cdLi ctLi ocBg kVBg dcBg pmBg cdBg ctBg ocTk kVTk dcTk pmTk cdTk ctTk ocMx kVMx dcMx pmMx cdMx ctMx ocLb kVLb dcLb pmLb cdLb ctLb ocDr kVDr dcDr pmDr cdDr ctDr ocCa kVCa dcCa pmCa cdCa ctCa ocSp kVSp dcSp pmSp cdSp ctSp ocMd kVMd dcMd pmMd cdMd ctMd ocLr kVLr dcLr pmLr cdLr ctLr ocPr kVPr dcPr pmPr cdPr ctPr ocJo kVJo dcJo pmJo cdJo ctJo ocLw kVLw dcLw pmLw cdLw ctLw ocSh kVSh dcSh pmSh cdSh ctSh ocLa kVLa dcLa pmLa cdLa ctLa ocCr kVCr dcCr pmCr cdCr ctCr ocCd kVCd dcCd pmCd cdCd ctCd ocWi kVWi dcWi pmWi cdWi ctWi ocMu kVMu dcMu pmMu cdMu ctMu ocOr kVOr dcOr pmOr cdOr ctOr ocRp kVRp dcRp pmRp cdRp ctRp ocIn kVIn dcIn pmIn cdIn ctIn ocGe kVGe dcGe pmGe cdGe ctGe ocT : Value} {nT : Nat} {rsP : List Value} {tL tM : Tok}
    (aW : PySem.W.nsIn K mainGlobals "is_word" = some (some (.ref fW)))
    (lW : K.lookup fW = some ⟨ocW, odW, .func (PySem.W.fnOf "is_word" "is_word" (defArgs dWord) (defBody dWord) (defScope dWord) .none kVW dcW pmW anW cdW ctW), slW⟩)
    (cW : PySem.W.codeIn K cdW "is_word" = true)
    (kW : PySem.W.keepIn K (.ref fW) = true)
    (aRw : PySem.W.nsIn K mainGlobals "is_carry_row" = some (some (.ref fRw)))
    (lRw : K.lookup fRw = some ⟨ocRw, odRw, .func (PySem.W.fnOf "is_carry_row" "is_carry_row" (defArgs dRow) (defBody dRow) (defScope dRow) .none kVRw dcRw pmRw anRw cdRw ctRw), slRw⟩)
    (cRw : PySem.W.codeIn K cdRw "is_carry_row" = true)
    (kRw : PySem.W.keepIn K (.ref fRw) = true)
    (aRs : PySem.W.nsIn K mainGlobals "are_carry_rows" = some (some (.ref fRs)))
    (lRs : K.lookup fRs = some ⟨ocRs, odRs, .func (PySem.W.fnOf "are_carry_rows" "are_carry_rows" (defArgs dRows) (defBody dRows) (defScope dRows) .none kVRs dcRs pmRs anRs cdRs ctRs), slRs⟩)
    (cRs : PySem.W.codeIn K cdRs "are_carry_rows" = true)
    (kRs : PySem.W.keepIn K (.ref fRs) = true)
    (aU : PySem.W.nsIn K mainGlobals "unlisted" = some (some (.ref fU)))
    (lU : K.lookup fU = some ⟨ocU, odU, .func (PySem.W.fnOf "unlisted" "unlisted" (defArgs dUnl) (defBody dUnl) (defScope dUnl) .none kVU dcU pmU anU cdU ctU), slU⟩)
    (cU : PySem.W.codeIn K cdU "unlisted" = true)
    (kU : PySem.W.keepIn K (.ref fU) = true)
    (aLi : PySem.W.nsIn K mainGlobals "listed_rules" = some (some (.ref fLi)))
    (lLi : K.lookup fLi = some ⟨ocLi, odLi, .func (PySem.W.fnOf "listed_rules" "listed_rules" (defArgs dListed) (defBody dListed) (defScope dListed) .none kVLi dcLi pmLi anLi cdLi ctLi), slLi⟩)
    (cLi : PySem.W.codeIn K cdLi "listed_rules" = true)
    (kLi : PySem.W.keepIn K (.ref fLi) = true)
    (aBg : PySem.W.nsIn K mainGlobals "_law_bag" = some (some (.ref fBg)))
    (lBg : K.lookup fBg = some ⟨ocBg, odBg, .func (PySem.W.fnOf "_law_bag" "_law_bag" (defArgs lBag) (defBody lBag) (defScope lBag) .none kVBg dcBg pmBg anBg cdBg ctBg), slBg⟩)
    (cBg : PySem.W.codeIn K cdBg "_law_bag" = true)
    (kBg : PySem.W.keepIn K (.ref fBg) = true)
    (aTk : PySem.W.nsIn K mainGlobals "_law_take" = some (some (.ref fTk)))
    (lTk : K.lookup fTk = some ⟨ocTk, odTk, .func (PySem.W.fnOf "_law_take" "_law_take" (defArgs lTake) (defBody lTake) (defScope lTake) .none kVTk dcTk pmTk anTk cdTk ctTk), slTk⟩)
    (cTk : PySem.W.codeIn K cdTk "_law_take" = true)
    (kTk : PySem.W.keepIn K (.ref fTk) = true)
    (aMx : PySem.W.nsIn K mainGlobals "_law_mixed" = some (some (.ref fMx)))
    (lMx : K.lookup fMx = some ⟨ocMx, odMx, .func (PySem.W.fnOf "_law_mixed" "_law_mixed" (defArgs lMixed) (defBody lMixed) (defScope lMixed) .none kVMx dcMx pmMx anMx cdMx ctMx), slMx⟩)
    (cMx : PySem.W.codeIn K cdMx "_law_mixed" = true)
    (kMx : PySem.W.keepIn K (.ref fMx) = true)
    (aLb : PySem.W.nsIn K mainGlobals "_law_labels" = some (some (.ref fLb)))
    (lLb : K.lookup fLb = some ⟨ocLb, odLb, .func (PySem.W.fnOf "_law_labels" "_law_labels" (defArgs lLabels) (defBody lLabels) (defScope lLabels) .none kVLb dcLb pmLb anLb cdLb ctLb), slLb⟩)
    (cLb : PySem.W.codeIn K cdLb "_law_labels" = true)
    (kLb : PySem.W.keepIn K (.ref fLb) = true)
    (aDr : PySem.W.nsIn K mainGlobals "_law_drawn_carry" = some (some (.ref fDr)))
    (lDr : K.lookup fDr = some ⟨ocDr, odDr, .func (PySem.W.fnOf "_law_drawn_carry" "_law_drawn_carry" (defArgs lDrawn) (defBody lDrawn) (defScope lDrawn) .none kVDr dcDr pmDr anDr cdDr ctDr), slDr⟩)
    (cDr : PySem.W.codeIn K cdDr "_law_drawn_carry" = true)
    (kDr : PySem.W.keepIn K (.ref fDr) = true)
    (aCa : PySem.W.nsIn K mainGlobals "_law_carries" = some (some (.ref fCa)))
    (lCa : K.lookup fCa = some ⟨ocCa, odCa, .func (PySem.W.fnOf "_law_carries" "_law_carries" (defArgs lCarries) (defBody lCarries) (defScope lCarries) .none kVCa dcCa pmCa anCa cdCa ctCa), slCa⟩)
    (cCa : PySem.W.codeIn K cdCa "_law_carries" = true)
    (kCa : PySem.W.keepIn K (.ref fCa) = true)
    (aSp : PySem.W.nsIn K mainGlobals "_law_spare" = some (some (.ref fSp)))
    (lSp : K.lookup fSp = some ⟨ocSp, odSp, .func (PySem.W.fnOf "_law_spare" "_law_spare" (defArgs lSpare) (defBody lSpare) (defScope lSpare) .none kVSp dcSp pmSp anSp cdSp ctSp), slSp⟩)
    (cSp : PySem.W.codeIn K cdSp "_law_spare" = true)
    (kSp : PySem.W.keepIn K (.ref fSp) = true)
    (aMd : PySem.W.nsIn K mainGlobals "_law_made_carry" = some (some (.ref fMd)))
    (lMd : K.lookup fMd = some ⟨ocMd, odMd, .func (PySem.W.fnOf "_law_made_carry" "_law_made_carry" (defArgs lMade) (defBody lMade) (defScope lMade) .none kVMd dcMd pmMd anMd cdMd ctMd), slMd⟩)
    (cMd : PySem.W.codeIn K cdMd "_law_made_carry" = true)
    (kMd : PySem.W.keepIn K (.ref fMd) = true)
    (aLr : PySem.W.nsIn K mainGlobals "_law_carry_rows" = some (some (.ref fLr)))
    (lLr : K.lookup fLr = some ⟨ocLr, odLr, .func (PySem.W.fnOf "_law_carry_rows" "_law_carry_rows" (defArgs lRows) (defBody lRows) (defScope lRows) .none kVLr dcLr pmLr anLr cdLr ctLr), slLr⟩)
    (cLr : PySem.W.codeIn K cdLr "_law_carry_rows" = true)
    (kLr : PySem.W.keepIn K (.ref fLr) = true)
    (aPr : PySem.W.nsIn K mainGlobals "_law_product" = some (some (.ref fPr)))
    (lPr : K.lookup fPr = some ⟨ocPr, odPr, .func (PySem.W.fnOf "_law_product" "_law_product" (defArgs lProd) (defBody lProd) (defScope lProd) .none kVPr dcPr pmPr anPr cdPr ctPr), slPr⟩)
    (cPr : PySem.W.codeIn K cdPr "_law_product" = true)
    (kPr : PySem.W.keepIn K (.ref fPr) = true)
    (aJo : PySem.W.nsIn K mainGlobals "_law_joint" = some (some (.ref fJo)))
    (lJo : K.lookup fJo = some ⟨ocJo, odJo, .func (PySem.W.fnOf "_law_joint" "_law_joint" (defArgs lJoint) (defBody lJoint) (defScope lJoint) .none kVJo dcJo pmJo anJo cdJo ctJo), slJo⟩)
    (cJo : PySem.W.codeIn K cdJo "_law_joint" = true)
    (kJo : PySem.W.keepIn K (.ref fJo) = true)
    (aLw : PySem.W.nsIn K mainGlobals "_law_is_within" = some (some (.ref fLw)))
    (lLw : K.lookup fLw = some ⟨ocLw, odLw, .func (PySem.W.fnOf "_law_is_within" "_law_is_within" (defArgs lWithin) (defBody lWithin) (defScope lWithin) .none kVLw dcLw pmLw anLw cdLw ctLw), slLw⟩)
    (cLw : PySem.W.codeIn K cdLw "_law_is_within" = true)
    (kLw : PySem.W.keepIn K (.ref fLw) = true)
    (aSh : PySem.W.nsIn K mainGlobals "_law_shown_right" = some (some (.ref fSh)))
    (lSh : K.lookup fSh = some ⟨ocSh, odSh, .func (PySem.W.fnOf "_law_shown_right" "_law_shown_right" (defArgs lShown) (defBody lShown) (defScope lShown) .none kVSh dcSh pmSh anSh cdSh ctSh), slSh⟩)
    (cSh : PySem.W.codeIn K cdSh "_law_shown_right" = true)
    (kSh : PySem.W.keepIn K (.ref fSh) = true)
    (aLa : PySem.W.nsIn K mainGlobals "law" = some (some (.ref fLa)))
    (lLa : K.lookup fLa = some ⟨ocLa, odLa, .func (PySem.W.fnOf "law" "law" (defArgs lLaw) (defBody lLaw) (defScope lLaw) .none kVLa dcLa pmLa anLa cdLa ctLa), slLa⟩)
    (cLa : PySem.W.codeIn K cdLa "law" = true)
    (kLa : PySem.W.keepIn K (.ref fLa) = true)
    (aC : PySem.W.nsIn K mainGlobals "Carry" = some (some (.ref C)))
    (aCr : PySem.W.findIn K (.ref C) "rows" = some (some (.ref fCr)))
    (iCr : PySem.W.isFn K (.ref fCr) = true)
    (lCr : K.lookup fCr = some ⟨ocCr, odCr, .func (PySem.W.fnOf "rows" "Carry.rows" (defArgs dCRows) (defBody dCRows) (defScope dCRows) .none kVCr dcCr pmCr anCr cdCr ctCr), slCr⟩)
    (cCr : PySem.W.codeIn K cdCr "Carry.rows" = true)
    (kCr : PySem.W.keepIn K (.ref fCr) = true)
    (aCd : PySem.W.findIn K (.ref C) "carried" = some (some (.ref fCd)))
    (iCd : PySem.W.isFn K (.ref fCd) = true)
    (lCd : K.lookup fCd = some ⟨ocCd, odCd, .func (PySem.W.fnOf "carried" "Carry.carried" (defArgs dCarried) (defBody dCarried) (defScope dCarried) .none kVCd dcCd pmCd anCd cdCd ctCd), slCd⟩)
    (cCd : PySem.W.codeIn K cdCd "Carry.carried" = true)
    (kCd : PySem.W.keepIn K (.ref fCd) = true)
    (aWi : PySem.W.findIn K (.ref C) "within" = some (some (.ref fWi)))
    (iWi : PySem.W.isFn K (.ref fWi) = true)
    (lWi : K.lookup fWi = some ⟨ocWi, odWi, .func (PySem.W.fnOf "within" "Carry.within" (defArgs dWithin) (defBody dWithin) (defScope dWithin) .none kVWi dcWi pmWi anWi cdWi ctWi), slWi⟩)
    (cWi : PySem.W.codeIn K cdWi "Carry.within" = true)
    (kWi : PySem.W.keepIn K (.ref fWi) = true)
    (aMu : PySem.W.findIn K (.ref C) "__mul__" = some (some (.ref fMu)))
    (iMu : PySem.W.isFn K (.ref fMu) = true)
    (lMu : K.lookup fMu = some ⟨ocMu, odMu, .func (PySem.W.fnOf "__mul__" "Carry.__mul__" (defArgs dMul) (defBody dMul) (defScope dMul) .none kVMu dcMu pmMu anMu cdMu ctMu), slMu⟩)
    (cMu : PySem.W.codeIn K cdMu "Carry.__mul__" = true)
    (kMu : PySem.W.keepIn K (.ref fMu) = true)
    (aOr : PySem.W.findIn K (.ref C) "__or__" = some (some (.ref fOr)))
    (iOr : PySem.W.isFn K (.ref fOr) = true)
    (lOr : K.lookup fOr = some ⟨ocOr, odOr, .func (PySem.W.fnOf "__or__" "Carry.__or__" (defArgs dOr) (defBody dOr) (defScope dOr) .none kVOr dcOr pmOr anOr cdOr ctOr), slOr⟩)
    (cOr : PySem.W.codeIn K cdOr "Carry.__or__" = true)
    (kOr : PySem.W.keepIn K (.ref fOr) = true)
    (aRp : PySem.W.findIn K (.ref C) "__repr__" = some (some (.ref fRp)))
    (iRp : PySem.W.isFn K (.ref fRp) = true)
    (lRp : K.lookup fRp = some ⟨ocRp, odRp, .func (PySem.W.fnOf "__repr__" "Carry.__repr__" (defArgs dRepr) (defBody dRepr) (defScope dRepr) .none kVRp dcRp pmRp anRp cdRp ctRp), slRp⟩)
    (cRp : PySem.W.codeIn K cdRp "Carry.__repr__" = true)
    (kRp : PySem.W.keepIn K (.ref fRp) = true)
    (aIn : PySem.W.findIn K (.ref C) "__init__" = some (some (.ref fIn)))
    (iIn : PySem.W.isFn K (.ref fIn) = true)
    (lIn : K.lookup fIn = some ⟨ocIn, odIn, .func (PySem.W.fnOf "__init__" "Carry.__init__" (defArgs dInit) (defBody dInit) (defScope dInit) (.ref aT) kVIn dcIn pmIn anIn cdIn ctIn), slIn⟩)
    (cIn : PySem.W.codeIn K cdIn "Carry.__init__" = true)
    (kIn : PySem.W.keepIn K (.ref fIn) = true)
    (lT : K.lookup aT = some ⟨ocT, odT, .seq #[.ref aE] nT, slT⟩)
    (pa : PySem.W.findIn K (.ref C) "rest" = some (some (.ref pP)))
    (pg : PySem.W.specialIn K (.ref pP) "__get__" = some (some (.builtin "property.__get__")))
    (pt : PySem.W.takesIn K (.ref pP) = some true)
    (pr : PySem.W.recIn K pP "property" = some (.ref fGe :: rsP))
    (lGe : K.lookup fGe = some ⟨ocGe, odGe, .func (PySem.W.fnOf "rest" "Carry.rest" (defArgs dRest) (defBody dRest) (defScope dRest) .none kVGe dcGe pmGe anGe cdGe ctGe), slGe⟩)
    (cGe : PySem.W.codeIn K cdGe "Carry.rest" = true)
    (kGe : PySem.W.keepIn K (.ref fGe) = true)
    (zg : PySem.W.plainGet K C Str.empty = true)
    (zd : PySem.W.hasDictIn K C = true)
    (zo : PySem.W.plainOver K C = true)
    (zs : PySem.W.findIn K (.ref C) "__setattr__" = some (some (.builtin "object.__setattr__")))
    (zm : PySem.W.makesIn K C = true)
    (zk : PySem.W.keepIn K (.ref C) = true)
    (zf : PySem.W.selfFirst K C = true)
    (nR : PySem.W.findIn K (.ref C) "kept_rest" = some none)
    (nK : PySem.W.findIn K (.ref C) "kept_rules" = some none)
    (gL : PySem.W.nsIn K mainGlobals "LETTERS" = some (some (.str "abcdefghijklmnopqrstuvwxyz" tL)))
    (gM : PySem.W.nsIn K mainGlobals "MOST_LETTERS" = some (some (.int 8 tM)))
    (n_isinstance : PySem.W.nsIn K mainGlobals "isinstance" = some none)
    (n_len : PySem.W.nsIn K mainGlobals "len" = some none)
    (n_all : PySem.W.nsIn K mainGlobals "all" = some none)
    (n_set : PySem.W.nsIn K mainGlobals "set" = some none)
    (n_sorted : PySem.W.nsIn K mainGlobals "sorted" = some none)
    (n_tuple : PySem.W.nsIn K mainGlobals "tuple" = some none)
    (n_list : PySem.W.nsIn K mainGlobals "list" = some none)
    (n_str : PySem.W.nsIn K mainGlobals "str" = some none)
    (n_bool : PySem.W.nsIn K mainGlobals "bool" = some none)
    (n_int : PySem.W.nsIn K mainGlobals "int" = some none)
    (n_abs : PySem.W.nsIn K mainGlobals "abs" = some none)
    (n_range : PySem.W.nsIn K mainGlobals "range" = some none)
    (n_repr : PySem.W.nsIn K mainGlobals "repr" = some none)
    (n_dict : PySem.W.nsIn K mainGlobals "dict" = some none)
    : ∃ fd : FuncData, (∀ (s : Shared) (v : Value), BindsTo s fd ⟨[v], []⟩ [("_law_script", v)]) ∧ ∀ base : Heap, K.In base → base.Ns mainGlobals mg → FnG l.prog w K mg base CX0 7 fa fd ["_law_script"] G0 (spLaw K) := by
  have e := hfa.symm.trans (PySem.W.mg_of X G aLa)
  cases e
  have T : Txt K mg C pP fGe := ⟨⟨zg, zd, zo, zs⟩, nR, nK, ⟨pa, pg, pt, ⟨_, pr⟩⟩, PySem.W.mg_of X G aC, ⟨_, PySem.W.mg_of X G gL⟩, ⟨_, PySem.W.mg_of X G gM⟩, PySem.W.mg_none_of X G n_isinstance, PySem.W.mg_none_of X G n_len, PySem.W.mg_none_of X G n_all, PySem.W.mg_none_of X G n_set, PySem.W.mg_none_of X G n_sorted, PySem.W.mg_none_of X G n_tuple, PySem.W.mg_none_of X G n_list, PySem.W.mg_none_of X G n_str, PySem.W.mg_none_of X G n_bool, PySem.W.mg_none_of X G n_int, PySem.W.mg_none_of X G n_abs, PySem.W.mg_none_of X G n_range, PySem.W.mg_none_of X G n_repr, PySem.W.mg_none_of X G n_dict⟩
  have FW := fun_mk (st := dWord) lW cW kW
  have bW := FW.binds (ps := ["thing"]) fun _ _ _ _ _ _ us hl => match us, hl with | [_], _ => rfl
  have FRw := fun_mk (st := dRow) lRw cRw kRw
  have bRw := FRw.binds (ps := ["thing"]) fun _ _ _ _ _ _ us hl => match us, hl with | [_], _ => rfl
  have FRs := fun_mk (st := dRows) lRs cRs kRs
  have bRs := FRs.binds (ps := ["thing"]) fun _ _ _ _ _ _ us hl => match us, hl with | [_], _ => rfl
  have FU := fun_mk (st := dUnl) lU cU kU
  have bU := FU.binds (ps := ["rest", "rule"]) fun _ _ _ _ _ _ us hl => match us, hl with | [_, _], _ => rfl
  have FLi := fun_mk (st := dListed) lLi cLi kLi
  have bLi := FLi.binds (ps := ["one", "other"]) fun _ _ _ _ _ _ us hl => match us, hl with | [_, _], _ => rfl
  have FBg := fun_mk (st := lBag) lBg cBg kBg
  have bBg := FBg.binds (ps := ["_law_script"]) fun _ _ _ _ _ _ us hl => match us, hl with | [_], _ => rfl
  have FTk := fun_mk (st := lTake) lTk cTk kTk
  have bTk := FTk.binds (ps := ["_law_bag_here", "_law_many"]) fun _ _ _ _ _ _ us hl => match us, hl with | [_, _], _ => rfl
  have FMx := fun_mk (st := lMixed) lMx cMx kMx
  have bMx := FMx.binds (ps := ["_law_bag_here", "_law_things"]) fun _ _ _ _ _ _ us hl => match us, hl with | [_, _], _ => rfl
  have FLb := fun_mk (st := lLabels) lLb cLb kLb
  have bLb := FLb.binds (ps := ["_law_bag_here", "_law_many"]) fun _ _ _ _ _ _ us hl => match us, hl with | [_, _], _ => rfl
  have FDr := fun_mk (st := lDrawn) lDr cDr kDr
  have bDr := FDr.binds (ps := ["_law_bag_here", "_law_words"]) fun _ _ _ _ _ _ us hl => match us, hl with | [_, _], _ => rfl
  have FCa := fun_mk (st := lCarries) lCa cCa kCa
  have bCa := FCa.binds (ps := ["_law_carry", "_law_rule"]) fun _ _ _ _ _ _ us hl => match us, hl with | [_, _], _ => rfl
  have FSp := fun_mk (st := lSpare) lSp cSp kSp
  have bSp := FSp.binds (ps := ["_law_words"]) fun _ _ _ _ _ _ us hl => match us, hl with | [_], _ => rfl
  have FMd := fun_mk (st := lMade) lMd cMd kMd
  have bMd := FMd.binds (ps := ["_law_bag_here", "_law_carry"]) fun _ _ _ _ _ _ us hl => match us, hl with | [_, _], _ => rfl
  have FLr := fun_mk (st := lRows) lLr cLr kLr
  have bLr := FLr.binds (ps := ["_law_carry"]) fun _ _ _ _ _ _ us hl => match us, hl with | [_], _ => rfl
  have FPr := fun_mk (st := lProd) lPr cPr kPr
  have bPr := FPr.binds (ps := ["_law_one", "_law_other", "_law_words"]) fun _ _ _ _ _ _ us hl => match us, hl with | [_, _, _], _ => rfl
  have FJo := fun_mk (st := lJoint) lJo cJo kJo
  have bJo := FJo.binds (ps := ["_law_one", "_law_other", "_law_words"]) fun _ _ _ _ _ _ us hl => match us, hl with | [_, _, _], _ => rfl
  have FLw := fun_mk (st := lWithin) lLw cLw kLw
  have bLw := FLw.binds (ps := ["_law_one", "_law_other", "_law_words"]) fun _ _ _ _ _ _ us hl => match us, hl with | [_, _, _], _ => rfl
  have FSh := fun_mk (st := lShown) lSh cSh kSh
  have bSh := FSh.binds (ps := ["_law_found", "_law_due", "_law_words"]) fun _ _ _ _ _ _ us hl => match us, hl with | [_, _, _], _ => rfl
  have FLa := fun_mk (st := lLaw) lLa cLa kLa
  have bLa := FLa.binds (ps := ["_law_script"]) fun _ _ _ _ _ _ us hl => match us, hl with | [_], _ => rfl
  have FCr := fun_mk (st := dCRows) lCr cCr kCr
  have bCr := FCr.binds (ps := ["self"]) fun _ _ _ _ _ _ us hl => match us, hl with | [_], _ => rfl
  have FCd := fun_mk (st := dCarried) lCd cCd kCd
  have bCd := FCd.binds (ps := ["self", "rule"]) fun _ _ _ _ _ _ us hl => match us, hl with | [_, _], _ => rfl
  have FWi := fun_mk (st := dWithin) lWi cWi kWi
  have bWi := FWi.binds (ps := ["self", "other"]) fun _ _ _ _ _ _ us hl => match us, hl with | [_, _], _ => rfl
  have FMu := fun_mk (st := dMul) lMu cMu kMu
  have bMu := FMu.binds (ps := ["self", "other"]) fun _ _ _ _ _ _ us hl => match us, hl with | [_, _], _ => rfl
  have FOr := fun_mk (st := dOr) lOr cOr kOr
  have bOr := FOr.binds (ps := ["self", "other"]) fun _ _ _ _ _ _ us hl => match us, hl with | [_, _], _ => rfl
  have FRp := fun_mk (st := dRepr) lRp cRp kRp
  have bRp := FRp.binds (ps := ["self"]) fun _ _ _ _ _ _ us hl => match us, hl with | [_], _ => rfl
  have FGe := fun_mk (st := dRest) lGe cGe kGe
  have bGe := FGe.binds (ps := ["self"]) fun _ _ _ _ _ _ us hl => match us, hl with | [_], _ => rfl
  have FIn : L2.FunD K "__init__" "Carry.__init__" (defArgs dInit) (defBody dInit) (defScope dInit) [V.ref aE] [] fIn (PySem.W.fnOf "__init__" "Carry.__init__" (defArgs dInit) (defBody dInit) (defScope dInit) (.ref aT) kVIn dcIn pmIn anIn cdIn ctIn) :=
    ⟨⟨ocIn, odIn, .ref aT, kVIn, dcIn, pmIn, anIn, cdIn, ctIn, slIn, rfl, lIn, cIn, .inr ⟨by simp, aT, _, [.ref aE], nT, rfl, lT, rfl, .cons rfl .nil⟩, .inl rfl⟩, kIn⟩
  obtain ⟨ds, hds, bIn⟩ := FIn.binds1 (ps := ["self", "rest", "rows"]) 3 1 (by simp) rfl fun _ _ _ _ _ _ _ us its hl hl2 => match us, its, hl, hl2 with | [_, _, _], [_], _, _ => ⟨_, rfl, rfl⟩
  cases hds
  refine ⟨PySem.W.fnOf "law" "law" (defArgs lLaw) (defBody lLaw) (defScope lLaw) .none kVLa dcLa pmLa anLa cdLa ctLa, fun s v => .of_eq rfl, fun base _ _ => ?_⟩
  have GU := ok_unl (P := l.prog) (w := w) (mg := mg) (base := base) FU
  have GRs := ok_rows (P := l.prog) (w := w) (base := base) FRs T FW bW (PySem.W.mg_of X G aW) FRw bRw (PySem.W.mg_of X G aRw)
  have GIn := ok_init (P := l.prog) (w := w) (base := base) FIn T GRs FRs.kp bRs (PySem.W.mg_of X G aRs) GU FU.kp bU (PySem.W.mg_of X G aU)
  have MIn : Mk K C fIn := ⟨zm, aIn, iIn, zk⟩
  have GGe := ok_rest (P := l.prog) (w := w) (base := base) FGe T
  have GCr := ok_crows (P := l.prog) (w := w) (base := base) FCr T
  have mCr : Meth K C "rows" fCr := ⟨aCr, iCr, kCr⟩
  have GCd := ok_carried (P := l.prog) (w := w) (base := base) FCd T GU FU.kp bU (PySem.W.mg_of X G aU)
  have mCd : Meth K C "carried" fCd := ⟨aCd, iCd, kCd⟩
  have GLi := ok_listed (P := l.prog) (w := w) (base := base) FLi T GCr mCr bCr
  have GWi := ok_within (P := l.prog) (w := w) (base := base) FWi T GGe bGe GLi FLi.kp bLi (PySem.W.mg_of X G aLi) GCd mCd bCd
  have GMu := ok_mul (P := l.prog) (w := w) (base := base) FMu T GGe bGe GLi FLi.kp bLi (PySem.W.mg_of X G aLi) GCd mCd bCd GIn MIn bIn
  have GOr := ok_or (P := l.prog) (w := w) (base := base) FOr T GGe bGe GLi FLi.kp bLi (PySem.W.mg_of X G aLi) GCd mCd bCd GIn MIn bIn
  have GRp := ok_repr (P := l.prog) (w := w) (base := base) FRp T GCr mCr bCr
  have GTk := ok_take (P := l.prog) (w := w) (base := base) FTk T
  have GMx := ok_mixed (P := l.prog) (w := w) (base := base) FMx T GTk FTk.kp bTk (PySem.W.mg_of X G aTk)
  have GCa := ok_carries (P := l.prog) (w := w) (base := base) FCa T
  have GSp := ok_spare (P := l.prog) (w := w) (base := base) FSp T
  have GLr := ok_lrows (P := l.prog) (w := w) (base := base) FLr T GCa FCa.kp bCa (PySem.W.mg_of X G aCa)
  exact ok_law FLa T (fB := fBg) (fT := fTk) (fL := fLb) (fD := fDr) (fM := fMd) (fP := fPr) (fJ := fJo) (fS := fSh) (fW := fLw) (fMul := fMu) (fOr := fOr) (fWi := fWi) (fRp := fRp)
    { gB := (PySem.W.mg_of X G aBg), kB := kBg, bB := bBg, GB := ok_bag FBg T,
      gT := (PySem.W.mg_of X G aTk), kT := kTk, bT := bTk, GT := GTk,
      gL := (PySem.W.mg_of X G aLb), kL := kLb, bL := bLb, GL := ok_labels FLb T GTk FTk.kp bTk (PySem.W.mg_of X G aTk),
      gD := (PySem.W.mg_of X G aDr), kD := kDr, bD := bDr, GD := ok_drawn FDr T GTk FTk.kp bTk (PySem.W.mg_of X G aTk),
      gM := (PySem.W.mg_of X G aMd), kM := kMd, bM := bMd, GM := ok_made FMd T GTk FTk.kp bTk (PySem.W.mg_of X G aTk) GMx FMx.kp bMx (PySem.W.mg_of X G aMx) GIn MIn bIn,
      gP := (PySem.W.mg_of X G aPr), kP := kPr, bP := bPr, GP := ok_lprod FPr T GCa FCa.kp bCa (PySem.W.mg_of X G aCa),
      gJ := (PySem.W.mg_of X G aJo), kJ := kJo, bJ := bJo, GJ := ok_ljoint FJo T GCa FCa.kp bCa (PySem.W.mg_of X G aCa),
      gS := (PySem.W.mg_of X G aSh), kS := kSh, bS := bSh, GS := ok_shown FSh T GCa FCa.kp bCa (PySem.W.mg_of X G aCa) GSp FSp.kp bSp (PySem.W.mg_of X G aSp) GLr FLr.kp bLr (PySem.W.mg_of X G aLr) GCr mCr bCr GGe bGe GCd mCd bCd,
      gW := (PySem.W.mg_of X G aLw), kW := kLw, bW := bLw, GW := ok_lwithin FLw T GCa FCa.kp bCa (PySem.W.mg_of X G aCa) GSp FSp.kp bSp (PySem.W.mg_of X G aSp),
      sMul := aMu, iMul := iMu, bMul := bMu, GMul := GMu,
      sOr := aOr, iOr := iOr, bOr := bOr, GOr := GOr,
      mWi := ⟨aWi, iWi, kWi⟩, bWi := bWi, GWi := GWi,
      sRp := aRp, iRp := iRp, bRp := bRp, GRp := GRp, sf := zf }
theorem walk {l : PySem.W.OpenLaw} {q : Program} {loose : List Str} {XP : (Str → Option Value) → Heap → Prop} {YP : World → Heap → Prop} {d : DefRec} {K : Params → PySem.W.Frag} (hn : l.most = some 63) (hdf : d.params.defaults = [])
    (hY : ∀ (w : World) (h : Heap), YP w h → (K w.params).In h)
    (F : ∀ (w : World) (mg : Str → Option Value) (fa : Addr) (h : Heap), (K w.params).In h → h.Ns mainGlobals mg → mg d.name = some (.ref fa) →
      ∃ fd : FuncData, (∀ (s : Shared) (u : Value), BindsTo s fd ⟨[u], []⟩ [("_law_script", u)]) ∧ ∀ base : Heap, (K w.params).In base → base.Ns mainGlobals mg → FnG l.prog w (K w.params) mg base CX0 7 fa fd ["_law_script"] G0 (spLaw (K w.params))) :
    PySem.W.WalkO q loose XP YP l.row.toRowW d [] (fun f vs => PySem.call f vs) :=
  walk_G (n := 63) (k := 7) (x := "_law_script") (sp := fun w => spLaw (K w.params)) hn (by decide) hdf ⟨rfl, by decide, by decide⟩ hY F (fun _ _ a ns hl _ hS => ⟨a, ns, rfl, hS, hl, fun _ => rfl⟩)
end VC
set_option Elab.async false
set_option linter.all false
open PySem PySem.W PyProof.Rows
set_option maxRecDepth 100000 in
set_option maxHeartbeats 0 in
theorem PySem.Challenge.cw_vouchchains_k25_whole_product_and_joint_holds : PySem.Challenge.rw_vouchchains_k25_whole_product_and_joint.Holds := by
  w_on; o_law; k_head; (case hw => w_witness2)
  k_fill
  refine VC.walk (l := PySem.Challenge.rw_vouchchains_k25_whole_product_and_joint) rfl rfl (fun w h Y => PySem.W.kIn_of Y) ?F
  case F =>
    intro w mg fa h KX G hmg
    refine' VC.all_mk KX G hmg ?aW ?lW ?cW ?kW ?aRw ?lRw ?cRw ?kRw ?aRs ?lRs ?cRs ?kRs ?aU ?lU ?cU ?kU ?aLi ?lLi ?cLi ?kLi ?aBg ?lBg ?cBg ?kBg ?aTk ?lTk ?cTk ?kTk ?aMx ?lMx ?cMx ?kMx ?aLb ?lLb ?cLb ?kLb ?aDr ?lDr ?cDr ?kDr ?aCa ?lCa ?cCa ?kCa ?aSp ?lSp ?cSp ?kSp ?aMd ?lMd ?cMd ?kMd ?aLr ?lLr ?cLr ?kLr ?aPr ?lPr ?cPr ?kPr ?aJo ?lJo ?cJo ?kJo ?aLw ?lLw ?cLw ?kLw ?aSh ?lSh ?cSh ?kSh ?aLa ?lLa ?cLa ?kLa ?aC ?aCr ?iCr ?lCr ?cCr ?kCr ?aCd ?iCd ?lCd ?cCd ?kCd ?aWi ?iWi ?lWi ?cWi ?kWi ?aMu ?iMu ?lMu ?cMu ?kMu ?aOr ?iOr ?lOr ?cOr ?kOr ?aRp ?iRp ?lRp ?cRp ?kRp ?aIn ?iIn ?lIn ?cIn ?kIn ?lT ?pa ?pg ?pt ?pr ?lGe ?cGe ?kGe ?zg ?zd ?zo ?zs ?zm ?zk ?zf ?nR ?nK ?gL ?gM ?n_isinstance ?n_len ?n_all ?n_set ?n_sorted ?n_tuple ?n_list ?n_str ?n_bool ?n_int ?n_abs ?n_range ?n_repr ?n_dict
    (case aW => k_is)
    (case lW => k_is)
    (case cW => k_is)
    (case kW => k_is)
    (case aRw => k_is)
    (case lRw => k_is)
    (case cRw => k_is)
    (case kRw => k_is)
    (case aRs => k_is)
    (case lRs => k_is)
    (case cRs => k_is)
    (case kRs => k_is)
    (case aU => k_is)
    (case lU => k_is)
    (case cU => k_is)
    (case kU => k_is)
    (case aLi => k_is)
    (case lLi => k_is)
    (case cLi => k_is)
    (case kLi => k_is)
    (case aBg => k_is)
    (case lBg => k_is)
    (case cBg => k_is)
    (case kBg => k_is)
    (case aTk => k_is)
    (case lTk => k_is)
    (case cTk => k_is)
    (case kTk => k_is)
    (case aMx => k_is)
    (case lMx => k_is)
    (case cMx => k_is)
    (case kMx => k_is)
    (case aLb => k_is)
    (case lLb => k_is)
    (case cLb => k_is)
    (case kLb => k_is)
    (case aDr => k_is)
    (case lDr => k_is)
    (case cDr => k_is)
    (case kDr => k_is)
    (case aCa => k_is)
    (case lCa => k_is)
    (case cCa => k_is)
    (case kCa => k_is)
    (case aSp => k_is)
    (case lSp => k_is)
    (case cSp => k_is)
    (case kSp => k_is)
    (case aMd => k_is)
    (case lMd => k_is)
    (case cMd => k_is)
    (case kMd => k_is)
    (case aLr => k_is)
    (case lLr => k_is)
    (case cLr => k_is)
    (case kLr => k_is)
    (case aPr => k_is)
    (case lPr => k_is)
    (case cPr => k_is)
    (case kPr => k_is)
    (case aJo => k_is)
    (case lJo => k_is)
    (case cJo => k_is)
    (case kJo => k_is)
    (case aLw => k_is)
    (case lLw => k_is)
    (case cLw => k_is)
    (case kLw => k_is)
    (case aSh => k_is)
    (case lSh => k_is)
    (case cSh => k_is)
    (case kSh => k_is)
    (case aLa => k_is)
    (case lLa => k_is)
    (case cLa => k_is)
    (case kLa => k_is)
    (case aC => k_is)
    (case aCr => k_is)
    (case iCr => k_is)
    (case lCr => k_is)
    (case cCr => k_is)
    (case kCr => k_is)
    (case aCd => k_is)
    (case iCd => k_is)
    (case lCd => k_is)
    (case cCd => k_is)
    (case kCd => k_is)
    (case aWi => k_is)
    (case iWi => k_is)
    (case lWi => k_is)
    (case cWi => k_is)
    (case kWi => k_is)
    (case aMu => k_is)
    (case iMu => k_is)
    (case lMu => k_is)
    (case cMu => k_is)
    (case kMu => k_is)
    (case aOr => k_is)
    (case iOr => k_is)
    (case lOr => k_is)
    (case cOr => k_is)
    (case kOr => k_is)
    (case aRp => k_is)
    (case iRp => k_is)
    (case lRp => k_is)
    (case cRp => k_is)
    (case kRp => k_is)
    (case aIn => k_is)
    (case iIn => k_is)
    (case lIn => k_is)
    (case cIn => k_is)
    (case kIn => k_is)
    (case lT => k_is)
    (case pa => k_is)
    (case pg => k_is)
    (case pt => k_is)
    (case pr => k_is)
    (case lGe => k_is)
    (case cGe => k_is)
    (case kGe => k_is)
    (case zg => k_is)
    (case zd => k_is)
    (case zo => k_is)
    (case zs => k_is)
    (case zm => k_is)
    (case zk => k_is)
    (case zf => k_is)
    (case nR => k_is)
    (case nK => k_is)
    (case gL => k_is)
    (case gM => k_is)
    (case n_isinstance => k_is)
    (case n_len => k_is)
    (case n_all => k_is)
    (case n_set => k_is)
    (case n_sorted => k_is)
    (case n_tuple => k_is)
    (case n_list => k_is)
    (case n_str => k_is)
    (case n_bool => k_is)
    (case n_int => k_is)
    (case n_abs => k_is)
    (case n_range => k_is)
    (case n_repr => k_is)
    (case n_dict => k_is)
#print axioms PySem.Challenge.cw_vouchchains_k25_whole_product_and_joint_holds
