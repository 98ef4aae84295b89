import PyProof.Rows.All
import Wide.All
import OpenK.AllK
import Wide.FinOn
import HandS.ForMost
import HandS.More
import HandS.Star
import HandS.OwnEq
import HandS.Slots
import HandS.Property
import HandS.Style
import HandS.Strs
import HandS.DictComp
import HandS.Conv
import HandS.IsInst
import HandS.TupAny
import HandS.Set
import HandS.SetFor
import PyProof.DictUpdate
import KE.GoesEnum
import KE.KTurns
import HandS.Zip
import KE.KDictZip
import HandS.SlotsOwn
import PyProof.InstEq
import HandS.Defaults
import PySem.Challenge.RW_loginstacks_k71_whole_registers_beside_c
import KE.KStateDown
import Lean
import HandS.WordsExc
import HandS.Head0
import HandS.Head1
import HandS.Head2
import HandS.HeadEnd
import HandS.HeadHook1
import HandS.HeadHook2
import HandS.TupLe
section
set_option Elab.async false
set_option linter.all false
set_option maxRecDepth 100000
set_option maxHeartbeats 2000000
/-! Kit 1: defs, methods, classes by name (positional promises); own len, [], +; a slot as a target; making by a star. -/
namespace LK
open PySem PySem.Spec PyProof.Rows L2

section
variable (P : Program) (w : World) (K : PySem.W.Frag) (mg : Str → Option Value) (base : Heap)
/-- a def of the module, called by its name -/
structure Cal (k : Nat) (x : Str) (sp : Sp) : Prop where
  ex : ∃ f : Addr, FnR P w K mg base CX0 k f sp ∧ mg x = some (.ref f) ∧ PySem.W.keepIn K (.ref f) = true
/-- a method of the class at C -/
structure Met (k : Nat) (C : Addr) (m : Str) (sp : Sp) : Prop where
  ex : ∃ f : Addr, Cls K C ∧ Meth K C m f ∧ FnR P w K mg base CX0 k f sp
/-- a method of the class at C with slots -/
structure MetS (k : Nat) (C : Addr) (m : Str) (sp : Sp) : Prop where
  ex : ∃ f : Addr, SlX.SCls K C ∧ Meth K C m f ∧ FnR P w K mg base CX0 k f sp
/-- a class made by its name; sp: its __init__ -/
structure Mak (k : Nat) (x : Str) (C : Addr) (sp : Sp) : Prop where
  ex : ∃ f : Addr, Mk K C f ∧ mg x = some (.ref C) ∧ FnR P w K mg base CX0 k f sp
end
section
variable {P : Program} {w : World} {K : PySem.W.Frag} {mg : Str → Option Value} {base : Heap} {j k : Nat} {C : Addr} {x m : Str} {sp sp' : Sp}
theorem Cal.imp (c : Cal P w K mg base k x sp) (h : ∀ vs H Q E, sp' vs H Q E → sp vs H Q E) : Cal P w K mg base k x sp' :=
  let ⟨f, F, a, b⟩ := c.ex
  ⟨f, F.imp h, a, b⟩
/-- a def by its body: FnOk to the positional form -/
theorem fnR_of {CX : CXT} {f : Addr} {fd : FuncData} {ps : List Str} (F : FnOk P w K mg base CX k f fd ps sp) (hb : Binds K fd ps []) : FnR P w K mg base CX k f sp := by
  intro A outer s H us vs Q E hr e0 r hs
  have hl : us.length = ps.length := by rw [← r.length]; exact F.len _ _ _ _ hs
  have KX : K.In s.heap := e0.mod.kin.keeps fun b o e => (e0.bs b o e).1
  have b := hb s us KX (by rw [List.append_nil]; exact hl)
  rw [List.append_nil] at b
  exact F.run A outer s H ⟨us, []⟩ us vs Q E hr e0 b r hs
/-- the promise that nothing keeps: none may ask it -/
theorem fnR_false {CX : CXT} {f : Addr} : FnR P w K mg base CX k f (fun _ _ _ _ => False) := fun _ _ _ _ _ _ _ _ _ _ _ h => h.elim
end

section
variable {X : Cx} {j k : Nat} {C : Addr} {x m : Str} {sp : Sp} {p pos apos spos : Pos} {e o : Expr} {es : List Expr} {ta te : TE} {t : TA}
theorem pe_never {e : Expr} : PE X e (fun _ _ _ => False) := ⟨fun _ _ _ _ _ _ h => h.elim⟩
def tCallR (sp : Sp) (t : TA) : TE := fun σ H Q => t σ H fun vs H1 => sp vs H1 Q E0
theorem run_cal {f : Addr} {pins : List (Addr × Obj)} {σ : L2.St} {H : Hp} {s : Shared} {Q : VK} {us : List Value} {vs : List V} (F : FnR X.prog X.w X.K X.mg X.base CX0 k f sp) (hr : Room k X.A) (I : Inv X pins σ H s) (r : Vals vs us) (h : sp vs H Q E0) :
    wpAny (model X.prog X.w) X.A (call (.ref f) us) (EP X pins σ Q) X.xe s := wpAny_call (run_fnR F hr pass0 I r h)
theorem pe_c (c : Cal X.prog X.w X.K X.mg X.base k x sp) (hr : Room j X.A) (hk : k ≤ j) (hg : Gl X x) (ha : PA X (e :: es) t)
    (hdb : (x == ("__debug__" : Str)) = false := by decide) (he : starEach (e :: es) X.env = (false, eval e X.env) :: starEach es X.env := by rfl) (hpl : (backTo pos (starEach es X.env)).any (·.1) = false := by rfl) :
    PE X (.Call (.Name x p) (e :: es) [] pos) (tCallR sp t) := by
  obtain ⟨f, F, hm, kp⟩ := c.ex
  refine ⟨fun pins s σ H Q I h => ?_⟩
  refine wpAny_Call_Name_kw (ld_glob I hg hm ?_ hdb)
  refine PySem.W.callWith_K (h₀ := X.base) I.ok.mod.kin kp (thn (ha.run pos pins s σ H _ I h) fun us s1 ⟨vs, H1, I1, r, q⟩ => ⟨I1.kIn, ?_⟩) he hpl
  exact run_cal F (hr.mono hk) I1 r q
/-- o.m(e, ..) -/
def tMetR (C : Addr) (m : Str) (sp : Sp) (ta : TE) (t : TA) : TE := fun σ H Q => ta σ H fun x H1 => ∃ a dx fs, x = .ref a ∧ H1 a = some (.ins C dx fs) ∧ fs.lookup m = none ∧ t σ H1 fun vs H2 => sp (x :: vs) H2 Q E0
theorem pe_mt {pl : Sem Bool} (c : Met X.prog X.w X.K X.mg X.base k C m sp) (hr : Room j X.A) (hk : k ≤ j) (he : PE X o ta) (ha : PA X (e :: es) t)
    (hst : starEach (e :: es) X.env = (false, eval e X.env) :: starEach es X.env := by rfl) (hpl : (backTo pos (starEach es X.env)).any (·.1) = false := by rfl)
    (ht : eval (.Call (.Attribute o m apos) (e :: es) [] pos) X.env = (do
      let ov ← eval o X.env
      standAt apos.atName
      let (f, first) ← holding [ov] (getMethod ov m pl)
      callWith pos f first (backTo pos (starEach (e :: es) X.env)) (backToKw pos (keywordEach [] X.env))) := by rfl) :
    PE X (.Call (.Attribute o m apos) (e :: es) [] pos) (tMetR C m sp ta t) := by
  obtain ⟨f, cl, hm, F⟩ := c.ex
  refine ⟨fun pins s σ H Q I h => ?_⟩
  refine PySem.W.methodCall_KW (pl := pl) (thn (he.run pins s σ H _ I h) fun u s1 ⟨x, H1, I1, rx, a, dx, fs, ex, ea, l, q⟩ => ?_) ht
  subst ex
  obtain rfl : u = Value.ref a := rx
  refine getmeth_ok I1 ea cl hm l ?_
  refine PySem.W.callWith_K (first := [.ref a]) (h₀ := X.base) I.ok.mod.kin hm.kp (thn (ha.run pos pins s1 σ H1 _ I1 q) fun us s2 ⟨vs, H2, I2, r, q2⟩ => ⟨I2.kIn, ?_⟩) hst hpl
  exact run_cal (us := .ref a :: us) (vs := .ref a :: vs) F (hr.mono hk) I2 (.cons rfl r) q2
theorem pe_mt0 {pl : Sem Bool} (c : Met X.prog X.w X.K X.mg X.base k C m sp) (hr : Room j X.A) (hk : k ≤ j) (he : PE X o ta)
    (ht : eval (.Call (.Attribute o m apos) [] [] pos) X.env = (do
      let ov ← eval o X.env
      standAt apos.atName
      let (f, first) ← holding [ov] (getMethod ov m pl)
      callWith pos f first (backTo pos (starEach [] X.env)) (backToKw pos (keywordEach [] X.env))) := by rfl) :
    PE X (.Call (.Attribute o m apos) [] [] pos) (tMetR C m sp ta tNil) := by
  obtain ⟨f, cl, hm, F⟩ := c.ex
  refine ⟨fun pins s σ H Q I h => ?_⟩
  refine PySem.W.methodCall_KW (pl := pl) (thn (he.run pins s σ H _ I h) fun u s1 ⟨x, H1, I1, rx, a, dx, fs, ex, ea, l, q⟩ => ?_) ht
  subst ex
  obtain rfl : u = Value.ref a := rx
  refine getmeth_ok I1 ea cl hm l ?_
  exact PySem.W.callWith_K0 (first := [.ref a]) I1.kIn hm.kp (run_cal (us := [.ref a]) (vs := [.ref a]) F (hr.mono hk) I1 (.cons rfl .nil) q)
end
end LK

end

section
set_option Elab.async false
set_option linter.all false
set_option maxRecDepth 100000
set_option maxHeartbeats 2000000
/-! Sets of texts: set(list), set(tuple), sorted(set), len(set): the ways of the sets of ints, turned to texts. -/
namespace LKS
open PySem PySem.Spec PyProof.Rows L2

def keyOf (e : Int × Value) : Str := match e.2 with | .str k _ => k | _ => Str.empty
def GoodE (w : World) (e : Int × Value) : Prop := ∃ k tk, e.2 = Value.str k tk ∧ e.1 = hashStr w k
/-- the set of texts at a: S its members, n their number -/
def SetR (w : World) (h : Heap) (a : Addr) (S : Str → Bool) (n : Nat) : Prop :=
  ∃ o es ep t, h.get? a = some o ∧ o.ExactSet ∧ o.data = .set es ep t ∧ (∀ e ∈ es.toList, GoodE w e) ∧ (es.toList.map keyOf).Nodup ∧ (∀ k, S k = true ↔ k ∈ es.toList.map keyOf) ∧
    es.size < scanBound ∧ t.fits es.size = true ∧ es.size = n ∧ Ris t.place.toList ∧ (w.params.followText "set-order" = true ∨ t.led = true)

section
variable {P : Program} {w : World} {h h' : Heap} {a : Addr} {S : Str → Bool} {n : Nat}

theorem SetR.at (R : SetR w h a S n) (k : ∀ o, h.get? a = some o → h'.get? a = some o) : SetR w h' a S n := by
  obtain ⟨o, es, ep, t, ho, r⟩ := R
  exact ⟨o, es, ep, t, k o ho, r⟩
theorem SetR.lt (R : SetR w h a S n) : a < h.objs.size := by
  obtain ⟨o, es, ep, t, ho, r⟩ := R
  exact Heap.lt_size ho
theorem SetR.congr {S' : Str → Bool} (R : SetR w h a S n) (e : ∀ k, S' k = S k) : SetR w h a S' n := by
  have q : S' = S := funext e
  rw [q]; exact R
theorem good_elems {l : List (Int × Value)} (g : ∀ e ∈ l, GoodE w e) : ElemsOf (PySem.strKind P w) l := fun e he => by
  obtain ⟨k, tk, h1, h2⟩ := g e he
  exact ⟨⟨k, by rw [h1]; exact PySem.strKind_is P w k tk, h2⟩, by rw [h1] <;> rfl⟩
theorem good_is {e : Int × Value} (g : GoodE w e) (k : Str) : (PySem.strKind P w).is k e.2 = true ↔ keyOf e = k := by
  obtain ⟨k0, tk, h1, _⟩ := g
  unfold keyOf
  rw [h1]
  show ((k0 == k) = true) ↔ k0 = k
  exact beq_iff_eq
theorem good_mem {l : List (Int × Value)} (g : ∀ e ∈ l, GoodE w e) (k : Str) : k ∈ l.map keyOf ↔ ∃ e ∈ l, (PySem.strKind P w).is k e.2 = true := by
  rw [List.mem_map]
  constructor
  · rintro ⟨e, he, q⟩
    exact ⟨e, he, (good_is (g e he) k).2 q⟩
  · rintro ⟨e, he, q⟩
    exact ⟨e, he, (good_is (g e he) k).1 q⟩
theorem SetR.setOf (R : SetR w h a S n) : h.SetOf (PySem.strKind P w) a S n := by
  obtain ⟨o, es, ep, t, ho, hx, hd, g, nd, hm, hb, hf, hn, _⟩ := R
  exact ⟨o, es, ep, t, ho, hx, hd, good_elems g, fun k => (hm k).trans (good_mem g k), hb, hf, hn⟩
end

section
variable {P : Program} {w : World} {A : Around} {E : Value → Shared → Prop} {s : Shared} {a : Addr} {S : Str → Bool} {n : Nat}

theorem setR_add_tail {g : Bool → Sem Unit} (hg : ∀ (b : Bool) (s₁ : Shared) (Q' : Unit → Shared → Prop), Q' () s₁ → wpAny (model P w) A (g b) Q' E s₁)
    {o : Obj} {es : Array (Int × Value)} {ep : Nat} {t : SetTable} (ho : s.heap.get? a = some o) (hex : o.ExactSet) (hd : o.data = .set es ep t)
    {es1 : Array (Int × Value)} {t2 : SetTable} {S' : Str → Bool} (g1 : ∀ e ∈ es1.toList, GoodE w e) (nd1 : (es1.toList.map keyOf).Nodup) (m1 : ∀ k, S' k = true ↔ k ∈ es1.toList.map keyOf)
    (hb1 : es1.size < scanBound) (hf2 : t2.fits es1.size = true) (hr : Ris t2.place.toList) (hl : w.params.followText "set-order" = true ∨ t2.led = true) {wasDummy : Bool} {R : Option Bool → Shared → Prop}
    (hR : ∀ h', Heap.SameBut a s.heap h' → SetR w h' a S' es1.size → R (some true) { s with heap := h' }) :
    wpAny (model P w) A (do
        storeSet a es1 t2
        if (!wasDummy && t2.tooFull) = true then do
            g (relayAll t2 es1 (SetTable.grown es1.size)).2.2
            storeSet a (relayAll t2 es1 (SetTable.grown es1.size)).1 (relayAll t2 es1 (SetTable.grown es1.size)).2.1
            pure (some true)
          else pure (some true)) R E s := by
  refine wpAny_bind (wpAny_storeSet_of ho hd ?_ (fits_of_scanBound hb1))
  have ho1 := store_at (es' := es1) (t' := t2) ho hd
  have sb1 := Heap.SameBut.update s.heap a (Obj.putSet es1 t2)
  split
  · have pm := relayAll_perm t2 es1 (SetTable.grown es1.size)
    have hf3 := relayAll_fits t2 es1 (SetTable.grown es1.size)
    have hr3 := relayAll_ris t2 es1 (SetTable.grown es1.size)
    have hl3 := relayAll_led t2 es1 (SetTable.grown es1.size)
    generalize relayAll t2 es1 (SetTable.grown es1.size) = Z at pm hf3 hr3 hl3 ⊢
    obtain ⟨es2, t3, gave⟩ := Z
    dsimp only at pm hf3 hr3 hl3 ⊢
    have hsz : es2.size = es1.size := by rw [← Array.length_toList, pm.length_eq, Array.length_toList]
    have hb2 : es2.size < scanBound := by rw [hsz]; exact hb1
    refine wpAny_bind (hg _ _ _ ?_)
    refine wpAny_bind (wpAny_storeSet_of ho1 rfl ?_ (fits_of_scanBound hb2))
    have ho2 := store_at (es' := es2) (t' := t3) ho1 rfl
    refine wpAny_pure (hR _ (sb1.trans (Heap.SameBut.update _ a _)) ?_)
    exact ⟨_, es2, _, t3, ho2, hex, rfl, fun e he => g1 e (pm.mem_iff.mp he), (pm.map keyOf).nodup_iff.mpr nd1, fun k => (m1 k).trans (pm.map keyOf).mem_iff.symm, hb2, hf3, hsz, hr3,
      hl.imp id fun z => by rw [hl3]; exact z⟩
  · exact wpAny_pure (hR _ sb1 ⟨_, es1, _, t2, ho1, hex, rfl, g1, nd1, m1, hb1, hf2, rfl, hr, hl⟩)

theorem setR_add_hashed {k : Str} {tk : Tok} {Q : Bool → Shared → Prop} (R : SetR w s.heap a S n) (room : n + 1 < scanBound)
    (hQ : ∀ h', Heap.SameBut a s.heap h' → SetR w h' a (fun j => S j || decide (j = k)) (if S k = true then n else n + 1) → Q (!S k) { s with heap := h' }) :
    wpAny (model P w) A (setAddHashed a (.str k tk) ((PySem.strKind P w).hash k)) Q E s := by
  obtain ⟨o, es, ep, t, ho, hex, hd, g, nd, hm, hb, hf, hn, hr, hl⟩ := R
  have hkey : (PySem.strKind P w).is k (.str k tk) = true := PySem.strKind_is P w k tk
  have hsc : (Value.str k tk).scannable = true := rfl
  have hel : ElemsOf (PySem.strKind P w) es.toList := good_elems g
  unfold setAddHashed setAddHashedIn
  refine wpAny_holding (wpAny_bind (wpAny_setState_of ho hd hf ?_))
  dsimp only
  rw [byScan_of hsc hb hel]
  simp only [↓reduceIte]
  unfold setAddByScan
  refine wpAny_bind ?_
  refine wpAny_bind (wpAny_rule ?_)
  refine wpAny_bind (wpAny_setScan_of hkey ho hd hf hel ?_)
  cases hfi : List.findIdx? (fun e => (PySem.strKind P w).is k e.2) es.toList with
  | some j =>
    dsimp only
    obtain ⟨hj, pj, _⟩ := List.findIdx?_eq_some_iff_getElem.mp hfi
    have hSk : S k = true := (hm k).2 ((good_mem (P := P) (w := w) g k).2 ⟨es.toList[j], List.getElem_mem hj, pj⟩)
    refine wpAny_pure (wpAny_pure ?_)
    have q := hQ s.heap (Heap.SameBut.refl a s.heap) ⟨o, es, ep, t, ho, hex, hd, g, nd, fun i => by
      rw [Bool.or_eq_true, decide_eq_true_eq, ← hm i]
      exact ⟨fun z => z.elim id (fun e => e ▸ hSk), .inl⟩, hb, hf, by rw [if_pos hSk]; exact hn, hr, hl⟩
    rw [hSk] at q
    exact q
  | none =>
    dsimp only
    have hnk : k ∉ es.toList.map keyOf := fun z => by
      obtain ⟨e, he, q⟩ := (good_mem (P := P) (w := w) g k).1 z
      have c := List.findIdx?_eq_none_iff.mp hfi e he
      rw [q] at c
      cases c
    have hSk : S k = false := by
      cases q : S k with
      | false => rfl
      | true => exact absurd ((hm k).1 q) hnk
    have hgw : ∀ (b : Bool) {s₁ : Shared} {Q' : Unit → Shared → Prop}, Q' () s₁ → wpAny (model P w) A (match b with | true => rule "set.scan.the-table-gave-way" | false => pure ()) Q' E s₁ :=
      fun b s₁ Q' q => by cases b <;> first | exact wpAny_pure q | exact wpAny_rule q
    have pm := layNew_perm t es ((PySem.strKind P w).hash k) (.str k tk)
    have hf1 := layNew_fits t es ((PySem.strKind P w).hash k) (.str k tk)
    have hr1 := layNew_ris t es ((PySem.strKind P w).hash k) (.str k tk) hr
    have hl1 := layNew_led t es ((PySem.strKind P w).hash k) (.str k tk)
    generalize layNew t es ((PySem.strKind P w).hash k) (.str k tk) = Z at pm hf1 hr1 hl1 ⊢
    obtain ⟨es1, t1, wasDummy, gave⟩ := Z
    dsimp only at pm hf1 hr1 hl1 ⊢
    rw [Array.toList_push] at pm
    have pc : es1.toList.Perm (((PySem.strKind P w).hash k, Value.str k tk) :: es.toList) := pm.trans (List.perm_append_singleton _ _)
    have pk : (es1.toList.map keyOf).Perm (k :: es.toList.map keyOf) := pc.map keyOf
    have g1 : ∀ e ∈ es1.toList, GoodE w e := fun e he => by
      rcases List.mem_cons.mp (pc.mem_iff.mp he) with z | z
      · rw [z]; exact ⟨k, tk, rfl, rfl⟩
      · exact g e z
    have nd1 : (es1.toList.map keyOf).Nodup := pk.nodup_iff.mpr (List.nodup_cons.mpr ⟨hnk, nd⟩)
    have m1 : ∀ i, (S i || decide (i = k)) = true ↔ i ∈ es1.toList.map keyOf := fun i => by
      rw [Bool.or_eq_true, decide_eq_true_eq, hm i, pk.mem_iff, List.mem_cons]
      exact Or.comm
    have hsz : es1.size = n + 1 := by rw [← Array.length_toList, pc.length_eq, List.length_cons, Array.length_toList, hn]
    have hb1 : es1.size < scanBound := by rw [hsz]; exact room
    have hled : w.params.followText "set-order" = true ∨ t1.led = true := hl.imp id fun z => by rw [hl1]; exact z
    have fin : ∀ h', Heap.SameBut a s.heap h' → SetR w h' a (fun j => S j || decide (j = k)) es1.size → Q true { s with heap := h' } := fun h' sb r => by
      have q := hQ h' sb
      rw [hSk] at q
      rw [hsz] at r
      exact q r
    refine wpAny_bind (hgw _ ?_)
    split
    · refine wpAny_bind ?_
      rw [hashByValue_scannable 8 hsc]
      refine wpAny_pure ?_
      refine setR_add_tail ?_ ho hex hd g1 nd1 m1 hb1 ?_ ?_ ?_ ?_
      · intro b s₁ Q' q; cases b <;> first | exact wpAny_pure q | exact wpAny_rule q
      · first | (split <;> first | exact hf1 | exact SetTable.fits_plain_off hf1) | exact hf1
      · first | (split <;> exact hr1) | exact hr1
      · first | (split <;> exact hled) | exact hled
      · intro h' sb r; dsimp only; exact wpAny_pure (fin h' sb r)
    · refine wpAny_bind (wpAny_pure ?_)
      simp only [↓reduceIte]
      refine setR_add_tail ?_ ho hex hd g1 nd1 m1 hb1 hf1 hr1 hled ?_
      · intro b s₁ Q' q; cases b <;> first | exact wpAny_pure q | exact wpAny_rule q
      · intro h' sb r; dsimp only; exact wpAny_pure (fin h' sb r)

end

theorem setR_new_at {w : World} {h : Heap} {a : Addr} {ns : List Str} (ho : h.get? a = some { cls := .type "set", dict := none, data := .set #[] 0 (.fresh 0 0 (!w.params.followText "set-order")) }) : SetR w h a (fun j => decide (j ∈ ns.take 0)) 0 :=
  ⟨_, #[], 0, _, ho, ⟨rfl, rfl, rfl⟩, rfl, (fun e he => by simp at he), (by simp), (fun k => by simp), (by decide), (by rfl), rfl, List.Pairwise.nil, by
    show _ ∨ (!w.params.followText "set-order") = true
    cases w.params.followText "set-order"
    · exact .inr rfl
    · exact .inl rfl⟩

section
variable {P : Program} {w : World} {A : Around} {E : Value → Shared → Prop} {s : Shared}
theorem set_update_strs {I : Addr} {fp wr : List Addr} {G : Array GenState → Array GenState → Prop} {n : Nat} {Pv : Nat → Value → Prop} {St : Nat → Shared → Prop} {R : Result → Shared → Prop}
    (W : WalksS P w A.in1 I fp wr G n Pv St) (S : Addr) (hSf : S ∉ fp) (ns : List Str) (hn : n = ns.length) (hb : ns.length + 1 < scanBound) (hval : ∀ i v, Pv i v → ∃ k t, ns[i]? = some k ∧ v = .str k t) :
    ∀ (k i : Nat) (s : Shared), n - i = k → i ≤ n → St i s → (∃ c, c ≤ i ∧ SetR w s.heap S (fun j => decide (j ∈ ns.take i)) c) →
      (∀ s' c, Moved (S :: wr) G s s' → c ≤ n → SetR w s'.heap S (fun j => decide (j ∈ ns)) c → R (.ok (.ret .none)) s') →
      codeAny (model P w) A (.builtin "set.update.loop" ⟨[.ref S, .ref I], []⟩) R s := by
  have hSw : S ∉ wr := fun h => hSf (W.sub _ h)
  have hsub : ∀ b ∈ wr, b ∈ S :: wr := fun b hb => List.mem_cons_of_mem _ hb
  intro k
  induction k with
  | zero =>
    intro i s hk' hi hst ⟨c, hc, hS⟩ hR
    have hin : i = n := by omega
    subst hin
    refine codeAny_builtin F.entry_set_update_loop ?_
    rw [Around.under_plainId F.plain_set_update_loop _]
    show wpAny _ A.in1 (pyNext (.ref I) >>= _) _ _ s
    refine wpAny_bind (W.done s _ _ hst fun s' hm => ?_)
    show wpAny _ A.in1 (ret Value.none) _ _ s'
    have e : ns.take i = ns := List.take_of_length_le (by omega)
    rw [e] at hS
    exact wpAny_pure (hR s' c (hm.mono hsub) hc (hS.at fun o e => hm.heap S o hSw e))
  | succ k ih =>
    intro i s hk' hi hst ⟨c, hc, hS⟩ hR
    have hlt : i < n := by omega
    refine codeAny_builtin F.entry_set_update_loop ?_
    rw [Around.under_plainId F.plain_set_update_loop _]
    show wpAny _ A.in1 (pyNext (.ref I) >>= _) _ _ s
    refine wpAny_bind (W.item i s _ _ hlt hst fun v s' hP hst' hm => ?_)
    obtain ⟨z, t, hz, rfl⟩ := hval i v hP
    have hS' : SetR w s'.heap S (fun j => decide (j ∈ ns.take i)) c := hS.at fun o e => hm.heap S o hSw e
    show wpAny _ A.in1 (holding [Value.str z t] (setAdd S (.str z t)) >>= _) _ _ s'
    refine wpAny_bind (wpAny_holding ?_)
    unfold setAdd
    refine wpAny_holding ?_
    refine wpAny_bind ((PySem.strKind P w).pyHash (k := z) (PySem.strKind_is _ _ _ _) ?_)
    refine setR_add_hashed (s := { s' with toks := s'.toks + 1 }) hS' (by omega) fun h' hsb hS2 => ?_
    have hS3 : SetR w h' S (fun j => decide (j ∈ ns.take (i + 1))) (if decide (z ∈ ns.take i) = true then c else c + 1) := hS2.congr fun j => by
      rw [List.take_add_one, hz]
      simp [List.mem_append]
    have hc3 : (if decide (z ∈ ns.take i) = true then c else c + 1) ≤ i + 1 := by
      split <;> omega
    refine wpAny_pure ⟨plainId_quiet F.plain_set_update_loop _, ih (i + 1) _ (by omega) hlt (W.frame _ s' _ _ hst' (Nat.le_succ _) fun b hb o e => ?_) ⟨_, hc3, hS3⟩ fun s'' c2 hm'' hc'' hS'' => ?_⟩
    · rw [hsb.2 b (fun h : b = S => hSf (by rw [← h]; exact hb))]; exact e
    · refine hR s'' c2 (Moved.trans W.gtrans ((hm.mono hsub).then_heap (Nat.le_succ _) fun b o hb e => ?_) hm'') hc'' hS''
      rw [hsb.2 b (fun h : b = S => hb (by rw [h]; exact List.mem_cons_self))]; exact e


set_option maxRecDepth 100000 in
set_option maxHeartbeats 3200000 in
theorem call_set_tupS {l : Addr} {items : Array Value} (ns : List Str) {Q : Value → Shared → Prop} (hh : A.handled = none) (hl : s.heap.IsTuple l items) (hit : StrsAre items.toList ns) (hb : ns.length + 1 < scanBound)
    (h : ∀ (h' : Heap) (tk c : Nat), SetR w h' s.heap.objs.size (fun j => decide (j ∈ ns)) c → c ≤ ns.length → (∀ b o, s.heap.get? b = some o → h'.get? b = some o) → Q (.ref s.heap.objs.size) { s with heap := h', toks := tk }) :
    wpAny (model P w) A (call (.type "set") [.ref l]) Q E s := by
  have hisz : items.size = ns.length := by
    have q := StrsAre.len_eq hit
    rw [Array.length_toList] at q
    exact q
  obtain ⟨c, tl, hmro⟩ := F.called_set.mro
  have hmade := F.called_set.made
  have hsub := F.called_set.sub
  refine wpAny_call (codeAny_of_tree ?_)
  show wpAny _ _ (callAny (.type "set") _) _ _ _
  refine wpAny_pure ⟨Code.quiet_builtin _ (by decide +kernel), codeAny_builtin F.entry_type_call ?_⟩
  rw [Around.under_plain (weight_type_call_type "set" [.ref l] []) rfl]
  have h1 := F.called_set.notType
  have h2 := F.called_set.canCreate
  have hct := F.typeCall_set_1 (.ref l)
  repeat (any_goals (first | assumption | wp_step))

  refine codeAny_mono (code_set_led1 (.ref l) (E := E) (Q₁ := fun obj s₁ => obj = .ref s.heap.objs.size ∧ s₁ = { s with heap := s.heap.push { cls := .type "set", dict := none, data := .set #[] 0 (.fresh 0 0 (!w.params.followText "set-order")) } }) ⟨rfl, rfl⟩) fun r s₁ hr => ?_
  cases r with
  | error e => exact hr
  | ok fl =>
    cases fl with
    | ret obj =>
      obtain ⟨rfl, rfl⟩ := hr
      have hS : (s.heap.push { cls := .type "set", dict := none, data := .set #[] 0 (.fresh 0 0 (!w.params.followText "set-order")) }).get? s.heap.objs.size = some { cls := .type "set", dict := none, data := .set #[] 0 (.fresh 0 0 (!w.params.followText "set-order")) } := Heap.get?_push_size _ rfl
      have hT : Shared.TypeIs { s with heap := s.heap.push { cls := .type "set", dict := none, data := .set #[] 0 (.fresh 0 0 (!w.params.followText "set-order")) } } (.ref s.heap.objs.size) "set" := ⟨_, hS, rfl⟩
      have hli := F.called_set.init.lookup
      have hbi := F.called_set.init.bind (.ref s.heap.objs.size)
      repeat (any_goals (first | assumption | wp_step))

      refine codeAny_mono (codeAny_call_builtin (R := wants (fun r s₂ => r = .none ∧ ∃ h' tk c, s₂ = { s with heap := h', toks := tk } ∧ SetR w h' s.heap.objs.size (fun j => decide (j ∈ ns)) c ∧ c ≤ ns.length ∧
          (∀ b o, s.heap.get? b = some o → h'.get? b = some o)) E) F.called_set.init.plain F.entry_set_init (check_set_init_1 hT ?_)) fun r₂ s₂ hr₂ => ?_
      · obtain ⟨ol, hol, hcl, nl, hdl⟩ := hl
        obtain ⟨ocls, odict, odata, oslots⟩ := ol
        simp only at hcl hdl
        subst hcl; subst hdl
        have hol' : (s.heap.push { cls := .type "set", dict := none, data := .set #[] 0 (.fresh 0 0 (!w.params.followText "set-order")) }).get? l = some { cls := .type "tuple", dict := odict, data := .seq items nl, slots := oslots } := Heap.get?_push_of_some _ hol
        have hsls := F.sub_tuple_set
        have hslf := F.sub_tuple_frozenset
        have hne : (Value.type "tuple" == Value.type "dict") = false := by decide
        have hl1 : (s.heap.push { cls := .type "set", dict := none, data := .set #[] 0 (.fresh 0 0 (!w.params.followText "set-order")) }).IsTuple l items := ⟨_, hol', rfl, nl, rfl⟩
        unfold Builtin.«set.__init__» noKeywords Builtin.Frozenset.updateFrom
        generalize hPI : pyIter = PI
        wp_walk
        subst hPI

        refine wpAny_pyIter_tuple hl1 ?_
        refine wpAny_bind (wpAny_runValue ?_)
        have hlS : l < s.heap.objs.size := Heap.lt_size hol
        have hh3 : A.in1.in1.in1.handled = none := by simp [hh]
        have hz1 : (s.heap.push { cls := .type "set", dict := none, data := .set #[] 0 (.fresh 0 0 (!w.params.followText "set-order")) }).objs.size = s.heap.objs.size + 1 := Heap.size_push ..
        have hneI : l ≠ (s.heap.push { cls := .type "set", dict := none, data := .set #[] 0 (.fresh 0 0 (!w.params.followText "set-order")) }).objs.size := by
          rw [Heap.size_push]; exact Nat.ne_of_lt (Nat.lt_succ_of_lt hlS)
        have hSf : s.heap.objs.size ∉ [(s.heap.push { cls := .type "set", dict := none, data := .set #[] 0 (.fresh 0 0 (!w.params.followText "set-order")) }).objs.size, l] := by
          rw [Heap.size_push]; simp only [List.mem_cons, List.mem_singleton, List.not_mem_nil, or_false, not_or]
          exact ⟨Nat.ne_of_lt (Nat.lt_succ_self _), Nat.ne_of_gt hlS⟩
        have hval : ∀ (i : Nat) (v : Value), items[i]? = some v → ∃ k t, ns[i]? = some k ∧ v = .str k t := fun i v hv => by
          have hi : i < ns.length := by rw [← hisz]; exact (Array.getElem?_eq_some_iff.mp hv).1
          obtain ⟨t, e⟩ := SS.strs_at hit i v (by rw [Array.getElem?_toList]; exact hv)
          refine ⟨ns[i], t, List.getElem?_eq_getElem hi, ?_⟩
          rw [e, List.getD_eq_getElem?_getD, List.getElem?_eq_getElem hi] <;> rfl
        refine set_update_strs ((Walks.tuple hh3 _ l hneI items).toS) s.heap.objs.size
          hSf ns hisz hb hval (items.size - 0) 0 _ (by omega) (Nat.zero_le _)
          ⟨⟨_, Heap.get?_push_size _ rfl, rfl, rfl⟩, (hl1.push _)⟩ ?hS0 ?hR
        case hS0 =>
          have hget : ((s.heap.push { cls := .type "set", dict := none, data := .set #[] 0 (.fresh 0 0 (!w.params.followText "set-order")) }).push { cls := .type "tuple_iterator", data := .fields #[.ref l, .int 0 0] }).get? s.heap.objs.size
              = some { cls := .type "set", dict := none, data := .set #[] 0 (.fresh 0 0 (!w.params.followText "set-order")) } := Heap.get?_push_of_some _ hS
          exact ⟨0, Nat.le_refl 0, setR_new_at hget⟩
        case hR =>
          intro s' c' hm hc' hS'
          obtain ⟨h', g2, d', tk', os'⟩ := s'
          have eg : g2 = s.gens := hm.gens
          have ed : d' = s.drawn := hm.drawn
          have eo : os' = s.os := hm.os
          subst eg; subst ed; subst eo
          show wpAny _ _ _ _ _ _
          refine wpAny_pure ?_
          show wpAny _ _ (ret Value.none) _ _ _
          rw [hisz] at hc'
          refine wpAny_pure ⟨rfl, h', tk', c', rfl, hS', hc', fun b o e => ?_⟩
          have hb0 : b < s.heap.objs.size := Heap.lt_size e
          have hb1 : b ≠ s.heap.objs.size := Nat.ne_of_lt hb0
          have hb2 : b ≠ (s.heap.push { cls := .type "set", dict := none, data := .set #[] 0 (.fresh 0 0 (!w.params.followText "set-order")) }).objs.size := by
            rw [Heap.size_push]; exact Nat.ne_of_lt (Nat.lt_succ_of_lt hb0)
          exact hm.heap b o (by simp only [List.mem_cons, List.mem_singleton, List.not_mem_nil, or_false, not_or]; exact ⟨hb1, hb2⟩) (Heap.get?_push_of_some _ (Heap.get?_push_of_some _ e))

      · cases r₂ with
        | error e => exact hr₂
        | ok fl₂ =>
          cases fl₂ with
          | ret r =>
            obtain ⟨rfl, h', tk, c', rfl, hS', hc', hk'⟩ := hr₂
            repeat (any_goals (first | assumption | wp_step))
            exact h _ _ _ hS' hc' hk'
          | _ => exact hr₂.elim
    | _ => exact hr.elim


set_option maxRecDepth 100000 in
set_option maxHeartbeats 3200000 in
theorem call_set_lstS {l : Addr} {items : Array Value} (ns : List Str) {Q : Value → Shared → Prop} (hh : A.handled = none) (hl : s.heap.IsList l items) (hit : StrsAre items.toList ns) (hb : ns.length + 1 < scanBound)
    (h : ∀ (h' : Heap) (tk c : Nat), SetR w h' s.heap.objs.size (fun j => decide (j ∈ ns)) c → c ≤ ns.length → (∀ b o, s.heap.get? b = some o → h'.get? b = some o) → Q (.ref s.heap.objs.size) { s with heap := h', toks := tk }) :
    wpAny (model P w) A (call (.type "set") [.ref l]) Q E s := by
  have hisz : items.size = ns.length := by
    have q := StrsAre.len_eq hit
    rw [Array.length_toList] at q
    exact q
  obtain ⟨c, tl, hmro⟩ := F.called_set.mro
  have hmade := F.called_set.made
  have hsub := F.called_set.sub
  refine wpAny_call (codeAny_of_tree ?_)
  show wpAny _ _ (callAny (.type "set") _) _ _ _
  refine wpAny_pure ⟨Code.quiet_builtin _ (by decide +kernel), codeAny_builtin F.entry_type_call ?_⟩
  rw [Around.under_plain (weight_type_call_type "set" [.ref l] []) rfl]
  have h1 := F.called_set.notType
  have h2 := F.called_set.canCreate
  have hct := F.typeCall_set_1 (.ref l)
  repeat (any_goals (first | assumption | wp_step))

  refine codeAny_mono (code_set_led1 (.ref l) (E := E) (Q₁ := fun obj s₁ => obj = .ref s.heap.objs.size ∧ s₁ = { s with heap := s.heap.push { cls := .type "set", dict := none, data := .set #[] 0 (.fresh 0 0 (!w.params.followText "set-order")) } }) ⟨rfl, rfl⟩) fun r s₁ hr => ?_
  cases r with
  | error e => exact hr
  | ok fl =>
    cases fl with
    | ret obj =>
      obtain ⟨rfl, rfl⟩ := hr
      have hS : (s.heap.push { cls := .type "set", dict := none, data := .set #[] 0 (.fresh 0 0 (!w.params.followText "set-order")) }).get? s.heap.objs.size = some { cls := .type "set", dict := none, data := .set #[] 0 (.fresh 0 0 (!w.params.followText "set-order")) } := Heap.get?_push_size _ rfl
      have hT : Shared.TypeIs { s with heap := s.heap.push { cls := .type "set", dict := none, data := .set #[] 0 (.fresh 0 0 (!w.params.followText "set-order")) } } (.ref s.heap.objs.size) "set" := ⟨_, hS, rfl⟩
      have hli := F.called_set.init.lookup
      have hbi := F.called_set.init.bind (.ref s.heap.objs.size)
      repeat (any_goals (first | assumption | wp_step))

      refine codeAny_mono (codeAny_call_builtin (R := wants (fun r s₂ => r = .none ∧ ∃ h' tk c, s₂ = { s with heap := h', toks := tk } ∧ SetR w h' s.heap.objs.size (fun j => decide (j ∈ ns)) c ∧ c ≤ ns.length ∧
          (∀ b o, s.heap.get? b = some o → h'.get? b = some o)) E) F.called_set.init.plain F.entry_set_init (check_set_init_1 hT ?_)) fun r₂ s₂ hr₂ => ?_
      · obtain ⟨ol, hol, hcl, nl, hdl⟩ := hl
        obtain ⟨ocls, odict, odata, oslots⟩ := ol
        simp only at hcl hdl
        subst hcl; subst hdl
        have hol' : (s.heap.push { cls := .type "set", dict := none, data := .set #[] 0 (.fresh 0 0 (!w.params.followText "set-order")) }).get? l = some { cls := .type "list", dict := odict, data := .seq items nl, slots := oslots } := Heap.get?_push_of_some _ hol
        have hsls := F.sub_list_set
        have hslf := F.sub_list_frozenset
        have hne : (Value.type "list" == Value.type "dict") = false := by decide
        have hl1 : (s.heap.push { cls := .type "set", dict := none, data := .set #[] 0 (.fresh 0 0 (!w.params.followText "set-order")) }).IsList l items := ⟨_, hol', rfl, nl, rfl⟩
        unfold Builtin.«set.__init__» noKeywords Builtin.Frozenset.updateFrom
        generalize hPI : pyIter = PI
        wp_walk
        subst hPI

        refine wpAny_pyIter_list hl1 ?_
        refine wpAny_bind (wpAny_runValue ?_)
        have hlS : l < s.heap.objs.size := Heap.lt_size hol
        have hh3 : A.in1.in1.in1.handled = none := by simp [hh]
        have hz1 : (s.heap.push { cls := .type "set", dict := none, data := .set #[] 0 (.fresh 0 0 (!w.params.followText "set-order")) }).objs.size = s.heap.objs.size + 1 := Heap.size_push ..
        have hneI : l ≠ (s.heap.push { cls := .type "set", dict := none, data := .set #[] 0 (.fresh 0 0 (!w.params.followText "set-order")) }).objs.size := by
          rw [Heap.size_push]; exact Nat.ne_of_lt (Nat.lt_succ_of_lt hlS)
        have hSf : s.heap.objs.size ∉ [(s.heap.push { cls := .type "set", dict := none, data := .set #[] 0 (.fresh 0 0 (!w.params.followText "set-order")) }).objs.size, l] := by
          rw [Heap.size_push]; simp only [List.mem_cons, List.mem_singleton, List.not_mem_nil, or_false, not_or]
          exact ⟨Nat.ne_of_lt (Nat.lt_succ_self _), Nat.ne_of_gt hlS⟩
        have hval : ∀ (i : Nat) (v : Value), items[i]? = some v → ∃ k t, ns[i]? = some k ∧ v = .str k t := fun i v hv => by
          have hi : i < ns.length := by rw [← hisz]; exact (Array.getElem?_eq_some_iff.mp hv).1
          obtain ⟨t, e⟩ := SS.strs_at hit i v (by rw [Array.getElem?_toList]; exact hv)
          refine ⟨ns[i], t, List.getElem?_eq_getElem hi, ?_⟩
          rw [e, List.getD_eq_getElem?_getD, List.getElem?_eq_getElem hi] <;> rfl
        refine set_update_strs ((Walks.list hh3 _ l hneI items).toS) s.heap.objs.size
          hSf ns hisz hb hval (items.size - 0) 0 _ (by omega) (Nat.zero_le _)
          ⟨⟨_, Heap.get?_push_size _ rfl, rfl, rfl⟩, (hl1.push _)⟩ ?hS0 ?hR
        case hS0 =>
          have hget : ((s.heap.push { cls := .type "set", dict := none, data := .set #[] 0 (.fresh 0 0 (!w.params.followText "set-order")) }).push { cls := .type "list_iterator", data := .fields #[.ref l, .int 0 0] }).get? s.heap.objs.size
              = some { cls := .type "set", dict := none, data := .set #[] 0 (.fresh 0 0 (!w.params.followText "set-order")) } := Heap.get?_push_of_some _ hS
          exact ⟨0, Nat.le_refl 0, setR_new_at hget⟩
        case hR =>
          intro s' c' hm hc' hS'
          obtain ⟨h', g2, d', tk', os'⟩ := s'
          have eg : g2 = s.gens := hm.gens
          have ed : d' = s.drawn := hm.drawn
          have eo : os' = s.os := hm.os
          subst eg; subst ed; subst eo
          show wpAny _ _ _ _ _ _
          refine wpAny_pure ?_
          show wpAny _ _ (ret Value.none) _ _ _
          rw [hisz] at hc'
          refine wpAny_pure ⟨rfl, h', tk', c', rfl, hS', hc', fun b o e => ?_⟩
          have hb0 : b < s.heap.objs.size := Heap.lt_size e
          have hb1 : b ≠ s.heap.objs.size := Nat.ne_of_lt hb0
          have hb2 : b ≠ (s.heap.push { cls := .type "set", dict := none, data := .set #[] 0 (.fresh 0 0 (!w.params.followText "set-order")) }).objs.size := by
            rw [Heap.size_push]; exact Nat.ne_of_lt (Nat.lt_succ_of_lt hb0)
          exact hm.heap b o (by simp only [List.mem_cons, List.mem_singleton, List.not_mem_nil, or_false, not_or]; exact ⟨hb1, hb2⟩) (Heap.get?_push_of_some _ (Heap.get?_push_of_some _ e))

      · cases r₂ with
        | error e => exact hr₂
        | ok fl₂ =>
          cases fl₂ with
          | ret r =>
            obtain ⟨rfl, h', tk, c', rfl, hS', hc', hk'⟩ := hr₂
            repeat (any_goals (first | assumption | wp_step))
            exact h _ _ _ hS' hc' hk'
          | _ => exact hr₂.elim
    | _ => exact hr.elim


/-! ### sorted -/
theorem strs_of : ∀ (l : List (Int × Value)), (∀ e ∈ l, GoodE w e) → StrsAre (l.map (·.2)) (l.map keyOf)
  | [], _ => .nil
  | e :: l, h => by
    obtain ⟨k, tk, h1, _⟩ := h e List.mem_cons_self
    have z := strs_of l fun u hu => h u (List.mem_cons_of_mem _ hu)
    rw [List.map_cons, List.map_cons]
    have e2 : keyOf e = k := by unfold keyOf; rw [h1]
    rw [h1, e2]
    exact .cons k tk z

theorem list_sort_strs {a : Addr} {vs : List Value} {ss : List Str} {n : Nat} {P' : Fin → Shared → Prop} (ho : s.heap.get? a = some (seqObj "list" vs.toArray n))
    (hI : StrsAre vs ss) (hL : vs.length < 64)
    (h : ∀ (out : Array Value) (ss' : List Str), StrsAre out.toList ss' → ss'.Perm ss → sortedS ss' = true → P' (.done (.ret .none)) { s with heap := sortedHeap s.heap a vs out }) :
    wpAny (model P w) A (Builtin.«list.sort» ⟨[.ref a], []⟩) P' E s := by
  refine list_sort_treeK strKind_oneLt ho hI.keysOf (fun v₁ v₂ rest e => keyKind_strs (by rw [← e]; exact hI)) hL fun st' hp hs => ?_
  obtain ⟨ns', h1, h2, h3⟩ := sorted_out_str hI hp hs
  exact h _ ns' h1 h2 h3

theorem strs_map_perm {vs : List Value} {es : List (Int × Value)} (g : ∀ e ∈ es, GoodE w e) (pm : vs.Perm (es.map (·.2))) : ∃ ss, StrsAre vs ss ∧ ss.Perm (es.map keyOf) := by
  have S0 := strs_of es g
  refine ⟨vs.map strOf, strsAre_map vs fun v hv => ?_, ?_⟩
  · exact StrsAre.all S0 v (pm.mem_iff.mp hv)
  · have q := pm.map strOf
    rw [StrsAre.strs S0] at q
    exact q

theorem sorted_set {a : Addr} {S : Str → Bool} {n : Nat} {Q : Value → Shared → Prop} (R : SetR w s.heap a S n) (hh : A.handled = none) (h64 : n < 64)
    (hQ : ∀ s' p (out : Array Value) (c : Nat) (ns : List Str), (∀ b o, s.heap.get? b = some o → s'.heap.get? b = some o) → s'.gens = s.gens → s'.os = s.os → s.heap.objs.size ≤ p →
      s'.heap.get? p = some (seqObj "list" out c) → StrsAre out.toList ns → sortedS ns = true → ns.Nodup → (∀ k, k ∈ ns ↔ S k = true) → ns.length = n → Q (.ref p) s') :
    wpAny (model P w) A (call (.builtin "sorted") [.ref a]) Q E s := by
  obtain ⟨o, es, ep, t, ho, hex, hd, g, nd, hm, hb, hf, hn, hr, hl⟩ := R
  refine Calls.call_function_entry kind_sorted plain_sorted entry_sorted (args_sorted1 _) ?_
  unfold Builtin.«sorted»
  refine wpAny_bind (m := checkCount "sorted" 1 1 _) (wpAny_pure ?_)
  refine wpAny_bind (collect_set (A := A.in1) hh ⟨o, ho, hex.1, hd⟩ hf hb hr hl fun s1 vs k1 hz g1 o1 pm => ?_)
  have hvl : vs.length = n := by rw [pm.length_eq, List.length_map, Array.length_toList]; exact hn
  obtain ⟨ss, hI, pk⟩ := strs_map_perm g pm
  refine wpAny_bind (wpAny_newList ?_ (by rw [hvl, sizeLine_eq]; omega))
  have hoL : (s1.heap.push (seqObj "list" vs.toArray 0)).get? s1.heap.objs.size = some (seqObj "list" vs.toArray 0) := Heap.get?_push_size _ rfl
  refine wpAny_bind (wpAny_holding (wpAny_call_entry slot_list_sort ⟨_, hoL, rfl⟩ entry_list_sort (list_sort_strs hoL hI (by rw [hvl]; exact h64) fun out ns' a1 a2 a3 => ⟨_, rfl, ?_⟩) (args_list_sort _)))
  obtain ⟨c, hc⟩ := sortedHeap_at (vs := vs) (out := out) hoL
  have pn : ns'.Perm (es.toList.map keyOf) := a2.trans pk
  refine wpAny_pure ⟨_, rfl, hQ _ s1.heap.objs.size out c ns' (fun b u e => ?_) g1 o1 hz hc a1 a3 (pn.nodup_iff.mpr nd) (fun k => by rw [pn.mem_iff, ← hm k]) ?_⟩
  · have q := k1 b u e
    have hlt := Heap.lt_size q
    show (sortedHeap (s1.heap.push (seqObj "list" vs.toArray 0)) s1.heap.objs.size vs out).get? b = some u
    rw [sortedHeap_old (Nat.ne_of_lt hlt) (by rw [size_push']; exact Nat.lt_succ_of_lt hlt)]
    exact Heap.get?_push_of_some _ q
  · rw [pn.length_eq, List.length_map, Array.length_toList]; exact hn
end

/-! ### the rules -/
/-- the set of texts at a -/
def SetO (w : World) (a : Addr) (S : Str → Bool) (n : Nat) : HO := .ext fun h => SetR w h a S n
section
variable {X : Cx}
theorem setO_new {w : World} {P : Program} {H : Hp} {h : Heap} {a : Addr} {S : Str → Bool} {n : Nat} (R : SetR w h a S n) : ObjOk P w H h a (SetO w a S n) := by
  have ⟨o, _, _, _, ho, _⟩ := R
  exact ⟨R, ⟨o, ho⟩, fun h1 h2 p k => SetR.at p k⟩
theorem setO_get {pins : List (Addr × Obj)} {σ : L2.St} {H : Hp} {s : Shared} {a : Addr} {S : Str → Bool} {n : Nat} (I : Inv X pins σ H s) (ha : H a = some (SetO X.w a S n)) : SetR X.w s.heap a S n := (I.hok a _ ha).1
/-- set(xs), xs a list or a tuple of texts -/
def rSetOf (K : PySem.W.Frag) (w : World) : List V → Hp → VK → Prop := fun vs H Q => ∃ (l : Addr) (ns : List Str), vs = [V.ref l] ∧ (SqL K H l (ns.map V.str) ∨ SqT K H l (ns.map V.str)) ∧ ns.length < 64 ∧
  ∀ (a : Addr) (c : Nat), H a = none → c ≤ ns.length → Q (.ref a) (upd H a (SetO w a (fun j => decide (j ∈ ns)) c))
theorem cr_setOf (hc : X.calm = true) : CallR X (.type "set") (rSetOf X.K X.w) := by
  intro pins s σ H vs us Q I r h
  obtain ⟨l, ns, rfl, hq, hl, q⟩ := h
  rw [Vals.ref1 r]
  have fin : ∀ (h' : Heap) (tk c : Nat), SetR X.w h' s.heap.objs.size (fun j => decide (j ∈ ns)) c → c ≤ ns.length → (∀ b o, s.heap.get? b = some o → h'.get? b = some o) → EP X pins σ Q (.ref s.heap.objs.size) { s with heap := h', toks := tk } := fun h' tk c R hcn k =>
    ⟨.ref _, upd H s.heap.objs.size (SetO X.w s.heap.objs.size (fun j => decide (j ∈ ns)) c), I.laid (t' := tk) k (Nat.le_refl _) (setO_new R), rfl, q _ c (I.hok.fresh (Nat.le_refl _)) hcn⟩
  rcases hq with hq | hq
  · obtain ⟨its, rv, pl, hz⟩ := I.list hq
    exact call_set_lstS ns (I.ok.hd hc) pl.isList (by simpa using strsAre_of rv) (by unfold scanBound; omega) fin
  · obtain ⟨its, rv, pl, hz⟩ := I.tuple hq
    exact call_set_tupS ns (I.ok.hd hc) pl (by simpa using strsAre_of rv) (by unfold scanBound; omega) fin
/-- sorted(found) -/
def rSortedSet (w : World) : List V → Hp → VK → Prop := fun vs H Q => ∃ (a : Addr) (S : Str → Bool) (n : Nat), vs = [V.ref a] ∧ H a = some (SetO w a S n) ∧ n < 64 ∧
  ∀ (ns : List Str) (p : Addr), sortedS ns = true → ns.Nodup → (∀ k : Str, k ∈ ns ↔ S k = true) → ns.length = n → H p = none → Q (.ref p) (upd H p (.lst (ns.map V.str)))
theorem cr_sortedSet (hc : X.calm = true) : CallR X (.builtin "sorted") (rSortedSet X.w) := by
  intro pins s σ H vs us Q I r h
  obtain ⟨a, S, n, rfl, ha, h64, q⟩ := h
  have R := setO_get I ha
  rw [Vals.ref1 r]
  refine sorted_set R (I.ok.hd hc) h64 fun s' p out c ns k g o hp hg hi hs hd hm hl => ?_
  have hlen : (ns.map V.str).length ≤ sizeLine := by rw [List.length_map, hl, sizeLine_eq]; omega
  have hn : H p = none := I.hok.fresh hp
  have J : Inv X pins σ (upd H p (.lst (ns.map V.str))) { s with heap := s'.heap, gens := s'.gens, drawn := s'.drawn, toks := s'.toks } :=
    I.call (ch := []) (Un.laid k hp hn) (I.hok.laid k hp ⟨hlen, out.toList, c, vals_of_strs hi, hg⟩) (by rw [g]; exact I.bare) (fun _ z => nomatch z)
  have e : s' = { s with heap := s'.heap, gens := s'.gens, drawn := s'.drawn, toks := s'.toks } := by
    cases s'
    cases s
    cases o
    rfl
  rw [e]
  exact ⟨.ref p, _, J, rfl, q ns p hs hd hm hl hn⟩
/-- len(found) -/
def rLenSet (w : World) : List V → Hp → VK → Prop := fun vs H Q => ∃ (a : Addr) (S : Str → Bool) (n : Nat), vs = [V.ref a] ∧ H a = some (SetO w a S n) ∧ ∀ ks : List Str, ks.Nodup → (∀ k, k ∈ ks ↔ S k = true) → ks.length = n → Q (.int (n : Nat)) H
theorem cr_lenSet : CallR X (.builtin "len") (rLenSet X.w) := by
  intro pins s σ H vs us Q I r h
  obtain ⟨a, S, n, rfl, ha, q⟩ := h
  have R := setO_get I ha
  rw [Vals.ref1 r]
  obtain ⟨o, es, ep, t, ho, hex, hd, _, nd, hm, hb, hf, hn, _⟩ := R
  refine call_len_set ho hex hd hf (by unfold scanBound at hb; omega) ⟨.int (n : Nat), H, I.tok _, ⟨_, by rw [hn]⟩, q (es.toList.map keyOf) nd (fun k => (hm k).symm) (by rw [List.length_map, Array.length_toList]; exact hn)⟩
end
end LKS

end

section
set_option Elab.async false
set_option linter.all false
set_option maxRecDepth 100000
set_option maxHeartbeats 2000000
/-! d | e, two dicts. -/
namespace LKO
open PySem PySem.Spec PyProof.Rows L2
section
variable {prog : Program} {w : World} {K : Type} [DecidableEq K] {knd : KeyKind prog w K} {A : Around} {E : Value → Shared → Prop} {s : Shared}
theorem call_or {d o : Addr} {kvs more : List (K × Value)} {Q : Value → Shared → Prop} (hdS : (d == sysModules) = false) (hoS : (o == sysModules) = false)
    (hd : s.heap.DictOf knd d kvs) (ho : s.heap.DictOf knd o more) (hsz : kvs.length + more.length ≤ sizeLine)
    (h : ∀ h', h'.DictOf knd s.heap.objs.size (merged kvs more) → (∀ b u, s.heap.get? b = some u → h'.get? b = some u) → Q (.ref s.heap.objs.size) { s with heap := h' }) :
    wpAny (model prog w) A (call (.builtin "dict.__or__") [.ref d, .ref o]) Q E s := by
  obtain ⟨od, es, ep, hod, hc, hdat, hk, hp, hn⟩ := id hd
  have hes : es.size ≤ sizeLine + 1 := by
    have e1 := hp.length
    have e2 : es.toList.length = es.size := by simp
    omega
  refine wpAny_call_entry F.slot_dict_or hd.typeIs F.entry_dict_or ?_ (F.args_dict_or_2 _ _)
  show wpAny _ _ (Builtin.Dict.dictSlotArgs "__or__" ⟨[Value.ref d, Value.ref o], []⟩ >>= _) _ _ s
  unfold Builtin.Dict.dictSlotArgs
  refine wpAny_bind ?_
  refine wpAny_bind (m := Builtin.Dict.notOrdered "__or__" _) (wpAny_pure ?_)
  show wpAny _ _ (pure (Value.ref d, Value.ref o)) _ _ s
  refine wpAny_pure ?_
  show wpAny _ _ ((isInstance (.ref d) (.type "dict") <&&> isInstance (.ref o) (.type "dict")) >>= _) _ _ s
  refine wpAny_bind (m := (isInstance (.ref d) (.type "dict") <&&> isInstance (.ref o) (.type "dict"))) ?_
  refine wpAny_bind (wpAny_isInstance hd.typeIs isSubtype_dict_dict ?_)
  show wpAny _ _ (isInstance (.ref o) (.type "dict")) _ _ s
  refine wpAny_isInstance ho.typeIs isSubtype_dict_dict ?_
  have fin : ∀ es' : Array DictEntry, es' = es → wpAny (model prog w) A.in1 (holding [Value.ref s.heap.objs.size] (do
      let a ← Builtin.Dict.addrOf (Value.ref s.heap.objs.size)
      Builtin.Dict.updateFrom "dict.__or__" a (.ref o) [] (.ref s.heap.objs.size)))
        (fun fin s' => ∃ v, fin = .done (.ret v) ∧ Q v s') E { s with heap := s.heap.push { cls := .type "dict", data := .dict es' } } := by
    rintro es' rfl
    refine wpAny_holding (wpAny_bind (wpAny_pure ?_))
    have ho' : (s.heap.push { cls := .type "dict", data := .dict es' }).DictOf knd o more := ho.push _
    have hnew : (s.heap.push { cls := .type "dict", data := .dict es' }).DictOf knd s.heap.objs.size kvs := ⟨_, es', 0, Heap.get?_push_size _ rfl, ⟨rfl, rfl, rfl⟩, rfl, hk, hp, hn⟩
    have hdo : s.heap.objs.size ≠ o := by
      obtain ⟨_, _, _, hg, _⟩ := ho
      exact fun e => absurd (Heap.lt_size hg) (by rw [e]; exact Nat.lt_irrefl _)
    unfold Builtin.Dict.updateFrom
    refine wpAny_bind (wpAny_typeOf ho'.typeIs ?_)
    rw [if_neg (by decide)]
    refine wpAny_bind ?_
    unfold Builtin.Dict.merge
    refine wpAny_bind ?_
    unfold Builtin.Dict.readDirectly
    refine wpAny_bind (wpAny_isInstance ho'.typeIs isSubtype_dict_dict ?_)
    simp only [Bool.not_true, Bool.false_eq_true, if_false]
    refine wpAny_bind (wpAny_specialOf ho'.typeIs F.slot_dict_iter.lookup (wpAny_pure ?_))
    simp only [beq_self_eq_true, if_true]
    refine wpAny_bind (wpAny_pure ?_)
    refine wpAny_mergeDict (hsz := hsz) hdo hoS hnew ho' fun h' hd' _ hs' => ?_
    show wpAny _ _ (Builtin.Dict.addKeywords s.heap.objs.size [] >>= _) _ _ _
    refine wpAny_bind (wpAny_pure (wpAny_pure ⟨_, rfl, h h' hd' fun b u e => ?_⟩))
    exact (hs'.2 b (Nat.ne_of_lt (Heap.lt_size e))).trans (Heap.get?_push_of_some _ e)
  simp only [Bool.not_true, Bool.false_eq_true, if_false]
  show wpAny _ _ (Builtin.Dict.copyOf "dict.__or__" (.ref d) >>= _) _ _ s
  refine wpAny_bind ?_
  unfold Builtin.Dict.copyOf
  refine wpAny_bind (wpAny_pure ?_)
  unfold Builtin.Dict.showsAll
  rw [if_neg (by rw [hdS]; exact Bool.false_ne_true)]
  refine wpAny_bind (wpAny_pure ?_)
  refine wpAny_bind (wpAny_dictEntries hod hdat ?_)
  by_cases hemp : es.isEmpty = true
  · rw [if_pos hemp]
    refine wpAny_bind (wpAny_rule (wpAny_newObj_type ?_))
    exact fin #[] (Array.isEmpty_iff.mp hemp).symm
  · rw [if_neg hemp]
    refine wpAny_bind ?_
    unfold Builtin.Dict.readDirectly
    refine wpAny_bind (wpAny_isInstance hd.typeIs isSubtype_dict_dict ?_)
    simp only [Bool.not_true, Bool.false_eq_true, if_false]
    refine wpAny_bind (wpAny_specialOf hd.typeIs F.slot_dict_iter.lookup (wpAny_pure ?_))
    simp only [beq_self_eq_true, if_true]
    refine wpAny_bind (wpAny_entriesForEmpty (knd := knd) hod hdat hk (wpAny_newObj_type ?_ hes))
    exact fin es rfl
end
section
variable {X : Cx}
/-- d | e -/
def rOrD : R2 := fun x y H Q => ∃ (a b : Addr) (kvs more : List (Key × V)), x = .ref a ∧ y = .ref b ∧ H a = some (.dK kvs) ∧ H b = some (.dK more) ∧ kvs.length + more.length ≤ sizeLine ∧
  ∀ p, H p = none → Q (.ref p) (upd H p (.dK (mergeK kvs more)))
theorem mergeK_le : ∀ (more kvs : List (Key × V)), (mergeK kvs more).length ≤ kvs.length + more.length := by
  intro more
  induction more with
  | nil => intro kvs; exact Nat.le_refl _
  | cons p r ih =>
    intro kvs
    have e1 := ih (putK kvs p.1 p.2)
    have e2 : (putK kvs p.1 p.2).length ≤ kvs.length + 1 := by
      unfold putK
      split
      · rw [List.length_map]; omega
      · rw [List.length_append]; exact Nat.le_refl _
    show (mergeK (putK kvs p.1 p.2) r).length ≤ _
    rw [List.length_cons]
    omega
theorem op_orD : OpR X (binaryOp .BitOr) rOrD := by
  intro pins s σ H x y v u Q I rx ry h
  obtain ⟨a, b, kvs, more, rfl, rfl, ha, hb, hz, q⟩ := h
  cases rx
  cases ry
  obtain ⟨z, lo, vs, rel, dd⟩ := dk_rd I.hok (.of ha)
  obtain ⟨z2, lo2, vs2, rel2, dd2⟩ := dk_rd I.hok (.of hb)
  have hz' : vs.length + vs2.length ≤ sizeLine := by rw [← rel.length, ← rel2.length]; exact hz
  refine wpAny_binaryOp_same dd.typeIs dd2.typeIs F.fills_dict_or F.slot_dict_or (call_or lo lo2 dd dd2 hz' fun h' hd' hk => ⟨(fun e => nomatch e), ?_⟩)
  have hm : (s.heap.objs.size == sysModules) = false := beq_eq_false_iff_ne.mpr (Nat.ne_of_gt I.big)
  exact ⟨.ref s.heap.objs.size, upd H s.heap.objs.size (.dK (mergeK kvs more)), I.laid (t' := s.toks) hk (Nat.le_refl _)
    (show ObjOk X.prog X.w _ _ _ (.dK (mergeK kvs more)) from ⟨Nat.le_trans (mergeK_le _ _) hz, hm, _, KV.merge rel2 rel, hd'⟩), rfl, q _ (I.hok.fresh (Nat.le_refl _))⟩
end
end LKO

end

section
set_option Elab.async false
set_option linter.all false
set_option maxRecDepth 100000
set_option maxHeartbeats 2000000
/-! enumerate(tuple), zip(tuple, list). -/
namespace LKW
open PySem PySem.Spec PyProof.Rows L2

set_option maxHeartbeats 4000000 in
theorem meets_enum1 {v : Value} {o : Obj} {H : Heap → Prop} (B : Begins v o H) :
    Meets (Builtin.«enumerate.__new__» ⟨[.type "enumerate", v], []⟩) (fun _ R s => H s.heap ∧
      R (.ok (.ret (.ref (s.heap.push o).objs.size))) { s with heap := (s.heap.push o).push { cls := .type "enumerate", data := .fields #[.none, .bool false, .ref s.heap.objs.size, rawInt 0, .none, .none] } }) :=
  .of_wp fun prog w A R s h => by
    obtain ⟨hp, g, d, tk, os⟩ := s; obtain ⟨h1, h⟩ := h
    have hsub := sub_enumerate
    have q1 : ∀ {A' : Around} {E : Value → Shared → Prop} {Q : Value → Shared → Prop}, Q (.ref hp.objs.size) ⟨hp.push o, g, d, tk, os⟩ → wpAny (model prog w) A' (pyIter v) Q E ⟨hp, g, d, tk, os⟩ :=
      fun q => B.iter prog w _ _ ⟨hp, g, d, tk, os⟩ _ h1 q
    wp_walk using q1
    refine wpAny_stack_any fun st => wpAny_pure ?_
    split
    · rename_i c _ _ _ _ _
      cases (c == Value.type "enumerate")
      · wp_walk using q1
        exact ⟨_, rfl, h⟩
      · wp_walk using q1
        exact ⟨_, rfl, h⟩
    · wp_walk using q1
      exact ⟨_, rfl, h⟩
theorem call_enum1 {prog : Program} {w : World} {A : Around} {E : Value → Shared → Prop} {s : Shared} {v : Value} {o : Obj} {H : Heap → Prop} {Q : Value → Shared → Prop} (B : Begins v o H) (h1 : H s.heap)
    (h : ∀ h', IsEnum h' (s.heap.objs.size + 1) s.heap.objs.size 0 .none → h'.get? s.heap.objs.size = some o → h'.objs.size = s.heap.objs.size + 2 →
      (∀ b o, s.heap.get? b = some o → h'.get? b = some o) → Q (.ref (s.heap.objs.size + 1)) { s with heap := h' }) :
    wpAny (model prog w) A (call (.type "enumerate") [v]) Q E s := by
  refine callType_new F.called_enumerate (by decide) (F.typeCall_enumerate_1 _) (F.newCall_enumerate_1 _) (fun obj => F.args_object_init_2 obj _) F.entry_enumerate_new
    (meets_enum1 B) ⟨h1, ?_⟩
  have hz : (s.heap.push o).objs.size = s.heap.objs.size + 1 := Heap.size_push ..
  show _ ∧ _
  rw [hz]
  have he : IsEnum ((s.heap.push o).push { cls := .type "enumerate", data := .fields #[.none, .bool false, .ref s.heap.objs.size, rawInt 0, .none, .none] }) (s.heap.objs.size + 1) s.heap.objs.size 0 .none := by
    have := Heap.get?_push_size (s.heap.push o) (o := { cls := .type "enumerate", data := .fields #[.none, .bool false, .ref s.heap.objs.size, rawInt 0, .none, .none] }) rfl
    rw [hz] at this; exact this
  refine ⟨⟨_, he, rfl⟩, h _ he (Heap.get?_push_of_some _ (Heap.get?_push_size _ B.free)) (by rw [Heap.size_push, hz]) fun b o x => Heap.get?_push_of_some _ (Heap.get?_push_of_some _ x)⟩

/-- the tuple at a, each item in a new pair -/
def IteT (K : PySem.W.Frag) (a : Addr) : It :=
  ⟨fun i H => ∃ (xs : List V) (x : V), SqT K H a xs ∧ xs[i]? = some x, fun i H v H' => ∃ T x, v = .ref T ∧ H T = none ∧ H' = upd H T (.tup [.int (i : Nat), x]) ∧ ∀ xs, SqT K H a xs → xs[i]? = some x, fun i H => ∃ xs : List V, SqT K H a xs ∧ xs.length = i⟩
theorem turn_enumT {P : Program} {w : World} {K : PySem.W.Frag} {elts : List Expr} {kk : Nat} {tpos : Pos} (a e it : Addr) (hai : a ≠ it) (hea : e ≠ a) :
    Turn P w K (.Tuple elts kk tpos) (IteT K a) [e, it] e (fun i h => (∃ old, IsEnum h e it ((i : Nat) : Int) old) ∧ h.IsTupleIter it a i ∧ e ≠ it) where
  mem := by simp
  obj := fun i h st b hb => by
    obtain ⟨⟨old, he⟩, ⟨o, ho, hc, hd⟩, _⟩ := st
    have e' : b = e ∨ b = it := by simpa using hb
    rcases e' with z | z
    · rw [z]; exact ⟨_, he, fun v q => nomatch q⟩
    · rw [z]; exact ⟨o, ho, fun v q => by rw [hd] at q; cases q⟩
  keep := fun i h h' st k => let ⟨⟨old, he⟩, hi, hne⟩ := st; ⟨⟨old, k e (by simp) _ he⟩, hi.at fun o q => k it (by simp) o q, hne⟩
  item := by
    intro X hP hw hK hc i pins s σ H E I hf st hg
    subst hP hw hK
    obtain ⟨⟨old, he⟩, hit, hne⟩ := st
    obtain ⟨xs, x, hq, hx⟩ := hg
    obtain ⟨its, rv, p, hz⟩ := I.tuple hq
    obtain ⟨u, hu, ru⟩ := rv.get hx
    have hel : e < s.heap.objs.size := Heap.lt_size he
    have hil : it < s.heap.objs.size := by obtain ⟨_, q, _⟩ := hit; exact Heap.lt_size q
    have hlt : i < its.toArray.size := by
      have := (List.getElem?_eq_some_iff.mp hu).1
      simpa using this
    refine wpAny_pyNext_enum_itemD (Draws.tuple (A := X.A.in1) (I.ok.hd hc) it a hai its.toArray) he ⟨hit, p⟩ hlt hne (by simp [hne, hea]) fun x' h' tk hP ho hst' hT hsz hk => ?_
    have ex : x' = u := by
      have hu' : its.toArray[i]? = some u := by simpa using hu
      rw [hu'] at hP
      exact (Option.some.inj hP).symm
    subst ex
    refine ⟨_, rfl, wpAny_letOwnedTupleGo_enum (s := { s with heap := h', toks := tk + 1 }) ho fun h'' he' sb => ?_⟩
    have hT2 : h''.get? s.heap.objs.size = some { cls := .type "tuple", data := .seq #[.int i tk, x'] } := (sb.2 _ (Nat.ne_of_gt hel)).trans hT
    have new : ObjOk X.prog X.w (upd H s.heap.objs.size (.tup [.int (i : Nat), x])) h'' s.heap.objs.size (.tup [.int (i : Nat), x]) :=
      ⟨by show 2 ≤ sizeLine; decide, [.int i tk, x'], .cons ⟨_, rfl⟩ (.cons ru .nil), ⟨_, hT2, rfl, _, rfl⟩⟩
    have I1 : Inv X pins σ (upd H s.heap.objs.size (.tup [.int (i : Nat), x])) { s with heap := h'', toks := tk + 1 } :=
      I.turnedNew (ch := [e, it]) (fun b ob hb q => (sb.2 b (fun z => hb (by simp [z]))).trans (hk b ob (fun z => hb (by simp [z])) (fun z => hb (by simp [z])) q)) hf (Nat.le_refl _) new
    refine ⟨.ref s.heap.objs.size, _, I1, rfl, ⟨_, x, rfl, I.hok.fresh (Nat.le_refl _), rfl, fun ys hy => by rw [I.tuple_inj hy hq]; exact hx⟩, ⟨⟨x', ?_⟩, hst'.1.at fun o q => (sb.2 it (Ne.symm hne)).trans q, hne⟩, fun b hb => ?_⟩
    · have e1 : ((i + 1 : Nat) : Int) = (i : Int) + 1 := by omega
      rw [e1]; exact he'
    · have hb' : b < s.heap.objs.size := by
        have e' : b = e ∨ b = it := by simpa using hb
        rcases e' with z | z
        · rw [z]; exact hel
        · rw [z]; exact hil
      rw [upd_ne (Nat.ne_of_lt hb')]
      exact (hf b hb).1
  done := by
    intro X hP hw hK hc i pins s σ H E I hf st hg
    subst hP hw hK
    obtain ⟨⟨old, he⟩, hit, hne⟩ := st
    obtain ⟨xs, hq, hx⟩ := hg
    obtain ⟨its, rv, p, hz⟩ := I.tuple hq
    obtain ⟨f0, f1, f2, f3, f4, f5⟩ := hf it (by simp)
    have hl := rv.length
    have ei : i = its.toArray.size := by simp; omega
    subst ei
    exact wpAny_pyNext_enum_endD (Draws.tuple (A := X.A.in1) (I.ok.hd hc) it a hai its.toArray) he ⟨hit, p⟩ fun h' eb => ⟨rfl, I.turned (t' := s.toks) (fun b o hb q => eb b o hb q) f0 f1 f3 f4 f5⟩
  self := fun A i s Q E st h => let ⟨⟨_, he⟩, _⟩ := st; wpAny_pyIter_enum he h
def iEnumT (K : PySem.W.Frag) (ta : TA) : TI := fun σ H R => ta σ H fun vs H1 => ∃ a xs, vs = [.ref a] ∧ SqT K H1 a xs ∧ R (IteT K a) H1
theorem pi_enumT {X : Cx} {e : Expr} {ta : TA} {p pos tpos : Pos} {elts : List Expr} {kk : Nat} (hg : Gl X "enumerate") (hm : X.mg "enumerate" = none) (ha : PA X [e] ta) (hs : starEach [e] X.env = [(false, eval e X.env)] := by rfl) :
    PI X (.Tuple elts kk tpos) (.Call (.Name "enumerate" p) [e] [] pos) (iEnumT X.K ta) := by
  refine ⟨fun pins s σ H R I h => ?_⟩
  refine Call_ (ld_blt I hg hm boot_enumerate (PyProof.Rows.callWith_type1 (thn (ha.run pos pins s σ H _ I h) fun us s1 ⟨vs, H1, I1, r1, q1⟩ => ?_) hs rfl))
  obtain ⟨a, xs, ex, hq, q⟩ := q1
  subst ex
  cases r1 with
  | cons r rr =>
    cases rr
    cases r
    obtain ⟨its, rv, p', hz⟩ := I1.tuple hq
    obtain ⟨oa, hoa, _⟩ := id p'
    have hal : a < s1.heap.objs.size := Heap.lt_size hoa
    refine call_enum1 (begins_tuple a its.toArray) p' fun h' he hit hsz hk => wpAny_pyIter_enum he ?_
    have I2 : Inv X pins σ H1 { s1 with heap := h' } := I1.kept (t' := s1.toks) hk
    refine ⟨s1.heap.objs.size + 1, [s1.heap.objs.size + 1, s1.heap.objs.size], _, _, H1, rfl, I2, turn_enumT a (s1.heap.objs.size + 1) s1.heap.objs.size (Nat.ne_of_lt hal) (Nat.ne_of_gt (Nat.lt_succ_of_lt hal)), ⟨⟨.none, he⟩, ⟨_, hit, rfl, rfl⟩, Nat.succ_ne_self _⟩, fun b hb => ?_, q⟩
    have e' : b = s1.heap.objs.size + 1 ∨ b = s1.heap.objs.size := by simpa using hb
    have hle : s1.heap.objs.size ≤ b := by
      rcases e' with z | z
      · rw [z]; exact Nat.le_add_right _ _
      · rw [z]; exact Nat.le_refl _
    exact I1.fpOk hle (I1.hok.fresh hle)
/-- a loop over enumerate of a tuple -/
theorem for_enumT {K : PySem.W.Frag} {a : Addr} {xs : List V} {g : TG} {tb : TS} {D : Ends} {σ : L2.St} {H : Hp} (Pv : Nat → L2.St → Hp → Prop) (h0 : Pv 0 σ H) (hq : ∀ i σ H, Pv i σ H → SqT K H a xs)
    (hs : ∀ (i : Nat) (x : V) (T : Addr) (σ : L2.St) (H : Hp), xs[i]? = some x → Pv i σ H → H T = none → g (.ref T) σ (upd H T (.tup [.int (i : Nat), x])) fun σ2 H2 => tb { D with nx := Pv (i + 1), ct := Pv (i + 1), bk := D.nx } σ2 H2) (hd : ∀ σ H, Pv xs.length σ H → D.nx σ H) :
    ∃ W : Nat → Nat → L2.St → Hp → Prop, (∃ m, W 0 m σ H) ∧ ∀ i m σ H, W i m σ H →
      ((IteT K a).stop i H ∧ D.nx σ H) ∨ ((IteT K a).go i H ∧ ∃ N : L2.St → Hp → Prop, (∀ σ' H', N σ' H' → ∃ m', m' < m ∧ W (i + 1) m' σ' H') ∧ ∀ v H', (IteT K a).yld i H v H' → g v σ H' fun σ2 H2 => tb { D with nx := N, ct := N, bk := D.nx } σ2 H2) := by
  refine ⟨fun i m σ H => m = xs.length - i ∧ i ≤ xs.length ∧ Pv i σ H, ⟨xs.length, rfl, Nat.zero_le _, h0⟩, ?_⟩
  rintro i m σ H ⟨rfl, hi, p⟩
  have qx := hq i σ H p
  by_cases hlt : i < xs.length
  · have hx : xs[i]? = some xs[i] := List.getElem?_eq_getElem hlt
    refine .inr ⟨⟨xs, _, qx, hx⟩, Pv (i + 1), fun σ' H' p' => ⟨xs.length - (i + 1), by omega, rfl, hlt, p'⟩, fun v H' y => ?_⟩
    obtain ⟨T, x', rfl, hT, rfl, f1⟩ := y
    exact hs i x' T σ H (f1 xs qx) p hT
  · have e : i = xs.length := by omega
    subst e
    exact .inl ⟨⟨xs, qx, rfl⟩, hd σ H p⟩

/-! ### zip(tuple, list) -/
def ItzTL (K : PySem.W.Frag) (a b : Addr) : It :=
  ⟨fun i H => ∃ (xs ys : List V) (x y : V), SqT K H a xs ∧ SqL K H b ys ∧ xs[i]? = some x ∧ ys[i]? = some y,
    fun i H v H' => ∃ T x y, v = .ref T ∧ H T = none ∧ H' = upd H T (.tup [x, y]) ∧ (∀ xs, SqT K H a xs → xs[i]? = some x) ∧ ∀ ys, SqL K H b ys → ys[i]? = some y,
    fun i H => ∃ xs ys : List V, SqT K H a xs ∧ SqL K H b ys ∧ xs.length = i ∧ ys.length = i⟩
theorem turn_zipTL {P : Program} {w : World} {K : PySem.W.Frag} {elts : List Expr} {kk : Nat} {tpos : Pos} {a b z TI TO i1 i2 : Addr} (S : ZipSep2 z TI TO i1 i2 [i1, a] [i2, b]) (ha1 : a ≠ i1) (hb2 : b ≠ i2) :
    Turn P w K (.Tuple elts kk tpos) (ItzTL K a b) [z, TI, TO, i1, i2] z (fun i h => IsZip h z TI TO .none ∧ IsTupOf2 h TI (.ref i1) (.ref i2) ∧ (∃ x y, IsTupOf2 h TO x y) ∧ h.IsTupleIter i1 a i ∧ h.IsListIter i2 b i) where
  mem := by simp
  obj := fun i h st c hc => by
    obtain ⟨hz, hTI, ⟨x, y, hTO⟩, ⟨o1, e1, _, d1⟩, ⟨o2, e2, _, d2⟩⟩ := st
    have e' : c = z ∨ c = TI ∨ c = TO ∨ c = i1 ∨ c = i2 := by simpa using hc
    rcases e' with q | q | q | q | q
    · rw [q]; exact ⟨_, hz, fun v q => nomatch q⟩
    · rw [q]; exact ⟨_, hTI, fun v q => nomatch q⟩
    · rw [q]; exact ⟨_, hTO, fun v q => nomatch q⟩
    · rw [q]; exact ⟨o1, e1, fun v q => by rw [d1] at q; cases q⟩
    · rw [q]; exact ⟨o2, e2, fun v q => by rw [d2] at q; cases q⟩
  keep := fun i h h' st k => by
    obtain ⟨hz, hTI, ⟨x, y, hTO⟩, h1, h2⟩ := st
    exact ⟨k z (by simp) _ hz, k TI (by simp) _ hTI, ⟨x, y, k TO (by simp) _ hTO⟩, h1.at fun o q => k i1 (by simp) o q, h2.at fun o q => k i2 (by simp) o q⟩
  item := by
    intro X hP hw hK hc i pins s σ H E I hf st hg
    subst hP hw hK
    obtain ⟨hz, hTI, ⟨x0, y0, hTO⟩, h1, h2⟩ := st
    obtain ⟨xs, ys, x, y, hqx, hqy, hx, hy⟩ := hg
    obtain ⟨its, rv, p, _⟩ := I.tuple hqx
    obtain ⟨its2, rv2, p2, _⟩ := I.list hqy
    obtain ⟨u, hu, ru⟩ := rv.get hx
    obtain ⟨u2, hu2, ru2⟩ := rv2.get hy
    have hu' : its.toArray[i]? = some u := by simpa using hu
    have hu2' : its2.toArray[i]? = some u2 := by simpa using hu2
    have hl1 : i < its.toArray.size := (Array.getElem?_eq_some_iff.mp hu').1
    have hl2 : i < its2.toArray.size := (Array.getElem?_eq_some_iff.mp hu2').1
    have hzl : z < s.heap.objs.size := Heap.lt_size hz
    refine wpAny_pyNext_zipD2_item S (Draws.tuple (A := X.A.in1) (I.ok.hd hc) i1 a ha1 its.toArray) (Draws.list (A := X.A.in1) (I.ok.hd hc) i2 b hb2 its2.toArray) hz hTI hTO ⟨h1, p⟩ ⟨h2, p2.isList⟩ hl1 hl2 fun x1 x2 h' tk hx1 hx2 z' TO' st1' st2' hT hsz hk => ?_
    have e1 : x1 = u := by rw [hu'] at hx1; exact (Option.some.inj hx1).symm
    have e2 : x2 = u2 := by rw [hu2'] at hx2; exact (Option.some.inj hx2).symm
    subst e1 e2
    refine ⟨_, rfl, wpAny_letOwnedTupleGo_zip (s := { s with heap := h', toks := tk }) z' fun h'' z'' sb => ?_⟩
    have hT2 : h''.get? s.heap.objs.size = some { cls := .type "tuple", data := .seq #[x1, x2] } := (sb.2 _ (Nat.ne_of_gt hzl)).trans hT
    have new : ObjOk X.prog X.w (upd H s.heap.objs.size (.tup [x, y])) h'' s.heap.objs.size (.tup [x, y]) :=
      ⟨by show 2 ≤ sizeLine; decide, [x1, x2], .cons ru (.cons ru2 .nil), ⟨_, hT2, rfl, _, rfl⟩⟩
    have I1 : Inv X pins σ (upd H s.heap.objs.size (.tup [x, y])) { s with heap := h'', toks := tk } :=
      I.turnedNew (t' := tk) (ch := [z, TI, TO, i1, i2]) (fun c o hb q => (sb.2 c (fun q' => hb (by simp [q']))).trans (hk c o (fun q' => hb (by simp [q'])) (fun q' => hb (by simp [q'])) (fun q' => hb (by simp [q'])) (fun q' => hb (by simp [q'])) q)) hf (Nat.le_refl _) new
    refine ⟨.ref s.heap.objs.size, _, I1, rfl, ⟨_, x, y, rfl, I.hok.fresh (Nat.le_refl _), rfl, fun l hl => by rw [I.tuple_inj hl hqx]; exact hx, fun l hl => by rw [I.list_inj hl hqy]; exact hy⟩, ⟨z'', ?_, ⟨x1, x2, ?_⟩, ?_, ?_⟩, fun c hcm => ?_⟩
    · exact (sb.2 _ S.TIz).trans (hk _ _ S.TIz S.TITO S.TIi1 S.TIi2 hTI)
    · exact (sb.2 _ S.TOz).trans TO'
    · exact st1'.1.at fun o q => (sb.2 _ S.zi1.symm).trans q
    · exact st2'.1.at fun o q => (sb.2 _ S.zi2.symm).trans q
    · have hlt : c < s.heap.objs.size := by
        have e' : c = z ∨ c = TI ∨ c = TO ∨ c = i1 ∨ c = i2 := by simpa using hcm
        rcases e' with q | q | q | q | q
        · rw [q]; exact hzl
        · rw [q]; exact Heap.lt_size hTI
        · rw [q]; exact Heap.lt_size hTO
        · rw [q]; obtain ⟨_, e1, _⟩ := h1; exact Heap.lt_size e1
        · rw [q]; obtain ⟨_, e2, _⟩ := h2; exact Heap.lt_size e2
      rw [upd_ne (Nat.ne_of_lt hlt)]
      exact (hf c hcm).1
  done := by
    intro X hP hw hK hc i pins s σ H E I hf st hg
    subst hP hw hK
    obtain ⟨hz, hTI, ⟨x0, y0, hTO⟩, h1, h2⟩ := st
    obtain ⟨xs, ys, hqx, hqy, hend, hend2⟩ := hg
    obtain ⟨its, rv, p, _⟩ := I.tuple hqx
    obtain ⟨its2, rv2, p2, _⟩ := I.list hqy
    have l1 := rv.length
    have l2 := rv2.length
    exact wpAny_pyNext_zipD2_end S (Draws.tuple (A := X.A.in1) (I.ok.hd hc) i1 a ha1 its.toArray) (Draws.list (A := X.A.in1) (I.ok.hd hc) i2 b hb2 its2.toArray) hz hTI hTO ⟨h1, p⟩ ⟨h2, p2.isList⟩ (by simp; omega) (by simp; omega) (.inl (by simp; omega)) fun h' tk hk => ⟨rfl, I.turnedL (t' := tk) (ch := [z, TI, TO, i1, i2]) (fun c o hb q =>
      hk c o (fun q' => hb (by simp [q'])) (fun q' => hb (by simp [q'])) (fun q' => hb (by simp [q'])) (fun q' => hb (by simp [q'])) q) hf⟩
  self := fun A i s Q E st h => wpAny_pyIter_zip st.1 h
def iZipTL (K : PySem.W.Frag) (ta : TA) : TI := fun σ H R => ta σ H fun vs H1 => ∃ a b xs ys, vs = [.ref a, .ref b] ∧ SqT K H1 a xs ∧ SqL K H1 b ys ∧ R (ItzTL K a b) H1
theorem pi_zipTL {X : Cx} {e e2 : Expr} {ta : TA} {p pos tpos : Pos} {elts : List Expr} {kk : Nat} (hg : Gl X "zip") (hm : X.mg "zip" = none) (ha : PA X [e, e2] ta)
    (hs : starEach [e, e2] X.env = (false, eval e X.env) :: starEach [e2] X.env := by rfl) (hpl : (backTo pos (starEach [e2] X.env)).any (·.1) = false := by rfl) :
    PI X (.Tuple elts kk tpos) (.Call (.Name "zip" p) [e, e2] [] pos) (iZipTL X.K ta) := by
  refine ⟨fun pins s σ H R I h => ?_⟩
  refine Call_ (ld_blt I hg hm PyProof.Rows.boot_zip (PyProof.Rows.callWith_type1 (thn (ha.run pos pins s σ H _ I h) fun us s1 ⟨vs, H1, I1, r1, q1⟩ => ?_) hs hpl))
  obtain ⟨a, b, xs, ys, ex, hqx, hqy, q⟩ := q1
  subst ex
  cases r1 with
  | cons r rr =>
    cases rr with
    | cons r' rr =>
      cases rr
      cases r
      cases r'
      have fresh5 : ∀ c, c ∈ [s1.heap.objs.size + 4, s1.heap.objs.size + 2, s1.heap.objs.size + 3, s1.heap.objs.size, s1.heap.objs.size + 1] → FpOk X pins H1 c := fun c hcm => by
        have e' : c = s1.heap.objs.size + 4 ∨ c = s1.heap.objs.size + 2 ∨ c = s1.heap.objs.size + 3 ∨ c = s1.heap.objs.size ∨ c = s1.heap.objs.size + 1 := by simpa using hcm
        have hle : s1.heap.objs.size ≤ c := by
          rcases e' with z | z | z | z | z
          · rw [z]; exact Nat.le_add_right _ _
          · rw [z]; exact Nat.le_add_right _ _
          · rw [z]; exact Nat.le_add_right _ _
          · rw [z]; exact Nat.le_refl _
          · rw [z]; exact Nat.le_add_right _ _
        exact I1.fpOk hle (I1.hok.fresh hle)
      obtain ⟨its, rv, p1, _⟩ := I1.tuple hqx
      obtain ⟨its2, rv2, p2, _⟩ := I1.list hqy
      obtain ⟨o1, ho1, _⟩ := id p1
      have hla : a < s1.heap.objs.size := Heap.lt_size ho1
      have hlb : b < s1.heap.objs.size := p2.lt
      refine zip_begins2 (begins_tuple a its.toArray) (begins_list b its2.toArray) p1 p2.isList fun h' hz hTI hTO h1 h2 hsz hk => wpAny_pyIter_zip hz ?_
      have I2 : Inv X pins σ H1 { s1 with heap := h' } := I1.kept (t' := s1.toks) hk
      exact ⟨s1.heap.objs.size + 4, [s1.heap.objs.size + 4, s1.heap.objs.size + 2, s1.heap.objs.size + 3, s1.heap.objs.size, s1.heap.objs.size + 1], _, _, H1, rfl, I2,
        turn_zipTL (zip_sep2 (N := s1.heap.objs.size) (fp1 := [a]) (fp2 := [b]) (fun c hc => by rw [List.mem_singleton.mp hc]; exact hla) (fun c hc => by rw [List.mem_singleton.mp hc]; exact hlb)) (Nat.ne_of_lt hla) (Nat.ne_of_lt (Nat.lt_succ_of_lt hlb)),
        ⟨hz, hTI, ⟨_, _, hTO⟩, ⟨_, h1, rfl, rfl⟩, ⟨_, h2, rfl, rfl⟩⟩, fresh5, q⟩
theorem for_zipTL {K : PySem.W.Frag} {a b : Addr} {xs ys : List V} {g : TG} {tb : TS} {D : Ends} {σ : L2.St} {H : Hp} (hl : xs.length = ys.length) (Pv : Nat → L2.St → Hp → Prop) (h0 : Pv 0 σ H) (hq : ∀ i σ H, Pv i σ H → SqT K H a xs ∧ SqL K H b ys)
    (hs : ∀ (i : Nat) (x y : V) (T : Addr) (σ : L2.St) (H : Hp), xs[i]? = some x → ys[i]? = some y → Pv i σ H → H T = none → g (.ref T) σ (upd H T (.tup [x, y])) fun σ2 H2 => tb { D with nx := Pv (i + 1), ct := Pv (i + 1), bk := D.nx } σ2 H2) (hd : ∀ σ H, Pv xs.length σ H → D.nx σ H) :
    ∃ W : Nat → Nat → L2.St → Hp → Prop, (∃ m, W 0 m σ H) ∧ ∀ i m σ H, W i m σ H →
      ((ItzTL K a b).stop i H ∧ D.nx σ H) ∨ ((ItzTL K a b).go i H ∧ ∃ N : L2.St → Hp → Prop, (∀ σ' H', N σ' H' → ∃ m', m' < m ∧ W (i + 1) m' σ' H') ∧ ∀ v H', (ItzTL K a b).yld i H v H' → g v σ H' fun σ2 H2 => tb { D with nx := N, ct := N, bk := D.nx } σ2 H2) := by
  refine ⟨fun i m σ H => m = xs.length - i ∧ i ≤ xs.length ∧ Pv i σ H, ⟨xs.length, rfl, Nat.zero_le _, h0⟩, ?_⟩
  rintro i m σ H ⟨rfl, hi, p⟩
  obtain ⟨qx, qy⟩ := hq i σ H p
  by_cases hlt : i < xs.length
  · have hx : xs[i]? = some xs[i] := List.getElem?_eq_getElem hlt
    have hlt2 : i < ys.length := by omega
    have hy : ys[i]? = some ys[i] := List.getElem?_eq_getElem hlt2
    refine .inr ⟨⟨xs, ys, _, _, qx, qy, hx, hy⟩, Pv (i + 1), fun σ' H' p' => ⟨xs.length - (i + 1), by omega, rfl, hlt, p'⟩, fun v H' y => ?_⟩
    obtain ⟨T, x', y', rfl, hT, rfl, f1, f2⟩ := y
    exact hs i x' y' T σ H (f1 xs qx) (f2 ys qy) p hT
  · have e : i = xs.length := by omega
    subst e
    exact .inl ⟨⟨xs, ys, qx, qy, rfl, hl.symm⟩, hd σ H p⟩
end LKW

end

section
set_option Elab.async false
set_option linter.all false
set_option maxRecDepth 100000
set_option maxHeartbeats 2000000
/-! dict(zip(list, tuple)): the ways of dict(zip(list, list)) turned to a tuple. -/
namespace LKZ
open PySem
open Sem (wp)
section
variable {prog : Program} {w : World} {A : Around} {E : Value → Shared → Prop} {s : Shared}

theorem zip_next_item_held {z TI TO T i1 i2 l1 l2 : Addr} {f : Bool} {oT : Obj} {k1 k2 : Nat} {xs ys : Array Value} {x y : Value} {Q : Value → Shared → Prop} (D : ZipApart z TI TO i1 i2 l1 l2)
    (hz : IsZipHeld s.heap z TI TO T f) (hT : s.heap.get? T = some oT) (hTI : IsPair s.heap TI (.ref i1) (.ref i2))
    (h1 : s.heap.IsListIter i1 l1 k1) (h2 : s.heap.IsTupleIter i2 l2 k2) (hl1 : s.heap.IsList l1 xs) (hl2 : s.heap.IsTuple l2 ys) (hx : xs[k1]? = some x) (hy : ys[k2]? = some y)
    (hQ : ∀ h', IsZipHeld h' z TI TO T true → h'.IsListIter i1 l1 (k1 + 1) → h'.IsTupleIter i2 l2 (k2 + 1) → IsPair h' s.heap.objs.size x y → h'.objs.size = s.heap.objs.size + 1 →
      (∀ c o, c ≠ z → c ≠ i1 → c ≠ i2 → s.heap.get? c = some o → h'.get? c = some o) → Q (.ref s.heap.objs.size) { s with heap := h' }) :
    wpAny (model prog w) A (Builtin.«zip.__next__» ⟨[.ref z], []⟩) (fun fin s' => ∃ v, fin = .done (.ret v) ∧ Q v s') E s := by
  show wpAny _ _ (field (.ref z) 2 >>= _) _ _ _
  refine wpAny_bind (wpAny_field hz rfl (x := .bool false) rfl ?_)
  show wpAny _ _ (field (.ref z) 3 >>= _) _ _ _
  refine wpAny_bind (wpAny_field hz rfl (x := .ref TI) rfl ?_)
  refine wpAny_bind (wpAny_seqItems hTI rfl ?_)
  show wpAny _ _ (Builtin.SmallTypes.ownedTupleIsFree (.ref z) >>= _) _ _ _
  refine wpAny_bind (wpAny_tupleHeld_zip hz hT fun h₁ hz₁ hs₁ => ?_)
  simp only [Bool.false_eq_true, if_false]
  refine wpAny_bind ?_
  rw [← Array.forIn_toList]
  simp only [List.forIn_cons, List.forIn_nil]
  refine wpAny_bind (wpAny_bind (wpAny_holding ?_))
  show wpAny _ _ (Builtin.SmallTypes.nextOf (.ref i1) >>= _) _ _ _
  refine wpAny_bind (wpAny_nextOf_list_item (s := { s with heap := h₁ }) (h1.extBut hs₁.extBut D.i1z) (hl1.extBut hs₁.extBut D.l1z) hx fun h₂ h1₂ hs₂ => wpAny_pure ?_)
  refine wpAny_pure ?_
  refine wpAny_bind (wpAny_bind (wpAny_holding ?_))
  show wpAny _ _ (Builtin.SmallTypes.nextOf (.ref i2) >>= _) _ _ _
  refine wpAny_bind (wpAny_nextOf_tuple_item (s := { s with heap := h₂ }) ((h2.extBut hs₁.extBut D.i2z).extBut hs₂.extBut D.i12.symm) ((hl2.extBut hs₁.extBut D.l2z).extBut hs₂.extBut D.l2i1) hy fun h₃ h2₃ hs₃ => wpAny_pure ?_)
  refine wpAny_pure (wpAny_pure ?_)
  show wpAny _ _ (newTuple [x, y] >>= _) _ _ _
  refine wpAny_bind (wpAny_newTuple ?_)
  have hsz : h₃.objs.size = s.heap.objs.size := by rw [hs₃.1, hs₂.1, hs₁.1]
  have hz₃ : IsZipHeld h₃ z TI TO T true := hs₃.extBut _ _ D.i2z.symm (hs₂.extBut _ _ D.i1z.symm hz₁)
  have hk : ∀ c o, c ≠ z → c ≠ i1 → c ≠ i2 → s.heap.get? c = some o → h₃.get? c = some o := fun c o c1 c2 c3 e => hs₃.extBut _ _ c3 (hs₂.extBut _ _ c2 (hs₁.extBut _ _ c1 e))
  have h1₃ : h₃.IsListIter i1 l1 (k1 + 1) := h1₂.extBut hs₃.extBut D.i12
  refine wpAny_pure ⟨_, rfl, ?_⟩
  show Q (.ref h₃.objs.size) _
  have hp : IsPair (h₃.push { cls := .type "tuple", data := .seq #[x, y] }) h₃.objs.size x y := Heap.get?_push_size _ rfl
  have hz4 : (h₃.push { cls := .type "tuple", data := .seq #[x, y] }).objs.size = h₃.objs.size + 1 := Heap.size_push ..
  rw [hsz] at hp hz4 ⊢
  exact hQ _ (Heap.get?_push_of_some _ hz₃) (h1₃.at fun o e => Heap.get?_push_of_some _ e) (h2₃.at fun o e => Heap.get?_push_of_some _ e) hp hz4 fun c o c1 c2 c3 e => Heap.get?_push_of_some _ (hk c o c1 c2 c3 e)

theorem zip_next_end_held {z TI TO T i1 i2 l1 l2 : Addr} {f : Bool} {oT : Obj} {k1 k2 : Nat} {xs ys : Array Value} {Q : Fin → Shared → Prop} (hh : A.handled = none) (D : ZipApart z TI TO i1 i2 l1 l2)
    (hz : IsZipHeld s.heap z TI TO T f) (hT : s.heap.get? T = some oT) (hTI : IsPair s.heap TI (.ref i1) (.ref i2))
    (h1 : s.heap.IsListIter i1 l1 k1) (h2 : s.heap.IsTupleIter i2 l2 k2) (hl1 : s.heap.IsList l1 xs) (hl2 : s.heap.IsTuple l2 ys) (hend : xs[k1]? = none ∨ ys[k2]? = none)
    (hE : ∀ h' e, (∀ c o, c ≠ z → c ≠ i1 → c ≠ i2 → s.heap.get? c = some o → h'.get? c = some o) → (∃ o, h'.get? e = some o ∧ o.cls = .type "StopIteration") → E (.ref e) { s with heap := h' }) :
    wpAny (model prog w) A (Builtin.«zip.__next__» ⟨[.ref z], []⟩) Q E s := by
  show wpAny _ _ (field (.ref z) 2 >>= _) _ _ _
  refine wpAny_bind (wpAny_field hz rfl (x := .bool false) rfl ?_)
  show wpAny _ _ (field (.ref z) 3 >>= _) _ _ _
  refine wpAny_bind (wpAny_field hz rfl (x := .ref TI) rfl ?_)
  refine wpAny_bind (wpAny_seqItems hTI rfl ?_)
  show wpAny _ _ (Builtin.SmallTypes.ownedTupleIsFree (.ref z) >>= _) _ _ _
  refine wpAny_bind (wpAny_tupleHeld_zip hz hT fun h₁ hz₁ hs₁ => ?_)
  simp only [Bool.false_eq_true, if_false]
  refine wpAny_bind ?_
  rw [← Array.forIn_toList]
  simp only [List.forIn_cons, List.forIn_nil]
  refine wpAny_bind (wpAny_bind (wpAny_holding ?_))
  show wpAny _ _ (Builtin.SmallTypes.nextOf (.ref i1) >>= _) _ _ _
  cases hx : xs[k1]? with
  | none =>
    refine wpAny_bind (wpAny_nextOf_list_end (s := { s with heap := h₁ }) hh (h1.extBut hs₁.extBut D.i1z) (hl1.extBut hs₁.extBut D.l1z) hx fun h₂ e hs₂ he => ?_)
    exact hE h₂ e (fun c o c1 c2 _ x => hs₂ _ _ c2 (hs₁.extBut _ _ c1 x)) he
  | some x =>
    have hy : ys[k2]? = none := by rcases hend with h | h; rw [hx] at h; cases h; exact h
    refine wpAny_bind (wpAny_nextOf_list_item (s := { s with heap := h₁ }) (h1.extBut hs₁.extBut D.i1z) (hl1.extBut hs₁.extBut D.l1z) hx fun h₂ h1₂ hs₂ => wpAny_pure ?_)
    refine wpAny_pure ?_
    refine wpAny_bind (wpAny_bind (wpAny_holding ?_))
    show wpAny _ _ (Builtin.SmallTypes.nextOf (.ref i2) >>= _) _ _ _
    refine wpAny_bind (wpAny_nextOf_tuple_end (s := { s with heap := h₂ }) hh ((h2.extBut hs₁.extBut D.i2z).extBut hs₂.extBut D.i12.symm) ((hl2.extBut hs₁.extBut D.l2z).extBut hs₂.extBut D.l2i1) hy fun h₃ e hs₃ he => ?_)
    exact hE h₃ e (fun c o c1 c2 c3 x => hs₃ _ _ c3 (hs₂.extBut _ _ c2 (hs₁.extBut _ _ c1 x))) he

theorem wpAny_pyNext_zip_item_held {z TI TO T i1 i2 l1 l2 : Addr} {f : Bool} {oT : Obj} {k1 k2 : Nat} {xs ys : Array Value} {x y : Value} {Q : Option Value → Shared → Prop} (D : ZipApart z TI TO i1 i2 l1 l2)
    (hz : IsZipHeld s.heap z TI TO T f) (hT : s.heap.get? T = some oT) (hTI : IsPair s.heap TI (.ref i1) (.ref i2))
    (h1 : s.heap.IsListIter i1 l1 k1) (h2 : s.heap.IsTupleIter i2 l2 k2) (hl1 : s.heap.IsList l1 xs) (hl2 : s.heap.IsTuple l2 ys) (hx : xs[k1]? = some x) (hy : ys[k2]? = some y)
    (hQ : ∀ h', IsZipHeld h' z TI TO T true → h'.IsListIter i1 l1 (k1 + 1) → h'.IsTupleIter i2 l2 (k2 + 1) → IsPair h' s.heap.objs.size x y → h'.objs.size = s.heap.objs.size + 1 →
      (∀ c o, c ≠ z → c ≠ i1 → c ≠ i2 → s.heap.get? c = some o → h'.get? c = some o) → Q (some (.ref s.heap.objs.size)) { s with heap := h' }) :
    wpAny (model prog w) A (pyNext (.ref z)) Q E s := by
  have hTy : s.TypeIs (.ref z) "zip" := ⟨_, hz, rfl⟩
  unfold pyNext
  exact wpAny_bind (wpAny_attempt (wpAny_callSpecial?_slot (name := Str.ofString "__next__") hTy F.slot_zip_next
    (wpAny_call_entry F.slot_zip_next hTy F.entry_zip_next
      (zip_next_item_held D hz hT hTI h1 h2 hl1 hl2 hx hy fun h' a1 a3 a4 a5 a6 a7 => wpAny_pure (hQ h' a1 a3 a4 a5 a6 a7)) (F.args_zip_next_1 _))))
theorem wpAny_pyNext_zip_end_held {z TI TO T i1 i2 l1 l2 : Addr} {f : Bool} {oT : Obj} {k1 k2 : Nat} {xs ys : Array Value} {Q : Option Value → Shared → Prop} (hh : A.handled = none) (D : ZipApart z TI TO i1 i2 l1 l2)
    (hz : IsZipHeld s.heap z TI TO T f) (hT : s.heap.get? T = some oT) (hTI : IsPair s.heap TI (.ref i1) (.ref i2))
    (h1 : s.heap.IsListIter i1 l1 k1) (h2 : s.heap.IsTupleIter i2 l2 k2) (hl1 : s.heap.IsList l1 xs) (hl2 : s.heap.IsTuple l2 ys) (hend : xs[k1]? = none ∨ ys[k2]? = none)
    (hQ : ∀ h', (∀ c o, c ≠ z → c ≠ i1 → c ≠ i2 → s.heap.get? c = some o → h'.get? c = some o) → Q none { s with heap := h' }) : wpAny (model prog w) A (pyNext (.ref z)) Q E s := by
  have hTy : s.TypeIs (.ref z) "zip" := ⟨_, hz, rfl⟩
  unfold pyNext
  refine wpAny_bind (wpAny_attempt (wpAny_callSpecial?_slot (name := Str.ofString "__next__") hTy F.slot_zip_next
    (wpAny_call_entry F.slot_zip_next hTy F.entry_zip_next (zip_next_end_held hh D hz hT hTI h1 h2 hl1 hl2 hend fun h' e hk he => ?_) (F.args_zip_next_1 _))))
  obtain ⟨o, ho, hc⟩ := he
  refine wpAny_bind (wpAny_isInstance (T := "StopIteration") (b := true) ⟨o, ho, hc⟩ isSubtype_stop ?_)
  exact wpAny_pure (hQ _ hk)


/-- the cells of a zip lie apart, told of two iterators -/
theorem sep_of {z TI TO i1 i2 l1 l2 : Addr} (D : ZipApart z TI TO i1 i2 l1 l2) : ZipSep2 z TI TO i1 i2 [i1, l1] [i2, l2] :=
  { TIz := D.TIz, TOz := D.TOz, TITO := D.TITO, TIi1 := D.TIi1, mem1 := by simp, zf1 := by simp [D.i1z.symm, D.l1z.symm], Tf1 := by simp [D.TOi1, D.l1TO.symm],
    TIi2 := D.TIi2, mem2 := by simp, zf2 := by simp [D.i2z.symm, D.l2z.symm], Tf2 := by simp [D.TOi2, D.l2TO.symm],
    sep1_2 := by simp [D.i12, D.l2i1.symm], sep2_1 := by simp [D.i12.symm, D.l1i2.symm] }
theorem zip_item0 {z TI TO i1 i2 l1 l2 : Addr} {k : Nat} {xs ys : Array Value} {x y a b : Value} {Q : Option Value → Shared → Prop} (hh : A.handled = none) (D : ZipApart z TI TO i1 i2 l1 l2)
    (hz : IsZip s.heap z TI TO .none) (hTI : IsPair s.heap TI (.ref i1) (.ref i2)) (hTO : IsPair s.heap TO a b)
    (h1 : s.heap.IsListIter i1 l1 k) (h2 : s.heap.IsTupleIter i2 l2 k) (hl1 : s.heap.IsList l1 xs) (hl2 : s.heap.IsTuple l2 ys) (hx : xs[k]? = some x) (hy : ys[k]? = some y)
    (hQ : ∀ h' tk, IsZip h' z TI TO (rawInt s.heap.objs.size) → IsPair h' TO x y → h'.IsListIter i1 l1 (k + 1) → h'.IsTupleIter i2 l2 (k + 1) → IsPair h' s.heap.objs.size x y → h'.objs.size = s.heap.objs.size + 1 →
      (∀ c o, c ≠ z → c ≠ TO → c ≠ i1 → c ≠ i2 → s.heap.get? c = some o → h'.get? c = some o) → Q (some (.ref s.heap.objs.size)) { s with heap := h', toks := tk }) :
    wpAny (model prog w) A (pyNext (.ref z)) Q E s := by
  refine wpAny_pyNext_zipD2_item (sep_of D) (Draws.list (A := A.in1) hh i1 l1 D.l1i1 xs) (Draws.tuple (A := A.in1) hh i2 l2 D.l2i2 ys) hz hTI hTO ⟨h1, hl1⟩ ⟨h2, hl2⟩ (Array.getElem?_eq_some_iff.mp hx).1 (Array.getElem?_eq_some_iff.mp hy).1
    fun x1 x2 h' tk e1 e2 a1 a2 a3 a4 a5 a6 a7 => ?_
  rw [hx] at e1
  rw [hy] at e2
  cases e1
  cases e2
  exact hQ h' tk a1 a2 a3.1 a4.1 a5 a6 a7
theorem zip_end0 {z TI TO i1 i2 l1 l2 : Addr} {k : Nat} {xs ys : Array Value} {a b : Value} {Q : Option Value → Shared → Prop} (hh : A.handled = none) (D : ZipApart z TI TO i1 i2 l1 l2)
    (hz : IsZip s.heap z TI TO .none) (hTI : IsPair s.heap TI (.ref i1) (.ref i2)) (hTO : IsPair s.heap TO a b)
    (h1 : s.heap.IsListIter i1 l1 k) (h2 : s.heap.IsTupleIter i2 l2 k) (hl1 : s.heap.IsList l1 xs) (hl2 : s.heap.IsTuple l2 ys) (hx : k ≤ xs.size) (hy : k ≤ ys.size) (he : k = xs.size ∨ k = ys.size)
    (hQ : ∀ h' tk, (∀ c o, c ≠ z → c ≠ TO → c ≠ i1 → c ≠ i2 → s.heap.get? c = some o → h'.get? c = some o) → Q none { s with heap := h', toks := tk }) :
    wpAny (model prog w) A (pyNext (.ref z)) Q E s :=
  wpAny_pyNext_zipD2_end (sep_of D) (Draws.list (A := A.in1) hh i1 l1 D.l1i1 xs) (Draws.tuple (A := A.in1) hh i2 l2 D.l2i2 ys) hz hTI hTO ⟨h1, hl1⟩ ⟨h2, hl2⟩ hx hy he hQ
end
section
variable {prog : Program} {w : World}
theorem pairArg_zipLT (z TI TO i1 i2 l1 l2 : Addr) (D : ZipApart z TI TO i1 i2 l1 l2) (xs ys : Array Value) :
    PairArg prog w "zip" z [z, TI, TO, i1, i2, l1, l2] [z, TO, i1, i2] (min xs.size ys.size) (fun i k v => xs[i]? = some k ∧ ys[i]? = some v)
      (fun h => IsZip h z TI TO .none ∧ IsPair h TI (.ref i1) (.ref i2) ∧ (∃ a b, IsPair h TO a b) ∧ h.IsListIter i1 l1 0 ∧ h.IsTupleIter i2 l2 0 ∧ h.IsList l1 xs ∧ h.IsTuple l2 ys) where
  type := fun s ok => ⟨_, ok.1, rfl⟩
  notDict := by decide
  keep := fun h h' ok hk => by
    obtain ⟨hz, hTI, ⟨a, b, hTO⟩, h1, h2, hl1, hl2⟩ := ok
    exact ⟨hk _ _ hz, hk _ _ hTI, ⟨a, b, hk _ _ hTO⟩, h1.at fun o e => hk _ o e, h2.at fun o e => hk _ o e, hl1.at fun o e => hk _ o e, hl2.at fun o e => hk _ o e⟩
  there := fun h ok b hb => by
    obtain ⟨hz, hTI, ⟨a, c, hTO⟩, ⟨o1, h1, _⟩, ⟨o2, h2, _⟩, ⟨o3, hl1, _⟩, ⟨o4, hl2, _⟩⟩ := ok
    simp only [List.mem_cons, List.not_mem_nil, or_false] at hb
    rcases hb with rfl | rfl | rfl | rfl | rfl | rfl | rfl
    all_goals first | exact ⟨_, hz⟩ | exact ⟨_, hTI⟩ | exact ⟨_, hTO⟩ | exact ⟨_, h1⟩ | exact ⟨_, h2⟩ | exact ⟨_, hl1⟩ | exact ⟨_, hl2⟩
  sub := fun b hb => by simp at hb ⊢; rcases hb with rfl | rfl | rfl | rfl <;> simp
  noKeys := fun A s Q E hA ok h => getAttrOr_miss_zip ok.1 rfl rfl rfl zip_no_keys (by decide +kernel) hA h
  iter := fun A s d Q E hA ok hd hdf h => by
    obtain ⟨hz, hTI, ⟨a, b, hTO⟩, h1, h2, hl1, hl2⟩ := ok
    simp only [List.mem_cons, List.not_mem_nil, or_false, not_or] at hdf
    obtain ⟨dz, dTI, dTO, di1, di2, dl1, dl2⟩ := hdf
    refine wpAny_pyIter_zip hz (h z [z, TO, i1, i2] (fun i h => IsPair h TI (.ref i1) (.ref i2) ∧ h.IsListIter i1 l1 i ∧ h.IsTupleIter i2 l2 i ∧ h.IsList l1 xs ∧ h.IsTuple l2 ys ∧
      ((IsZip h z TI TO .none ∧ ∃ a b, IsPair h TO a b) ∨ ∃ T f oT, IsZipHeld h z TI TO T f ∧ h.get? T = some oT ∧ T ≠ z ∧ T ≠ i1 ∧ T ≠ i2 ∧ T ≠ d)) s.heap s.toks ?_
      ⟨hTI, h1, h2, hl1, hl2, .inl ⟨hz, a, b, hTO⟩⟩ (fun _ _ e => e) fun b hb => .inl hb)
    exact {
      off := fun hm => by
        simp only [List.mem_cons, List.not_mem_nil, or_false] at hm
        rcases hm with e | e | e | e
        · exact dz e
        · exact dTO e
        · exact di1 e
        · exact di2 e
      frame := fun i h₁ h₂ st hk => by
        obtain ⟨hTI, h1, h2, hl1, hl2, hz⟩ := st
        refine ⟨hk _ _ (Ne.symm dTI) hTI, h1.at fun o e => hk _ o (Ne.symm di1) e, h2.at fun o e => hk _ o (Ne.symm di2) e, hl1.at fun o e => hk _ o (Ne.symm dl1) e, hl2.at fun o e => hk _ o (Ne.symm dl2) e, ?_⟩
        rcases hz with ⟨hz, a, b, hTO⟩ | ⟨T, f, oT, hz, hT, r1, r2, r3, r4⟩
        · exact .inl ⟨hk _ _ (Ne.symm dz) hz, a, b, hk _ _ (Ne.symm dTO) hTO⟩
        · exact .inr ⟨T, f, oT, hk _ _ (Ne.symm dz) hz, hk _ _ r4 hT, r1, r2, r3, r4⟩
      item := fun i s₁ Q₁ E₁ hi st hds hQ => by
        obtain ⟨hTI, h1, h2, hl1, hl2, hz⟩ := st
        have hix : i < xs.size := Nat.lt_of_lt_of_le hi (Nat.min_le_left ..)
        have hiy : i < ys.size := Nat.lt_of_lt_of_le hi (Nat.min_le_right ..)
        have ex := Array.getElem?_eq_getElem hix
        have ey := Array.getElem?_eq_getElem hiy
        have lt : ∀ {c o}, s₁.heap.get? c = some o → s₁.heap.objs.size ≠ c := fun e => Nat.ne_of_gt (Heap.lt_size e)
        have n1 : s₁.heap.objs.size ≠ i1 := let ⟨_, e, _⟩ := h1; lt e
        have n2 : s₁.heap.objs.size ≠ i2 := let ⟨_, e, _⟩ := h2; lt e
        rcases hz with ⟨hz, a, b, hTO⟩ | ⟨T, f, oT, hz, hT, r1, r2, r3, r4⟩
        · refine zip_item0 hA D hz hTI hTO h1 h2 hl1 hl2 ex ey fun h' tk a1 a2 a3 a4 a5 a6 hk => ?_
          exact hQ s₁.heap.objs.size _ _ h' tk ⟨ex, ey⟩ (.inl ⟨_, a5, rfl, _, rfl⟩)
            ⟨hk _ _ D.TIz D.TITO D.TIi1 D.TIi2 hTI, a3, a4, hl1.at fun o e => hk _ o D.l1z D.l1TO D.l1i1 D.l1i2 e, hl2.at fun o e => hk _ o D.l2z D.l2TO D.l2i1 D.l2i2 e,
              .inr ⟨s₁.heap.objs.size, false, _, a1, a5, lt hz, n1, n2, Nat.ne_of_gt hds⟩⟩
            fun c o hc e => hk c o (fun x => hc (by simp [x])) (fun x => hc (by simp [x])) (fun x => hc (by simp [x])) (fun x => hc (by simp [x])) e
        · refine wpAny_pyNext_zip_item_held D hz hT hTI h1 h2 hl1 hl2 ex ey fun h' a1 a3 a4 a5 a6 hk => ?_
          exact hQ s₁.heap.objs.size _ _ h' s₁.toks ⟨ex, ey⟩ (.inl ⟨_, a5, rfl, _, rfl⟩)
            ⟨hk _ _ D.TIz D.TIi1 D.TIi2 hTI, a3, a4, hl1.at fun o e => hk _ o D.l1z D.l1i1 D.l1i2 e, hl2.at fun o e => hk _ o D.l2z D.l2i1 D.l2i2 e,
              .inr ⟨T, true, oT, a1, hk _ _ r1 r2 r3 hT, r1, r2, r3, r4⟩⟩
            fun c o hc e => hk c o (fun x => hc (by simp [x])) (fun x => hc (by simp [x])) (fun x => hc (by simp [x])) e
      done := fun s₁ Q₁ E₁ st hQ => by
        obtain ⟨hTI, h1, h2, hl1, hl2, hz⟩ := st
        have hend : xs[min xs.size ys.size]? = none ∨ ys[min xs.size ys.size]? = none := by
          rcases Nat.le_total xs.size ys.size with h | h
          · exact .inl (Array.getElem?_eq_none (by rw [Nat.min_eq_left h]; exact Nat.le_refl _))
          · exact .inr (Array.getElem?_eq_none (by rw [Nat.min_eq_right h]; exact Nat.le_refl _))
        rcases hz with ⟨hz, a, b, hTO⟩ | ⟨T, f, oT, hz, hT, r1, r2, r3, r4⟩
        · exact zip_end0 hA D hz hTI hTO h1 h2 hl1 hl2 (Nat.min_le_left ..) (Nat.min_le_right ..) (by omega) fun h' tk hk => hQ h' tk fun c o hc e => hk c o (fun x => hc (by simp [x])) (fun x => hc (by simp [x])) (fun x => hc (by simp [x])) (fun x => hc (by simp [x])) e
        · exact wpAny_pyNext_zip_end_held hA D hz hT hTI h1 h2 hl1 hl2 hend fun h' hk => hQ h' s₁.toks fun c o hc e => hk c o (fun x => hc (by simp [x])) (fun x => hc (by simp [x])) (fun x => hc (by simp [x])) e }

end
end LKZ

namespace LKZ
open PySem PySem.Spec PyProof.Rows L2
section
variable {X : Cx}
/-- dict(zip(xs, t)), xs a list of texts, t a tuple -/
def tDictZip (K : PySem.W.Frag) (ta : TA) : TE := fun σ H Q => ta σ H fun vs H1 => ∃ (a b : Addr) (ks : List Str) (ys : List V), vs = [.ref a, .ref b] ∧ SqL K H1 a (ks.map V.str) ∧ SqT K H1 b ys ∧ ks.length = ys.length ∧
  ∀ p, H1 p = none → Q (.ref p) (upd H1 p (.dK (mergeK [] ((ks.map fun k => (Sum.inr k : Key)).zip ys))))
theorem zipKV : ∀ {ks : List Str} {ys : List V} {us vs : List Value}, Vals (ks.map V.str) us → Vals ys vs → ks.length = ys.length →
    KV ((ks.map fun k => (Sum.inr k : Key)).zip ys) ((ks.map fun k => (Sum.inr k : Key)).zip vs)
  | [], [], _, _, .nil, .nil, _ => .nil
  | k :: ks, y :: ys, _, _, .cons r t, .cons r' t', e => .cons ⟨rfl, r'⟩ (zipKV t t' (by simpa using e))
  | [], _ :: _, _, _, _, _, e => by simp at e
  | _ :: _, [], _, _, _, _, e => by simp at e
theorem pe_dictZip {e e2 : Expr} {ta : TA} {p p2 q pos : Pos} (hc : X.calm = true) (hg : Gl X "dict") (hm : X.mg "dict" = none) (hg2 : Gl X "zip") (hm2 : X.mg "zip" = none) (ha : PA X [e, e2] ta)
    (hs : starEach [e, e2] X.env = (false, eval e X.env) :: starEach [e2] X.env := by rfl) (hpl : (backTo q (starEach [e2] X.env)).any (·.1) = false := by rfl)
    (na : starEach [Expr.Call (.Name "zip" p2) [e, e2] [] q] X.env = (false, eval (Expr.Call (.Name "zip" p2) [e, e2] [] q) X.env) :: starEach [] X.env := by rfl) :
    PE X (.Call (.Name "dict" p) [.Call (.Name "zip" p2) [e, e2] [] q] [] pos) (tDictZip X.K ta) := by
  refine ⟨fun pins s σ H Q I h => ?_⟩
  refine Call_ (ld_blt I hg hm boot_dict ?_)
  refine PyProof.Rows.callWith_type1 (PyProof.Rows.args_cons ?_ na) na rfl
  refine Call_ (ld_blt I hg2 hm2 PyProof.Rows.boot_zip (PyProof.Rows.callWith_type1 (thn (ha.run q pins s σ H _ I h) fun us s1 ⟨vs, H1, I1, r1, q1⟩ => ?_) hs hpl))
  obtain ⟨a, b, ks, ys, ex, hqx, hqy, hlen, q⟩ := q1
  subst ex
  cases r1 with
  | cons r rr =>
    cases rr with
    | cons r' rr =>
      cases rr
      cases r
      cases r'
      obtain ⟨its, rv, p1, hz1⟩ := I1.list hqx
      obtain ⟨its2, rv2, p2, hz2⟩ := I1.tuple hqy
      obtain ⟨o2, ho2, _⟩ := id p2
      have hla : a < s1.heap.objs.size := p1.lt
      have hlb : b < s1.heap.objs.size := Heap.lt_size ho2
      have D := PySem.W.ktu_apart s1.heap.objs.size a b hla hlb
      refine zip_begins2 (begins_list a its.toArray) (begins_tuple b its2.toArray) p1.isList p2 fun h' hz hTI hTO h1 h2 hsz hk => ?_
      refine PyProof.Rows.args_nil ?_
      have hn : min its.toArray.size its2.toArray.size = ys.length := by
        have l1 := rv.length
        have l2 := rv2.length
        rw [List.length_map] at l1
        simp
        omega
      have hlk : ((ks.map fun k => (Sum.inr k : Key)).zip its2).length = ys.length := by
        have l2 := rv2.length
        rw [List.length_zip, List.length_map]
        omega
      have hzy : ys.length ≤ sizeLine := hz2
      refine PySem.call_dict_pairs (s := { s1 with heap := h' }) (knd := mixKind X.prog X.w) (kvs := (ks.map fun k => (Sum.inr k : Key)).zip its2)
        (pairArg_zipLT (prog := X.prog) (w := X.w) (s1.heap.objs.size + 4) (s1.heap.objs.size + 2) (s1.heap.objs.size + 3) s1.heap.objs.size (s1.heap.objs.size + 1) a b D its.toArray its2.toArray) (I1.ok.hd hc)
        ⟨hz, hTI, ⟨_, _, hTO⟩, ⟨_, h1, rfl, rfl⟩, ⟨_, h2, rfl, rfl⟩, p1.isList.at fun o e => hk _ o e, Heap.IsTuple.at p2 fun o e => hk _ o e⟩
        ⟨hlk.trans hn.symm, fun i key v hr => ?_⟩ (by rw [hn]; exact hzy) fun h'' tk hd' hk2 => ?_
      · obtain ⟨e1, e2⟩ := hr
        have e1' : its[i]? = some key := by simpa using e1
        have e2' : its2[i]? = some v := by simpa using e2
        have hi : i < ks.length := by
          have := (List.getElem?_eq_some_iff.mp e1').1
          have l1 := rv.length
          rw [List.length_map] at l1
          omega
        refine ⟨Sum.inr ks[i], ?_, ?_⟩
        · rw [List.getElem?_zip_eq_some]
          exact ⟨by simp [hi], e2'⟩
        · obtain ⟨u, hu, ru⟩ := rv.get (i := i) (x := .str ks[i]) (by simp [hi])
          rw [e1'] at hu
          cases hu
          exact kV_is (k := Sum.inr ks[i]) ru
      · have hmod : (s1.heap.objs.size + 5 == sysModules) = false := beq_eq_false_iff_ne.mpr (Nat.ne_of_gt (Nat.lt_of_lt_of_le I1.big (Nat.le_add_right _ _)))
        have hle : (mergeK [] ((ks.map fun k => (Sum.inr k : Key)).zip ys)).length ≤ sizeLine := by
          refine Nat.le_trans (length_mergeK _ []) ?_
          rw [List.length_nil, Nat.zero_add, List.length_zip, List.length_map]
          omega
        have hsz' : ({ s1 with heap := h' } : Shared).heap.objs.size = s1.heap.objs.size + 5 := hsz
        rw [hsz'] at hd' ⊢
        have k3 : ∀ c o, s1.heap.get? c = some o → h''.get? c = some o := fun c o e => by
          have hc := Heap.lt_size e
          refine hk2 c o (fun hm => ?_) (hk c o e)
          simp only [List.mem_cons, List.not_mem_nil, or_false] at hm
          rcases hm with z | z | z | z
          · exact Nat.ne_of_lt (Nat.lt_of_lt_of_le hc (Nat.le_add_right _ 4)) z
          · exact Nat.ne_of_lt (Nat.lt_of_lt_of_le hc (Nat.le_add_right _ 3)) z
          · exact Nat.ne_of_lt hc z
          · exact Nat.ne_of_lt (Nat.lt_of_lt_of_le hc (Nat.le_add_right _ 1)) z
        exact ⟨.ref (s1.heap.objs.size + 5), upd H1 (s1.heap.objs.size + 5) (.dK (mergeK [] ((ks.map fun k => (Sum.inr k : Key)).zip ys))), I1.laid (t' := tk) k3 (Nat.le_add_right _ _)
          (show ObjOk X.prog X.w _ _ _ (.dK _) from ⟨hle, hmod, merged [] ((ks.map fun k => (Sum.inr k : Key)).zip its2), KV.merge (zipKV rv rv2 hlen) .nil, hd'⟩), rfl, q _ (I1.hok.fresh (Nat.le_add_right _ _))⟩
end
end LKZ

end

section
set_option Elab.async false
set_option linter.all false
set_option maxRecDepth 100000
set_option maxHeartbeats 2000000
/-! Kit 2: len, [], +, ==, != of own classes by positional promises; a slot as a target; making by a star; t == (). -/
namespace LK
open PySem PySem.Spec PyProof.Rows L2

section
variable (P : Program) (w : World) (K : PySem.W.Frag) (mg : Str → Option Value) (base : Heap)
/-- a dunder def of the class at C -/
structure Dun (k : Nat) (C : Addr) (m : Str) (sp : Sp) : Prop where
  ex : ∃ f : Addr, PySem.W.findIn K (.ref C) m = some (some (.ref f)) ∧ PySem.W.isFn K (.ref f) = true ∧ PySem.W.fnIn K f = true ∧ FnR P w K mg base CX0 k f sp
end
section
variable {X : Cx} {j k : Nat} {C : Addr} {sp : Sp} {p pos apos : Pos} {e o : Expr} {es : List Expr} {ta te : TE} {t : TA}

/-- len(o) by the class's __len__ -/
def rLenO (C : Addr) (sp : Sp) : List V → Hp → VK → Prop := fun xs H Q => ∃ a dx fs, xs = [V.ref a] ∧ H a = some (.ins C dx fs) ∧ sp [.ref a] H (fun v H' => ∃ n : Int, v = .int n ∧ 0 ≤ n ∧ n < 2 ^ 63 ∧ Q (.int n) H') E0
theorem call_lenO (c : Dun X.prog X.w X.K X.mg X.base k C "__len__" sp) (hr : Room (k + 1) X.A) : CallR X (.builtin "len") (rLenO C sp) := by
  obtain ⟨f, hs, hf, _, F⟩ := c.ex
  intro pins s σ H xs us Q I r h
  obtain ⟨a, dx, fs, rfl, ha, q⟩ := h
  obtain ⟨u, rfl, ru⟩ := r.one
  cases (show u = Value.ref a from ru)
  obtain ⟨mA, J, _⟩ := ins_get I.hok ha
  obtain ⟨od, J, _⟩ := J.look
  obtain ⟨m, hF⟩ := I.fr
  refine PySem.W.len_K hF I.ok.mod.kin J hs hf (wpAny_mono (wpAny_call (SlX.run_at (us := [.ref a]) (ws := [.ref a]) F hr.in1 I.env0.in1 pass0 I (.cons rfl .nil) q)) (fun w s' z => ?_) fun _ _ x => x)
  obtain ⟨z', H', I', rz, n, en, h0, h1, qz⟩ := z
  subst en
  obtain ⟨t, et⟩ := (show ∃ t, w = Value.int n t from rz)
  cases et
  exact ⟨⟨h0, h1⟩, .int n, H', I'.tok _, ⟨_, rfl⟩, qz⟩

/-- o[i] by the class's __getitem__ -/
def tIxO (C : Addr) (sp : Sp) (ta tb : TE) : TE := fun σ H Q => ta σ H fun x H1 => tb σ H1 fun y H2 => ∃ a dx fs, x = .ref a ∧ H2 a = some (.ins C dx fs) ∧ sp [x, y] H2 Q E0
theorem pe_ixO {a b : Expr} {tb : TE} (c : Dun X.prog X.w X.K X.mg X.base k C "__getitem__" sp) (hr : Room (k + 1) X.A) (ha : PE X a ta) (hb : PE X b tb)
    (hsl : ∀ x i, subscripted b true (.ref x) i = runValue (.builtin "lifetime.subscript" ⟨[.ref x, i], []⟩) := by intro x i; with_unfolding_all rfl) :
    PE X (.Subscript a b pos) (tIxO C sp ta tb) := by
  obtain ⟨f, hs, hfn, hf, F⟩ := c.ex
  refine ⟨fun pins s σ H Q I h => ?_⟩
  refine Subscript_ (thn (ha.run pins s σ H _ I h) fun u s1 ⟨x, H1, I1, r1, q1⟩ => thn (hb.run pins s1 σ H1 _ I1 q1) fun v s2 ⟨y, H2, I2, r2, a', dx, fs, ex, hx, q2⟩ => ?_)
  subst ex
  obtain rfl : u = Value.ref a' := r1
  obtain ⟨mA, J, _⟩ := ins_get I2.hok hx
  obtain ⟨od, J, _⟩ := J.look
  obtain ⟨m, hF⟩ := I2.fr
  exact PySem.W.sub_K hF I2.ok.mod.kin J hs hf hfn (wpAny_call (SlX.run_at (us := [.ref a', v]) (ws := [.ref a', y]) F hr.in1 I2.env0.in1 pass0 I2 (.cons rfl (.cons r2 .nil)) q2)) (hsl _ _)

/-- o + p by the class's __add__ -/
def rAddO (C : Addr) (sp : Sp) : R2 := fun x y H Q => ∃ a dx fs b dy gs, x = .ref a ∧ y = .ref b ∧ H a = some (.ins C dx fs) ∧ H b = some (.ins C dy gs) ∧ sp [x, y] H Q E0
theorem op_addO (c : Dun X.prog X.w X.K X.mg X.base k C "__add__" sp) (hc : PySem.W.selfFirst X.K C = true) (hr : Room k X.A) : OpR X (binaryOp .Add) (rAddO C sp) := by
  obtain ⟨f, hs, hf, _, F⟩ := c.ex
  intro pins s σ H x y v u Q I rx ry h
  obtain ⟨a, dx, fs, b, dy, gs, rfl, rfl, ha, hb, q⟩ := h
  cases rx
  cases ry
  obtain ⟨mA, J, _⟩ := ins_get I.hok ha
  obtain ⟨mB, J', _⟩ := ins_get I.hok hb
  obtain ⟨od, J, _⟩ := J.look
  obtain ⟨od', J', _⟩ := J'.look
  obtain ⟨m, hF⟩ := I.fr
  refine PySem.W.binop_K hF I.ok.mod.kin J J'.type hc hs hf (wpAny_mono (wpAny_call (SlX.run_at (us := [.ref a, .ref b]) (ws := [.ref a, .ref b]) F hr I.env0 pass0 I (.cons rfl (.cons rfl .nil)) q)) (fun w s' z => ?_) fun _ _ x => x)
  obtain ⟨z', H', I', rz, qz⟩ := z
  exact SlX.cmpback rz ⟨z', H', I', rz, qz⟩

/-- == of two of one class with its own __eq__, by a positional promise -/
theorem env_sub {pins : List (Addr × Obj)} {σ : L2.St} {H : Hp} {s : Shared} {n : Nat} {A : Around} (I : Inv X pins σ H s) (sb : Sub X n A) : Env0 X.prog X.w X.K X.mg X.base A X.stack s H := by
  have e := I.env0
  exact ⟨by rw [sb.fr]; exact e.frames, e.mod, e.bs, e.bsz, e.funs, e.frf, e.hok, e.bare⟩
theorem rcG_insR {n : Nat} {R : Addr → Addr → Hp → Prop} (c : Dun X.prog X.w X.K X.mg X.base n C "__eq__" (spEq R)) : RcG X n (DIns C R) := by
  obtain ⟨f, hs, hf, _, F⟩ := c.ex
  intro A pins s σ H x y u v sb I rx ry d
  obtain ⟨a, b, dx, dy, fs, gs, rfl, rfl, ha, hb', hr⟩ := d
  cases rx
  cases ry
  obtain ⟨mA, J, _⟩ := ins_get I.hok ha
  obtain ⟨mB, J', _⟩ := ins_get I.hok hb'
  obtain ⟨od, J, _⟩ := J.look
  obtain ⟨od', J', _⟩ := J'.look
  obtain ⟨m, hF⟩ := I.fr
  refine PySem.W.cmp_K (op := .Eq) (tb := .ref C) sb.room.units0 hF I.ok.mod.kin J J'.type (by simp [PySem.W.notFirst]) hs hf ?_
  have hsp : spEq R [.ref a, .ref b] H (fun v H' => v = .bl true ∧ Ext H H') E0 := ⟨a, b, rfl, hr, fun H' e => ⟨rfl, e⟩⟩
  refine wpAny_mono (wpAny_call (SlX.run_at (us := [.ref a, .ref b]) (ws := [.ref a, .ref b]) F sb.room (env_sub I sb) pass0 I (.cons rfl (.cons rfl .nil)) hsp)) (fun w s' z => ?_) fun _ _ x => x
  obtain ⟨z', H', I', rz, ez, ex⟩ := z
  subst ez
  cases (show w = Value.bool true from rz)
  exact ⟨rfl, H', I', ex⟩
theorem eqG_insR {n : Nat} {R : Addr → Addr → Hp → Prop} (c : Dun X.prog X.w X.K X.mg X.base n C "__eq__" (spEq R)) : EqG X n (DIns C R) :=
  (rcG_insR c).eqG fun _ _ _ d => let ⟨a, b, _, _, _, _, hx, hy, _⟩ := d; ⟨a, b, hx, hy⟩

/-- object.__ne__ stands for != in the class at C -/
structure NoNe (K : PySem.W.Frag) (C : Addr) : Prop where
  ne : PySem.W.findIn K (.ref C) "__ne__" = some (some (.builtin "object.__ne__"))
  mo : PySem.W.mroIn K C (.type "object") = some true
theorem ifBound_B {M : Model} {A : Around} {E : Value → Shared → Prop} {s : Shared} {K : PySem.W.Frag} {x : Addr} {ox : Obj} {od : Option Obj} {name : Str} {id : String} {args : List Value} {Q : Option Value → Shared → Prop} (X : K.In s.heap) (I : PySem.W.InstAt s.heap x ox C od)
    (hs : PySem.W.findIn K (.ref C) name = some (some (.builtin id))) (hb : ∀ self, bindSpecial (.builtin id) self = pure (.builtin id, [self]))
    (h : wpAny M A (call (.builtin id) (.ref x :: args)) (fun v => Q (some v)) E s) : wpAny M A (callSpecialIfBound? (.ref x) name args) Q E s := by
  simp only [callSpecialIfBound?, bindSpecialIfBound?]
  refine wpAny_holding (wpAny_bind (wpAny_bind (wpAny_bind (I.type.here ((PySem.W.looks_findIn X hs).here ?_)))))
  refine wpAny_bind (wpAny_askSetting (wpAny_ite ?_))
  have fin : wpAny M A (call (.builtin id) ([.ref x] ++ args) >>= fun v => pure (some v)) Q E s := wpAny_bind (wpAny_mono h (fun v s' h' => wpAny_pure h') fun _ _ h' => h')
  split
  · exact wpAny_bind (wpAny_of_eq (hb _) (wpAny_pure (by exact fin)))
  · exact wpAny_tryCatch (wpAny_bind (wpAny_of_eq (hb _) (wpAny_pure (by exact fin))))
theorem bind_objNe (self : Value) : bindSpecial (.builtin "object.__ne__") self = pure (.builtin "object.__ne__", [self]) := F.cmp_object.ne.bind self
theorem objNe_K {prog : Program} {w : World} {A : Around} {E : Value → Shared → Prop} {s : Shared} {K : PySem.W.Frag} {x y f : Addr} {ox : Obj} {od : Option Obj} (X : K.In s.heap) (I : PySem.W.InstAt s.heap x ox C od) (hu : A.units < cLine)
    (hs : PySem.W.findIn K (.ref C) "__eq__" = some (some (.ref f))) (hf : PySem.W.isFn K (.ref f) = true) {Q : Fin → Shared → Prop}
    (hcall : wpAny (model prog w) A (call (.ref f) [.ref x, .ref y]) (fun v s' => v = .bool true ∧ Q (.done (.ret (.bool false))) s') E s) :
    wpAny (model prog w) A (Builtin.«object.__ne__» ⟨[.ref x, .ref y], []⟩) Q E s := by
  unfold Builtin.«object.__ne__»
  repeat (first
    | with_reducible refine wpAny_cRoomFor hu ?_
    | (refine wpAny_bind (m := callSpecialIfBound? (.ref x) (Str.ofString "__eq__") [.ref y])
        (PySem.W.ifBound_K X I hs hf (wpAny_mono hcall (fun r s' hr => by
          obtain ⟨rfl, hq⟩ := hr
          repeat (first | exact hq | exact wpAny_pure hq | exact wpAny_truthy_bool hq | (refine wpAny_bind (m := truthy (.bool _)) (wpAny_truthy_bool ?_)) | wp_step)) fun _ _ e => e)))
    | wp_step)
/-- o != p, equal ones: False -/
def rNeG (D : Eqv) : R2 := fun x y H Q => D x y H ∧ ∀ H', Ext H H' → Q (.bl false) H'
theorem op_neO {n : Nat} {R : Addr → Addr → Hp → Prop} (c : Dun X.prog X.w X.K X.mg X.base n C "__eq__" (spEq R)) (nn : NoNe X.K C) (hr : Room (n + 1) X.A) : OpR X (compareOp .NotEq) (rNeG (DIns C R)) := by
  obtain ⟨f, hs, hf, _, FF⟩ := c.ex
  intro pins s σ H x y v u Q I rx ry hq
  obtain ⟨⟨a, b, dx, dy, fs, gs, rfl, rfl, ha, hb', hR⟩, q⟩ := hq
  cases rx
  cases ry
  obtain ⟨mA, J, _⟩ := ins_get I.hok ha
  obtain ⟨mB, J', _⟩ := ins_get I.hok hb'
  obtain ⟨od, J, _⟩ := J.look
  obtain ⟨od', J', _⟩ := J'.look
  have hsp : spEq R [.ref a, .ref b] H (fun v H' => v = .bl true ∧ Ext H H') E0 := ⟨a, b, rfl, hR, fun H' e => ⟨rfl, e⟩⟩
  show wpAny (model X.prog X.w) X.A (richCompare .NotEq (.ref a) (.ref b)) (EP X pins σ Q) X.xe s
  have KI := I.kIn
  have one : wpAny (model X.prog X.w) X.A (tryCompare (.ref a) "__ne__" (.ref b)) (fun r s' => ∃ v, r = some v ∧ EP X pins σ Q v s') X.xe s := by
    unfold tryCompare
    refine wpAny_bind (ifBound_B KI J nn.ne bind_objNe ?_)
    refine wpAny_call (codeAny_call_builtin F.cmp_object.ne.plain F.cmpEntry_ne ?_)
    refine @PySem.W.check_slot (model X.prog X.w) _ _ s "object.__ne__" "object" "__ne__" (.ref a) [.ref b] [] _ F.cmpKind_ne F.cmpSplit_ne (J.type.andThen (PySem.W.looks_mroIn KI nn.mo)) (F.cmpArgs_ne _ _) ?_
    refine wpAny_mono (objNe_K (A := X.A.in1) (Q := fun fin s' => ∃ H', Inv X pins σ H' s' ∧ Ext H H' ∧ fin = .done (.ret (.bool false))) KI J hr.in1.units0 hs hf (wpAny_mono (wpAny_call (SlX.run_at (us := [.ref a, .ref b]) (ws := [.ref a, .ref b]) FF hr.in1 I.env0.in1 pass0 I (.cons rfl (.cons rfl .nil)) hsp)) (fun w s' z => ?_) fun _ _ x => x)) (fun fin s' z => ?_) fun _ _ x => x
    · obtain ⟨z', H', I', rz, ez, ex⟩ := z
      subst ez
      cases (show w = Value.bool true from rz)
      exact ⟨rfl, H', I', ex, rfl⟩
    · obtain ⟨H', I', ex, rfl⟩ := z
      exact wpAny_pure ⟨_, rfl, .bl false, H', I', rfl, q H' ex⟩
  unfold richCompare
  simp only [oneThing_ref]
  refine wpAny_holding (wpAny_bind (wpAny_cRoomFor hr.units0 ?_))
  refine wpAny_bind (J.type.here (wpAny_bind (J'.type.here ?_)))
  split
  · rename_i q'
    simp at q'
  · refine wpAny_bind (wpAny_pure ?_)
    simp only [Bool.false_eq_true, if_false]
    refine wpAny_bind (wpAny_mono one (fun r s' z => ?_) fun _ _ e => e)
    obtain ⟨v, rfl, hq⟩ := z
    exact wpAny_pure hq

/-- o.f as a target, f a slot -/
def gSl (K : PySem.W.Frag) (ta : TE) (f : Str) : TG := fun v σ H Q => ta σ H fun x H2 => ∃ a C dx p vs i, x = .ref a ∧ SlX.Slt H2 a C dx vs ∧ SlX.SCls K C ∧ SlX.Slot1 K C f p i ∧ Q σ (SlX.slH H2 a C dx (SlX.putS i v vs))
theorem pg_sl {f : Str} (ha : PE X o ta)
    (hs : ∀ v, assign (.Attribute o f pos) X.env v = (do
      let ov ← holding [v] (eval o X.env)
      standAt pos.atName
      holding [v, ov] (setAttr ov f v)
      release [v, ov] []) := by intro _; rfl) : PG X (.Attribute o f pos) (gSl X.K ta f) := by
  refine ⟨fun pins s σ H v u Q I r h => ?_⟩
  rw [hs]
  refine wpAny_bind (wpAny_holding (thn (ha.run pins s σ H _ I h) fun ov s1 ⟨x, H1, I1, r1, a, C, dx, p, vs, i, ex, hsl, c, t, q⟩ => ?_))
  subst ex
  obtain rfl : ov = Value.ref a := r1
  refine wpAny_bind (wpAny_standAt (wpAny_bind (wpAny_holding (SlX.setslot_ok I1 hsl c t r fun s3 I3 => ?_))))
  exact wpAny_release ⟨σ, _, I3, q⟩
end
end LK

end

section
set_option Elab.async false
set_option linter.all false
set_option maxRecDepth 100000
set_option maxHeartbeats 2000000
/-! Kit 3: facts of the text; defs as they stand; fields and slots with their class known; isinstance. -/
namespace LK
open PySem PySem.Spec PyProof.Rows L2

/-! ### facts of a class -/
structure OwnC (K : PySem.W.Frag) (C : Addr) : Prop where
  cl : Cls K C
  is : SlX.SIsi K C
structure Fl (K : PySem.W.Frag) (C : Addr) (f : Str) : Prop where
  cl : Cls K C
  no : NoAttr K C f
structure Sl (K : PySem.W.Frag) (C : Addr) (f : Str) (i : Nat) : Prop where
  cl : SlX.SCls K C
  sl : ∃ p, SlX.Slot1 K C f p i
structure IsO (K : PySem.W.Frag) (C D : Addr) (b : Bool) : Prop where
  own : OwnC K C
  kit : PySem.W.kitOne K (.ref C) (.ref D) = some b
/-- a tuple of the written part -/
def KTup (K : PySem.W.Frag) (a : Addr) (xs : List V) : Prop := ∃ (o : Obj) (its : Array Value) (n : Nat), K.lookup a = some o ∧ o.cls = .type "tuple" ∧ o.data = .seq its n ∧ its.size ≤ sizeLine ∧ Vals xs its.toList
theorem KTup.sq {K : PySem.W.Frag} {a : Addr} {xs : List V} (k : KTup K a xs) (H : Hp) : SqT K H a xs := .inr k

section
variable {X : Cx} {o e value : Expr} {C : Addr} {f x : Str} {i : Nat} {pos pos' apos p p2 : Pos} {ta tv : TE} {t : TA}
/-- e.f -/
def tF (C : Addr) (f : Str) (ta : TE) : TE := fun σ H Q => ta σ H fun x H1 => ∃ a dx fs v, x = .ref a ∧ H1 a = some (.ins C dx fs) ∧ fs.lookup f = some v ∧ Q v H1
theorem pe_f (c : Fl X.K C f) (he : PE X e ta) (hb : attributeBase e f X.env (eval e X.env) = eval e X.env := by rfl) : PE X (.Attribute e f pos) (tF C f ta) := by
  refine ⟨fun pins s σ H Q I h => ?_⟩
  refine attr_of hb (thn (he.run pins s σ H _ I h) fun u s1 ⟨x, H1, I1, rx, a, dx, fs, v, ex, ea, l, q⟩ => ?_)
  subst ex
  obtain rfl : u = Value.ref a := rx
  exact getattr_ok I1 ea c.cl c.no l fun u' s2 I2 ru => ⟨v, H1, I2, ru, q⟩
/-- e.f = value -/
def sF (C : Addr) (f : Str) (ta tv : TE) : TS := fun D σ H => tv σ H fun y H1 => ta σ H1 fun x H2 => ∃ a dx fs, x = .ref a ∧ H2 a = some (.ins C dx fs) ∧ fs.length < 1000 ∧ D.nx σ (upd H2 a (.ins C dx (putF f y fs)))
theorem ps_f (c : Fl X.K C f) (ha : PE X o ta) (hv : PE X value tv) (hs : swapsWith value (some (.Attribute o f pos')) pos.line X.env = pure false := by rfl) : PS X (.Assign [.Attribute o f pos'] value pos) (sF C f ta tv) := by
  refine ⟨fun pins s σ H D I h => ?_⟩
  refine plainObj_wpAny_Assign_Attribute (thn (hv.run pins s σ H _ I h) fun u s1 ⟨y, H1, I1, ry, q⟩ => thn (ha.run pins s1 σ H1 _ I1 q) fun ov s2 ⟨x, H2, I2, rx, a, dx, fs, ex, ea, l, q2⟩ => ?_) hs
  subst ex
  obtain rfl : ov = Value.ref a := rx
  exact setattr_ok I2 ea c.cl c.no l ry fun s3 I3 => ⟨σ, _, I3, q2⟩
/-- e.f, a slot -/
def tS (C : Addr) (i : Nat) (ta : TE) : TE := fun σ H Q => ta σ H fun x H1 => ∃ a dx vs v, x = .ref a ∧ SlX.Slt H1 a C dx vs ∧ vs[i]? = some (some v) ∧ Q v H1
theorem pe_s (c : Sl X.K C f i) (he : PE X e ta) (hb : attributeBase e f X.env (eval e X.env) = eval e X.env := by rfl) : PE X (.Attribute e f pos) (tS C i ta) := by
  obtain ⟨p, t⟩ := c.sl
  refine ⟨fun pins s σ H Q I h => ?_⟩
  refine attr_of hb (thn (he.run pins s σ H _ I h) fun u s1 ⟨x, H1, I1, rx, a, dx, vs, v, ex, hs, l, q⟩ => ?_)
  subst ex
  obtain rfl : u = Value.ref a := rx
  exact SlX.getslot_ok I1 hs c.cl t l fun u' s2 I2 ru => ⟨v, H1, I2, ru, q⟩
/-- e.f = value, a slot -/
def sS (C : Addr) (i : Nat) (ta tv : TE) : TS := fun D σ H => tv σ H fun y H1 => ta σ H1 fun x H2 => ∃ a dx vs, x = .ref a ∧ SlX.Slt H2 a C dx vs ∧ D.nx σ (SlX.slH H2 a C dx (SlX.putS i y vs))
theorem ps_s (c : Sl X.K C f i) (ha : PE X o ta) (hv : PE X value tv) (hs : swapsWith value (some (.Attribute o f pos')) pos.line X.env = pure false := by rfl) : PS X (.Assign [.Attribute o f pos'] value pos) (sS C i ta tv) := by
  obtain ⟨p, t⟩ := c.sl
  refine ⟨fun pins s σ H D I h => ?_⟩
  refine plainObj_wpAny_Assign_Attribute (thn (hv.run pins s σ H _ I h) fun u s1 ⟨y, H1, I1, ry, q⟩ => thn (ha.run pins s1 σ H1 _ I1 q) fun ov s2 ⟨x, H2, I2, rx, a, dx, vs, ex, hsl, q2⟩ => ?_) hs
  subst ex
  obtain rfl : ov = Value.ref a := rx
  exact SlX.setslot_ok I2 hsl c.cl t ry fun s3 I3 => ⟨σ, _, I3, q2⟩
/-- a slot as a target -/
def gS (C : Addr) (i : Nat) (ta : TE) : TG := fun v σ H Q => ta σ H fun x H2 => ∃ a dx vs, x = .ref a ∧ SlX.Slt H2 a C dx vs ∧ Q σ (SlX.slH H2 a C dx (SlX.putS i v vs))
theorem pg_s (c : Sl X.K C f i) (ha : PE X o ta)
    (hs : ∀ v, assign (.Attribute o f pos) X.env v = (do
      let ov ← holding [v] (eval o X.env)
      standAt pos.atName
      holding [v, ov] (setAttr ov f v)
      release [v, ov] []) := by intro _; rfl) : PG X (.Attribute o f pos) (gS C i ta) := by
  obtain ⟨p, t⟩ := c.sl
  refine ⟨fun pins s σ H v u Q I r h => ?_⟩
  rw [hs]
  refine wpAny_bind (wpAny_holding (thn (ha.run pins s σ H _ I h) fun ov s1 ⟨x, H1, I1, r1, a, dx, vs, ex, hsl, q⟩ => ?_))
  subst ex
  obtain rfl : ov = Value.ref a := r1
  refine wpAny_bind (wpAny_standAt (wpAny_bind (wpAny_holding (SlX.setslot_ok I1 hsl c.cl t r fun s3 I3 => ?_))))
  exact wpAny_release ⟨σ, _, I3, q⟩
/-- isinstance(x, D), D an own class, x an instance -/
def tIsO (K : PySem.W.Frag) (D : Addr) (ta : TE) : TE := fun σ H Q => ta σ H fun x H1 => ∃ a C dx fs b, x = .ref a ∧ H1 a = some (.ins C dx fs) ∧ IsO K C D b ∧ Q (.bl b) H1
theorem pe_isO {D : Addr} {n : Str} (hg : Gl X "isinstance") (hm : X.mg "isinstance" = none) (hg2 : Gl X n) (hm2 : X.mg n = some (.ref D)) (he : PE X e ta) (hd : (n == ("__debug__" : Str)) = false := by decide)
    (hs1 : starEach [e, .Name n p2] X.env = (false, eval e X.env) :: starEach [.Name n p2] X.env := by rfl) (hpl : (backTo pos (starEach [.Name n p2] X.env)).any (·.1) = false := by rfl) :
    PE X (.Call (.Name "isinstance" p) [e, .Name n p2] [] pos) (tIsO X.K D ta) := by
  refine ⟨fun pins s σ H Q I h => ?_⟩
  refine wpAny_Call_Name_kw (ld_blt I hg hm PyProof.Rows.boot_isinstance ?_)
  refine PyProof.Rows.callWith_builtin1 (thn ((pa_cons he (pa_cons (pe_glob (v := .ref D) hg2 hm2 rfl hd) pa_nil) hs1).run pos pins s σ H (fun vs H1 => ∃ a C dx fs b, vs = [.ref a, .ref D] ∧ H1 a = some (.ins C dx fs) ∧ IsO X.K C D b ∧ Q (.bl b) H1) I ?_) fun us s1 ⟨vs, H1, I1, r1, a, C, dx, fs, b, ev, ea, c, q⟩ => ?_) hs1 hpl
  · refine (show ta σ H (fun x H1 => ∃ a C dx fs b, x :: [V.ref D] = [V.ref a, V.ref D] ∧ H1 a = some (.ins C dx fs) ∧ IsO X.K C D b ∧ Q (.bl b) H1) from ?_)
    have e : (fun x H1 => ∃ a C dx fs b, x :: [V.ref D] = [V.ref a, V.ref D] ∧ H1 a = some (.ins C dx fs) ∧ IsO X.K C D b ∧ Q (.bl b) H1) = (fun x H1 => ∃ a C dx fs b, x = V.ref a ∧ H1 a = some (HO.ins C dx fs) ∧ IsO X.K C D b ∧ Q (.bl b) H1) := by
      funext x H1
      refine propext ⟨fun ⟨a, C, dx, fs, b, e, r⟩ => ⟨a, C, dx, fs, b, (List.cons.inj e).1, r⟩, fun ⟨a, C, dx, fs, b, e, r⟩ => ⟨a, C, dx, fs, b, by rw [e], r⟩⟩
    rw [e]
    exact h
  · subst ev
    exact call_isi pins s1 σ H1 _ us Q I1 r1 ⟨.ref a, .ref D, .ref C, .ref D, b, rfl, .own D, .base (.ins ea c.own.cl c.own.is.ca c.own.is.cn c.own.is.ct c.own.is.cm), c.kit, q⟩
/-- isinstance(x, T), T a built-in class -/
def IsB (K : PySem.W.Frag) (H : Hp) (n : String) (x : V) (b : Bool) : Prop := ∃ t, TyX K H x t ∧ PySem.W.kitOne K t (.type n) = some b
def tIsB (K : PySem.W.Frag) (n : String) (ta : TE) : TE := fun σ H Q => ta σ H fun x H1 => ∃ b, IsB K H1 n x b ∧ Q (.bl b) H1
theorem pe_isB {n : String} {y : Str} (hg : Gl X "isinstance") (hm : X.mg "isinstance" = none) (hg2 : Gl X y) (hm2 : X.mg y = none) (hv : bootBuiltins y = some (.type n)) (he : PE X e ta) (hn : y ≠ "__name__" := by decide) (hd : (y == ("__debug__" : Str)) = false := by decide)
    (hs1 : starEach [e, .Name y p2] X.env = (false, eval e X.env) :: starEach [.Name y p2] X.env := by rfl) (hpl : (backTo pos (starEach [.Name y p2] X.env)).any (·.1) = false := by rfl) :
    PE X (.Call (.Name "isinstance" p) [e, .Name y p2] [] pos) (tIsB X.K n ta) := by
  refine ⟨fun pins s σ H Q I h => ?_⟩
  refine wpAny_Call_Name_kw (ld_blt I hg hm PyProof.Rows.boot_isinstance ?_)
  refine PyProof.Rows.callWith_builtin1 (thn ((pa_cons he (pa_cons (pe_bltn (v := .ty n) hg2 hm2 hv rfl hn hd) pa_nil) hs1).run pos pins s σ H (fun vs H1 => ∃ x b, vs = [x, .ty n] ∧ IsB X.K H1 n x b ∧ Q (.bl b) H1) I ?_) fun us s1 ⟨vs, H1, I1, r1, x, b, ev, c, q⟩ => ?_) hs1 hpl
  · refine (show ta σ H (fun x H1 => ∃ x' b, x :: [V.ty n] = [x', V.ty n] ∧ IsB X.K H1 n x' b ∧ Q (.bl b) H1) from ?_)
    have e : (fun x H1 => ∃ x' b, x :: [V.ty n] = [x', V.ty n] ∧ IsB X.K H1 n x' b ∧ Q (.bl b) H1) = (fun x H1 => ∃ b, IsB X.K H1 n x b ∧ Q (.bl b) H1) := by
      funext x H1
      refine propext ⟨fun ⟨x', b, e, r⟩ => ⟨b, by rw [(List.cons.inj e).1]; exact r⟩, fun ⟨b, r⟩ => ⟨x, b, rfl, r⟩⟩
    rw [e]
    exact h
  · subst ev
    obtain ⟨t, ty, k⟩ := c
    exact call_isi pins s1 σ H1 _ us Q I1 r1 ⟨x, .ty n, t, .type n, b, rfl, .ty n, ty, k, q⟩
end
section
variable {K : PySem.W.Frag} {H : Hp}
theorem isB_str {n : String} {b : Bool} (x : Str) (h : kitB "str" n = some b) : IsB K H n (.str x) b := ⟨_, .base (.str x), kit_ty h⟩
theorem isB_int {n : String} {b : Bool} (i : Int) (h : kitB "int" n = some b) : IsB K H n (.int i) b := ⟨_, .base (.int i), kit_ty h⟩
theorem isB_lst {n : String} {b : Bool} {a : Addr} {xs : List V} (e : H a = some (.lst xs)) (h : kitB "list" n = some b) : IsB K H n (.ref a) b := ⟨_, .base (.lst e), kit_ty h⟩
theorem isB_tup {n : String} {b : Bool} {a : Addr} {xs : List V} (e : SqT K H a xs) (h : kitB "tuple" n = some b) : IsB K H n (.ref a) b := by
  rcases e with (e | ⟨o, e⟩) | ⟨o, its, k, e, c, _⟩
  · exact ⟨_, .base (.tup e), kit_ty h⟩
  · exact ⟨_, .fTuple e, kit_ty h⟩
  · exact ⟨_, .kTuple e c, kit_ty h⟩
end

/-! ### defs as they stand -/
section
variable (K : PySem.W.Frag) (mg : Str → Option Value)
abbrev FnS (x qual : Str) (st : Stmt) (f : Addr) (fd : FuncData) : Prop := FunD K x qual (defArgs st) (defBody st) (defScope st) [] [] f fd
structure Dfn (x : Str) (st : Stmt) : Prop where
  ex : ∃ f fd, mg x = some (.ref f) ∧ FnS K x x st f fd
structure Dme (C : Addr) (m qual : Str) (st : Stmt) : Prop where
  ex : ∃ f fd, Cls K C ∧ Meth K C m f ∧ FnS K m qual st f fd
structure DmS (C : Addr) (m qual : Str) (st : Stmt) : Prop where
  ex : ∃ f fd, SlX.SCls K C ∧ Meth K C m f ∧ FnS K m qual st f fd
structure Ddu (C : Addr) (m qual : Str) (st : Stmt) : Prop where
  ex : ∃ f fd, PySem.W.findIn K (.ref C) m = some (some (.ref f)) ∧ PySem.W.isFn K (.ref f) = true ∧ PySem.W.fnIn K f = true ∧ FnS K m qual st f fd
structure Dmk (x : Str) (C : Addr) (qual : Str) (st : Stmt) : Prop where
  ex : ∃ f fd, Mk K C f ∧ mg x = some (.ref C) ∧ FnS K "__init__" qual st f fd
structure Dpr (C : Addr) (m qual : Str) (st : Stmt) : Prop where
  ex : ∃ p f fd, Cls K C ∧ PropOf K C m p f ∧ FnS K m qual st f fd
end
section
variable {P : Program} {w : World} {K : PySem.W.Frag} {mg : Str → Option Value} {base : Heap} {k : Nat} {C f : Addr} {x m qual : Str} {st : Stmt} {fd : FuncData} {N ps : List Str} {sp : Sp}
/-- how a def's body keeps its promise -/
abbrev Body (P : Program) (w : World) (K : PySem.W.Frag) (mg : Str → Option Value) (base : Heap) (k : Nat) (N : List Str) (qual : Str) (st : Stmt) (sp : Sp) : Prop :=
  ∀ (f : Addr) (cdv : Value) (A : Around) (outer : List Env) (s : Shared) (H : Hp) (vs : List V) (Q : VK) (E : XK), Room k (A.deeper (envOfC qual (defScope st) s.heap.objs.size f cdv)) → sp vs H Q E →
    ∃ t, PSs (cxOf CX0 P w K mg base N qual (defScope st) f cdv A outer s H E) (defBody st) t ∧ t { nx := fun _ H' => Q .non H', rt := Q } (start N vs) H
/-- how its arguments bind -/
abbrev Bnds (x qual : Str) (st : Stmt) (ps : List Str) : Prop := ∀ (kV doc pm : Value) (an : Option Addr) (cdv ct : Value) (us : List Value), us.length = ps.length →
  bindArgs (PySem.W.fnOf x qual (defArgs st) (defBody st) (defScope st) .none kV doc pm an cdv ct) ⟨us, []⟩ = pure (ps.zip us)
theorem fnS_r (F : FnS K x qual st f fd) (S : FnScope N ps (defScope st)) (hb : Bnds x qual st ps) (len : ∀ vs H Q E, sp vs H Q E → vs.length = ps.length) (body : Body P w K mg base k N qual st sp) : FnR P w K mg base CX0 (k + 1) f sp :=
  fnR_of (F.ok S len fun cdv A outer s H vs Q E hr h => body f cdv A outer s H vs Q E hr h) (F.bindsN hb)
theorem Dfn.cal (D : Dfn K mg x st) (S : FnScope N ps (defScope st)) (hb : Bnds x x st ps) (len : ∀ vs H Q E, sp vs H Q E → vs.length = ps.length) (body : Body P w K mg base k N x st sp) : Cal P w K mg base (k + 1) x sp := by
  obtain ⟨f, fd, hm, F⟩ := D.ex
  exact ⟨f, fnS_r F S hb len body, hm, F.kp⟩
theorem Dme.met (D : Dme K C m qual st) (S : FnScope N ps (defScope st)) (hb : Bnds m qual st ps) (len : ∀ vs H Q E, sp vs H Q E → vs.length = ps.length) (body : Body P w K mg base k N qual st sp) : Met P w K mg base (k + 1) C m sp := by
  obtain ⟨f, fd, c, hm, F⟩ := D.ex
  exact ⟨f, c, hm, fnS_r F S hb len body⟩
theorem DmS.met (D : DmS K C m qual st) (S : FnScope N ps (defScope st)) (hb : Bnds m qual st ps) (len : ∀ vs H Q E, sp vs H Q E → vs.length = ps.length) (body : Body P w K mg base k N qual st sp) : MetS P w K mg base (k + 1) C m sp := by
  obtain ⟨f, fd, c, hm, F⟩ := D.ex
  exact ⟨f, c, hm, fnS_r F S hb len body⟩
theorem Ddu.dun (D : Ddu K C m qual st) (S : FnScope N ps (defScope st)) (hb : Bnds m qual st ps) (len : ∀ vs H Q E, sp vs H Q E → vs.length = ps.length) (body : Body P w K mg base k N qual st sp) : Dun P w K mg base (k + 1) C m sp := by
  obtain ⟨f, fd, h1, h2, h3, F⟩ := D.ex
  exact ⟨f, h1, h2, h3, fnS_r F S hb len body⟩
theorem Dmk.mak (D : Dmk K mg x C qual st) (S : FnScope N ps (defScope st)) (hb : Bnds "__init__" qual st ps) (len : ∀ vs H Q E, sp vs H Q E → vs.length = ps.length) (body : Body P w K mg base k N qual st sp) : Mak P w K mg base (k + 1) x C sp := by
  obtain ⟨f, fd, M, hm, F⟩ := D.ex
  exact ⟨f, M, hm, fnS_r F S hb len body⟩
/-- a class whose __init__ takes self and *v -/
theorem Dmk.makStar {p1 pv : Str} (D : Dmk K mg x C qual st) (S : FnScope N [p1, pv] (defScope st))
    (hb : ∀ (kV doc pm : Value) (an : Option Addr) (cdv ct : Value) (us rest : List Value), us.length = 1 → bindArgs (PySem.W.fnOf "__init__" qual (defArgs st) (defBody st) (defScope st) .none kV doc pm an cdv ct) ⟨us ++ rest, []⟩ = (newTuple rest >>= fun t => pure (([p1] : List Str).zip us ++ [(pv, t)])))
    (body : Body P w K mg base k N qual st sp) :
    Mak P w K mg base (k + 1) x C (fun vs H Q E => ∃ ws rest, vs = ws ++ rest ∧ ws.length = 1 ∧ rest.length ≤ sizeLine ∧ ∀ p, H p = Option.none → sp (ws ++ [V.ref p]) (upd H p (.tup rest)) Q E) := by
  obtain ⟨f, fd, M, hm, F⟩ := D.ex
  obtain ⟨oc, od, dV, kV, doc, pm, an, cdv, ct, osl, rfl, lk, hcd, hD, hK⟩ := F.ex
  have e : dV = .none := by
    rcases hD with ⟨_, rfl⟩ | ⟨e, _⟩
    · rfl
    · exact absurd rfl e
  subst e
  have G : FnR P w K mg base CX0 (k + 1) f _ := StX.fn_star (ps := [p1]) (pv := pv) lk hcd S StX.cxUp_none (fun us rest hl => hb kV doc pm an cdv ct us rest hl) (fun A outer s H vs Q E hr h => body f cdv A outer s H vs Q E hr h)
  exact ⟨f, M, hm, G⟩
/-- a property's getter -/
structure Get (P : Program) (w : World) (K : PySem.W.Frag) (mg : Str → Option Value) (base : Heap) (k : Nat) (C : Addr) (m : Str) (sp : Sp) : Prop where
  ex : ∃ (p f : Addr) (fd : FuncData) (ps : List Str), Cls K C ∧ PropOf K C m p f ∧ FnOk P w K mg base CX0 k f fd ps sp ∧ Binds K fd ps []
theorem Dpr.get (D : Dpr K C m qual st) (S : FnScope N ps (defScope st)) (hb : Bnds m qual st ps) (len : ∀ vs H Q E, sp vs H Q E → vs.length = ps.length) (body : Body P w K mg base k N qual st sp) : Get P w K mg base (k + 1) C m sp := by
  obtain ⟨p, f, fd, c, hm, F⟩ := D.ex
  exact ⟨p, f, fd, ps, c, hm, F.ok S len fun cdv A outer s H vs Q E hr h => body f cdv A outer s H vs Q E hr h, F.bindsN hb⟩
end
section
variable {X : Cx} {j k : Nat} {C : Addr} {x m : Str} {sp : Sp} {p pos apos spos : Pos} {e o : Expr} {es : List Expr} {ta te : TE} {t : TA}
/-- e.m, a property -/
theorem pe_p (c : Get X.prog X.w X.K X.mg X.base k C m sp) (hr : Room j X.A) (hk : k + 1 ≤ j) (he : PE X e ta) (hab : attributeBase e m X.env (eval e X.env) = eval e X.env := by rfl) : PE X (.Attribute e m pos) (tProp C sp [] E0 ta) := by
  obtain ⟨p, f, fd, ps, cl, pr, F, hb⟩ := c.ex
  exact pe_prop he cl pr F (hr.mono hk) hb .nil pass0 hab
theorem pe_c0 (c : Cal X.prog X.w X.K X.mg X.base k x sp) (hr : Room j X.A) (hk : k ≤ j) (hg : Gl X x) (hdb : (x == ("__debug__" : Str)) = false := by decide) :
    PE X (.Call (.Name x p) [] [] pos) (tCallR sp tNil) := by
  obtain ⟨f, F, hm, kp⟩ := c.ex
  refine ⟨fun pins s σ H Q I h => ?_⟩
  refine wpAny_Call_Name_kw (ld_glob I hg hm ?_ hdb)
  exact PySem.W.callWith_K0 I.kIn kp (run_cal (us := []) F (hr.mono hk) I .nil h)
/-- C(e, ..), C() -/
theorem pe_mk (c : Mak X.prog X.w X.K X.mg X.base k x C sp) (hr : Room j X.A) (hk : k + 1 ≤ j) (hg : Gl X x) (ha : PA X (e :: es) t) (hdb : (x == ("__debug__" : Str)) = false := by decide)
    (he : starEach (e :: es) X.env = (false, eval e X.env) :: starEach es X.env := by rfl) (hpl : (backTo pos (starEach es X.env)).any (·.1) = false := by rfl) : PE X (.Call (.Name x p) (e :: es) [] pos) (StX.tMakeR C sp E0 t) := by
  obtain ⟨f, M, hm, F⟩ := c.ex
  exact StX.pe_makeR M F (hr.mono hk) hg hm pass0 ha hdb he hpl
theorem pe_mk0 (c : Mak X.prog X.w X.K X.mg X.base k x C sp) (hr : Room j X.A) (hk : k + 1 ≤ j) (hg : Gl X x) (hdb : (x == ("__debug__" : Str)) = false := by decide) : PE X (.Call (.Name x p) [] [] pos) (StX.tMakeR C sp E0 tNil) := by
  obtain ⟨f, M, hm, F⟩ := c.ex
  refine ⟨fun pins s σ H Q I h => ?_⟩
  refine wpAny_Call_Name_kw (ld_glob I hg hm ?_ hdb)
  exact PySem.W.callWith_K0 I.kIn M.kp (StX.run_makeR (us := []) M F (hr.mono hk) pass0 I .nil h)
/-- C(*xs) -/
def tMakeS (K : PySem.W.Frag) (C : Addr) (sp : Sp) (te : TE) : TE := fun σ H Q => te σ H fun y H1 => ∃ b xs, y = V.ref b ∧ (SqT K H1 b xs ∨ SqL K H1 b xs) ∧ ∀ x dx, H1 x = Option.none → H1 dx = Option.none → dx ≠ x →
  sp (V.ref x :: xs) (upd (upd H1 dx (.own x)) x (.ins C dx [])) (fun v H2 => v = .non ∧ Q (.ref x) H2) E0
theorem pe_mkS (c : Mak X.prog X.w X.K X.mg X.base k x C sp) (hr : Room j X.A) (hk : k + 1 ≤ j) (hg : Gl X x) (he : PE X e te) (hd : (x == ("__debug__" : Str)) = false := by decide)
    (hst : starEach [.Starred e spos] X.env = [(true, eval e X.env)] := by rfl) :
    PE X (.Call (.Name x p) [.Starred e spos] [] pos) (tMakeS X.K C sp te) := by
  obtain ⟨f, M, hm, F⟩ := c.ex
  refine ⟨fun pins s σ H Q I h => ?_⟩
  refine wpAny_Call_Name_kw (ld_glob I hg hm ?_ hd)
  refine PySem.W.callWith_S (h₀ := X.base) I.ok.mod.kin M.kp (thn (he.run pins s σ H _ I h) fun v s1 ⟨y, H1, I1, ry, a, xs, ey, hxs, q⟩ => ?_) hst
  subst ey
  obtain rfl : v = Value.ref a := ry
  exact StX.star_any I1 hxs fun us s2 I2 rv => ⟨I2.kIn, StX.run_makeR M F (hr.mono hk) pass0 I2 rv q⟩
/-- o.m(e, ..), o.m(), o with slots -/
theorem pe_ms {pl : Sem Bool} (c : MetS X.prog X.w X.K X.mg X.base k C m sp) (hr : Room j X.A) (hk : k ≤ j) (he : PE X o ta) (ha : PA X (e :: es) t)
    (hst : starEach (e :: es) X.env = (false, eval e X.env) :: starEach es X.env := by rfl) (hpl : (backTo pos (starEach es X.env)).any (·.1) = false := by rfl)
    (ht : eval (.Call (.Attribute o m apos) (e :: es) [] pos) X.env = (do
      let ov ← eval o X.env
      standAt apos.atName
      let (f, first) ← holding [ov] (getMethod ov m pl)
      callWith pos f first (backTo pos (starEach (e :: es) X.env)) (backToKw pos (keywordEach [] X.env))) := by rfl) :
    PE X (.Call (.Attribute o m apos) (e :: es) [] pos) (SlX.tMethSl C sp E0 ta t) := by
  obtain ⟨f, cl, hm, F⟩ := c.ex
  exact SlX.pe_methSl he cl hm F (hr.mono hk) pass0 ha hst hpl ht
theorem pe_ms0 {pl : Sem Bool} (c : MetS X.prog X.w X.K X.mg X.base k C m sp) (hr : Room j X.A) (hk : k ≤ j) (he : PE X o ta)
    (ht : eval (.Call (.Attribute o m apos) [] [] pos) X.env = (do
      let ov ← eval o X.env
      standAt apos.atName
      let (f, first) ← holding [ov] (getMethod ov m pl)
      callWith pos f first (backTo pos (starEach [] X.env)) (backToKw pos (keywordEach [] X.env))) := by rfl) :
    PE X (.Call (.Attribute o m apos) [] [] pos) (SlX.tMethSl C sp E0 ta tNil) := by
  obtain ⟨f, cl, hm, F⟩ := c.ex
  exact SlX.pe_methSl0 he cl hm F (hr.mono hk) pass0 ht
end

/-! ### the text's facts -/
/-- the places of the slots -/
abbrev iP : Nat := 2
abbrev iV : Nat := 4
abbrev iN : Nat := 0
abbrev iA : Nat := 1
abbrev iU : Nat := 3
structure Ad where
  cR : Addr
  cS : Addr
  cN : Addr
  cT : Addr
  cG : Addr
  tRes : Addr
  tAct : Addr
  tNone : Addr
  tGood : Addr
structure Txt (K : PySem.W.Frag) (mg : Str → Option Value) (a : Ad) : Prop where
  f_isinstance : mg "isinstance" = none
  f_len : mg "len" = none
  f_all : mg "all" = none
  f_sorted : mg "sorted" = none
  f_set : mg "set" = none
  f_tuple : mg "tuple" = none
  f_list : mg "list" = none
  f_dict : mg "dict" = none
  f_zip : mg "zip" = none
  f_enumerate : mg "enumerate" = none
  f_max : mg "max" = none
  f_min : mg "min" = none
  f_int : mg "int" = none
  f_range : mg "range" = none
  f_str : mg "str" = none
  f_bool : mg "bool" = none
  gR : mg "Rule" = some (.ref a.cR)
  gS : mg "Stack" = some (.ref a.cS)
  gN : mg "Run" = some (.ref a.cN)
  gT : mg "State" = some (.ref a.cT)
  gG : mg "Register" = some (.ref a.cG)
  gRes : mg "RESULTS" = some (.ref a.tRes)
  gAct : mg "ACTIONS" = some (.ref a.tAct)
  gNone : mg "NONE" = some (.ref a.tNone)
  gGood : mg "GOOD" = some (.ref a.tGood)
  kRes : KTup K a.tRes [.str "yes", .str "no", .str "skip", .str "gone"]
  dRes : ∃ o, K.lookup a.tRes = some o ∧ o.cls = .type "tuple" ∧ o.dict = none
  kAct : KTup K a.tAct [.str "ok", .str "bad", .str "die", .str "done", .str "ignore", .str "reset"]
  kNone : KTup K a.tNone [.str "none", .non]
  kGood : KTup K a.tGood [.str "good", .non]
  s_OK : ∃ t, mg "OK" = some (.str "ok" t)
  s_BAD : ∃ t, mg "BAD" = some (.str "bad" t)
  s_DIE : ∃ t, mg "DIE" = some (.str "die" t)
  s_DONE : ∃ t, mg "DONE" = some (.str "done" t)
  s_RESET : ∃ t, mg "RESET" = some (.str "reset" t)
  s_LETTERS : ∃ t, mg "LETTERS" = some (.str "abcdefghijklmnopqrstuvwxyz" t)
  s_IN : ∃ t, mg "IN" = some (.str "in" t)
  s_OUT : ∃ t, mg "OUT" = some (.str "out" t)
  s_OPEN : ∃ t, mg "OPEN" = some (.str "open" t)
  i_JUMP : ∃ t, mg "MOST_JUMP" = some (.int 9 t)
  i_LETTERS : ∃ t, mg "MOST_LETTERS" = some (.int 8 t)
  i_ENTRIES : ∃ t, mg "MOST_ENTRIES" = some (.int 12 t)
  i_RULES : ∃ t, mg "MOST_RULES" = some (.int 12 t)
  i_MODULES : ∃ t, mg "MOST_MODULES" = some (.int 6 t)
  i_DEPTH : ∃ t, mg "MOST_DEPTH" = some (.int 3 t)
  oR : OwnC K a.cR
  oS : OwnC K a.cS
  rr : PySem.W.kitOne K (.ref a.cR) (.ref a.cR) = some true
  rs : PySem.W.kitOne K (.ref a.cR) (.ref a.cS) = some false
  ss : PySem.W.kitOne K (.ref a.cS) (.ref a.cS) = some true
  fR1 : Fl K a.cR "asks"
  fR2 : Fl K a.cR "acts"
  fS1 : Fl K a.cS "parts"
  fS2 : Fl K a.cS "steps"
  fS3 : Fl K a.cS "names"
  fS4 : Fl K a.cS "depth"
  fN1 : Fl K a.cN "told"
  fN2 : Fl K a.cN "asked_rules"
  fN3 : Fl K a.cN "mark"
  fG1 : Fl K a.cG "state"
  sT1 : Sl K a.cT "present" iP
  sT2 : Sl K a.cT "vows" iV
  sT3 : Sl K a.cT "noted" iN
  sT4 : Sl K a.cT "past" iA
  sT5 : Sl K a.cT "undone" iU
  nnS : NoNe K a.cS
  sfS : PySem.W.selfFirst K a.cS = true
end LK

end

section
set_option Elab.async false
set_option linter.all false
set_option maxRecDepth 100000
set_option maxHeartbeats 2000000
/-! Kit 4: (..).index(e) of a displayed tuple; loops and comprehensions over any walk. -/
namespace LK
open PySem PySem.Spec PyProof.Rows L2
section
variable {X : Cx} {e : Expr} {es : List Expr} {te : TE} {t : TA} {kk : Nat} {tpos apos cpos : Pos}
/-- (a, b, ..).index(e), texts -/
def tDispIdx (t : TA) (te : TE) : TE := fun σ H Q => t σ H fun xs H1 => xs.length ≤ sizeLine ∧ ∀ p, H1 p = none → te σ (upd H1 p (.tup xs)) fun y H2 => ∃ (ys : List Str) (v : Str) (j : Nat), xs = ys.map V.str ∧ y = .str v ∧ ys[j]? = some v ∧
  (∀ m, m < j → ys[m]? ≠ some v) ∧ H2 p = some (.tup xs) ∧ Q (.int (j : Nat)) H2
theorem pe_dispIdx (h : PA X es t) (he : PE X e te)
    (hbase : attributeBase (.Tuple es kk tpos) "index" X.env (eval (.Tuple es kk tpos) X.env) = eval (.Tuple es kk tpos) X.env := by rfl)
    (hfew : ((backTo cpos (starEach [e] X.env)).all (fun x => !x.1) && (backToKw cpos (keywordEach [] X.env)).all (fun x => x.1.isSome)
      && decide ([e].length + ([] : List Keyword).length + (if ([] : List Keyword).isEmpty then 0 else 1) < 30)) = true := by rfl)
    (hline : (apos.endLine == cpos.line) = true := by rfl) (hs : starEach [e] X.env = (false, eval e X.env) :: starEach [] X.env := by rfl) :
    PE X (.Call (.Attribute (.Tuple es kk tpos) "index" apos) [e] [] cpos) (tDispIdx t te) := by
  refine ⟨fun pins s σ H Q I hq => ?_⟩
  refine wpAny_Call_method_late hbase hfew hline rfl ?_
  refine wpAny_Tuple_spliced (thn (h.run tpos pins s σ H _ I hq) fun us s1 ⟨xs, H1, I1, r, zl, q⟩ => ⟨by rw [← r.length]; exact zl, ?_⟩)
  have hf : H1 s1.heap.objs.size = none := I1.hok.fresh (Nat.le_refl _)
  have hT : ({ s1 with heap := s1.heap.push { cls := .type "tuple", data := .seq us.toArray } } : Shared).heap.get? s1.heap.objs.size = some { cls := .type "tuple", data := .seq us.toArray } := Heap.get?_push_size _ rfl
  have I2 : Inv X pins σ (upd H1 s1.heap.objs.size (.tup xs)) { s1 with heap := s1.heap.push { cls := .type "tuple", data := .seq us.toArray } } :=
    I1.laid (t' := s1.toks) (fun b u e => Heap.get?_push_of_some _ e) (Nat.le_refl _) ⟨zl, us, r, ⟨_, Heap.get?_push_size _ rfl, rfl, _, rfl⟩⟩
  refine ⟨"tuple", "tuple.index", PySem.F.plainAttrs_tuple, PySem.F.slot_tuple_index, PySem.F.type_tuple_index, ⟨_, hT, rfl⟩, fun a ea => ?_, ?_⟩
  · cases ea
    exact ⟨_, hT, rfl⟩
  have hA := (pa_cons he pa_nil hs).run cpos pins _ σ _ (fun vs H2 => ∃ y, vs = [y] ∧ ∃ (ys : List Str) (v : Str) (j : Nat), xs = ys.map V.str ∧ y = .str v ∧ ys[j]? = some v ∧ (∀ m, m < j → ys[m]? ≠ some v) ∧ H2 s1.heap.objs.size = some (.tup xs) ∧ Q (.int (j : Nat)) H2) I2 (by
    have q' := q _ hf
    show te σ _ (fun y H2 => ∃ y', y :: [] = [y'] ∧ _)
    have e : (fun y H2 => ∃ y', [y] = [y'] ∧ ∃ (ys : List Str) (v : Str) (j : Nat), xs = ys.map V.str ∧ y' = V.str v ∧ ys[j]? = some v ∧ (∀ m, m < j → ys[m]? ≠ some v) ∧ H2 s1.heap.objs.size = some (HO.tup xs) ∧ Q (.int (j : Nat)) H2)
        = (fun y H2 => ∃ (ys : List Str) (v : Str) (j : Nat), xs = ys.map V.str ∧ y = V.str v ∧ ys[j]? = some v ∧ (∀ m, m < j → ys[m]? ≠ some v) ∧ H2 s1.heap.objs.size = some (HO.tup xs) ∧ Q (.int (j : Nat)) H2) := by
      funext y H2
      refine propext ⟨fun ⟨y', e, r⟩ => by cases e; exact r, fun r => ⟨y, rfl, r⟩⟩
    rw [e]
    exact q')
  rw [hs] at hA ⊢
  refine Calls.callWith_builtin rfl (Calls.evalArgs_plain ?_)
  refine thn hA fun us2 s2 ⟨vs, H2, I3, r2, y, ev, ys, v, j, e1, e2, e3, e4, e5, q2⟩ => ?_
  subst ev e1 e2
  exact mt_tup_index pins s2 σ H2 (.ref s1.heap.objs.size) [.str v] _ us2 Q I3 rfl r2 ⟨_, ys, v, j, rfl, rfl, .inl (.inl e5), e3, e4, q2⟩
end

/-- a loop over any walk of n turns -/
theorem for_gen {J : It} {g : TG} {tb : TS} {D : Ends} {σ : L2.St} {H : Hp} (n : Nat) (Pv : Nat → L2.St → Hp → Prop) (h0 : Pv 0 σ H)
    (hs : ∀ i σ H, i < n → Pv i σ H → J.go i H ∧ ∀ x H', J.yld i H x H' → g x σ H' fun σ2 H2 => tb { D with nx := Pv (i + 1), ct := Pv (i + 1), bk := D.nx } σ2 H2) (hd : ∀ σ H, Pv n σ H → J.stop n H ∧ D.nx σ H) :
    ∃ W : Nat → Nat → L2.St → Hp → Prop, (∃ m, W 0 m σ H) ∧ ∀ i m σ H, W i m σ H →
      (J.stop i H ∧ D.nx σ H) ∨ (J.go i H ∧ ∃ N : L2.St → Hp → Prop, (∀ σ' H', N σ' H' → ∃ m', m' < m ∧ W (i + 1) m' σ' H') ∧ ∀ x H', J.yld i H x H' → g x σ H' fun σ2 H2 => tb { D with nx := N, ct := N, bk := D.nx } σ2 H2) := by
  refine ⟨fun i m σ H => m = n - i ∧ i ≤ n ∧ Pv i σ H, ⟨n, by simp, Nat.zero_le _, h0⟩, ?_⟩
  rintro i m σ H ⟨rfl, hi, p⟩
  by_cases hlt : i < n
  · obtain ⟨a, b⟩ := hs i σ H hlt p
    exact .inr ⟨a, Pv (i + 1), fun σ' H' p' => ⟨n - (i + 1), by omega, rfl, hlt, p'⟩, b⟩
  · have e : i = n := by omega
    subst e
    exact .inl (hd σ H p)
/-- a comprehension over any walk of n turns -/
theorem lc_gen {J : It} {g : TG} {tt : TT} {te : TE} {vs : List Nat} {σ : L2.St} {H1 : Hp} {D : Addr} {Qd : Hp → Prop} (n : Nat) (Pv : Nat → Hp → Prop) (h0 : Pv 0 (upd H1 D (.lst [])))
    (hs : ∀ i H, i < n → Pv i H → J.go i H ∧ ∀ x H', J.yld i H x H' → g x (wipe σ vs) H' fun σ2 H2 => wipe σ2 vs = wipe σ vs ∧ tt σ2 H2 fun b H3 =>
      if b = true then te σ2 H3 fun y H4 => ∃ acc, H4 D = some (.lst acc) ∧ acc.length < sizeLine ∧ Pv (i + 1) (upd H4 D (.lst (acc ++ [y]))) else Pv (i + 1) H3) (hd : ∀ H, Pv n H → J.stop n H ∧ Qd H) :
    ∃ W : Nat → Nat → Hp → Prop, (∃ m, W 0 m (upd H1 D (.lst []))) ∧ ∀ i m H, W i m H →
      (J.stop i H ∧ Qd H) ∨ (J.go i H ∧ ∃ Nx : Hp → Prop, (∀ H', Nx H' → ∃ m', m' < m ∧ W (i + 1) m' H') ∧ ∀ x H', J.yld i H x H' → g x (wipe σ vs) H' fun σ2 H2 => wipe σ2 vs = wipe σ vs ∧ tt σ2 H2 fun b H3 =>
        if b = true then te σ2 H3 fun y H4 => ∃ acc, H4 D = some (.lst acc) ∧ acc.length < sizeLine ∧ Nx (upd H4 D (.lst (acc ++ [y]))) else Nx H3) := by
  refine ⟨fun i m H => m = n - i ∧ i ≤ n ∧ Pv i H, ⟨n, by simp, Nat.zero_le _, h0⟩, ?_⟩
  rintro i m H ⟨rfl, hi, p⟩
  by_cases hlt : i < n
  · obtain ⟨a, b⟩ := hs i H hlt p
    exact .inr ⟨a, Pv (i + 1), fun H' p' => ⟨n - (i + 1), by omega, rfl, hlt, p'⟩, b⟩
  · have e : i = n := by omega
    subst e
    exact .inl (hd H p)
/-- two walks in one comprehension: the outer -/
theorem lc2_out {J : It} {g : TG} {tt : TT} {wi1 : TI} {g1 : TG} {tt1 : TT} {te : TE} {vs vs1 : List Nat} {σ : L2.St} {H1 : Hp} {D : Addr} {Qd : Hp → Prop} (n : Nat) (Pv : Nat → Hp → Prop) (h0 : Pv 0 (upd H1 D (.lst [])))
    (hs : ∀ i H, i < n → Pv i H → J.go i H ∧ ∀ x H', J.yld i H x H' → g x (wipe σ vs) H' fun σ2 H2 => wipe σ2 vs = wipe σ vs ∧ tt σ2 H2 fun b H3 =>
      if b = true then wi1 σ2 H3 fun J1 H4 => ∃ W1 : Nat → Nat → Hp → Prop, (∃ m, W1 0 m H4) ∧ ∀ j k H, W1 j k H →
        (J1.stop j H ∧ Pv (i + 1) H) ∨ (J1.go j H ∧ ∃ Nx1 : Hp → Prop, (∀ H', Nx1 H' → ∃ k', k' < k ∧ W1 (j + 1) k' H') ∧ ∀ x H', J1.yld j H x H' → g1 x (wipe σ2 vs1) H' fun σ3 H5 => wipe σ3 vs1 = wipe σ2 vs1 ∧ tt1 σ3 H5 fun b H6 =>
          if b = true then te σ3 H6 fun y H7 => ∃ acc, H7 D = some (.lst acc) ∧ acc.length < sizeLine ∧ Nx1 (upd H7 D (.lst (acc ++ [y]))) else Nx1 H6)
      else Pv (i + 1) H3) (hd : ∀ H, Pv n H → J.stop n H ∧ Qd H) :
    ∃ W : Nat → Nat → Hp → Prop, (∃ m, W 0 m (upd H1 D (.lst []))) ∧ ∀ i m H, W i m H →
      (J.stop i H ∧ Qd H) ∨ (J.go i H ∧ ∃ Nx : Hp → Prop, (∀ H', Nx H' → ∃ m', m' < m ∧ W (i + 1) m' H') ∧ ∀ x H', J.yld i H x H' → g x (wipe σ vs) H' fun σ2 H2 => wipe σ2 vs = wipe σ vs ∧ tt σ2 H2 fun b H3 =>
        if b = true then wi1 σ2 H3 fun J1 H4 => ∃ W1 : Nat → Nat → Hp → Prop, (∃ m, W1 0 m H4) ∧ ∀ j k H, W1 j k H →
          (J1.stop j H ∧ Nx H) ∨ (J1.go j H ∧ ∃ Nx1 : Hp → Prop, (∀ H', Nx1 H' → ∃ k', k' < k ∧ W1 (j + 1) k' H') ∧ ∀ x H', J1.yld j H x H' → g1 x (wipe σ2 vs1) H' fun σ3 H5 => wipe σ3 vs1 = wipe σ2 vs1 ∧ tt1 σ3 H5 fun b H6 =>
            if b = true then te σ3 H6 fun y H7 => ∃ acc, H7 D = some (.lst acc) ∧ acc.length < sizeLine ∧ Nx1 (upd H7 D (.lst (acc ++ [y]))) else Nx1 H6)
        else Nx H3) := by
  refine ⟨fun i m H => m = n - i ∧ i ≤ n ∧ Pv i H, ⟨n, by simp, Nat.zero_le _, h0⟩, ?_⟩
  rintro i m H ⟨rfl, hi, p⟩
  by_cases hlt : i < n
  · obtain ⟨a, b⟩ := hs i H hlt p
    exact .inr ⟨a, Pv (i + 1), fun H' p' => ⟨n - (i + 1), by omega, rfl, hlt, p'⟩, b⟩
  · have e : i = n := by omega
    subst e
    exact .inl (hd H p)
/-- .. the inner -/
theorem lc2_in {J : It} {g : TG} {tt : TT} {te : TE} {vs : List Nat} {σ : L2.St} {H1 : Hp} {D : Addr} {Qd : Hp → Prop} (n : Nat) (Pv : Nat → Hp → Prop) (h0 : Pv 0 H1)
    (hs : ∀ i H, i < n → Pv i H → J.go i H ∧ ∀ x H', J.yld i H x H' → g x (wipe σ vs) H' fun σ2 H2 => wipe σ2 vs = wipe σ vs ∧ tt σ2 H2 fun b H3 =>
      if b = true then te σ2 H3 fun y H4 => ∃ acc, H4 D = some (.lst acc) ∧ acc.length < sizeLine ∧ Pv (i + 1) (upd H4 D (.lst (acc ++ [y]))) else Pv (i + 1) H3) (hd : ∀ H, Pv n H → J.stop n H ∧ Qd H) :
    ∃ W : Nat → Nat → Hp → Prop, (∃ m, W 0 m H1) ∧ ∀ i m H, W i m H →
      (J.stop i H ∧ Qd H) ∨ (J.go i H ∧ ∃ Nx : Hp → Prop, (∀ H', Nx H' → ∃ m', m' < m ∧ W (i + 1) m' H') ∧ ∀ x H', J.yld i H x H' → g x (wipe σ vs) H' fun σ2 H2 => wipe σ2 vs = wipe σ vs ∧ tt σ2 H2 fun b H3 =>
        if b = true then te σ2 H3 fun y H4 => ∃ acc, H4 D = some (.lst acc) ∧ acc.length < sizeLine ∧ Nx (upd H4 D (.lst (acc ++ [y]))) else Nx H3) := by
  refine ⟨fun i m H => m = n - i ∧ i ≤ n ∧ Pv i H, ⟨n, by simp, Nat.zero_le _, h0⟩, ?_⟩
  rintro i m H ⟨rfl, hi, p⟩
  by_cases hlt : i < n
  · obtain ⟨a, b⟩ := hs i H hlt p
    exact .inr ⟨a, Pv (i + 1), fun H' p' => ⟨n - (i + 1), by omega, rfl, hlt, p'⟩, b⟩
  · have e : i = n := by omega
    subst e
    exact .inl (hd H p)
end LK

end

section
set_option Elab.async false
set_option linter.all false
set_option maxRecDepth 100000
set_option maxHeartbeats 2000000
/-! The plain data: modules, results, actions, rules, entries; runs, rows, changes. No program in sight. -/
namespace LD
open PySem PyProof.Rows L2

inductive Mdl where | card | key | pin
  deriving DecidableEq
inductive Res where | yes | no | skip | gone
  deriving DecidableEq
inductive Axn where | ok | bad | die | done | ign | reset | j1 | j2 | j9
  deriving DecidableEq
def Mdl.s : Mdl → Str
  | .card => "card" | .key => "key" | .pin => "pin"
def Res.s : Res → Str
  | .yes => "yes" | .no => "no" | .skip => "skip" | .gone => "gone"
def Axn.v : Axn → V
  | .ok => .str "ok" | .bad => .str "bad" | .die => .str "die" | .done => .str "done" | .ign => .str "ignore" | .reset => .str "reset" | .j1 => .int 1 | .j2 => .int 2 | .j9 => .int 9
def Axn.jmp : Axn → Nat
  | .j1 => 1 | .j2 => 2 | .j9 => 9 | _ => 0
def allRes : List Res := [.yes, .no, .skip, .gone]
def allMdl : List Mdl := [.card, .key, .pin]
theorem mdl_inj : ∀ {a b : Mdl}, a.s = b.s → a = b := by
  intro a b
  cases a <;> cases b <;> decide +kernel
theorem res_inj : ∀ {a b : Res}, a.s = b.s → a = b := by
  intro a b
  cases a <;> cases b <;> decide +kernel
theorem mem_allMdl (m : Mdl) : m ∈ allMdl := by cases m <;> decide

structure Rul where
  m : Mdl
  a : Res → Axn
def Rul.vs (r : Rul) : List V := allRes.map fun x => (r.a x).v
inductive Ent where
  | rule (r : Rul)
  | inner (rs : List Rul)
def Ent.rules : Ent → List Rul
  | .rule r => [r]
  | .inner rs => rs
def flat (es : List Ent) : List Rul := es.flatMap Ent.rules
theorem flat_nil : flat [] = [] := rfl
theorem flat_cons (e : Ent) (es : List Ent) : flat (e :: es) = e.rules ++ flat es := by unfold flat; rw [List.flatMap_cons]
theorem flat_append (a b : List Ent) : flat (a ++ b) = flat a ++ flat b := by unfold flat; rw [List.flatMap_append]
theorem flat_rules (rs : List Rul) : flat (rs.map .rule) = rs := by
  induction rs with
  | nil => rfl
  | cons r rs ih => rw [List.map_cons, flat_cons, ih] <;> rfl
/-- how deep entries may lie: at 1 rules alone -/
def Dep : Nat → List Ent → Prop
  | 0, _ => False
  | 1, es => ∀ e ∈ es, ∃ r, e = .rule r
  | _ + 2, _ => True
theorem dep_rules (d : Nat) (rs : List Rul) : Dep (d + 1) (rs.map .rule) := by
  cases d with
  | zero =>
    intro e he
    obtain ⟨r, _, rfl⟩ := List.mem_map.mp he
    exact ⟨r, rfl⟩
  | succ d => trivial
theorem dep_inner {d : Nat} {es : List Ent} (h : Dep (d + 1) es) {rs : List Rul} (he : Ent.inner rs ∈ es) : Dep d (rs.map .rule) := by
  cases d with
  | zero => obtain ⟨r, e⟩ := h _ he; cases e
  | succ d => exact dep_rules d rs

/-! ### runs -/
inductive Mrk where | none | good | bad
  deriving DecidableEq
def acted (a : Axn) (m beg : Mrk) : Mrk := match a with
  | .ok | .done => if m = .none then .good else m
  | .bad | .die => .bad
  | .reset => beg
  | _ => m
def stops (a : Axn) (m : Mrk) : Bool := decide (a = .die) || (decide (a = .done) && decide (m = .good))
def ranR (ans : Mdl → Res) (beg : Mrk) : List Rul → Mrk → Nat → Mrk
  | [], m, _ => m
  | _ :: rs, m, k + 1 => ranR ans beg rs m k
  | r :: rs, m, 0 => if stops (r.a (ans r.m)) (acted (r.a (ans r.m)) m beg) then acted (r.a (ans r.m)) m beg else ranR ans beg rs (acted (r.a (ans r.m)) m beg) (r.a (ans r.m)).jmp
def ranE (ans : Mdl → Res) (beg : Mrk) : List Ent → Mrk → Nat → Mrk
  | [], m, _ => m
  | _ :: es, m, k + 1 => ranE ans beg es m k
  | .inner rs :: es, m, 0 => ranE ans beg es (ranR ans m rs m 0) 0
  | .rule r :: es, m, 0 => if stops (r.a (ans r.m)) (acted (r.a (ans r.m)) m beg) then acted (r.a (ans r.m)) m beg else ranE ans beg es (acted (r.a (ans r.m)) m beg) (r.a (ans r.m)).jmp
theorem ran_rules (ans : Mdl → Res) (beg : Mrk) : ∀ (rs : List Rul) (m : Mrk) (k : Nat), ranE ans beg (rs.map .rule) m k = ranR ans beg rs m k := by
  intro rs
  induction rs with
  | nil => intro m k; rfl
  | cons r rs ih =>
    intro m k
    cases k with
    | zero =>
      show (if _ then _ else ranE ans beg (rs.map .rule) _ _) = (if _ then _ else ranR ans beg rs _ _)
      rw [ih]
    | succ k => exact ih m k
theorem ran_drop (ans : Mdl → Res) (beg : Mrk) : ∀ (es : List Ent) (m : Mrk) (k : Nat), ranE ans beg es m k = ranE ans beg (es.drop k) m 0 := by
  intro es
  induction es with
  | nil => intro m k; rw [List.drop_nil] <;> rfl
  | cons e es ih =>
    intro m k
    cases k with
    | zero => rfl
    | succ k =>
      show ranE ans beg es m k = _
      rw [ih]
      rfl
/-- whether the run ends good -/
def out (es : List Ent) (ans : Mdl → Res) : Bool := decide (ranE ans .none es .none 0 = .good)
def inS (b : Bool) : Str := if b then "in" else "out"
theorem inS_inj {a b : Bool} : inS a = inS b ↔ a = b := by cases a <;> cases b <;> decide +kernel

/-! ### modules -/
def modsR (rs : List Rul) : List Mdl := allMdl.filter fun m => rs.any fun r => decide (r.m = m)
def mods (es : List Ent) : List Mdl := modsR (flat es)
def modsU (a b : List Ent) : List Mdl := allMdl.filter fun m => decide (m ∈ mods a) || decide (m ∈ mods b)
theorem mem_modsR {rs : List Rul} {m : Mdl} : m ∈ modsR rs ↔ ∃ r ∈ rs, r.m = m := by
  unfold modsR
  rw [List.mem_filter]
  constructor
  · rintro ⟨_, h⟩
    obtain ⟨r, hr, e⟩ := List.any_eq_true.mp h
    exact ⟨r, hr, of_decide_eq_true e⟩
  · rintro ⟨r, hr, e⟩
    exact ⟨mem_allMdl m, List.any_eq_true.mpr ⟨r, hr, decide_eq_true e⟩⟩
theorem mem_modsU {a b : List Ent} {m : Mdl} : m ∈ modsU a b ↔ m ∈ mods a ∨ m ∈ mods b := by
  unfold modsU
  rw [List.mem_filter]
  constructor
  · rintro ⟨_, h⟩
    rcases Bool.or_eq_true_iff.mp h with h | h
    · exact .inl (of_decide_eq_true h)
    · exact .inr (of_decide_eq_true h)
  · intro h
    refine ⟨mem_allMdl m, Bool.or_eq_true_iff.mpr (h.imp decide_eq_true decide_eq_true)⟩
theorem nodup_allMdl : allMdl.Nodup := by decide
theorem modsR_nodup (rs : List Rul) : (modsR rs).Nodup := nodup_allMdl.filter _
theorem modsU_nodup (a b : List Ent) : (modsU a b).Nodup := nodup_allMdl.filter _
theorem modsR_le (rs : List Rul) : (modsR rs).length ≤ 3 := List.length_filter_le _ _
theorem modsU_le (a b : List Ent) : (modsU a b).length ≤ 3 := List.length_filter_le _ _
/-- sorted without twins: the order of allMdl -/
theorem sorted_is : ∀ ms : List Mdl, ms.Nodup → sortedS (ms.map Mdl.s) = true → ms = allMdl.filter fun m => decide (m ∈ ms)
  | [], _, _ => by decide
  | [a], _, _ => by cases a <;> decide
  | [a, b], h, s => by
    revert h s
    cases a <;> cases b <;> decide +kernel
  | [a, b, c], h, s => by
    revert h s
    cases a <;> cases b <;> cases c <;> decide +kernel
  | a :: b :: c :: d :: r, h, s => by
    exfalso
    have h4 : [a, b, c, d].Nodup := by
      refine List.Nodup.sublist ?_ h
      exact List.Sublist.cons_cons _ (List.Sublist.cons_cons _ (List.Sublist.cons_cons _ (List.Sublist.cons_cons _ (List.nil_sublist r))))
    revert h4
    cases a <;> cases b <;> cases c <;> cases d <;> decide
theorem strs_mdl : ∀ (ns : List Str), (∀ k ∈ ns, ∃ m : Mdl, k = m.s) → ∃ ms : List Mdl, ns = ms.map Mdl.s
  | [], _ => ⟨[], rfl⟩
  | k :: ns, h => by
    obtain ⟨m, e⟩ := h k List.mem_cons_self
    obtain ⟨ms, e2⟩ := strs_mdl ns fun k hk => h k (List.mem_cons_of_mem _ hk)
    exact ⟨m :: ms, by rw [List.map_cons, ← e, ← e2]⟩
theorem nodup_unmap {ms : List Mdl} (h : (ms.map Mdl.s).Nodup) : ms.Nodup := List.Pairwise.of_map Mdl.s (fun _ _ hne e => hne (congrArg Mdl.s e)) h
/-- what a sorted set of modules' texts is -/
theorem sorted_mods {ns : List Str} {ks : List Str} {l : List Mdl} (hs : sortedS ns = true) (hd : ns.Nodup) (hm : ∀ k : Str, k ∈ ns ↔ decide (k ∈ ks) = true) (hk : ∀ k, k ∈ ks ↔ ∃ m : Mdl, m ∈ l ∧ k = m.s) :
    ns = (allMdl.filter fun m => decide (m ∈ l)).map Mdl.s := by
  have hm' : ∀ k : Str, k ∈ ns ↔ ∃ m : Mdl, m ∈ l ∧ k = m.s := fun k => (hm k).trans (by rw [decide_eq_true_eq]; exact hk k)
  obtain ⟨ms, e⟩ := strs_mdl ns fun k hk => by
    obtain ⟨m, _, e⟩ := (hm' k).1 hk
    exact ⟨m, e⟩
  subst e
  have h1 := sorted_is ms (nodup_unmap hd) hs
  have h2 : ∀ m : Mdl, m ∈ ms ↔ m ∈ l := fun m => by
    constructor
    · intro h
      obtain ⟨m', h', e⟩ := (hm' m.s).1 (List.mem_map.mpr ⟨m, h, rfl⟩)
      rw [mdl_inj e]; exact h'
    · intro h
      obtain ⟨m', h', e⟩ := List.mem_map.mp ((hm' m.s).2 ⟨m, h, rfl⟩)
      rw [← mdl_inj e]; exact h'
  rw [h1]
  refine congrArg (List.map Mdl.s) (List.filter_congr fun m _ => ?_)
  simp only [← h1, h2]

/-! ### rows of answers -/
abbrev ARow := List (Mdl × Res)
def grow (rows : List ARow) (m : Mdl) : List ARow := rows.flatMap fun r => allRes.map fun x => r ++ [(m, x)]
def rowsFrom (rows : List ARow) (ms : List Mdl) : List ARow := ms.foldl grow rows
def rowsOf (ms : List Mdl) : List ARow := rowsFrom [[]] ms
def look (r : ARow) (m : Mdl) : Res := ((r.find? fun p => decide (p.1 = m)).map (·.2)).getD .yes
def diff (a b : List Ent) : Nat := ((rowsOf (modsU a b)).filter fun r => decide (out a (look r) ≠ out b (look r))).length
/-- what all rows say, or open -/
def outs (es : List Ent) : List Bool := (rowsOf (mods es)).map fun r => out es (look r)
def whereS (es : List Ent) : Str := if (outs es).all id then "in" else if (outs es).all (!·) then "out" else "open"
theorem grow_keys {rows : List ARow} {ks : List Mdl} (h : ∀ r ∈ rows, r.map (·.1) = ks) (m : Mdl) : ∀ r ∈ grow rows m, r.map (·.1) = ks ++ [m] := by
  intro r hr
  unfold grow at hr
  obtain ⟨r0, h0, h1⟩ := List.mem_flatMap.mp hr
  obtain ⟨x, _, rfl⟩ := List.mem_map.mp h1
  rw [List.map_append, h r0 h0] <;> rfl
theorem rows_keys : ∀ (ms : List Mdl) (rows : List ARow) (ks : List Mdl), (∀ r ∈ rows, r.map (·.1) = ks) → ∀ r ∈ rowsFrom rows ms, r.map (·.1) = ks ++ ms := by
  intro ms
  induction ms with
  | nil => intro rows ks h r hr; rw [List.append_nil]; exact h r hr
  | cons m ms ih =>
    intro rows ks h r hr
    have z := ih (grow rows m) (ks ++ [m]) (grow_keys h m) r hr
    rw [z, List.append_assoc] <;> rfl
theorem keys_rowsOf (ms : List Mdl) : ∀ r ∈ rowsOf ms, r.map (·.1) = ms := by
  have z := rows_keys ms [[]] [] (by simp)
  exact z
theorem grow_length (rows : List ARow) (m : Mdl) : (grow rows m).length = rows.length * 4 := by
  unfold grow
  induction rows with
  | nil => rfl
  | cons r rows ih => rw [List.flatMap_cons, List.length_append, ih, List.length_map, List.length_cons]; show 4 + _ = _; omega
theorem rowsFrom_length : ∀ (ms : List Mdl) (rows : List ARow), (rowsFrom rows ms).length = rows.length * 4 ^ ms.length := by
  intro ms
  induction ms with
  | nil => intro rows; rw [List.length_nil, Nat.pow_zero, Nat.mul_one] <;> rfl
  | cons m ms ih =>
    intro rows
    show (rowsFrom (grow rows m) ms).length = _
    rw [ih, grow_length, List.length_cons, Nat.pow_succ, Nat.mul_assoc, Nat.mul_comm 4]
theorem rowsOf_length (ms : List Mdl) : (rowsOf ms).length = 4 ^ ms.length := by
  unfold rowsOf
  rw [rowsFrom_length] <;> simp
theorem rowsOf_le {ms : List Mdl} (h : ms.length ≤ 3) : (rowsOf ms).length ≤ 64 := by
  rw [rowsOf_length]
  exact Nat.le_trans (Nat.pow_le_pow_right (by decide) h) (by decide)

/-! ### changes -/
def turnR (n : Nat) (a : Res → Axn) : Nat → List Rul → List Rul
  | _, [] => []
  | f, r :: rs => (if f = n then { r with a := a } else r) :: turnR n a (f + 1) rs
def turnE (n : Nat) (a : Res → Axn) : Nat → List Ent → List Ent
  | _, [] => []
  | f, .inner rs :: es => .inner (turnR n a f rs) :: turnE n a (f + rs.length) es
  | f, .rule r :: es => .rule (if f = n then { r with a := a } else r) :: turnE n a (f + 1) es
theorem turnR_length (n : Nat) (a : Res → Axn) : ∀ (rs : List Rul) (f : Nat), (turnR n a f rs).length = rs.length := by
  intro rs
  induction rs with
  | nil => intro f; rfl
  | cons r rs ih => intro f; show (turnR n a (f + 1) rs).length + 1 = _; rw [ih] <;> rfl
theorem turnE_length (n : Nat) (a : Res → Axn) : ∀ (es : List Ent) (f : Nat), (turnE n a f es).length = es.length := by
  intro es
  induction es with
  | nil => intro f; rfl
  | cons e es ih =>
    intro f
    cases e with
    | rule r => show (turnE n a _ es).length + 1 = _; rw [ih] <;> rfl
    | inner rs => show (turnE n a _ es).length + 1 = _; rw [ih] <;> rfl
theorem turnE_flat (n : Nat) (a : Res → Axn) : ∀ (es : List Ent) (f : Nat), (flat (turnE n a f es)).length = (flat es).length := by
  intro es
  induction es with
  | nil => intro f; rfl
  | cons e es ih =>
    intro f
    cases e with
    | rule r =>
      show (flat (_ :: turnE n a (f + 1) es)).length = _
      rw [flat_cons, flat_cons, List.length_append, List.length_append, ih] <;> rfl
    | inner rs =>
      show (flat (_ :: turnE n a (f + rs.length) es)).length = _
      rw [flat_cons, flat_cons, List.length_append, List.length_append, ih]
      show (turnR n a f rs).length + _ = rs.length + _
      rw [turnR_length]
theorem turnE_rules (n : Nat) (a : Res → Axn) : ∀ (rs : List Rul) (f : Nat), turnE n a f (rs.map .rule) = (turnR n a f rs).map .rule := by
  intro rs
  induction rs with
  | nil => intro f; rfl
  | cons r rs ih =>
    intro f
    show _ :: turnE n a (f + 1) (rs.map .rule) = _ :: (turnR n a (f + 1) rs).map .rule
    rw [ih]
theorem turnE_dep {d n : Nat} {a : Res → Axn} {es : List Ent} (h : Dep d es) (f : Nat) : Dep d (turnE n a f es) := by
  cases d with
  | zero => exact h
  | succ d =>
    cases d with
    | zero =>
      have q : ∀ (es : List Ent) (f : Nat), (∀ e ∈ es, ∃ r, e = Ent.rule r) → ∀ e ∈ turnE n a f es, ∃ r, e = Ent.rule r := by
        intro es
        induction es with
        | nil => intro f _ e he; exact absurd he (by simp [turnE])
        | cons e0 es ih =>
          intro f h e he
          obtain ⟨r, rfl⟩ := h e0 List.mem_cons_self
          have he' : e ∈ (.rule (if f = n then { r with a := a } else r) :: turnE n a (f + 1) es) := he
          rcases List.mem_cons.mp he' with z | z
          · exact ⟨_, z⟩
          · exact ih (f + 1) (fun e h' => h e (List.mem_cons_of_mem _ h')) e z
      exact q es f h
    | succ d => trivial
end LD

end

section
set_option Elab.async false
set_option linter.all false
set_option maxRecDepth 100000
set_option maxHeartbeats 2000000
/-! The text by places: each def, its names by slot. Printed by gen_top.py. -/
namespace LT
open PySem PySem.Spec PyProof.Rows L2
def top (i : Nat) : Stmt := PySem.Challenge.pw_loginstacks_k71_whole_registers_beside_c.main.body.getD i (.Pass ⟨0, 0, 0, 0⟩)
abbrev s_is_number : Stmt := top 28
theorem sc_is_number : FnScope ["thing", "low", "high"] ["thing", "low", "high"] (defScope s_is_number) := ⟨rfl, rfl, rfl, by decide +kernel, rfl, by decide +kernel, by decide +kernel⟩
abbrev s_is_word : Stmt := top 29
theorem sc_is_word : FnScope ["thing", "letter"] ["thing"] (defScope s_is_word) := ⟨rfl, rfl, rfl, by decide +kernel, rfl, by decide +kernel, by decide +kernel⟩
abbrev s_is_action : Stmt := top 30
theorem sc_is_action : FnScope ["thing"] ["thing"] (defScope s_is_action) := ⟨rfl, rfl, rfl, by decide +kernel, rfl, by decide +kernel, by decide +kernel⟩
abbrev s_table_of : Stmt := top 31
theorem sc_table_of : FnScope ["control", "one"] ["control"] (defScope s_table_of) := ⟨rfl, rfl, rfl, by decide +kernel, rfl, by decide +kernel, by decide +kernel⟩
abbrev s_Rule_init : Stmt := inClass (top 32) 0
theorem sc_Rule_init : FnScope ["self", "module", "control"] ["self", "module", "control"] (defScope s_Rule_init) := ⟨rfl, rfl, rfl, by decide +kernel, rfl, by decide +kernel, by decide +kernel⟩
abbrev s_Rule_module : Stmt := inClass (top 32) 1
theorem sc_Rule_module : FnScope ["self"] ["self"] (defScope s_Rule_module) := ⟨rfl, rfl, rfl, by decide +kernel, rfl, by decide +kernel, by decide +kernel⟩
abbrev s_Rule_control : Stmt := inClass (top 32) 2
theorem sc_Rule_control : FnScope ["self"] ["self"] (defScope s_Rule_control) := ⟨rfl, rfl, rfl, by decide +kernel, rfl, by decide +kernel, by decide +kernel⟩
abbrev s_Rule_eq : Stmt := inClass (top 32) 4
theorem sc_Rule_eq : FnScope ["self", "other"] ["self", "other"] (defScope s_Rule_eq) := ⟨rfl, rfl, rfl, by decide +kernel, rfl, by decide +kernel, by decide +kernel⟩
abbrev s_Rule_action_for : Stmt := inClass (top 32) 5
theorem sc_Rule_action_for : FnScope ["self", "result"] ["self", "result"] (defScope s_Rule_action_for) := ⟨rfl, rfl, rfl, by decide +kernel, rfl, by decide +kernel, by decide +kernel⟩
abbrev s_Stack_init : Stmt := inClass (top 38) 0
theorem sc_Stack_init : FnScope ["self", "entries", "index", "entry", "is_stack", "rule"] ["self", "entries"] (defScope s_Stack_init) := ⟨rfl, rfl, rfl, by decide +kernel, rfl, by decide +kernel, by decide +kernel⟩
abbrev s_Stack_entries : Stmt := inClass (top 38) 1
theorem sc_Stack_entries : FnScope ["self"] ["self"] (defScope s_Stack_entries) := ⟨rfl, rfl, rfl, by decide +kernel, rfl, by decide +kernel, by decide +kernel⟩
abbrev s_Stack_rules : Stmt := inClass (top 38) 2
theorem sc_Stack_rules : FnScope ["self"] ["self"] (defScope s_Stack_rules) := ⟨rfl, rfl, rfl, by decide +kernel, rfl, by decide +kernel, by decide +kernel⟩
abbrev s_Stack_modules : Stmt := inClass (top 38) 3
theorem sc_Stack_modules : FnScope ["self"] ["self"] (defScope s_Stack_modules) := ⟨rfl, rfl, rfl, by decide +kernel, rfl, by decide +kernel, by decide +kernel⟩
abbrev s_Stack_len : Stmt := inClass (top 38) 4
theorem sc_Stack_len : FnScope ["self"] ["self"] (defScope s_Stack_len) := ⟨rfl, rfl, rfl, by decide +kernel, rfl, by decide +kernel, by decide +kernel⟩
abbrev s_Stack_getitem : Stmt := inClass (top 38) 5
theorem sc_Stack_getitem : FnScope ["self", "index"] ["self", "index"] (defScope s_Stack_getitem) := ⟨rfl, rfl, rfl, by decide +kernel, rfl, by decide +kernel, by decide +kernel⟩
abbrev s_Stack_add : Stmt := inClass (top 38) 7
theorem sc_Stack_add : FnScope ["self", "other", "parts"] ["self", "other"] (defScope s_Stack_add) := ⟨rfl, rfl, rfl, by decide +kernel, rfl, by decide +kernel, by decide +kernel⟩
abbrev s_Stack_eq : Stmt := inClass (top 38) 8
theorem sc_Stack_eq : FnScope ["self", "other"] ["self", "other"] (defScope s_Stack_eq) := ⟨rfl, rfl, rfl, by decide +kernel, rfl, by decide +kernel, by decide +kernel⟩
abbrev s_Stack_spliced : Stmt := inClass (top 38) 10
theorem sc_Stack_spliced : FnScope ["self", "index", "count", "entries", "parts"] ["self", "index", "count", "entries"] (defScope s_Stack_spliced) := ⟨rfl, rfl, rfl, by decide +kernel, rfl, by decide +kernel, by decide +kernel⟩
abbrev s_steps_of : Stmt := top 39
theorem sc_steps_of : FnScope ["entry"] ["entry"] (defScope s_steps_of) := ⟨rfl, rfl, rfl, by decide +kernel, rfl, by decide +kernel, by decide +kernel⟩
abbrev s_firsts_of : Stmt := top 40
theorem sc_firsts_of : FnScope ["stack", "first", "found", "entry"] ["stack", "first"] (defScope s_firsts_of) := ⟨rfl, rfl, rfl, by decide +kernel, rfl, by decide +kernel, by decide +kernel⟩
abbrev s_Run_init : Stmt := inClass (top 46) 0
theorem sc_Run_init : FnScope ["self", "stack", "results"] ["self", "stack", "results"] (defScope s_Run_init) := ⟨rfl, rfl, rfl, by decide +kernel, rfl, by decide +kernel, by decide +kernel⟩
abbrev s_Run_ended : Stmt := inClass (top 46) 1
theorem sc_Run_ended : FnScope ["self", "stack", "first", "mark", "begin", "index", "firsts", "entry", "number", "action"] ["self", "stack", "first", "mark"] (defScope s_Run_ended) := ⟨rfl, rfl, rfl, by decide +kernel, rfl, by decide +kernel, by decide +kernel⟩
abbrev s_Run_outcome : Stmt := inClass (top 46) 2
theorem sc_Run_outcome : FnScope ["self"] ["self"] (defScope s_Run_outcome) := ⟨rfl, rfl, rfl, by decide +kernel, rfl, by decide +kernel, by decide +kernel⟩
abbrev s_marked : Stmt := top 47
theorem sc_marked : FnScope ["action", "mark", "begin", "number"] ["action", "mark", "begin", "number"] (defScope s_marked) := ⟨rfl, rfl, rfl, by decide +kernel, rfl, by decide +kernel, by decide +kernel⟩
abbrev s_need_answers : Stmt := top 48
theorem sc_need_answers : FnScope ["modules", "answers", "is_whole", "name"] ["modules", "answers", "is_whole"] (defScope s_need_answers) := ⟨rfl, rfl, rfl, by decide +kernel, rfl, by decide +kernel, by decide +kernel⟩
abbrev s_all_answers : Stmt := top 50
theorem sc_all_answers : FnScope ["modules", "found", "name", "answers", "result"] ["modules"] (defScope s_all_answers) := ⟨rfl, rfl, rfl, by decide +kernel, rfl, by decide +kernel, by decide +kernel⟩
abbrev s_outcomes : Stmt := top 51
theorem sc_outcomes : FnScope ["stack", "answers"] ["stack"] (defScope s_outcomes) := ⟨rfl, rfl, rfl, by decide +kernel, rfl, by decide +kernel, by decide +kernel⟩
abbrev s_agrees : Stmt := top 52
theorem sc_agrees : FnScope ["answers", "known", "name", "result"] ["answers", "known"] (defScope s_agrees) := ⟨rfl, rfl, rfl, by decide +kernel, rfl, by decide +kernel, by decide +kernel⟩
abbrev s_both_outcomes : Stmt := top 54
theorem sc_both_outcomes : FnScope ["one", "other", "names", "answers"] ["one", "other"] (defScope s_both_outcomes) := ⟨rfl, rfl, rfl, by decide +kernel, rfl, by decide +kernel, by decide +kernel⟩
abbrev s_first_difference : Stmt := top 55
theorem sc_first_difference : FnScope ["one", "other", "answers", "here", "there"] ["one", "other"] (defScope s_first_difference) := ⟨rfl, rfl, rfl, by decide +kernel, rfl, by decide +kernel, by decide +kernel⟩
abbrev s_alike : Stmt := top 56
theorem sc_alike : FnScope ["one", "other"] ["one", "other"] (defScope s_alike) := ⟨rfl, rfl, rfl, by decide +kernel, rfl, by decide +kernel, by decide +kernel⟩
abbrev s_need_word : Stmt := top 58
theorem sc_need_word : FnScope ["word"] ["word"] (defScope s_need_word) := ⟨rfl, rfl, rfl, by decide +kernel, rfl, by decide +kernel, by decide +kernel⟩
abbrev s_where_all : Stmt := top 61
theorem sc_where_all : FnScope ["rows", "known", "found", "answers", "where"] ["rows", "known"] (defScope s_where_all) := ⟨rfl, rfl, rfl, by decide +kernel, rfl, by decide +kernel, by decide +kernel⟩
abbrev s_settled : Stmt := top 62
theorem sc_settled : FnScope ["stack", "known"] ["stack", "known"] (defScope s_settled) := ⟨rfl, rfl, rfl, by decide +kernel, rfl, by decide +kernel, by decide +kernel⟩
abbrev s_with_control : Stmt := top 64
theorem sc_with_control : FnScope ["stack", "first", "number", "control", "parts", "entry", "begin"] ["stack", "first", "number", "control"] (defScope s_with_control) := ⟨rfl, rfl, rfl, by decide +kernel, rfl, by decide +kernel, by decide +kernel⟩
abbrev s_State_init : Stmt := inClass (top 65) 1
theorem sc_State_init : FnScope ["self", "kept", "past", "undone"] ["self", "kept", "past", "undone"] (defScope s_State_init) := ⟨rfl, rfl, rfl, by decide +kernel, rfl, by decide +kernel, by decide +kernel⟩
abbrev s_State_kept : Stmt := inClass (top 65) 2
theorem sc_State_kept : FnScope ["self"] ["self"] (defScope s_State_kept) := ⟨rfl, rfl, rfl, by decide +kernel, rfl, by decide +kernel, by decide +kernel⟩
abbrev s_State_go_on : Stmt := inClass (top 65) 4
theorem sc_State_go_on : FnScope ["self", "operation", "kept"] ["self", "operation", "kept"] (defScope s_State_go_on) := ⟨rfl, rfl, rfl, by decide +kernel, rfl, by decide +kernel, by decide +kernel⟩
abbrev s_State_go_back : Stmt := inClass (top 65) 5
theorem sc_State_go_back : FnScope ["self", "operation", "kept"] ["self"] (defScope s_State_go_back) := ⟨rfl, rfl, rfl, by decide +kernel, rfl, by decide +kernel, by decide +kernel⟩
abbrev s_State_go_again : Stmt := inClass (top 65) 6
theorem sc_State_go_again : FnScope ["self", "operation", "kept"] ["self"] (defScope s_State_go_again) := ⟨rfl, rfl, rfl, by decide +kernel, rfl, by decide +kernel, by decide +kernel⟩
abbrev s_Register_init : Stmt := inClass (top 66) 0
theorem sc_Register_init : FnScope ["self", "stack"] ["self", "stack"] (defScope s_Register_init) := ⟨rfl, rfl, rfl, by decide +kernel, rfl, by decide +kernel, by decide +kernel⟩
abbrev s_Register_stack : Stmt := inClass (top 66) 5
theorem sc_Register_stack : FnScope ["self"] ["self"] (defScope s_Register_stack) := ⟨rfl, rfl, rfl, by decide +kernel, rfl, by decide +kernel, by decide +kernel⟩
abbrev s_Register_enter : Stmt := inClass (top 66) 6
theorem sc_Register_enter : FnScope ["self", "operation", "present", "vows", "noted", "rows", "index", "known", "word", "here", "name", "result"] ["self", "operation", "present", "vows", "noted"] (defScope s_Register_enter) := ⟨rfl, rfl, rfl, by decide +kernel, rfl, by decide +kernel, by decide +kernel⟩
abbrev s_Register_edit : Stmt := inClass (top 66) 7
theorem sc_Register_edit : FnScope ["self", "operation", "later", "rows", "answers", "here", "there"] ["self", "operation", "later"] (defScope s_Register_edit) := ⟨rfl, rfl, rfl, by decide +kernel, rfl, by decide +kernel, by decide +kernel⟩
abbrev s_Register_need_entries : Stmt := inClass (top 66) 8
theorem sc_Register_need_entries : FnScope ["self", "index", "count"] ["self", "index", "count"] (defScope s_Register_need_entries) := ⟨rfl, rfl, rfl, by decide +kernel, rfl, by decide +kernel, by decide +kernel⟩
abbrev s_Register_put : Stmt := inClass (top 66) 9
theorem sc_Register_put : FnScope ["self", "index", "entry"] ["self", "index", "entry"] (defScope s_Register_put) := ⟨rfl, rfl, rfl, by decide +kernel, rfl, by decide +kernel, by decide +kernel⟩
abbrev s_Register_take : Stmt := inClass (top 66) 10
theorem sc_Register_take : FnScope ["self", "index"] ["self", "index"] (defScope s_Register_take) := ⟨rfl, rfl, rfl, by decide +kernel, rfl, by decide +kernel, by decide +kernel⟩
abbrev s_Register_swap : Stmt := inClass (top 66) 11
theorem sc_Register_swap : FnScope ["self", "index", "present"] ["self", "index"] (defScope s_Register_swap) := ⟨rfl, rfl, rfl, by decide +kernel, rfl, by decide +kernel, by decide +kernel⟩
abbrev s_Register_turn : Stmt := inClass (top 66) 12
theorem sc_Register_turn : FnScope ["self", "number", "control", "present"] ["self", "number", "control"] (defScope s_Register_turn) := ⟨rfl, rfl, rfl, by decide +kernel, rfl, by decide +kernel, by decide +kernel⟩
abbrev s_Register_promise : Stmt := inClass (top 66) 13
theorem sc_Register_promise : FnScope ["self", "known", "word", "present", "vows"] ["self", "known", "word"] (defScope s_Register_promise) := ⟨rfl, rfl, rfl, by decide +kernel, rfl, by decide +kernel, by decide +kernel⟩
abbrev s_Register_undo : Stmt := inClass (top 66) 16
theorem sc_Register_undo : FnScope ["self"] ["self"] (defScope s_Register_undo) := ⟨rfl, rfl, rfl, by decide +kernel, rfl, by decide +kernel, by decide +kernel⟩
abbrev s_Register_redo : Stmt := inClass (top 66) 17
theorem sc_Register_redo : FnScope ["self"] ["self"] (defScope s_Register_redo) := ⟨rfl, rfl, rfl, by decide +kernel, rfl, by decide +kernel, by decide +kernel⟩
abbrev s_law_taken : Stmt := top 68
theorem sc_law_taken : FnScope ["_law_row", "_law_many", "_law_found", "_law_cell"] ["_law_row", "_law_many"] (defScope s_law_taken) := ⟨rfl, rfl, rfl, by decide +kernel, rfl, by decide +kernel, by decide +kernel⟩
abbrev s_law_pick : Stmt := top 69
theorem sc_law_pick : FnScope ["_law_row", "_law_some"] ["_law_row", "_law_some"] (defScope s_law_pick) := ⟨rfl, rfl, rfl, by decide +kernel, rfl, by decide +kernel, by decide +kernel⟩
abbrev s_law_table : Stmt := top 70
theorem sc_law_table : FnScope ["_law_row", "_law_plain_here", "_law_words", "_law_acts", "_law_k"] ["_law_row", "_law_plain_here"] (defScope s_law_table) := ⟨rfl, rfl, rfl, by decide +kernel, rfl, by decide +kernel, by decide +kernel⟩
abbrev s_law_plain : Stmt := top 71
theorem sc_law_plain : FnScope ["_law_row", "_law_names", "_law_most", "_law_deep", "_law_plain_here", "_law_found", "_law_left", "_law_k", "_law_inner"] ["_law_row", "_law_names", "_law_most", "_law_deep", "_law_plain_here"] (defScope s_law_plain) := ⟨rfl, rfl, rfl, by decide +kernel, rfl, by decide +kernel, by decide +kernel⟩
abbrev s_law_rules : Stmt := top 72
theorem sc_law_rules : FnScope ["_law_plain_here", "_law_found", "_law_entry"] ["_law_plain_here"] (defScope s_law_rules) := ⟨rfl, rfl, rfl, by decide +kernel, rfl, by decide +kernel, by decide +kernel⟩
abbrev s_law_modules : Stmt := top 73
theorem sc_law_modules : FnScope ["_law_plain_here", "_law_rule"] ["_law_plain_here"] (defScope s_law_modules) := ⟨rfl, rfl, rfl, by decide +kernel, rfl, by decide +kernel, by decide +kernel⟩
abbrev s_law_made : Stmt := top 74
theorem sc_law_made : FnScope ["_law_plain_here", "_law_found", "_law_entry"] ["_law_plain_here"] (defScope s_law_made) := ⟨rfl, rfl, rfl, by decide +kernel, rfl, by decide +kernel, by decide +kernel⟩
abbrev s_law_all : Stmt := top 75
theorem sc_law_all : FnScope ["_law_names", "_law_found", "_law_name", "_law_longer", "_law_some", "_law_result"] ["_law_names"] (defScope s_law_all) := ⟨rfl, rfl, rfl, by decide +kernel, rfl, by decide +kernel, by decide +kernel⟩
abbrev s_law_acted : Stmt := top 76
theorem sc_law_acted : FnScope ["_law_action", "_law_mark", "_law_begin", "_law_number"] ["_law_action", "_law_mark", "_law_begin", "_law_number"] (defScope s_law_acted) := ⟨rfl, rfl, rfl, by decide +kernel, rfl, by decide +kernel, by decide +kernel⟩
abbrev s_law_ran : Stmt := top 77
theorem sc_law_ran : FnScope ["_law_plain_here", "_law_answers", "_law_first", "_law_begin", "_law_mark", "_law_asked_ones", "_law_left", "_law_number", "_law_entry", "_law_many", "_law_more", "_law_action"] ["_law_plain_here", "_law_answers", "_law_first", "_law_begin"] (defScope s_law_ran) := ⟨rfl, rfl, rfl, by decide +kernel, rfl, by decide +kernel, by decide +kernel⟩
abbrev s_law_run : Stmt := top 78
theorem sc_law_run : FnScope ["_law_plain_here", "_law_answers", "_law_mark", "_law_asked_ones"] ["_law_plain_here", "_law_answers"] (defScope s_law_run) := ⟨rfl, rfl, rfl, by decide +kernel, rfl, by decide +kernel, by decide +kernel⟩
abbrev s_law_where : Stmt := top 79
theorem sc_law_where : FnScope ["_law_plain_here", "_law_answers"] ["_law_plain_here", "_law_answers"] (defScope s_law_where) := ⟨rfl, rfl, rfl, by decide +kernel, rfl, by decide +kernel, by decide +kernel⟩
abbrev s_law_turned : Stmt := top 80
theorem sc_law_turned : FnScope ["_law_plain_here", "_law_number", "_law_acts", "_law_first", "_law_found", "_law_here", "_law_entry"] ["_law_plain_here", "_law_number", "_law_acts", "_law_first"] (defScope s_law_turned) := ⟨rfl, rfl, rfl, by decide +kernel, rfl, by decide +kernel, by decide +kernel⟩
abbrev s_law_changed : Stmt := top 81
theorem sc_law_changed : FnScope ["_law_row", "_law_plain_here", "_law_way", "_law_many", "_law_count", "_law_index", "_law_entry", "_law_number", "_law_acts"] ["_law_row", "_law_plain_here"] (defScope s_law_changed) := ⟨rfl, rfl, rfl, by decide +kernel, rfl, by decide +kernel, by decide +kernel⟩
abbrev s_law_done : Stmt := top 82
theorem sc_law_done : FnScope ["_law_desk", "_law_word", "_law_parts"] ["_law_desk", "_law_word", "_law_parts"] (defScope s_law_done) := ⟨rfl, rfl, rfl, by decide +kernel, rfl, by decide +kernel, by decide +kernel⟩
abbrev s_law_unlike : Stmt := top 83
theorem sc_law_unlike : FnScope ["_law_one", "_law_other", "_law_names", "_law_rows", "_law_answers"] ["_law_one", "_law_other"] (defScope s_law_unlike) := ⟨rfl, rfl, rfl, by decide +kernel, rfl, by decide +kernel, by decide +kernel⟩
abbrev s_law : Stmt := top 84
theorem sc_law : FnScope ["_law_script", "_law_row", "_law_plain_here", "_law_desk", "_law_past", "_law_turn", "_law_change", "_law_word", "_law_parts", "_law_new", "_law_old", "_law_due", "_law_where_here", "_law_one"] ["_law_script"] (defScope s_law) := ⟨rfl, rfl, rfl, by decide +kernel, rfl, by decide +kernel, by decide +kernel⟩
end LT

end

section
set_option Elab.async false
set_option linter.all false
set_option maxRecDepth 100000
set_option maxHeartbeats 4000000
/-! The head's facts: what is read off the heap behind the top. Printed by gen_facts.py. -/
namespace LF
open PySem PySem.Spec PyProof.Rows L2 LK LT

def refsA (g : Addr → Option Obj) (a : Addr) : List Addr := match g a with
  | some o => He.refsO o
  | none => []
def nsA (g : Addr → Option Obj) (a : Addr) : List Addr := match g a with
  | some ⟨_, _, .cls cd, _⟩ => [cd.ns]
  | _ => []
def recA (g : Addr → Option Obj) (a : Addr) : List Addr := match g a with
  | some ⟨_, _, .fields vs, _⟩ => vs.toList.flatMap He.refV
  | _ => []
def codeA (g : Addr → Option Obj) (a : Addr) : List Addr := match g a with
  | some ⟨_, _, .func fd, _⟩ => He.refV fd.code
  | _ => []
/-- the addresses: the globals, the classes' namespaces, what these hold, the properties' getters, the code -/
def asL (g : Addr → Option Obj) : List Addr :=
  let G := refsA g mainGlobals
  let N := G.flatMap (nsA g)
  let M := N.flatMap (refsA g)
  let F := M.flatMap (recA g)
  mainGlobals :: (G ++ (N ++ (M ++ (F ++ (G ++ (M ++ F)).flatMap (codeA g)))))
def pa (K : PySem.W.Frag) (C : Addr) (m : Str) : Addr := match PySem.W.recIn K (He.ma K C m) "property" with
  | some (.ref f :: _) => f
  | _ => 0
theorem pa_ok {K : PySem.W.Frag} {C : Addr} {m : Str} (h : (match PySem.W.recIn K (He.ma K C m) "property" with
  | some (.ref _ :: _) => true
  | _ => false) = true) : ∃ rest, PySem.W.recIn K (He.ma K C m) "property" = some (.ref (pa K C m) :: rest) := by
  unfold pa
  cases e : PySem.W.recIn K (He.ma K C m) "property" with
  | none => rw [e] at h; cases h
  | some l =>
    cases l with
    | nil => rw [e] at h; cases h
    | cons v r =>
      cases v with
      | ref f => exact ⟨r, rfl⟩
      | _ => rw [e] at h; cases h
def ktupC (K : PySem.W.Frag) (a : Addr) (vs : List V) : Bool := match K.lookup a with
  | some ⟨.type c, _, .seq its _, _⟩ => decide (c = "tuple") && (decide (its.size ≤ sizeLine) && He.relAll vs its.toList)
  | _ => false
theorem ktupC_ok {K : PySem.W.Frag} {a : Addr} {vs : List V} (h : ktupC K a vs = true) : KTup K a vs := by
  unfold ktupC at h
  cases q : K.lookup a with
  | none => rw [q] at h; cases h
  | some o =>
    obtain ⟨oc, od, dt, osl⟩ := o
    rw [q] at h
    cases oc with
    | type c =>
      cases dt with
      | seq its n =>
        obtain ⟨h1, h2⟩ := He.ba (show (decide (c = "tuple") && (decide (its.size ≤ sizeLine) && He.relAll vs its.toList)) = true from h)
        obtain ⟨h3, h4⟩ := He.ba h2
        exact ⟨_, its, n, q, congrArg Value.type (of_decide_eq_true h1), rfl, of_decide_eq_true h3, He.relAll_ok h4⟩
      | _ => cases h
    | _ => cases dt <;> cases h
def tdC (K : PySem.W.Frag) (a : Addr) : Bool := match K.lookup a with
  | some ⟨.type c, none, _, _⟩ => decide (c = "tuple")
  | _ => false
theorem tdC_ok {K : PySem.W.Frag} {a : Addr} (h : tdC K a = true) : ∃ o, K.lookup a = some o ∧ o.cls = .type "tuple" ∧ o.dict = none := by
  unfold tdC at h
  cases q : K.lookup a with
  | none => rw [q] at h; cases h
  | some o =>
    obtain ⟨oc, od, dt, osl⟩ := o
    rw [q] at h
    cases oc with
    | type c =>
      cases od with
      | none => exact ⟨_, rfl, congrArg Value.type (of_decide_eq_true h), rfl⟩
      | some _ => cases h
    | _ => cases od <;> cases h
/-- a def: where it stands, its name, its qualified name, its text -/
structure DD where
  ad : PySem.W.Frag → Addr
  name : Str
  qual : Str
  st : Stmt
def fnL (K : PySem.W.Frag) (a : Addr) : He.FnW := match K.lookup a with
  | some ⟨_, _, .func fd, _⟩ => some (fd.name, fd.qualname, fd.params, fd.body, fd.scope, fd.globals, fd.closure, fd.builtins)
  | _ => none
def DD.val (d : DD) : He.FnW := some (d.name, d.qual, defArgs d.st, .stmts (defBody d.st), defScope d.st, mainGlobals, [], builtinsNs)
def DD.ok (K : PySem.W.Frag) (d : DD) : Bool := PySem.W.keepIn K (.ref (d.ad K)) && (match K.lookup (d.ad K) with
  | some ⟨_, _, .func fd, _⟩ => PySem.W.codeIn K fd.code d.qual && (He.dflB K fd.defaults [] && He.kwdB K fd.kwdefaults [])
  | _ => false)
theorem DD.funD {K : PySem.W.Frag} {d : DD} (e : fnL K (d.ad K) = d.val) (c : d.ok K = true) : ∃ fd, FnS K d.name d.qual d.st (d.ad K) fd := by
  obtain ⟨kp, c2⟩ := He.ba c
  unfold fnL at e
  cases q : K.lookup (d.ad K) with
  | none => rw [q] at c2; cases c2
  | some o =>
    obtain ⟨oc, od, dt, osl⟩ := o
    rw [q] at c2 e
    cases dt with
    | func fd =>
      obtain ⟨n1, n2, n3, n4, n5, n6, n7, n8, n9, n10, n11, n12, n13, n14, n15⟩ := fd
      have e2 : (some (n1, n2, n3, n4, n5, n6, n7, n15) : He.FnW) = some (d.name, d.qual, defArgs d.st, .stmts (defBody d.st), defScope d.st, mainGlobals, [], builtinsNs) := e
      simp only [Option.some.injEq, Prod.mk.injEq] at e2
      obtain ⟨h1, h2, h3, h4, h5, h6, h7, h8⟩ := e2
      subst h1 h2 h3 h4 h5 h6 h7 h8
      have c3 : (PySem.W.codeIn K n13 d.qual && (He.dflB K n8 [] && He.kwdB K n9 [])) = true := c2
      obtain ⟨k1, k2⟩ := He.ba c3
      obtain ⟨k3, k4⟩ := He.ba k2
      exact ⟨_, ⟨oc, od, n8, n9, n10, n11, n12, n13, n14, osl, rfl, q, k1, He.dflB_ok k3, He.kwdB_ok k4⟩, kp⟩
    | _ => cases c2
/-! ### what is looked at -/
def chk : List (PySem.W.Frag → Bool) := [
  fun K => (He.Fa.free "isinstance").ok K,
  fun K => (He.Fa.free "len").ok K,
  fun K => (He.Fa.free "all").ok K,
  fun K => (He.Fa.free "sorted").ok K,
  fun K => (He.Fa.free "set").ok K,
  fun K => (He.Fa.free "tuple").ok K,
  fun K => (He.Fa.free "list").ok K,
  fun K => (He.Fa.free "dict").ok K,
  fun K => (He.Fa.free "zip").ok K,
  fun K => (He.Fa.free "enumerate").ok K,
  fun K => (He.Fa.free "max").ok K,
  fun K => (He.Fa.free "min").ok K,
  fun K => (He.Fa.free "int").ok K,
  fun K => (He.Fa.free "range").ok K,
  fun K => (He.Fa.free "str").ok K,
  fun K => (He.Fa.free "bool").ok K,
  fun K => (He.Fa.glo "Rule").ok K,
  fun K => (He.Fa.glo "Stack").ok K,
  fun K => (He.Fa.glo "Run").ok K,
  fun K => (He.Fa.glo "State").ok K,
  fun K => (He.Fa.glo "Register").ok K,
  fun K => (He.Fa.glo "RESULTS").ok K,
  fun K => (He.Fa.glo "ACTIONS").ok K,
  fun K => (He.Fa.glo "NONE").ok K,
  fun K => (He.Fa.glo "GOOD").ok K,
  fun K => ktupC K (He.ga K "RESULTS") [.str "yes", .str "no", .str "skip", .str "gone"],
  fun K => tdC K (He.ga K "RESULTS"),
  fun K => ktupC K (He.ga K "ACTIONS") [.str "ok", .str "bad", .str "die", .str "done", .str "ignore", .str "reset"],
  fun K => ktupC K (He.ga K "NONE") [.str "none", .non],
  fun K => ktupC K (He.ga K "GOOD") [.str "good", .non],
  fun K => (He.Fa.str "OK" "ok").ok K,
  fun K => (He.Fa.str "BAD" "bad").ok K,
  fun K => (He.Fa.str "DIE" "die").ok K,
  fun K => (He.Fa.str "DONE" "done").ok K,
  fun K => (He.Fa.str "RESET" "reset").ok K,
  fun K => (He.Fa.str "LETTERS" "abcdefghijklmnopqrstuvwxyz").ok K,
  fun K => (He.Fa.str "IN" "in").ok K,
  fun K => (He.Fa.str "OUT" "out").ok K,
  fun K => (He.Fa.str "OPEN" "open").ok K,
  fun K => (He.Fa.int "MOST_JUMP" 9).ok K,
  fun K => (He.Fa.int "MOST_LETTERS" 8).ok K,
  fun K => (He.Fa.int "MOST_ENTRIES" 12).ok K,
  fun K => (He.Fa.int "MOST_RULES" 12).ok K,
  fun K => (He.Fa.int "MOST_MODULES" 6).ok K,
  fun K => (He.Fa.int "MOST_DEPTH" 3).ok K,
  fun K => (He.Fa.cls "Rule").ok K,
  fun K => decide (PySem.W.findIn K (.ref (He.ga K "Rule")) "__class__" = some (some (.builtin "object.__class__"))),
  fun K => decide (PySem.W.specialIn K (.builtin "object.__class__") "__get__" = some (some (.builtin "getset_descriptor.__get__"))),
  fun K => decide (PySem.W.takesIn K (.builtin "object.__class__") = some true),
  fun K => decide (PySem.W.mroIn K (He.ga K "Rule") (.type "object") = some true),
  fun K => (He.Fa.cls "Stack").ok K,
  fun K => decide (PySem.W.findIn K (.ref (He.ga K "Stack")) "__class__" = some (some (.builtin "object.__class__"))),
  fun K => decide (PySem.W.mroIn K (He.ga K "Stack") (.type "object") = some true),
  fun K => decide (PySem.W.kitOne K (.ref (He.ga K "Rule")) (.ref (He.ga K "Rule")) = some true),
  fun K => decide (PySem.W.kitOne K (.ref (He.ga K "Rule")) (.ref (He.ga K "Stack")) = some false),
  fun K => decide (PySem.W.kitOne K (.ref (He.ga K "Stack")) (.ref (He.ga K "Stack")) = some true),
  fun K => (He.Fa.noat "Rule" "asks").ok K,
  fun K => (He.Fa.noat "Rule" "acts").ok K,
  fun K => (He.Fa.noat "Stack" "parts").ok K,
  fun K => (He.Fa.noat "Stack" "steps").ok K,
  fun K => (He.Fa.noat "Stack" "names").ok K,
  fun K => (He.Fa.noat "Stack" "depth").ok K,
  fun K => (He.Fa.cls "Run").ok K,
  fun K => (He.Fa.noat "Run" "told").ok K,
  fun K => (He.Fa.noat "Run" "asked_rules").ok K,
  fun K => (He.Fa.noat "Run" "mark").ok K,
  fun K => (He.Fa.cls "Register").ok K,
  fun K => (He.Fa.noat "Register" "state").ok K,
  fun K => PySem.W.plainGet K (He.ga K "State") Str.empty,
  fun K => PySem.W.isClsIn K (He.ga K "State"),
  fun K => PySem.W.plainOver K (He.ga K "State"),
  fun K => He.eqO (PySem.W.findIn K (.ref (He.ga K "State")) "__setattr__") (some (some (.builtin "object.__setattr__"))),
  fun K => decide (PySem.W.findIn K (.ref (He.ga K "State")) "present" = some (some (.ref (He.ma K (He.ga K "State") "present")))),
  fun K => decide (PySem.W.specialIn K (.ref (He.ma K (He.ga K "State") "present")) "__get__" = some (some (.builtin "member_descriptor.__get__"))),
  fun K => decide (PySem.W.takesIn K (.ref (He.ma K (He.ga K "State") "present")) = some true),
  fun K => decide (PySem.W.typeIn K (.ref (He.ma K (He.ga K "State") "present")) = some (.type "member_descriptor")),
  fun K => decide (PySem.W.slotIn K (He.ma K (He.ga K "State") "present") (He.ga K "State") = some iP),
  fun K => decide (PySem.W.findIn K (.ref (He.ga K "State")) "vows" = some (some (.ref (He.ma K (He.ga K "State") "vows")))),
  fun K => decide (PySem.W.specialIn K (.ref (He.ma K (He.ga K "State") "vows")) "__get__" = some (some (.builtin "member_descriptor.__get__"))),
  fun K => decide (PySem.W.takesIn K (.ref (He.ma K (He.ga K "State") "vows")) = some true),
  fun K => decide (PySem.W.typeIn K (.ref (He.ma K (He.ga K "State") "vows")) = some (.type "member_descriptor")),
  fun K => decide (PySem.W.slotIn K (He.ma K (He.ga K "State") "vows") (He.ga K "State") = some iV),
  fun K => decide (PySem.W.findIn K (.ref (He.ga K "State")) "noted" = some (some (.ref (He.ma K (He.ga K "State") "noted")))),
  fun K => decide (PySem.W.specialIn K (.ref (He.ma K (He.ga K "State") "noted")) "__get__" = some (some (.builtin "member_descriptor.__get__"))),
  fun K => decide (PySem.W.takesIn K (.ref (He.ma K (He.ga K "State") "noted")) = some true),
  fun K => decide (PySem.W.typeIn K (.ref (He.ma K (He.ga K "State") "noted")) = some (.type "member_descriptor")),
  fun K => decide (PySem.W.slotIn K (He.ma K (He.ga K "State") "noted") (He.ga K "State") = some iN),
  fun K => decide (PySem.W.findIn K (.ref (He.ga K "State")) "past" = some (some (.ref (He.ma K (He.ga K "State") "past")))),
  fun K => decide (PySem.W.specialIn K (.ref (He.ma K (He.ga K "State") "past")) "__get__" = some (some (.builtin "member_descriptor.__get__"))),
  fun K => decide (PySem.W.takesIn K (.ref (He.ma K (He.ga K "State") "past")) = some true),
  fun K => decide (PySem.W.typeIn K (.ref (He.ma K (He.ga K "State") "past")) = some (.type "member_descriptor")),
  fun K => decide (PySem.W.slotIn K (He.ma K (He.ga K "State") "past") (He.ga K "State") = some iA),
  fun K => decide (PySem.W.findIn K (.ref (He.ga K "State")) "undone" = some (some (.ref (He.ma K (He.ga K "State") "undone")))),
  fun K => decide (PySem.W.specialIn K (.ref (He.ma K (He.ga K "State") "undone")) "__get__" = some (some (.builtin "member_descriptor.__get__"))),
  fun K => decide (PySem.W.takesIn K (.ref (He.ma K (He.ga K "State") "undone")) = some true),
  fun K => decide (PySem.W.typeIn K (.ref (He.ma K (He.ga K "State") "undone")) = some (.type "member_descriptor")),
  fun K => decide (PySem.W.slotIn K (He.ma K (He.ga K "State") "undone") (He.ga K "State") = some iU),
  fun K => decide (PySem.W.findIn K (.ref (He.ga K "Stack")) "__ne__" = some (some (.builtin "object.__ne__"))),
  fun K => PySem.W.selfFirst K (He.ga K "Stack"),
  fun K => (He.Fa.glo "is_number").ok K,
  fun K => (He.Fa.glo "is_word").ok K,
  fun K => (He.Fa.glo "is_action").ok K,
  fun K => (He.Fa.glo "table_of").ok K,
  fun K => (He.Fa.mkr "Rule").ok K,
  fun K => (match PySem.W.recIn K (He.ma K (He.ga K "Rule") "module") "property" with
  | some (.ref _ :: _) => true
  | _ => false),
  fun K => decide (PySem.W.findIn K (.ref (He.ga K "Rule")) "module" = some (some (.ref (He.ma K (He.ga K "Rule") "module")))),
  fun K => decide (PySem.W.specialIn K (.ref (He.ma K (He.ga K "Rule") "module")) "__get__" = some (some (.builtin "property.__get__"))),
  fun K => decide (PySem.W.takesIn K (.ref (He.ma K (He.ga K "Rule") "module")) = some true),
  fun K => (match PySem.W.recIn K (He.ma K (He.ga K "Rule") "control") "property" with
  | some (.ref _ :: _) => true
  | _ => false),
  fun K => decide (PySem.W.findIn K (.ref (He.ga K "Rule")) "control" = some (some (.ref (He.ma K (He.ga K "Rule") "control")))),
  fun K => decide (PySem.W.specialIn K (.ref (He.ma K (He.ga K "Rule") "control")) "__get__" = some (some (.builtin "property.__get__"))),
  fun K => decide (PySem.W.takesIn K (.ref (He.ma K (He.ga K "Rule") "control")) = some true),
  fun K => decide (PySem.W.findIn K (.ref (He.ga K "Rule")) "__eq__" = some (some (.ref (He.ma K (He.ga K "Rule") "__eq__")))),
  fun K => PySem.W.isFn K (.ref (He.ma K (He.ga K "Rule") "__eq__")),
  fun K => PySem.W.fnIn K (He.ma K (He.ga K "Rule") "__eq__"),
  fun K => (He.Fa.meth "Rule" "action_for").ok K,
  fun K => (He.Fa.mkr "Stack").ok K,
  fun K => (match PySem.W.recIn K (He.ma K (He.ga K "Stack") "entries") "property" with
  | some (.ref _ :: _) => true
  | _ => false),
  fun K => decide (PySem.W.findIn K (.ref (He.ga K "Stack")) "entries" = some (some (.ref (He.ma K (He.ga K "Stack") "entries")))),
  fun K => decide (PySem.W.specialIn K (.ref (He.ma K (He.ga K "Stack") "entries")) "__get__" = some (some (.builtin "property.__get__"))),
  fun K => decide (PySem.W.takesIn K (.ref (He.ma K (He.ga K "Stack") "entries")) = some true),
  fun K => (match PySem.W.recIn K (He.ma K (He.ga K "Stack") "rules") "property" with
  | some (.ref _ :: _) => true
  | _ => false),
  fun K => decide (PySem.W.findIn K (.ref (He.ga K "Stack")) "rules" = some (some (.ref (He.ma K (He.ga K "Stack") "rules")))),
  fun K => decide (PySem.W.specialIn K (.ref (He.ma K (He.ga K "Stack") "rules")) "__get__" = some (some (.builtin "property.__get__"))),
  fun K => decide (PySem.W.takesIn K (.ref (He.ma K (He.ga K "Stack") "rules")) = some true),
  fun K => (match PySem.W.recIn K (He.ma K (He.ga K "Stack") "modules") "property" with
  | some (.ref _ :: _) => true
  | _ => false),
  fun K => decide (PySem.W.findIn K (.ref (He.ga K "Stack")) "modules" = some (some (.ref (He.ma K (He.ga K "Stack") "modules")))),
  fun K => decide (PySem.W.specialIn K (.ref (He.ma K (He.ga K "Stack") "modules")) "__get__" = some (some (.builtin "property.__get__"))),
  fun K => decide (PySem.W.takesIn K (.ref (He.ma K (He.ga K "Stack") "modules")) = some true),
  fun K => decide (PySem.W.findIn K (.ref (He.ga K "Stack")) "__len__" = some (some (.ref (He.ma K (He.ga K "Stack") "__len__")))),
  fun K => PySem.W.isFn K (.ref (He.ma K (He.ga K "Stack") "__len__")),
  fun K => PySem.W.fnIn K (He.ma K (He.ga K "Stack") "__len__"),
  fun K => decide (PySem.W.findIn K (.ref (He.ga K "Stack")) "__getitem__" = some (some (.ref (He.ma K (He.ga K "Stack") "__getitem__")))),
  fun K => PySem.W.isFn K (.ref (He.ma K (He.ga K "Stack") "__getitem__")),
  fun K => PySem.W.fnIn K (He.ma K (He.ga K "Stack") "__getitem__"),
  fun K => decide (PySem.W.findIn K (.ref (He.ga K "Stack")) "__add__" = some (some (.ref (He.ma K (He.ga K "Stack") "__add__")))),
  fun K => PySem.W.isFn K (.ref (He.ma K (He.ga K "Stack") "__add__")),
  fun K => PySem.W.fnIn K (He.ma K (He.ga K "Stack") "__add__"),
  fun K => decide (PySem.W.findIn K (.ref (He.ga K "Stack")) "__eq__" = some (some (.ref (He.ma K (He.ga K "Stack") "__eq__")))),
  fun K => PySem.W.isFn K (.ref (He.ma K (He.ga K "Stack") "__eq__")),
  fun K => PySem.W.fnIn K (He.ma K (He.ga K "Stack") "__eq__"),
  fun K => (He.Fa.meth "Stack" "spliced").ok K,
  fun K => (He.Fa.glo "steps_of").ok K,
  fun K => (He.Fa.glo "firsts_of").ok K,
  fun K => (He.Fa.mkr "Run").ok K,
  fun K => (He.Fa.meth "Run" "ended").ok K,
  fun K => (He.Fa.meth "Run" "outcome").ok K,
  fun K => (He.Fa.glo "marked").ok K,
  fun K => (He.Fa.glo "need_answers").ok K,
  fun K => (He.Fa.glo "all_answers").ok K,
  fun K => (He.Fa.glo "outcomes").ok K,
  fun K => (He.Fa.glo "agrees").ok K,
  fun K => (He.Fa.glo "both_outcomes").ok K,
  fun K => (He.Fa.glo "first_difference").ok K,
  fun K => (He.Fa.glo "alike").ok K,
  fun K => (He.Fa.glo "need_word").ok K,
  fun K => (He.Fa.glo "where_all").ok K,
  fun K => (He.Fa.glo "settled").ok K,
  fun K => (He.Fa.glo "with_control").ok K,
  fun K => (He.Fa.mkr "State").ok K,
  fun K => (He.Fa.meth "State" "kept").ok K,
  fun K => (He.Fa.meth "State" "go_on").ok K,
  fun K => (He.Fa.meth "State" "go_back").ok K,
  fun K => (He.Fa.meth "State" "go_again").ok K,
  fun K => (He.Fa.mkr "Register").ok K,
  fun K => (He.Fa.meth "Register" "stack").ok K,
  fun K => (He.Fa.meth "Register" "enter").ok K,
  fun K => (He.Fa.meth "Register" "edit").ok K,
  fun K => (He.Fa.meth "Register" "need_entries").ok K,
  fun K => (He.Fa.meth "Register" "put").ok K,
  fun K => (He.Fa.meth "Register" "take").ok K,
  fun K => (He.Fa.meth "Register" "swap").ok K,
  fun K => (He.Fa.meth "Register" "turn").ok K,
  fun K => (He.Fa.meth "Register" "promise").ok K,
  fun K => (He.Fa.meth "Register" "undo").ok K,
  fun K => (He.Fa.meth "Register" "redo").ok K,
  fun K => (He.Fa.glo "_law_taken").ok K,
  fun K => (He.Fa.glo "_law_pick").ok K,
  fun K => (He.Fa.glo "_law_table").ok K,
  fun K => (He.Fa.glo "_law_plain").ok K,
  fun K => (He.Fa.glo "_law_rules").ok K,
  fun K => (He.Fa.glo "_law_modules").ok K,
  fun K => (He.Fa.glo "_law_made").ok K,
  fun K => (He.Fa.glo "_law_all").ok K,
  fun K => (He.Fa.glo "_law_acted").ok K,
  fun K => (He.Fa.glo "_law_ran").ok K,
  fun K => (He.Fa.glo "_law_run").ok K,
  fun K => (He.Fa.glo "_law_where").ok K,
  fun K => (He.Fa.glo "_law_turned").ok K,
  fun K => (He.Fa.glo "_law_changed").ok K,
  fun K => (He.Fa.glo "_law_done").ok K,
  fun K => (He.Fa.glo "_law_unlike").ok K,
  fun K => (He.Fa.glo "law").ok K]
def fns : List DD := [
  ⟨fun K => He.ga K "is_number", "is_number", "is_number", s_is_number⟩,
  ⟨fun K => He.ga K "is_word", "is_word", "is_word", s_is_word⟩,
  ⟨fun K => He.ga K "is_action", "is_action", "is_action", s_is_action⟩,
  ⟨fun K => He.ga K "table_of", "table_of", "table_of", s_table_of⟩,
  ⟨fun K => He.ma K (He.ga K "Rule") "__init__", "__init__", "Rule.__init__", s_Rule_init⟩,
  ⟨fun K => pa K (He.ga K "Rule") "module", "module", "Rule.module", s_Rule_module⟩,
  ⟨fun K => pa K (He.ga K "Rule") "control", "control", "Rule.control", s_Rule_control⟩,
  ⟨fun K => He.ma K (He.ga K "Rule") "__eq__", "__eq__", "Rule.__eq__", s_Rule_eq⟩,
  ⟨fun K => He.ma K (He.ga K "Rule") "action_for", "action_for", "Rule.action_for", s_Rule_action_for⟩,
  ⟨fun K => He.ma K (He.ga K "Stack") "__init__", "__init__", "Stack.__init__", s_Stack_init⟩,
  ⟨fun K => pa K (He.ga K "Stack") "entries", "entries", "Stack.entries", s_Stack_entries⟩,
  ⟨fun K => pa K (He.ga K "Stack") "rules", "rules", "Stack.rules", s_Stack_rules⟩,
  ⟨fun K => pa K (He.ga K "Stack") "modules", "modules", "Stack.modules", s_Stack_modules⟩,
  ⟨fun K => He.ma K (He.ga K "Stack") "__len__", "__len__", "Stack.__len__", s_Stack_len⟩,
  ⟨fun K => He.ma K (He.ga K "Stack") "__getitem__", "__getitem__", "Stack.__getitem__", s_Stack_getitem⟩,
  ⟨fun K => He.ma K (He.ga K "Stack") "__add__", "__add__", "Stack.__add__", s_Stack_add⟩,
  ⟨fun K => He.ma K (He.ga K "Stack") "__eq__", "__eq__", "Stack.__eq__", s_Stack_eq⟩,
  ⟨fun K => He.ma K (He.ga K "Stack") "spliced", "spliced", "Stack.spliced", s_Stack_spliced⟩,
  ⟨fun K => He.ga K "steps_of", "steps_of", "steps_of", s_steps_of⟩,
  ⟨fun K => He.ga K "firsts_of", "firsts_of", "firsts_of", s_firsts_of⟩,
  ⟨fun K => He.ma K (He.ga K "Run") "__init__", "__init__", "Run.__init__", s_Run_init⟩,
  ⟨fun K => He.ma K (He.ga K "Run") "ended", "ended", "Run.ended", s_Run_ended⟩,
  ⟨fun K => He.ma K (He.ga K "Run") "outcome", "outcome", "Run.outcome", s_Run_outcome⟩,
  ⟨fun K => He.ga K "marked", "marked", "marked", s_marked⟩,
  ⟨fun K => He.ga K "need_answers", "need_answers", "need_answers", s_need_answers⟩,
  ⟨fun K => He.ga K "all_answers", "all_answers", "all_answers", s_all_answers⟩,
  ⟨fun K => He.ga K "outcomes", "outcomes", "outcomes", s_outcomes⟩,
  ⟨fun K => He.ga K "agrees", "agrees", "agrees", s_agrees⟩,
  ⟨fun K => He.ga K "both_outcomes", "both_outcomes", "both_outcomes", s_both_outcomes⟩,
  ⟨fun K => He.ga K "first_difference", "first_difference", "first_difference", s_first_difference⟩,
  ⟨fun K => He.ga K "alike", "alike", "alike", s_alike⟩,
  ⟨fun K => He.ga K "need_word", "need_word", "need_word", s_need_word⟩,
  ⟨fun K => He.ga K "where_all", "where_all", "where_all", s_where_all⟩,
  ⟨fun K => He.ga K "settled", "settled", "settled", s_settled⟩,
  ⟨fun K => He.ga K "with_control", "with_control", "with_control", s_with_control⟩,
  ⟨fun K => He.ma K (He.ga K "State") "__init__", "__init__", "State.__init__", s_State_init⟩,
  ⟨fun K => He.ma K (He.ga K "State") "kept", "kept", "State.kept", s_State_kept⟩,
  ⟨fun K => He.ma K (He.ga K "State") "go_on", "go_on", "State.go_on", s_State_go_on⟩,
  ⟨fun K => He.ma K (He.ga K "State") "go_back", "go_back", "State.go_back", s_State_go_back⟩,
  ⟨fun K => He.ma K (He.ga K "State") "go_again", "go_again", "State.go_again", s_State_go_again⟩,
  ⟨fun K => He.ma K (He.ga K "Register") "__init__", "__init__", "Register.__init__", s_Register_init⟩,
  ⟨fun K => He.ma K (He.ga K "Register") "stack", "stack", "Register.stack", s_Register_stack⟩,
  ⟨fun K => He.ma K (He.ga K "Register") "enter", "enter", "Register.enter", s_Register_enter⟩,
  ⟨fun K => He.ma K (He.ga K "Register") "edit", "edit", "Register.edit", s_Register_edit⟩,
  ⟨fun K => He.ma K (He.ga K "Register") "need_entries", "need_entries", "Register.need_entries", s_Register_need_entries⟩,
  ⟨fun K => He.ma K (He.ga K "Register") "put", "put", "Register.put", s_Register_put⟩,
  ⟨fun K => He.ma K (He.ga K "Register") "take", "take", "Register.take", s_Register_take⟩,
  ⟨fun K => He.ma K (He.ga K "Register") "swap", "swap", "Register.swap", s_Register_swap⟩,
  ⟨fun K => He.ma K (He.ga K "Register") "turn", "turn", "Register.turn", s_Register_turn⟩,
  ⟨fun K => He.ma K (He.ga K "Register") "promise", "promise", "Register.promise", s_Register_promise⟩,
  ⟨fun K => He.ma K (He.ga K "Register") "undo", "undo", "Register.undo", s_Register_undo⟩,
  ⟨fun K => He.ma K (He.ga K "Register") "redo", "redo", "Register.redo", s_Register_redo⟩,
  ⟨fun K => He.ga K "_law_taken", "_law_taken", "_law_taken", s_law_taken⟩,
  ⟨fun K => He.ga K "_law_pick", "_law_pick", "_law_pick", s_law_pick⟩,
  ⟨fun K => He.ga K "_law_table", "_law_table", "_law_table", s_law_table⟩,
  ⟨fun K => He.ga K "_law_plain", "_law_plain", "_law_plain", s_law_plain⟩,
  ⟨fun K => He.ga K "_law_rules", "_law_rules", "_law_rules", s_law_rules⟩,
  ⟨fun K => He.ga K "_law_modules", "_law_modules", "_law_modules", s_law_modules⟩,
  ⟨fun K => He.ga K "_law_made", "_law_made", "_law_made", s_law_made⟩,
  ⟨fun K => He.ga K "_law_all", "_law_all", "_law_all", s_law_all⟩,
  ⟨fun K => He.ga K "_law_acted", "_law_acted", "_law_acted", s_law_acted⟩,
  ⟨fun K => He.ga K "_law_ran", "_law_ran", "_law_ran", s_law_ran⟩,
  ⟨fun K => He.ga K "_law_run", "_law_run", "_law_run", s_law_run⟩,
  ⟨fun K => He.ga K "_law_where", "_law_where", "_law_where", s_law_where⟩,
  ⟨fun K => He.ga K "_law_turned", "_law_turned", "_law_turned", s_law_turned⟩,
  ⟨fun K => He.ga K "_law_changed", "_law_changed", "_law_changed", s_law_changed⟩,
  ⟨fun K => He.ga K "_law_done", "_law_done", "_law_done", s_law_done⟩,
  ⟨fun K => He.ga K "_law_unlike", "_law_unlike", "_law_unlike", s_law_unlike⟩,
  ⟨fun K => He.ga K "law", "law", "law", s_law⟩]
abbrev Al : Type := Bool × List He.FnW
def obsK (K : PySem.W.Frag) : Al := ((chk.all fun f => f K) && fns.all fun d => d.ok K, fns.map fun d => fnL K (d.ad K))
def valK : Al := (true, fns.map DD.val)
def Says (K : PySem.W.Frag) : Prop := obsK K = valK
def hkL : PySem.W.Hook where
  α := Al
  obs := fun s => obsK (He.frG s.heap.get? (asL s.heap.get?))
  val := fun _ => valK
  says := fun _ h => ∃ K : PySem.W.Frag, K.In h ∧ Says K
  of := fun _ _ e => ⟨_, He.frG_in, e⟩
  keeps := fun _ _ _ ⟨K, hK, c⟩ k => ⟨K, PySem.W.Frag.In.keeps hK k, c⟩
def obL (s : PySem.W.SharedT) : Al := obsK (He.frG (HandSHeadRun.getT s) (asL (HandSHeadRun.getT s)))
theorem obL_eq (s : PySem.W.SharedT) : obL s = hkL.obs s.abs := by
  have e : HandSHeadRun.getT s = s.abs.heap.get? := funext fun a => HandSHeadRun.getT_eq s a
  show obsK (He.frG (HandSHeadRun.getT s) (asL (HandSHeadRun.getT s))) = obsK (He.frG s.abs.heap.get? (asL s.abs.heap.get?))
  rw [e]
section
variable {K : PySem.W.Frag}
theorem Says.fact (c : Says K) (i : Nat) {f : PySem.W.Frag → Bool} (h : chk[i]? = some f) : f K = true := by
  have c1 := (He.ba (show ((chk.all fun f => f K) && fns.all fun d => d.ok K) = true from congrArg (fun z : Al => z.1) c)).1
  exact List.all_eq_true.mp c1 f (List.mem_of_getElem? h)
theorem Says.def_ (c : Says K) (i : Nat) {d : DD} (h : fns[i]? = some d) : ∃ fd, FnS K d.name d.qual d.st (d.ad K) fd := by
  have c2 := (He.ba (show ((chk.all fun f => f K) && fns.all fun d => d.ok K) = true from congrArg (fun z : Al => z.1) c)).2
  have e : fns.map (fun d => fnL K (d.ad K)) = fns.map DD.val := congrArg (fun z : Al => z.2) c
  have e2 : (fns.map fun d => fnL K (d.ad K))[i]? = (fns.map DD.val)[i]? := by rw [e]
  rw [List.getElem?_map, List.getElem?_map, h] at e2
  exact DD.funD (Option.some.inj e2) (List.all_eq_true.mp c2 d (List.mem_of_getElem? h))
end
/-- the addresses by names -/
def ad (K : PySem.W.Frag) : Ad := ⟨He.ga K "Rule", He.ga K "Stack", He.ga K "Run", He.ga K "State", He.ga K "Register", He.ga K "RESULTS", He.ga K "ACTIONS", He.ga K "NONE", He.ga K "GOOD"⟩
section
variable {K : PySem.W.Frag} {h : Heap} {mg : Str → Option Value} (X : K.In h) (G : h.Ns mainGlobals mg) (c : Says K)
include X G c
theorem txt : Txt K mg (ad K) where
  f_isinstance := He.free_ok X G (x := "isinstance") (c.fact 0 rfl)
  f_len := He.free_ok X G (x := "len") (c.fact 1 rfl)
  f_all := He.free_ok X G (x := "all") (c.fact 2 rfl)
  f_sorted := He.free_ok X G (x := "sorted") (c.fact 3 rfl)
  f_set := He.free_ok X G (x := "set") (c.fact 4 rfl)
  f_tuple := He.free_ok X G (x := "tuple") (c.fact 5 rfl)
  f_list := He.free_ok X G (x := "list") (c.fact 6 rfl)
  f_dict := He.free_ok X G (x := "dict") (c.fact 7 rfl)
  f_zip := He.free_ok X G (x := "zip") (c.fact 8 rfl)
  f_enumerate := He.free_ok X G (x := "enumerate") (c.fact 9 rfl)
  f_max := He.free_ok X G (x := "max") (c.fact 10 rfl)
  f_min := He.free_ok X G (x := "min") (c.fact 11 rfl)
  f_int := He.free_ok X G (x := "int") (c.fact 12 rfl)
  f_range := He.free_ok X G (x := "range") (c.fact 13 rfl)
  f_str := He.free_ok X G (x := "str") (c.fact 14 rfl)
  f_bool := He.free_ok X G (x := "bool") (c.fact 15 rfl)
  gR := He.glo_ok X G (x := "Rule") (c.fact 16 rfl)
  gS := He.glo_ok X G (x := "Stack") (c.fact 17 rfl)
  gN := He.glo_ok X G (x := "Run") (c.fact 18 rfl)
  gT := He.glo_ok X G (x := "State") (c.fact 19 rfl)
  gG := He.glo_ok X G (x := "Register") (c.fact 20 rfl)
  gRes := He.glo_ok X G (x := "RESULTS") (c.fact 21 rfl)
  gAct := He.glo_ok X G (x := "ACTIONS") (c.fact 22 rfl)
  gNone := He.glo_ok X G (x := "NONE") (c.fact 23 rfl)
  gGood := He.glo_ok X G (x := "GOOD") (c.fact 24 rfl)
  kRes := ktupC_ok (c.fact 25 rfl)
  dRes := tdC_ok (c.fact 26 rfl)
  kAct := ktupC_ok (c.fact 27 rfl)
  kNone := ktupC_ok (c.fact 28 rfl)
  kGood := ktupC_ok (c.fact 29 rfl)
  s_OK := He.str_ok X G (x := "OK") (z := "ok") (c.fact 30 rfl)
  s_BAD := He.str_ok X G (x := "BAD") (z := "bad") (c.fact 31 rfl)
  s_DIE := He.str_ok X G (x := "DIE") (z := "die") (c.fact 32 rfl)
  s_DONE := He.str_ok X G (x := "DONE") (z := "done") (c.fact 33 rfl)
  s_RESET := He.str_ok X G (x := "RESET") (z := "reset") (c.fact 34 rfl)
  s_LETTERS := He.str_ok X G (x := "LETTERS") (z := "abcdefghijklmnopqrstuvwxyz") (c.fact 35 rfl)
  s_IN := He.str_ok X G (x := "IN") (z := "in") (c.fact 36 rfl)
  s_OUT := He.str_ok X G (x := "OUT") (z := "out") (c.fact 37 rfl)
  s_OPEN := He.str_ok X G (x := "OPEN") (z := "open") (c.fact 38 rfl)
  i_JUMP := He.int_ok X G (x := "MOST_JUMP") (i := 9) (c.fact 39 rfl)
  i_LETTERS := He.int_ok X G (x := "MOST_LETTERS") (i := 8) (c.fact 40 rfl)
  i_ENTRIES := He.int_ok X G (x := "MOST_ENTRIES") (i := 12) (c.fact 41 rfl)
  i_RULES := He.int_ok X G (x := "MOST_RULES") (i := 12) (c.fact 42 rfl)
  i_MODULES := He.int_ok X G (x := "MOST_MODULES") (i := 6) (c.fact 43 rfl)
  i_DEPTH := He.int_ok X G (x := "MOST_DEPTH") (i := 3) (c.fact 44 rfl)
  oR := ⟨(He.cls_ok (x := "Rule") (c.fact 45 rfl)), ⟨of_decide_eq_true (c.fact 46 rfl), of_decide_eq_true (c.fact 47 rfl), of_decide_eq_true (c.fact 48 rfl), of_decide_eq_true (c.fact 49 rfl)⟩⟩
  oS := ⟨(He.cls_ok (x := "Stack") (c.fact 50 rfl)), ⟨of_decide_eq_true (c.fact 51 rfl), of_decide_eq_true (c.fact 47 rfl), of_decide_eq_true (c.fact 48 rfl), of_decide_eq_true (c.fact 52 rfl)⟩⟩
  rr := of_decide_eq_true (c.fact 53 rfl)
  rs := of_decide_eq_true (c.fact 54 rfl)
  ss := of_decide_eq_true (c.fact 55 rfl)
  fR1 := ⟨(He.cls_ok (x := "Rule") (c.fact 45 rfl)), He.noat_ok (x := "Rule") (f := "asks") (c.fact 56 rfl)⟩
  fR2 := ⟨(He.cls_ok (x := "Rule") (c.fact 45 rfl)), He.noat_ok (x := "Rule") (f := "acts") (c.fact 57 rfl)⟩
  fS1 := ⟨(He.cls_ok (x := "Stack") (c.fact 50 rfl)), He.noat_ok (x := "Stack") (f := "parts") (c.fact 58 rfl)⟩
  fS2 := ⟨(He.cls_ok (x := "Stack") (c.fact 50 rfl)), He.noat_ok (x := "Stack") (f := "steps") (c.fact 59 rfl)⟩
  fS3 := ⟨(He.cls_ok (x := "Stack") (c.fact 50 rfl)), He.noat_ok (x := "Stack") (f := "names") (c.fact 60 rfl)⟩
  fS4 := ⟨(He.cls_ok (x := "Stack") (c.fact 50 rfl)), He.noat_ok (x := "Stack") (f := "depth") (c.fact 61 rfl)⟩
  fN1 := ⟨(He.cls_ok (x := "Run") (c.fact 62 rfl)), He.noat_ok (x := "Run") (f := "told") (c.fact 63 rfl)⟩
  fN2 := ⟨(He.cls_ok (x := "Run") (c.fact 62 rfl)), He.noat_ok (x := "Run") (f := "asked_rules") (c.fact 64 rfl)⟩
  fN3 := ⟨(He.cls_ok (x := "Run") (c.fact 62 rfl)), He.noat_ok (x := "Run") (f := "mark") (c.fact 65 rfl)⟩
  fG1 := ⟨(He.cls_ok (x := "Register") (c.fact 66 rfl)), He.noat_ok (x := "Register") (f := "state") (c.fact 67 rfl)⟩
  sT1 := ⟨⟨(c.fact 68 rfl), (c.fact 69 rfl), (c.fact 70 rfl), He.eqO_ok (c.fact 71 rfl)⟩, (He.ma K (He.ga K "State") "present"), ⟨of_decide_eq_true (c.fact 72 rfl), of_decide_eq_true (c.fact 73 rfl), of_decide_eq_true (c.fact 74 rfl), of_decide_eq_true (c.fact 75 rfl), of_decide_eq_true (c.fact 76 rfl), by decide⟩⟩
  sT2 := ⟨⟨(c.fact 68 rfl), (c.fact 69 rfl), (c.fact 70 rfl), He.eqO_ok (c.fact 71 rfl)⟩, (He.ma K (He.ga K "State") "vows"), ⟨of_decide_eq_true (c.fact 77 rfl), of_decide_eq_true (c.fact 78 rfl), of_decide_eq_true (c.fact 79 rfl), of_decide_eq_true (c.fact 80 rfl), of_decide_eq_true (c.fact 81 rfl), by decide⟩⟩
  sT3 := ⟨⟨(c.fact 68 rfl), (c.fact 69 rfl), (c.fact 70 rfl), He.eqO_ok (c.fact 71 rfl)⟩, (He.ma K (He.ga K "State") "noted"), ⟨of_decide_eq_true (c.fact 82 rfl), of_decide_eq_true (c.fact 83 rfl), of_decide_eq_true (c.fact 84 rfl), of_decide_eq_true (c.fact 85 rfl), of_decide_eq_true (c.fact 86 rfl), by decide⟩⟩
  sT4 := ⟨⟨(c.fact 68 rfl), (c.fact 69 rfl), (c.fact 70 rfl), He.eqO_ok (c.fact 71 rfl)⟩, (He.ma K (He.ga K "State") "past"), ⟨of_decide_eq_true (c.fact 87 rfl), of_decide_eq_true (c.fact 88 rfl), of_decide_eq_true (c.fact 89 rfl), of_decide_eq_true (c.fact 90 rfl), of_decide_eq_true (c.fact 91 rfl), by decide⟩⟩
  sT5 := ⟨⟨(c.fact 68 rfl), (c.fact 69 rfl), (c.fact 70 rfl), He.eqO_ok (c.fact 71 rfl)⟩, (He.ma K (He.ga K "State") "undone"), ⟨of_decide_eq_true (c.fact 92 rfl), of_decide_eq_true (c.fact 93 rfl), of_decide_eq_true (c.fact 94 rfl), of_decide_eq_true (c.fact 95 rfl), of_decide_eq_true (c.fact 96 rfl), by decide⟩⟩
  nnS := ⟨of_decide_eq_true (c.fact 97 rfl), of_decide_eq_true (c.fact 52 rfl)⟩
  sfS := (c.fact 98 rfl)
theorem d_is_number : Dfn K mg "is_number" s_is_number := by
  obtain ⟨fd, F⟩ := c.def_ 0 rfl
  exact ⟨_, fd, He.glo_ok X G (x := "is_number") (c.fact 99 rfl), F⟩
theorem d_is_word : Dfn K mg "is_word" s_is_word := by
  obtain ⟨fd, F⟩ := c.def_ 1 rfl
  exact ⟨_, fd, He.glo_ok X G (x := "is_word") (c.fact 100 rfl), F⟩
theorem d_is_action : Dfn K mg "is_action" s_is_action := by
  obtain ⟨fd, F⟩ := c.def_ 2 rfl
  exact ⟨_, fd, He.glo_ok X G (x := "is_action") (c.fact 101 rfl), F⟩
theorem d_table_of : Dfn K mg "table_of" s_table_of := by
  obtain ⟨fd, F⟩ := c.def_ 3 rfl
  exact ⟨_, fd, He.glo_ok X G (x := "table_of") (c.fact 102 rfl), F⟩
theorem d_Rule_init : Dmk K mg "Rule" (He.ga K "Rule") "Rule.__init__" s_Rule_init := by
  obtain ⟨fd, F⟩ := c.def_ 4 rfl
  exact ⟨_, fd, He.mkr_ok (x := "Rule") (c.fact 103 rfl), He.glo_ok X G (x := "Rule") (c.fact 16 rfl), F⟩
theorem d_Rule_module : Dpr K (He.ga K "Rule") "module" "Rule.module" s_Rule_module := by
  obtain ⟨fd, F⟩ := c.def_ 5 rfl
  exact ⟨(He.ma K (He.ga K "Rule") "module"), _, fd, (He.cls_ok (x := "Rule") (c.fact 45 rfl)), ⟨of_decide_eq_true (c.fact 105 rfl), of_decide_eq_true (c.fact 106 rfl), of_decide_eq_true (c.fact 107 rfl), pa_ok (c.fact 104 rfl)⟩, F⟩
theorem d_Rule_control : Dpr K (He.ga K "Rule") "control" "Rule.control" s_Rule_control := by
  obtain ⟨fd, F⟩ := c.def_ 6 rfl
  exact ⟨(He.ma K (He.ga K "Rule") "control"), _, fd, (He.cls_ok (x := "Rule") (c.fact 45 rfl)), ⟨of_decide_eq_true (c.fact 109 rfl), of_decide_eq_true (c.fact 110 rfl), of_decide_eq_true (c.fact 111 rfl), pa_ok (c.fact 108 rfl)⟩, F⟩
theorem d_Rule_eq : Ddu K (He.ga K "Rule") "__eq__" "Rule.__eq__" s_Rule_eq := by
  obtain ⟨fd, F⟩ := c.def_ 7 rfl
  exact ⟨_, fd, of_decide_eq_true (c.fact 112 rfl), (c.fact 113 rfl), (c.fact 114 rfl), F⟩
theorem d_Rule_action_for : Dme K (He.ga K "Rule") "action_for" "Rule.action_for" s_Rule_action_for := by
  obtain ⟨fd, F⟩ := c.def_ 8 rfl
  exact ⟨_, fd, (He.cls_ok (x := "Rule") (c.fact 45 rfl)), He.meth_ok (x := "Rule") (m := "action_for") (c.fact 115 rfl), F⟩
theorem d_Stack_init : Dmk K mg "Stack" (He.ga K "Stack") "Stack.__init__" s_Stack_init := by
  obtain ⟨fd, F⟩ := c.def_ 9 rfl
  exact ⟨_, fd, He.mkr_ok (x := "Stack") (c.fact 116 rfl), He.glo_ok X G (x := "Stack") (c.fact 17 rfl), F⟩
theorem d_Stack_entries : Dpr K (He.ga K "Stack") "entries" "Stack.entries" s_Stack_entries := by
  obtain ⟨fd, F⟩ := c.def_ 10 rfl
  exact ⟨(He.ma K (He.ga K "Stack") "entries"), _, fd, (He.cls_ok (x := "Stack") (c.fact 50 rfl)), ⟨of_decide_eq_true (c.fact 118 rfl), of_decide_eq_true (c.fact 119 rfl), of_decide_eq_true (c.fact 120 rfl), pa_ok (c.fact 117 rfl)⟩, F⟩
theorem d_Stack_rules : Dpr K (He.ga K "Stack") "rules" "Stack.rules" s_Stack_rules := by
  obtain ⟨fd, F⟩ := c.def_ 11 rfl
  exact ⟨(He.ma K (He.ga K "Stack") "rules"), _, fd, (He.cls_ok (x := "Stack") (c.fact 50 rfl)), ⟨of_decide_eq_true (c.fact 122 rfl), of_decide_eq_true (c.fact 123 rfl), of_decide_eq_true (c.fact 124 rfl), pa_ok (c.fact 121 rfl)⟩, F⟩
theorem d_Stack_modules : Dpr K (He.ga K "Stack") "modules" "Stack.modules" s_Stack_modules := by
  obtain ⟨fd, F⟩ := c.def_ 12 rfl
  exact ⟨(He.ma K (He.ga K "Stack") "modules"), _, fd, (He.cls_ok (x := "Stack") (c.fact 50 rfl)), ⟨of_decide_eq_true (c.fact 126 rfl), of_decide_eq_true (c.fact 127 rfl), of_decide_eq_true (c.fact 128 rfl), pa_ok (c.fact 125 rfl)⟩, F⟩
theorem d_Stack_len : Ddu K (He.ga K "Stack") "__len__" "Stack.__len__" s_Stack_len := by
  obtain ⟨fd, F⟩ := c.def_ 13 rfl
  exact ⟨_, fd, of_decide_eq_true (c.fact 129 rfl), (c.fact 130 rfl), (c.fact 131 rfl), F⟩
theorem d_Stack_getitem : Ddu K (He.ga K "Stack") "__getitem__" "Stack.__getitem__" s_Stack_getitem := by
  obtain ⟨fd, F⟩ := c.def_ 14 rfl
  exact ⟨_, fd, of_decide_eq_true (c.fact 132 rfl), (c.fact 133 rfl), (c.fact 134 rfl), F⟩
theorem d_Stack_add : Ddu K (He.ga K "Stack") "__add__" "Stack.__add__" s_Stack_add := by
  obtain ⟨fd, F⟩ := c.def_ 15 rfl
  exact ⟨_, fd, of_decide_eq_true (c.fact 135 rfl), (c.fact 136 rfl), (c.fact 137 rfl), F⟩
theorem d_Stack_eq : Ddu K (He.ga K "Stack") "__eq__" "Stack.__eq__" s_Stack_eq := by
  obtain ⟨fd, F⟩ := c.def_ 16 rfl
  exact ⟨_, fd, of_decide_eq_true (c.fact 138 rfl), (c.fact 139 rfl), (c.fact 140 rfl), F⟩
theorem d_Stack_spliced : Dme K (He.ga K "Stack") "spliced" "Stack.spliced" s_Stack_spliced := by
  obtain ⟨fd, F⟩ := c.def_ 17 rfl
  exact ⟨_, fd, (He.cls_ok (x := "Stack") (c.fact 50 rfl)), He.meth_ok (x := "Stack") (m := "spliced") (c.fact 141 rfl), F⟩
theorem d_steps_of : Dfn K mg "steps_of" s_steps_of := by
  obtain ⟨fd, F⟩ := c.def_ 18 rfl
  exact ⟨_, fd, He.glo_ok X G (x := "steps_of") (c.fact 142 rfl), F⟩
theorem d_firsts_of : Dfn K mg "firsts_of" s_firsts_of := by
  obtain ⟨fd, F⟩ := c.def_ 19 rfl
  exact ⟨_, fd, He.glo_ok X G (x := "firsts_of") (c.fact 143 rfl), F⟩
theorem d_Run_init : Dmk K mg "Run" (He.ga K "Run") "Run.__init__" s_Run_init := by
  obtain ⟨fd, F⟩ := c.def_ 20 rfl
  exact ⟨_, fd, He.mkr_ok (x := "Run") (c.fact 144 rfl), He.glo_ok X G (x := "Run") (c.fact 18 rfl), F⟩
theorem d_Run_ended : Dme K (He.ga K "Run") "ended" "Run.ended" s_Run_ended := by
  obtain ⟨fd, F⟩ := c.def_ 21 rfl
  exact ⟨_, fd, (He.cls_ok (x := "Run") (c.fact 62 rfl)), He.meth_ok (x := "Run") (m := "ended") (c.fact 145 rfl), F⟩
theorem d_Run_outcome : Dme K (He.ga K "Run") "outcome" "Run.outcome" s_Run_outcome := by
  obtain ⟨fd, F⟩ := c.def_ 22 rfl
  exact ⟨_, fd, (He.cls_ok (x := "Run") (c.fact 62 rfl)), He.meth_ok (x := "Run") (m := "outcome") (c.fact 146 rfl), F⟩
theorem d_marked : Dfn K mg "marked" s_marked := by
  obtain ⟨fd, F⟩ := c.def_ 23 rfl
  exact ⟨_, fd, He.glo_ok X G (x := "marked") (c.fact 147 rfl), F⟩
theorem d_need_answers : Dfn K mg "need_answers" s_need_answers := by
  obtain ⟨fd, F⟩ := c.def_ 24 rfl
  exact ⟨_, fd, He.glo_ok X G (x := "need_answers") (c.fact 148 rfl), F⟩
theorem d_all_answers : Dfn K mg "all_answers" s_all_answers := by
  obtain ⟨fd, F⟩ := c.def_ 25 rfl
  exact ⟨_, fd, He.glo_ok X G (x := "all_answers") (c.fact 149 rfl), F⟩
theorem d_outcomes : Dfn K mg "outcomes" s_outcomes := by
  obtain ⟨fd, F⟩ := c.def_ 26 rfl
  exact ⟨_, fd, He.glo_ok X G (x := "outcomes") (c.fact 150 rfl), F⟩
theorem d_agrees : Dfn K mg "agrees" s_agrees := by
  obtain ⟨fd, F⟩ := c.def_ 27 rfl
  exact ⟨_, fd, He.glo_ok X G (x := "agrees") (c.fact 151 rfl), F⟩
theorem d_both_outcomes : Dfn K mg "both_outcomes" s_both_outcomes := by
  obtain ⟨fd, F⟩ := c.def_ 28 rfl
  exact ⟨_, fd, He.glo_ok X G (x := "both_outcomes") (c.fact 152 rfl), F⟩
theorem d_first_difference : Dfn K mg "first_difference" s_first_difference := by
  obtain ⟨fd, F⟩ := c.def_ 29 rfl
  exact ⟨_, fd, He.glo_ok X G (x := "first_difference") (c.fact 153 rfl), F⟩
theorem d_alike : Dfn K mg "alike" s_alike := by
  obtain ⟨fd, F⟩ := c.def_ 30 rfl
  exact ⟨_, fd, He.glo_ok X G (x := "alike") (c.fact 154 rfl), F⟩
theorem d_need_word : Dfn K mg "need_word" s_need_word := by
  obtain ⟨fd, F⟩ := c.def_ 31 rfl
  exact ⟨_, fd, He.glo_ok X G (x := "need_word") (c.fact 155 rfl), F⟩
theorem d_where_all : Dfn K mg "where_all" s_where_all := by
  obtain ⟨fd, F⟩ := c.def_ 32 rfl
  exact ⟨_, fd, He.glo_ok X G (x := "where_all") (c.fact 156 rfl), F⟩
theorem d_settled : Dfn K mg "settled" s_settled := by
  obtain ⟨fd, F⟩ := c.def_ 33 rfl
  exact ⟨_, fd, He.glo_ok X G (x := "settled") (c.fact 157 rfl), F⟩
theorem d_with_control : Dfn K mg "with_control" s_with_control := by
  obtain ⟨fd, F⟩ := c.def_ 34 rfl
  exact ⟨_, fd, He.glo_ok X G (x := "with_control") (c.fact 158 rfl), F⟩
theorem d_State_init : Dmk K mg "State" (He.ga K "State") "State.__init__" s_State_init := by
  obtain ⟨fd, F⟩ := c.def_ 35 rfl
  exact ⟨_, fd, He.mkr_ok (x := "State") (c.fact 159 rfl), He.glo_ok X G (x := "State") (c.fact 19 rfl), F⟩
theorem d_State_kept : DmS K (He.ga K "State") "kept" "State.kept" s_State_kept := by
  obtain ⟨fd, F⟩ := c.def_ 36 rfl
  exact ⟨_, fd, ⟨(c.fact 68 rfl), (c.fact 69 rfl), (c.fact 70 rfl), He.eqO_ok (c.fact 71 rfl)⟩, He.meth_ok (x := "State") (m := "kept") (c.fact 160 rfl), F⟩
theorem d_State_go_on : DmS K (He.ga K "State") "go_on" "State.go_on" s_State_go_on := by
  obtain ⟨fd, F⟩ := c.def_ 37 rfl
  exact ⟨_, fd, ⟨(c.fact 68 rfl), (c.fact 69 rfl), (c.fact 70 rfl), He.eqO_ok (c.fact 71 rfl)⟩, He.meth_ok (x := "State") (m := "go_on") (c.fact 161 rfl), F⟩
theorem d_State_go_back : DmS K (He.ga K "State") "go_back" "State.go_back" s_State_go_back := by
  obtain ⟨fd, F⟩ := c.def_ 38 rfl
  exact ⟨_, fd, ⟨(c.fact 68 rfl), (c.fact 69 rfl), (c.fact 70 rfl), He.eqO_ok (c.fact 71 rfl)⟩, He.meth_ok (x := "State") (m := "go_back") (c.fact 162 rfl), F⟩
theorem d_State_go_again : DmS K (He.ga K "State") "go_again" "State.go_again" s_State_go_again := by
  obtain ⟨fd, F⟩ := c.def_ 39 rfl
  exact ⟨_, fd, ⟨(c.fact 68 rfl), (c.fact 69 rfl), (c.fact 70 rfl), He.eqO_ok (c.fact 71 rfl)⟩, He.meth_ok (x := "State") (m := "go_again") (c.fact 163 rfl), F⟩
theorem d_Register_init : Dmk K mg "Register" (He.ga K "Register") "Register.__init__" s_Register_init := by
  obtain ⟨fd, F⟩ := c.def_ 40 rfl
  exact ⟨_, fd, He.mkr_ok (x := "Register") (c.fact 164 rfl), He.glo_ok X G (x := "Register") (c.fact 20 rfl), F⟩
theorem d_Register_stack : Dme K (He.ga K "Register") "stack" "Register.stack" s_Register_stack := by
  obtain ⟨fd, F⟩ := c.def_ 41 rfl
  exact ⟨_, fd, (He.cls_ok (x := "Register") (c.fact 66 rfl)), He.meth_ok (x := "Register") (m := "stack") (c.fact 165 rfl), F⟩
theorem d_Register_enter : Dme K (He.ga K "Register") "enter" "Register.enter" s_Register_enter := by
  obtain ⟨fd, F⟩ := c.def_ 42 rfl
  exact ⟨_, fd, (He.cls_ok (x := "Register") (c.fact 66 rfl)), He.meth_ok (x := "Register") (m := "enter") (c.fact 166 rfl), F⟩
theorem d_Register_edit : Dme K (He.ga K "Register") "edit" "Register.edit" s_Register_edit := by
  obtain ⟨fd, F⟩ := c.def_ 43 rfl
  exact ⟨_, fd, (He.cls_ok (x := "Register") (c.fact 66 rfl)), He.meth_ok (x := "Register") (m := "edit") (c.fact 167 rfl), F⟩
theorem d_Register_need_entries : Dme K (He.ga K "Register") "need_entries" "Register.need_entries" s_Register_need_entries := by
  obtain ⟨fd, F⟩ := c.def_ 44 rfl
  exact ⟨_, fd, (He.cls_ok (x := "Register") (c.fact 66 rfl)), He.meth_ok (x := "Register") (m := "need_entries") (c.fact 168 rfl), F⟩
theorem d_Register_put : Dme K (He.ga K "Register") "put" "Register.put" s_Register_put := by
  obtain ⟨fd, F⟩ := c.def_ 45 rfl
  exact ⟨_, fd, (He.cls_ok (x := "Register") (c.fact 66 rfl)), He.meth_ok (x := "Register") (m := "put") (c.fact 169 rfl), F⟩
theorem d_Register_take : Dme K (He.ga K "Register") "take" "Register.take" s_Register_take := by
  obtain ⟨fd, F⟩ := c.def_ 46 rfl
  exact ⟨_, fd, (He.cls_ok (x := "Register") (c.fact 66 rfl)), He.meth_ok (x := "Register") (m := "take") (c.fact 170 rfl), F⟩
theorem d_Register_swap : Dme K (He.ga K "Register") "swap" "Register.swap" s_Register_swap := by
  obtain ⟨fd, F⟩ := c.def_ 47 rfl
  exact ⟨_, fd, (He.cls_ok (x := "Register") (c.fact 66 rfl)), He.meth_ok (x := "Register") (m := "swap") (c.fact 171 rfl), F⟩
theorem d_Register_turn : Dme K (He.ga K "Register") "turn" "Register.turn" s_Register_turn := by
  obtain ⟨fd, F⟩ := c.def_ 48 rfl
  exact ⟨_, fd, (He.cls_ok (x := "Register") (c.fact 66 rfl)), He.meth_ok (x := "Register") (m := "turn") (c.fact 172 rfl), F⟩
theorem d_Register_promise : Dme K (He.ga K "Register") "promise" "Register.promise" s_Register_promise := by
  obtain ⟨fd, F⟩ := c.def_ 49 rfl
  exact ⟨_, fd, (He.cls_ok (x := "Register") (c.fact 66 rfl)), He.meth_ok (x := "Register") (m := "promise") (c.fact 173 rfl), F⟩
theorem d_Register_undo : Dme K (He.ga K "Register") "undo" "Register.undo" s_Register_undo := by
  obtain ⟨fd, F⟩ := c.def_ 50 rfl
  exact ⟨_, fd, (He.cls_ok (x := "Register") (c.fact 66 rfl)), He.meth_ok (x := "Register") (m := "undo") (c.fact 174 rfl), F⟩
theorem d_Register_redo : Dme K (He.ga K "Register") "redo" "Register.redo" s_Register_redo := by
  obtain ⟨fd, F⟩ := c.def_ 51 rfl
  exact ⟨_, fd, (He.cls_ok (x := "Register") (c.fact 66 rfl)), He.meth_ok (x := "Register") (m := "redo") (c.fact 175 rfl), F⟩
theorem d_law_taken : Dfn K mg "_law_taken" s_law_taken := by
  obtain ⟨fd, F⟩ := c.def_ 52 rfl
  exact ⟨_, fd, He.glo_ok X G (x := "_law_taken") (c.fact 176 rfl), F⟩
theorem d_law_pick : Dfn K mg "_law_pick" s_law_pick := by
  obtain ⟨fd, F⟩ := c.def_ 53 rfl
  exact ⟨_, fd, He.glo_ok X G (x := "_law_pick") (c.fact 177 rfl), F⟩
theorem d_law_table : Dfn K mg "_law_table" s_law_table := by
  obtain ⟨fd, F⟩ := c.def_ 54 rfl
  exact ⟨_, fd, He.glo_ok X G (x := "_law_table") (c.fact 178 rfl), F⟩
theorem d_law_plain : Dfn K mg "_law_plain" s_law_plain := by
  obtain ⟨fd, F⟩ := c.def_ 55 rfl
  exact ⟨_, fd, He.glo_ok X G (x := "_law_plain") (c.fact 179 rfl), F⟩
theorem d_law_rules : Dfn K mg "_law_rules" s_law_rules := by
  obtain ⟨fd, F⟩ := c.def_ 56 rfl
  exact ⟨_, fd, He.glo_ok X G (x := "_law_rules") (c.fact 180 rfl), F⟩
theorem d_law_modules : Dfn K mg "_law_modules" s_law_modules := by
  obtain ⟨fd, F⟩ := c.def_ 57 rfl
  exact ⟨_, fd, He.glo_ok X G (x := "_law_modules") (c.fact 181 rfl), F⟩
theorem d_law_made : Dfn K mg "_law_made" s_law_made := by
  obtain ⟨fd, F⟩ := c.def_ 58 rfl
  exact ⟨_, fd, He.glo_ok X G (x := "_law_made") (c.fact 182 rfl), F⟩
theorem d_law_all : Dfn K mg "_law_all" s_law_all := by
  obtain ⟨fd, F⟩ := c.def_ 59 rfl
  exact ⟨_, fd, He.glo_ok X G (x := "_law_all") (c.fact 183 rfl), F⟩
theorem d_law_acted : Dfn K mg "_law_acted" s_law_acted := by
  obtain ⟨fd, F⟩ := c.def_ 60 rfl
  exact ⟨_, fd, He.glo_ok X G (x := "_law_acted") (c.fact 184 rfl), F⟩
theorem d_law_ran : Dfn K mg "_law_ran" s_law_ran := by
  obtain ⟨fd, F⟩ := c.def_ 61 rfl
  exact ⟨_, fd, He.glo_ok X G (x := "_law_ran") (c.fact 185 rfl), F⟩
theorem d_law_run : Dfn K mg "_law_run" s_law_run := by
  obtain ⟨fd, F⟩ := c.def_ 62 rfl
  exact ⟨_, fd, He.glo_ok X G (x := "_law_run") (c.fact 186 rfl), F⟩
theorem d_law_where : Dfn K mg "_law_where" s_law_where := by
  obtain ⟨fd, F⟩ := c.def_ 63 rfl
  exact ⟨_, fd, He.glo_ok X G (x := "_law_where") (c.fact 187 rfl), F⟩
theorem d_law_turned : Dfn K mg "_law_turned" s_law_turned := by
  obtain ⟨fd, F⟩ := c.def_ 64 rfl
  exact ⟨_, fd, He.glo_ok X G (x := "_law_turned") (c.fact 188 rfl), F⟩
theorem d_law_changed : Dfn K mg "_law_changed" s_law_changed := by
  obtain ⟨fd, F⟩ := c.def_ 65 rfl
  exact ⟨_, fd, He.glo_ok X G (x := "_law_changed") (c.fact 189 rfl), F⟩
theorem d_law_done : Dfn K mg "_law_done" s_law_done := by
  obtain ⟨fd, F⟩ := c.def_ 66 rfl
  exact ⟨_, fd, He.glo_ok X G (x := "_law_done") (c.fact 190 rfl), F⟩
theorem d_law_unlike : Dfn K mg "_law_unlike" s_law_unlike := by
  obtain ⟨fd, F⟩ := c.def_ 67 rfl
  exact ⟨_, fd, He.glo_ok X G (x := "_law_unlike") (c.fact 191 rfl), F⟩
theorem d_law : Dfn K mg "law" s_law := by
  obtain ⟨fd, F⟩ := c.def_ 68 rfl
  exact ⟨_, fd, He.glo_ok X G (x := "law") (c.fact 192 rfl), F⟩
end
end LF

end

section
set_option Elab.async false
set_option linter.all false
set_option maxRecDepth 100000
set_option maxHeartbeats 0
/-! The head's run. -/
namespace LSH
open PySem PySem.Spec PyProof.Rows L2
abbrev R : PySem.W.OpenRow := PySem.W.OpenLaw.row PySem.Challenge.rw_loginstacks_k71_whole_registers_beside_c
def n1 : List PySem.Str := ["_wall", "StackError", "InvalidRule", "InvalidStack", "InvalidAnswers", "InvalidPlace", "UnknownRule", "TooMany", "InvalidWord", "PromiseBroken", "YES", "NO", "SKIP", "GONE", "RESULTS", "OK", "BAD", "DIE", "DONE", "IGNORE", "RESET", "ACTIONS", "MOST_JUMP", "KINDS", "LETTERS", "MOST_LETTERS", "is_number", "is_word", "is_action", "table_of"]
def n2 : List PySem.Str := ["Rule", "MOST_ENTRIES", "MOST_RULES", "MOST_MODULES", "MOST_DEPTH", "Stack", "steps_of", "firsts_of", "IN", "OUT", "NONE", "GOOD", "Run", "marked", "need_answers", "all_answers", "outcomes", "agrees", "both_outcomes", "first_difference", "alike", "need_word", "OPEN", "where_all", "settled", "with_control", "State", "Register"]
def n3 : List PySem.Str := ["_law_taken", "_law_pick", "_law_table", "_law_plain", "_law_rules", "_law_modules", "_law_made", "_law_all", "_law_acted", "_law_ran", "_law_run", "_law_where", "_law_turned", "_law_changed", "_law_done", "_law_unlike"]
def names : List PySem.Str := n1 ++ (n2 ++ n3)
theorem run (w : World) : HandSHeadRun.RunEq R (PySem.W.view R.prog [84]) LF.hkL LF.obL 7000 names w :=
  PySem.W.byRow2 "special-get-raises" (P := fun w => HandSHeadRun.RunEq R (PySem.W.view R.prog [84]) LF.hkL LF.obL 7000 names w)
    (fun w => by intro os; kernel_rfl) (fun w => by intro os; kernel_rfl) w
end LSH

end

section
set_option Elab.async false
set_option linter.all false
set_option maxRecDepth 100000
set_option maxHeartbeats 2000000
/-! How the plain data stand in the heap. -/
namespace LR
open PySem PySem.Spec PyProof.Rows L2 LK LT LD

/-! ### what never changes -/
def Fixd : HO → Prop
  | .tup _ => True
  | .ins .. => True
  | .frz _ (.tup _) => True
  | .dK _ => True
  | _ => False
def Fx (H H' : Hp) : Prop := ∀ a o, H a = some o → Fixd o → H' a = some o
/-- all but what stands at b is kept -/
def Up (b : Addr) (H H' : Hp) : Prop := ∀ a o, a ≠ b → H a = some o → H' a = some o
theorem Fx.refl {H : Hp} : Fx H H := fun _ _ h _ => h
theorem Fx.trans {H H1 H2 : Hp} (a : Fx H H1) (b : Fx H1 H2) : Fx H H2 := fun c o h f => b c o (a c o h f) f
theorem _root_.L2.Ext.fx {H H' : Hp} (e : Ext H H') : Fx H H' := fun a o h _ => e a o h
theorem Up.fx {H H' : Hp} {b : Addr} {o : HO} (u : Up b H H') (hb : H b = some o) (f : ¬ Fixd o) : Fx H H' := fun a o' h f' => by
  refine u a o' (fun e => ?_) h
  subst e
  rw [hb] at h
  cases h
  exact f f'
theorem Fx.upd {H : Hp} {b : Addr} {o u : HO} (hb : H b = some o) (f : ¬ Fixd o) : Fx H (L2.upd H b u) := fun a o' h f' => by
  rw [upd_ne (fun e => ?_)]
  · exact h
  · subst e
    rw [hb] at h
    cases h
    exact f f'
theorem Fx.new {H : Hp} {b : Addr} {u : HO} (hb : H b = none) : Fx H (L2.upd H b u) := (Ext.upd hb).fx
theorem Up.refl {b : Addr} {H : Hp} : Up b H H := fun _ _ _ h => h
theorem Up.trans {b : Addr} {H H1 H2 : Hp} (x : Up b H H1) (y : Up b H1 H2) : Up b H H2 := fun a o n h => y a o n (x a o n h)
theorem Up.ext {b : Addr} {H H' : Hp} (e : Ext H H') : Up b H H' := fun a o _ h => e a o h
theorem Up.upd {b : Addr} {H : Hp} {u : HO} : Up b H (L2.upd H b u) := fun a o n h => by rw [upd_ne n]; exact h
theorem Up.new {b c : Addr} {H : Hp} {u : HO} (hc : H c = none) : Up b H (L2.upd H c u) := Up.ext (Ext.upd hc)
/-- from a function that filled what was free at its start -/
theorem Up.free {b : Addr} {H H' : Hp} (u : Up b H H') (hb : H b = none) : Ext H H' := fun a o h => u a o (ne_of_none h hb) h
section
variable {K : PySem.W.Frag} {H H' : Hp} {a : Addr} {xs : List V}
theorem sqT_fx (h : SqT K H a xs) (e : Fx H H') : SqT K H' a xs :=
  h.elim (fun h => .inl (h.elim (fun h => .inl (e _ _ h trivial)) fun ⟨o, h⟩ => .inr ⟨o, e _ _ h trivial⟩)) fun h => .inr h
theorem SqT.new {p : Addr} : SqT K (upd H p (.tup xs)) p xs := .inl (.inl upd_same)
end
theorem Paired.get' {α β : Type} {R : α → β → Prop} : ∀ {xs : List α} {ys : List β}, Paired R xs ys → ∀ {i : Nat} {x : α} {y : β}, xs[i]? = some x → ys[i]? = some y → R x y
  | _, _, .nil, i, x, y, h, _ => by simp at h
  | _, _, .cons r t, 0, x, y, h1, h2 => by
    simp at h1 h2
    subst h1 h2
    exact r
  | _, _, .cons r t, i + 1, x, y, h1, h2 => Paired.get' t (i := i) (by simpa using h1) (by simpa using h2)
theorem Paired.app {α β : Type} {R : α → β → Prop} : ∀ {xs xs' : List α} {ys ys' : List β}, Paired R xs ys → Paired R xs' ys' → Paired R (xs ++ xs') (ys ++ ys')
  | _, _, _, _, .nil, h => h
  | _, _, _, _, .cons r t, h => .cons r (Paired.app t h)
theorem Paired.len {α β : Type} {R : α → β → Prop} : ∀ {xs : List α} {ys : List β}, Paired R xs ys → xs.length = ys.length
  | _, _, .nil => rfl
  | _, _, .cons _ t => by rw [List.length_cons, List.length_cons, Paired.len t]
theorem Paired.tk {α β : Type} {R : α → β → Prop} : ∀ {xs : List α} {ys : List β}, Paired R xs ys → ∀ n, Paired R (xs.take n) (ys.take n)
  | _, _, .nil, n => by rw [List.take_nil, List.take_nil]; exact .nil
  | _, _, .cons r t, 0 => .nil
  | _, _, .cons r t, n + 1 => .cons r (Paired.tk t n)
theorem Paired.dr {α β : Type} {R : α → β → Prop} : ∀ {xs : List α} {ys : List β}, Paired R xs ys → ∀ n, Paired R (xs.drop n) (ys.drop n)
  | _, _, .nil, n => by rw [List.drop_nil, List.drop_nil]; exact .nil
  | _, _, .cons r t, 0 => .cons r t
  | _, _, .cons r t, n + 1 => Paired.dr t n
theorem Paired.imp {α β : Type} {R S : α → β → Prop} (f : ∀ a b, R a b → S a b) : ∀ {xs : List α} {ys : List β}, Paired R xs ys → Paired S xs ys
  | _, _, .nil => .nil
  | _, _, .cons r t => .cons (f _ _ r) (Paired.imp f t)

/-! ### rules, stacks -/
section
variable (K : PySem.W.Frag) (z : Ad)
def RuleAt (H : Hp) (b : Addr) (r : Rul) : Prop := ∃ dx fs t, H b = some (.ins z.cR dx fs) ∧ fs.lookup ("asks" : Str) = some (V.str r.m.s) ∧ fs.lookup ("acts" : Str) = some (V.ref t) ∧ SqT K H t r.vs ∧ fs.lookup ("action_for" : Str) = none
def RulV (H : Hp) (x : V) (r : Rul) : Prop := ∃ c, x = .ref c ∧ RuleAt K z H c r
def modV (es : List Ent) : List V := (mods es).map fun m => V.str m.s
/-- a stack no deeper than d -/
def StkAt : Nat → Hp → Addr → List Ent → Prop
  | 0, _, _, _ => False
  | d + 1, H, b, es => ∃ dx fs p q n, ∃ i : Int, ∃ ps qs, H b = some (.ins z.cS dx fs) ∧ fs.lookup ("parts" : Str) = some (V.ref p) ∧ SqT K H p ps ∧
      Paired (fun x e => ∃ c, x = V.ref c ∧ (match e with
        | .rule r => RuleAt K z H c r
        | .inner rs => StkAt d H c (rs.map .rule))) ps es ∧
      fs.lookup ("steps" : Str) = some (V.ref q) ∧ SqT K H q qs ∧ Paired (RulV K z H) qs (flat es) ∧ fs.lookup ("names" : Str) = some (V.ref n) ∧ SqT K H n (modV es) ∧ fs.lookup ("depth" : Str) = some (V.int i) ∧ 1 ≤ i ∧ i ≤ (d : Int) + 1 ∧ fs.lookup ("spliced" : Str) = none
/-- an entry of a stack no deeper than d + 1 -/
def EntAt (d : Nat) (H : Hp) (c : Addr) (e : Ent) : Prop := match e with
  | .rule r => RuleAt K z H c r
  | .inner rs => StkAt K z d H c (rs.map .rule)
def EntV (d : Nat) (H : Hp) (x : V) (e : Ent) : Prop := ∃ c, x = .ref c ∧ EntAt K z d H c e
end
section
variable {K : PySem.W.Frag} {z : Ad} {H H' : Hp}
theorem RuleAt.fx {b : Addr} {r : Rul} (h : RuleAt K z H b r) (e : Fx H H') : RuleAt K z H' b r := by
  obtain ⟨dx, fs, t, h1, h2, h3, h4, h5⟩ := h
  exact ⟨dx, fs, t, e _ _ h1 trivial, h2, h3, sqT_fx h4 e, h5⟩
theorem RulV.fx {x : V} {r : Rul} (h : RulV K z H x r) (e : Fx H H') : RulV K z H' x r := let ⟨c, h1, h2⟩ := h; ⟨c, h1, h2.fx e⟩
theorem rulsFx {xs : List V} {rs : List Rul} (h : Paired (RulV K z H) xs rs) (e : Fx H H') : Paired (RulV K z H') xs rs := Paired.imp (fun _ _ h => h.fx e) h
theorem StkAt.fx : ∀ {d : Nat} {b : Addr} {es : List Ent}, StkAt K z d H b es → Fx H H' → StkAt K z d H' b es
  | 0, _, _, h, _ => h.elim
  | d + 1, b, es, h, e => by
    obtain ⟨dx, fs, p, q, n, i, ps, qs, h1, h2, h3, h4, h5, h6, h7, h8, h9, h10, h11⟩ := h
    refine ⟨dx, fs, p, q, n, i, ps, qs, e _ _ h1 trivial, h2, sqT_fx h3 e, Paired.imp (fun x e' h => ?_) h4, h5, sqT_fx h6 e, rulsFx h7 e, h8, sqT_fx h9 e, h10, h11⟩
    obtain ⟨c, hx, hc⟩ := h
    refine ⟨c, hx, ?_⟩
    cases e' with
    | rule r => exact RuleAt.fx hc e
    | inner rs => exact StkAt.fx (d := d) hc e
theorem EntAt.fx {d : Nat} {c : Addr} {e : Ent} (h : EntAt K z d H c e) (f : Fx H H') : EntAt K z d H' c e := by
  cases e with
  | rule r => exact RuleAt.fx h f
  | inner rs => exact StkAt.fx h f
theorem EntV.fx {d : Nat} {x : V} {e : Ent} (h : EntV K z d H x e) (f : Fx H H') : EntV K z d H' x e := let ⟨c, h1, h2⟩ := h; ⟨c, h1, h2.fx f⟩
theorem entsFx {d : Nat} {xs : List V} {es : List Ent} (h : Paired (EntV K z d H) xs es) (f : Fx H H') : Paired (EntV K z d H') xs es := Paired.imp (fun _ _ h => h.fx f) h
/-- a stack, opened -/
theorem StkAt.open {d : Nat} {b : Addr} {es : List Ent} (h : StkAt K z d H b es) : ∃ d', d = d' + 1 ∧ ∃ dx fs p q n, ∃ i : Int, ∃ ps qs, H b = some (.ins z.cS dx fs) ∧ fs.lookup ("parts" : Str) = some (V.ref p) ∧ SqT K H p ps ∧
      Paired (EntV K z d' H) ps es ∧ fs.lookup ("steps" : Str) = some (V.ref q) ∧ SqT K H q qs ∧ Paired (RulV K z H) qs (flat es) ∧ fs.lookup ("names" : Str) = some (V.ref n) ∧ SqT K H n (modV es) ∧ fs.lookup ("depth" : Str) = some (V.int i) ∧ 1 ≤ i ∧ i ≤ (d' : Int) + 1 ∧ fs.lookup ("spliced" : Str) = none := by
  cases d with
  | zero => exact h.elim
  | succ d =>
    obtain ⟨dx, fs, p, q, n, i, ps, qs, h1, h2, h3, h4, h5⟩ := h
    exact ⟨d, rfl, dx, fs, p, q, n, i, ps, qs, h1, h2, h3, Paired.imp (fun x e' h => by
      obtain ⟨c, hx, hc⟩ := h
      refine ⟨c, hx, ?_⟩
      cases e' with
      | rule r => exact hc
      | inner rs => exact hc) h4, h5⟩
theorem StkAt.close {d : Nat} {b dx p q n : Addr} {es : List Ent} {fs : List (Str × V)} {i : Int} {ps qs : List V} (h1 : H b = some (.ins z.cS dx fs)) (h2 : fs.lookup ("parts" : Str) = some (V.ref p)) (h3 : SqT K H p ps)
    (h4 : Paired (EntV K z d H) ps es) (h5 : fs.lookup ("steps" : Str) = some (V.ref q)) (h6 : SqT K H q qs) (h7 : Paired (RulV K z H) qs (flat es)) (h8 : fs.lookup ("names" : Str) = some (V.ref n)) (h9 : SqT K H n (modV es))
    (h10 : fs.lookup ("depth" : Str) = some (V.int i)) (h11 : 1 ≤ i ∧ i ≤ (d : Int) + 1 ∧ fs.lookup ("spliced" : Str) = none) : StkAt K z (d + 1) H b es := by
  refine ⟨dx, fs, p, q, n, i, ps, qs, h1, h2, h3, Paired.imp (fun x e' h => ?_) h4, h5, h6, h7, h8, h9, h10, h11⟩
  obtain ⟨c, hx, hc⟩ := h
  refine ⟨c, hx, ?_⟩
  cases e' with
  | rule r => exact hc
  | inner rs => exact hc
theorem entDep : ∀ {d : Nat} {ps : List V} {es : List Ent}, Paired (EntV K z d H) ps es → Dep (d + 1) es := by
  intro d ps es h
  cases d with
  | succ d => trivial
  | zero =>
    have q : ∀ {ps : List V} {es : List Ent}, Paired (EntV K z 0 H) ps es → ∀ e ∈ es, ∃ r, e = Ent.rule r := by
      intro ps es h
      induction h with
      | nil => intro e he; cases he
      | @cons x e' ps es h t ih =>
        intro e he
        rcases List.mem_cons.mp he with q | q
        · subst q
          obtain ⟨c, _, hc⟩ := h
          cases e with
          | rule r => exact ⟨r, rfl⟩
          | inner rs => exact hc.elim
        · exact ih e q
    exact q h
theorem stkDep {d : Nat} {b : Addr} {es : List Ent} (h : StkAt K z d H b es) : Dep d es := by
  obtain ⟨d', rfl, dx, fs, p, q, n, i, ps, qs, h1, h2, h3, h4, _⟩ := h.open
  exact entDep h4
/-- while one object, still without fields at the start, is filled -/
theorem sqT_up {x a C dx : Addr} {xs : List V} {fs : List (Str × V)} (h : SqT K H a xs) (u : Up x H H') (hx : H x = some (.ins C dx fs)) : SqT K H' a xs := by
  rcases h with (h | ⟨o, h⟩) | h
  · exact .inl (.inl (u _ _ (ne_of h hx (by intro z; cases z)) h))
  · exact .inl (.inr ⟨o, u _ _ (ne_of h hx (by intro z; cases z)) h⟩)
  · exact .inr h
theorem RuleAt.up {x b C dx : Addr} {r : Rul} (h : RuleAt K z H b r) (u : Up x H H') (hx : H x = some (.ins C dx [])) : RuleAt K z H' b r := by
  obtain ⟨dx', fs, t, h1, h2, h3, h4, h5⟩ := h
  refine ⟨dx', fs, t, u _ _ (fun e => ?_) h1, h2, h3, sqT_up h4 u hx, h5⟩
  subst e
  rw [hx] at h1
  cases h1
  cases h2
theorem RulV.up {x C dx : Addr} {v : V} {r : Rul} (h : RulV K z H v r) (u : Up x H H') (hx : H x = some (.ins C dx [])) : RulV K z H' v r := let ⟨c, h1, h2⟩ := h; ⟨c, h1, h2.up u hx⟩
theorem StkAt.up : ∀ {d : Nat} {x b C dx : Addr} {es : List Ent}, StkAt K z d H b es → Up x H H' → H x = some (.ins C dx []) → StkAt K z d H' b es
  | 0, _, _, _, _, _, h, _, _ => h.elim
  | d + 1, x, b, C, dx, es, h, u, hx => by
    obtain ⟨dx', fs, p, q, n, i, ps, qs, h1, h2, h3, h4, h5, h6, h7, h8, h9, h10, h11⟩ := h
    refine ⟨dx', fs, p, q, n, i, ps, qs, u _ _ (fun e => ?_) h1, h2, sqT_up h3 u hx, Paired.imp (fun y e' h => ?_) h4, h5, sqT_up h6 u hx, Paired.imp (fun _ _ h => h.up u hx) h7, h8, sqT_up h9 u hx, h10, h11⟩
    · subst e
      rw [hx] at h1
      cases h1
      cases h2
    · obtain ⟨c, hy, hc⟩ := h
      refine ⟨c, hy, ?_⟩
      cases e' with
      | rule r => exact RuleAt.up hc u hx
      | inner rs => exact StkAt.up (d := d) hc u hx
theorem EntV.up {d : Nat} {x C dx : Addr} {v : V} {e : Ent} (h : EntV K z d H v e) (u : Up x H H') (hx : H x = some (.ins C dx [])) : EntV K z d H' v e := by
  obtain ⟨c, hy, hc⟩ := h
  refine ⟨c, hy, ?_⟩
  cases e with
  | rule r => exact RuleAt.up hc u hx
  | inner rs => exact StkAt.up hc u hx
/-- the object itself -/
theorem RuleAt.ins {b : Addr} {r : Rul} (h : RuleAt K z H b r) : ∃ dx fs, H b = some (.ins z.cR dx fs) := let ⟨dx, fs, _, h1, _⟩ := h; ⟨dx, fs, h1⟩
theorem StkAt.ins {d : Nat} {b : Addr} {es : List Ent} (h : StkAt K z d H b es) : ∃ dx fs, H b = some (.ins z.cS dx fs) := by
  obtain ⟨d', rfl, dx, fs, p, q, n, i, ps, qs, h1, _⟩ := h.open
  exact ⟨dx, fs, h1⟩
end
end LR

end

section
set_option Elab.async false
set_option linter.all false
set_option maxRecDepth 100000
set_option maxHeartbeats 2000000
/-! steps_of, firsts_of. -/
namespace LP
open PySem PySem.Spec PyProof.Rows L2 LK LT LD LR
def firstAt (n : Nat) (es : List Ent) (i : Nat) : V := V.int ((n + (flat (es.take i)).length : Nat) : Int)
def firstsL (n : Nat) (es : List Ent) : List V := (List.range es.length).map (firstAt n es)
theorem flat_take {es : List Ent} {i : Nat} {e : Ent} (h : es[i]? = some e) : flat (es.take (i + 1)) = flat (es.take i) ++ e.rules := by
  rw [List.take_add_one, h, flat_append, Option.toList_some, flat_cons, flat_nil, List.append_nil]
theorem flat_take_le (es : List Ent) (i : Nat) : (flat (es.take i)).length ≤ (flat es).length := by
  have h := congrArg (fun l => (flat l).length) (List.take_append_drop i es)
  simp only [flat_append, List.length_append] at h
  omega
theorem lt_line {n : Nat} (h : n ≤ 100000) : n < sizeLine := Nat.lt_of_le_of_lt h (by decide)
theorem le_line {n : Nat} (h : n ≤ 100000) : n ≤ sizeLine := Nat.le_of_lt (lt_line h)
section
variable {P : Program} {w : World} {K : PySem.W.Frag} {mg : Str → Option Value} {base : Heap} {z : Ad}

def spSteps (K : PySem.W.Frag) (z : Ad) : Sp := fun vs H Q _ => ∃ c d e, vs = [V.ref c] ∧ EntAt K z d H c e ∧
  ∀ t qs H', Ext H H' → SqT K H' t qs → Paired (RulV K z H') qs e.rules → Q (.ref t) H'
theorem c_steps_of (T : Txt K mg z) (D : Dfn K mg "steps_of" s_steps_of) : Cal P w K mg base 1 "steps_of" (spSteps K z) := by
  refine D.cal sc_steps_of (fun _ _ _ _ _ _ us hl => match us, hl with | [_], _ => rfl) (fun vs H Q E ⟨c, d, e, h, _⟩ => by rw [h]; rfl) fun f cdv A outer s H vs Q E hr ⟨c, d, e, hv, he, q⟩ => ⟨_, PSs.nox
    (pss_one (ps_ret (pe_ifExp (pt_val (pe_isO rfl T.f_isinstance rfl T.gS (pv 0))) (pe_f T.fS2 (pv 0)) (pe_tup (pa_cons (pv 0) pa_nil))))), ?_⟩
  subst hv
  cases e with
  | rule r =>
    obtain ⟨dx, fs, h1⟩ := RuleAt.ins he
    refine ⟨_, rfl, c, _, dx, fs, false, rfl, h1, ⟨T.oR, T.rs⟩, false, rfl, ?_⟩
    refine iteF ?_
    refine ⟨_, rfl, by show 1 ≤ sizeLine; decide, fun t ht => ?_⟩
    exact q t _ _ (Ext.upd ht) SqT.new (.cons ⟨c, rfl, he.fx (Fx.new ht)⟩ .nil)
  | inner rs =>
    obtain ⟨d', rfl, dx, fs, p, q', n, i, ps, qs, h1, h2, h3, h4, h5, h6, h7, _⟩ := StkAt.open he
    refine ⟨_, rfl, c, _, dx, fs, true, rfl, h1, ⟨T.oS, T.ss⟩, true, rfl, ?_⟩
    refine iteT ?_
    refine ⟨_, rfl, c, dx, fs, _, rfl, h1, h5, ?_⟩
    rw [flat_rules] at h7
    exact q q' qs H Ext.rfl' h6 h7

/-- firsts_of(stack, first) -/
def spFirsts (K : PySem.W.Frag) (z : Ad) : Sp := fun vs H Q _ => ∃ b d es n, vs = [V.ref b, V.int ((n : Nat) : Int)] ∧ StkAt K z d H b es ∧ es.length ≤ 12 ∧ (flat es).length ≤ 12 ∧
  ∀ l H', H l = none → Ext H H' → H' l = some (.lst (firstsL n es)) → Q (.ref l) H'
theorem c_firsts_of (T : Txt K mg z) (D : Dfn K mg "firsts_of" s_firsts_of) (C1 : Cal P w K mg base 1 "steps_of" (spSteps K z)) : Cal P w K mg base 2 "firsts_of" (spFirsts K z) := by
  refine D.cal sc_firsts_of (fun _ _ _ _ _ _ us hl => match us, hl with | [_, _], _ => rfl) (fun vs H Q E ⟨b, d, es, n, h, _⟩ => by rw [h]; rfl) fun f cdv A outer s H vs Q E hr ⟨b, d, es, n, hv, hb, h12, hf12, q⟩ => ⟨_, PSs.nox
    (pss_cons (ps_set (i := 2) sc_firsts_of.nd rfl (Or.inl rfl) (pe_lst pa_nil))
    (pss_cons (ps_for PassesOwn.never rfl (pi_tup (pe_f T.fS1 (pv 0))) (pg_name (i := 3) sc_firsts_of.nd rfl (Or.inl rfl))
      (pss_cons (ps_expr (pe_bm PySem.F.plainAttrs_list PySem.F.slot_list_append PySem.F.type_list_append mt_append (pv 2) (pa_cons (pv 1) pa_nil)))
      (pss_one (ps_aug (i := 1) sc_firsts_of.nd rfl (Or.inl rfl) (pe_callB call_len (by rfl) T.f_len boot_len (pa_cons (pe_c C1 hr (by decide) rfl (pa_cons (pv 3) pa_nil)) pa_nil)) ip_add))))
    (pss_one (ps_ret (pv 2))))), ?_⟩
  subst hv
  obtain ⟨d', rfl, dx, fs, p, q', nm, i, ps, qs, h1, h2, h3, h4, h5, h6, h7, _⟩ := StkAt.open hb
  refine ⟨by decide, fun l hl => ?_⟩
  have hln := Paired.len h4
  refine ⟨_, rfl, b, dx, fs, _, rfl, Ext.upd hl _ _ h1, h2, p, rfl, ⟨_, sqT_fx h3 (Fx.new hl)⟩, ?_⟩
  refine for_tup (xs := ps) (fun i σ H1 => ∃ x3, σ = [some (V.ref b), some (V.int ((n + (flat (es.take i)).length : Nat) : Int)), some (V.ref l), x3] ∧ Up l (L2.upd H l (.lst [])) H1 ∧ H1 l = some (.lst ((List.range i).map (firstAt n es)))) ⟨none, rfl, Up.refl, upd_same⟩ ?_ ?_ ?_
  · rintro i σ H1 hi ⟨x3, rfl, u, hl1⟩
    exact sqT_fx h3 ((Fx.new hl).trans (u.fx upd_same (by simp [Fixd])))
  · rintro i x σ H1 hx ⟨x3, rfl, u, hl1⟩
    have fx : Fx H H1 := (Fx.new hl).trans (u.fx upd_same (by simp [Fixd]))
    have hi : i < es.length := by rw [← hln]; exact (List.getElem?_eq_some_iff.mp hx).1
    obtain ⟨c, rfl, he⟩ := Paired.get' h4 hx (List.getElem?_eq_getElem hi)
    refine ⟨_, rfl, .inl ⟨rfl, _, SqL.of hl1⟩, _, rfl, l, _, _, rfl, rfl, hl1, by rw [List.length_map, List.length_range]; exact lt_line (by omega), ?_⟩
    refine ⟨_, rfl, _, rfl, c, d', es[i], rfl, he.fx (fx.trans (Fx.upd hl1 (by simp [Fixd]))), fun t qs' H2 e2 ht hq => ?_⟩
    refine ⟨_, _, rfl, .inr ⟨_, ht, rfl⟩, ?_⟩
    refine ⟨_, _, rfl, rfl, ?_⟩
    refine ⟨some (V.ref c), ?_, u.trans ((Up.upd).trans (Up.ext e2)), ?_⟩
    · have e := Paired.len hq
      have e2 := flat_take (List.getElem?_eq_getElem hi)
      show [some (V.ref b), some (V.int _), some (V.ref l), some (V.ref c)] = _
      rw [e2, List.length_append, e]
      have e3 : ((n + ((flat (es.take i)).length + es[i].rules.length) : Nat) : Int) = ((n + (flat (es.take i)).length : Nat) : Int) + ((es[i].rules.length : Nat) : Int) := by omega
      rw [e3]
    · rw [e2 _ _ upd_same, List.range_succ, List.map_append]
      rfl
  · rintro σ H1 ⟨x3, rfl, u, hl1⟩
    refine ⟨_, rfl, ?_⟩
    rw [hln] at hl1
    exact q l H1 hl (((Up.upd).trans u).free hl) hl1
end
end LP

end

section
set_option Elab.async false
set_option linter.all false
set_option maxRecDepth 100000
set_option maxHeartbeats 2000000
/-! marked, action_for, is_number, is_action. -/
namespace LP
open PySem PySem.Spec PyProof.Rows L2 LK LT LD LR
section
variable {P : Program} {w : World} {K : PySem.W.Frag} {mg : Str → Option Value} {base : Heap} {z : Ad}

def MkAt (K : PySem.W.Frag) (H : Hp) (v : V) (m : Mrk) : Prop := ∃ a, v = .ref a ∧ (match m with
  | .none => SqT K H a [.str "none", .non]
  | .good => SqT K H a [.str "good", .non]
  | .bad => ∃ n : Int, SqT K H a [.str "bad", .int n])
theorem MkAt.fx {H H' : Hp} {v : V} {m : Mrk} (h : MkAt K H v m) (e : Fx H H') : MkAt K H' v m := by
  obtain ⟨a, rfl, h⟩ := h
  refine ⟨a, rfl, ?_⟩
  cases m with
  | none => exact sqT_fx h e
  | good => exact sqT_fx h e
  | bad => obtain ⟨n, h⟩ := h; exact ⟨n, sqT_fx h e⟩
/-- a mark's word -/
def mkW : Mrk → Str
  | .none => "none" | .good => "good" | .bad => "bad"
theorem MkAt.sq {H : Hp} {v : V} {m : Mrk} (h : MkAt K H v m) : ∃ a x d, v = .ref a ∧ SqT K H a [.str (mkW m), x] ∧ Dp K H x d ∧ ((m = .bad ∧ ∃ n, d = .int n) ∨ (m ≠ .bad ∧ d = .none)) := by
  obtain ⟨a, rfl, h⟩ := h
  cases m with
  | none => exact ⟨a, _, _, rfl, h, .non, .inr ⟨by decide, rfl⟩⟩
  | good => exact ⟨a, _, _, rfl, h, .non, .inr ⟨by decide, rfl⟩⟩
  | bad => obtain ⟨n, h⟩ := h; exact ⟨a, _, _, rfl, h, .int n, .inl ⟨rfl, n, rfl⟩⟩
theorem MkAt.dp {H : Hp} {v : V} {m : Mrk} (h : MkAt K H v m) : ∃ d, Dp K H v (.tuple [.str (mkW m), d]) ∧ ((m = .bad ∧ ∃ n, d = .int n) ∨ (m ≠ .bad ∧ d = .none)) := by
  obtain ⟨a, x, d, rfl, h, hd, c⟩ := h.sq
  exact ⟨d, .tup h (.cons (.str _) (.cons hd .nil)), c⟩
/-- how a mark compares with NONE, GOOD -/
theorem mk_eqv {m m' : Mrk} {d d' : PyData} (c : (m = .bad ∧ ∃ n, d = .int n) ∨ (m ≠ .bad ∧ d = .none)) (c' : m' ≠ .bad ∧ d' = .none) : PyData.eqv (.tuple [.str (mkW m), d]) (.tuple [.str (mkW m'), d']) = decide (m = m') := by
  obtain ⟨h', rfl⟩ := c'
  rcases c with ⟨rfl, n, rfl⟩ | ⟨h, rfl⟩
  · cases m' with
    | none => rfl
    | good => rfl
    | bad => exact absurd rfl h'
  · cases m <;> cases m' <;> first | rfl | exact absurd rfl h | exact absurd rfl h'
theorem mk_shaped {m : Mrk} {d : PyData} (c : (m = .bad ∧ ∃ n, d = .int n) ∨ (m ≠ .bad ∧ d = .none)) : SeqAt.shaped (.tuple [.str (mkW m), d]) = true := by
  have hs : PyData.strOk (mkW m) = true := by cases m <;> decide +kernel
  rcases c with ⟨rfl, n, rfl⟩ | ⟨h, rfl⟩
  · simp [SeqAt.shaped, PyData.canLay0, PyData.canLayAll0, PyData.depth, PyData.depthAll, hs]
  · simp [SeqAt.shaped, PyData.canLay0, PyData.canLayAll0, PyData.depth, PyData.depthAll, hs]

def spMarked (K : PySem.W.Frag) : Sp := fun vs H Q _ => ∃ (a : Axn) (mv bv : V) (m b : Mrk) (n : Int), vs = [a.v, mv, bv, .int n] ∧ MkAt K H mv m ∧ MkAt K H bv b ∧
  ∀ v H', Ext H H' → MkAt K H' v (acted a m b) → Q v H'
theorem c_marked (T : Txt K mg z) (D : Dfn K mg "marked" s_marked) : Cal P w K mg base 1 "marked" (spMarked K) := by
  obtain ⟨_, gOK⟩ := T.s_OK
  obtain ⟨_, gDONE⟩ := T.s_DONE
  obtain ⟨_, gBAD⟩ := T.s_BAD
  obtain ⟨_, gDIE⟩ := T.s_DIE
  obtain ⟨_, gRESET⟩ := T.s_RESET
  refine D.cal sc_marked (fun _ _ _ _ _ _ us hl => match us, hl with | [_, _, _, _], _ => rfl) (fun vs H Q E ⟨a, mv, bv, m, b, n, h, _⟩ => by rw [h]; rfl) fun f cdv A outer s H vs Q E hr ⟨a, mv, bv, m, b, n, hv, hm, hb, q⟩ => ⟨_, PSs.nox
    (pss_cons (ps_if (pt_cmpR op_in_seq (pv 0) (pe_tup (pa_cons (pe_glob (v := .str "ok") rfl gOK ⟨_, rfl⟩) (pa_cons (pe_glob (v := .str "done") rfl gDONE ⟨_, rfl⟩) pa_nil))) (by rfl))
      (pss_one (ps_ret (pe_ifExp (pt_cmpR (op_eqD hr.units) (pv 1) (pe_glob (v := .ref z.tNone) rfl T.gNone rfl) (nomark _)) (pe_glob (v := .ref z.tGood) rfl T.gGood rfl) (pv 1)))) pss_nil)
    (pss_cons (ps_if (pt_cmpR op_in_seq (pv 0) (pe_tup (pa_cons (pe_glob (v := .str "bad") rfl gBAD ⟨_, rfl⟩) (pa_cons (pe_glob (v := .str "die") rfl gDIE ⟨_, rfl⟩) pa_nil))) (by rfl))
      (pss_one (ps_ret (pe_ifExp (pt_cmpR op_eq (pe_ix ix_tup (pv 1) pe_int (fun _ _ => rfl)) (pe_glob (v := .str "bad") rfl gBAD ⟨_, rfl⟩) (nomark _)) (pv 1) (pe_tup (pa_cons (pe_glob (v := .str "bad") rfl gBAD ⟨_, rfl⟩) (pa_cons (pv 3) pa_nil)))))) pss_nil)
    (pss_one (ps_ret (pe_ifExp (pt_cmpR op_eq (pv 0) (pe_glob (v := .str "reset") rfl gRESET ⟨_, rfl⟩) (nomark _)) (pv 2) (pv 1)))))), ?_⟩
  subst hv
  have fl : flatV a.v = true := by cases a <;> rfl
  refine ⟨_, rfl, by decide, fun t ht => ⟨t, _, rfl, .inr SqT.new, fl, rfl, _, rfl, ?_⟩⟩
  have e1 := Ext.upd ht (o := .tup [.str "ok", .str "done"])
  by_cases c1 : a = .ok ∨ a = .done
  · have hi : (if false = true then !inV a.v [.str "ok", .str "done"] else inV a.v [.str "ok", .str "done"]) = true := by rcases c1 with rfl | rfl <;> decide +kernel
    rw [hi]
    refine iteT ?_
    have hac : acted a m b = if m = .none then .good else m := by rcases c1 with rfl | rfl <;> rfl
    obtain ⟨d, hd, hc⟩ := MkAt.dp (hm.fx e1.fx)
    refine ⟨_, rfl, _, _, hd, .tup (T.kNone.sq _) (.cons (.str "none") (.cons .non .nil)), mk_shaped hc, mk_shaped (m := .none) (.inr ⟨by decide, rfl⟩), _, rfl, ?_⟩
    rw [show PyData.eqv (.tuple [.str (mkW m), d]) (.tuple [.str "none", .none]) = decide (m = .none) from mk_eqv (m' := .none) hc ⟨by decide, rfl⟩]
    refine ite2 (fun h => ?_) fun h => ?_
    · have h' : m = .none := of_decide_eq_true h
      rw [hac, if_pos h'] at q
      exact q _ _ e1 ⟨_, rfl, T.kGood.sq _⟩
    · have h' : m ≠ .none := fun e => h (decide_eq_true e)
      rw [hac, if_neg h'] at q
      exact ⟨_, rfl, q _ _ e1 (hm.fx e1.fx)⟩
  · have hi : (if false = true then !inV a.v [.str "ok", .str "done"] else inV a.v [.str "ok", .str "done"]) = false := by
      revert c1; cases a <;> decide +kernel
    rw [hi]
    refine iteF ?_
    refine ⟨_, rfl, by decide, fun t2 ht2 => ⟨t2, _, rfl, .inr SqT.new, fl, rfl, _, rfl, ?_⟩⟩
    have e2 := Ext.upd' e1 ht2 (o := .tup [.str "bad", .str "die"])
    by_cases c2 : a = .bad ∨ a = .die
    · have hi : (if false = true then !inV a.v [.str "bad", .str "die"] else inV a.v [.str "bad", .str "die"]) = true := by rcases c2 with rfl | rfl <;> decide +kernel
      rw [hi]
      refine iteT ?_
      have hac : acted a m b = .bad := by rcases c2 with rfl | rfl <;> rfl
      rw [hac] at q
      obtain ⟨ma, x, d, rfl, hsq, hd, hc⟩ := MkAt.sq (hm.fx e2.fx)
      refine ⟨_, rfl, _, _, _, _, rfl, rfl, hsq, atI_nat (j := 0) (v := .str (mkW m)) rfl, rfl, _, rfl, ?_⟩
      refine ite2 (fun h => ?_) fun h => ?_
      · have h' : m = .bad := by
          have h2 : V.str (mkW m) = V.str "bad" := of_decide_eq_true h
          revert h2
          cases m <;> decide +kernel
        subst h'
        exact ⟨_, rfl, q _ _ e2 (hm.fx e2.fx)⟩
      · refine ⟨_, rfl, by show 2 ≤ sizeLine; decide, fun p hp => ?_⟩
        exact q _ _ (Ext.upd' e2 hp) ⟨p, rfl, n, SqT.new⟩
    · have hi : (if false = true then !inV a.v [.str "bad", .str "die"] else inV a.v [.str "bad", .str "die"]) = false := by
        revert c2; cases a <;> decide +kernel
      rw [hi]
      refine iteF ?_
      refine ⟨_, rfl, by cases a <;> rfl, _, rfl, ?_⟩
      refine ite2 (fun h => ?_) fun h => ?_
      · have h' : a = .reset := by
          have h2 : a.v = V.str "reset" := of_decide_eq_true h
          revert h2
          cases a <;> decide +kernel
        subst h'
        exact ⟨_, rfl, q _ _ e2 (hb.fx e2.fx)⟩
      · have hac : acted a m b = m := by
          have h2 : a.v ≠ V.str "reset" := fun e => h (decide_eq_true e)
          revert c1 c2 h2
          cases a <;> first | (intros; rfl) | (intro c1 c2 h2; exact absurd (by decide) c1) | (intro c1 c2 h2; exact absurd (by decide) c2) | (intro c1 c2 h2; exact absurd rfl h2)
        rw [hac] at q
        exact ⟨_, rfl, q _ _ e2 (hm.fx e2.fx)⟩

/-- rule.action_for(result) -/
def spAction (K : PySem.W.Frag) (z : Ad) : Sp := fun vs H Q _ => ∃ b r x, vs = [V.ref b, V.str (Res.s x)] ∧ RuleAt K z H b r ∧ Q (r.a x).v H
theorem res_at (x : Res) : ∃ j : Nat, (allRes.map Res.s)[j]? = some x.s ∧ (∀ m : Nat, m < j → (allRes.map Res.s)[m]? ≠ some x.s) ∧ allRes[j]? = some x := by
  cases x with
  | yes => exact ⟨0, rfl, fun m h => absurd h (Nat.not_lt_zero m), rfl⟩
  | no => exact ⟨1, rfl, fun m h => (match m, h with | 0, _ => by decide +kernel), rfl⟩
  | skip => exact ⟨2, rfl, fun m h => (match m, h with | 0, _ => by decide +kernel | 1, _ => by decide +kernel), rfl⟩
  | gone => exact ⟨3, rfl, fun m h => (match m, h with | 0, _ => by decide +kernel | 1, _ => by decide +kernel | 2, _ => by decide +kernel), rfl⟩
theorem c_action (T : Txt K mg z) (D : Dme K z.cR "action_for" "Rule.action_for" s_Rule_action_for) : Met P w K mg base 1 z.cR "action_for" (spAction K z) := by
  refine D.met sc_Rule_action_for (fun _ _ _ _ _ _ us hl => match us, hl with | [_, _], _ => rfl) (fun vs H Q E ⟨b, r, x, h, _⟩ => by rw [h]; rfl) fun f cdv A outer s H vs Q E hr ⟨b, r, x, hv, hb, q⟩ => ⟨_, PSs.nox
    (pss_one (ps_ret (pe_ix ix_tup (pe_f T.fR2 (pv 0)) (pe_bm PySem.F.plainAttrs_tuple PySem.F.slot_tuple_index PySem.F.type_tuple_index mt_tup_index (pe_glob (v := .ref z.tRes) rfl T.gRes rfl) (pa_cons (pv 1) pa_nil)) (fun _ _ => rfl)))), ?_⟩
  subst hv
  obtain ⟨dx, fs, t, h1, h2, h3, h4, _⟩ := hb
  obtain ⟨j, e1, e2, e3⟩ := res_at x
  refine ⟨_, rfl, b, dx, fs, _, rfl, h1, h3, .inr (.inl ⟨rfl, T.dRes⟩), _, rfl, z.tRes, allRes.map Res.s, x.s, j, rfl, rfl, T.kRes.sq _, e1, e2, ?_⟩
  refine ⟨t, _, _, _, rfl, rfl, h4, atI_nat ?_, q⟩
  show (allRes.map fun x => (r.a x).v)[j]? = _
  rw [List.getElem?_map, e3] <;> rfl

/-- is_number(thing, low, high), whole numbers -/
def spNumber : Sp := fun vs H Q _ => ∃ i lo hi : Int, vs = [.int i, .int lo, .int hi] ∧ Q (.bl (decide (lo ≤ i) && decide (i ≤ hi))) H
theorem c_number (T : Txt K mg z) (D : Dfn K mg "is_number" s_is_number) : Cal P w K mg base 1 "is_number" spNumber := by
  refine D.cal sc_is_number (fun _ _ _ _ _ _ us hl => match us, hl with | [_, _, _], _ => rfl) (fun vs H Q E ⟨i, lo, hi, h, _⟩ => by rw [h]; rfl) fun f cdv A outer s H vs Q E hr ⟨i, lo, hi, hv, q⟩ => ⟨_, PSs.nox
    (pss_one (ps_ret (pe_and (pe_isB rfl T.f_isinstance rfl T.f_int PyProof.Rows.boot_int (pv 0)) (pe_and (pe_not (pe_isB rfl T.f_isinstance rfl T.f_bool PyProof.Rows.boot_bool (pv 0))) (pe_one (pe_chain op_le op_le (pv 1) (pv 0) (pv 2))))))), ?_⟩
  subst hv
  refine ⟨_, rfl, true, isB_int i (by decide +kernel), true, rfl, iteT ?_⟩
  refine ⟨_, rfl, false, isB_int i (by decide +kernel), false, rfl, true, rfl, iteT ?_⟩
  refine ⟨_, rfl, _, rfl, _, _, rfl, rfl, _, rfl, ?_⟩
  by_cases h : lo ≤ i
  · rw [decide_eq_true h] at q ⊢
    exact iteT ⟨_, rfl, _, _, rfl, rfl, by rw [Bool.true_and] at q; exact q⟩
  · rw [decide_eq_false h] at q ⊢
    exact iteF (by rw [Bool.false_and] at q; exact q)
/-- is_action(thing), an action -/
def spIsAct : Sp := fun vs H Q _ => ∃ a : Axn, vs = [a.v] ∧ Q (.bl true) H
theorem c_is_action (T : Txt K mg z) (D : Dfn K mg "is_action" s_is_action) (C1 : Cal P w K mg base 1 "is_number" spNumber) : Cal P w K mg base 2 "is_action" spIsAct := by
  obtain ⟨_, g9⟩ := T.i_JUMP
  refine D.cal sc_is_action (fun _ _ _ _ _ _ us hl => match us, hl with | [_], _ => rfl) (fun vs H Q E ⟨a, h, _⟩ => by rw [h]; rfl) fun f cdv A outer s H vs Q E hr ⟨a, hv, q⟩ => ⟨_, PSs.nox
    (pss_one (ps_ret (pe_or (pe_and (pe_isB rfl T.f_isinstance rfl T.f_str PyProof.Rows.boot_str (pv 0)) (pe_one (pe_cmpR op_in_seq (pv 0) (pe_glob (v := .ref z.tAct) rfl T.gAct rfl) (by rfl))))
      (pe_one (pe_c C1 hr (by decide) rfl (pa_cons (pv 0) (pa_cons pe_int (pa_cons (pe_glob (v := .int 9) rfl g9 ⟨_, rfl⟩) pa_nil)))))))), ?_⟩
  subst hv
  have hs : (∃ x : Str, a.v = .str x ∧ inV (.str x) [.str "ok", .str "bad", .str "die", .str "done", .str "ignore", .str "reset"] = true) ∨ ∃ i : Int, a.v = .int i ∧ 1 ≤ i ∧ i ≤ 9 := by
    cases a with
    | j1 => exact .inr ⟨1, rfl, by decide, by decide⟩
    | j2 => exact .inr ⟨2, rfl, by decide, by decide⟩
    | j9 => exact .inr ⟨9, rfl, by decide, by decide⟩
    | _ => exact .inl ⟨_, rfl, by decide +kernel⟩
  rcases hs with ⟨x, e, hi⟩ | ⟨i, e, h1, h2⟩
  · rw [e]
    refine ⟨_, rfl, true, isB_str x (by decide +kernel), true, rfl, iteT ?_⟩
    refine ⟨_, rfl, z.tAct, _, rfl, .inr (T.kAct.sq _), rfl, rfl, true, ?_, iteT q⟩
    show V.bl _ = _
    rw [show inV (.str x) [.str "ok", .str "bad", .str "die", .str "done", .str "ignore", .str "reset"] = true from hi]
    rfl
  · rw [e]
    refine ⟨_, rfl, false, isB_int i (by decide +kernel), false, rfl, iteF ?_⟩
    refine ⟨false, rfl, iteF ?_⟩
    refine ⟨_, rfl, i, 1, 9, rfl, ?_⟩
    rw [decide_eq_true h1, decide_eq_true h2]
    exact q
end
end LP

end

section
set_option Elab.async false
set_option linter.all false
set_option maxRecDepth 100000
set_option maxHeartbeats 2000000
/-! is_word, table_of, Rule. -/
namespace LP
open PySem PySem.Spec PyProof.Rows L2 LK LT LD LR
section
variable {P : Program} {w : World} {K : PySem.W.Frag} {mg : Str → Option Value} {base : Heap} {z : Ad}
theorem all_rep (n : Nat) : (List.replicate n true).all id = true := by
  induction n with
  | zero => rfl
  | succ n ih => rw [List.replicate_succ, List.all_cons, ih] <;> rfl
theorem letters : ∀ m : Mdl, ∀ c ∈ m.s.cps.toList, c ∈ ("abcdefghijklmnopqrstuvwxyz" : Str).cps.toList := by
  intro m
  cases m <;> decide +kernel
theorem mdl_len (m : Mdl) : 1 ≤ m.s.length ∧ m.s.length ≤ 8 := by cases m <;> decide +kernel
def spWord : Sp := fun vs H Q _ => ∃ m : Mdl, vs = [.str m.s] ∧ ∀ H', Ext H H' → Q (.bl true) H'
theorem c_is_word (T : Txt K mg z) (D : Dfn K mg "is_word" s_is_word) : Cal P w K mg base 1 "is_word" spWord := by
  obtain ⟨_, g8⟩ := T.i_LETTERS
  obtain ⟨_, gL⟩ := T.s_LETTERS
  refine D.cal sc_is_word (fun _ _ _ _ _ _ us hl => match us, hl with | [_], _ => rfl) (fun vs H Q E ⟨m, h, _⟩ => by rw [h]; rfl) fun f cdv A outer s H vs Q E hr ⟨m, hv, q⟩ => ⟨_, PSs.nox
    (pss_cons (ps_if (PW.pt (pw_or (pt_not (pt_val (pe_isB rfl T.f_isinstance rfl T.f_str PyProof.Rows.boot_str (pv 0)))) (pw_or1 (pt_not (pt_chain op_le op_le pe_int (pe_callB call_len (by rfl) T.f_len boot_len (pa_cons (pv 0) pa_nil)) (pe_glob (v := .int 8) rfl g8 ⟨_, rfl⟩))))))
      (pss_one ps_never) pss_nil)
    (pss_one (ps_ret (pe_callB (cr_all rfl) (by rfl) T.f_all (by decide +kernel) (pa_cons
      (pe_lc (own := [("letter", 1)]) (g := gName 1) (tt := tYes) rfl sc_is_word.nd (pi_str (pv 0)) (blkOk_by (N := ["thing", "letter"]) (sc := defScope s_is_word) (by decide +kernel)) (fun _ _ _ _ _ => pg_name (i := 1) sc_is_word.nd rfl (Or.inl rfl)) (fun _ _ _ _ _ => pts_nil)
        (fun _ _ _ _ _ => pe_cmpR op_in_sign (pv 1) (pe_glob (v := .str "abcdefghijklmnopqrstuvwxyz") rfl gL ⟨_, rfl⟩) (by rfl))) pa_nil))))), ?_⟩
  subst hv
  obtain ⟨l1, l8⟩ := mdl_len m
  refine ⟨_, rfl, true, isB_str _ (by decide +kernel), true, rfl, iteF ?_⟩
  refine ⟨_, rfl, _, _, rfl, ⟨le_line (by omega), rfl⟩, 1, _, rfl, rfl, _, rfl, ?_⟩
  rw [decide_eq_true (show (1 : Int) ≤ (m.s.length : Nat) by omega)]
  refine iteT ?_
  refine ⟨_, _, rfl, rfl, true, ?_, iteF ?_⟩
  · exact congrArg V.bl (decide_eq_true (show ((m.s.length : Nat) : Int) ≤ 8 by omega))
  refine ⟨_, rfl, _, rfl, fun D hD => ?_⟩
  refine lc_gen (m.s.cps.size) (fun i H1 => Up D (L2.upd H D (.lst [])) H1 ∧ H1 D = some (.lst ((List.replicate i true).map V.bl))) ⟨Up.refl, upd_same⟩ (fun i H1 hi ⟨u, hd⟩ => ⟨hi, fun x H2 ⟨e, c, hc, ex⟩ => ?_⟩) fun H1 ⟨u, hd⟩ => ⟨Nat.le_refl _, ?_⟩
  · subst e ex
    refine ⟨rfl, ?_⟩
    have hin : c ∈ ("abcdefghijklmnopqrstuvwxyz" : Str).cps.toList := letters m c (List.mem_of_getElem? (by rw [Array.getElem?_toList]; exact hc))
    refine ⟨_, rfl, c, _, rfl, rfl, _, hd, by rw [List.length_map, List.length_replicate]; exact lt_line (by have : m.s.cps.size = m.s.length := rfl; omega), u.trans Up.upd, ?_⟩
    rw [upd_same, decide_eq_true hin, List.replicate_succ', List.map_append] <;> rfl
  · refine ⟨D, _, rfl, SqL.of hd, ?_⟩
    rw [all_rep]
    exact q _ ((Up.upd.trans u).free hD)

/-- table_of(control), a table -/
def spTable (K : PySem.W.Frag) : Sp := fun vs H Q _ => ∃ (t : Addr) (r : Rul), vs = [.ref t] ∧ SqT K H t r.vs ∧ ∀ H', Ext H H' → Q (.ref t) H'
theorem c_table_of (T : Txt K mg z) (D : Dfn K mg "table_of" s_table_of) (C1 : Cal P w K mg base 2 "is_action" spIsAct) : Cal P w K mg base 3 "table_of" (spTable K) := by
  refine D.cal sc_table_of (fun _ _ _ _ _ _ us hl => match us, hl with | [_], _ => rfl) (fun vs H Q E ⟨t, r, h, _⟩ => by rw [h]; rfl) fun f cdv A outer s H vs Q E hr ⟨t, r, hv, ht, q⟩ => ⟨_, PSs.nox
    (pss_cons (ps_if (pt_val (pe_isB rfl T.f_isinstance rfl T.f_str PyProof.Rows.boot_str (pv 0))) pss_never pss_nil)
    (pss_cons (ps_if (PW.pt (pw_or (pt_not (pt_val (pe_isB rfl T.f_isinstance rfl T.f_tuple PyProof.Rows.boot_tuple (pv 0)))) (pw_or (pt_cmpR op_ne (pe_callB call_len (by rfl) T.f_len boot_len (pa_cons (pv 0) pa_nil)) (pe_callB call_len (by rfl) T.f_len boot_len (pa_cons (pe_glob (v := .ref z.tRes) rfl T.gRes rfl) pa_nil)) (nomark _))
        (pw_or1 (pt_not (pt_val (pe_callB (cr_all rfl) (by rfl) T.f_all (by decide +kernel) (pa_cons
          (pe_lc (own := [("one", 1)]) (g := gName 1) (tt := tYes) rfl sc_table_of.nd (pi_tup (pv 0)) (blkOk_by (N := ["control", "one"]) (sc := defScope s_table_of) (by decide +kernel)) (fun _ _ _ _ _ => pg_name (i := 1) sc_table_of.nd rfl (Or.inl rfl)) (fun _ _ _ _ _ => pts_nil)
            (fun _ _ _ _ _ => pe_c C1 hr (by decide) rfl (pa_cons (pv 1) pa_nil))) pa_nil))))))))
      (pss_one ps_never) pss_nil)
    (pss_one (ps_ret (pv 0))))), ?_⟩
  subst hv
  refine ⟨_, rfl, false, isB_tup ht (by decide +kernel), false, rfl, iteF ?_⟩
  refine ⟨_, rfl, true, isB_tup ht (by decide +kernel), true, rfl, iteF ?_⟩
  refine ⟨_, rfl, _, _, rfl, .inr ⟨_, ht, rfl⟩, _, _, rfl, .inr ⟨_, T.kRes.sq _, rfl⟩, rfl, _, rfl, iteF ?_⟩
  refine ⟨_, rfl, _, rfl, ⟨_, ht⟩, fun D hD => ?_⟩
  refine lc_tup (xs := r.vs) (fun i H1 => Up D (L2.upd H D (.lst [])) H1 ∧ H1 D = some (.lst ((List.replicate i true).map V.bl))) ⟨Up.refl, upd_same⟩ (fun i H1 _ ⟨u, hd⟩ => sqT_fx ht ((Fx.new hD).trans (u.fx upd_same (by simp [Fixd])))) (fun i x H1 hx ⟨u, hd⟩ => ?_) fun H1 ⟨u, hd⟩ => ?_
  · obtain ⟨y, hy, rfl⟩ : ∃ y, allRes[i]? = some y ∧ (r.a y).v = x := by
      have h : (allRes.map fun y => (r.a y).v)[i]? = some x := hx
      rw [List.getElem?_map] at h
      exact Option.map_eq_some_iff.mp h
    have hi : i < 4 := (List.getElem?_eq_some_iff.mp hy).1
    refine ⟨rfl, _, rfl, r.a y, rfl, _, hd, by rw [List.length_map, List.length_replicate]; exact lt_line (by omega), u.trans Up.upd, ?_⟩
    rw [upd_same, List.replicate_succ', List.map_append] <;> rfl
  · refine ⟨D, _, rfl, SqL.of hd, true, ?_, ?_⟩
    · rw [all_rep]
    · exact iteF ⟨_, rfl, q _ ((Up.upd.trans u).free hD)⟩
end
end LP

end

section
set_option Elab.async false
set_option linter.all false
set_option maxRecDepth 100000
set_option maxHeartbeats 2000000
/-! Rule: making, module, ==. -/
namespace LP
open PySem PySem.Spec PyProof.Rows L2 LK LT LD LR
theorem catA_ok {K : PySem.W.Frag} {H : Hp} {a b : Addr} {xs ys : List V} {Q : VK} (ha : SqT K H a xs) (hb : SqT K H b ys) (hz : xs.length + ys.length ≤ sizeLine) (q : ∀ p H', Ext H H' → SqT K H' p (xs ++ ys) → Q (.ref p) H') :
    rCatA K (.ref a) (.ref b) H Q := by
  refine ⟨a, b, xs, ys, rfl, rfl, ha, hb, hz, fun e => ?_, fun _ e => ?_, fun _ _ p hp => q p _ (Ext.upd hp) SqT.new⟩
  · subst e; exact q b H Ext.rfl' hb
  · subst e; refine q a H Ext.rfl' ?_; rw [List.append_nil]; exact ha
/-- a new object at x, made from H -/
theorem mk_ext {H H' : Hp} {x dx : Addr} {u v : HO} (hx : H x = none) (hd : H dx = none) (h : Up x (L2.upd (L2.upd H dx u) x v) H') : Ext H H' := fun a o e => by
  have n1 : a ≠ x := ne_of_none e hx
  have n2 : a ≠ dx := ne_of_none e hd
  refine h a o n1 ?_
  rw [upd_ne n1, upd_ne n2]
  exact e
section
variable {P : Program} {w : World} {K : PySem.W.Frag} {mg : Str → Option Value} {base : Heap} {z : Ad}

/-! ### Rule -/
def spRule0 (K : PySem.W.Frag) (z : Ad) : Sp := fun vs H Q _ => ∃ x dx t r, vs = [V.ref x, V.str (Rul.m r).s, V.ref t] ∧ H x = some (.ins z.cR dx []) ∧ SqT K H t r.vs ∧ ∀ H', Up x H H' → RuleAt K z H' x r → Q .non H'
theorem c_rule (T : Txt K mg z) (D : Dmk K mg "Rule" z.cR "Rule.__init__" s_Rule_init) (C1 : Cal P w K mg base 1 "is_word" spWord) (C2 : Cal P w K mg base 3 "table_of" (spTable K)) : Mak P w K mg base 4 "Rule" z.cR (spRule0 K z) := by
  refine D.mak sc_Rule_init (fun _ _ _ _ _ _ us hl => match us, hl with | [_, _, _], _ => rfl) (fun vs H Q E ⟨x, dx, t, r, h, _⟩ => by rw [h]; rfl) fun f cdv A outer s H vs Q E hr ⟨x, dx, t, r, hv, hx, ht, q⟩ => ⟨_, PSs.nox
    (pss_cons (ps_if (pt_not (pt_val (pe_c C1 hr (by decide) rfl (pa_cons (pv 1) pa_nil)))) (pss_one ps_never) pss_nil)
    (pss_cons (ps_if (pt_cmpR op_isN (pe_c C2 hr (by decide) rfl (pa_cons (pv 2) pa_nil)) pe_non (nomark _)) (pss_one ps_never) pss_nil)
    (pss_cons (ps_f T.fR1 (pv 0) (pv 1))
    (pss_one (ps_f T.fR2 (pv 0) (pe_c C2 hr (by decide) rfl (pa_cons (pv 2) pa_nil))))))), ?_⟩
  subst hv
  refine ⟨_, rfl, r.m, rfl, fun H1 e1 => ⟨true, rfl, iteF ?_⟩⟩
  refine ⟨_, rfl, t, r, rfl, sqT_fx ht e1.fx, fun H2 e2 => ?_⟩
  have e12 := e1.trans e2
  refine ⟨rfl, _, rfl, iteF ?_⟩
  refine ⟨_, rfl, _, rfl, x, dx, [], rfl, e12 _ _ hx, by decide, ?_⟩
  have hx2 := e12 _ _ hx
  have u3 : Up x H (L2.upd H2 x (.ins z.cR dx (putF "asks" (V.str r.m.s) []))) := (Up.ext e12).trans Up.upd
  refine ⟨_, rfl, t, r, rfl, sqT_up ht u3 hx, fun H3 e3 => ?_⟩
  refine ⟨_, rfl, x, dx, _, rfl, e3 _ _ upd_same, by show (1 : Nat) < 1000; decide, ?_⟩
  have u4 := (u3.trans (Up.ext e3)).trans (Up.upd (u := .ins z.cR dx (putF "acts" (V.ref t) (putF "asks" (V.str r.m.s) []))))
  refine q _ u4 ⟨dx, _, t, upd_same, ?_, ?_, sqT_up ht u4 hx, ?_⟩
  · rfl
  · rfl
  · rfl
/-- rule.module -/
def spModule (K : PySem.W.Frag) (z : Ad) : Sp := fun vs H Q _ => ∃ b r, vs = [V.ref b] ∧ RuleAt K z H b r ∧ Q (.str r.m.s) H
theorem c_module (T : Txt K mg z) (D : Dpr K z.cR "module" "Rule.module" s_Rule_module) : Get P w K mg base 1 z.cR "module" (spModule K z) := by
  refine D.get sc_Rule_module (fun _ _ _ _ _ _ us hl => match us, hl with | [_], _ => rfl) (fun vs H Q E ⟨b, r, h, _⟩ => by rw [h]; rfl) fun f cdv A outer s H vs Q E hr ⟨b, r, hv, ⟨dx, fs, t, h1, h2, _⟩, q⟩ => ⟨_, PSs.nox
    (pss_one (ps_ret (pe_f T.fR1 (pv 0)))), ?_⟩
  subst hv
  exact ⟨_, rfl, b, dx, fs, _, rfl, h1, h2, q⟩

/-- an action as data -/
def axnD : Axn → PyData
  | .ok => .str "ok" | .bad => .str "bad" | .die => .str "die" | .done => .str "done" | .ign => .str "ignore" | .reset => .str "reset" | .j1 => .int 1 | .j2 => .int 2 | .j9 => .int 9
theorem axn_dp (H : Hp) (a : Axn) : Dp K H a.v (axnD a) := by cases a <;> constructor
theorem axn_lay (a : Axn) : (axnD a).canLay0 = true := by cases a <;> first | rfl | decide +kernel
theorem axn_depth (a : Axn) : (axnD a).depth = 0 := by cases a <;> rfl
def rulD (r : Rul) : PyData := .tuple [.str r.m.s, .tuple [axnD (r.a .yes), axnD (r.a .no), axnD (r.a .skip), axnD (r.a .gone)]]
theorem rulD_lay (r : Rul) : (rulD r).canLay0 = true := by
  have hs : PyData.strOk r.m.s = true := by cases r.m <;> decide +kernel
  simp [rulD, PyData.canLay0, PyData.canLayAll0, hs, axn_lay]
theorem rulD_shaped (r : Rul) : SeqAt.shaped (rulD r) = true := by
  have h := rulD_lay r
  show ((rulD r).canLay0 && decide ((rulD r).depth ≤ 64)) = true
  rw [h, Bool.true_and, decide_eq_true_eq]
  simp [rulD, PyData.depth, PyData.depthAll, axn_depth]
/-- two equal rules -/
def RuleEq (K : PySem.W.Frag) (z : Ad) (a b : Addr) (H : Hp) : Prop := ∃ r, RuleAt K z H a r ∧ RuleAt K z H b r
theorem c_rule_eq (T : Txt K mg z) (D : Ddu K z.cR "__eq__" "Rule.__eq__" s_Rule_eq) : Dun P w K mg base 1 z.cR "__eq__" (spEq (RuleEq K z)) := by
  refine D.dun sc_Rule_eq (fun _ _ _ _ _ _ us hl => match us, hl with | [_, _], _ => rfl) (fun vs H Q E ⟨a, b, h, _⟩ => by rw [h]; rfl) fun f cdv A outer s H vs Q E hr ⟨a, b, hv, ⟨r, ha, hb⟩, q⟩ => ⟨_, PSs.nox
    (pss_one (ps_ret (pe_and (pe_isO rfl T.f_isinstance rfl T.gR (pv 1)) (pe_one (pe_cmpR (op_eqD hr.units) (pe_tup (pa_cons (pe_f T.fR1 (pv 0)) (pa_cons (pe_f T.fR2 (pv 0)) pa_nil))) (pe_tup (pa_cons (pe_f T.fR1 (pv 1)) (pa_cons (pe_f T.fR2 (pv 1)) pa_nil))) (nomark _)))))), ?_⟩
  subst hv
  obtain ⟨dx, fs, t, h1, h2, h3, h4, _⟩ := ha
  obtain ⟨dy, gs, u, k1, k2, k3, k4, _⟩ := hb
  refine ⟨_, rfl, b, _, dy, gs, true, rfl, k1, ⟨T.oR, T.rr⟩, true, rfl, iteT ?_⟩
  refine ⟨_, rfl, a, dx, fs, _, rfl, h1, h2, _, rfl, a, dx, fs, _, rfl, h1, h3, by show 2 ≤ sizeLine; decide, fun p hp => ?_⟩
  have e1 := Ext.upd hp (o := .tup [.str r.m.s, .ref t])
  refine ⟨_, rfl, b, dy, gs, _, rfl, e1 _ _ k1, k2, _, rfl, b, dy, gs, _, rfl, e1 _ _ k1, k3, by show 2 ≤ sizeLine; decide, fun p2 hp2 => ?_⟩
  have e2 := Ext.upd' e1 hp2 (o := .tup [.str r.m.s, .ref u])
  have dp : ∀ (p' t' : Addr) (H' : Hp), SqT K H' p' [.str r.m.s, .ref t'] → SqT K H' t' r.vs → Dp K H' (.ref p') (rulD r) := fun p' t' H' a1 a2 =>
    .tup a1 (.cons (.str _) (.cons (.tup a2 (.cons (axn_dp _ _) (.cons (axn_dp _ _) (.cons (axn_dp _ _) (.cons (axn_dp _ _) .nil))))) .nil))
  refine ⟨rulD r, rulD r, dp p t _ (sqT_fx SqT.new (Fx.new hp2)) (sqT_fx h4 e2.fx), dp p2 u _ SqT.new (sqT_fx k4 e2.fx), rulD_shaped r, rulD_shaped r, ?_⟩
  rw [SeqAt.eqv_refl _ (rulD_lay r)]
  exact q _ e2
end
end LP

end

section
set_option Elab.async false
set_option linter.all false
set_option maxRecDepth 100000
set_option maxHeartbeats 2000000
/-! Stack: its getters, len, [], ==. -/
namespace LP
open PySem PySem.Spec PyProof.Rows L2 LK LT LD LR
theorem cut_to (xs : List V) (k : Nat) : cutV xs none (some (k : Int)) = xs.take k := by
  unfold cutV
  rw [HT.sIx_none, HT.sIx_nat, List.drop_zero, Nat.sub_zero]
  rcases Nat.le_total k xs.length with h | h
  · rw [Nat.min_eq_left h]
  · rw [Nat.min_eq_right h, List.take_length, List.take_of_length_le h]
theorem cut_from (xs : List V) (k : Nat) : cutV xs (some (k : Int)) none = xs.drop k := by
  unfold cutV
  rw [HT.sIx_none, HT.sIx_nat]
  rcases Nat.le_total k xs.length with h | h
  · rw [Nat.min_eq_left h, List.take_of_length_le (by rw [List.length_drop]; exact Nat.le_refl _)]
  · rw [Nat.min_eq_right h, List.drop_length, List.drop_of_length_le h, List.take_nil]
theorem sl_ok {K : PySem.W.Frag} {H : Hp} {a : Addr} {xs : List V} {lo hi : Option Int} {Q : VK} (ha : SqT K H a xs) (q : ∀ p H', Ext H H' → SqT K H' p (cutV xs lo hi) → Q (.ref p) H') : rSlA K (.ref a) lo hi H Q := by
  refine ⟨a, xs, rfl, ha, fun h => ?_, fun _ p hp => q p _ (Ext.upd hp) SqT.new⟩
  refine q a H Ext.rfl' ?_
  unfold cutV
  rw [h.1, h.2, List.drop_zero, Nat.sub_zero, List.take_length]
  exact ha
section
variable {P : Program} {w : World} {K : PySem.W.Frag} {mg : Str → Option Value} {base : Heap} {z : Ad}

def spEntries (K : PySem.W.Frag) (z : Ad) : Sp := fun vs H Q _ => ∃ b d es, vs = [V.ref b] ∧ StkAt K z d H b es ∧ ∀ d' p ps, d = d' + 1 → SqT K H p ps → Paired (EntV K z d' H) ps es → Q (.ref p) H
theorem c_entries (T : Txt K mg z) (D : Dpr K z.cS "entries" "Stack.entries" s_Stack_entries) : Get P w K mg base 1 z.cS "entries" (spEntries K z) := by
  refine D.get sc_Stack_entries (fun _ _ _ _ _ _ us hl => match us, hl with | [_], _ => rfl) (fun vs H Q E ⟨b, d, es, h, _⟩ => by rw [h]; rfl) fun f cdv A outer s H vs Q E hr ⟨b, d, es, hv, hb, q⟩ => ⟨_, PSs.nox
    (pss_one (ps_ret (pe_f T.fS1 (pv 0)))), ?_⟩
  subst hv
  obtain ⟨d', rfl, dx, fs, p, q', n, i, ps, qs, h1, h2, h3, h4, _⟩ := hb.open
  exact ⟨_, rfl, b, dx, fs, _, rfl, h1, h2, q d' p ps rfl h3 h4⟩
def spRulesG (K : PySem.W.Frag) (z : Ad) : Sp := fun vs H Q _ => ∃ b d es, vs = [V.ref b] ∧ StkAt K z d H b es ∧ ∀ p qs, SqT K H p qs → Paired (RulV K z H) qs (flat es) → Q (.ref p) H
theorem c_rulesG (T : Txt K mg z) (D : Dpr K z.cS "rules" "Stack.rules" s_Stack_rules) : Get P w K mg base 1 z.cS "rules" (spRulesG K z) := by
  refine D.get sc_Stack_rules (fun _ _ _ _ _ _ us hl => match us, hl with | [_], _ => rfl) (fun vs H Q E ⟨b, d, es, h, _⟩ => by rw [h]; rfl) fun f cdv A outer s H vs Q E hr ⟨b, d, es, hv, hb, q⟩ => ⟨_, PSs.nox
    (pss_one (ps_ret (pe_f T.fS2 (pv 0)))), ?_⟩
  subst hv
  obtain ⟨d', rfl, dx, fs, p, q', n, i, ps, qs, h1, h2, h3, h4, h5, h6, h7, _⟩ := hb.open
  exact ⟨_, rfl, b, dx, fs, _, rfl, h1, h5, q q' qs h6 h7⟩
def spModsG (K : PySem.W.Frag) (z : Ad) : Sp := fun vs H Q _ => ∃ b d es, vs = [V.ref b] ∧ StkAt K z d H b es ∧ ∀ n, SqT K H n (modV es) → Q (.ref n) H
theorem c_modsG (T : Txt K mg z) (D : Dpr K z.cS "modules" "Stack.modules" s_Stack_modules) : Get P w K mg base 1 z.cS "modules" (spModsG K z) := by
  refine D.get sc_Stack_modules (fun _ _ _ _ _ _ us hl => match us, hl with | [_], _ => rfl) (fun vs H Q E ⟨b, d, es, h, _⟩ => by rw [h]; rfl) fun f cdv A outer s H vs Q E hr ⟨b, d, es, hv, hb, q⟩ => ⟨_, PSs.nox
    (pss_one (ps_ret (pe_f T.fS3 (pv 0)))), ?_⟩
  subst hv
  obtain ⟨d', rfl, dx, fs, p, q', n, i, ps, qs, h1, h2, h3, h4, h5, h6, h7, h8, h9, _⟩ := hb.open
  exact ⟨_, rfl, b, dx, fs, _, rfl, h1, h8, q n h9⟩
/-- len(stack) -/
def spLenS (K : PySem.W.Frag) (z : Ad) : Sp := fun vs H Q _ => ∃ b d es, vs = [V.ref b] ∧ StkAt K z d H b es ∧ Q (.int (List.length es : Nat)) H
theorem c_lenS (T : Txt K mg z) (D : Ddu K z.cS "__len__" "Stack.__len__" s_Stack_len) : Dun P w K mg base 1 z.cS "__len__" (spLenS K z) := by
  refine D.dun sc_Stack_len (fun _ _ _ _ _ _ us hl => match us, hl with | [_], _ => rfl) (fun vs H Q E ⟨b, d, es, h, _⟩ => by rw [h]; rfl) fun f cdv A outer s H vs Q E hr ⟨b, d, es, hv, hb, q⟩ => ⟨_, PSs.nox
    (pss_one (ps_ret (pe_callB call_len (by rfl) T.f_len boot_len (pa_cons (pe_f T.fS1 (pv 0)) pa_nil)))), ?_⟩
  subst hv
  obtain ⟨d', rfl, dx, fs, p, q', n, i, ps, qs, h1, h2, h3, h4, _⟩ := hb.open
  refine ⟨_, rfl, b, dx, fs, _, rfl, h1, h2, _, _, rfl, .inr ⟨_, h3, rfl⟩, ?_⟩
  rw [Paired.len h4]
  exact q
/-- stack[j] -/
def spItemS (K : PySem.W.Frag) (z : Ad) : Sp := fun vs H Q _ => ∃ b d es j e, vs = [V.ref b, V.int ((j : Nat) : Int)] ∧ StkAt K z d H b es ∧ es[j]? = some e ∧ ∀ d' x, d = d' + 1 → EntV K z d' H x e → Q x H
theorem c_itemS (T : Txt K mg z) (D : Ddu K z.cS "__getitem__" "Stack.__getitem__" s_Stack_getitem) : Dun P w K mg base 1 z.cS "__getitem__" (spItemS K z) := by
  refine D.dun sc_Stack_getitem (fun _ _ _ _ _ _ us hl => match us, hl with | [_, _], _ => rfl) (fun vs H Q E ⟨b, d, es, j, e, h, _⟩ => by rw [h]; rfl) fun f cdv A outer s H vs Q E hr ⟨b, d, es, j, e, hv, hb, he, q⟩ => ⟨_, PSs.nox
    (pss_one (ps_ret (pe_ix ix_tup (pe_f T.fS1 (pv 0)) (pv 1) (fun _ _ => rfl)))), ?_⟩
  subst hv
  obtain ⟨d', rfl, dx, fs, p, q', n, i, ps, qs, h1, h2, h3, h4, _⟩ := hb.open
  have hj : j < ps.length := by rw [Paired.len h4]; exact (List.getElem?_eq_some_iff.mp he).1
  have hx : ps[j]? = some ps[j] := List.getElem?_eq_getElem hj
  exact ⟨_, rfl, b, dx, fs, _, rfl, h1, h2, _, rfl, p, ps, _, _, rfl, rfl, h3, atI_nat hx, q d' _ rfl (Paired.get' h4 hx he)⟩

/-! ### == -/
def StkEq (K : PySem.W.Frag) (z : Ad) (d : Nat) (a b : Addr) (H : Hp) : Prop := ∃ es, StkAt K z d H a es ∧ StkAt K z d H b es
def EntEq (K : PySem.W.Frag) (z : Ad) (d : Nat) : Eqv := fun x y H => DIns z.cR (RuleEq K z) x y H ∨ DIns z.cS (StkEq K z d) x y H
theorem mon_ruleEq : Mon (DIns z.cR (RuleEq K z)) := mon_ins fun a b H H' e ⟨r, h1, h2⟩ => ⟨r, h1.fx e.fx, h2.fx e.fx⟩
theorem mon_stkEq {d : Nat} : Mon (DIns z.cS (StkEq K z d)) := mon_ins fun a b H H' e ⟨r, h1, h2⟩ => ⟨r, h1.fx e.fx, h2.fx e.fx⟩
theorem entEq_of {d : Nat} {H : Hp} {x y : V} {e : Ent} (h1 : EntV K z d H x e) (h2 : EntV K z d H y e) : EntEq K z d x y H := by
  obtain ⟨a, rfl, ha⟩ := h1
  obtain ⟨b, rfl, hb⟩ := h2
  cases e with
  | rule r =>
    obtain ⟨dx, fs, i1⟩ := RuleAt.ins ha
    obtain ⟨dy, gs, i2⟩ := RuleAt.ins hb
    exact .inl ⟨a, b, dx, dy, fs, gs, rfl, rfl, i1, i2, r, ha, hb⟩
  | inner rs =>
    obtain ⟨dx, fs, i1⟩ := StkAt.ins ha
    obtain ⟨dy, gs, i2⟩ := StkAt.ins hb
    exact .inr ⟨a, b, dx, dy, fs, gs, rfl, rfl, i1, i2, _, ha, hb⟩
theorem prs_of {d : Nat} {H : Hp} : ∀ {xs ys : List V} {es : List Ent}, Paired (EntV K z d H) xs es → Paired (EntV K z d H) ys es → Prs (EntEq K z d) xs ys H
  | _, _, _, .nil, .nil => Prs.nil
  | _, _, _, .cons r t, .cons r' t' => Prs.cons (entEq_of r r') (prs_of t t')
theorem c_stack_eq (T : Txt K mg z) (D : Ddu K z.cS "__eq__" "Stack.__eq__" s_Stack_eq) (C1 : Dun P w K mg base 1 z.cR "__eq__" (spEq (RuleEq K z))) : ∀ d : Nat, Dun P w K mg base (2 * d + 1) z.cS "__eq__" (spEq (StkEq K z d)) := by
  intro d
  induction d with
  | zero =>
    obtain ⟨f, fd, h1, h2, h3, F⟩ := D.ex
    exact ⟨f, h1, h2, h3, fun _ _ _ _ _ _ _ _ _ _ _ ⟨_, _, _, ⟨_, h, _⟩, _⟩ => h.elim⟩
  | succ d ih =>
    refine D.dun (k := 2 * d + 2) sc_Stack_eq (fun _ _ _ _ _ _ us hl => match us, hl with | [_, _], _ => rfl) (fun vs H Q E ⟨a, b, h, _⟩ => by rw [h]; rfl) fun f cdv A outer s H vs Q E hr ⟨a, b, hv, ⟨es, ha, hb⟩, q⟩ => ⟨_, PSs.nox
      (pss_one (ps_ret (pe_and (pe_isO rfl T.f_isinstance rfl T.gS (pv 1)) (pe_one (pe_cmpR (op_eqG (n := 2 * d + 2) (D := DTup K (EntEq K z d)) (rcG_tup (mon_ruleEq.or mon_stkEq) (((eqG_insR C1).mono (by omega)).or (eqG_insR ih))) hr) (pe_f T.fS1 (pv 0)) (pe_f T.fS1 (pv 1)) (nomark _)))))), ?_⟩
    subst hv
    obtain ⟨d1, e1, dx, fs, p, q', n, i, ps, qs, h1, h2, h3, h4, _⟩ := ha.open
    obtain ⟨d2, e2, dy, gs, p2, q2, n2, i2, ps2, qs2, k1, k2, k3, k4, _⟩ := hb.open
    cases e1
    cases e2
    refine ⟨_, rfl, b, _, dy, gs, true, rfl, k1, ⟨T.oS, T.ss⟩, true, rfl, iteT ?_⟩
    exact ⟨_, rfl, a, dx, fs, _, rfl, h1, h2, _, rfl, b, dy, gs, _, rfl, k1, k2, ⟨p, p2, ps, ps2, rfl, rfl, h3, k3, prs_of h4 k4⟩, q⟩
end
end LP

end

section
set_option Elab.async false
set_option linter.all false
set_option maxRecDepth 100000
set_option maxHeartbeats 4000000
/-! Stack: making, +, spliced. -/
namespace LP
open PySem PySem.Spec PyProof.Rows L2 LK LT LD LR
def fsS (p q n : Addr) (i : Int) : List (Str × V) := [("parts", .ref p), ("steps", .ref q), ("names", .ref n), ("depth", .int i)]
theorem put_steps (p q n q' : Addr) (i : Int) : putF "steps" (V.ref q') (fsS p q n i) = fsS p q' n i := rfl
theorem put_names (p q n n' : Addr) (i : Int) : putF "names" (V.ref n') (fsS p q n i) = fsS p q n' i := rfl
theorem put_depth (p q n : Addr) (i i' : Int) : putF "depth" (V.int i') (fsS p q n i) = fsS p q n i' := rfl
theorem take_map_succ {α β : Type} (f : α → β) {l : List α} {j : Nat} {a : α} (h : l[j]? = some a) : (l.take (j + 1)).map f = (l.take j).map f ++ [f a] := by
  rw [List.take_add_one, h, List.map_append] <;> rfl
theorem mods_set (rs : List Rul) : modsR rs = allMdl.filter fun m => decide (m ∈ rs.map Rul.m) := by
  unfold modsR
  refine List.filter_congr fun m _ => ?_
  rw [Bool.eq_iff_iff, List.any_eq_true, decide_eq_true_eq, List.mem_map]
  constructor
  · rintro ⟨r, h, e⟩; exact ⟨r, h, of_decide_eq_true e⟩
  · rintro ⟨r, h, e⟩; exact ⟨r, h, decide_eq_true e⟩
section
variable {K : PySem.W.Frag} {mg : Str → Option Value} {z : Ad}
/-- what isinstance says of an entry -/
theorem entCase (T : Txt K mg z) {d : Nat} {H : Hp} {c : Addr} {e : Ent} (h : EntAt K z d H c e) : ∃ C bS dx fs, H c = some (.ins C dx fs) ∧ IsO K C z.cS bS ∧ (bS = false → IsO K C z.cR true) ∧ (bS = true → C = z.cS ∧ ∃ j : Int, fs.lookup ("depth" : Str) = some (V.int j) ∧ j ≤ (d : Int)) := by
  cases e with
  | rule r =>
    obtain ⟨dx, fs, h1⟩ := RuleAt.ins h
    exact ⟨_, false, dx, fs, h1, ⟨T.oR, T.rs⟩, (fun _ => ⟨T.oR, T.rr⟩), (fun e => nomatch e)⟩
  | inner rs =>
    obtain ⟨d', rfl, dx, fs, p, q, n, i, ps, qs, h1, h2, h3, h4, h5, h6, h7, h8, h9, h10, h11, h12, _⟩ := StkAt.open h
    exact ⟨_, true, dx, fs, h1, ⟨T.oS, T.ss⟩, (fun e => nomatch e), fun _ => ⟨rfl, i, h10, by omega⟩⟩
theorem RuleAt.upn {H H' : Hp} {x b C dx : Addr} {fs : List (Str × V)} {r : Rul} (h : RuleAt K z H b r) (u : Up x H H') (hx : H x = some (.ins C dx fs)) (hn : fs.lookup ("asks" : Str) = none) : RuleAt K z H' b r := by
  obtain ⟨dx', gs, t, h1, h2, h3, h4, h5⟩ := h
  refine ⟨dx', gs, t, u _ _ (fun e => ?_) h1, h2, h3, sqT_up h4 u hx, h5⟩
  subst e
  rw [hx] at h1
  injection h1 with h1
  injection h1 with _ _ h1
  subst h1
  rw [hn] at h2
  cases h2
theorem rulsUp {H H' : Hp} {x C dx : Addr} {fs : List (Str × V)} {xs : List V} {rs : List Rul} (h : Paired (RulV K z H) xs rs) (u : Up x H H') (hx : H x = some (.ins C dx fs)) (hn : fs.lookup ("asks" : Str) = none) : Paired (RulV K z H') xs rs :=
  Paired.imp (fun _ _ ⟨c, e, h⟩ => ⟨c, e, RuleAt.upn h u hx hn⟩) h
theorem depArg {c C dxc : Addr} {d : Nat} {fsc : List (Str × V)} {bS : Bool} {σ : L2.St} {H : Hp} {Q : VK} (h4 : σ[4]? = some (some (V.bl bS))) (h3 : σ[3]? = some (some (V.ref c))) (hc : H c = some (.ins C dxc fsc))
    (hdep : bS = true → C = z.cS ∧ ∃ j : Int, fsc.lookup ("depth" : Str) = some (V.int j) ∧ j ≤ (d : Int)) (q : ∀ j : Int, j ≤ (d : Int) + 1 → Q (.int j) H) :
    tIf (tB (tVar 4)) (tOp (rI0 fun i j => V.int (i + j)) (tF z.cS "depth" (tVar 3)) (tC (V.int 1))) (tC (V.int 1)) σ H Q := by
  refine ⟨_, h4, bS, rfl, ?_⟩
  cases bS with
  | true =>
    obtain ⟨rfl, j, e, hj⟩ := hdep rfl
    exact iteT ⟨_, h3, c, dxc, fsc, _, rfl, hc, e, _, _, rfl, rfl, q _ (by omega)⟩
  | false => exact iteF (q 1 (by omega))
theorem notand_ok {c C dxc : Addr} {fsc : List (Str × V)} {bS : Bool} {σ : L2.St} {H : Hp} {Q : Bool → Hp → Prop} (h4 : σ[4]? = some (some (V.bl bS))) (h3 : σ[3]? = some (some (V.ref c))) (hc : H c = some (.ins C dxc fsc)) (isR : bS = false → IsO K C z.cR true) (q : Q false H) :
    tAnd (tNot (tB (tVar 4))) (tNot (tB (tIsO K z.cR (tVar 3)))) σ H Q := by
  refine ⟨_, h4, bS, rfl, ?_⟩
  cases bS with
  | true => exact iteF q
  | false => exact iteT ⟨_, h3, c, C, dxc, fsc, true, rfl, hc, isR rfl, true, rfl, q⟩
end
section
variable {P : Program} {w : World} {K : PySem.W.Frag} {mg : Str → Option Value} {base : Heap} {z : Ad}

def spStack0 (K : PySem.W.Frag) (z : Ad) : Sp := fun vs H Q _ => ∃ x p dx d ps es, vs = [V.ref x, V.ref p] ∧ H x = some (.ins z.cS dx []) ∧ SqT K H p ps ∧ Paired (EntV K z d H) ps es ∧ es.length ≤ 12 ∧ (flat es).length ≤ 12 ∧ d ≤ 2 ∧
  ∀ H', Up x H H' → StkAt K z (d + 1) H' x es → Q .non H'
theorem c_stack0 (T : Txt K mg z) (D : Dmk K mg "Stack" z.cS "Stack.__init__" s_Stack_init) (C1 : Cal P w K mg base 1 "steps_of" (spSteps K z)) :
    Mak P w K mg base 2 "Stack" z.cS (fun vs H Q E => ∃ ws rest, vs = ws ++ rest ∧ ws.length = 1 ∧ rest.length ≤ sizeLine ∧ ∀ p, H p = Option.none → spStack0 K z (ws ++ [V.ref p]) (upd H p (.tup rest)) Q E) := by
  obtain ⟨_, g12⟩ := T.i_ENTRIES
  obtain ⟨_, gr12⟩ := T.i_RULES
  obtain ⟨_, g6⟩ := T.i_MODULES
  obtain ⟨_, g3⟩ := T.i_DEPTH
  refine D.makStar (p1 := "self") (pv := "entries") sc_Stack_init (fun kV doc pm an cdv ct us rest hl => StX.bind_star1 (B := fun l => bindArgs (PySem.W.fnOf "__init__" "Stack.__init__" (defArgs s_Stack_init) (defBody s_Stack_init) (defScope s_Stack_init) .none kV doc pm an cdv ct) ⟨l, []⟩) (fun a => rfl) (fun a r rs => rfl) us rest hl) fun f cdv A outer s H vs Q E hr ⟨x, p, dx, d, ps, es, hv, hx, hp, he, h12, hf12, hd, q⟩ => ⟨_, PSs.nox
    (pss_cons (ps_f T.fS1 (pv 0) (pv 1))
    (pss_cons (ps_f T.fS2 (pv 0) (pe_tup pa_nil))
    (pss_cons (ps_f T.fS3 (pv 0) (pe_tup pa_nil))
    (pss_cons (ps_f T.fS4 (pv 0) pe_int)
    (pss_one (ps_for PassesOwn.never rfl (LKW.pi_enumT rfl T.f_enumerate (pa_cons (pv 1) pa_nil)) (pg_tup rfl (pgs_cons (pg_name (i := 2) sc_Stack_init.nd rfl (Or.inl rfl)) (pgs_cons (pg_name (i := 3) sc_Stack_init.nd rfl (Or.inl rfl)) pgs_nil)))
      (pss_cons (ps_set (i := 4) sc_Stack_init.nd rfl (Or.inl rfl) (pe_isO rfl T.f_isinstance rfl T.gS (pv 3)))
      (pss_cons (ps_if (PW.pt (pw_or (pt_cmpR op_eq (pv 2) (pe_glob (v := .int 12) rfl g12 ⟨_, rfl⟩) (nomark _)) (pw_or1 (PW.pt (pw_and (pt_not (pt_val (pv 4))) (pw_and1 (pt_not (pt_val (pe_isO rfl T.f_isinstance rfl T.gR (pv 3)))))))))) (pss_one ps_never) pss_nil)
      (pss_cons (ps_f T.fS2 (pv 0) (pe_op op_catA (pe_f T.fS2 (pv 0)) (pe_c C1 hr (by decide) rfl (pa_cons (pv 3) pa_nil))))
      (pss_cons (ps_f T.fS3 (pv 0) (pe_callTy call_tuple_of (by rfl) T.f_tuple PyProof.Rows.boot_tuple (pa_cons (pe_callB (LKS.cr_sortedSet rfl) (by rfl) T.f_sorted boot_sorted (pa_cons (pe_callTy (LKS.cr_setOf rfl) (by rfl) T.f_set PyProof.Rows.boot_set (pa_cons
        (pe_lc (own := [("rule", 5)]) (g := gName 5) (tt := tYes) rfl sc_Stack_init.nd (pi_tup (pe_f T.fS2 (pv 0))) (blkOk_by (N := ["self", "entries", "index", "entry", "is_stack", "rule"]) (sc := defScope s_Stack_init) (by decide +kernel)) (fun _ _ _ _ _ => pg_name (i := 5) sc_Stack_init.nd rfl (Or.inl rfl)) (fun _ _ _ _ _ => pts_nil)
          (fun _ _ _ _ _ => pe_f T.fR1 (pv 5))) pa_nil)) pa_nil)) pa_nil)))
      (pss_cons (ps_f T.fS4 (pv 0) (pe_callB (call_max2 rfl) (by rfl) T.f_max boot_max (pa_cons (pe_f T.fS4 (pv 0)) (pa_cons (pe_ifExp (pt_val (pv 4)) (pe_op op_add (pe_f T.fS4 (pv 3)) pe_int) pe_int) pa_nil))))
      (pss_one (ps_if (PW.pt (pw_or (pt_cmpR op_gt (pe_f T.fS4 (pv 0)) (pe_glob (v := .int 3) rfl g3 ⟨_, rfl⟩) (nomark _)) (pw_or (pt_cmpR op_gt (pe_callB call_len (by rfl) T.f_len boot_len (pa_cons (pe_f T.fS2 (pv 0)) pa_nil)) (pe_glob (v := .int 12) rfl gr12 ⟨_, rfl⟩) (nomark _))
        (pw_or1 (pt_cmpR op_gt (pe_callB call_len (by rfl) T.f_len boot_len (pa_cons (pe_f T.fS3 (pv 0)) pa_nil)) (pe_glob (v := .int 6) rfl g6 ⟨_, rfl⟩) (nomark _)))))) (pss_one ps_never) pss_nil))))))))))))), ?_⟩
  subst hv
  have hln := Paired.len he
  refine ⟨_, rfl, _, rfl, x, dx, [], rfl, hx, by decide, ?_⟩
  refine ⟨by show 0 ≤ sizeLine; decide, fun q0 hq0 => ?_⟩
  have u1 : Up x H (L2.upd H x (.ins z.cS dx (putF "parts" (V.ref p) []))) := Up.upd
  have u2 := u1.trans (Up.new (u := .tup []) hq0)
  have nq : q0 ≠ x := fun e => by rw [e, upd_same] at hq0; cases hq0
  refine ⟨_, rfl, x, dx, _, rfl, (by rw [upd_ne nq.symm]; exact upd_same), by show (1 : Nat) < 1000; decide, ?_⟩
  refine ⟨by show 0 ≤ sizeLine; decide, fun n0 hn0 => ?_⟩
  have u3 := u2.trans (Up.upd (b := x) (u := .ins z.cS dx (putF "steps" (V.ref q0) (putF "parts" (V.ref p) []))))
  have u4 := u3.trans (Up.new (u := .tup []) hn0)
  have nn : n0 ≠ x := fun e => by rw [e, upd_same] at hn0; cases hn0
  refine ⟨_, rfl, x, dx, _, rfl, (by rw [upd_ne nn.symm]; exact upd_same), by show (2 : Nat) < 1000; decide, ?_⟩
  have u5 := u4.trans (Up.upd (b := x) (u := .ins z.cS dx (putF "names" (V.ref n0) (putF "steps" (V.ref q0) (putF "parts" (V.ref p) [])))))
  refine ⟨_, rfl, x, dx, _, rfl, upd_same, by show (3 : Nat) < 1000; decide, ?_⟩
  have u6 : Up x H _ := u5.trans (Up.upd (b := x) (u := .ins z.cS dx (fsS p q0 n0 1)))
  have sq0 : SqT K (L2.upd (L2.upd (L2.upd (L2.upd (L2.upd (L2.upd H x (.ins z.cS dx (putF "parts" (V.ref p) []))) q0 (.tup [])) x (.ins z.cS dx (putF "steps" (V.ref q0) (putF "parts" (V.ref p) [])))) n0 (.tup [])) x (.ins z.cS dx (putF "names" (V.ref n0) (putF "steps" (V.ref q0) (putF "parts" (V.ref p) []))))) x (.ins z.cS dx (fsS p q0 n0 1))) q0 [] := by
    refine .inl (.inl ?_)
    rw [upd_ne nq, upd_ne nq, upd_ne (fun e => ?_), upd_ne nq]
    · exact upd_same
    · rw [← e, upd_ne nq, upd_same] at hn0; cases hn0
  have sn0 : SqT K (L2.upd (L2.upd (L2.upd (L2.upd (L2.upd (L2.upd H x (.ins z.cS dx (putF "parts" (V.ref p) []))) q0 (.tup [])) x (.ins z.cS dx (putF "steps" (V.ref q0) (putF "parts" (V.ref p) [])))) n0 (.tup [])) x (.ins z.cS dx (putF "names" (V.ref n0) (putF "steps" (V.ref q0) (putF "parts" (V.ref p) []))))) x (.ins z.cS dx (fsS p q0 n0 1))) n0 [] := by
    refine .inl (.inl ?_)
    rw [upd_ne nn, upd_ne nn]
    exact upd_same
  refine ⟨_, rfl, p, ps, rfl, sqT_up hp u6 hx, ?_⟩
  refine LKW.for_enumT (xs := ps) (fun i σ H1 => ∃ x2 x3 x4 x5 qa na, ∃ dd : Int, ∃ qs, σ = [some (V.ref x), some (V.ref p), x2, x3, x4, x5] ∧ Up x H H1 ∧ H1 x = some (.ins z.cS dx (fsS p qa na dd)) ∧ SqT K H1 qa qs ∧ Paired (RulV K z H1) qs (flat (es.take i)) ∧ SqT K H1 na (modV (es.take i)) ∧ 1 ≤ dd ∧ dd ≤ (d : Int) + 1)
    ⟨none, none, none, none, q0, n0, 1, [], rfl, u6, upd_same, sq0, .nil, sn0, by omega, by omega⟩ ?_ ?_ ?_
  · rintro i σ H1 ⟨x2, x3, x4, x5, qa, na, dd, qs, rfl, u, hx1, hq1, hqs, hn1, hd1, hd2⟩
    exact sqT_up hp u hx
  · rintro i y Tp σ H1 hy ⟨x2, x3, x4, x5, qa, na, dd, qs, rfl, u, hx1, hq1, hqs, hn1, hd1, hd2⟩ hTp
    have hi : i < es.length := by rw [← hln]; exact (List.getElem?_eq_some_iff.mp hy).1
    have hei : es[i]? = some es[i] := List.getElem?_eq_getElem hi
    have hft := flat_take hei
    have hle := flat_take_le es (i + 1)
    refine ⟨Tp, _, rfl, SqT.new, rfl, _, _, rfl, _, _, rfl, rfl, ?_⟩
    obtain ⟨c, rfl, hec⟩ := Paired.get' he hy hei
    obtain ⟨C, bS, dxc, fsc, hcH, isS, isR, hdep⟩ := entCase T hec
    have hcx : c ≠ x := fun e => by
      subst e
      rw [hx] at hcH
      injection hcH with hcH
      injection hcH with _ _ hcH
      subst hcH
      cases bS with
      | true => obtain ⟨_, j, e, _⟩ := hdep rfl; cases e
      | false =>
        cases hq : es[i] with
        | rule r =>
          rw [hq] at hec
          obtain ⟨_, _, _, h1, h2, _⟩ := hec
          rw [hx] at h1
          injection h1 with h1
          injection h1 with _ _ h1
          subst h1
          cases h2
        | inner rs =>
          rw [hq] at hec
          obtain ⟨d', rfl, _, _, _, _, _, _, _, _, h1, h2, _⟩ := StkAt.open hec
          rw [hx] at h1
          injection h1 with h1
          injection h1 with _ _ h1
          subst h1
          cases h2
    have v2 : Up x H _ := u.trans (Up.new (u := .tup [.int (i : Nat), .ref c]) hTp)
    have nT : Tp ≠ x := fun e => by rw [e, hx1] at hTp; cases hTp
    refine ⟨_, rfl, c, C, dxc, fsc, bS, rfl, v2 _ _ hcx hcH, isS, ?_⟩
    refine ⟨_, rfl, rfl, _, rfl, ?_⟩
    rw [show decide (V.int ((i : Nat) : Int) = V.int 12) = false from decide_eq_false fun e => by injection e with e; omega]
    refine iteF ?_
    refine notand_ok (K := K) (z := z) rfl rfl (v2 _ _ hcx hcH) isR (iteF ?_)
    have hx2 : L2.upd H1 Tp (.tup [.int (i : Nat), .ref c]) x = some (.ins z.cS dx (fsS p qa na dd)) := by rw [upd_ne nT.symm]; exact hx1
    have f2 := Fx.new (u := .tup [.int (i : Nat), .ref c]) hTp
    obtain ⟨_, ec, hec2⟩ := EntV.up ⟨c, rfl, hec⟩ v2 hx
    cases ec
    refine ⟨_, rfl, x, dx, _, _, rfl, hx2, rfl, _, rfl, c, d, es[i], rfl, hec2, fun t qs' H3 e3 ht hqs' => ?_⟩
    have hl1 := Paired.len hqs
    have hl2 := Paired.len hqs'
    have hl3 : (flat (es.take (i + 1))).length = (flat (es.take i)).length + es[i].rules.length := by rw [hft, List.length_append]
    refine catA_ok (sqT_fx (sqT_fx hq1 f2) e3.fx) ht (le_line (by omega)) fun q4 H4 e4 hq4 => ?_
    have v4 : Up x H H4 := v2.trans (Up.ext (e3.trans e4))
    have hx4 := e4 _ _ (e3 _ _ hx2)
    refine ⟨_, rfl, x, dx, _, rfl, hx4, by show (4 : Nat) < 1000; decide, ?_⟩
    have hrs4 : Paired (RulV K z H4) (qs ++ qs') (flat (es.take (i + 1))) := by
      rw [hft]
      exact Paired.app (rulsFx (rulsFx hqs f2) (e3.trans e4).fx) (rulsFx hqs' e4.fx)
    have v5 : Up x H (L2.upd H4 x (.ins z.cS dx (fsS p q4 na dd))) := v4.trans Up.upd
    have w5 : Up x H4 (L2.upd H4 x (.ins z.cS dx (fsS p q4 na dd))) := Up.upd
    have sq5 := sqT_up hq4 w5 hx4
    have hrs5 := rulsUp hrs4 w5 hx4 rfl
    have hx5 : L2.upd H4 x (.ins z.cS dx (fsS p q4 na dd)) x = some (.ins z.cS dx (fsS p q4 na dd)) := upd_same
    have na5 : SqT K (L2.upd H4 x (.ins z.cS dx (fsS p q4 na dd))) na (modV (es.take i)) := sqT_up (sqT_fx (sqT_fx hn1 f2) (e3.trans e4).fx) w5 hx4
    have hl4 : (qs ++ qs').length = (flat (es.take (i + 1))).length := Paired.len hrs5
    refine ⟨_, rfl, x, dx, fsS p q4 na dd, _, rfl, hx5, rfl, q4, rfl, ⟨qs ++ qs', sq5⟩, fun Dl hDl => ?_⟩
    refine lc_tup (xs := qs ++ qs') (fun j G => Up Dl (L2.upd (L2.upd H4 x (.ins z.cS dx (fsS p q4 na dd))) Dl (.lst [])) G ∧ G Dl = some (.lst ((((flat (es.take (i + 1))).take j).map fun r => r.m.s).map V.str))) ⟨Up.refl, upd_same⟩ (fun j G _ ⟨g, hd⟩ => sqT_fx sq5 ((Fx.new hDl).trans (g.fx upd_same (by simp [Fixd])))) (fun j y G hy ⟨g, hd⟩ => ?_) fun G ⟨g, hd⟩ => ?_
    · have fx : Fx (L2.upd H4 x (.ins z.cS dx (fsS p q4 na dd))) G := (Fx.new hDl).trans (g.fx upd_same (by simp [Fixd]))
      have hj : j < (flat (es.take (i + 1))).length := by rw [← hl4]; exact (List.getElem?_eq_some_iff.mp hy).1
      have hr := List.getElem?_eq_getElem hj
      obtain ⟨c', rfl, dx', gs, t', h1, h2, _⟩ := Paired.get' hrs5 hy hr
      refine ⟨rfl, _, rfl, c', dx', gs, _, rfl, fx _ _ h1 trivial, h2, _, hd, ?_, g.trans Up.upd, ?_⟩
      · rw [List.length_map, List.length_map, List.length_take]; exact lt_line (by omega)
      · rw [upd_same, take_map_succ _ hr, List.map_append] <;> rfl
    · rw [hl4, List.take_length] at hd
      have g5 : Ext (L2.upd H4 x (.ins z.cS dx (fsS p q4 na dd))) G := (Up.upd.trans g).free hDl
      refine ⟨Dl, (flat (es.take (i + 1))).map (fun r => r.m.s), rfl, .inl (SqL.of hd), by rw [List.length_map]; omega, fun sa cN hsa hcN => ?_⟩
      refine ⟨sa, _, cN, rfl, upd_same, by rw [List.length_map] at hcN; omega, fun ns pl hs hnd hm hlen hpl => ?_⟩
      refine ⟨pl, _, rfl, .inl ⟨SqL.of upd_same, fun nl hnl => ?_⟩⟩
      have hns : ns = (modsR (flat (es.take (i + 1)))).map Mdl.s := by
        rw [mods_set]
        refine sorted_mods (ks := (flat (es.take (i + 1))).map (fun r => r.m.s)) hs hnd hm fun k => ?_
        rw [List.mem_map]
        constructor
        · rintro ⟨r, hr, e⟩; exact ⟨r.m, List.mem_map.mpr ⟨r, hr, rfl⟩, e.symm⟩
        · rintro ⟨m, hm, e⟩
          obtain ⟨r, hr, e2⟩ := List.mem_map.mp hm
          exact ⟨r, hr, by rw [e2, e]⟩
      have w9 : Ext (L2.upd H4 x (.ins z.cS dx (fsS p q4 na dd))) (L2.upd (L2.upd (L2.upd G sa (LKS.SetO w sa (fun j => decide (j ∈ (flat (es.take (i + 1))).map (fun r => r.m.s))) cN)) pl (.lst (ns.map V.str))) nl (.tup (ns.map V.str))) := Ext.upd' (Ext.upd' (Ext.upd' g5 hsa) hpl) hnl
      have sn9 : SqT K (L2.upd (L2.upd (L2.upd G sa (LKS.SetO w sa (fun j => decide (j ∈ (flat (es.take (i + 1))).map (fun r => r.m.s))) cN)) pl (.lst (ns.map V.str))) nl (.tup (ns.map V.str))) nl (ns.map V.str) := SqT.new
      have v9 : Up x H (L2.upd (L2.upd (L2.upd G sa (LKS.SetO w sa (fun j => decide (j ∈ (flat (es.take (i + 1))).map (fun r => r.m.s))) cN)) pl (.lst (ns.map V.str))) nl (.tup (ns.map V.str))) := v5.trans (Up.ext w9)
      have hx9 := w9 _ _ hx5
      have sq9 := sqT_fx sq5 w9.fx
      have hrs9 := rulsFx hrs5 w9.fx
      have w10 : Up x (L2.upd (L2.upd (L2.upd G sa (LKS.SetO w sa (fun j => decide (j ∈ (flat (es.take (i + 1))).map (fun r => r.m.s))) cN)) pl (.lst (ns.map V.str))) nl (.tup (ns.map V.str))) (L2.upd (L2.upd (L2.upd (L2.upd G sa (LKS.SetO w sa (fun j => decide (j ∈ (flat (es.take (i + 1))).map (fun r => r.m.s))) cN)) pl (.lst (ns.map V.str))) nl (.tup (ns.map V.str))) x (.ins z.cS dx (fsS p q4 nl dd))) := Up.upd
      have hx10 : L2.upd (L2.upd (L2.upd (L2.upd G sa (LKS.SetO w sa (fun j => decide (j ∈ (flat (es.take (i + 1))).map (fun r => r.m.s))) cN)) pl (.lst (ns.map V.str))) nl (.tup (ns.map V.str))) x (.ins z.cS dx (fsS p q4 nl dd)) x = some (.ins z.cS dx (fsS p q4 nl dd)) := upd_same
      have sq10 := sqT_up sq9 w10 hx9
      have hrs10 := rulsUp hrs9 w10 hx9 rfl
      have sn10 := sqT_up sn9 w10 hx9
      have v10 : Up x H _ := v9.trans w10
      refine ⟨_, rfl, x, dx, _, rfl, hx9, by show (4 : Nat) < 1000; decide, ?_⟩
      refine ⟨_, rfl, x, dx, fsS p q4 nl dd, _, rfl, hx10, rfl, ?_⟩
      refine depArg (z := z) (d := d) rfl rfl (v10 _ _ hcx hcH) hdep fun j2 hj2 => ?_
      refine ⟨dd, j2, rfl, _, rfl, x, dx, _, rfl, hx10, by show (4 : Nat) < 1000; decide, ?_⟩
      have hmax1 : 1 ≤ (if j2 > dd then j2 else dd) := by split <;> omega
      have hmax2 : (if j2 > dd then j2 else dd) ≤ (d : Int) + 1 := by split <;> omega
      have w11 : Up x (L2.upd (L2.upd (L2.upd (L2.upd G sa (LKS.SetO w sa (fun j => decide (j ∈ (flat (es.take (i + 1))).map (fun r => r.m.s))) cN)) pl (.lst (ns.map V.str))) nl (.tup (ns.map V.str))) x (.ins z.cS dx (fsS p q4 nl dd))) (L2.upd (L2.upd (L2.upd (L2.upd (L2.upd G sa (LKS.SetO w sa (fun j => decide (j ∈ (flat (es.take (i + 1))).map (fun r => r.m.s))) cN)) pl (.lst (ns.map V.str))) nl (.tup (ns.map V.str))) x (.ins z.cS dx (fsS p q4 nl dd))) x (.ins z.cS dx (fsS p q4 nl (if j2 > dd then j2 else dd)))) := Up.upd
      have hx11 : L2.upd (L2.upd (L2.upd (L2.upd (L2.upd G sa (LKS.SetO w sa (fun j => decide (j ∈ (flat (es.take (i + 1))).map (fun r => r.m.s))) cN)) pl (.lst (ns.map V.str))) nl (.tup (ns.map V.str))) x (.ins z.cS dx (fsS p q4 nl dd))) x (.ins z.cS dx (fsS p q4 nl (if j2 > dd then j2 else dd))) x = some (.ins z.cS dx (fsS p q4 nl (if j2 > dd then j2 else dd))) := upd_same
      have sq11 := sqT_up sq10 w11 hx10
      have hrs11 := rulsUp hrs10 w11 hx10 rfl
      have sn11 := sqT_up sn10 w11 hx10
      have v11 : Up x H _ := v10.trans w11
      refine ⟨_, rfl, x, dx, fsS p q4 nl _, _, rfl, hx11, rfl, _, _, rfl, rfl, _, rfl, ?_⟩
      rw [decide_eq_false (show ¬ (3 : Int) < (if j2 > dd then j2 else dd) by omega)]
      refine iteF ?_
      refine ⟨_, rfl, x, dx, fsS p q4 nl _, _, rfl, hx11, rfl, _, _, rfl, .inr ⟨_, sq11, rfl⟩, _, _, rfl, rfl, _, rfl, ?_⟩
      rw [decide_eq_false (show ¬ (12 : Int) < ((qs ++ qs').length : Nat) by omega)]
      refine iteF ?_
      have hl7 : ns.length ≤ 3 := by rw [hns, List.length_map]; exact modsR_le _
      refine ⟨_, rfl, x, dx, fsS p q4 nl _, _, rfl, hx11, rfl, _, _, rfl, .inr ⟨_, sn11, rfl⟩, _, _, rfl, rfl, _, rfl, ?_⟩
      rw [decide_eq_false (show ¬ (6 : Int) < ((ns.map V.str).length : Nat) by rw [List.length_map]; omega)]
      refine iteF ?_
      refine ⟨_, _, _, _, q4, nl, _, qs ++ qs', rfl, v11, hx11, sq11, hrs11, ?_, hmax1, hmax2⟩
      have em : modV (es.take (i + 1)) = ns.map V.str := by rw [hns, List.map_map] <;> rfl
      rw [em]
      exact sn11
  · rintro σ H1 ⟨x2, x3, x4, x5, qa, na, dd, qs, rfl, u, hx1, hq1, hqs, hn1, hd1, hd2⟩
    rw [hln, List.take_length] at hqs hn1
    refine q H1 u (StkAt.close hx1 rfl (sqT_up hp u hx) (Paired.imp (fun _ _ h => h.up u hx) he) rfl hq1 hqs rfl hn1 rfl ⟨hd1, hd2, rfl⟩)
end
end LP

end

section
set_option Elab.async false
set_option linter.all false
set_option maxRecDepth 100000
set_option maxHeartbeats 4000000
/-! Stack(*entries), +, spliced. -/
namespace LP
open PySem PySem.Spec PyProof.Rows L2 LK LT LD LR
theorem makImp {P : Program} {w : World} {K : PySem.W.Frag} {mg : Str → Option Value} {base : Heap} {k : Nat} {x : Str} {C : Addr} {sp sp' : Sp} (c : Mak P w K mg base k x C sp) (h : ∀ vs H Q E, sp' vs H Q E → sp vs H Q E) : Mak P w K mg base k x C sp' :=
  let ⟨f, M, hm, F⟩ := c.ex
  ⟨f, M, hm, fun A outer s H us vs Q E hr e0 r hs => F A outer s H us vs Q E hr e0 r (h _ _ _ _ hs)⟩
section
variable {P : Program} {w : World} {K : PySem.W.Frag} {mg : Str → Option Value} {base : Heap} {z : Ad}
/-- Stack.__init__ with its entries in a row -/
def spStk (K : PySem.W.Frag) (z : Ad) : Sp := fun vs H Q _ => ∃ x dx d ps es, vs = V.ref x :: ps ∧ H x = some (.ins z.cS dx []) ∧ Paired (EntV K z d H) ps es ∧ es.length ≤ 12 ∧ (flat es).length ≤ 12 ∧ d ≤ 2 ∧
  ∀ H', Up x H H' → StkAt K z (d + 1) H' x es → Q .non H'
theorem c_stack (T : Txt K mg z) (D : Dmk K mg "Stack" z.cS "Stack.__init__" s_Stack_init) (C1 : Cal P w K mg base 1 "steps_of" (spSteps K z)) : Mak P w K mg base 2 "Stack" z.cS (spStk K z) :=
  makImp (c_stack0 T D C1) fun vs H Q E ⟨x, dx, d, ps, es, hv, hx, he, h12, hf, hd, q⟩ => by
    refine ⟨[.ref x], ps, hv, rfl, by rw [Paired.len he]; exact le_line (by omega), fun p hp => ?_⟩
    have hpx : p ≠ x := fun e => by rw [e, hx] at hp; cases hp
    refine ⟨x, p, dx, d, ps, es, rfl, by rw [upd_ne hpx.symm]; exact hx, SqT.new, entsFx he (Fx.new hp), h12, hf, hd, fun H' u hs => ?_⟩
    exact q H' ((Up.new hp).trans u) hs
/-- a new stack's making, from where it stands -/
theorem stk_made {H : Hp} {x dx : Addr} {d : Nat} {ps : List V} {es : List Ent} {Q : VK} {E : XK} (hx : H x = none) (hdx : H dx = none) (ne : dx ≠ x) (he : Paired (EntV K z d H) ps es) (h12 : es.length ≤ 12) (hf : (flat es).length ≤ 12) (hd : d ≤ 2)
    (q : ∀ c H', Ext H H' → StkAt K z (d + 1) H' c es → Q (.ref c) H') :
    spStk K z (V.ref x :: ps) (L2.upd (L2.upd H dx (.own x)) x (.ins z.cS dx [])) (fun v H2 => v = .non ∧ Q (.ref x) H2) E := by
  have e1 : Ext H (L2.upd (L2.upd H dx (.own x)) x (.ins z.cS dx [])) := Ext.upd' (Ext.upd hdx) (by rw [upd_ne ne.symm]; exact hx)
  exact ⟨x, dx, d, ps, es, rfl, upd_same, entsFx he e1.fx, h12, hf, hd, fun H' u hs => ⟨rfl, q x H' (mk_ext hx hdx u) hs⟩⟩

def spAddS (K : PySem.W.Frag) (z : Ad) : Sp := fun vs H Q _ => ∃ a b d es es', vs = [V.ref a, V.ref b] ∧ StkAt K z (d + 1) H a es ∧ StkAt K z (d + 1) H b es' ∧ (es ++ es').length ≤ 12 ∧ (flat (es ++ es')).length ≤ 12 ∧ d ≤ 2 ∧
  ∀ c H', Ext H H' → StkAt K z (d + 1) H' c (es ++ es') → Q (.ref c) H'
theorem c_addS (T : Txt K mg z) (D : Ddu K z.cS "__add__" "Stack.__add__" s_Stack_add) (CS : Mak P w K mg base 2 "Stack" z.cS (spStk K z)) : Dun P w K mg base 4 z.cS "__add__" (spAddS K z) := by
  refine D.dun sc_Stack_add (fun _ _ _ _ _ _ us hl => match us, hl with | [_, _], _ => rfl) (fun vs H Q E ⟨a, b, d, es, es', h, _⟩ => by rw [h]; rfl) fun f cdv A outer s H vs Q E hr ⟨a, b, d, es, es', hv, ha, hb, h12, hf, hd, q⟩ => ⟨_, PSs.nox
    (pss_cons (ps_set (i := 2) sc_Stack_add.nd rfl (Or.inl rfl) (pe_op op_catA (pe_f T.fS1 (pv 0)) (pe_f T.fS1 (pv 1))))
    (pss_one (ps_ret (pe_mkS CS hr (by decide) rfl (pv 2))))), ?_⟩
  subst hv
  obtain ⟨d1, e1, dx, fs, p, q', n, i, ps, qs, h1, h2, h3, h4, _⟩ := ha.open
  obtain ⟨d2, e2, dy, gs, p2, q2, n2, i2, ps2, qs2, k1, k2, k3, k4, _⟩ := hb.open
  cases e1
  cases e2
  have hl : ps.length + ps2.length ≤ 12 := by
    rw [Paired.len h4, Paired.len k4, ← List.length_append]; exact h12
  refine ⟨_, rfl, a, dx, fs, _, rfl, h1, h2, _, rfl, b, dy, gs, _, rfl, k1, k2, catA_ok h3 k3 (le_line (by omega)) fun t H1 e1 ht => ?_⟩
  refine ⟨_, rfl, t, _, rfl, .inl ht, fun x dx hx hdx ne => ?_⟩
  exact stk_made hx hdx ne (Paired.app (entsFx h4 e1.fx) (entsFx k4 e1.fx)) h12 hf hd fun c H' e hs => q c H' (e1.trans e) hs

def spSpl (K : PySem.W.Frag) (z : Ad) : Sp := fun vs H Q _ => ∃ b t d es i c xs es2, vs = [V.ref b, V.int ((i : Nat) : Int), V.int ((c : Nat) : Int), V.ref t] ∧ StkAt K z (d + 1) H b es ∧ SqT K H t xs ∧ Paired (EntV K z d H) xs es2 ∧ i + c ≤ es.length ∧
  es.length ≤ 12 ∧ es2.length ≤ 12 ∧ (es.take i ++ es2 ++ es.drop (i + c)).length ≤ 12 ∧ (flat (es.take i ++ es2 ++ es.drop (i + c))).length ≤ 12 ∧ d ≤ 2 ∧
  ∀ c' H', Ext H H' → StkAt K z (d + 1) H' c' (es.take i ++ es2 ++ es.drop (i + c)) → Q (.ref c') H'
theorem c_spliced (T : Txt K mg z) (D : Dme K z.cS "spliced" "Stack.spliced" s_Stack_spliced) (CN : Cal P w K mg base 1 "is_number" spNumber) (CS : Mak P w K mg base 2 "Stack" z.cS (spStk K z)) : Met P w K mg base 4 z.cS "spliced" (spSpl K z) := by
  refine D.met sc_Stack_spliced (fun _ _ _ _ _ _ us hl => match us, hl with | [_, _, _, _], _ => rfl) (fun vs H Q E ⟨b, t, d, es, i, c, xs, es2, h, _⟩ => by rw [h]; rfl) fun f cdv A outer s H vs Q E hr ⟨b, t, d, es, i, c, xs, es2, hv, hb, ht, hx, hic, hz1, hz2, h12, hf, hd, q⟩ => ⟨_, PSs.nox
    (pss_cons (ps_if (PW.pt (pw_or (pt_not (pt_val (pe_c CN hr (by decide) rfl (pa_cons (pv 1) (pa_cons pe_int (pa_cons (pe_callB call_len (by rfl) T.f_len boot_len (pa_cons (pe_f T.fS1 (pv 0)) pa_nil)) pa_nil))))))
        (pw_or1 (pt_not (pt_val (pe_c CN hr (by decide) rfl (pa_cons (pv 2) (pa_cons pe_int (pa_cons (pe_op op_sub (pe_callB call_len (by rfl) T.f_len boot_len (pa_cons (pe_f T.fS1 (pv 0)) pa_nil)) (pv 1)) pa_nil))))))))) (pss_one ps_never) pss_nil)
    (pss_cons (ps_set (i := 4) sc_Stack_spliced.nd rfl (Or.inl rfl) (pe_op op_catA (pe_op op_catA (pe_slice sl_tupA (pe_f T.fS1 (pv 0)) po_none (po_some (pv 1))) (pv 3)) (pe_slice sl_tupA (pe_f T.fS1 (pv 0)) (po_some (pe_op op_add (pv 1) (pv 2))) po_none)))
    (pss_one (ps_ret (pe_mkS CS hr (by decide) rfl (pv 4)))))), ?_⟩
  subst hv
  obtain ⟨d1, e1, dx, fs, p, q', n, j, ps, qs, h1, h2, h3, h4, _⟩ := hb.open
  cases e1
  have hl := Paired.len h4
  have hl2 := Paired.len hx
  refine ⟨_, rfl, _, rfl, b, dx, fs, _, rfl, h1, h2, _, _, rfl, .inr ⟨_, h3, rfl⟩, ?_⟩
  refine ⟨_, _, _, rfl, _, rfl, ?_⟩
  rw [decide_eq_true (show (0 : Int) ≤ ((i : Nat) : Int) by omega), decide_eq_true (show ((i : Nat) : Int) ≤ ((ps.length : Nat) : Int) by omega)]
  refine iteF ?_
  refine ⟨_, rfl, _, rfl, b, dx, fs, _, rfl, h1, h2, _, _, rfl, .inr ⟨_, h3, rfl⟩, _, rfl, _, _, rfl, rfl, ?_⟩
  refine ⟨_, _, _, rfl, _, rfl, ?_⟩
  rw [decide_eq_true (show (0 : Int) ≤ ((c : Nat) : Int) by omega), decide_eq_true (show ((c : Nat) : Int) ≤ ((ps.length : Nat) : Int) - ((i : Nat) : Int) by omega)]
  refine iteF ?_
  refine ⟨_, rfl, b, dx, fs, _, rfl, h1, h2, _, rfl, _, rfl, sl_ok h3 fun t1 H1 e1 ht1 => ?_⟩
  rw [cut_to] at ht1
  refine ⟨_, rfl, catA_ok ht1 (sqT_fx ht e1.fx) (le_line (by rw [List.length_take]; omega)) fun t2 H2 e2 ht2 => ?_⟩
  have e12 := e1.trans e2
  refine ⟨_, rfl, b, dx, fs, _, rfl, e12 _ _ h1, h2, _, rfl, _, rfl, _, _, rfl, rfl, _, rfl, ?_⟩
  unfold tNoPart
  refine sl_ok (sqT_fx h3 e12.fx) fun t3 H3 e3 ht3 => ?_
  have e13 := e12.trans e3
  rw [show ((i : Nat) : Int) + ((c : Nat) : Int) = ((i + c : Nat) : Int) by omega, cut_from] at ht3
  refine catA_ok (sqT_fx ht2 e3.fx) ht3 (le_line (by rw [List.length_append, List.length_take, List.length_drop]; omega)) fun t4 H4 e4 ht4 => ?_
  have e14 := e13.trans e4
  refine ⟨_, rfl, t4, _, rfl, .inl ht4, fun x dx hx' hdx ne => ?_⟩
  refine stk_made hx' hdx ne (es := es.take i ++ es2 ++ es.drop (i + c)) (Paired.app (Paired.app (entsFx (Paired.tk h4 i) e14.fx) (entsFx hx e14.fx)) (entsFx (Paired.dr h4 (i + c)) e14.fx)) h12 hf hd fun c' H' e hs => q c' H' (e14.trans e) hs
end
end LP

end

section
set_option Elab.async false
set_option linter.all false
set_option maxRecDepth 100000
set_option maxHeartbeats 4000000
/-! Run.ended. -/
namespace LP
open PySem PySem.Spec PyProof.Rows L2 LK LT LD LR
def kvsOf (r : ARow) : List (Key × V) := r.map fun p => (Sum.inr p.1.s, V.str p.2.s)
def AnsAt (H : Hp) (a : Addr) (r : ARow) : Prop := H a = some (.dK (kvsOf r))
theorem look_val : ∀ {r : ARow} {m : Mdl}, m ∈ r.map (·.1) → valV (kvsOf r) (Sum.inr m.s : Key) = some (V.str (look r m).s) := by
  intro r
  induction r with
  | nil => intro m h; cases h
  | cons p r ih =>
    intro m h
    show valV ((Sum.inr p.1.s, V.str p.2.s) :: kvsOf r) _ = _
    by_cases e : p.1 = m
    · rw [valV_pos (by rw [e])]
      unfold look
      rw [List.find?_cons, decide_eq_true e] <;> rfl
    · rw [valV_neg (fun z => e (mdl_inj (Sum.inr.inj z)))]
      have hm : m ∈ r.map (·.1) := by
        rcases List.mem_cons.mp h with h | h
        · exact absurd h.symm e
        · exact h
      rw [ih hm]
      unfold look
      rw [List.find?_cons, decide_eq_false e] <;> rfl
/-- the answers tell of all modules -/
def Covers (r : ARow) (rs : List Rul) : Prop := ∀ x ∈ rs, x.m ∈ r.map (·.1)
section
variable {P : Program} {w : World} {K : PySem.W.Frag} {mg : Str → Option Value} {base : Heap} {z : Ad}

def spEnded (K : PySem.W.Frag) (z : Ad) (d : Nat) : Sp := fun vs H Q _ => ∃ x b n mv dxn fsn ta l ys es r m, vs = [V.ref x, V.ref b, V.int ((n : Nat) : Int), mv] ∧ H x = some (.ins z.cN dxn fsn) ∧ fsn.lookup ("told" : Str) = some (V.ref ta) ∧ fsn.lookup ("asked_rules" : Str) = some (V.ref l) ∧
  fsn.lookup ("ended" : Str) = none ∧ AnsAt H ta r ∧ H l = some (.lst ys) ∧ StkAt K z d H b es ∧ MkAt K H mv m ∧ Covers r (flat es) ∧ ys.length + (flat es).length ≤ 100 ∧ es.length ≤ 12 ∧ (flat es).length ≤ 12 ∧
  ∀ v H' ys', Up l H H' → H' l = some (.lst ys') → ys'.length ≤ ys.length + (flat es).length → MkAt K H' v (ranE (look r) m es m 0) → Q v H'
theorem ext_up {H H' : Hp} {b : Addr} (e : Ext H H') : Up b H H' := Up.ext e
theorem ran_rule {ans : Mdl → Res} {beg m : Mrk} {es : List Ent} {i : Nat} {r : Rul} (h : es[i]? = some (.rule r)) :
    ranE ans beg (es.drop i) m 0 = if stops (r.a (ans r.m)) (acted (r.a (ans r.m)) m beg) then acted (r.a (ans r.m)) m beg else ranE ans beg (es.drop (i + 1 + (r.a (ans r.m)).jmp)) (acted (r.a (ans r.m)) m beg) 0 := by
  obtain ⟨hi, he⟩ := List.getElem?_eq_some_iff.mp h
  rw [List.drop_eq_getElem_cons hi, he]
  show (if _ then _ else ranE ans beg (es.drop (i + 1)) _ _) = _
  rw [ran_drop, List.drop_drop]
theorem ran_inner {ans : Mdl → Res} {beg m : Mrk} {es : List Ent} {i : Nat} {rs : List Rul} (h : es[i]? = some (.inner rs)) :
    ranE ans beg (es.drop i) m 0 = ranE ans beg (es.drop (i + 1)) (ranE ans m (rs.map .rule) m 0) 0 := by
  obtain ⟨hi, he⟩ := List.getElem?_eq_some_iff.mp h
  rw [List.drop_eq_getElem_cons hi, he, ran_rules] <;> rfl
theorem axn_isInt (H : Hp) (a : Axn) : (∃ i : Nat, a.v = .int ((i : Nat) : Int) ∧ a.jmp = i ∧ IsB K H "int" a.v true) ∨ (a.jmp = 0 ∧ IsB K H "int" a.v false) := by
  cases a with
  | j1 => exact .inl ⟨1, rfl, rfl, isB_int _ (by decide +kernel)⟩
  | j2 => exact .inl ⟨2, rfl, rfl, isB_int _ (by decide +kernel)⟩
  | j9 => exact .inl ⟨9, rfl, rfl, isB_int _ (by decide +kernel)⟩
  | _ => exact .inr ⟨rfl, isB_str _ (by decide +kernel)⟩
theorem axn_str (a : Axn) : scal a.v (.str "die") = true ∧ scal a.v (.str "done") = true ∧ decide (a.v = V.str "die") = decide (a = .die) ∧ decide (a.v = V.str "done") = decide (a = .done) := by
  cases a <;> decide +kernel
theorem stopTest (T : Txt K mg z) {σ : L2.St} {H : Hp} {Q : Bool → Hp → Prop} {a : Axn} {v : V} {m : Mrk} (h9 : σ[9]? = some (some a.v)) (h3 : σ[3]? = some (some v)) (hv : MkAt K H v m) (q : Q (stops a m) H) :
    tOr (tTest (tOp rEq (tVar 9) (tC (.str "die")))) (tAnd (tTest (tOp rEq (tVar 9) (tC (.str "done")))) (tTest (tOp (rEqD K) (tVar 3) (tC (.ref z.tGood))))) σ H Q := by
  obtain ⟨sc1, sc2, de1, de2⟩ := axn_str a
  refine ⟨_, h9, sc1, _, rfl, ?_⟩
  rw [de1]
  unfold stops at q
  cases hd : decide (a = .die) with
  | true => rw [hd, Bool.true_or] at q; exact iteT q
  | false =>
    rw [hd, Bool.false_or] at q
    refine iteF ⟨_, h9, sc2, _, rfl, ?_⟩
    rw [de2]
    cases hn : decide (a = .done) with
    | false => rw [hn, Bool.false_and] at q; exact iteF q
    | true =>
      rw [hn, Bool.true_and] at q
      obtain ⟨dd, hdd, hdc⟩ := MkAt.dp hv
      refine iteT ⟨_, h3, _, _, hdd, .tup (T.kGood.sq _) (.cons (.str "good") (.cons .non .nil)), mk_shaped hdc, mk_shaped (m := .good) (.inr ⟨by decide, rfl⟩), _, rfl, ?_⟩
      rw [show PyData.eqv (.tuple [.str (mkW m), dd]) (.tuple [.str "good", .none]) = decide (m = .good) from mk_eqv (m' := .good) hdc ⟨by decide, rfl⟩]
      exact q
theorem flat_take_mono (es : List Ent) {k k' : Nat} (h : k ≤ k') : (flat (es.take k)).length ≤ (flat (es.take k')).length := by
  have z := flat_take_le (es.take k') k
  rw [List.take_take, Nat.min_eq_left h] at z
  exact z
theorem c_ended (T : Txt K mg z) (D : Dme K z.cN "ended" "Run.ended" s_Run_ended) (CF : Cal P w K mg base 2 "firsts_of" (spFirsts K z)) (CM : Cal P w K mg base 1 "marked" (spMarked K)) (CA : Met P w K mg base 1 z.cR "action_for" (spAction K z)) :
    ∀ d : Nat, Met P w K mg base (d + 3) z.cN "ended" (spEnded K z d) := by
  obtain ⟨_, gDIE⟩ := T.s_DIE
  obtain ⟨_, gDONE⟩ := T.s_DONE
  intro d
  induction d with
  | zero =>
    obtain ⟨f, fd, h1, h2, F⟩ := D.ex
    refine ⟨f, h1, h2, fun A outer s H us vs Q E _ _ _ hs => ?_⟩
    obtain ⟨x, b, n, mv, dxn, fsn, ta, l, ys, es, r, m, _, _, _, _, _, _, _, h, _⟩ := hs
    exact h.elim
  | succ d ih =>
    refine D.met (k := d + 3) sc_Run_ended (fun _ _ _ _ _ _ us hl => match us, hl with | [_, _, _, _], _ => rfl) (fun vs H Q E ⟨x, b, n, mv, dxn, fsn, ta, l, ys, es, r, m, h, _⟩ => by rw [h]; rfl) fun f cdv A outer s H vs Q E hr ⟨x, b, n, mv, dxn, fsn, ta, l, ys, es, r, m, hv, hx, hta, hl, hen, hans, hlst, hb, hm, hcov, h100, h12, hf12, q⟩ => ⟨_, PSs.nox
      (pss_cons (ps_par (i := 4) (j := 5) (by rfl) sc_Run_ended.nd rfl rfl (by decide) rfl rfl (pa_cons (pv 3) (pa_cons pe_int pa_nil)) (by rfl))
      (pss_cons (ps_set (i := 6) sc_Run_ended.nd rfl (Or.inl rfl) (pe_c CF hr (by omega) rfl (pa_cons (pv 1) (pa_cons (pv 2) pa_nil))))
      (pss_cons (ps_while PassesOwn.never (pt_cmpR op_lt (pv 5) (pe_callB call_len (by rfl) T.f_len boot_len (pa_cons (pe_f T.fS1 (pv 1)) pa_nil)) (nomark _))
        (pss_cons (ps_par (i := 7) (j := 8) (by rfl) sc_Run_ended.nd rfl rfl (by decide) rfl rfl (pa_cons (pe_ix ix_tup (pe_f T.fS1 (pv 1)) (pv 5) (fun _ _ => rfl)) (pa_cons (pe_ix ix_list (pv 6) (pv 5) (fun _ _ => rfl)) pa_nil)) (by rfl))
        (pss_cons (ps_aug (i := 5) sc_Run_ended.nd rfl (Or.inl rfl) pe_int ip_add)
        (pss_cons (ps_if (pt_val (pe_isO rfl T.f_isinstance rfl T.gS (pv 7)))
          (pss_cons (ps_set (i := 3) sc_Run_ended.nd rfl (Or.inl rfl) (pe_mt ih hr (by omega) (pv 0) (pa_cons (pv 7) (pa_cons (pv 8) (pa_cons (pv 3) pa_nil))))) (pss_one ps_continue)) pss_nil)
        (pss_cons (ps_expr (pe_bm PySem.F.plainAttrs_list PySem.F.slot_list_append PySem.F.type_list_append mt_append (pe_f T.fN2 (pv 0)) (pa_cons (pv 8) pa_nil)))
        (pss_cons (ps_set (i := 9) sc_Run_ended.nd rfl (Or.inl rfl) (pe_mt CA hr (by omega) (pv 7) (pa_cons (pe_dget (hu_of hr) (pe_f T.fN1 (pv 0)) (pe_f T.fR1 (pv 7)) (fun _ _ => rfl)) pa_nil)))
        (pss_cons (ps_set (i := 3) sc_Run_ended.nd rfl (Or.inl rfl) (pe_c CM hr (by omega) rfl (pa_cons (pv 9) (pa_cons (pv 3) (pa_cons (pv 4) (pa_cons (pv 8) pa_nil))))))
        (pss_cons (ps_if (PW.pt (pw_or (pt_cmpR op_eq (pv 9) (pe_glob (v := .str "die") rfl gDIE ⟨_, rfl⟩) (nomark _)) (pw_or1 (PW.pt (pw_and (pt_cmpR op_eq (pv 9) (pe_glob (v := .str "done") rfl gDONE ⟨_, rfl⟩) (nomark _)) (pw_and1 (pt_cmpR (op_eqD hr.units) (pv 3) (pe_glob (v := .ref z.tGood) rfl T.gGood rfl) (nomark _))))))))
          (pss_one (ps_ret (pv 3))) pss_nil)
        (pss_one (ps_if (pt_val (pe_isB rfl T.f_isinstance rfl T.f_int PyProof.Rows.boot_int (pv 9))) (pss_one (ps_aug (i := 5) sc_Run_ended.nd rfl (Or.inl rfl) (pv 9) ip_add)) pss_nil))))))))))
      (pss_one (ps_ret (pv 3)))))), ?_⟩
    subst hv
    have hb0 := hb
    obtain ⟨d1, e1, dx, fs, p, q', nm, j, ps, qs, h1, h2, h3, h4, _⟩ := hb.open
    cases e1
    have hln := Paired.len h4
    have fxl : ∀ {H' : Hp}, Up l H H' → Fx H H' := fun u => u.fx hlst (by simp [Fixd])
    refine ⟨_, rfl, _, _, rfl, ?_⟩
    refine ⟨_, rfl, _, rfl, b, d + 1, es, n, rfl, hb, h12, hf12, fun fl H1 hfl e1 h1f => ?_⟩
    have nfl : fl ≠ l := fun e => by rw [e, hlst] at hfl; cases hfl
    refine while_by (fun σ H' => ∃ k m' mv' ys' x7 x8 x9, σ = [some (V.ref x), some (V.ref b), some (V.int ((n : Nat) : Int)), some mv', some mv, some (V.int ((k : Nat) : Int)), some (V.ref fl), x7, x8, x9] ∧ Up l H1 H' ∧ H' l = some (.lst ys') ∧
        ys'.length ≤ ys.length + (flat (es.take k)).length ∧ MkAt K H' mv' m' ∧ ranE (look r) m es m 0 = ranE (look r) m (es.drop k) m' 0)
      (fun σ _ => match σ[5]? with | some (some (V.int i)) => ((es.length : Int) - i).toNat | _ => 0)
      ⟨0, m, mv, ys, none, none, none, rfl, Up.refl, e1 _ _ hlst, by omega, hm.fx e1.fx, rfl⟩ ?_ ?_
    · rintro σ H' ⟨k, m', mv', ys', x7, x8, x9, rfl, u, hl', hle, hmk, hran⟩
      have u0 : Up l H H' := (Up.ext e1).trans u
      have f0 := fxl u0
      have hx' := f0 _ _ hx trivial
      refine ⟨_, rfl, _, rfl, b, dx, fs, _, rfl, f0 _ _ h1 trivial, h2, _, _, rfl, .inr ⟨_, sqT_fx h3 f0, rfl⟩, _, _, rfl, rfl, _, rfl, ?_⟩
      refine ite2 (fun hlt => ?_) fun hge => ?_
      · have hk : k < es.length := by have := of_decide_eq_true hlt; omega
        have hke : es[k]? = some es[k] := List.getElem?_eq_getElem hk
        have hkp : ps[k]? = some ps[k] := List.getElem?_eq_getElem (by omega)
        have hft := flat_take hke
        have hfle := flat_take_le es (k + 1)
        have hfl3 : (flat (es.take (k + 1))).length = (flat (es.take k)).length + es[k].rules.length := by rw [hft, List.length_append]
        have hfl' : H' fl = some (.lst (firstsL n es)) := u _ _ nfl h1f
        have hfk : (firstsL n es)[k]? = some (firstAt n es k) := by
          unfold firstsL
          rw [List.getElem?_map, List.getElem?_range hk] <;> rfl
        obtain ⟨c, hc, hec⟩ := Paired.get' h4 hkp hke
        have hec' := hec.fx f0
        refine ⟨_, rfl, b, dx, fs, _, rfl, f0 _ _ h1 trivial, h2, _, rfl, p, ps, _, _, rfl, rfl, sqT_fx h3 f0, atI_nat hkp, _, rfl, _, rfl, fl, _, _, _, rfl, rfl, SqL.of hfl', atI_nat hfk, _, _, rfl, ?_⟩
        rw [hc]
        refine ⟨_, rfl, _, _, rfl, rfl, ?_⟩
        have hmu : ((es.length : Int) - (((k + 1 : Nat)) : Int)).toNat < ((es.length : Int) - ((k : Nat) : Int)).toNat := by omega
        have ek1 : ((k : Nat) : Int) + 1 = ((k + 1 : Nat) : Int) := by omega
        cases hek : es[k] with
        | inner rs =>
          rw [hek] at hec' hft hfl3
          have hst : StkAt K z d H' c (rs.map .rule) := hec'
          obtain ⟨dx', fs', hi⟩ := StkAt.ins hst
          refine ⟨_, rfl, c, _, dx', fs', true, rfl, hi, ⟨T.oS, T.ss⟩, true, rfl, ?_⟩
          have hcv : Covers r (flat (rs.map .rule)) := by
            rw [flat_rules]
            intro y hy
            refine hcov y (List.mem_flatMap.mpr ⟨es[k], List.getElem_mem hk, ?_⟩)
            rw [hek]; exact hy
          have hrl : (flat (rs.map Ent.rule)).length = (Ent.inner rs).rules.length := by rw [flat_rules] <;> rfl
          have hrl2 : (rs.map Ent.rule).length = (Ent.inner rs).rules.length := by rw [List.length_map] <;> rfl
          refine ⟨_, rfl, x, dxn, fsn, rfl, hx', hen, _, rfl, _, rfl, _, rfl, x, c, n + (flat (es.take k)).length, mv', dxn, fsn, ta, l, ys', rs.map .rule, r, m', rfl, hx', hta, hl, hen, f0 _ _ hans trivial, hl', hst, hmk, hcv, by omega, by omega, by omega, fun v H2 ys2 u2 hl2 hle2 hmv => ?_⟩
          refine ⟨⟨k + 1, _, v, ys2, some (V.ref c), some (firstAt n es k), x9, ?_, u.trans u2, hl2, by omega, hmv, ?_⟩, hmu⟩
          · rw [← ek1] <;> rfl
          · rw [hran, ran_inner (by rw [hke, hek])]
        | rule r0 =>
          rw [hek] at hec' hft hfl3
          have hrt : RuleAt K z H' c r0 := hec'
          obtain ⟨dx', fs', t', hi, hi2, hi3, hi4, hi5⟩ := id hrt
          refine ⟨_, rfl, c, _, dx', fs', false, rfl, hi, ⟨T.oR, T.rs⟩, false, rfl, ?_⟩
          have hrl : (Ent.rule r0).rules.length = 1 := rfl
          refine iteF ?_
          refine ⟨_, rfl, x, dxn, fsn, _, rfl, hx', hl, .inl ⟨rfl, _, SqL.of hl'⟩, _, rfl, l, _, _, rfl, rfl, hl', lt_line (by omega), ?_⟩
          have f2 : Fx H' (L2.upd H' l (.lst (ys' ++ [firstAt n es k]))) := Fx.upd hl' (by simp [Fixd])
          have u2 : Up l H1 (L2.upd H' l (.lst (ys' ++ [firstAt n es k]))) := u.trans Up.upd
          have hmem : r0.m ∈ r.map (·.1) := by
            refine hcov r0 (List.mem_flatMap.mpr ⟨es[k], List.getElem_mem hk, ?_⟩)
            rw [hek]; exact List.mem_singleton.mpr rfl
          have hdg : DGet (L2.upd H' l (.lst (ys' ++ [firstAt n es k]))) ta (V.str r0.m.s) (some (V.str (look r r0.m).s)) := by
            have z := DGet.k (k := (Sum.inr r0.m.s : Key)) (f2 _ _ (f0 _ _ hans trivial) trivial)
            rw [look_val hmem] at z
            exact z
          refine ⟨_, rfl, c, dx', fs', rfl, f2 _ _ hi trivial, hi5, _, rfl, x, dxn, fsn, _, rfl, f2 _ _ hx' trivial, hta, _, rfl, c, dx', fs', _, rfl, f2 _ _ hi trivial, hi2, ta, _, rfl, hdg, c, r0, look r r0.m, rfl, hrt.fx f2, ?_⟩
          generalize ha : r0.a (look r r0.m) = a
          refine ⟨_, rfl, _, rfl, _, rfl, _, rfl, a, mv', mv, m', m, ((n + (flat (es.take k)).length : Nat) : Int), rfl, hmk.fx f2, (hm.fx f0).fx f2, fun v H3 e3 hv3 => ?_⟩
          have hl3 : H3 l = some (.lst (ys' ++ [firstAt n es k])) := e3 _ _ upd_same
          have u3 : Up l H1 H3 := u2.trans (Up.ext e3)
          have hstep := ran_rule (ans := look r) (beg := m) (m := m') (show es[k]? = some (.rule r0) by rw [hke, hek])
          rw [ha] at hstep
          have hlen3 : (ys' ++ [firstAt n es k]).length = ys'.length + 1 := by rw [List.length_append] <;> rfl
          refine stopTest T rfl rfl hv3 ?_
          cases hs : stops a (acted a m' m) with
          | true =>
            rw [hs, if_pos rfl] at hstep
            refine iteT ⟨_, rfl, q v H3 _ ((Up.ext e1).trans u3) hl3 (by omega) ?_⟩
            rw [hran, hstep]
            exact hv3
          | false =>
            rw [hs, if_neg Bool.false_ne_true] at hstep
            refine iteF ?_
            have hmono := flat_take_mono es (show k + 1 ≤ k + 1 + a.jmp by omega)
            rcases axn_isInt (K := K) H3 a with ⟨ji, ea, ej, ib⟩ | ⟨ej, ib⟩
            · refine ⟨_, rfl, true, ib, true, rfl, iteT ?_⟩
              rw [ea]
              refine ⟨_, rfl, _, rfl, _, _, rfl, rfl, ?_⟩
              rw [ej] at hstep hmono
              refine ⟨⟨k + 1 + ji, _, v, _, some (V.ref c), some (firstAt n es k), some a.v, ?_, u3, hl3, by omega, hv3, by rw [hran, hstep]⟩, ?_⟩
              · have e3 : ((k : Nat) : Int) + 1 + ((ji : Nat) : Int) = ((k + 1 + ji : Nat) : Int) := by omega
                rw [← e3, ea] <;> rfl
              · show ((es.length : Int) - (((k : Nat) : Int) + 1 + ((ji : Nat) : Int))).toNat < ((es.length : Int) - ((k : Nat) : Int)).toNat
                omega
            · refine ⟨_, rfl, false, ib, false, rfl, iteF ?_⟩
              rw [ej] at hstep hmono
              refine ⟨⟨k + 1, _, v, _, some (V.ref c), some (firstAt n es k), some a.v, ?_, u3, hl3, by omega, hv3, by rw [hran, hstep]⟩, hmu⟩
              rw [← ek1] <;> rfl
      · have hk : es.length ≤ k := by
          have : ¬ ((k : Nat) : Int) < ((ps.length : Nat) : Int) := fun h => hge (decide_eq_true h)
          omega
        rw [List.drop_of_length_le hk] at hran
        rw [List.take_of_length_le hk] at hle
        refine ⟨_, rfl, q mv' H' ys' u0 hl' hle ?_⟩
        rw [hran]
        exact hmk
    · rintro σ H' Q1 Q2 hq ⟨v1, a1, v2, a2, b', dx', fs', v3, a3, a4, a5, v4, n4, a6, a7, i1, j1, a8, a9, k1, a10, a11⟩
      exact ⟨v1, a1, v2, a2, b', dx', fs', v3, a3, a4, a5, v4, n4, a6, a7, i1, j1, a8, a9, k1, a10, hq _ _ a11⟩
end
end LP

end

section
set_option Elab.async false
set_option linter.all false
set_option maxRecDepth 100000
set_option maxHeartbeats 4000000
/-! Run: making, outcome. -/
namespace LP
open PySem PySem.Spec PyProof.Rows L2 LK LT LD LR
section
variable {P : Program} {w : World} {K : PySem.W.Frag} {mg : Str → Option Value} {base : Heap} {z : Ad}
/-- a run that has ended -/
def RunAt (K : PySem.W.Frag) (z : Ad) (H : Hp) (x : Addr) (m : Mrk) : Prop := ∃ dx fs v, H x = some (.ins z.cN dx fs) ∧ fs.lookup ("mark" : Str) = some v ∧ fs.lookup ("outcome" : Str) = none ∧ MkAt K H v m
def spRun (K : PySem.W.Frag) (z : Ad) : Sp := fun vs H Q _ => ∃ x b ta dx d es r, vs = [V.ref x, V.ref b, V.ref ta] ∧ H x = some (.ins z.cN dx []) ∧ AnsAt H ta r ∧ StkAt K z d H b es ∧ d ≤ 3 ∧ Covers r (flat es) ∧ es.length ≤ 12 ∧ (flat es).length ≤ 12 ∧
  ∀ H', Up x H H' → RunAt K z H' x (ranE (look r) .none es .none 0) → Q .non H'
theorem mkAt_up {H H' : Hp} {x C dx : Addr} {fs : List (Str × V)} {v : V} {m : Mrk} (h : MkAt K H v m) (u : Up x H H') (hx : H x = some (.ins C dx fs)) : MkAt K H' v m := by
  obtain ⟨a, rfl, h⟩ := h
  refine ⟨a, rfl, ?_⟩
  cases m with
  | none => exact sqT_up h u hx
  | good => exact sqT_up h u hx
  | bad => obtain ⟨n, h⟩ := h; exact ⟨n, sqT_up h u hx⟩
theorem metMono {k k' : Nat} {C : Addr} {m : Str} {sp : Sp} (c : Met P w K mg base k C m sp) (h : k ≤ k') : Met P w K mg base k' C m sp := by
  obtain ⟨f, a, b, F⟩ := c.ex
  exact ⟨f, a, b, fun A outer s H us vs Q E hr => F A outer s H us vs Q E (hr.mono h)⟩
theorem c_run (T : Txt K mg z) (D : Dmk K mg "Run" z.cN "Run.__init__" s_Run_init) (CE : ∀ d : Nat, Met P w K mg base (d + 3) z.cN "ended" (spEnded K z d)) : Mak P w K mg base 7 "Run" z.cN (spRun K z) := by
  obtain ⟨f, fd, M, hm, F⟩ := D.ex
  refine ⟨f, M, hm, ?_⟩
  intro A outer s H us vs Q E hr e0 rv hsp
  obtain ⟨x, b, ta, dx, d, es, r, hv, hx, hans, hb, hd3, hcov, h12, hf12, q⟩ := hsp
  have G : FnR P w K mg base CX0 7 f (fun vs H Q E => ∃ x b ta dx es r, vs = [V.ref x, V.ref b, V.ref ta] ∧ H x = some (.ins z.cN dx []) ∧ AnsAt H ta r ∧ StkAt K z d H b es ∧ Covers r (flat es) ∧ es.length ≤ 12 ∧ (flat es).length ≤ 12 ∧
      ∀ H', Up x H H' → RunAt K z H' x (ranE (look r) .none es .none 0) → Q .non H') := by
    refine fnS_r F sc_Run_init (fun _ _ _ _ _ _ us hl => match us, hl with | [_, _, _], _ => rfl) (fun vs H Q E ⟨x, b, ta, dx, es, r, h, _⟩ => by rw [h]; rfl) fun f cdv A outer s H vs Q E hr ⟨x, b, ta, dx, es, r, hv, hx, hans, hb, hcov, h12, hf12, q⟩ => ⟨_, PSs.nox
      (pss_cons (ps_f T.fN1 (pv 0) (pv 2))
      (pss_cons (ps_f T.fN2 (pv 0) (pe_lst pa_nil))
      (pss_one (ps_f T.fN3 (pv 0) (pe_mt (metMono (CE d) (show d + 3 ≤ 6 by omega)) hr (by decide) (pv 0) (pa_cons (pv 1) (pa_cons pe_int (pa_cons (pe_glob (v := .ref z.tNone) rfl T.gNone rfl) pa_nil)))))))), ?_⟩
    subst hv
    refine ⟨_, rfl, _, rfl, x, dx, [], rfl, hx, by decide, ?_⟩
    have u1 : Up x H (L2.upd H x (.ins z.cN dx (putF "told" (V.ref ta) []))) := Up.upd
    refine ⟨by show 0 ≤ sizeLine; decide, fun l hl => ?_⟩
    have nl : l ≠ x := fun e => by rw [e, upd_same] at hl; cases hl
    refine ⟨_, rfl, x, dx, _, rfl, (by rw [upd_ne nl.symm]; exact upd_same), by show (1 : Nat) < 1000; decide, ?_⟩
    have u2 : Up x H (L2.upd (L2.upd (L2.upd H x (.ins z.cN dx (putF "told" (V.ref ta) []))) l (.lst [])) x (.ins z.cN dx (putF "asked_rules" (V.ref l) (putF "told" (V.ref ta) [])))) := (u1.trans (Up.new hl)).trans Up.upd
    have hx2 : L2.upd (L2.upd (L2.upd H x (.ins z.cN dx (putF "told" (V.ref ta) []))) l (.lst [])) x (.ins z.cN dx (putF "asked_rules" (V.ref l) (putF "told" (V.ref ta) []))) x = some (.ins z.cN dx (putF "asked_rules" (V.ref l) (putF "told" (V.ref ta) []))) := upd_same
    have hl2 : L2.upd (L2.upd (L2.upd H x (.ins z.cN dx (putF "told" (V.ref ta) []))) l (.lst [])) x (.ins z.cN dx (putF "asked_rules" (V.ref l) (putF "told" (V.ref ta) []))) l = some (.lst []) := by rw [upd_ne nl]; exact upd_same
    have ntx : ta ≠ x := ne_of hans hx (by intro z; cases z)
    refine ⟨_, rfl, x, dx, _, rfl, hx2, rfl, _, rfl, x, b, 0, _, dx, _, ta, l, [], es, r, .none, rfl, hx2, rfl, rfl, rfl, u2 _ _ ntx hans, hl2, hb.up u2 hx, ⟨_, rfl, T.kNone.sq _⟩, hcov, by show 0 + _ ≤ 100; omega, h12, hf12, fun v H3 ys' u3 hl3 hle hmv => ?_⟩
    have hx3 := u3 _ _ nl.symm hx2
    refine ⟨_, rfl, x, dx, _, rfl, hx3, by show (2 : Nat) < 1000; decide, ?_⟩
    refine q _ (fun a o na h => ?_) ⟨dx, _, v, upd_same, rfl, rfl, mkAt_up hmv Up.upd hx3⟩
    rw [upd_ne na]
    have nal : a ≠ l := fun e => by
      subst e
      rw [upd_ne na] at hl
      rw [h] at hl
      cases hl
    exact u3 a o nal (u2 a o na h)
  exact G A outer s H us vs Q E hr e0 rv ⟨x, b, ta, dx, es, r, hv, hx, hans, hb, hcov, h12, hf12, q⟩
def spOut (K : PySem.W.Frag) (z : Ad) : Sp := fun vs H Q _ => ∃ x m, vs = [V.ref x] ∧ RunAt K z H x m ∧ Q (.str (inS (decide (m = .good)))) H
theorem c_outcome (T : Txt K mg z) (D : Dme K z.cN "outcome" "Run.outcome" s_Run_outcome) : Met P w K mg base 1 z.cN "outcome" (spOut K z) := by
  obtain ⟨_, gIN⟩ := T.s_IN
  obtain ⟨_, gOUT⟩ := T.s_OUT
  refine D.met sc_Run_outcome (fun _ _ _ _ _ _ us hl => match us, hl with | [_], _ => rfl) (fun vs H Q E ⟨x, m, h, _⟩ => by rw [h]; rfl) fun f cdv A outer s H vs Q E hr ⟨x, m, hv, ⟨dx, fs, v, hx, hl, _, hmv⟩, q⟩ => ⟨_, PSs.nox
    (pss_one (ps_ret (pe_ifExp (pt_cmpR (op_eqD hr.units) (pe_f T.fN3 (pv 0)) (pe_glob (v := .ref z.tGood) rfl T.gGood rfl) (nomark _)) (pe_glob (v := .str "in") rfl gIN ⟨_, rfl⟩) (pe_glob (v := .str "out") rfl gOUT ⟨_, rfl⟩)))), ?_⟩
  subst hv
  obtain ⟨dd, hdd, hdc⟩ := MkAt.dp hmv
  refine ⟨_, rfl, x, dx, fs, _, rfl, hx, hl, _, _, hdd, .tup (T.kGood.sq _) (.cons (.str "good") (.cons .non .nil)), mk_shaped hdc, mk_shaped (m := .good) (.inr ⟨by decide, rfl⟩), _, rfl, ?_⟩
  rw [show PyData.eqv (.tuple [.str (mkW m), dd]) (.tuple [.str "good", .none]) = decide (m = .good) from mk_eqv (m' := .good) hdc ⟨by decide, rfl⟩]
  cases h : decide (m = .good) with
  | true => rw [h] at q; exact iteT q
  | false => rw [h] at q; exact iteF q
end
end LP

end

section
set_option Elab.async false
set_option linter.all false
set_option maxRecDepth 100000
set_option maxHeartbeats 4000000
/-! all_answers, outcomes. -/
namespace LP
open PySem PySem.Spec PyProof.Rows L2 LK LT LD LR
def AnsV (H : Hp) (v : V) (r : ARow) : Prop := ∃ a, v = .ref a ∧ AnsAt H a r
theorem AnsV.fx {H H' : Hp} {v : V} {r : ARow} (h : AnsV H v r) (e : Fx H H') : AnsV H' v r := let ⟨a, h1, h2⟩ := h; ⟨a, h1, e _ _ h2 trivial⟩
theorem anssFx {H H' : Hp} {vs : List V} {rs : List ARow} (h : Paired (AnsV H) vs rs) (e : Fx H H') : Paired (AnsV H') vs rs := Paired.imp (fun _ _ h => h.fx e) h
def RowsAt (H : Hp) (l : Addr) (rows : List ARow) : Prop := ∃ vs, H l = some (.lst vs) ∧ Paired (AnsV H) vs rows
theorem kvs_add {r : ARow} {m : Mdl} {x : Res} (h : m ∉ r.map (·.1)) : mergeK (kvsOf r) [((Sum.inr m.s : Key), V.str x.s)] = kvsOf (r ++ [(m, x)]) := by
  show putK (kvsOf r) (Sum.inr m.s : Key) (V.str x.s) = _
  unfold putK
  rw [if_neg]
  · unfold kvsOf
    rw [List.map_append] <;> rfl
  · intro ha
    obtain ⟨p, hp, e⟩ := List.any_eq_true.mp ha
    obtain ⟨q, hq, e2⟩ := List.mem_map.mp hp
    subst e2
    have e3 : (Sum.inr q.1.s : Key) = Sum.inr m.s := of_decide_eq_true e
    exact h (List.mem_map.mpr ⟨q, hq, mdl_inj (Sum.inr.inj e3)⟩)
theorem grow_take {rows : List ARow} {m : Mdl} {i : Nat} {r : ARow} (h : rows[i]? = some r) : grow (rows.take (i + 1)) m = grow (rows.take i) m ++ allRes.map fun x => r ++ [(m, x)] := by
  unfold grow
  rw [List.take_add_one, h, List.flatMap_append] <;> simp
theorem rowsFrom_take (rows : List ARow) {ms : List Mdl} {i : Nat} {m : Mdl} (h : ms[i]? = some m) : rowsFrom rows (ms.take (i + 1)) = grow (rowsFrom rows (ms.take i)) m := by
  unfold rowsFrom
  rw [List.take_add_one, h, List.foldl_append] <;> rfl
theorem rows_fresh {ms : List Mdl} (hd : ms.Nodup) {i : Nat} {m : Mdl} (h : ms[i]? = some m) : ∀ r ∈ rowsFrom [[]] (ms.take i), m ∉ r.map (·.1) := by
  intro r hr hm
  rw [keys_rowsOf (ms.take i) r hr] at hm
  obtain ⟨j, hj⟩ := List.mem_iff_getElem?.mp hm
  have hj2 : j < i := by
    have := (List.getElem?_eq_some_iff.mp hj).1
    rw [List.length_take] at this
    omega
  rw [List.getElem?_take_of_lt hj2] at hj
  obtain ⟨a1, b1⟩ := List.getElem?_eq_some_iff.mp hj
  obtain ⟨a2, b2⟩ := List.getElem?_eq_some_iff.mp h
  exact List.pairwise_iff_getElem.mp hd j i a1 a2 hj2 (b1.trans b2.symm)
section
variable {P : Program} {w : World} {K : PySem.W.Frag} {mg : Str → Option Value} {base : Heap} {z : Ad}
def namesV (ms : List Mdl) : List V := ms.map fun m => V.str m.s
def spAllT (K : PySem.W.Frag) : Sp := fun vs H Q _ => ∃ t ms, vs = [V.ref t] ∧ SqT K H t (namesV ms) ∧ ms.Nodup ∧ ms.length ≤ 3 ∧ ∀ l H', Ext H H' → RowsAt H' l (rowsOf ms) → Q (.ref l) H'
def spAllL (K : PySem.W.Frag) : Sp := fun vs H Q _ => ∃ t ms, vs = [V.ref t] ∧ SqL K H t (namesV ms) ∧ ms.Nodup ∧ ms.length ≤ 3 ∧ ∀ l H', Ext H H' → RowsAt H' l (rowsOf ms) → Q (.ref l) H'
/-- the comprehension's reading: all rows, each grown by the four results -/
theorem grow_read {H : Hp} {l : Addr} {rows : List ARow} {m : Mdl} {s0 s3 s4 : Option V} {Q : VK} (T : Txt K mg z) (hl : RowsAt H l rows) (hfr : ∀ r ∈ rows, m ∉ r.map (·.1)) (hz : rows.length ≤ 64) (hk : ∀ r ∈ rows, r.length ≤ 10)
    (q : ∀ D H', Ext H H' → RowsAt H' D (grow rows m) → Q (.ref D) H') :
    tLc2 (iList K (tVar 1)) (gName 3) tYes (iTup K (tC (.ref z.tRes))) (gName 4) tYes (tOp LKO.rOrD (tVar 3) (tDisp [(tVar 2, tVar 4)])) [3, 4] [4] [s0, some (V.ref l), some (V.str m.s), s3, s4] H Q := by
  obtain ⟨vs, hv, hp⟩ := hl
  have hln := Paired.len hp
  refine ⟨_, rfl, l, rfl, ⟨vs, SqL.of hv⟩, fun D hD => ?_⟩
  refine lc2_out rows.length (fun i G => Ext H G ∧ ∃ as, G D = some (.lst as) ∧ Paired (AnsV G) as (grow (rows.take i) m)) ⟨Ext.upd hD, [], upd_same, .nil⟩ (fun i G hi ⟨e, as, has, hpa⟩ => ?_) fun G ⟨e, as, has, hpa⟩ => ?_
  · have hri : rows[i]? = some rows[i] := List.getElem?_eq_getElem hi
    have hvi : vs[i]? = some vs[i] := List.getElem?_eq_getElem (by omega)
    refine ⟨⟨vs, _, SqL.of (e _ _ hv), hvi⟩, fun x G' ⟨eG, hx⟩ => ?_⟩
    subst eG
    have ex := hx vs (SqL.of (e _ _ hv))
    have exi : vs[i] = x := Option.some.inj (hvi.symm.trans ex)
    obtain ⟨a, ea, har⟩ := Paired.get' hp hvi hri
    rw [exi] at ea
    subst ea
    have hlen : as.length ≤ 1000 := by
      rw [Paired.len hpa, grow_length, List.length_take]
      omega
    refine ⟨rfl, z.tRes, rfl, ⟨_, T.kRes.sq _⟩, ?_⟩
    refine lc2_in 4 (fun j G => Ext H G ∧ ∃ as, G D = some (.lst as) ∧ as.length ≤ 1000 + j ∧ Paired (AnsV G) as (grow (rows.take i) m ++ (allRes.take j).map fun x => rows[i] ++ [(m, x)])) ⟨e, as, has, by omega, by rw [List.take_zero, List.map_nil, List.append_nil]; exact hpa⟩ (fun j G1 hj ⟨e1, as1, has1, hl1, hpa1⟩ => ?_) fun G1 ⟨e1, as1, has1, hl1, hpa1⟩ => ⟨⟨_, T.kRes.sq _, Nat.le_refl _⟩, e1, as1, has1, ?_⟩
    · have hxj : allRes[j]? = some allRes[j] := List.getElem?_eq_getElem hj
      have hkj : ([V.str "yes", V.str "no", V.str "skip", V.str "gone"] : List V)[j]? = some (V.str (allRes[j]).s) := by
        match j, hj with
        | 0, _ => rfl
        | 1, _ => rfl
        | 2, _ => rfl
        | 3, _ => rfl
      refine ⟨⟨_, _, T.kRes.sq _, hkj⟩, fun x G2 ⟨eG, hx⟩ => ?_⟩
      subst eG
      have ex := hx _ (T.kRes.sq _)
      rw [hkj] at ex
      cases ex
      refine ⟨rfl, _, rfl, fun p hp => ?_⟩
      refine ⟨_, rfl, _, rfl, upd_same, [((Sum.inr m.s : Key), V.str (allRes[j]).s)], rfl, by show 1 ≤ 15; decide, ?_⟩
      have e2 := Ext.upd hp (o := .dK [])
      have e3 : Ext G2 (L2.upd (L2.upd G2 p (.dK [])) p (.dK [((Sum.inr m.s : Key), V.str (allRes[j]).s)])) := fun a o h => by
        have n := ne_of_none h hp
        rw [upd_ne n, upd_ne n]; exact h
      refine ⟨a, p, kvsOf rows[i], _, rfl, rfl, e3 _ _ (e1 _ _ har), upd_same, le_line (by
        have := hk rows[i] (List.getElem_mem hi)
        show (kvsOf rows[i]).length + 1 ≤ 100000
        unfold kvsOf
        rw [List.length_map]; omega), fun p2 hp2 => ?_⟩
      have e4 := e3.trans (Ext.upd hp2 (o := .dK (mergeK (kvsOf rows[i]) [((Sum.inr m.s : Key), V.str (allRes[j]).s)])))
      have hD4 := e4 _ _ has1
      refine ⟨as1, hD4, lt_line (by omega), ?_, _, upd_same, by rw [List.length_append]; show as1.length + 1 ≤ _; omega, ?_⟩
      · intro a' o' h'
        have n : a' ≠ D := fun e => by subst e; rw [hD] at h'; cases h'
        rw [upd_ne n]
        exact e4 _ _ (e1 _ _ h')
      · have hfx := Fx.upd hD4 (by simp [Fixd]) (u := .lst (as1 ++ [V.ref p2]))
        rw [take_map_succ _ hxj, ← List.append_assoc]
        refine Paired.app (anssFx (anssFx hpa1 e4.fx) hfx) (.cons ⟨p2, rfl, ?_⟩ .nil)
        refine hfx _ _ ?_ trivial
        rw [upd_same, kvs_add (hfr _ (List.getElem_mem hi))]
    · rw [grow_take hri]
      exact hpa1
  · refine ⟨⟨vs, SqL.of (e _ _ hv), by omega⟩, q D G e ⟨as, has, ?_⟩⟩
    rw [List.take_length] at hpa
    exact hpa
theorem gn_ok {σ : L2.St} {H : Hp} {Q : L2.St → Hp → Prop} {i : Nat} {v : V} (h : Q (σ.set i (some v)) H) : gName i v σ H Q := h
theorem asg_ok {te : TE} {g : TG} {D : Ends} {σ : L2.St} {H : Hp} (h : te σ H fun x H1 => g x σ H1 D.nx) : tAsg te g D σ H := h
theorem rows_bound {ms : List Mdl} (h3 : ms.length ≤ 3) (i : Nat) : (rowsFrom [[]] (ms.take i)).length ≤ 64 ∧ ∀ r ∈ rowsFrom [[]] (ms.take i), r.length ≤ 10 := by
  have hl : (ms.take i).length ≤ 3 := by rw [List.length_take]; omega
  refine ⟨rowsOf_le hl, fun r hr => ?_⟩
  have e := congrArg List.length (keys_rowsOf (ms.take i) r hr)
  rw [List.length_map] at e
  omega
theorem c_allT (T : Txt K mg z) (D : Dfn K mg "all_answers" s_all_answers) : Cal P w K mg base 1 "all_answers" (spAllT K) := by
  refine D.cal sc_all_answers (fun _ _ _ _ _ _ us hl => match us, hl with | [_], _ => rfl) (fun vs H Q E ⟨t, ms, h, _⟩ => by rw [h]; rfl) fun f cdv A outer s H vs Q E hr ⟨t, ms, hv, ht, hnd, h3, q⟩ => ⟨_, PSs.nox
    (pss_cons (ps_set (i := 1) sc_all_answers.nd rfl (Or.inl rfl) (pe_lst (pa_cons pe_dnewK pa_nil)))
    (pss_cons (ps_for PassesOwn.never rfl (pi_tup (pv 0)) (pg_name (i := 2) sc_all_answers.nd rfl (Or.inr rfl))
      (pss_one (ps_setLc2 (i := 1) (own := [("answers", 3), ("result", 4)]) (vs1 := [4]) (g := gName 3) (tt := tYes) (g1 := gName 4) (tt1 := tYes) (wi1 := iTup K (tC (.ref z.tRes))) rfl sc_all_answers.nd rfl rfl (sw_true rfl rfl rfl (by decide +kernel)) (pi_list (pv 1)) (blkOk_by (N := ["modules", "found", "name", "answers", "result"]) (sc := defScope s_all_answers) (by decide +kernel)) (by decide)
        (fun _ _ _ _ _ => pg_name (i := 3) sc_all_answers.nd rfl (Or.inl rfl)) (fun _ _ _ _ _ => pts_nil) (fun _ _ _ _ _ => pi_tup (pe_glob (v := .ref z.tRes) rfl T.gRes rfl)) (fun _ _ _ _ _ => pg_name (i := 4) sc_all_answers.nd rfl (Or.inl rfl)) (fun _ _ _ _ _ => pts_nil)
        (fun _ _ _ _ _ => pe_op LKO.op_orD (pv 3) (pe_disp (pps_cons (pv 2) (pv 4) pps_nil) (by rfl) (by rfl) (fun z => by cases z) (by decide))))))
    (pss_one (ps_ret (pv 1))))), ?_⟩
  subst hv
  refine fun d hd => ⟨by show 1 ≤ sizeLine; decide, fun l hl => ?_⟩
  have e1 := Ext.upd hd (o := .dK [])
  have e2 := Ext.upd' e1 hl (o := .lst [V.ref d])
  refine ⟨_, rfl, t, rfl, ⟨_, sqT_fx ht e2.fx⟩, ?_⟩
  have hnl : (namesV ms).length = ms.length := List.length_map _
  refine for_tup (xs := namesV ms) (fun i σ G => ∃ l x2 x3 x4, σ = [some (V.ref t), some (V.ref l), x2, x3, x4] ∧ Ext H G ∧ RowsAt G l (rowsFrom [[]] (ms.take i))) ⟨l, none, none, none, rfl, e2, [V.ref d], upd_same, .cons ⟨d, rfl, ?_⟩ .nil⟩ ?_ ?_ ?_
  · exact Ext.upd hl _ _ upd_same
  · rintro i σ G _ ⟨l, x2, x3, x4, rfl, e, hr⟩
    exact sqT_fx ht e.fx
  · rintro i x σ G hx ⟨l, x2, x3, x4, rfl, e, hr⟩
    have hi : i < ms.length := by rw [← hnl]; exact (List.getElem?_eq_some_iff.mp hx).1
    have hmi := List.getElem?_eq_getElem hi
    have ex : x = V.str ms[i].s := by
      unfold namesV at hx
      rw [List.getElem?_map, hmi] at hx
      exact (Option.some.inj hx).symm
    subst ex
    obtain ⟨b1, b2⟩ := rows_bound h3 i
    refine gn_ok (asg_ok ?_)
    refine grow_read T hr (rows_fresh hnd hmi) b1 b2 fun D G' e' hr' => ?_
    exact ⟨D, _, _, _, rfl, e.trans e', by rw [rowsFrom_take _ hmi]; exact hr'⟩
  · rintro σ G ⟨l, x2, x3, x4, rfl, e, hr⟩
    rw [hnl, List.take_length] at hr
    exact ⟨_, rfl, q l G e hr⟩
theorem c_allL (T : Txt K mg z) (D : Dfn K mg "all_answers" s_all_answers) : Cal P w K mg base 1 "all_answers" (spAllL K) := by
  refine D.cal sc_all_answers (fun _ _ _ _ _ _ us hl => match us, hl with | [_], _ => rfl) (fun vs H Q E ⟨t, ms, h, _⟩ => by rw [h]; rfl) fun f cdv A outer s H vs Q E hr ⟨t, ms, hv, ht, hnd, h3, q⟩ => ⟨_, PSs.nox
    (pss_cons (ps_set (i := 1) sc_all_answers.nd rfl (Or.inl rfl) (pe_lst (pa_cons pe_dnewK pa_nil)))
    (pss_cons (ps_for PassesOwn.never rfl (pi_list (pv 0)) (pg_name (i := 2) sc_all_answers.nd rfl (Or.inr rfl))
      (pss_one (ps_setLc2 (i := 1) (own := [("answers", 3), ("result", 4)]) (vs1 := [4]) (g := gName 3) (tt := tYes) (g1 := gName 4) (tt1 := tYes) (wi1 := iTup K (tC (.ref z.tRes))) rfl sc_all_answers.nd rfl rfl (sw_true rfl rfl rfl (by decide +kernel)) (pi_list (pv 1)) (blkOk_by (N := ["modules", "found", "name", "answers", "result"]) (sc := defScope s_all_answers) (by decide +kernel)) (by decide)
        (fun _ _ _ _ _ => pg_name (i := 3) sc_all_answers.nd rfl (Or.inl rfl)) (fun _ _ _ _ _ => pts_nil) (fun _ _ _ _ _ => pi_tup (pe_glob (v := .ref z.tRes) rfl T.gRes rfl)) (fun _ _ _ _ _ => pg_name (i := 4) sc_all_answers.nd rfl (Or.inl rfl)) (fun _ _ _ _ _ => pts_nil)
        (fun _ _ _ _ _ => pe_op LKO.op_orD (pv 3) (pe_disp (pps_cons (pv 2) (pv 4) pps_nil) (by rfl) (by rfl) (fun z => by cases z) (by decide))))))
    (pss_one (ps_ret (pv 1))))), ?_⟩
  subst hv
  refine fun d hd => ⟨by show 1 ≤ sizeLine; decide, fun l hl => ?_⟩
  have e1 := Ext.upd hd (o := .dK [])
  have e2 := Ext.upd' e1 hl (o := .lst [V.ref d])
  refine ⟨_, rfl, t, rfl, ⟨_, SqL.ext ht e2⟩, ?_⟩
  have hnl : (namesV ms).length = ms.length := List.length_map _
  refine for_list (xs := namesV ms) (fun i σ G => ∃ l x2 x3 x4, σ = [some (V.ref t), some (V.ref l), x2, x3, x4] ∧ Ext H G ∧ RowsAt G l (rowsFrom [[]] (ms.take i))) ⟨l, none, none, none, rfl, e2, [V.ref d], upd_same, .cons ⟨d, rfl, ?_⟩ .nil⟩ ?_ ?_ ?_
  · exact Ext.upd hl _ _ upd_same
  · rintro i σ G _ ⟨l, x2, x3, x4, rfl, e, hr⟩
    exact SqL.ext ht e
  · rintro i x σ G hx ⟨l, x2, x3, x4, rfl, e, hr⟩
    have hi : i < ms.length := by rw [← hnl]; exact (List.getElem?_eq_some_iff.mp hx).1
    have hmi := List.getElem?_eq_getElem hi
    have ex : x = V.str ms[i].s := by
      unfold namesV at hx
      rw [List.getElem?_map, hmi] at hx
      exact (Option.some.inj hx).symm
    subst ex
    obtain ⟨b1, b2⟩ := rows_bound h3 i
    refine gn_ok (asg_ok ?_)
    refine grow_read T hr (rows_fresh hnd hmi) b1 b2 fun D G' e' hr' => ?_
    exact ⟨D, _, _, _, rfl, e.trans e', by rw [rowsFrom_take _ hmi]; exact hr'⟩
  · rintro σ G ⟨l, x2, x3, x4, rfl, e, hr⟩
    rw [hnl, List.take_length] at hr
    exact ⟨_, rfl, q l G e hr⟩
end
end LP

end

section
set_option Elab.async false
set_option linter.all false
set_option maxRecDepth 100000
set_option maxHeartbeats 4000000
/-! outcomes, both_outcomes, first_difference, alike. -/
namespace LP
open PySem PySem.Spec PyProof.Rows L2 LK LT LD LR
theorem covers_of {es : List Ent} {r : ARow} {ms : List Mdl} (hr : r.map (·.1) = ms) (h : ∀ m ∈ mods es, m ∈ ms) : Covers r (flat es) := fun x hx => by
  rw [hr]
  exact h _ (mem_modsR.mpr ⟨x, hx, rfl⟩)
section
variable {P : Program} {w : World} {K : PySem.W.Frag} {mg : Str → Option Value} {base : Heap} {z : Ad}
def OutV (K : PySem.W.Frag) (es : List Ent) (H : Hp) (v : V) (r : ARow) : Prop := ∃ t a, v = .ref t ∧ SqT K H t [.ref a, .str (inS (out es (look r)))]
def OutsAt (K : PySem.W.Frag) (H : Hp) (l : Addr) (es : List Ent) : Prop := ∃ vs, H l = some (.lst vs) ∧ Paired (OutV K es H) vs (rowsOf (mods es))
theorem OutV.fx {es : List Ent} {H H' : Hp} {v : V} {r : ARow} (h : OutV K es H v r) (e : Fx H H') : OutV K es H' v r := let ⟨t, a, h1, h2⟩ := h; ⟨t, a, h1, sqT_fx h2 e⟩
/-- Run(stack, answers).outcome() -/
theorem run_out {H : Hp} {b a : Addr} {d : Nat} {es : List Ent} {r : ARow} {Q : VK} {ti tj : TE} {σ : L2.St} (h0 : ∀ Q' : VK, Q' (.ref b) H → ti σ H Q') (h1 : ∀ Q' : VK, Q' (.ref a) H → tj σ H Q') (ha : AnsAt H a r) (hb : StkAt K z d H b es) (hd : d ≤ 3) (hc : Covers r (flat es)) (h12 : es.length ≤ 12) (hf : (flat es).length ≤ 12)
    (q : ∀ H', Ext H H' → Q (.str (inS (out es (look r)))) H') :
    tMetR z.cN "outcome" (spOut K z) (StX.tMakeR z.cN (spRun K z) E0 (tCons ti (tCons tj tNil))) tNil σ H Q := by
  refine h0 _ (h1 _ fun x dx hx hdx ne => ?_)
  have e1 : Ext H (L2.upd (L2.upd H dx (.own x)) x (.ins z.cN dx [])) := Ext.upd' (Ext.upd hdx) (by rw [upd_ne ne.symm]; exact hx)
  refine ⟨x, b, a, dx, d, es, r, rfl, upd_same, e1 _ _ ha, hb.fx e1.fx, hd, hc, h12, hf, fun H2 u hrun => ⟨rfl, ?_⟩⟩
  obtain ⟨dx', fs, v, g1, g2, g3, g4⟩ := hrun
  exact ⟨x, dx', fs, rfl, g1, g3, x, _, rfl, ⟨dx', fs, v, g1, g2, g3, g4⟩, q H2 (mk_ext hx hdx u)⟩
def spOuts (K : PySem.W.Frag) (z : Ad) : Sp := fun vs H Q _ => ∃ b d es, vs = [V.ref b] ∧ StkAt K z d H b es ∧ d ≤ 3 ∧ es.length ≤ 12 ∧ (flat es).length ≤ 12 ∧ ∀ l H', Ext H H' → OutsAt K H' l es → Q (.ref l) H'
theorem c_outcomes (T : Txt K mg z) (D : Dfn K mg "outcomes" s_outcomes) (CA : Cal P w K mg base 1 "all_answers" (spAllT K)) (CR : Mak P w K mg base 7 "Run" z.cN (spRun K z)) (CO : Met P w K mg base 1 z.cN "outcome" (spOut K z)) : Cal P w K mg base 9 "outcomes" (spOuts K z) := by
  refine D.cal (k := 8) sc_outcomes (fun _ _ _ _ _ _ us hl => match us, hl with | [_], _ => rfl) (fun vs H Q E ⟨b, d, es, h, _⟩ => by rw [h]; rfl) fun f cdv A outer s H vs Q E hr ⟨b, d, es, hv, hb, hd, h12, hf12, q⟩ => ⟨_, PSs.nox
    (pss_one (ps_ret (pe_lc (own := [("answers", 1)]) (g := gName 1) (tt := tYes) rfl sc_outcomes.nd (pi_list (pe_c CA hr (by decide) rfl (pa_cons (pe_f T.fS3 (pv 0)) pa_nil))) (blkOk_by (N := ["stack", "answers"]) (sc := defScope s_outcomes) (by decide +kernel)) (fun _ _ _ _ _ => pg_name (i := 1) sc_outcomes.nd rfl (Or.inl rfl)) (fun _ _ _ _ _ => pts_nil)
      (fun _ _ _ _ _ => pe_tup (pa_cons (pv 1) (pa_cons (pe_mt0 CO hr (by decide) (pe_mk CR hr (by decide) rfl (pa_cons (pv 0) (pa_cons (pv 1) pa_nil)))) pa_nil)))))), ?_⟩
  subst hv
  obtain ⟨d', rfl, dx, fs, p, q', n, i, ps, qs, h1, h2, h3, h4, h5, h6, h7, h8, h9, _⟩ := hb.open
  refine ⟨_, rfl, b, dx, fs, _, rfl, h1, h8, n, mods es, rfl, h9, modsR_nodup _, modsR_le _, fun l H1 e1 ⟨vs, hvs, hp⟩ => ?_⟩
  have hln := Paired.len hp
  have h64 := rowsOf_le (modsR_le (flat es))
  refine ⟨l, rfl, ⟨vs, SqL.of hvs⟩, fun Dl hDl => ?_⟩
  refine lc_list (xs := vs) (fun j G => Ext H1 G ∧ ∃ as, G Dl = some (.lst as) ∧ Paired (OutV K es G) as ((rowsOf (mods es)).take j)) ⟨Ext.upd hDl, [], upd_same, .nil⟩ (fun j G _ ⟨e, _⟩ => SqL.of (e _ _ hvs)) (fun j x G hx ⟨e, as, has, hpa⟩ => ?_) fun G ⟨e, as, has, hpa⟩ => ?_
  · have hj : j < (rowsOf (mods es)).length := by rw [← hln]; exact (List.getElem?_eq_some_iff.mp hx).1
    have hr' := List.getElem?_eq_getElem hj
    obtain ⟨a, rfl, ha⟩ := Paired.get' hp hx hr'
    have hal : as.length ≤ 64 := by rw [Paired.len hpa, List.length_take]; have : (rowsOf (mods es)).length ≤ 64 := h64; omega
    refine ⟨rfl, _, rfl, ?_⟩
    refine run_out (z := z) (b := b) (a := a) (d := d' + 1) (es := es) (r := (rowsOf (mods es))[j]) (fun Q' h => ⟨_, rfl, h⟩) (fun Q' h => ⟨_, rfl, h⟩) (e _ _ ha) ((hb.fx e1.fx).fx e.fx) hd (covers_of (keys_rowsOf _ _ (List.getElem_mem hj)) fun m h => h) h12 hf12 fun H2 e2 => ?_
    refine ⟨by show 2 ≤ sizeLine; decide, fun t ht => ⟨as, Ext.upd ht _ _ (e2 _ _ has), lt_line (by omega), ?_, _, upd_same, ?_⟩⟩
    · have e3 := e2.trans (Ext.upd ht (o := .tup [V.ref a, V.str (inS (out es (look (rowsOf (mods es))[j])))]))
      intro a' o' h'
      have n : a' ≠ Dl := fun e => by subst e; rw [hDl] at h'; cases h'
      rw [upd_ne n]
      exact e3 _ _ (e _ _ h')
    · have e3 := e2.trans (Ext.upd ht (o := .tup [V.ref a, V.str (inS (out es (look (rowsOf (mods es))[j])))]))
      have hfx := Fx.upd (e3 _ _ has) (by simp [Fixd]) (u := .lst (as ++ [V.ref t]))
      rw [List.take_add_one, hr']
      exact Paired.app (Paired.imp (fun _ _ h => (OutV.fx h e3.fx).fx hfx) hpa) (.cons ⟨t, a, rfl, sqT_fx SqT.new hfx⟩ .nil)
  · rw [hln, List.take_length] at hpa
    exact q Dl G (e1.trans e) ⟨as, has, hpa⟩
end
end LP

end

section
set_option Elab.async false
set_option linter.all false
set_option maxRecDepth 100000
set_option maxHeartbeats 4000000
/-! both_outcomes, first_difference, alike. -/
namespace LP
open PySem PySem.Spec PyProof.Rows L2 LK LT LD LR
theorem modsU_set (es es' : List Ent) : modsU es es' = allMdl.filter fun m => decide (m ∈ mods es ++ mods es') := by
  unfold modsU
  refine List.filter_congr fun m _ => ?_
  rw [Bool.eq_iff_iff, Bool.or_eq_true_iff, decide_eq_true_eq, decide_eq_true_eq, decide_eq_true_eq, List.mem_append]
theorem names_both (es es' : List Ent) : modV es ++ modV es' = ((mods es ++ mods es').map Mdl.s).map V.str := by
  unfold modV
  rw [List.map_append, List.map_append, List.map_map, List.map_map] <;> rfl
theorem namesV_eq (ms : List Mdl) : (ms.map Mdl.s).map V.str = namesV ms := by
  unfold namesV
  rw [List.map_map] <;> rfl
/-- a sorted set of modules' texts of two -/
theorem sorted_both {es es' : List Ent} {ns : List Str} (hs : sortedS ns = true) (hd : ns.Nodup) (hm : ∀ k : Str, k ∈ ns ↔ decide (k ∈ (mods es ++ mods es').map Mdl.s) = true) : ns = (modsU es es').map Mdl.s := by
  rw [modsU_set]
  refine sorted_mods hs hd hm fun k => ?_
  rw [List.mem_map]
  exact ⟨fun ⟨m, h, e⟩ => ⟨m, h, e.symm⟩, fun ⟨m, h, e⟩ => ⟨m, h, e.symm⟩⟩
section
variable {P : Program} {w : World} {K : PySem.W.Frag} {mg : Str → Option Value} {base : Heap} {z : Ad}
def BothV (K : PySem.W.Frag) (es es' : List Ent) (H : Hp) (v : V) (r : ARow) : Prop := ∃ t a, v = .ref t ∧ SqT K H t [.ref a, .str (inS (out es (look r))), .str (inS (out es' (look r)))]
def BothAt (K : PySem.W.Frag) (H : Hp) (l : Addr) (es es' : List Ent) : Prop := ∃ vs, H l = some (.lst vs) ∧ Paired (BothV K es es' H) vs (rowsOf (modsU es es'))
theorem BothV.fx {es es' : List Ent} {H H' : Hp} {v : V} {r : ARow} (h : BothV K es es' H v r) (e : Fx H H') : BothV K es es' H' v r := let ⟨t, a, h1, h2⟩ := h; ⟨t, a, h1, sqT_fx h2 e⟩
/-- a stack within the bounds -/
def Fits (es : List Ent) : Prop := es.length ≤ 12 ∧ (flat es).length ≤ 12
def spBoth (K : PySem.W.Frag) (z : Ad) : Sp := fun vs H Q _ => ∃ b c d d' es es', vs = [V.ref b, V.ref c] ∧ StkAt K z d H b es ∧ StkAt K z d' H c es' ∧ d ≤ 3 ∧ d' ≤ 3 ∧ Fits es ∧ Fits es' ∧ ∀ l H', Ext H H' → BothAt K H' l es es' → Q (.ref l) H'
theorem c_both (T : Txt K mg z) (D : Dfn K mg "both_outcomes" s_both_outcomes) (CA : Cal P w K mg base 1 "all_answers" (spAllL K)) (CR : Mak P w K mg base 7 "Run" z.cN (spRun K z)) (CO : Met P w K mg base 1 z.cN "outcome" (spOut K z)) : Cal P w K mg base 9 "both_outcomes" (spBoth K z) := by
  obtain ⟨_, g6⟩ := T.i_MODULES
  refine D.cal (k := 8) sc_both_outcomes (fun _ _ _ _ _ _ us hl => match us, hl with | [_, _], _ => rfl) (fun vs H Q E ⟨b, c, d, d', es, es', h, _⟩ => by rw [h]; rfl) fun f cdv A outer s H vs Q E hr ⟨b, c, d, d', es, es', hv, hb, hc, hd, hd', hf, hf', q⟩ => ⟨_, PSs.nox
    (pss_cons (ps_set (i := 2) sc_both_outcomes.nd rfl (Or.inl rfl) (pe_callB (LKS.cr_sortedSet rfl) (by rfl) T.f_sorted boot_sorted (pa_cons (pe_callTy (LKS.cr_setOf rfl) (by rfl) T.f_set PyProof.Rows.boot_set (pa_cons (pe_op op_catA (pe_f T.fS3 (pv 0)) (pe_f T.fS3 (pv 1))) pa_nil)) pa_nil)))
    (pss_cons (ps_if (pt_cmpR op_gt (pe_callB call_len (by rfl) T.f_len boot_len (pa_cons (pv 2) pa_nil)) (pe_glob (v := .int 6) rfl g6 ⟨_, rfl⟩) (nomark _)) (pss_one ps_never) pss_nil)
    (pss_one (ps_ret (pe_lc (own := [("answers", 3)]) (g := gName 3) (tt := tYes) rfl sc_both_outcomes.nd (pi_list (pe_c CA hr (by decide) rfl (pa_cons (pv 2) pa_nil))) (blkOk_by (N := ["one", "other", "names", "answers"]) (sc := defScope s_both_outcomes) (by decide +kernel)) (fun _ _ _ _ _ => pg_name (i := 3) sc_both_outcomes.nd rfl (Or.inl rfl)) (fun _ _ _ _ _ => pts_nil)
      (fun _ _ _ _ _ => pe_tup (pa_cons (pv 3) (pa_cons (pe_mt0 CO hr (by decide) (pe_mk CR hr (by decide) rfl (pa_cons (pv 0) (pa_cons (pv 3) pa_nil)))) (pa_cons (pe_mt0 CO hr (by decide) (pe_mk CR hr (by decide) rfl (pa_cons (pv 1) (pa_cons (pv 3) pa_nil)))) pa_nil))))))))), ?_⟩
  subst hv
  obtain ⟨d1, e1, dx, fs, p, q', n, i, ps, qs, h1, h2, h3, h4, h5, h6, h7, h8, h9, _⟩ := id hb.open
  obtain ⟨d2, e2, dy, gs, p2, q2, n2, i2, ps2, qs2, k1, k2, k3, k4, k5, k6, k7, k8, k9, _⟩ := id hc.open
  have m1 := modsR_le (flat es)
  have m2 := modsR_le (flat es')
  have ml : (modV es).length + (modV es').length ≤ 6 := by unfold modV; rw [List.length_map, List.length_map]; show (modsR (flat es)).length + (modsR (flat es')).length ≤ 6; omega
  refine ⟨_, rfl, b, dx, fs, _, rfl, h1, h8, _, rfl, c, dy, gs, _, rfl, k1, k8, catA_ok h9 k9 (le_line (by omega)) fun t H1 f1 ht => ?_⟩
  rw [names_both] at ht
  refine ⟨t, _, rfl, .inr ht, by rw [List.length_map, List.length_append]; show (modsR (flat es)).length + (modsR (flat es')).length < 64; omega, fun sa cN hsa hcN => ?_⟩
  have f2 := Ext.upd' f1 hsa (o := LKS.SetO w sa (fun j => decide (j ∈ (mods es ++ mods es').map Mdl.s)) cN)
  have hc64 : cN < 64 := by
    have : ((mods es ++ mods es').map Mdl.s).length = (modsR (flat es)).length + (modsR (flat es')).length := by rw [List.length_map, List.length_append] <;> rfl
    omega
  refine ⟨sa, _, cN, rfl, upd_same, hc64, fun ns pl hs hnd hm hlen hpl => ?_⟩
  have f3 := Ext.upd' f2 hpl (o := .lst (ns.map V.str))
  have hns := sorted_both hs hnd hm
  subst hns
  refine ⟨_, rfl, _, _, rfl, .inl ⟨_, SqL.of upd_same, rfl⟩, _, _, rfl, rfl, _, rfl, ?_⟩
  have hU := modsU_le es es'
  rw [show decide (((((modsU es es').map Mdl.s).map V.str).length : Int) > 6) = false from decide_eq_false (by rw [List.length_map, List.length_map]; omega)]
  refine iteF ?_
  refine ⟨_, rfl, pl, modsU es es', rfl, by rw [← namesV_eq]; exact SqL.of upd_same, modsU_nodup _ _, hU, fun l H2 g2 ⟨vs, hvs, hp⟩ => ?_⟩
  have eH2 := f3.trans g2
  have hln := Paired.len hp
  have h64 := rowsOf_le hU
  refine ⟨l, rfl, ⟨vs, SqL.of hvs⟩, fun Dl hDl => ?_⟩
  refine lc_list (xs := vs) (fun j G => Ext H2 G ∧ ∃ as, G Dl = some (.lst as) ∧ Paired (BothV K es es' G) as ((rowsOf (modsU es es')).take j)) ⟨Ext.upd hDl, [], upd_same, .nil⟩ (fun j G _ ⟨e, _⟩ => SqL.of (e _ _ hvs)) (fun j x G hx ⟨e, as, has, hpa⟩ => ?_) fun G ⟨e, as, has, hpa⟩ => ?_
  · have hj : j < (rowsOf (modsU es es')).length := by rw [← hln]; exact (List.getElem?_eq_some_iff.mp hx).1
    have hr' := List.getElem?_eq_getElem hj
    obtain ⟨a, rfl, ha⟩ := Paired.get' hp hx hr'
    have hal : as.length ≤ 64 := by rw [Paired.len hpa, List.length_take]; have : (rowsOf (modsU es es')).length ≤ 64 := h64; omega
    have hk := keys_rowsOf _ _ (List.getElem_mem hj)
    refine ⟨rfl, _, rfl, ?_⟩
    refine run_out (z := z) (b := b) (a := a) (d := d) (es := es) (r := (rowsOf (modsU es es'))[j]) (fun Q' h => ⟨_, rfl, h⟩) (fun Q' h => ⟨_, rfl, h⟩) (e _ _ ha) ((hb.fx eH2.fx).fx e.fx) hd (covers_of hk fun m h => mem_modsU.mpr (.inl h)) hf.1 hf.2 fun H3 e3 => ?_
    refine run_out (z := z) (b := c) (a := a) (d := d') (es := es') (r := (rowsOf (modsU es es'))[j]) (fun Q' h => ⟨_, rfl, h⟩) (fun Q' h => ⟨_, rfl, h⟩) (e3 _ _ (e _ _ ha)) (((hc.fx eH2.fx).fx e.fx).fx e3.fx) hd' (covers_of hk fun m h => mem_modsU.mpr (.inr h)) hf'.1 hf'.2 fun H4 e4 => ?_
    have e34 := e3.trans e4
    refine ⟨by show 3 ≤ sizeLine; decide, fun t ht => ⟨as, Ext.upd ht _ _ (e34 _ _ has), lt_line (by omega), ?_, _, upd_same, ?_⟩⟩
    · have e5 := e34.trans (Ext.upd ht (o := .tup [V.ref a, V.str (inS (out es (look (rowsOf (modsU es es'))[j]))), V.str (inS (out es' (look (rowsOf (modsU es es'))[j])))]))
      intro a' o' h'
      have n : a' ≠ Dl := fun e => by subst e; rw [hDl] at h'; cases h'
      rw [upd_ne n]
      exact e5 _ _ (e _ _ h')
    · have e5 := e34.trans (Ext.upd ht (o := .tup [V.ref a, V.str (inS (out es (look (rowsOf (modsU es es'))[j]))), V.str (inS (out es' (look (rowsOf (modsU es es'))[j])))]))
      have hfx := Fx.upd (e5 _ _ has) (by simp [Fixd]) (u := .lst (as ++ [V.ref t]))
      rw [List.take_add_one, hr']
      exact Paired.app (Paired.imp (fun _ _ h => (BothV.fx h e5.fx).fx hfx) hpa) (.cons ⟨t, a, rfl, sqT_fx SqT.new hfx⟩ .nil)
  · rw [hln, List.take_length] at hpa
    exact q Dl G (eH2.trans e) ⟨as, has, hpa⟩

/-- whether no row differs -/
def spFirstD (K : PySem.W.Frag) (z : Ad) : Sp := fun vs H Q _ => ∃ b c d d' es es', vs = [V.ref b, V.ref c] ∧ StkAt K z d H b es ∧ StkAt K z d' H c es' ∧ d ≤ 3 ∧ d' ≤ 3 ∧ Fits es ∧ Fits es' ∧ ∀ v H', Ext H H' → (v = .non ∧ diff es es' = 0 ∨ (∃ t, v = .ref t) ∧ diff es es' ≠ 0) → Q v H'
theorem diff_zero {es es' : List Ent} (h : ∀ r ∈ rowsOf (modsU es es'), out es (look r) = out es' (look r)) : diff es es' = 0 := by
  unfold diff
  rw [List.length_eq_zero_iff, List.filter_eq_nil_iff]
  intro r hr hd
  exact of_decide_eq_true hd (h r hr)
theorem diff_pos {es es' : List Ent} {r : ARow} (hr : r ∈ rowsOf (modsU es es')) (h : out es (look r) ≠ out es' (look r)) : diff es es' ≠ 0 := by
  unfold diff
  intro hz
  rw [List.length_eq_zero_iff, List.filter_eq_nil_iff] at hz
  exact hz r hr (decide_eq_true h)
theorem c_first (T : Txt K mg z) (D : Dfn K mg "first_difference" s_first_difference) (CB : Cal P w K mg base 9 "both_outcomes" (spBoth K z)) : Cal P w K mg base 10 "first_difference" (spFirstD K z) := by
  refine D.cal (k := 9) sc_first_difference (fun _ _ _ _ _ _ us hl => match us, hl with | [_, _], _ => rfl) (fun vs H Q E ⟨b, c, d, d', es, es', h, _⟩ => by rw [h]; rfl) fun f cdv A outer s H vs Q E hr ⟨b, c, d, d', es, es', hv, hb, hc, hd, hd', hf, hf', q⟩ => ⟨_, PSs.nox
    (pss_cons (ps_for PassesOwn.never rfl (pi_list (pe_c CB hr (by decide) rfl (pa_cons (pv 0) (pa_cons (pv 1) pa_nil)))) (pg_tup rfl (pgs_cons (pg_name (i := 2) sc_first_difference.nd rfl (Or.inl rfl)) (pgs_cons (pg_name (i := 3) sc_first_difference.nd rfl (Or.inl rfl)) (pgs_cons (pg_name (i := 4) sc_first_difference.nd rfl (Or.inl rfl)) pgs_nil))))
      (pss_one (ps_if (pt_cmpR op_ne (pv 3) (pv 4) (nomark _)) (pss_one (ps_ret (pe_tup (pa_cons (pv 2) (pa_cons (pv 3) pa_nil))))) pss_nil)))
    (pss_one (ps_ret pe_non))), ?_⟩
  subst hv
  refine ⟨_, rfl, _, rfl, b, c, d, d', es, es', rfl, hb, hc, hd, hd', hf, hf', fun l H1 e1 ⟨vs, hvs, hp⟩ => ?_⟩
  have hln := Paired.len hp
  refine ⟨_, rfl, ⟨vs, SqL.of hvs⟩, ?_⟩
  refine for_list (xs := vs) (fun i σ G => ∃ x2 x3 x4, σ = [some (V.ref b), some (V.ref c), x2, x3, x4] ∧ G = H1 ∧ ∀ r ∈ (rowsOf (modsU es es')).take i, out es (look r) = out es' (look r)) ⟨none, none, none, rfl, rfl, fun r h => by rw [List.take_zero] at h; cases h⟩ ?_ ?_ ?_
  · rintro i σ G _ ⟨x2, x3, x4, rfl, rfl, hr⟩
    exact SqL.of hvs
  · rintro i x σ G hx ⟨x2, x3, x4, rfl, rfl, hr⟩
    have hj : i < (rowsOf (modsU es es')).length := by rw [← hln]; exact (List.getElem?_eq_some_iff.mp hx).1
    have hr' := List.getElem?_eq_getElem hj
    obtain ⟨t, a, rfl, ht⟩ := Paired.get' hp hx hr'
    refine ⟨t, _, rfl, ht, rfl, _, _, rfl, _, _, rfl, _, _, rfl, rfl, ?_⟩
    refine ⟨_, rfl, _, rfl, rfl, _, rfl, ?_⟩
    by_cases ho : out es (look (rowsOf (modsU es es'))[i]) = out es' (look (rowsOf (modsU es es'))[i])
    · rw [ho]
      rw [show decide (V.str (inS (out es' (look (rowsOf (modsU es es'))[i]))) = V.str (inS (out es' (look (rowsOf (modsU es es'))[i])))) = true from decide_eq_true rfl]
      refine iteF ⟨_, _, _, rfl, rfl, fun r h => ?_⟩
      rw [List.take_add_one, hr'] at h
      rcases List.mem_append.mp h with h | h
      · exact hr r h
      · rw [List.mem_singleton.mp h]; exact ho
    · rw [show decide (V.str (inS (out es (look (rowsOf (modsU es es'))[i]))) = V.str (inS (out es' (look (rowsOf (modsU es es'))[i])))) = false from decide_eq_false fun e => ho (inS_inj.1 (V.str.inj e))]
      refine iteT ⟨_, rfl, _, rfl, by show 2 ≤ sizeLine; decide, fun p hp => ?_⟩
      exact q _ _ (Ext.upd' e1 hp) (.inr ⟨⟨p, rfl⟩, diff_pos (List.getElem_mem hj) ho⟩)
  · rintro σ G ⟨x2, x3, x4, rfl, rfl, hr⟩
    rw [hln, List.take_length] at hr
    exact q _ _ e1 (.inl ⟨rfl, diff_zero hr⟩)
def spAlike (K : PySem.W.Frag) (z : Ad) : Sp := fun vs H Q _ => ∃ b c d d' es es', vs = [V.ref b, V.ref c] ∧ StkAt K z d H b es ∧ StkAt K z d' H c es' ∧ d ≤ 3 ∧ d' ≤ 3 ∧ Fits es ∧ Fits es' ∧ ∀ H', Ext H H' → Q (.bl (decide (diff es es' = 0))) H'
theorem c_alike (T : Txt K mg z) (D : Dfn K mg "alike" s_alike) (CF : Cal P w K mg base 10 "first_difference" (spFirstD K z)) : Cal P w K mg base 11 "alike" (spAlike K z) := by
  refine D.cal (k := 10) sc_alike (fun _ _ _ _ _ _ us hl => match us, hl with | [_, _], _ => rfl) (fun vs H Q E ⟨b, c, d, d', es, es', h, _⟩ => by rw [h]; rfl) fun f cdv A outer s H vs Q E hr ⟨b, c, d, d', es, es', hv, hb, hc, hd, hd', hf, hf', q⟩ => ⟨_, PSs.nox
    (pss_one (ps_ret (pe_cmpR op_isN (pe_c CF hr (by decide) rfl (pa_cons (pv 0) (pa_cons (pv 1) pa_nil))) pe_non (nomark _)))), ?_⟩
  subst hv
  refine ⟨_, rfl, _, rfl, b, c, d, d', es, es', rfl, hb, hc, hd, hd', hf, hf', fun v H1 e1 hv => ⟨rfl, ?_⟩⟩
  have z := q H1 e1
  rcases hv with ⟨rfl, hz⟩ | ⟨⟨t, rfl⟩, hz⟩
  · rw [hz] at z
    exact z
  · rw [decide_eq_false hz] at z
    exact z
end
end LP

end

section
set_option Elab.async false
set_option linter.all false
set_option maxRecDepth 100000
set_option maxHeartbeats 4000000
/-! agrees, need_word, need_answers, where_all, settled. -/
namespace LP
open PySem PySem.Spec PyProof.Rows L2 LK LT LD LR
section
variable {X : Cx}
/-- set(xs), a longer list of texts -/
def rSetOfL (K : PySem.W.Frag) (w : World) : List V → Hp → VK → Prop := fun vs H Q => ∃ (l : Addr) (ns : List Str), vs = [V.ref l] ∧ SqL K H l (ns.map V.str) ∧ ns.length < 1000 ∧
  ∀ (a : Addr) (c : Nat), H a = none → c ≤ ns.length → Q (.ref a) (upd H a (LKS.SetO w a (fun j => decide (j ∈ ns)) c))
theorem cr_setOfL (hc : X.calm = true) : CallR X (.type "set") (rSetOfL X.K X.w) := by
  intro pins s σ H vs us Q I r h
  obtain ⟨l, ns, rfl, hq, hl, q⟩ := h
  rw [Vals.ref1 r]
  have fin : ∀ (h' : Heap) (tk c : Nat), LKS.SetR X.w h' s.heap.objs.size (fun j => decide (j ∈ ns)) c → c ≤ ns.length → (∀ b o, s.heap.get? b = some o → h'.get? b = some o) → EP X pins σ Q (.ref s.heap.objs.size) { s with heap := h', toks := tk } := fun h' tk c R hcn k =>
    ⟨.ref _, upd H s.heap.objs.size (LKS.SetO X.w s.heap.objs.size (fun j => decide (j ∈ ns)) c), I.laid (t' := tk) k (Nat.le_refl _) (LKS.setO_new R), rfl, q _ c (I.hok.fresh (Nat.le_refl _)) hcn⟩
  obtain ⟨its, rv, pl, hz⟩ := I.list hq
  exact LKS.call_set_lstS ns (I.ok.hd hc) pl.isList (by simpa using L2.strsAre_of rv) (by unfold scanBound; omega) fin
end
def whereOf (bs : List Bool) : Str := if bs.all id then "in" else if bs.all (!·) then "out" else "open"
theorem where_of (es : List Ent) : whereS es = whereOf (outs es) := rfl
theorem one_word {bs : List Bool} (hb : bs ≠ []) {ks : List Str} (hd : ks.Nodup) (hm : ∀ k : Str, k ∈ ks ↔ decide (k ∈ bs.map inS) = true) : (ks.length = 1 → ks = [whereOf bs]) ∧ (ks.length ≠ 1 → whereOf bs = "open") := by
  have hm' : ∀ k : Str, k ∈ ks ↔ ∃ b ∈ bs, inS b = k := fun k => (hm k).trans (by rw [decide_eq_true_eq, List.mem_map])
  obtain ⟨b0, bs', rfl⟩ := List.exists_cons_of_ne_nil hb
  have h0 : inS b0 ∈ ks := (hm' _).2 ⟨b0, List.mem_cons_self, rfl⟩
  refine ⟨fun h1 => ?_, fun h1 => ?_⟩
  · obtain ⟨k0, rfl⟩ := List.length_eq_one_iff.mp h1
    have e0 := List.mem_singleton.mp h0
    subst e0
    have hall : ∀ b ∈ (b0 :: bs'), b = b0 := fun b h => inS_inj.1 (List.mem_singleton.mp ((hm' _).2 ⟨b, h, rfl⟩))
    refine congrArg (fun x => [x]) ?_
    unfold whereOf
    cases b0 with
    | true =>
      rw [if_pos (List.all_eq_true.mpr fun b h => by rw [hall b h] <;> rfl)]
      rfl
    | false =>
      rw [if_neg (fun h => absurd (List.all_eq_true.mp h false List.mem_cons_self) (by decide)), if_pos (List.all_eq_true.mpr fun b h => by rw [hall b h] <;> rfl)]
      rfl
  · have key : ∀ c : Bool, (∀ b ∈ (b0 :: bs'), b = c) → False := fun c h => by
      apply h1
      have hk : ∀ k ∈ ks, k = inS c := fun k hk => by
        obtain ⟨b, hb, e⟩ := (hm' k).1 hk
        rw [← e, h b hb]
      match ks, hd, hk, h0 with
      | [k], _, _, _ => rfl
      | k :: k' :: r, hd, hk, _ =>
        have e1 := hk k List.mem_cons_self
        have e2 := hk k' (List.mem_cons_of_mem _ List.mem_cons_self)
        rw [e1, e2] at hd
        exact absurd List.mem_cons_self (List.nodup_cons.mp hd).1
    unfold whereOf
    rw [if_neg, if_neg]
    · intro h
      exact key false fun b hb => by simpa using List.all_eq_true.mp h b hb
    · intro h
      exact key true fun b hb => List.all_eq_true.mp h b hb
theorem outs_ne (es : List Ent) : outs es ≠ [] := by
  intro h
  have z := congrArg List.length h
  unfold outs at z
  rw [List.length_map, rowsOf_length] at z
  have : 0 < 4 ^ (mods es).length := Nat.pow_pos (by decide)
  rw [z] at this
  cases this
theorem unlock_ext {H H0 : Hp} {d : Addr} {o : Obj} {u : HO} (h : H d = some u) (e : Ext (upd H d (.frz o u)) H0) : Ext H (upd H0 d u) := fun a v hv => by
  by_cases n : a = d
  · subst n
    rw [upd_same, ← h, hv]
  · rw [upd_ne n]
    exact e a v (by rw [upd_ne n]; exact hv)
section
variable {P : Program} {w : World} {K : PySem.W.Frag} {mg : Str → Option Value} {base : Heap} {z : Ad}
def spAgrees : Sp := fun vs H Q _ => ∃ a k, vs = [V.ref a, V.ref k] ∧ H k = some (.dK []) ∧ ∀ H', Ext H H' → Q (.bl true) H'
theorem c_agrees (T : Txt K mg z) (D : Dfn K mg "agrees" s_agrees) : Cal P w K mg base 1 "agrees" spAgrees := by
  refine D.cal sc_agrees (fun _ _ _ _ _ _ us hl => match us, hl with | [_, _], _ => rfl) (fun vs H Q E ⟨a, k, h, _⟩ => by rw [h]; rfl) fun f cdv A outer s H vs Q E hr ⟨a, k, hv, hk, q⟩ => ⟨_, PSs.nox
    (pss_one (ps_ret (pe_lock (pe_callB (cr_all rfl) (by rfl) T.f_all (by decide +kernel) (pa_cons
      (pe_lc (own := [("name", 2), ("result", 3)]) (g := gTup K 2 (gCons (gName 2) (gCons (gName 3) gNil))) (tt := tYes) rfl sc_agrees.nd (pi_items (pv 1)) (blkOk_by (N := ["answers", "known", "name", "result"]) (sc := defScope s_agrees) (by decide +kernel))
        (fun _ _ _ _ _ => pg_tup rfl (pgs_cons (pg_name (i := 2) sc_agrees.nd rfl (Or.inl rfl)) (pgs_cons (pg_name (i := 3) sc_agrees.nd rfl (Or.inl rfl)) pgs_nil))) (fun _ _ _ _ _ => pts_nil)
        (fun _ _ _ _ _ => pe_cmpR op_eq (pe_dget (hu_of hr) (pv 0) (pv 2) (fun _ _ => rfl)) (pv 3) (nomark _))) pa_nil))))), ?_⟩
  subst hv
  refine ⟨k, _, hk, trivial, fun od => ?_⟩
  refine ⟨_, rfl, k, od, [], rfl, upd_same, fun D hD => ?_⟩
  have hDk : D ≠ k := fun e => by rw [e, upd_same] at hD; cases hD
  have h1 : L2.upd (L2.upd H k (.frz od (.dK []))) D (.lst []) k = some (.frz od (.dK [])) := by rw [upd_ne hDk.symm]; exact upd_same
  refine lc_gen 0 (fun i G => G = L2.upd (L2.upd H k (.frz od (.dK []))) D (.lst [])) rfl (fun i G hi _ => absurd hi (Nat.not_lt_zero i)) fun G hG => ?_
  subst hG
  refine ⟨⟨h1, Nat.le_refl _⟩, D, [], rfl, SqL.of upd_same, h1, q _ ?_⟩
  exact unlock_ext hk (Ext.upd hD)
def spWordIO : Sp := fun vs H Q _ => ∃ b : Bool, vs = [.str (inS b)] ∧ ∀ H', Ext H H' → Q .non H'
theorem c_need_word (T : Txt K mg z) (D : Dfn K mg "need_word" s_need_word) : Cal P w K mg base 1 "need_word" spWordIO := by
  obtain ⟨_, gIN⟩ := T.s_IN
  obtain ⟨_, gOUT⟩ := T.s_OUT
  refine D.cal sc_need_word (fun _ _ _ _ _ _ us hl => match us, hl with | [_], _ => rfl) (fun vs H Q E ⟨b, h, _⟩ => by rw [h]; rfl) fun f cdv A outer s H vs Q E hr ⟨b, hv, q⟩ => ⟨_, PSs.nox
    (pss_one (ps_if (pt_cmpR op_notIn_seq (pv 0) (pe_tup (pa_cons (pe_glob (v := .str "in") rfl gIN ⟨_, rfl⟩) (pa_cons (pe_glob (v := .str "out") rfl gOUT ⟨_, rfl⟩) pa_nil))) (by rfl)) (pss_one ps_never) pss_nil)), ?_⟩
  subst hv
  refine ⟨_, rfl, by show 2 ≤ sizeLine; decide, fun t ht => ⟨t, _, rfl, .inr SqT.new, rfl, rfl, _, rfl, ?_⟩⟩
  rw [show (if true = true then !inV (V.str (inS b)) [.str "in", .str "out"] else inV (V.str (inS b)) [.str "in", .str "out"]) = false by cases b <;> decide +kernel]
  exact iteF (q _ (Ext.upd ht))
def spNeed (K : PySem.W.Frag) : Sp := fun vs H Q _ => ∃ t k ms, vs = [V.ref t, V.ref k, V.bl false] ∧ SqT K H t (namesV ms) ∧ ms.length ≤ 3 ∧ H k = some (.dK []) ∧ ∀ H', Ext H H' → Q .non H'
theorem inV_of {x : V} {xs : List V} (h : ∃ y ∈ xs, eqV y x = true) : inV x xs = true := by
  unfold inV
  obtain ⟨y, hy, e⟩ := h
  exact List.any_eq_true.mpr ⟨y, hy, e⟩
theorem c_need (T : Txt K mg z) (D : Dfn K mg "need_answers" s_need_answers) : Cal P w K mg base 1 "need_answers" (spNeed K) := by
  refine D.cal sc_need_answers (fun _ _ _ _ _ _ us hl => match us, hl with | [_, _, _], _ => rfl) (fun vs H Q E ⟨t, k, ms, h, _⟩ => by rw [h]; rfl) fun f cdv A outer s H vs Q E hr ⟨t, k, ms, hv, ht, h3, hk, q⟩ => ⟨_, PSs.nox
    (pss_one (ps_for PassesOwn.never rfl (pi_list (pe_callB (LKS.cr_sortedSet rfl) (by rfl) T.f_sorted boot_sorted (pa_cons (pe_callTy (LKS.cr_setOf rfl) (by rfl) T.f_set PyProof.Rows.boot_set (pa_cons
        (pe_op op_cat (pe_callTy call_list_of (by rfl) T.f_list PyProof.Rows.boot_list (pa_cons (pv 0) pa_nil)) (pe_callTy (call_listD rfl) (by rfl) T.f_list PyProof.Rows.boot_list (pa_cons (pv 1) pa_nil))) pa_nil)) pa_nil))) (pg_name (i := 3) sc_need_answers.nd rfl (Or.inl rfl))
      (pss_cons (ps_if (PW.pt (pw_or (pt_cmpR op_notIn_seq (pv 3) (pv 0) (by rfl)) (pw_or1 (PW.pt (pw_and (pt_cmp (pc_dnotin (hu_of hr) (pv 3) (pv 1))) (pw_and1 (pt_val (pv 2)))))))) (pss_one ps_never) pss_nil)
      (pss_one (ps_if (PW.pt (pw_and (pt_cmp (pc_din (hu_of hr) (pv 3) (pv 1))) (pw_and1 (pt_cmpR op_notIn_seq (pe_dget (hu_of hr) (pv 1) (pv 3) (fun _ _ => rfl)) (pe_glob (v := .ref z.tRes) rfl T.gRes rfl) (by rfl))))) (pss_one ps_never) pss_nil))))), ?_⟩
  subst hv
  have hnl : (namesV ms).length = ms.length := List.length_map _
  refine ⟨_, rfl, t, _, rfl, .inr ht, fun l1 hl1 => ?_⟩
  have e1 := Ext.upd hl1 (o := .lst (namesV ms))
  refine ⟨_, rfl, k, [], rfl, .inl (e1 _ _ hk), fun l2 hl2 => ?_⟩
  have e2 := Ext.upd' e1 hl2 (o := .lst [])
  have n12 : l1 ≠ l2 := fun e => by rw [← e, upd_same] at hl2; cases hl2
  refine ⟨l1, l2, namesV ms, [], rfl, rfl, Ext.upd hl2 _ _ upd_same, upd_same, le_line (by show _ + 0 ≤ _; omega), fun l3 hl3 => ?_⟩
  have e3 := Ext.upd' e2 hl3 (o := .lst (namesV ms ++ []))
  refine ⟨l3, ms.map Mdl.s, rfl, .inl (SqL.of (by rw [namesV_eq, upd_same, List.append_nil])), by rw [List.length_map]; omega, fun sa cN hsa hcN => ?_⟩
  have e4 := Ext.upd' e3 hsa (o := LKS.SetO w sa (fun j => decide (j ∈ ms.map Mdl.s)) cN)
  refine ⟨sa, _, cN, rfl, upd_same, by rw [List.length_map] at hcN; omega, fun ns pl hs hnd hm hlen hpl => ?_⟩
  have e5 := Ext.upd' e4 hpl (o := .lst (ns.map V.str))
  refine ⟨pl, rfl, ⟨ns.map V.str, SqL.of upd_same⟩, ?_⟩
  refine for_list (xs := ns.map V.str) (fun i σ G => ∃ x3, σ = [some (V.ref t), some (V.ref k), some (V.bl false), x3] ∧ Ext H G ∧ G pl = some (.lst (ns.map V.str))) ⟨none, rfl, e5, upd_same⟩ ?_ ?_ ?_
  · rintro i σ G _ ⟨x3, rfl, e, hpl'⟩
    exact SqL.of hpl'
  · rintro i x σ G hx ⟨x3, rfl, e, hpl'⟩
    rw [List.getElem?_map] at hx
    cases hn : ns[i]? with
    | none => rw [hn] at hx; cases hx
    | some y =>
      rw [hn] at hx
      cases hx
      obtain ⟨m, hm1, rfl⟩ := List.mem_map.mp (of_decide_eq_true ((hm y).1 (List.mem_of_getElem? hn)))
      have hin : inV (V.str m.s) (namesV ms) = true := inV_of ⟨_, List.mem_map.mpr ⟨m, hm1, rfl⟩, by cases m <;> decide +kernel⟩
      have hfl : (namesV ms).all flatV = true := List.all_eq_true.mpr fun v hv => by
        obtain ⟨m', _, rfl⟩ := List.mem_map.mp hv
        rfl
      refine ⟨_, rfl, _, rfl, t, _, rfl, .inr (sqT_fx ht e.fx), rfl, hfl, _, rfl, ?_⟩
      rw [hin]
      refine iteF ?_
      have hg : DGet G k (V.str m.s) none := DGet.k (k := (Sum.inr m.s : Key)) (e _ _ hk)
      refine ⟨_, rfl, _, rfl, k, none, rfl, hg, true, rfl, iteT ⟨_, rfl, false, rfl, iteF ?_⟩⟩
      refine ⟨_, rfl, _, rfl, k, none, rfl, hg, false, rfl, iteF (iteF ?_)⟩
      exact ⟨_, rfl, e, hpl'⟩
  · rintro σ G ⟨x3, rfl, e, hpl'⟩
    exact q G e

def spWhere (K : PySem.W.Frag) : Sp := fun vs H Q _ => ∃ l k es, vs = [V.ref l, V.ref k] ∧ OutsAt K H l es ∧ H k = some (.dK []) ∧ ∀ H', Ext H H' → Q (.str (whereS es)) H'
theorem c_where_all (T : Txt K mg z) (D : Dfn K mg "where_all" s_where_all) (CA : Cal P w K mg base 1 "agrees" spAgrees) : Cal P w K mg base 2 "where_all" (spWhere K) := by
  obtain ⟨_, gOP⟩ := T.s_OPEN
  refine D.cal (k := 1) sc_where_all (fun _ _ _ _ _ _ us hl => match us, hl with | [_, _], _ => rfl) (fun vs H Q E ⟨l, k, es, h, _⟩ => by rw [h]; rfl) fun f cdv A outer s H vs Q E hr ⟨l, k, es, hv, ho, hk, q⟩ => ⟨_, PSs.nox
    (pss_cons (ps_set (i := 2) sc_where_all.nd rfl (Or.inl rfl) (pe_callTy (cr_setOfL rfl) (by rfl) T.f_set PyProof.Rows.boot_set (pa_cons
        (pe_lc (own := [("answers", 3), ("where", 4)]) (g := gTup K 2 (gCons (gName 3) (gCons (gName 4) gNil))) (tt := tB (tCallR spAgrees (tCons (tVar 3) (tCons (tVar 1) tNil)))) rfl sc_where_all.nd (pi_list (pv 0)) (blkOk_by (N := ["rows", "known", "found", "answers", "where"]) (sc := defScope s_where_all) (by decide +kernel))
          (fun _ _ _ _ _ => pg_tup rfl (pgs_cons (pg_name (i := 3) sc_where_all.nd rfl (Or.inl rfl)) (pgs_cons (pg_name (i := 4) sc_where_all.nd rfl (Or.inl rfl)) pgs_nil)))
          (fun _ _ _ _ _ => pts_one (pt_val (pe_c CA hr (by decide) rfl (pa_cons (pv 3) (pa_cons (pv 1) pa_nil)))))
          (fun _ _ _ _ _ => pv 4)) pa_nil)))
    (pss_one (ps_ret (pe_ifExp (pt_cmpR op_eq (pe_callB LKS.cr_lenSet (by rfl) T.f_len boot_len (pa_cons (pv 2) pa_nil)) pe_int (nomark _)) (pe_ix ix_list (pe_callB (LKS.cr_sortedSet rfl) (by rfl) T.f_sorted boot_sorted (pa_cons (pv 2) pa_nil)) pe_int (fun _ _ => rfl)) (pe_glob (v := .str "open") rfl gOP ⟨_, rfl⟩))))), ?_⟩
  subst hv
  obtain ⟨vs, hvs, hp⟩ := ho
  have hln := Paired.len hp
  have h64 := rowsOf_le (modsR_le (flat es))
  refine ⟨_, rfl, l, rfl, ⟨vs, SqL.of hvs⟩, fun Dl hDl => ?_⟩
  refine lc_list (xs := vs) (fun j G => Ext H G ∧ G Dl = some (.lst ((((rowsOf (mods es)).take j).map fun r => inS (out es (look r))).map V.str))) ⟨Ext.upd hDl, upd_same⟩ (fun j G _ ⟨e, _⟩ => SqL.of (e _ _ hvs)) (fun j x G hx ⟨e, has⟩ => ?_) fun G ⟨e, has⟩ => ?_
  · have hj : j < (rowsOf (mods es)).length := by rw [← hln]; exact (List.getElem?_eq_some_iff.mp hx).1
    have hr' := List.getElem?_eq_getElem hj
    obtain ⟨t, a, rfl, ht⟩ := Paired.get' hp hx hr'
    refine ⟨t, _, rfl, sqT_fx ht e.fx, rfl, _, _, rfl, _, _, rfl, rfl, rfl, ?_⟩
    refine ⟨_, rfl, _, rfl, _, k, rfl, e _ _ hk, fun G2 e2 => ⟨true, rfl, ?_⟩⟩
    refine iteT ⟨_, rfl, _, e2 _ _ has, by rw [List.length_map, List.length_map, List.length_take]; exact lt_line (by have : (rowsOf (mods es)).length ≤ 64 := h64; omega), ?_, ?_⟩
    · intro a' o' h'
      have n : a' ≠ Dl := fun e => by subst e; rw [hDl] at h'; cases h'
      rw [upd_ne n]
      exact e2 _ _ (e _ _ h')
    · rw [upd_same, take_map_succ _ hr', List.map_append] <;> rfl
  · rw [hln, List.take_length] at has
    have hwords : ((rowsOf (mods es)).map fun r => inS (out es (look r))) = (outs es).map inS := by unfold outs; rw [List.map_map] <;> rfl
    rw [hwords] at has
    have hlo : ((outs es).map inS).length ≤ 64 := by rw [List.length_map]; unfold outs; rw [List.length_map]; exact h64
    refine ⟨Dl, (outs es).map inS, rfl, SqL.of has, by omega, fun sa cN hsa hcN => ?_⟩
    have e2 := Ext.upd' e hsa (o := LKS.SetO w sa (fun j => decide (j ∈ (outs es).map inS)) cN)
    refine ⟨_, rfl, sa, _, cN, rfl, upd_same, fun ks hnd hm hlen => ⟨rfl, _, rfl, ?_⟩⟩
    obtain ⟨o1, o2⟩ := one_word (outs_ne es) hnd hm
    by_cases h1 : cN = 1
    · subst h1
      refine iteT ⟨_, rfl, sa, _, 1, rfl, upd_same, by decide, fun ns pl hs hnd2 hm2 hlen2 hpl => ?_⟩
      obtain ⟨p1, _⟩ := one_word (outs_ne es) hnd2 hm2
      have hns := p1 hlen2
      subst hns
      exact ⟨pl, _, _, _, rfl, rfl, SqL.of upd_same, atI_nat (j := 0) rfl, q _ (Ext.upd' e2 hpl)⟩
    · rw [show decide (V.int ((cN : Nat) : Int) = V.int 1) = false from decide_eq_false fun e => by injection e with e; omega]
      refine iteF ?_
      have z := q _ e2
      rw [where_of, o2 (by omega)] at z
      exact z
def spSettled (K : PySem.W.Frag) (z : Ad) : Sp := fun vs H Q _ => ∃ b k d es, vs = [V.ref b, V.ref k] ∧ StkAt K z d H b es ∧ d ≤ 3 ∧ Fits es ∧ H k = some (.dK []) ∧ ∀ H', Ext H H' → Q (.str (whereS es)) H'
theorem c_settled (T : Txt K mg z) (D : Dfn K mg "settled" s_settled) (CN : Cal P w K mg base 1 "need_answers" (spNeed K)) (CW : Cal P w K mg base 2 "where_all" (spWhere K)) (CO : Cal P w K mg base 9 "outcomes" (spOuts K z)) : Cal P w K mg base 10 "settled" (spSettled K z) := by
  refine D.cal (k := 9) sc_settled (fun _ _ _ _ _ _ us hl => match us, hl with | [_, _], _ => rfl) (fun vs H Q E ⟨b, k, d, es, h, _⟩ => by rw [h]; rfl) fun f cdv A outer s H vs Q E hr ⟨b, k, d, es, hv, hb, hd, hf, hk, q⟩ => ⟨_, PSs.nox
    (pss_cons (ps_expr (pe_c CN hr (by decide) rfl (pa_cons (pe_f T.fS3 (pv 0)) (pa_cons (pv 1) (pa_cons pe_bl pa_nil)))))
    (pss_one (ps_ret (pe_c CW hr (by decide) rfl (pa_cons (pe_c CO hr (by decide) rfl (pa_cons (pv 0) pa_nil)) (pa_cons (pv 1) pa_nil)))))), ?_⟩
  subst hv
  obtain ⟨d', e', dx, fs, p, q', n, i, ps, qs, h1, h2, h3, h4, h5, h6, h7, h8, h9, _⟩ := id hb.open
  refine ⟨_, rfl, b, dx, fs, _, rfl, h1, h8, _, rfl, n, k, mods es, rfl, h9, modsR_le _, hk, fun H1 e1 => ?_⟩
  refine ⟨_, rfl, b, d, es, rfl, hb.fx e1.fx, hd, hf.1, hf.2, fun l H2 e2 ho => ?_⟩
  exact ⟨_, rfl, l, k, es, rfl, ho, e2 _ _ (e1 _ _ hk), fun H3 e3 => q H3 ((e1.trans e2).trans e3)⟩
end
end LP

end

section
set_option Elab.async false
set_option linter.all false
set_option maxRecDepth 100000
set_option maxHeartbeats 4000000
/-! with_control. -/
namespace LP
open PySem PySem.Spec PyProof.Rows L2 LK LT LD LR
def turn1 (n : Nat) (a : Res → Axn) (g : Nat) : Ent → Ent
  | .rule r => .rule (if g = n then { r with a := a } else r)
  | .inner rs => .inner (turnR n a g rs)
theorem turn_get {n : Nat} {a : Res → Axn} : ∀ {es : List Ent} {f i : Nat} {e : Ent}, es[i]? = some e → (turnE n a f es)[i]? = some (turn1 n a (f + (flat (es.take i)).length) e) := by
  intro es
  induction es with
  | nil => intro f i e h; simp at h
  | cons e0 es ih =>
    intro f i e h
    cases i with
    | zero =>
      have h' : e0 = e := by simpa using h
      subst h'
      cases e0 with
      | rule r => rfl
      | inner rs => rfl
    | succ i =>
      have h' : es[i]? = some e := by simpa using h
      cases e0 with
      | rule r =>
        show (turnE n a (f + 1) es)[i]? = _
        rw [ih h']
        have e1 : (flat ((Ent.rule r :: es).take (i + 1))).length = 1 + (flat (es.take i)).length := by
          rw [List.take_succ_cons, flat_cons, List.length_append] <;> rfl
        rw [e1, Nat.add_assoc]
      | inner rs =>
        show (turnE n a (f + rs.length) es)[i]? = _
        rw [ih h']
        have e1 : (flat ((Ent.inner rs :: es).take (i + 1))).length = rs.length + (flat (es.take i)).length := by
          rw [List.take_succ_cons, flat_cons, List.length_append] <;> rfl
        rw [e1, Nat.add_assoc]
section
variable {P : Program} {w : World} {K : PySem.W.Frag} {mg : Str → Option Value} {base : Heap} {z : Ad}
def axnV (a : Res → Axn) : List V := allRes.map fun x => (a x).v
def spTurn (K : PySem.W.Frag) (z : Ad) (d : Nat) : Sp := fun vs H Q _ => ∃ b f n t es a, vs = [V.ref b, V.int ((f : Nat) : Int), V.int ((n : Nat) : Int), V.ref t] ∧ StkAt K z d H b es ∧ SqT K H t (axnV a) ∧ Fits es ∧ d ≤ 3 ∧ ∀ c H', Ext H H' → StkAt K z d H' c (turnE n a f es) → Q (.ref c) H'
theorem c_turnC (T : Txt K mg z) (D : Dfn K mg "with_control" s_with_control) (CE : Get P w K mg base 1 z.cS "entries" (spEntries K z)) (CF : Cal P w K mg base 2 "firsts_of" (spFirsts K z)) (CM : Get P w K mg base 1 z.cR "module" (spModule K z))
    (CR : Mak P w K mg base 4 "Rule" z.cR (spRule0 K z)) (CS : Mak P w K mg base 2 "Stack" z.cS (spStk K z)) : ∀ d : Nat, Cal P w K mg base (d + 6) "with_control" (spTurn K z d) := by
  intro d
  induction d with
  | zero =>
    obtain ⟨f, fd, hm, F⟩ := D.ex
    exact ⟨f, fun _ _ _ _ _ _ _ _ _ _ _ ⟨_, _, _, _, _, _, _, h, _⟩ => h.elim, hm, F.kp⟩
  | succ d ih =>
    refine D.cal (k := d + 6) sc_with_control (fun _ _ _ _ _ _ us hl => match us, hl with | [_, _, _, _], _ => rfl) (fun vs H Q E ⟨b, f, n, t, es, a, h, _⟩ => by rw [h]; rfl) fun f cdv A outer s H vs Q E hr ⟨b, f, n, t, es, a, hv, hb, ht, hf, hd, q⟩ => ⟨_, PSs.nox
      (pss_cons (ps_set (i := 4) sc_with_control.nd rfl (Or.inl rfl) (pe_lst pa_nil))
      (pss_cons (ps_for PassesOwn.never rfl (LKW.pi_zipTL rfl T.f_zip (pa_cons (pe_p CE hr (by omega) (pv 0)) (pa_cons (pe_c CF hr (by omega) rfl (pa_cons (pv 0) (pa_cons (pv 1) pa_nil))) pa_nil))) (pg_tup rfl (pgs_cons (pg_name (i := 5) sc_with_control.nd rfl (Or.inl rfl)) (pgs_cons (pg_name (i := 6) sc_with_control.nd rfl (Or.inl rfl)) pgs_nil)))
        (pss_one (ps_if (pt_val (pe_isO rfl T.f_isinstance rfl T.gS (pv 5)))
          (pss_one (ps_expr (pe_bm PySem.F.plainAttrs_list PySem.F.slot_list_append PySem.F.type_list_append mt_append (pv 4) (pa_cons (pe_c ih hr (by omega) rfl (pa_cons (pv 5) (pa_cons (pv 6) (pa_cons (pv 2) (pa_cons (pv 3) pa_nil))))) pa_nil))))
          (pss_one (ps_expr (pe_bm PySem.F.plainAttrs_list PySem.F.slot_list_append PySem.F.type_list_append mt_append (pv 4) (pa_cons (pe_ifExp (pt_cmpR op_eq (pv 6) (pv 2) (nomark _)) (pe_mk CR hr (by omega) rfl (pa_cons (pe_p CM hr (by omega) (pv 5)) (pa_cons (pv 3) pa_nil))) (pv 5)) pa_nil)))))))
      (pss_one (ps_ret (pe_mkS CS hr (by omega) rfl (pv 4)))))), ?_⟩
    subst hv
    obtain ⟨d1, e1, dx, fs, p, q', nm, i0, ps, qs, h1, h2, h3, h4, h5⟩ := id hb.open
    cases e1
    refine ⟨by show 0 ≤ sizeLine; decide, fun l hl => ?_⟩
    have x1 := Ext.upd hl (o := .lst [])
    refine ⟨_, rfl, b, dx, fs, rfl, x1 _ _ h1, b, d + 1, es, rfl, hb.fx x1.fx, fun d' p ps ed hp hps => ?_⟩
    cases ed
    have hln := Paired.len hps
    refine ⟨_, rfl, _, rfl, b, d + 1, es, f, rfl, hb.fx x1.fx, hf.1, hf.2, fun fl H1 hfl x2 hfl1 => ?_⟩
    have nfl : fl ≠ l := fun e => by rw [e, upd_same] at hfl; cases hfl
    have x12 := x1.trans x2
    have hfsl : (firstsL f es).length = es.length := by unfold firstsL; rw [List.length_map, List.length_range]
    have hp1 := sqT_fx hp x2.fx
    refine ⟨p, fl, ps, firstsL f es, rfl, hp1, SqL.of hfl1, ?_⟩
    have hps1 := entsFx hps x2.fx
    refine LKW.for_zipTL (xs := ps) (ys := firstsL f es) (by omega) (fun i σ G => ∃ x5 x6 as, σ = [some (V.ref b), some (V.int ((f : Nat) : Int)), some (V.int ((n : Nat) : Int)), some (V.ref t), some (V.ref l), x5, x6] ∧ Up l H1 G ∧ G l = some (.lst as) ∧ Paired (EntV K z d G) as ((turnE n a f es).take i))
      ⟨none, none, [], rfl, Up.refl, x2 _ _ upd_same, .nil⟩ ?_ ?_ ?_
    · rintro i σ G ⟨x5, x6, as, rfl, u, hG, hpa⟩
      exact ⟨sqT_fx hp1 (u.fx (x2 _ _ upd_same) (by simp [Fixd])), SqL.of (u _ _ nfl hfl1)⟩
    · rintro i x y Tp σ G hx hy ⟨x5, x6, as, rfl, u, hG, hpa⟩ hTp
      have fx1 : Fx H1 G := u.fx (x2 _ _ upd_same) (by simp [Fixd])
      have hi : i < es.length := by rw [← hln]; exact (List.getElem?_eq_some_iff.mp hx).1
      have hei : es[i]? = some es[i] := List.getElem?_eq_getElem hi
      have hyv : y = firstAt f es i := by
        unfold firstsL at hy
        rw [List.getElem?_map, List.getElem?_range hi] at hy
        exact (Option.some.inj hy).symm
      subst hyv
      obtain ⟨c, rfl, hec⟩ := (Paired.get' hps1 hx hei)
      have hec1 := hec.fx fx1
      have nT : Tp ≠ l := fun e => by rw [e, hG] at hTp; cases hTp
      have g2 := Ext.upd hTp (o := .tup [V.ref c, firstAt f es i])
      have u2 : Up l H1 _ := u.trans (Up.ext g2)
      have hG2 := g2 _ _ hG
      have hec2 := hec1.fx g2.fx
      have hget := turn_get (n := n) (a := a) (f := f) hei
      have hal : as.length ≤ 12 := by
        have := hf.1
        rw [Paired.len hpa, List.length_take, turnE_length]; omega
      have hft := flat_take hei
      have hfle := flat_take_le es (i + 1)
      have hfl3 : (flat (es.take (i + 1))).length = (flat (es.take i)).length + es[i].rules.length := by rw [hft, List.length_append]
      have hff := hf.2
      refine ⟨Tp, _, rfl, SqT.new, rfl, _, _, rfl, _, _, rfl, rfl, ?_⟩
      have fin : ∀ (c' : Addr) (G3 : Hp), Ext (L2.upd G Tp (.tup [V.ref c, firstAt f es i])) G3 → EntAt K z d G3 c' (turn1 n a (f + (flat (es.take i)).length) es[i]) →
          ∃ x5 x6 as', [some (V.ref b), some (V.int ((f : Nat) : Int)), some (V.int ((n : Nat) : Int)), some (V.ref t), some (V.ref l), some (V.ref c), some (firstAt f es i)] = [some (V.ref b), some (V.int ((f : Nat) : Int)), some (V.int ((n : Nat) : Int)), some (V.ref t), some (V.ref l), x5, x6] ∧
            Up l H1 (L2.upd G3 l (.lst (as ++ [V.ref c']))) ∧ L2.upd G3 l (.lst (as ++ [V.ref c'])) l = some (.lst as') ∧ Paired (EntV K z d (L2.upd G3 l (.lst (as ++ [V.ref c'])))) as' ((turnE n a f es).take (i + 1)) := fun c' G3 e3 hc' => by
        have hG3 := e3 _ _ hG2
        have f4 : Fx G3 (L2.upd G3 l (.lst (as ++ [V.ref c']))) := Fx.upd hG3 (by simp [Fixd])
        refine ⟨_, _, _, rfl, (u2.trans (Up.ext e3)).trans Up.upd, upd_same, ?_⟩
        rw [List.take_add_one, hget]
        exact Paired.app (entsFx (entsFx hpa (g2.trans e3).fx) f4) (.cons ⟨c', rfl, hc'.fx f4⟩ .nil)
      cases hek : es[i] with
      | inner rs =>
        rw [hek] at hec2 hfl3 fin
        have hst : StkAt K z d _ c (rs.map .rule) := hec2
        obtain ⟨dx', fs', hi'⟩ := StkAt.ins hst
        refine ⟨_, rfl, c, _, dx', fs', true, rfl, hi', ⟨T.oS, T.ss⟩, true, rfl, iteT ?_⟩
        have hrl : (flat (rs.map Ent.rule)).length = (Ent.inner rs).rules.length := by rw [flat_rules] <;> rfl
        have hrl2 : (rs.map Ent.rule).length = (Ent.inner rs).rules.length := by rw [List.length_map] <;> rfl
        refine ⟨_, rfl, .inl ⟨rfl, _, SqL.of hG2⟩, _, rfl, _, rfl, _, rfl, _, rfl, c, f + (flat (es.take i)).length, n, t, rs.map .rule, a, rfl, hst, ?_, ⟨by omega, by omega⟩, by omega, fun c' G3 e3 hs3 => ?_⟩
        · exact sqT_fx (sqT_fx (sqT_fx ht x12.fx) fx1) g2.fx
        · refine ⟨l, _, _, rfl, rfl, e3 _ _ hG2, lt_line (by omega), fin c' G3 e3 ?_⟩
          rw [turnE_rules] at hs3
          exact hs3
      | rule r =>
        rw [hek] at hec2 hfl3 fin
        have hrt : RuleAt K z _ c r := hec2
        obtain ⟨dx', fs', hi'⟩ := RuleAt.ins hrt
        refine ⟨_, rfl, c, _, dx', fs', false, rfl, hi', ⟨T.oR, T.rs⟩, false, rfl, iteF ?_⟩
        refine ⟨_, rfl, .inl ⟨rfl, _, SqL.of hG2⟩, _, rfl, _, rfl, rfl, _, rfl, ?_⟩
        by_cases hn : f + (flat (es.take i)).length = n
        · rw [show decide (firstAt f es i = V.int ((n : Nat) : Int)) = true from decide_eq_true (by unfold firstAt; rw [hn])]
          refine iteT ⟨_, rfl, c, dx', fs', rfl, hi', c, r, rfl, hrt, _, rfl, fun x dxx hxn hdn ne => ?_⟩
          have g4 : Ext _ _ := Ext.upd' (Ext.upd hdn (o := .own x)) (o := .ins z.cR dxx []) (by rw [upd_ne ne.symm]; exact hxn)
          refine ⟨x, dxx, t, { r with a := a }, rfl, upd_same, sqT_fx (sqT_fx (sqT_fx (sqT_fx ht x12.fx) fx1) g2.fx) g4.fx, fun G3 u3 hr3 => ⟨rfl, ?_⟩⟩
          have e3 := mk_ext hxn hdn u3
          refine ⟨l, _, _, rfl, rfl, e3 _ _ hG2, lt_line (by omega), fin x G3 e3 ?_⟩
          show RuleAt K z G3 x (if _ then _ else _)
          rw [if_pos hn]
          exact hr3
        · rw [show decide (firstAt f es i = V.int ((n : Nat) : Int)) = false from decide_eq_false (fun e => hn (by unfold firstAt at e; injection e with e; omega))]
          refine iteF ⟨_, rfl, l, _, _, rfl, rfl, hG2, lt_line (by omega), fin c _ Ext.rfl' ?_⟩
          show RuleAt K z _ c (if _ then _ else _)
          rw [if_neg hn]
          exact hrt
    · rintro σ G ⟨x5, x6, as, rfl, u, hG, hpa⟩
      rw [hln, List.take_of_length_le (by rw [turnE_length]; exact Nat.le_refl _)] at hpa
      have eG : Ext H G := by
        have : Up l H G := (Up.ext x12).trans u
        exact this.free hl
      refine ⟨_, rfl, l, _, rfl, .inr (SqL.of hG), fun x dx hx hdx ne => ?_⟩
      refine stk_made hx hdx ne hpa (by rw [turnE_length]; exact hf.1) (by rw [turnE_flat]; exact hf.2) (by omega) fun c G3 e3 hs => q c G3 (eG.trans e3) hs
end
end LP

end

section
set_option Elab.async false
set_option linter.all false
set_option maxRecDepth 100000
set_option maxHeartbeats 4000000
/-! State: its making, kept, go_on, go_back, go_again. -/
namespace LP
open PySem PySem.Spec PyProof.Rows L2 LK LT LD LR
section
variable {X : Cx}
/-- a tuple == () -/
def rEqT0 (K : PySem.W.Frag) : R2 := fun x y H Q => ∃ a b xs, x = .ref a ∧ y = .ref b ∧ SqT K H a xs ∧ SqT K H b [] ∧ Q (.bl (decide (xs.length = 0))) H
theorem op_eqT0 (hu : X.A.units < cLine) : OpR X (compareOp .Eq) (rEqT0 X.K) := by
  intro pins s σ H x y v u Q I rx ry h
  obtain ⟨a, b, xs, rfl, rfl, ha, hb, q⟩ := h
  cases rx
  cases ry
  obtain ⟨its, r1, p1, _⟩ := I.tuple ha
  obtain ⟨jts, r2, p2, _⟩ := I.tuple hb
  cases r2
  have z := PySem.SeqAt.RcAt.tuples (A := X.A) (s := s) (e := fun _ => true) p1 p2 hu (fun j h1 h2 => absurd h2 (Nat.not_lt_zero j)) X.prog X.w X.xe
  refine z _ ⟨.bl (decide (xs.length = 0)), H, I, ?_, q⟩
  have hl : xs.length = its.length := r1.length
  show Value.bool _ = Value.bool _
  congr 1
  rw [hl]
  cases its with
  | nil => rfl
  | cons a its => simp
theorem cut_last (xs : List V) (v : V) : cutV (xs ++ [v]) none (some (-1)) = xs := by
  have e : HT.sIx (xs ++ [v]).length (xs ++ [v]).length (some (-1)) = xs.length := by
    rw [List.length_append]
    simp only [HT.sIx]
    simp
    omega
  unfold cutV
  rw [HT.sIx_none, e, List.drop_zero, Nat.sub_zero, List.take_left']
  rfl
end
section
variable (K : PySem.W.Frag) (z : Ad)
/-- the state at x with its five slots -/
def StV (H : Hp) (x dx : Addr) (p v n a u : V) : Prop := H x = some (SlX.SlO x z.cT dx [some n, some a, some p, some u, some v]) ∧ H dx = some (.xd []) ∧ dx ≠ x
/-- an entry of the past: what stood there -/
def PastB (H : Hp) (e : V) (c : Addr) : Prop := ∃ t op t2 v n, e = .ref t ∧ SqT K H t [op, .ref t2] ∧ SqT K H t2 [.ref c, v, n]
def StateAt (H : Hp) (x b : Addr) (vv : V) (bs : List Addr) (m : Nat) : Prop := ∃ dx nn a u ps us, StV z H x dx (.ref b) vv nn (.ref a) (.ref u) ∧ SqT K H a ps ∧ Paired (PastB K H) ps bs ∧ SqT K H u us ∧ us.length = m ∧ ∀ e ∈ us, ∃ c, PastB K H e c
end
section
variable {K : PySem.W.Frag} {z : Ad} {H H' : Hp} {x dx : Addr} {p v n a u : V}
theorem StV.slt (h : StV z H x dx p v n a u) : SlX.Slt H x z.cT dx [some n, some a, some p, some u, some v] := .inr ⟨h.1, h.2.1⟩
theorem StV.ext (h : StV z H x dx p v n a u) (e : Ext H H') : StV z H' x dx p v n a u := ⟨e _ _ h.1, e _ _ h.2.1, h.2.2⟩
theorem StV.up {l : Addr} {o : HO} (h : StV z H x dx p v n a u) (e : Up l H H') (h1 : l ≠ x) (h2 : l ≠ dx) : StV z H' x dx p v n a u := ⟨e _ _ h1.symm h.1, e _ _ h2.symm h.2.1, h.2.2⟩
theorem slH_up {C : Addr} {vs : List (Option V)} (h : H dx = some (.xd [])) : Up x H (SlX.slH H x C dx vs) := fun b o nb hb => by
  unfold SlX.slH
  rw [upd_ne nb]
  by_cases e : b = dx
  · subst e
    rw [upd_same, ← h, hb]
  · rw [upd_ne e]; exact hb
theorem slH_dx {C : Addr} {vs : List (Option V)} (ne : dx ≠ x) : SlX.slH H x C dx vs dx = some (.xd []) := by
  unfold SlX.slH
  rw [upd_ne ne, upd_same]
theorem slH_x {C : Addr} {vs : List (Option V)} : SlX.slH H x C dx vs x = some (SlX.SlO x C dx vs) := upd_same
theorem StV.putP (h : StV z H x dx p v n a u) (y : V) : ∃ H1, SlX.slH H x z.cT dx (SlX.putS iP y [some n, some a, some p, some u, some v]) = H1 ∧ Up x H H1 ∧ StV z H1 x dx y v n a u := ⟨_, rfl, slH_up h.2.1, slH_x, slH_dx h.2.2, h.2.2⟩
theorem StV.putV (h : StV z H x dx p v n a u) (y : V) : ∃ H1, SlX.slH H x z.cT dx (SlX.putS iV y [some n, some a, some p, some u, some v]) = H1 ∧ Up x H H1 ∧ StV z H1 x dx p y n a u := ⟨_, rfl, slH_up h.2.1, slH_x, slH_dx h.2.2, h.2.2⟩
theorem StV.putN (h : StV z H x dx p v n a u) (y : V) : ∃ H1, SlX.slH H x z.cT dx (SlX.putS iN y [some n, some a, some p, some u, some v]) = H1 ∧ Up x H H1 ∧ StV z H1 x dx p v y a u := ⟨_, rfl, slH_up h.2.1, slH_x, slH_dx h.2.2, h.2.2⟩
theorem StV.putA (h : StV z H x dx p v n a u) (y : V) : ∃ H1, SlX.slH H x z.cT dx (SlX.putS iA y [some n, some a, some p, some u, some v]) = H1 ∧ Up x H H1 ∧ StV z H1 x dx p v n y u := ⟨_, rfl, slH_up h.2.1, slH_x, slH_dx h.2.2, h.2.2⟩
theorem StV.putU (h : StV z H x dx p v n a u) (y : V) : ∃ H1, SlX.slH H x z.cT dx (SlX.putS iU y [some n, some a, some p, some u, some v]) = H1 ∧ Up x H H1 ∧ StV z H1 x dx p v n a y := ⟨_, rfl, slH_up h.2.1, slH_x, slH_dx h.2.2, h.2.2⟩
theorem upFx (h : StV z H x dx p v n a u) (e : Up x H H') : Fx H H' := e.fx h.1 (by unfold SlX.SlO; simp [Fixd])
theorem PastB.fx {e : V} {c : Addr} (h : PastB K H e c) (f : Fx H H') : PastB K H' e c := let ⟨t, op, t2, v, n, h1, h2, h3⟩ := h; ⟨t, op, t2, v, n, h1, sqT_fx h2 f, sqT_fx h3 f⟩
theorem pastsFx {ps : List V} {bs : List Addr} (h : Paired (PastB K H) ps bs) (f : Fx H H') : Paired (PastB K H') ps bs := Paired.imp (fun _ _ h => h.fx f) h
theorem undsFx {us : List V} (h : ∀ e ∈ us, ∃ c, PastB K H e c) (f : Fx H H') : ∀ e ∈ us, ∃ c, PastB K H' e c := fun e he => let ⟨c, h1⟩ := h e he; ⟨c, h1.fx f⟩
theorem StateAt.ext {b : Addr} {vv : V} {bs : List Addr} {m : Nat} (h : StateAt K z H x b vv bs m) (e : Ext H H') : StateAt K z H' x b vv bs m := by
  obtain ⟨dx, nn, a, u, ps, us, h1, h2, h3, h4, h5, h6⟩ := h
  exact ⟨dx, nn, a, u, ps, us, h1.ext e, sqT_fx h2 e.fx, pastsFx h3 e.fx, sqT_fx h4 e.fx, h5, undsFx h6 e.fx⟩
theorem StateAt.upFx {b : Addr} {vv : V} {bs : List Addr} {m : Nat} (h : StateAt K z H x b vv bs m) (e : Up x H H') : Fx H H' := by
  obtain ⟨dx, nn, a, u, ps, us, h1, _⟩ := h
  exact LP.upFx h1 e
/-- .. while a list is changed -/
theorem StateAt.lst {l : Addr} {xs : List V} {b : Addr} {vv : V} {bs : List Addr} {m : Nat} (h : StateAt K z H x b vv bs m) (hl : H l = some (.lst xs)) (e : Up l H H') : StateAt K z H' x b vv bs m := by
  obtain ⟨dx, nn, a, u, ps, us, h1, h2, h3, h4, h5, h6⟩ := h
  have f : Fx H H' := e.fx hl (by simp [Fixd])
  refine ⟨dx, nn, a, u, ps, us, ⟨e _ _ (fun q => ?_) h1.1, e _ _ (fun q => ?_) h1.2.1, h1.2.2⟩, sqT_fx h2 f, pastsFx h3 f, sqT_fx h4 f, h5, undsFx h6 f⟩
  · have q2 := h1.1
    rw [q, hl] at q2
    exact nomatch q2
  · have q2 := h1.2.1
    rw [q, hl] at q2
    exact nomatch q2
end
section
variable {P : Program} {w : World} {K : PySem.W.Frag} {mg : Str → Option Value} {base : Heap} {z : Ad}
/-- State(kept, past, undone) -/
def spState (K : PySem.W.Frag) (z : Ad) : Sp := fun vs H Q _ => ∃ x dx kt p v n a u, vs = [V.ref x, V.ref kt, a, u] ∧ H x = some (.ins z.cT dx []) ∧ dx ≠ x ∧ SqT K H kt [p, v, n] ∧ (∀ H', (∀ b o, b ≠ x → b ≠ dx → H b = some o → H' b = some o) → StV z H' x dx p v n a u → Q .non H')
theorem c_state (T : Txt K mg z) (D : Dmk K mg "State" z.cT "State.__init__" s_State_init) : Mak P w K mg base 1 "State" z.cT (spState K z) := by
  refine D.mak sc_State_init (fun _ _ _ _ _ _ us hl => match us, hl with | [_, _, _, _], _ => rfl) (fun vs H Q E ⟨x, dx, kt, p, v, n, a, u, h, _⟩ => by rw [h]; rfl) fun f cdv A outer s H vs Q E hr ⟨x, dx, kt, p, v, n, a, u, hv, hx, ne, hk, q⟩ => ⟨_, PSs.nox
    (pss_cons (ps_asg (pv 1) (pg_tup rfl (pgs_cons (pg_s T.sT1 (pv 0)) (pgs_cons (pg_s T.sT2 (pv 0)) (pgs_cons (pg_s T.sT3 (pv 0)) pgs_nil)))))
    (pss_cons (ps_s T.sT4 (pv 0) (pv 2))
    (pss_one (ps_s T.sT5 (pv 0) (pv 3))))), ?_⟩
  subst hv
  refine ⟨_, rfl, kt, _, rfl, hk, rfl, _, _, rfl, _, rfl, x, dx, [], rfl, .inl ⟨hx, rfl⟩, ?_⟩
  have k1 : ∀ b o, b ≠ x → b ≠ dx → H b = some o → SlX.slH H x z.cT dx (SlX.putS iP p []) b = some o := fun b o n1 n2 hb => by rw [SlX.slH_ne n1 n2]; exact hb
  refine ⟨_, _, rfl, _, rfl, x, dx, _, rfl, .inr ⟨slH_x, slH_dx ne⟩, ?_⟩
  rw [SlX.slH_twice ne]
  refine ⟨_, _, rfl, _, rfl, x, dx, _, rfl, .inr ⟨slH_x, slH_dx ne⟩, ?_⟩
  rw [SlX.slH_twice ne]
  refine ⟨rfl, ?_⟩
  refine ⟨_, rfl, _, rfl, x, dx, _, rfl, .inr ⟨slH_x, slH_dx ne⟩, ?_⟩
  rw [SlX.slH_twice ne]
  refine ⟨_, rfl, _, rfl, x, dx, _, rfl, .inr ⟨slH_x, slH_dx ne⟩, ?_⟩
  rw [SlX.slH_twice ne]
  exact q _ (fun b o n1 n2 hb => by rw [SlX.slH_ne n1 n2]; exact hb) ⟨slH_x, slH_dx ne, ne⟩
def spKept (K : PySem.W.Frag) (z : Ad) : Sp := fun vs H Q _ => ∃ x dx p v n a u, vs = [V.ref x] ∧ StV z H x dx p v n a u ∧ ∀ t H', Ext H H' → SqT K H' t [p, v, n] → Q (.ref t) H'
theorem c_kept (T : Txt K mg z) (D : DmS K z.cT "kept" "State.kept" s_State_kept) : MetS P w K mg base 1 z.cT "kept" (spKept K z) := by
  refine D.met sc_State_kept (fun _ _ _ _ _ _ us hl => match us, hl with | [_], _ => rfl) (fun vs H Q E ⟨x, dx, p, v, n, a, u, h, _⟩ => by rw [h]; rfl) fun f cdv A outer s H vs Q E hr ⟨x, dx, p, v, n, a, u, hv, hs, q⟩ => ⟨_, PSs.nox
    (pss_one (ps_ret (pe_tup (pa_cons (pe_s T.sT1 (pv 0)) (pa_cons (pe_s T.sT2 (pv 0)) (pa_cons (pe_s T.sT3 (pv 0)) pa_nil)))))), ?_⟩
  subst hv
  refine ⟨_, rfl, x, dx, _, _, rfl, hs.slt, rfl, _, rfl, x, dx, _, _, rfl, hs.slt, rfl, _, rfl, x, dx, _, _, rfl, hs.slt, rfl, by show 3 ≤ sizeLine; decide, fun t ht => ?_⟩
  exact q t _ (Ext.upd ht) SqT.new
/-- state.go_on(operation, kept) -/
def spOn (K : PySem.W.Frag) (z : Ad) : Sp := fun vs H Q _ => ∃ x op kt b vv bs m b2 vv2 nn2, vs = [V.ref x, op, V.ref kt] ∧ StateAt K z H x b vv bs m ∧ bs.length ≤ 1000 ∧ SqT K H kt [.ref b2, vv2, nn2] ∧ ∀ H', Up x H H' → StateAt K z H' x b2 vv2 (bs ++ [b]) 0 → Q .non H'
theorem c_on (T : Txt K mg z) (D : DmS K z.cT "go_on" "State.go_on" s_State_go_on) (CK : MetS P w K mg base 1 z.cT "kept" (spKept K z)) : MetS P w K mg base 2 z.cT "go_on" (spOn K z) := by
  refine D.met (k := 1) sc_State_go_on (fun _ _ _ _ _ _ us hl => match us, hl with | [_, _, _], _ => rfl) (fun vs H Q E ⟨x, op, kt, b, vv, bs, m, b2, vv2, nn2, h, _⟩ => by rw [h]; rfl) fun f cdv A outer s H vs Q E hr ⟨x, op, kt, b, vv, bs, m, b2, vv2, nn2, hv, hst, hz, hk, q⟩ => ⟨_, PSs.nox
    (pss_cons (ps_s T.sT4 (pv 0) (pe_tup (StX.pa_star (pe_s T.sT4 (pv 0)) (pa_cons (pe_tup (pa_cons (pv 1) (pa_cons (pe_ms0 CK hr (by decide) (pv 0)) pa_nil))) pa_nil))))
    (pss_cons (ps_s T.sT5 (pv 0) (pe_tup pa_nil))
    (pss_one (ps_asg (pv 2) (pg_tup rfl (pgs_cons (pg_s T.sT1 (pv 0)) (pgs_cons (pg_s T.sT2 (pv 0)) (pgs_cons (pg_s T.sT3 (pv 0)) pgs_nil)))))))), ?_⟩
  subst hv
  obtain ⟨dx, nn, a, u, ps, us, h1, h2, h3, h4, h5, h6⟩ := hst
  have hpl := Paired.len h3
  refine ⟨_, rfl, x, dx, _, _, rfl, h1.slt, rfl, a, ps, rfl, .inl h2, _, rfl, _, rfl, x, dx, _, rfl, h1.slt, x, dx, _, _, _, _, _, rfl, h1, fun t2 H1 e1 ht2 => ?_⟩
  refine ⟨by show 2 ≤ sizeLine; decide, fun t3 ht3 => ?_⟩
  have e2 := e1.trans (Ext.upd ht3 (o := .tup [op, .ref t2]))
  refine ⟨by rw [List.length_append]; exact le_line (by show _ + 1 ≤ _; omega), fun t4 ht4 => ?_⟩
  have e3 := e2.trans (Ext.upd ht4 (o := .tup (ps ++ [.ref t3])))
  have hpb : PastB K (L2.upd (L2.upd H1 t3 (.tup [op, .ref t2])) t4 (.tup (ps ++ [.ref t3]))) (.ref t3) b := ⟨t3, op, t2, vv, nn, rfl, sqT_fx SqT.new (Ext.upd ht4).fx, sqT_fx ht2 ((Ext.upd ht3).trans (Ext.upd ht4)).fx⟩
  have hsq : SqT K (L2.upd (L2.upd H1 t3 (.tup [op, .ref t2])) t4 (.tup (ps ++ [.ref t3]))) t4 (ps ++ [.ref t3]) := SqT.new
  have s3 := h1.ext e3
  refine ⟨_, rfl, x, dx, _, rfl, s3.slt, ?_⟩
  obtain ⟨G1, g1, u1, s4⟩ := s3.putA (.ref t4)
  rw [g1]
  refine ⟨by show 0 ≤ sizeLine; decide, fun t5 ht5 => ?_⟩
  have e5 := Ext.upd ht5 (o := .tup [])
  have s5 := s4.ext e5
  refine ⟨_, rfl, x, dx, _, rfl, s5.slt, ?_⟩
  obtain ⟨G2, g2, u2, s6⟩ := s5.putU (.ref t5)
  rw [g2]
  have f02 : Fx H G2 := (e3.fx.trans (upFx s3 u1)).trans (e5.fx.trans (upFx s5 u2))
  refine ⟨_, rfl, kt, _, rfl, sqT_fx hk f02, rfl, _, _, rfl, _, rfl, x, dx, _, rfl, s6.slt, ?_⟩
  obtain ⟨G3, g3, u3, s7⟩ := s6.putP (.ref b2)
  rw [g3]
  refine ⟨_, _, rfl, _, rfl, x, dx, _, rfl, s7.slt, ?_⟩
  obtain ⟨G4, g4, u4, s8⟩ := s7.putV vv2
  rw [g4]
  refine ⟨_, _, rfl, _, rfl, x, dx, _, rfl, s8.slt, ?_⟩
  obtain ⟨G5, g5, u5, s9⟩ := s8.putN nn2
  rw [g5]
  refine ⟨rfl, ?_⟩
  have uu2 : Up x H G2 := ((Up.ext e3).trans u1).trans ((Up.ext e5).trans u2)
  have uu5 : Up x G2 G5 := (u3.trans u4).trans u5
  have f25 := upFx s6 uu5
  have f35 := ((upFx s3 u1).trans (e5.fx.trans (upFx s5 u2))).trans f25
  refine q G5 (uu2.trans uu5) ⟨dx, nn2, t4, t5, ps ++ [.ref t3], [], s9, sqT_fx hsq f35, Paired.app (pastsFx (pastsFx h3 e3.fx) f35) (.cons (hpb.fx f35) .nil), sqT_fx SqT.new ((upFx s5 u2).trans f25), rfl, fun e he => by cases he⟩
/-- state.go_back() -/
def spBack (K : PySem.W.Frag) (z : Ad) : Sp := fun vs H Q _ => ∃ x b vv bs m c, vs = [V.ref x] ∧ StateAt K z H x b vv (bs ++ [c]) m ∧ m ≤ 1000 ∧ ∀ H' vv', Up x H H' → StateAt K z H' x c vv' bs (m + 1) → Q .non H'
theorem paired_last {α β : Type} {R : α → β → Prop} : ∀ {xs : List α} {ys : List β} {y : β}, Paired R xs (ys ++ [y]) → ∃ xs' x, xs = xs' ++ [x] ∧ Paired R xs' ys ∧ R x y
  | _, [], _, .cons r .nil => ⟨[], _, rfl, .nil, r⟩
  | _, b :: ys, _, .cons r t => by
    obtain ⟨xs', x, e, h1, h2⟩ := paired_last t
    exact ⟨_ :: xs', x, by rw [e]; rfl, .cons r h1, h2⟩
theorem c_back (T : Txt K mg z) (D : DmS K z.cT "go_back" "State.go_back" s_State_go_back) (CK : MetS P w K mg base 1 z.cT "kept" (spKept K z)) : MetS P w K mg base 2 z.cT "go_back" (spBack K z) := by
  refine D.met (k := 1) sc_State_go_back (fun _ _ _ _ _ _ us hl => match us, hl with | [_], _ => rfl) (fun vs H Q E ⟨x, b, vv, bs, m, c, h, _⟩ => by rw [h]; rfl) fun f cdv A outer s H vs Q E hr ⟨x, b, vv, bs, m, c, hv, hst, hz, q⟩ => ⟨_, PSs.nox
    (pss_cons (ps_asg (pe_ix ix_tup (pe_s T.sT4 (pv 0)) (pe_un un_neg pe_int) (fun _ _ => rfl)) (pg_tup rfl (pgs_cons (pg_name (i := 1) sc_State_go_back.nd rfl (Or.inl rfl)) (pgs_cons (pg_name (i := 2) sc_State_go_back.nd rfl (Or.inl rfl)) pgs_nil))))
    (pss_cons (ps_s T.sT5 (pv 0) (pe_tup (StX.pa_star (pe_s T.sT5 (pv 0)) (pa_cons (pe_tup (pa_cons (pv 1) (pa_cons (pe_ms0 CK hr (by decide) (pv 0)) pa_nil))) pa_nil))))
    (pss_cons (ps_s T.sT4 (pv 0) (pe_slice sl_tupA (pe_s T.sT4 (pv 0)) po_none (po_some (pe_un un_neg pe_int))))
    (pss_one (ps_asg (pv 2) (pg_tup rfl (pgs_cons (pg_s T.sT1 (pv 0)) (pgs_cons (pg_s T.sT2 (pv 0)) (pgs_cons (pg_s T.sT3 (pv 0)) pgs_nil))))))))), ?_⟩
  subst hv
  obtain ⟨dx, nn, a, u, ps, us, h1, h2, h3, h4, h5, h6⟩ := hst
  obtain ⟨ps', e0, rfl, h3', hpb⟩ := paired_last h3
  obtain ⟨t, op, t2, v', n', rfl, k1, k2⟩ := id hpb
  refine ⟨_, rfl, x, dx, _, _, rfl, h1.slt, rfl, _, rfl, a, _, _, _, rfl, rfl, h2, atI_last ps' _, t, _, rfl, k1, rfl, _, _, rfl, _, _, rfl, rfl, ?_⟩
  refine ⟨_, rfl, x, dx, _, _, rfl, h1.slt, rfl, u, us, rfl, .inl h4, _, rfl, _, rfl, x, dx, _, rfl, h1.slt, x, dx, _, _, _, _, _, rfl, h1, fun t3 H1 e1 ht3 => ?_⟩
  refine ⟨by show 2 ≤ sizeLine; decide, fun t4 ht4 => ?_⟩
  have e2 := e1.trans (Ext.upd ht4 (o := .tup [op, .ref t3]))
  refine ⟨by rw [List.length_append]; exact le_line (by show _ + 1 ≤ _; omega), fun t5 ht5 => ?_⟩
  have e3 := e2.trans (Ext.upd ht5 (o := .tup (us ++ [.ref t4])))
  have hpb2 : PastB K (L2.upd (L2.upd H1 t4 (.tup [op, .ref t3])) t5 (.tup (us ++ [.ref t4]))) (.ref t4) b := ⟨t4, op, t3, vv, nn, rfl, sqT_fx SqT.new (Ext.upd ht5).fx, sqT_fx ht3 ((Ext.upd ht4).trans (Ext.upd ht5)).fx⟩
  have hsq : SqT K (L2.upd (L2.upd H1 t4 (.tup [op, .ref t3])) t5 (.tup (us ++ [.ref t4]))) t5 (us ++ [.ref t4]) := SqT.new
  have s3 := h1.ext e3
  refine ⟨_, rfl, x, dx, _, rfl, s3.slt, ?_⟩
  obtain ⟨G1, g1, u1, s4⟩ := s3.putU (.ref t5)
  rw [g1]
  have f1 := upFx s3 u1
  refine ⟨_, rfl, x, dx, _, _, rfl, s4.slt, rfl, _, rfl, _, rfl, ?_⟩
  refine sl_ok (sqT_fx (sqT_fx h2 e3.fx) f1) fun t6 H2 e4 ht6 => ?_
  have ht6' : SqT K H2 t6 ps' := by
    have z := ht6
    rw [show (Neg.neg (1 : Int)) = -1 from rfl, cut_last] at z
    exact z
  have s5 := s4.ext e4
  refine ⟨_, rfl, x, dx, _, rfl, s5.slt, ?_⟩
  obtain ⟨G2, g2, u2, s6⟩ := s5.putA (.ref t6)
  rw [g2]
  have f2 := upFx s5 u2
  have f02 : Fx H G2 := (e3.fx.trans f1).trans (e4.fx.trans f2)
  refine ⟨_, rfl, t2, _, rfl, sqT_fx k2 f02, rfl, _, _, rfl, _, rfl, x, dx, _, rfl, s6.slt, ?_⟩
  obtain ⟨G3, g3, u3, s7⟩ := s6.putP (.ref c)
  rw [g3]
  refine ⟨_, _, rfl, _, rfl, x, dx, _, rfl, s7.slt, ?_⟩
  obtain ⟨G4, g4, u4, s8⟩ := s7.putV v'
  rw [g4]
  refine ⟨_, _, rfl, _, rfl, x, dx, _, rfl, s8.slt, ?_⟩
  obtain ⟨G5, g5, u5, s9⟩ := s8.putN n'
  rw [g5]
  refine ⟨rfl, ?_⟩
  have uu2 : Up x H G2 := ((Up.ext e3).trans u1).trans ((Up.ext e4).trans u2)
  have uu5 : Up x G2 G5 := (u3.trans u4).trans u5
  have f25 := upFx s6 uu5
  have f35 := (f1.trans (e4.fx.trans f2)).trans f25
  refine q G5 v' (uu2.trans uu5) ⟨dx, n', t6, t5, ps', us ++ [.ref t4], s9, sqT_fx ht6' (f2.trans f25), pastsFx h3' (f02.trans f25), sqT_fx hsq f35, by rw [List.length_append, h5] <;> rfl, fun e he => ?_⟩
  rcases List.mem_append.mp he with he | he
  · exact undsFx h6 (f02.trans f25) e he
  · rw [List.mem_singleton.mp he]
    exact ⟨b, hpb2.fx f35⟩
/-- state.go_again() -/
def spAgain (K : PySem.W.Frag) (z : Ad) : Sp := fun vs H Q _ => ∃ x b vv bs m, vs = [V.ref x] ∧ StateAt K z H x b vv bs (m + 1) ∧ bs.length ≤ 1000 ∧ ∀ H' c vv', Up x H H' → StateAt K z H' x c vv' (bs ++ [b]) m → Q .non H'
theorem c_again (T : Txt K mg z) (D : DmS K z.cT "go_again" "State.go_again" s_State_go_again) (CK : MetS P w K mg base 1 z.cT "kept" (spKept K z)) : MetS P w K mg base 2 z.cT "go_again" (spAgain K z) := by
  refine D.met (k := 1) sc_State_go_again (fun _ _ _ _ _ _ us hl => match us, hl with | [_], _ => rfl) (fun vs H Q E ⟨x, b, vv, bs, m, h, _⟩ => by rw [h]; rfl) fun f cdv A outer s H vs Q E hr ⟨x, b, vv, bs, m, hv, hst, hz, q⟩ => ⟨_, PSs.nox
    (pss_cons (ps_asg (pe_ix ix_tup (pe_s T.sT5 (pv 0)) (pe_un un_neg pe_int) (fun _ _ => rfl)) (pg_tup rfl (pgs_cons (pg_name (i := 1) sc_State_go_again.nd rfl (Or.inl rfl)) (pgs_cons (pg_name (i := 2) sc_State_go_again.nd rfl (Or.inl rfl)) pgs_nil))))
    (pss_cons (ps_s T.sT4 (pv 0) (pe_tup (StX.pa_star (pe_s T.sT4 (pv 0)) (pa_cons (pe_tup (pa_cons (pv 1) (pa_cons (pe_ms0 CK hr (by decide) (pv 0)) pa_nil))) pa_nil))))
    (pss_cons (ps_s T.sT5 (pv 0) (pe_slice sl_tupA (pe_s T.sT5 (pv 0)) po_none (po_some (pe_un un_neg pe_int))))
    (pss_one (ps_asg (pv 2) (pg_tup rfl (pgs_cons (pg_s T.sT1 (pv 0)) (pgs_cons (pg_s T.sT2 (pv 0)) (pgs_cons (pg_s T.sT3 (pv 0)) pgs_nil))))))))), ?_⟩
  subst hv
  obtain ⟨dx, nn, a, u, ps, us, h1, h2, h3, h4, h5, h6⟩ := hst
  have hpl := Paired.len h3
  obtain ⟨us', e0, rfl⟩ : ∃ us' e0, us = us' ++ [e0] := by
    rcases List.eq_nil_or_concat us with e | ⟨us', e0, e⟩
    · rw [e] at h5; cases h5
    · exact ⟨us', e0, by rw [e, List.concat_eq_append]⟩
  have hm : us'.length = m := by
    rw [List.length_append] at h5
    have : us'.length + 1 = m + 1 := h5
    omega
  obtain ⟨c, hpb⟩ := h6 e0 (List.mem_append_right _ List.mem_cons_self)
  obtain ⟨t, op, t2, v', n', rfl, k1, k2⟩ := id hpb
  refine ⟨_, rfl, x, dx, _, _, rfl, h1.slt, rfl, _, rfl, u, _, _, _, rfl, rfl, h4, atI_last us' _, t, _, rfl, k1, rfl, _, _, rfl, _, _, rfl, rfl, ?_⟩
  refine ⟨_, rfl, x, dx, _, _, rfl, h1.slt, rfl, a, ps, rfl, .inl h2, _, rfl, _, rfl, x, dx, _, rfl, h1.slt, x, dx, _, _, _, _, _, rfl, h1, fun t3 H1 e1 ht3 => ?_⟩
  refine ⟨by show 2 ≤ sizeLine; decide, fun t4 ht4 => ?_⟩
  have e2 := e1.trans (Ext.upd ht4 (o := .tup [op, .ref t3]))
  refine ⟨by rw [List.length_append]; exact le_line (by show _ + 1 ≤ _; omega), fun t5 ht5 => ?_⟩
  have e3 := e2.trans (Ext.upd ht5 (o := .tup (ps ++ [.ref t4])))
  have hpb2 : PastB K (L2.upd (L2.upd H1 t4 (.tup [op, .ref t3])) t5 (.tup (ps ++ [.ref t4]))) (.ref t4) b := ⟨t4, op, t3, vv, nn, rfl, sqT_fx SqT.new (Ext.upd ht5).fx, sqT_fx ht3 ((Ext.upd ht4).trans (Ext.upd ht5)).fx⟩
  have hsq : SqT K (L2.upd (L2.upd H1 t4 (.tup [op, .ref t3])) t5 (.tup (ps ++ [.ref t4]))) t5 (ps ++ [.ref t4]) := SqT.new
  have s3 := h1.ext e3
  refine ⟨_, rfl, x, dx, _, rfl, s3.slt, ?_⟩
  obtain ⟨G1, g1, u1, s4⟩ := s3.putA (.ref t5)
  rw [g1]
  have f1 := upFx s3 u1
  refine ⟨_, rfl, x, dx, _, _, rfl, s4.slt, rfl, _, rfl, _, rfl, ?_⟩
  refine sl_ok (sqT_fx (sqT_fx h4 e3.fx) f1) fun t6 H2 e4 ht6 => ?_
  have ht6' : SqT K H2 t6 us' := by
    have z := ht6
    rw [show (Neg.neg (1 : Int)) = -1 from rfl, cut_last] at z
    exact z
  have s5 := s4.ext e4
  refine ⟨_, rfl, x, dx, _, rfl, s5.slt, ?_⟩
  obtain ⟨G2, g2, u2, s6⟩ := s5.putU (.ref t6)
  rw [g2]
  have f2 := upFx s5 u2
  have f02 : Fx H G2 := (e3.fx.trans f1).trans (e4.fx.trans f2)
  refine ⟨_, rfl, t2, _, rfl, sqT_fx k2 f02, rfl, _, _, rfl, _, rfl, x, dx, _, rfl, s6.slt, ?_⟩
  obtain ⟨G3, g3, u3, s7⟩ := s6.putP (.ref c)
  rw [g3]
  refine ⟨_, _, rfl, _, rfl, x, dx, _, rfl, s7.slt, ?_⟩
  obtain ⟨G4, g4, u4, s8⟩ := s7.putV v'
  rw [g4]
  refine ⟨_, _, rfl, _, rfl, x, dx, _, rfl, s8.slt, ?_⟩
  obtain ⟨G5, g5, u5, s9⟩ := s8.putN n'
  rw [g5]
  refine ⟨rfl, ?_⟩
  have uu2 : Up x H G2 := ((Up.ext e3).trans u1).trans ((Up.ext e4).trans u2)
  have uu5 : Up x G2 G5 := (u3.trans u4).trans u5
  have f25 := upFx s6 uu5
  have f35 := (f1.trans (e4.fx.trans f2)).trans f25
  refine q G5 c v' (uu2.trans uu5) ⟨dx, n', t5, t6, ps ++ [.ref t4], us', s9, sqT_fx hsq f35, Paired.app (pastsFx h3 (f02.trans f25)) (.cons (hpb2.fx f35) .nil), sqT_fx ht6' (f2.trans f25), hm, fun e he => ?_⟩
  exact undsFx h6 (f02.trans f25) e (List.mem_append_left _ he)
end
end LP

end

section
set_option Elab.async false
set_option linter.all false
set_option maxRecDepth 100000
set_option maxHeartbeats 4000000
/-! Register: its making, stack, enter, edit. -/
namespace LP
open PySem PySem.Spec PyProof.Rows L2 LK LT LD LR
section
variable {X : Cx}
/-- name = {k: v for ..} on one line, the name a local -/
theorem ps_setDc {i : Nat} {y : Str} {py : Pos} {kx vx tg iter : Expr} {ifs : List Expr} {scope : Scope} {own : List (Str × Nat)} {pos spos : Pos} {wi : TI} {g : TG} {tt : TT} {tk tv : TE} (hc : X.calm = true) (hN : X.N.Nodup) (hy : X.N[i]? = some y) (hyl : X.env.scope.names.lookup y = some .local)
    (hsw : swapsWith (.DictComp kx vx [⟨tg, iter, ifs, 0⟩] scope pos) (some (.Name y py)) spos.line X.env = pure true) (hi : PI X tg iter wi) (ok : BlkOk X.N X.env.scope scope own)
    (hg : ∀ (s : Shared) (H : Hp) (C : Addr) (cl : List (Str × Addr)) (fp : List Addr), PG (X.blk s H scope (compEnvC scope cl C X.env) fp) tg g) (ht : ∀ (s : Shared) (H : Hp) (C : Addr) (cl : List (Str × Addr)) (fp : List Addr), PTs (X.blk s H scope (compEnvC scope cl C X.env) fp) ifs tt)
    (hk : ∀ (s : Shared) (H : Hp) (C : Addr) (cl : List (Str × Addr)) (fp : List Addr), PE (X.blk s H scope (compEnvC scope cl C X.env) fp) kx tk)
    (he : ∀ (s : Shared) (H : Hp) (C : Addr) (cl : List (Str × Addr)) (fp : List Addr), PE (X.blk s H scope (compEnvC scope cl C X.env) fp) vx tv) (hs : ∀ x, foldedSetIterable iter X.env x = pure x := by intro _; rfl) :
    PS X (.Assign [.Name y py] (.DictComp kx vx [⟨tg, iter, ifs, 0⟩] scope pos) spos) (tAsg (tDc wi g tt tk tv (own.map (·.2))) (gName i)) := by
  refine ⟨fun pins s σ H D I h => ?_⟩
  rw [exec_Assign_Name_used _ _ _ _ hsw]
  refine wpAny_bind (wpAny_standAt (wpAny_bind ?_))
  show wpAny _ X.A (do let _ ← comprehension (.DictComp kx vx [⟨tg, iter, ifs, 0⟩] scope pos) scope X.env (firstIterPos [⟨tg, iter, ifs, 0⟩] pos) newDict false (eval iter X.env) (some (assign (.Name y py) X.env))) _ _ s
  have h : tDc wi g tt tk tv (own.map (·.2)) σ H (fun x H1 => gName i x σ H1 D.nx) := h
  refine wpAny_bind (thn (dc_core (Qf := fun _ s' => SP X pins D .next s') hc hN I hi ok hg ht hk he hs h fun L C s' m H' I' q hn f => ?_) fun _ s' hq => wpAny_pure (wpAny_pure hq))
  show wpAny _ _ (assign (.Name y py) X.env (.ref L)) _ _ _
  refine wpAny_assign_Name (store_ok2 (v := V.ref L) I' hN hy (.inl hyl) rfl (fun s2 I2 ⟨a, sb, ha⟩ => ?_) (.inr hyl))
  obtain ⟨f0, f1, f2, f3, f4, f5⟩ := f
  have haC : C ≠ a := by
    rcases ha with z | z
    · rw [z]; exact f1
    · exact fun e => f4 y a z e.symm
  refine ⟨m, hn.sameBut sb haC, fun h3 sb3 => ?_⟩
  exact ⟨_, H', I2.turned (t' := s2.toks) (fun b o hb e => (sb3.2 b hb).trans e) f0 f1 f3 f4 f5, q⟩
theorem sw_trueD {kx vx : Expr} {gs : List Comprehension} {scope : Scope} {pos py : Pos} {y : Str} {l : Nat} {env : Env} (hk : env.scope.kind = .function) (hy : env.scope.names.lookup y = some .local) (hl : (py.line == pos.line) = true)
    (ha : (scope.names.any fun (n, k) => n == y && (k == .local || k == .cell)) = false) : swapsWith (.DictComp kx vx gs scope pos) (some (.Name y py)) l env = pure true := by
  have ky : env.kindOf y = some .local := hy
  have hb : env.blockKind = .function := by unfold Env.blockKind; rw [hk]; rfl
  unfold swapsWith
  simp only [hb, ky, ha, Expr.pos, hl]
  rfl
end
section
variable (K : PySem.W.Frag) (z : Ad)
/-- the register at g, its state at x, b its present stack, bs the stacks before, m undone ones -/
def DeskAt (H : Hp) (g x b : Addr) (vv : V) (bs : List Addr) (m : Nat) : Prop := (∃ dg, H g = some (.ins z.cG dg [("state", .ref x)])) ∧ StateAt K z H x b vv bs m
/-- a promise of nothing known -/
def VowOk (H : Hp) (es : List Ent) (v : V) : Prop := ∃ t k, v = .ref t ∧ SqT K H t [.ref k, .str (whereS es)] ∧ H k = some (.dK [])
end
section
variable {K : PySem.W.Frag} {z : Ad} {H H' : Hp} {g x b : Addr} {vv : V} {bs : List Addr} {m : Nat}
theorem DeskAt.ext (h : DeskAt K z H g x b vv bs m) (e : Ext H H') : DeskAt K z H' g x b vv bs m := ⟨let ⟨dg, h1⟩ := h.1; ⟨dg, e _ _ h1⟩, h.2.ext e⟩
theorem DeskAt.lst {l : Addr} {xs : List V} (h : DeskAt K z H g x b vv bs m) (hl : H l = some (.lst xs)) (e : Up l H H') : DeskAt K z H' g x b vv bs m := by
  obtain ⟨⟨dg, h1⟩, h2⟩ := h
  refine ⟨⟨dg, e _ _ (fun q => ?_) h1⟩, h2.lst hl e⟩
  rw [q, hl] at h1
  exact nomatch h1
theorem DeskAt.fx (h : DeskAt K z H g x b vv bs m) (e : Up x H H') : Fx H H' := h.2.upFx e
/-- with the state changed -/
theorem DeskAt.turn {b2 : Addr} {vv2 : V} {bs2 : List Addr} {m2 : Nat} (h : DeskAt K z H g x b vv bs m) (e : Up x H H') (s : StateAt K z H' x b2 vv2 bs2 m2) : DeskAt K z H' g x b2 vv2 bs2 m2 := by
  obtain ⟨⟨dg, h1⟩, h2⟩ := h
  exact ⟨⟨dg, h2.upFx e _ _ h1 trivial⟩, s⟩
/-- a list stays while the state changes -/
theorem DeskAt.keepL {l : Addr} {xs : List V} (h : DeskAt K z H g x b vv bs m) (e : Up x H H') (hl : H l = some (.lst xs)) : H' l = some (.lst xs) := by
  obtain ⟨_, dx, nn, a, u, ps, us, h1, _⟩ := h
  exact e _ _ (ne_of hl h1.1 (fun q => nomatch q)) hl
theorem OutsAt.ext {l : Addr} {es : List Ent} (h : OutsAt K H l es) (e : Ext H H') : OutsAt K H' l es := let ⟨vs, h1, h2⟩ := h; ⟨vs, e _ _ h1, Paired.imp (fun _ _ h => OutV.fx h e.fx) h2⟩
theorem VowOk.ext {es : List Ent} {v : V} (h : VowOk K H es v) (e : Ext H H') : VowOk K H' es v := let ⟨t, k, h1, h2, h3⟩ := h; ⟨t, k, h1, sqT_fx h2 e.fx, e _ _ h3⟩
end
section
variable {P : Program} {w : World} {K : PySem.W.Frag} {mg : Str → Option Value} {base : Heap} {z : Ad}
def spReg (K : PySem.W.Frag) (z : Ad) : Sp := fun vs H Q _ => ∃ g dg b, vs = [V.ref g, V.ref b] ∧ H g = some (.ins z.cG dg []) ∧ ∀ H' x vt, Up g H H' → DeskAt K z H' g x b (.ref vt) [] 0 → SqT K H' vt [] → Q .non H'
theorem c_register (T : Txt K mg z) (D : Dmk K mg "Register" z.cG "Register.__init__" s_Register_init) (CS : Mak P w K mg base 1 "State" z.cT (spState K z)) : Mak P w K mg base 3 "Register" z.cG (spReg K z) := by
  refine D.mak (k := 2) sc_Register_init (fun _ _ _ _ _ _ us hl => match us, hl with | [_, _], _ => rfl) (fun vs H Q E ⟨g, dg, b, h, _⟩ => by rw [h]; rfl) fun f cdv A outer s H vs Q E hr ⟨g, dg, b, hv, hg, q⟩ => ⟨_, PSs.nox
    (pss_one (ps_f T.fG1 (pv 0) (pe_mk CS hr (by decide) rfl (pa_cons (pe_tup (pa_cons (pv 1) (pa_cons (pe_tup pa_nil) (pa_cons pe_dnewK pa_nil)))) (pa_cons (pe_tup pa_nil) (pa_cons (pe_tup pa_nil) pa_nil)))))), ?_⟩
  subst hv
  refine ⟨_, rfl, by show 0 ≤ sizeLine; decide, fun t1 ht1 => fun d hd => ⟨by show 3 ≤ sizeLine; decide, fun t2 ht2 => ⟨by show 0 ≤ sizeLine; decide, fun t3 ht3 => ⟨by show 0 ≤ sizeLine; decide, fun t4 ht4 => fun x dx hx hdx ne => ?_⟩⟩⟩⟩
  have e1 := Ext.upd ht1 (o := .tup [])
  have e2 := Ext.upd' e1 hd (o := .dK [])
  have e3 := Ext.upd' e2 ht2 (o := .tup [.ref b, .ref t1, .ref d])
  have e4 := Ext.upd' e3 ht3 (o := .tup [])
  have e5 := Ext.upd' e4 ht4 (o := .tup [])
  have hg5 := e5 _ _ hg
  have ngx : g ≠ x := ne_of_none hg5 hx
  have x6 := Ext.upd hdx (o := .own x)
  have x7 := Ext.upd' x6 (o := .ins z.cT dx []) (by rw [upd_ne ne.symm]; exact hx)
  have sq2 : SqT K (L2.upd (L2.upd (L2.upd (L2.upd (L2.upd H t1 (.tup [])) d (.dK [])) t2 (.tup [.ref b, .ref t1, .ref d])) t3 (.tup [])) t4 (.tup [])) t2 [.ref b, .ref t1, .ref d] := sqT_fx (sqT_fx SqT.new (Ext.upd ht3).fx) (Ext.upd ht4).fx
  have sq1 : SqT K (L2.upd (L2.upd (L2.upd (L2.upd (L2.upd H t1 (.tup [])) d (.dK [])) t2 (.tup [.ref b, .ref t1, .ref d])) t3 (.tup [])) t4 (.tup [])) t1 [] := sqT_fx (sqT_fx (sqT_fx (sqT_fx SqT.new (Ext.upd hd).fx) (Ext.upd ht2).fx) (Ext.upd ht3).fx) (Ext.upd ht4).fx
  have sq3 : SqT K (L2.upd (L2.upd (L2.upd (L2.upd (L2.upd H t1 (.tup [])) d (.dK [])) t2 (.tup [.ref b, .ref t1, .ref d])) t3 (.tup [])) t4 (.tup [])) t3 [] := sqT_fx SqT.new (Ext.upd ht4).fx
  have sq4 : SqT K (L2.upd (L2.upd (L2.upd (L2.upd (L2.upd H t1 (.tup [])) d (.dK [])) t2 (.tup [.ref b, .ref t1, .ref d])) t3 (.tup [])) t4 (.tup [])) t4 [] := SqT.new
  refine ⟨x, dx, t2, _, _, _, _, _, rfl, upd_same, ne, sqT_fx sq2 x7.fx, fun H' k hs => ⟨rfl, ?_⟩⟩
  have eH : Ext (L2.upd (L2.upd (L2.upd (L2.upd (L2.upd H t1 (.tup [])) d (.dK [])) t2 (.tup [.ref b, .ref t1, .ref d])) t3 (.tup [])) t4 (.tup [])) H' := fun c o hc => k c o (ne_of_none hc hx) (ne_of_none hc hdx) (x7 _ _ hc)
  have hgH := eH _ _ hg5
  refine ⟨_, rfl, g, dg, [], rfl, hgH, by decide, ?_⟩
  have f9 : ∀ {t xs}, SqT K H' t xs → SqT K (L2.upd H' g (.ins z.cG dg (putF "state" (V.ref x) []))) t xs := fun h => sqT_up h Up.upd hgH
  have ngd : g ≠ dx := fun q => by rw [q, hs.2.1] at hgH; exact nomatch hgH
  refine q _ x t1 ((Up.ext (e5.trans eH)).trans Up.upd) ⟨⟨dg, upd_same⟩, dx, .ref d, t3, t4, [], [], ⟨?_, ?_, hs.2.2⟩, f9 (sqT_fx sq3 eH.fx), .nil, f9 (sqT_fx sq4 eH.fx), rfl, fun e he => by cases he⟩ (f9 (sqT_fx sq1 eH.fx))
  · rw [upd_ne ngx.symm]; exact hs.1
  · rw [upd_ne ngd.symm]; exact hs.2.1
def spStackM (K : PySem.W.Frag) (z : Ad) : Sp := fun vs H Q _ => ∃ g x b vv bs m, vs = [V.ref g] ∧ DeskAt K z H g x b vv bs m ∧ Q (.ref b) H
theorem c_stackM (T : Txt K mg z) (D : Dme K z.cG "stack" "Register.stack" s_Register_stack) : Met P w K mg base 1 z.cG "stack" (spStackM K z) := by
  refine D.met sc_Register_stack (fun _ _ _ _ _ _ us hl => match us, hl with | [_], _ => rfl) (fun vs H Q E ⟨g, x, b, vv, bs, m, h, _⟩ => by rw [h]; rfl) fun f cdv A outer s H vs Q E hr ⟨g, x, b, vv, bs, m, hv, ⟨⟨dg, hg⟩, dx, nn, a, u, ps, us, h1, _⟩, q⟩ => ⟨_, PSs.nox
    (pss_one (ps_ret (pe_s T.sT1 (pe_f T.fG1 (pv 0))))), ?_⟩
  subst hv
  exact ⟨_, rfl, g, dg, _, _, rfl, hg, rfl, x, dx, _, _, rfl, h1.slt, rfl, q⟩
/-- self.enter(operation, present, vows, noted) -/
def spEnter (K : PySem.W.Frag) (z : Ad) : Sp := fun vs H Q _ => ∃ g x op b vv bs m b2 vt2 n2 d es2 vws, vs = [V.ref g, op, V.ref b2, V.ref vt2, n2] ∧ DeskAt K z H g x b vv bs m ∧ bs.length ≤ 1000 ∧ StkAt K z d H b2 es2 ∧ d ≤ 3 ∧ Fits es2 ∧ SqT K H vt2 vws ∧ (∀ v ∈ vws, VowOk K H es2 v) ∧
  ∀ H', Up x H H' → DeskAt K z H' g x b2 (.ref vt2) (bs ++ [b]) 0 → Q .non H'
theorem c_enter (T : Txt K mg z) (D : Dme K z.cG "enter" "Register.enter" s_Register_enter) (CO : Cal P w K mg base 9 "outcomes" (spOuts K z)) (CW : Cal P w K mg base 2 "where_all" (spWhere K)) (CM : Get P w K mg base 1 z.cS "modules" (spModsG K z)) (CG : MetS P w K mg base 2 z.cT "go_on" (spOn K z)) : Met P w K mg base 10 z.cG "enter" (spEnter K z) := by
  refine D.met (k := 9) sc_Register_enter (fun _ _ _ _ _ _ us hl => match us, hl with | [_, _, _, _, _], _ => rfl) (fun vs H Q E ⟨g, x, op, b, vv, bs, m, b2, vt2, n2, d, es2, vws, h, _⟩ => by rw [h]; rfl) fun f cdv A outer s H vs Q E hr ⟨g, x, op, b, vv, bs, m, b2, vt2, n2, d, es2, vws, hv, hdk, hz, hb2, hd, hf, hvt, hvw, q⟩ => ⟨_, PSs.nox
    (pss_cons (ps_set (i := 5) sc_Register_enter.nd rfl (Or.inl rfl) (pe_c CO hr (by decide) rfl (pa_cons (pv 2) pa_nil)))
    (pss_cons (ps_for PassesOwn.never rfl (LKW.pi_enumT rfl T.f_enumerate (pa_cons (pv 3) pa_nil)) (pg_tup rfl (pgs_cons (pg_name (i := 6) sc_Register_enter.nd rfl (Or.inl rfl)) (pgs_cons (pg_tup rfl (pgs_cons (pg_name (i := 7) sc_Register_enter.nd rfl (Or.inl rfl)) (pgs_cons (pg_name (i := 8) sc_Register_enter.nd rfl (Or.inl rfl)) pgs_nil))) pgs_nil)))
      (pss_cons (ps_lock (ps_setDc (i := 9) (own := [("name", 10), ("result", 11)]) (g := gTup K 2 (gCons (gName 10) (gCons (gName 11) gNil))) (tt := tTest (tOp (rIn K false) (tVar 10) (tProp z.cS (spModsG K z) [] E0 (tVar 2)))) rfl sc_Register_enter.nd rfl rfl (sw_trueD rfl rfl rfl (by decide +kernel)) (pi_items (pv 7)) (blkOk_by (N := ["self", "operation", "present", "vows", "noted", "rows", "index", "known", "word", "here", "name", "result"]) (sc := defScope s_Register_enter) (by decide +kernel))
          (fun _ _ _ _ _ => pg_tup rfl (pgs_cons (pg_name (i := 10) sc_Register_enter.nd rfl (Or.inl rfl)) (pgs_cons (pg_name (i := 11) sc_Register_enter.nd rfl (Or.inl rfl)) pgs_nil)))
          (fun _ _ _ _ _ => pts_one (pt_cmpR op_in_seq (pv 10) (pe_p CM hr (by decide) (pv 2)) (by rfl)))
          (fun _ _ _ _ _ => pv 10) (fun _ _ _ _ _ => pv 11)))
      (pss_one (ps_if (pt_cmpR op_ne (pe_c CW hr (by decide) rfl (pa_cons (pv 5) (pa_cons (pv 9) pa_nil))) (pv 8) (nomark _)) (pss_one ps_never) pss_nil))))
    (pss_one (ps_expr (pe_ms CG hr (by decide) (pe_f T.fG1 (pv 0)) (pa_cons (pv 1) (pa_cons (pe_tup (pa_cons (pv 2) (pa_cons (pv 3) (pa_cons (pv 4) pa_nil)))) pa_nil))))))), ?_⟩
  subst hv
  refine ⟨_, rfl, b2, d, es2, rfl, hb2, hd, hf.1, hf.2, fun l H1 e1 ho => ?_⟩
  refine ⟨_, rfl, vt2, vws, rfl, sqT_fx hvt e1.fx, ?_⟩
  refine LKW.for_enumT (xs := vws) (fun i σ G => ∃ x6 x7 x8 x9 x10 x11, σ = [some (V.ref g), some op, some (V.ref b2), some (V.ref vt2), some n2, some (V.ref l), x6, x7, x8, x9, x10, x11] ∧ Ext H1 G) ⟨none, none, none, none, none, none, rfl, Ext.rfl'⟩ ?_ ?_ ?_
  · rintro i σ G ⟨x6, x7, x8, x9, x10, x11, rfl, e⟩
    exact sqT_fx hvt (e1.trans e).fx
  · rintro i v Tp σ G hx ⟨x6, x7, x8, x9, x10, x11, rfl, e⟩ hTp
    have e2 := e.trans (Ext.upd hTp (o := .tup [.int (i : Nat), v]))
    obtain ⟨t, k, rfl, ht, hk⟩ := (hvw v (List.mem_of_getElem? hx)).ext (e1.trans e2)
    refine ⟨Tp, _, rfl, SqT.new, rfl, _, _, rfl, _, _, rfl, ⟨t, _, rfl, ht, rfl, _, _, rfl, _, _, rfl, rfl, rfl, ?_⟩⟩
    refine ⟨k, _, hk, trivial, fun od => ?_⟩
    refine ⟨_, rfl, k, od, [], rfl, upd_same, fun Dd hDd => ?_⟩
    have nDk : Dd ≠ k := fun q => by rw [q, upd_same] at hDd; cases hDd
    refine ⟨fun i' m' G' => i' = 0 ∧ G' = L2.upd (L2.upd (L2.upd G Tp (.tup [.int (i : Nat), .ref t])) k (.frz od (.dK []))) Dd (.dK []), ⟨0, rfl, rfl⟩, ?_⟩
    rintro i' m' G' ⟨rfl, rfl⟩
    have hkk : L2.upd (L2.upd (L2.upd G Tp (.tup [.int (i : Nat), .ref t])) k (.frz od (.dK []))) Dd (.dK []) k = some (.frz od (.dK [])) := by rw [upd_ne nDk.symm]; exact upd_same
    refine .inl ⟨⟨hkk, Nat.le_refl _⟩, hkk, ?_⟩
    have e3 := unlock_ext (o := od) hk (Ext.upd hDd (o := .dK []))
    have e4 := e2.trans e3
    have hD4 : L2.upd (L2.upd (L2.upd (L2.upd G Tp (.tup [.int (i : Nat), .ref t])) k (.frz od (.dK []))) Dd (.dK [])) k (.dK []) Dd = some (.dK []) := by rw [upd_ne nDk]; exact upd_same
    refine ⟨_, rfl, _, rfl, l, Dd, es2, rfl, ho.ext e4, hD4, fun G2 e5 => ⟨_, rfl, rfl, _, rfl, ?_⟩⟩
    rw [decide_eq_true rfl]
    exact iteF ⟨_, _, _, _, _, _, rfl, e4.trans e5⟩
  · rintro σ G ⟨x6, x7, x8, x9, x10, x11, rfl, e⟩
    have e2 := e1.trans e
    have hdk2 := hdk.ext e2
    obtain ⟨⟨dg, hg⟩, dx, nn, a, u, ps, us, hs, _⟩ := id hdk2
    refine ⟨_, rfl, g, dg, _, _, rfl, hg, rfl, x, dx, _, rfl, hs.slt, _, rfl, _, rfl, _, rfl, _, rfl, by show 3 ≤ sizeLine; decide, fun t ht => ?_⟩
    have e3 := Ext.upd ht (o := .tup [.ref b2, .ref vt2, n2])
    have hdk3 := hdk2.ext e3
    refine ⟨x, op, t, b, vv, bs, m, b2, .ref vt2, n2, rfl, hdk3.2, hz, SqT.new, fun H' u' hs' => ?_⟩
    exact q H' ((Up.ext (e2.trans e3)).trans u') (hdk3.turn u' hs')
/-- self.edit(operation, later) -/
def Chg (K : PySem.W.Frag) (z : Ad) (H : Hp) (g x b vt : Addr) (bs : List Addr) (d : Nat) (es es2 : List Ent) (Q : VK) : Prop := ∀ H' b2, Up x H H' → DeskAt K z H' g x b2 (.ref vt) (bs ++ [b]) 0 → SqT K H' vt [] → StkAt K z d H' b2 es2 → Q (.int ((diff es es2 : Nat) : Int)) H'
def spEdit (K : PySem.W.Frag) (z : Ad) : Sp := fun vs H Q _ => ∃ g x op b vt bs m d d' es es2 b2, vs = [V.ref g, op, V.ref b2] ∧ DeskAt K z H g x b (.ref vt) bs m ∧ bs.length ≤ 1000 ∧ SqT K H vt [] ∧ StkAt K z d H b es ∧ StkAt K z d' H b2 es2 ∧ d ≤ 3 ∧ d' ≤ 3 ∧ Fits es ∧ Fits es2 ∧ Chg K z H g x b vt bs d' es es2 Q
theorem c_edit (T : Txt K mg z) (D : Dme K z.cG "edit" "Register.edit" s_Register_edit) (CB : Cal P w K mg base 9 "both_outcomes" (spBoth K z)) (CE : Met P w K mg base 10 z.cG "enter" (spEnter K z)) : Met P w K mg base 11 z.cG "edit" (spEdit K z) := by
  refine D.met (k := 10) sc_Register_edit (fun _ _ _ _ _ _ us hl => match us, hl with | [_, _, _], _ => rfl) (fun vs H Q E ⟨g, x, op, b, vt, bs, m, d, d', es, es2, b2, h, _⟩ => by rw [h]; rfl) fun f cdv A outer s H vs Q E hr ⟨g, x, op, b, vt, bs, m, d, d', es, es2, b2, hv, hdk, hz, hvt, hb, hb2, hd, hd', hf, hf2, q⟩ => ⟨_, PSs.nox
    (pss_cons (ps_set (i := 3) sc_Register_edit.nd rfl (Or.inl rfl) (pe_c CB hr (by decide) rfl (pa_cons (pe_s T.sT1 (pe_f T.fG1 (pv 0))) (pa_cons (pv 2) pa_nil))))
    (pss_cons (ps_expr (pe_mt CE hr (by decide) (pv 0) (pa_cons (pv 1) (pa_cons (pv 2) (pa_cons (pe_s T.sT2 (pe_f T.fG1 (pv 0))) (pa_cons (pe_s T.sT3 (pe_f T.fG1 (pv 0))) pa_nil))))))
    (pss_one (ps_ret (pe_callB call_len (by rfl) T.f_len boot_len (pa_cons
      (pe_lc (own := [("answers", 4), ("here", 5), ("there", 6)]) (g := gTup K 3 (gCons (gName 4) (gCons (gName 5) (gCons (gName 6) gNil)))) (tt := tTest (tOp rNe (tVar 5) (tVar 6))) rfl sc_Register_edit.nd (pi_list (pv 3)) (blkOk_by (N := ["self", "operation", "later", "rows", "answers", "here", "there"]) (sc := defScope s_Register_edit) (by decide +kernel))
        (fun _ _ _ _ _ => pg_tup rfl (pgs_cons (pg_name (i := 4) sc_Register_edit.nd rfl (Or.inl rfl)) (pgs_cons (pg_name (i := 5) sc_Register_edit.nd rfl (Or.inl rfl)) (pgs_cons (pg_name (i := 6) sc_Register_edit.nd rfl (Or.inl rfl)) pgs_nil))))
        (fun _ _ _ _ _ => pts_one (pt_cmpR op_ne (pv 5) (pv 6) (nomark _)))
        (fun _ _ _ _ _ => pv 4)) pa_nil)))))), ?_⟩
  subst hv
  obtain ⟨⟨dg, hg⟩, dx, nn, a, u, ps, us, hs, _⟩ := id hdk
  refine ⟨_, rfl, g, dg, _, _, rfl, hg, rfl, x, dx, _, _, rfl, hs.slt, rfl, _, rfl, b, b2, d, d', es, es2, rfl, hb, hb2, hd, hd', hf, hf2, fun l H1 e1 ⟨vs, hvs, hp⟩ => ?_⟩
  have hs1 := hs.ext e1
  have hdk1 := hdk.ext e1
  refine ⟨_, rfl, g, dg, _, rfl, e1 _ _ hg, rfl, _, rfl, _, rfl, _, rfl, g, dg, _, _, rfl, e1 _ _ hg, rfl, x, dx, _, _, rfl, hs1.slt, rfl, _, rfl, g, dg, _, _, rfl, e1 _ _ hg, rfl, x, dx, _, _, rfl, hs1.slt, rfl, ?_⟩
  refine ⟨g, x, op, b, .ref vt, bs, m, b2, vt, nn, d', es2, [], rfl, hdk1, hz, hb2.fx e1.fx, hd', hf2, sqT_fx hvt e1.fx, (fun v h => by cases h), fun H2 u2 hdk2 => ?_⟩
  have f2 := hdk1.fx u2
  have hvs2 := hdk1.keepL u2 hvs
  have hln := Paired.len hp
  have h64 := rowsOf_le (modsU_le es es2)
  refine ⟨_, rfl, l, rfl, ⟨vs, SqL.of hvs2⟩, fun Dl hDl => ?_⟩
  refine lc_list (xs := vs) (fun j G => Ext H2 G ∧ ∃ as, G Dl = some (.lst as) ∧ as.length = (((rowsOf (modsU es es2)).take j).filter fun r => decide (out es (look r) ≠ out es2 (look r))).length) ⟨Ext.upd hDl, [], upd_same, by rw [List.take_zero] <;> rfl⟩ (fun j G _ ⟨e, _⟩ => SqL.of (e _ _ hvs2)) (fun j v G hx ⟨e, as, has, hal⟩ => ?_) fun G ⟨e, as, has, hal⟩ => ?_
  · have hj : j < (rowsOf (modsU es es2)).length := by rw [← hln]; exact (List.getElem?_eq_some_iff.mp hx).1
    have hr' := List.getElem?_eq_getElem hj
    obtain ⟨t, a', rfl, ht⟩ := Paired.get' hp hx hr'
    have ht2 := sqT_fx (sqT_fx ht f2) e.fx
    have hal2 : as.length ≤ 64 := by
      rw [hal]
      exact Nat.le_trans (List.length_filter_le _ _) (by rw [List.length_take]; omega)
    have step : (((rowsOf (modsU es es2)).take (j + 1)).filter fun r => decide (out es (look r) ≠ out es2 (look r))).length = (((rowsOf (modsU es es2)).take j).filter fun r => decide (out es (look r) ≠ out es2 (look r))).length + if out es (look (rowsOf (modsU es es2))[j]) = out es2 (look (rowsOf (modsU es es2))[j]) then 0 else 1 := by
      rw [List.take_add_one, hr', List.filter_append, List.length_append]
      congr 1
      show (List.filter _ [_]).length = _
      by_cases ho : out es (look (rowsOf (modsU es es2))[j]) = out es2 (look (rowsOf (modsU es es2))[j])
      · rw [if_pos ho, List.filter_cons_of_neg (by simp [ho])] <;> rfl
      · rw [if_neg ho, List.filter_cons_of_pos (by simp [ho])] <;> rfl
    refine ⟨t, _, rfl, ht2, rfl, _, _, rfl, _, _, rfl, _, _, rfl, rfl, rfl, ?_⟩
    refine ⟨_, rfl, _, rfl, rfl, _, rfl, ?_⟩
    by_cases ho : out es (look (rowsOf (modsU es es2))[j]) = out es2 (look (rowsOf (modsU es es2))[j])
    · rw [if_pos ho] at step
      rw [ho, decide_eq_true rfl]
      exact iteF ⟨e, as, has, by rw [step]; exact hal⟩
    · rw [if_neg ho] at step
      rw [show decide (V.str (inS (out es (look (rowsOf (modsU es es2))[j]))) = V.str (inS (out es2 (look (rowsOf (modsU es es2))[j])))) = false from decide_eq_false fun e => ho (inS_inj.1 (V.str.inj e))]
      refine iteT ⟨_, rfl, as, has, lt_line (by omega), fun a0 o0 h0 => ?_, _, upd_same, by rw [step, List.length_append, hal] <;> rfl⟩
      rw [upd_ne (fun e' => by subst e'; rw [hDl] at h0; cases h0)]
      exact e _ _ h0
  · rw [hln, List.take_length] at hal
    refine ⟨_, _, rfl, .inl ⟨as, SqL.of has, rfl⟩, ?_⟩
    rw [hal]
    exact q G b2 ((Up.ext e1).trans (u2.trans (Up.ext e))) (hdk2.ext e) (sqT_fx (sqT_fx (sqT_fx hvt e1.fx) f2) e.fx) (((hb2.fx e1.fx).fx f2).fx e.fx)
end
end LP

end

section
set_option Elab.async false
set_option linter.all false
set_option maxRecDepth 100000
set_option maxHeartbeats 4000000
/-! Register: need_entries, put, take, swap, turn, promise, undo, redo. -/
namespace LP
open PySem PySem.Spec PyProof.Rows L2 LK LT LD LR
section
variable {P : Program} {w : World} {K : PySem.W.Frag} {mg : Str → Option Value} {base : Heap} {z : Ad}
theorem Chg.of {H H1 : Hp} {g x b vt : Addr} {bs : List Addr} {d : Nat} {es es2 : List Ent} {Q : VK} (c : Chg K z H g x b vt bs d es es2 Q) (e : Ext H H1) : Chg K z H1 g x b vt bs d es es2 Q := fun H' b2 u => c H' b2 ((Up.ext e).trans u)
def spNeedE (K : PySem.W.Frag) (z : Ad) : Sp := fun vs H Q _ => ∃ g x b vv bs m d es i c, vs = [V.ref g, V.int ((i : Nat) : Int), V.int ((c : Nat) : Int)] ∧ DeskAt K z H g x b vv bs m ∧ StkAt K z d H b es ∧ es.length ≤ 12 ∧ i + c ≤ es.length ∧ Q .non H
theorem c_needE (T : Txt K mg z) (D : Dme K z.cG "need_entries" "Register.need_entries" s_Register_need_entries) (CN : Cal P w K mg base 1 "is_number" spNumber) (CL : Dun P w K mg base 1 z.cS "__len__" (spLenS K z)) : Met P w K mg base 3 z.cG "need_entries" (spNeedE K z) := by
  refine D.met (k := 2) sc_Register_need_entries (fun _ _ _ _ _ _ us hl => match us, hl with | [_, _, _], _ => rfl) (fun vs H Q E ⟨g, x, b, vv, bs, m, d, es, i, c, h, _⟩ => by rw [h]; rfl) fun f cdv A outer s H vs Q E hr ⟨g, x, b, vv, bs, m, d, es, i, c, hv, hdk, hb, h12, hic, q⟩ => ⟨_, PSs.nox
    (pss_one (ps_if (pt_not (pt_val (pe_c CN hr (by decide) rfl (pa_cons (pv 1) (pa_cons pe_int (pa_cons (pe_op op_sub (pe_callB (call_lenO CL hr) (by rfl) T.f_len boot_len (pa_cons (pe_s T.sT1 (pe_f T.fG1 (pv 0))) pa_nil)) (pv 2)) pa_nil)))))) (pss_one ps_never) pss_nil)), ?_⟩
  subst hv
  obtain ⟨⟨dg, hg⟩, dx, nn, a, u, ps, us, hs, _⟩ := id hdk
  obtain ⟨dxb, fsb, hbi⟩ := StkAt.ins hb
  refine ⟨_, rfl, _, rfl, g, dg, _, _, rfl, hg, rfl, x, dx, _, _, rfl, hs.slt, rfl, b, dxb, fsb, rfl, hbi, b, d, es, rfl, hb, _, rfl, by omega, by omega, _, rfl, _, _, rfl, rfl, ?_⟩
  refine ⟨_, _, _, rfl, _, rfl, ?_⟩
  rw [decide_eq_true (show (0 : Int) ≤ ((i : Nat) : Int) by omega), decide_eq_true (show ((i : Nat) : Int) ≤ ((es.length : Nat) : Int) - ((c : Nat) : Int) by omega)]
  exact iteF q
def spPut (K : PySem.W.Frag) (z : Ad) : Sp := fun vs H Q _ => ∃ g x b vt bs m d es i c r, vs = [V.ref g, V.int ((i : Nat) : Int), V.ref c] ∧ DeskAt K z H g x b (.ref vt) bs m ∧ bs.length ≤ 1000 ∧ SqT K H vt [] ∧ StkAt K z (d + 1) H b es ∧ RuleAt K z H c r ∧ d ≤ 2 ∧ i ≤ es.length ∧ Fits es ∧ Fits (es.take i ++ [.rule r] ++ es.drop i) ∧ Chg K z H g x b vt bs (d + 1) es (es.take i ++ [.rule r] ++ es.drop i) Q
theorem c_put (T : Txt K mg z) (D : Dme K z.cG "put" "Register.put" s_Register_put) (CE : Met P w K mg base 11 z.cG "edit" (spEdit K z)) (CS : Met P w K mg base 4 z.cS "spliced" (spSpl K z)) : Met P w K mg base 12 z.cG "put" (spPut K z) := by
  refine D.met (k := 11) sc_Register_put (fun _ _ _ _ _ _ us hl => match us, hl with | [_, _, _], _ => rfl) (fun vs H Q E ⟨g, x, b, vt, bs, m, d, es, i, c, r, h, _⟩ => by rw [h]; rfl) fun f cdv A outer s H vs Q E hr ⟨g, x, b, vt, bs, m, d, es, i, c, r, hv, hdk, hz, hvt, hb, hc, hd, hi, hf, hf2, q⟩ => ⟨_, PSs.nox
    (pss_one (ps_ret (pe_mt CE hr (by decide) (pv 0) (pa_cons (pe_tup (pa_cons pe_str (pa_cons (pv 1) (pa_cons (pv 2) pa_nil)))) (pa_cons (pe_mt CS hr (by decide) (pe_s T.sT1 (pe_f T.fG1 (pv 0))) (pa_cons (pv 1) (pa_cons pe_int (pa_cons (pe_tup (pa_cons (pv 2) pa_nil)) pa_nil)))) pa_nil))))), ?_⟩
  subst hv
  obtain ⟨⟨dg, hg⟩, dx, nn, a, u, ps, us, hs, _⟩ := id hdk
  refine ⟨_, rfl, g, dg, _, rfl, hg, rfl, _, rfl, _, rfl, by show 3 ≤ sizeLine; decide, fun t ht => ?_⟩
  have e1 := Ext.upd ht (o := .tup [.str "put", .int (i : Nat), .ref c])
  have hs1 := hs.ext e1
  obtain ⟨d1, ed, dxb, fsb, p, q', n, j, ps', qs, k1, k2, k3, k4, k5, k6, k7, k8, k9, k10, k11, k12, k13⟩ := id (hb.open)
  refine ⟨_, rfl, g, dg, _, _, rfl, e1 _ _ hg, rfl, x, dx, _, _, rfl, hs1.slt, rfl, b, dxb, fsb, rfl, e1 _ _ k1, k13, _, rfl, _, rfl, by show 1 ≤ sizeLine; decide, fun t2 ht2 => ?_⟩
  have e2 := Ext.upd' e1 ht2 (o := .tup [.ref c])
  have h12 := hf.1
  refine ⟨b, t2, d, es, i, 0, [.ref c], [.rule r], rfl, hb.fx e2.fx, SqT.new, .cons ⟨c, rfl, hc.fx e2.fx⟩ .nil, by omega, hf.1, by show 1 ≤ 12; decide, hf2.1, hf2.2, hd, fun b2 H3 e3 hb2 => ?_⟩
  have e4 := e2.trans e3
  exact ⟨g, x, _, b, vt, bs, m, d + 1, d + 1, es, _, b2, rfl, hdk.ext e4, hz, sqT_fx hvt e4.fx, hb.fx e4.fx, hb2, by omega, by omega, hf, hf2, q.of e4⟩
def spTake (K : PySem.W.Frag) (z : Ad) : Sp := fun vs H Q _ => ∃ g x b vt bs m d es i, vs = [V.ref g, V.int ((i : Nat) : Int)] ∧ DeskAt K z H g x b (.ref vt) bs m ∧ bs.length ≤ 1000 ∧ SqT K H vt [] ∧ StkAt K z (d + 1) H b es ∧ d ≤ 2 ∧ i < es.length ∧ Fits es ∧ Fits (es.take i ++ es.drop (i + 1)) ∧ Chg K z H g x b vt bs (d + 1) es (es.take i ++ es.drop (i + 1)) Q
theorem c_take (T : Txt K mg z) (D : Dme K z.cG "take" "Register.take" s_Register_take) (CN : Met P w K mg base 3 z.cG "need_entries" (spNeedE K z)) (CE : Met P w K mg base 11 z.cG "edit" (spEdit K z)) (CS : Met P w K mg base 4 z.cS "spliced" (spSpl K z)) : Met P w K mg base 12 z.cG "take" (spTake K z) := by
  refine D.met (k := 11) sc_Register_take (fun _ _ _ _ _ _ us hl => match us, hl with | [_, _], _ => rfl) (fun vs H Q E ⟨g, x, b, vt, bs, m, d, es, i, h, _⟩ => by rw [h]; rfl) fun f cdv A outer s H vs Q E hr ⟨g, x, b, vt, bs, m, d, es, i, hv, hdk, hz, hvt, hb, hd, hi, hf, hf2, q⟩ => ⟨_, PSs.nox
    (pss_cons (ps_expr (pe_mt CN hr (by decide) (pv 0) (pa_cons (pv 1) (pa_cons pe_int pa_nil))))
    (pss_one (ps_ret (pe_mt CE hr (by decide) (pv 0) (pa_cons (pe_tup (pa_cons pe_str (pa_cons (pv 1) pa_nil))) (pa_cons (pe_mt CS hr (by decide) (pe_s T.sT1 (pe_f T.fG1 (pv 0))) (pa_cons (pv 1) (pa_cons pe_int (pa_cons (pe_tup pa_nil) pa_nil)))) pa_nil)))))), ?_⟩
  subst hv
  obtain ⟨⟨dg, hg⟩, dx, nn, a, u, ps, us, hs, _⟩ := id hdk
  refine ⟨_, rfl, g, dg, _, rfl, hg, rfl, _, rfl, g, x, b, .ref vt, bs, m, d + 1, es, i, 1, rfl, hdk, hb, hf.1, by omega, ?_⟩
  refine ⟨_, rfl, g, dg, _, rfl, hg, rfl, _, rfl, by show 2 ≤ sizeLine; decide, fun t ht => ?_⟩
  have e1 := Ext.upd ht (o := .tup [.str "take", .int (i : Nat)])
  have hs1 := hs.ext e1
  obtain ⟨d1, ed, dxb, fsb, p, q', n, j, ps', qs, k1, k2, k3, k4, k5, k6, k7, k8, k9, k10, k11, k12, k13⟩ := id (hb.open)
  refine ⟨_, rfl, g, dg, _, _, rfl, e1 _ _ hg, rfl, x, dx, _, _, rfl, hs1.slt, rfl, b, dxb, fsb, rfl, e1 _ _ k1, k13, _, rfl, by show 0 ≤ sizeLine; decide, fun t2 ht2 => ?_⟩
  have e2 := Ext.upd' e1 ht2 (o := .tup [])
  have h12 := hf.1
  have ee : es.take i ++ [] ++ es.drop (i + 1) = es.take i ++ es.drop (i + 1) := by rw [List.append_nil]
  refine ⟨b, t2, d, es, i, 1, [], [], rfl, hb.fx e2.fx, SqT.new, .nil, by omega, hf.1, by show 0 ≤ 12; decide, by rw [ee]; exact hf2.1, by rw [ee]; exact hf2.2, hd, fun b2 H3 e3 hb2 => ?_⟩
  rw [ee] at hb2
  have e4 := e2.trans e3
  exact ⟨g, x, _, b, vt, bs, m, d + 1, d + 1, es, _, b2, rfl, hdk.ext e4, hz, sqT_fx hvt e4.fx, hb.fx e4.fx, hb2, by omega, by omega, hf, hf2, q.of e4⟩
def spSwap (K : PySem.W.Frag) (z : Ad) : Sp := fun vs H Q _ => ∃ g x b vt bs m d es i e1 e2, vs = [V.ref g, V.int ((i : Nat) : Int)] ∧ DeskAt K z H g x b (.ref vt) bs m ∧ bs.length ≤ 1000 ∧ SqT K H vt [] ∧ StkAt K z (d + 1) H b es ∧ d ≤ 2 ∧ es[i]? = some e1 ∧ es[i + 1]? = some e2 ∧ Fits es ∧ Fits (es.take i ++ [e2, e1] ++ es.drop (i + 2)) ∧ Chg K z H g x b vt bs (d + 1) es (es.take i ++ [e2, e1] ++ es.drop (i + 2)) Q
theorem c_swap (T : Txt K mg z) (D : Dme K z.cG "swap" "Register.swap" s_Register_swap) (CN : Met P w K mg base 3 z.cG "need_entries" (spNeedE K z)) (CI : Dun P w K mg base 1 z.cS "__getitem__" (spItemS K z)) (CE : Met P w K mg base 11 z.cG "edit" (spEdit K z)) (CS : Met P w K mg base 4 z.cS "spliced" (spSpl K z)) : Met P w K mg base 12 z.cG "swap" (spSwap K z) := by
  refine D.met (k := 11) sc_Register_swap (fun _ _ _ _ _ _ us hl => match us, hl with | [_, _], _ => rfl) (fun vs H Q E ⟨g, x, b, vt, bs, m, d, es, i, e1, e2, h, _⟩ => by rw [h]; rfl) fun f cdv A outer s H vs Q E hr ⟨g, x, b, vt, bs, m, d, es, i, y1, y2, hv, hdk, hz, hvt, hb, hd, hy1, hy2, hf, hf2, q⟩ => ⟨_, PSs.nox
    (pss_cons (ps_expr (pe_mt CN hr (by decide) (pv 0) (pa_cons (pv 1) (pa_cons pe_int pa_nil))))
    (pss_cons (ps_set (i := 2) sc_Register_swap.nd rfl (Or.inl rfl) (pe_s T.sT1 (pe_f T.fG1 (pv 0))))
    (pss_one (ps_ret (pe_mt CE hr (by decide) (pv 0) (pa_cons (pe_tup (pa_cons pe_str (pa_cons (pv 1) pa_nil))) (pa_cons (pe_mt CS hr (by decide) (pv 2) (pa_cons (pv 1) (pa_cons pe_int (pa_cons (pe_tup (pa_cons (pe_ixO CI (hr.mono (by decide)) (pv 2) (pe_op op_add (pv 1) pe_int)) (pa_cons (pe_ixO CI (hr.mono (by decide)) (pv 2) (pv 1)) pa_nil))) pa_nil)))) pa_nil))))))), ?_⟩
  subst hv
  obtain ⟨⟨dg, hg⟩, dx, nn, a, u, ps, us, hs, _⟩ := id hdk
  have hi := (List.getElem?_eq_some_iff.mp hy2).1
  refine ⟨_, rfl, g, dg, _, rfl, hg, rfl, _, rfl, g, x, b, .ref vt, bs, m, d + 1, es, i, 2, rfl, hdk, hb, hf.1, by omega, ?_⟩
  refine ⟨_, rfl, g, dg, _, _, rfl, hg, rfl, x, dx, _, _, rfl, hs.slt, rfl, ?_⟩
  refine ⟨_, rfl, g, dg, _, rfl, hg, rfl, _, rfl, by show 2 ≤ sizeLine; decide, fun t ht => ?_⟩
  have e1 := Ext.upd ht (o := .tup [.str "swap", .int (i : Nat)])
  have hb1 := hb.fx e1.fx
  obtain ⟨d1, ed, dxb, fsb, p, q', n, j, ps', qs, k1, k2, k3, k4, k5, k6, k7, k8, k9, k10, k11, k12, k13⟩ := id (hb1.open)
  refine ⟨_, rfl, b, dxb, fsb, rfl, k1, k13, _, rfl, _, rfl, _, rfl, i, 1, rfl, rfl, b, dxb, fsb, rfl, k1, b, d + 1, es, i + 1, y2, by show [V.ref b, V.int ((i : Int) + 1)] = _; rw [Int.natCast_succ], hb1, hy2, fun d2 x2 ed2 hx2 => ?_⟩
  refine ⟨_, rfl, _, rfl, b, dxb, fsb, rfl, k1, b, d + 1, es, i, y1, rfl, hb1, hy1, fun d3 x3 ed3 hx3 => ⟨by show 2 ≤ sizeLine; decide, fun t2 ht2 => ?_⟩⟩
  cases ed2
  cases ed3
  have e2 := Ext.upd' e1 ht2 (o := .tup [x2, x3])
  have h12 := hf.1
  have ex := (Ext.upd ht2 (o := .tup [x2, x3])).fx
  refine ⟨b, t2, d, es, i, 2, [x2, x3], [y2, y1], rfl, hb.fx e2.fx, SqT.new, .cons (hx2.fx ex) (.cons (hx3.fx ex) .nil), by omega, hf.1, by show 2 ≤ 12; decide, hf2.1, hf2.2, hd, fun b2 H3 e3 hb2 => ?_⟩
  have e4 := e2.trans e3
  exact ⟨g, x, _, b, vt, bs, m, d + 1, d + 1, es, _, b2, rfl, hdk.ext e4, hz, sqT_fx hvt e4.fx, hb.fx e4.fx, hb2, by omega, by omega, hf, hf2, q.of e4⟩
def spTurnG (K : PySem.W.Frag) (z : Ad) : Sp := fun vs H Q _ => ∃ g x b vt bs m es n t a, vs = [V.ref g, V.int ((n : Nat) : Int), V.ref t] ∧ DeskAt K z H g x b (.ref vt) bs m ∧ bs.length ≤ 1000 ∧ SqT K H vt [] ∧ StkAt K z 2 H b es ∧ n < (flat es).length ∧ SqT K H t (axnV a) ∧ Fits es ∧ Chg K z H g x b vt bs 2 es (turnE n a 0 es) Q
theorem c_turnG (T : Txt K mg z) (D : Dme K z.cG "turn" "Register.turn" s_Register_turn) (CN : Cal P w K mg base 1 "is_number" spNumber) (CR : Get P w K mg base 1 z.cS "rules" (spRulesG K z)) (CE : Met P w K mg base 11 z.cG "edit" (spEdit K z)) (CC : Cal P w K mg base 8 "with_control" (spTurn K z 2)) : Met P w K mg base 12 z.cG "turn" (spTurnG K z) := by
  refine D.met (k := 11) sc_Register_turn (fun _ _ _ _ _ _ us hl => match us, hl with | [_, _, _], _ => rfl) (fun vs H Q E ⟨g, x, b, vt, bs, m, es, n, t, a, h, _⟩ => by rw [h]; rfl) fun f cdv A outer s H vs Q E hr ⟨g, x, b, vt, bs, m, es, n, t, ac, hv, hdk, hz, hvt, hb, hn, ht, hf, q⟩ => ⟨_, PSs.nox
    (pss_cons (ps_set (i := 3) sc_Register_turn.nd rfl (Or.inl rfl) (pe_s T.sT1 (pe_f T.fG1 (pv 0))))
    (pss_cons (ps_if (pt_not (pt_val (pe_c CN hr (by decide) rfl (pa_cons (pv 1) (pa_cons pe_int (pa_cons (pe_op op_sub (pe_callB call_len (by rfl) T.f_len boot_len (pa_cons (pe_p CR hr (by decide) (pv 3)) pa_nil)) pe_int) pa_nil)))))) (pss_one ps_never) pss_nil)
    (pss_one (ps_ret (pe_mt CE hr (by decide) (pv 0) (pa_cons (pe_tup (pa_cons pe_str (pa_cons (pv 1) (pa_cons (pv 2) pa_nil)))) (pa_cons (pe_c CC hr (by decide) rfl (pa_cons (pv 3) (pa_cons pe_int (pa_cons (pv 1) (pa_cons (pv 2) pa_nil))))) pa_nil))))))), ?_⟩
  subst hv
  obtain ⟨⟨dg, hg⟩, dx, nn, a, u, ps, us, hs, _⟩ := id hdk
  obtain ⟨dxb, fsb, hbi⟩ := StkAt.ins hb
  refine ⟨_, rfl, g, dg, _, _, rfl, hg, rfl, x, dx, _, _, rfl, hs.slt, rfl, ?_⟩
  refine ⟨_, rfl, _, rfl, b, dxb, fsb, rfl, hbi, b, 2, es, rfl, hb, fun p qs hp hq => ⟨_, _, rfl, .inr ⟨_, hp, rfl⟩, _, _, rfl, rfl, ?_⟩⟩
  refine ⟨_, _, _, rfl, _, rfl, ?_⟩
  have hql := Paired.len hq
  rw [decide_eq_true (show (0 : Int) ≤ ((n : Nat) : Int) by omega), decide_eq_true (show ((n : Nat) : Int) ≤ ((qs.length : Nat) : Int) - 1 by omega)]
  refine iteF ?_
  refine ⟨_, rfl, g, dg, _, rfl, hg, rfl, _, rfl, _, rfl, by show 3 ≤ sizeLine; decide, fun t2 ht2 => ?_⟩
  have e1 := Ext.upd ht2 (o := .tup [.str "turn", .int (n : Nat), .ref t])
  refine ⟨_, rfl, _, rfl, _, rfl, b, 0, n, t, es, ac, rfl, hb.fx e1.fx, sqT_fx ht e1.fx, hf, by decide, fun b2 H3 e3 hb2 => ?_⟩
  have e4 := e1.trans e3
  have hf2 : Fits (turnE n ac 0 es) := ⟨by rw [turnE_length]; exact hf.1, by rw [turnE_flat]; exact hf.2⟩
  exact ⟨g, x, _, b, vt, bs, m, 2, 2, es, _, b2, rfl, hdk.ext e4, hz, sqT_fx hvt e4.fx, hb.fx e4.fx, hb2, by decide, by decide, hf, hf2, q.of e4⟩
def spProm (K : PySem.W.Frag) (z : Ad) : Sp := fun vs H Q _ => ∃ g x b vt bs m d es k wd, vs = [V.ref g, V.ref k, V.str (inS wd)] ∧ whereS es = inS wd ∧ DeskAt K z H g x b (.ref vt) bs m ∧ bs.length ≤ 1000 ∧ SqT K H vt [] ∧ StkAt K z d H b es ∧ d ≤ 3 ∧ Fits es ∧ H k = some (.dK []) ∧ ∀ H' vv, Up x H H' → DeskAt K z H' g x b vv (bs ++ [b]) 0 → Q (.int 1) H'
theorem c_prom (T : Txt K mg z) (D : Dme K z.cG "promise" "Register.promise" s_Register_promise) (CM : Get P w K mg base 1 z.cS "modules" (spModsG K z)) (CN : Cal P w K mg base 1 "need_answers" (spNeed K)) (CW : Cal P w K mg base 1 "need_word" spWordIO) (CE : Met P w K mg base 10 z.cG "enter" (spEnter K z)) : Met P w K mg base 11 z.cG "promise" (spProm K z) := by
  refine D.met (k := 10) sc_Register_promise (fun _ _ _ _ _ _ us hl => match us, hl with | [_, _, _], _ => rfl) (fun vs H Q E ⟨g, x, b, vt, bs, m, d, es, k, wd, h, _⟩ => by rw [h]; rfl) fun f cdv A outer s H vs Q E hr ⟨g, x, b, vt, bs, m, d, es, k, wd, hv, hwd, hdk, hz, hvt, hb, hd, hf, hk, q⟩ => ⟨_, PSs.nox
    (pss_cons (ps_set (i := 3) sc_Register_promise.nd rfl (Or.inl rfl) (pe_s T.sT1 (pe_f T.fG1 (pv 0))))
    (pss_cons (ps_expr (pe_c CN hr (by decide) rfl (pa_cons (pe_p CM hr (by decide) (pv 3)) (pa_cons (pv 1) (pa_cons pe_bl pa_nil)))))
    (pss_cons (ps_expr (pe_c CW hr (by decide) rfl (pa_cons (pv 2) pa_nil)))
    (pss_cons (ps_set (i := 4) sc_Register_promise.nd rfl (Or.inl rfl) (pe_tup (StX.pa_star (pe_s T.sT2 (pe_f T.fG1 (pv 0))) (pa_cons (pe_tup (pa_cons (pe_callTy call_dictD (by rfl) T.f_dict PyProof.Rows.boot_dict (pa_cons (pv 1) pa_nil)) (pa_cons (pv 2) pa_nil))) pa_nil))))
    (pss_cons (ps_expr (pe_mt CE hr (by decide) (pv 0) (pa_cons (pe_tup (pa_cons pe_str (pa_cons (pe_callTy call_dictD (by rfl) T.f_dict PyProof.Rows.boot_dict (pa_cons (pv 1) pa_nil)) (pa_cons (pv 2) pa_nil)))) (pa_cons (pv 3) (pa_cons (pv 4) (pa_cons (pe_s T.sT3 (pe_f T.fG1 (pv 0))) pa_nil))))))
    (pss_one (ps_ret (pe_callB call_len (by rfl) T.f_len boot_len (pa_cons (pv 4) pa_nil))))))))), ?_⟩
  subst hv
  obtain ⟨⟨dg, hg⟩, dx, nn, a, u, ps, us, hs, _⟩ := id hdk
  obtain ⟨dxb, fsb, hbi⟩ := StkAt.ins hb
  refine ⟨_, rfl, g, dg, _, _, rfl, hg, rfl, x, dx, _, _, rfl, hs.slt, rfl, ?_⟩
  refine ⟨_, rfl, b, dxb, fsb, rfl, hbi, b, d, es, rfl, hb, fun n hn => ⟨_, rfl, n, k, mods es, rfl, hn, modsR_le _, hk, fun H1 e1 => ?_⟩⟩
  refine ⟨_, rfl, wd, rfl, fun H2 e2 => ?_⟩
  have e12 := e1.trans e2
  have hs2 := hs.ext e12
  refine ⟨_, rfl, g, dg, _, _, rfl, e12 _ _ hg, rfl, x, dx, _, _, rfl, hs2.slt, rfl, vt, [], rfl, .inl (sqT_fx hvt e12.fx), _, rfl, k, [], rfl, .inl (e12 _ _ hk), fun k2 hk2 => ⟨_, rfl, by show 2 ≤ sizeLine; decide, fun t ht => ⟨by show 1 ≤ sizeLine; decide, fun t2 ht2 => ?_⟩⟩⟩
  have e3 := Ext.upd hk2 (o := .dK [])
  have e4 := Ext.upd ht (o := .tup [.ref k2, .str (inS wd)])
  have e5 := Ext.upd ht2 (o := .tup ([] ++ [V.ref t]))
  have e25 := (e3.trans e4).trans e5
  have e15 := e12.trans e25
  have hvow : VowOk K (L2.upd (L2.upd (L2.upd H2 k2 (.dK [])) t (.tup [.ref k2, .str (inS wd)])) t2 (.tup ([] ++ [V.ref t]))) es (.ref t) := ⟨t, k2, rfl, by rw [hwd]; exact sqT_fx SqT.new e5.fx, e5 _ _ (e4 _ _ upd_same)⟩
  have hvw : SqT K (L2.upd (L2.upd (L2.upd H2 k2 (.dK [])) t (.tup [.ref k2, .str (inS wd)])) t2 (.tup ([] ++ [V.ref t]))) t2 [.ref t] := SqT.new
  refine ⟨_, rfl, g, dg, _, rfl, e15 _ _ hg, rfl, _, rfl, k, [], rfl, .inl (e15 _ _ hk), fun k3 hk3 => ⟨_, rfl, by show 3 ≤ sizeLine; decide, fun t3 ht3 => ?_⟩⟩
  have e6 := (Ext.upd hk3 (o := .dK [])).trans (Ext.upd ht3 (o := .tup [.str "promise", .ref k3, .str (inS wd)]))
  have e16 := e15.trans e6
  have hs6 := hs.ext e16
  refine ⟨_, rfl, _, rfl, _, rfl, g, dg, _, _, rfl, e16 _ _ hg, rfl, x, dx, _, _, rfl, hs6.slt, rfl, ?_⟩
  have hdk6 := hdk.ext e16
  refine ⟨g, x, _, b, _, bs, m, b, t2, nn, d, es, [.ref t], rfl, hdk6, hz, hb.fx e16.fx, hd, hf, sqT_fx hvw e6.fx, (fun v h => by rw [List.mem_singleton.mp h]; exact hvow.ext e6), fun H7 u7 hdk7 => ?_⟩
  exact ⟨_, rfl, _, _, rfl, .inr ⟨_, sqT_fx (sqT_fx hvw e6.fx) (hdk6.fx u7), rfl⟩, q H7 _ ((Up.ext e16).trans u7) hdk7⟩
def spUndo (K : PySem.W.Frag) (z : Ad) : Sp := fun vs H Q _ => ∃ g x b vv bs m, vs = [V.ref g] ∧ DeskAt K z H g x b vv bs m ∧ m ≤ 1000 ∧ bs.length ≤ 1000 ∧
  (bs = [] → ∀ H', Ext H H' → Q (.bl false) H') ∧ (∀ bs' c, bs = bs' ++ [c] → ∀ H' vv', Up x H H' → DeskAt K z H' g x c vv' bs' (m + 1) → Q (.bl true) H')
theorem c_undo (T : Txt K mg z) (D : Dme K z.cG "undo" "Register.undo" s_Register_undo) (CB : MetS P w K mg base 2 z.cT "go_back" (spBack K z)) : Met P w K mg base 3 z.cG "undo" (spUndo K z) := by
  refine D.met (k := 2) sc_Register_undo (fun _ _ _ _ _ _ us hl => match us, hl with | [_], _ => rfl) (fun vs H Q E ⟨g, x, b, vv, bs, m, h, _⟩ => by rw [h]; rfl) fun f cdv A outer s H vs Q E hr ⟨g, x, b, vv, bs, m, hv, hdk, hz, hbz, q1, q2⟩ => ⟨_, PSs.nox
    (pss_cons (ps_if (pt_cmpR (op_eqT0 hr.units0) (pe_s T.sT4 (pe_f T.fG1 (pv 0))) (pe_tup pa_nil) (nomark _)) (pss_one (ps_ret pe_bl)) pss_nil)
    (pss_cons (ps_expr (pe_ms0 CB hr (by decide) (pe_f T.fG1 (pv 0))))
    (pss_one (ps_ret pe_bl)))), ?_⟩
  subst hv
  obtain ⟨⟨dg, hg⟩, dx, nn, a, u, ps, us, hs, ha, hp, _⟩ := id hdk
  have hpl := Paired.len hp
  refine ⟨_, rfl, g, dg, _, _, rfl, hg, rfl, x, dx, _, _, rfl, hs.slt, rfl, by show 0 ≤ sizeLine; decide, fun t ht => ?_⟩
  have e1 := Ext.upd ht (o := .tup [])
  refine ⟨a, t, ps, rfl, rfl, sqT_fx ha e1.fx, SqT.new, _, rfl, ?_⟩
  rw [hpl]
  rcases List.eq_nil_or_concat bs with eb | ⟨bs', c, eb⟩
  · subst eb
    exact iteT (q1 rfl _ e1)
  · rw [List.concat_eq_append] at eb
    subst eb
    rw [show decide ((bs' ++ [c]).length = 0) = false from decide_eq_false (by rw [List.length_append]; show ¬ _ + 1 = 0; omega)]
    have hdk1 := hdk.ext e1
    refine iteF ⟨_, rfl, g, dg, _, _, rfl, e1 _ _ hg, rfl, x, dx, _, rfl, (hs.ext e1).slt, x, b, vv, bs', m, c, rfl, hdk1.2, hz, fun H' vv' u' s' => ?_⟩
    exact q2 bs' c rfl H' vv' ((Up.ext e1).trans u') (hdk1.turn u' s')
def spRedo (K : PySem.W.Frag) (z : Ad) : Sp := fun vs H Q _ => ∃ g x b vv bs m, vs = [V.ref g] ∧ DeskAt K z H g x b vv bs (m + 1) ∧ m ≤ 1000 ∧ bs.length ≤ 1000 ∧
  (∀ H' c vv', Up x H H' → DeskAt K z H' g x c vv' (bs ++ [b]) m → Q (.bl true) H')
theorem c_redo (T : Txt K mg z) (D : Dme K z.cG "redo" "Register.redo" s_Register_redo) (CA : MetS P w K mg base 2 z.cT "go_again" (spAgain K z)) : Met P w K mg base 3 z.cG "redo" (spRedo K z) := by
  refine D.met (k := 2) sc_Register_redo (fun _ _ _ _ _ _ us hl => match us, hl with | [_], _ => rfl) (fun vs H Q E ⟨g, x, b, vv, bs, m, h, _⟩ => by rw [h]; rfl) fun f cdv A outer s H vs Q E hr ⟨g, x, b, vv, bs, m, hv, hdk, hz, hbz, q⟩ => ⟨_, PSs.nox
    (pss_cons (ps_if (pt_cmpR (op_eqT0 hr.units0) (pe_s T.sT5 (pe_f T.fG1 (pv 0))) (pe_tup pa_nil) (nomark _)) (pss_one (ps_ret pe_bl)) pss_nil)
    (pss_cons (ps_expr (pe_ms0 CA hr (by decide) (pe_f T.fG1 (pv 0))))
    (pss_one (ps_ret pe_bl)))), ?_⟩
  subst hv
  obtain ⟨⟨dg, hg⟩, dx, nn, a, u, ps, us, hs, ha, hp, hu, hul, _⟩ := id hdk
  refine ⟨_, rfl, g, dg, _, _, rfl, hg, rfl, x, dx, _, _, rfl, hs.slt, rfl, by show 0 ≤ sizeLine; decide, fun t ht => ?_⟩
  have e1 := Ext.upd ht (o := .tup [])
  refine ⟨u, t, us, rfl, rfl, sqT_fx hu e1.fx, SqT.new, _, rfl, ?_⟩
  rw [hul, show decide (m + 1 = 0) = false from decide_eq_false (by omega)]
  have hdk1 := hdk.ext e1
  refine iteF ⟨_, rfl, g, dg, _, _, rfl, e1 _ _ hg, rfl, x, dx, _, rfl, (hs.ext e1).slt, x, b, vv, bs, m, rfl, hdk1.2, hbz, fun H' c vv' u' s' => ?_⟩
  exact q H' c vv' ((Up.ext e1).trans u') (hdk1.turn u' s')
end
end LP

end

section
set_option Elab.async false
set_option linter.all false
set_option maxRecDepth 100000
set_option maxHeartbeats 4000000
/-! The law's own defs: taken, pick, table. -/
namespace LP
open PySem PySem.Spec PyProof.Rows L2 LK LT LD LR
section
variable (K : PySem.W.Frag)
def RowIn (H : Hp) (row sc : Addr) : Prop := ∃ (ns : List Int) (i s r : Int), H row = some (.lst [.ref sc, .int i, .int s, .int r]) ∧ SqL K H sc (ns.map V.int) ∧ 0 ≤ i ∧ 0 ≤ s ∧ s < 2147483647 ∧ 0 ≤ r
/-- the script is not what stands at l -/
def Off (sc l : Addr) : Prop := sc ≠ l ∨ ∀ (H : Hp) (xs : List V), SqL K H sc xs → ∀ H', SqL K H' sc xs
end
section
variable {K : PySem.W.Frag} {H H' : Hp} {row sc l : Addr}
theorem sqL_off {xs : List V} (h : SqL K H sc xs) (o : sc ≠ l) (u : Up l H H') : SqL K H' sc xs := by
  rcases h with (h | ⟨o', h⟩) | h
  · exact .inl (.inl (u _ _ o h))
  · exact .inl (.inr ⟨o', u _ _ o h⟩)
  · exact .inr h
/-- a list that is not there yet, or whose content is other -/
theorem sqL_new {xs : List V} (h : SqL K H sc xs) (hl : H l = none) (u : Up l H H') : SqL K H' sc xs := by
  rcases h with (h | ⟨o', h⟩) | h
  · exact .inl (.inl (u _ _ (ne_of_none h hl) h))
  · exact .inl (.inr ⟨o', u _ _ (ne_of_none h hl) h⟩)
  · exact .inr h
theorem sqL_row {ns : List Int} {ys : List V} {a : Addr} (h : SqL K H sc (ns.map V.int)) (hr : H row = some (.lst (.ref a :: ys))) (u : Up row H H') : SqL K H' sc (ns.map V.int) := by
  rcases h with (h | ⟨o', h⟩) | h
  · refine .inl (.inl (u _ _ (fun e => ?_) h))
    rw [e, hr] at h
    cases ns <;> cases h
  · refine .inl (.inr ⟨o', u _ _ (fun e => ?_) h⟩)
    rw [e, hr] at h
    cases h
  · exact .inr h
theorem RowIn.ext (h : RowIn K H row sc) (e : Ext H H') : RowIn K H' row sc := let ⟨ns, i, s, r, h1, h2, h3⟩ := h; ⟨ns, i, s, r, e _ _ h1, SqL.ext h2 e, h3⟩
/-- from the state at an entry: the script is as it was -/
theorem RowIn.grow {G G' : Hp} (h : RowIn K G row sc) (h0 : RowIn K H row sc) (u : Up row H G') (k : ∀ o, G row = some o → G' row = some o) : RowIn K G' row sc := by
  obtain ⟨ns, i, s, r, h1, h2, h3⟩ := h
  obtain ⟨ms, i', s', r', k1, k2, _⟩ := h0
  exact ⟨ms, i, s, r, k _ h1, sqL_row k2 k1 u, h3⟩
theorem RowIn.at (h : RowIn K H row sc) : ∃ i s r : Int, H row = some (.lst [.ref sc, .int i, .int s, .int r]) := let ⟨_, i, s, r, h1, _⟩ := h; ⟨i, s, r, h1⟩
theorem RowIn.fx (h : RowIn K H row sc) (u : Up row H H') : Fx H H' := let ⟨_, _, _, h1⟩ := h.at; u.fx h1 (by simp [Fixd])
/-- what is free behind was free ahead -/
theorem RowIn.none (h' : RowIn K H' row sc) (u : Up row H H') {a : Addr} (ha : H' a = Option.none) : H a = Option.none := by
  cases e : H a with
  | none => rfl
  | some o =>
    by_cases q : a = row
    · subst q
      obtain ⟨_, _, _, h1⟩ := h'.at
      rw [h1] at ha
      cases ha
    · rw [u _ _ q e] at ha
      cases ha
end
section
variable {P : Program} {w : World} {K : PySem.W.Frag} {mg : Str → Option Value} {base : Heap} {z : Ad}
def spTaken (K : PySem.W.Frag) : Sp := fun vs H Q _ => ∃ row sc many, vs = [V.ref row, V.int ((many : Nat) : Int)] ∧ RowIn K H row sc ∧ 0 < many ∧ many < 1000000 ∧ ∀ (dn : Nat) H', dn < many → Up row H H' → RowIn K H' row sc → Q (.int ((dn : Nat) : Int)) H'
theorem rowSet {sc : Addr} {a b c : V} : ([V.ref sc, a, b, c].set 1 = fun v => [V.ref sc, v, b, c]) ∧ ([V.ref sc, a, b, c].set 2 = fun v => [V.ref sc, a, v, c]) ∧ ([V.ref sc, a, b, c].set 3 = fun v => [V.ref sc, a, b, v]) := ⟨rfl, rfl, rfl⟩
theorem modN {a : Int} {many : Nat} (h : 0 < many) : ∃ dn : Nat, dn < many ∧ a % (many : Int) = (dn : Int) := by
  have h1 := Int.emod_nonneg a (show (many : Int) ≠ 0 by omega)
  have h2 := Int.emod_lt_of_pos a (show (0 : Int) < many by omega)
  exact ⟨(a % (many : Int)).toNat, by omega, by omega⟩
theorem c_taken (T : Txt K mg z) (D : Dfn K mg "_law_taken" s_law_taken) : Cal P w K mg base 1 "_law_taken" (spTaken K) := by
  refine D.cal sc_law_taken (fun _ _ _ _ _ _ us hl => match us, hl with | [_, _], _ => rfl) (fun vs H Q E ⟨row, sc, many, h, _⟩ => by rw [h]; rfl) fun f cdv A outer s H vs Q E hr ⟨row, sc, many, hv, hrow, hm0, hm1, q⟩ => ⟨_, PSs.nox
    (pss_cons (ps_if (pt_cmpR op_gt (pe_ix ix_list (pv 0) pe_int (fun _ _ => rfl)) pe_int (nomark _))
      (pss_cons (ps_set (i := 2) sc_law_taken.nd rfl (Or.inl rfl) (pe_op op_mod (pe_callTy call_int1 (by rfl) T.f_int PyProof.Rows.boot_int (pa_cons (pe_ix ix_list (pv 0) pe_int (fun _ _ => rfl)) pa_nil)) (pv 1)))
      (pss_cons (ps_asg (pe_op op_fdiv (pe_ix ix_list (pv 0) pe_int (fun _ _ => rfl)) (pv 1)) (pg_sub (pv 0) pe_int set_list))
      (pss_one (ps_ret (pv 2))))) pss_nil)
    (pss_cons (ps_asg (pe_op op_add (pe_ix ix_list (pv 0) pe_int (fun _ _ => rfl)) pe_int) (pg_sub (pv 0) pe_int set_list))
    (pss_cons (ps_if (pt_cmpR op_gt (pe_ix ix_list (pv 0) pe_int (fun _ _ => rfl)) (pe_callB call_len (by rfl) T.f_len boot_len (pa_cons (pe_ix ix_list (pv 0) pe_int (fun _ _ => rfl)) pa_nil)) (nomark _))
      (pss_cons (ps_asg (pe_op op_mod (pe_callTy call_int1 (by rfl) T.f_int PyProof.Rows.boot_int (pa_cons (pe_op op_add (pe_op op_mul (pe_ix ix_list (pv 0) pe_int (fun _ _ => rfl)) pe_int) pe_int) pa_nil)) pe_int) (pg_sub (pv 0) pe_int set_list))
      (pss_one (ps_ret (pe_op op_mod (pe_callTy call_int1 (by rfl) T.f_int PyProof.Rows.boot_int (pa_cons (pe_op op_fdiv (pe_ix ix_list (pv 0) pe_int (fun _ _ => rfl)) pe_int) pa_nil)) (pv 1))))) pss_nil)
    (pss_cons (ps_set (i := 3) sc_law_taken.nd rfl (Or.inl rfl) (pe_ix ix_list (pe_ix ix_list (pv 0) pe_int (fun _ _ => rfl)) (pe_op op_sub (pe_ix ix_list (pv 0) pe_int (fun _ _ => rfl)) pe_int) (fun _ _ => rfl)))
    (pss_cons (ps_asg (pe_op op_mod (pe_callTy call_int1 (by rfl) T.f_int PyProof.Rows.boot_int (pa_cons (pe_op op_add (pe_op op_add (pe_op op_mul (pe_ix ix_list (pv 0) pe_int (fun _ _ => rfl)) pe_int) (pv 3)) pe_int) pa_nil)) pe_int) (pg_sub (pv 0) pe_int set_list))
    (pss_cons (ps_asg (pe_ifExp (pt_cmpR op_ge (pv 3) (pe_op op_pow pe_int pe_int) (nomark _)) (pe_op op_fdiv (pv 3) (pv 1)) pe_int) (pg_sub (pv 0) pe_int set_list))
    (pss_one (ps_ret (pe_op op_mod (pe_callTy call_int1 (by rfl) T.f_int PyProof.Rows.boot_int (pa_cons (pv 3) pa_nil)) (pv 1)))))))))), ?_⟩
  subst hv
  obtain ⟨ns, i, sd, r, h1, h2, hi, hs0, hs1, hr0⟩ := hrow
  have hmz : (0 : Int) < ((many : Nat) : Int) := by omega
  have hmz2 : ((many : Nat) : Int) < 1073741824 := by omega
  refine ⟨_, rfl, row, _, _, _, rfl, rfl, SqL.of h1, atI_nat (j := 3) rfl, ⟨r, 0, rfl, rfl, _, rfl, ?_⟩⟩
  refine ite2 (fun hp => ?_) fun hp => ?_
  · refine ⟨_, rfl, row, _, _, _, rfl, rfl, SqL.of h1, atI_nat (j := 3) rfl, (.inl ⟨r, rfl, _, rfl, r, ((many : Nat) : Int), rfl, rfl, hmz, ?_⟩)⟩
    obtain ⟨dn, hdn, edn⟩ := modN (a := r) hm0
    have q2 : ∀ H', Up row H H' → RowIn K H' row sc → Q (.int (r % ((many : Nat) : Int))) H' := fun H' u h => by rw [edn]; exact q dn H' hdn u h
    refine ⟨_, rfl, row, _, _, _, rfl, rfl, SqL.of h1, atI_nat (j := 3) rfl, ⟨_, rfl, r, ((many : Nat) : Int), rfl, rfl, ⟨hmz, hmz2⟩, _, rfl, row, _, 3, 3, rfl, rfl, h1, rfl, ?_⟩⟩
    refine ⟨_, rfl, q2 _ Up.upd ⟨ns, i, sd, _, upd_same, sqL_row h2 h1 Up.upd, hi, hs0, hs1, Int.ediv_nonneg hr0 (by omega)⟩⟩
  · have hup : ∀ {o : HO}, Up row H (L2.upd H row o) := Up.upd
    refine ⟨_, rfl, row, _, _, _, rfl, rfl, SqL.of h1, atI_nat (j := 1) rfl, ⟨i, 1, rfl, rfl, _, rfl, row, _, 1, 1, rfl, rfl, h1, rfl, ?_⟩⟩
    have g1 : L2.upd H row (.lst [.ref sc, .int (i + 1), .int sd, .int r]) row = some (.lst [.ref sc, .int (i + 1), .int sd, .int r]) := upd_same
    have s1 := sqL_row h2 h1 (hup (o := .lst [.ref sc, .int (i + 1), .int sd, .int r]))
    refine ⟨_, rfl, row, _, _, _, rfl, rfl, SqL.of g1, atI_nat (j := 1) rfl, ⟨_, rfl, row, _, _, _, rfl, rfl, SqL.of g1, atI_nat (j := 0) rfl, ⟨_, _, rfl, .inl ⟨_, s1, rfl⟩, _, _, rfl, rfl, _, rfl, ?_⟩⟩⟩
    rw [List.length_map]
    refine ite2 (fun hp2 => ?_) fun hp2 => ?_
    · refine ⟨_, rfl, row, _, _, _, rfl, rfl, SqL.of g1, atI_nat (j := 2) rfl, ⟨sd, 48271, rfl, rfl, .inr ⟨by decide, by decide⟩, _, _, rfl, rfl, .inl ⟨_, rfl, _, _, rfl, rfl, (show (0 : Int) < 2147483647 by decide), _, rfl, row, _, 2, 2, rfl, rfl, g1, rfl, ?_⟩⟩⟩
      have m1 := Int.emod_nonneg (sd * 48271 + 11) (show (2147483647 : Int) ≠ 0 by decide)
      have m2 := Int.emod_lt_of_pos (sd * 48271 + 11) (show (0 : Int) < 2147483647 by decide)
      refine ⟨_, rfl, row, _, _, _, rfl, rfl, SqL.of upd_same, atI_nat (j := 2) rfl, ⟨_, 7, rfl, rfl, ⟨by decide, by decide⟩, .inl ⟨_, rfl, _, rfl, _, ((many : Nat) : Int), rfl, rfl, hmz, ?_⟩⟩⟩
      obtain ⟨dn, hdn, edn⟩ := modN (a := (sd * 48271 + 11) % 2147483647 / 7) hm0
      have q2 : ∀ H', Up row H H' → RowIn K H' row sc → Q (.int ((sd * 48271 + 11) % 2147483647 / 7 % ((many : Nat) : Int))) H' := fun H' u h => by rw [edn]; exact q dn H' hdn u h
      exact q2 _ (hup.trans Up.upd) ⟨ns, i + 1, _, r, upd_same, sqL_row s1 g1 Up.upd, by omega, m1, m2, hr0⟩
    · have hle : i + 1 ≤ (ns.length : Int) := by
        have : ¬ (i + 1 > (ns.length : Int)) := fun h => hp2 (decide_eq_true h)
        omega
      have hlt : i.toNat < ns.length := by omega
      have hcell : (ns.map V.int)[i.toNat]? = some (V.int ns[i.toNat]) := by rw [List.getElem?_map, List.getElem?_eq_getElem hlt] <;> rfl
      have hat : atI (ns.map V.int) (i + 1 - 1) = some (V.int ns[i.toNat]) := by
        rw [show i + 1 - 1 = ((i.toNat : Nat) : Int) by omega]
        exact atI_nat hcell
      generalize ns[i.toNat] = cell at hat
      refine ⟨_, rfl, row, _, _, _, rfl, rfl, SqL.of g1, atI_nat (j := 0) rfl, ⟨_, rfl, row, _, _, _, rfl, rfl, SqL.of g1, atI_nat (j := 1) rfl, ⟨_, _, rfl, rfl, sc, _, _, _, rfl, rfl, s1, hat, ?_⟩⟩⟩
      refine ⟨_, rfl, row, _, _, _, rfl, rfl, SqL.of g1, atI_nat (j := 2) rfl, ⟨sd, 48271, rfl, rfl, .inr ⟨by decide, by decide⟩, _, rfl, _, _, rfl, rfl, _, _, rfl, rfl, .inl ⟨_, rfl, _, _, rfl, rfl, (show (0 : Int) < 2147483647 by decide), _, rfl, row, _, 2, 2, rfl, rfl, g1, rfl, ?_⟩⟩⟩
      have m1 := Int.emod_nonneg (sd * 48271 + cell + 11) (show (2147483647 : Int) ≠ 0 by decide)
      have m2 := Int.emod_lt_of_pos (sd * 48271 + cell + 11) (show (0 : Int) < 2147483647 by decide)
      have s2 := sqL_row s1 g1 (Up.upd (b := row) (u := .lst [.ref sc, .int (i + 1), .int ((sd * 48271 + cell + 11) % 2147483647), .int r]))
      obtain ⟨dn, hdn, edn⟩ := modN (a := cell) hm0
      have q2 : ∀ H', Up row H H' → RowIn K H' row sc → Q (.int (cell % ((many : Nat) : Int))) H' := fun H' u h => by rw [edn]; exact q dn H' hdn u h
      refine ⟨_, rfl, _, _, rfl, rfl, ⟨by decide, by decide, by decide⟩, _, _, rfl, rfl, _, rfl, ?_⟩
      refine ite2 (fun hp3 => ?_) fun hp3 => ?_
      · have h3 : (10 : Int) ^ (18 : Int).toNat ≤ cell := of_decide_eq_true hp3
        have hc0 : 0 ≤ cell := Int.le_trans (by decide) h3
        refine ⟨_, rfl, _, rfl, _, _, rfl, rfl, ⟨hmz, hmz2⟩, _, rfl, row, _, 3, 3, rfl, rfl, upd_same, rfl, ?_⟩
        refine ⟨_, rfl, .inl ⟨_, rfl, _, rfl, _, _, rfl, rfl, hmz, ?_⟩⟩
        exact q2 _ ((hup.trans Up.upd).trans Up.upd) ⟨ns, i + 1, _, _, upd_same, sqL_row s2 upd_same Up.upd, by omega, m1, m2, Int.ediv_nonneg hc0 (by omega)⟩
      · refine ⟨_, rfl, row, _, 3, 3, rfl, rfl, upd_same, rfl, ?_⟩
        refine ⟨_, rfl, .inl ⟨_, rfl, _, rfl, _, _, rfl, rfl, hmz, ?_⟩⟩
        exact q2 _ ((hup.trans Up.upd).trans Up.upd) ⟨ns, i + 1, _, 0, upd_same, sqL_row s2 upd_same Up.upd, by omega, m1, m2, by decide⟩
def spPick (K : PySem.W.Frag) : Sp := fun vs H Q _ => ∃ row sc l xs, vs = [V.ref row, V.ref l] ∧ RowIn K H row sc ∧ H l = some (.lst xs) ∧ l ≠ row ∧ 0 < xs.length ∧ xs.length < 1000 ∧ ∀ (v : V) H', v ∈ xs → Up row H H' → RowIn K H' row sc → Q v H'
theorem c_pick (T : Txt K mg z) (D : Dfn K mg "_law_pick" s_law_pick) (CT : Cal P w K mg base 1 "_law_taken" (spTaken K)) : Cal P w K mg base 2 "_law_pick" (spPick K) := by
  refine D.cal (k := 1) sc_law_pick (fun _ _ _ _ _ _ us hl => match us, hl with | [_, _], _ => rfl) (fun vs H Q E ⟨row, sc, l, xs, h, _⟩ => by rw [h]; rfl) fun f cdv A outer s H vs Q E hr ⟨row, sc, l, xs, hv, hrow, hl, hne, h0, h1, q⟩ => ⟨_, PSs.nox
    (pss_one (ps_ret (pe_ix ix_list (pv 1) (pe_c CT hr (by decide) rfl (pa_cons (pv 0) (pa_cons (pe_callB call_len (by rfl) T.f_len boot_len (pa_cons (pv 1) pa_nil)) pa_nil))) (fun _ _ => rfl)))), ?_⟩
  subst hv
  refine ⟨_, rfl, _, rfl, _, rfl, _, _, rfl, .inl ⟨_, SqL.of hl, rfl⟩, row, sc, xs.length, rfl, hrow, h0, by omega, fun dn H' hdn u hrow' => ?_⟩
  exact ⟨l, _, _, _, rfl, rfl, SqL.of (u _ _ hne hl), atI_nat (List.getElem?_eq_getElem hdn), q _ H' (List.getElem_mem hdn) u hrow'⟩
def spTbl (K : PySem.W.Frag) : Sp := fun vs H Q _ => ∃ row sc, vs = [V.ref row, V.bl false] ∧ RowIn K H row sc ∧ ∀ (t : Addr) (a : Res → Axn) H', Up row H H' → RowIn K H' row sc → SqT K H' t (axnV a) → Q (.ref t) H'
end
end LP

end

section
set_option Elab.async false
set_option linter.all false
set_option maxRecDepth 100000
set_option maxHeartbeats 4000000
/-! The law's plain lists; table, rules, plain. -/
namespace LP
open PySem PySem.Spec PyProof.Rows L2 LK LT LD LR
section
variable (Z : Addr → Prop) (K : PySem.W.Frag)
def PRuleV (H : Hp) (v : V) (r : Rul) : Prop := ∃ t a, v = .ref t ∧ SqT K H t [.str r.m.s, .ref a] ∧ SqT K H a r.vs
def PEntV (H : Hp) (v : V) (e : Ent) : Prop := match e with
  | .rule r => PRuleV K H v r
  | .inner rs => ∃ l vs, v = .ref l ∧ Z l ∧ H l = some (.lst vs) ∧ Paired (PRuleV K H) vs rs
def PlainAt (H : Hp) (l : Addr) (es : List Ent) : Prop := ∃ vs, Z l ∧ H l = some (.lst vs) ∧ Paired (PEntV Z K H) vs es
end
section
variable {Z : Addr → Prop} {K : PySem.W.Frag} {H H' : Hp}
theorem PRuleV.fx {v : V} {r : Rul} (h : PRuleV K H v r) (f : Fx H H') : PRuleV K H' v r := let ⟨t, a, h1, h2, h3⟩ := h; ⟨t, a, h1, sqT_fx h2 f, sqT_fx h3 f⟩
theorem PRuleV.all {vs : List V} {rs : List Rul} (h : Paired (PRuleV K H) vs rs) (f : Fx H H') : Paired (PRuleV K H') vs rs := Paired.imp (fun _ _ h => h.fx f) h
theorem PEntV.to {v : V} {e : Ent} (h : PEntV Z K H v e) (f : Fx H H') (k : ∀ l xs, Z l → H l = some (.lst xs) → H' l = some (.lst xs)) : PEntV Z K H' v e := by
  cases e with
  | rule r => exact PRuleV.fx h f
  | inner rs => obtain ⟨l, vs, h1, h2, h3, h4⟩ := h; exact ⟨l, vs, h1, h2, k _ _ h2 h3, PRuleV.all h4 f⟩
theorem PEntV.ext {v : V} {e : Ent} (h : PEntV Z K H v e) (f : Ext H H') : PEntV Z K H' v e := h.to f.fx fun _ _ _ h => f _ _ h
theorem PEntV.all {vs : List V} {es : List Ent} (h : Paired (PEntV Z K H) vs es) (f : Fx H H') (k : ∀ l xs, Z l → H l = some (.lst xs) → H' l = some (.lst xs)) : Paired (PEntV Z K H') vs es := Paired.imp (fun _ _ h => PEntV.to h f k) h
theorem PEntV.allE {vs : List V} {es : List Ent} (h : Paired (PEntV Z K H) vs es) (f : Ext H H') : Paired (PEntV Z K H') vs es := Paired.imp (fun _ _ h => PEntV.ext h f) h
theorem PlainAt.ext {l : Addr} {es : List Ent} (h : PlainAt Z K H l es) (f : Ext H H') : PlainAt Z K H' l es := let ⟨vs, h1, h2, h3⟩ := h; ⟨vs, h1, f _ _ h2, PEntV.allE h3 f⟩
/-- while a list is changed that no plain list is -/
theorem PlainAt.up {q l : Addr} {xs : List V} {es : List Ent} (h : PlainAt Z K H l es) (u : Up q H H') (hq : H q = some (.lst xs)) (hz : ∀ a, Z a → a ≠ q) : PlainAt Z K H' l es :=
  let ⟨vs, h1, h2, h3⟩ := h; ⟨vs, h1, u _ _ (hz _ h1) h2, PEntV.all h3 (u.fx hq (by simp [Fixd])) fun l xs z h => u _ _ (hz _ z) h⟩
theorem PEntV.zimp {Z' : Addr → Prop} {v : V} {e : Ent} (h : PEntV Z K H v e) (k : ∀ a, Z a → Z' a) : PEntV Z' K H v e := by
  cases e with
  | rule r => exact h
  | inner rs => obtain ⟨l, vs, h1, h2, h3⟩ := h; exact ⟨l, vs, h1, k _ h2, h3⟩
theorem PlainAt.zimp {Z' : Addr → Prop} {l : Addr} {es : List Ent} (h : PlainAt Z K H l es) (k : ∀ a, Z a → Z' a) : PlainAt Z' K H l es := let ⟨vs, h1, h2, h3⟩ := h; ⟨vs, k _ h1, h2, Paired.imp (fun _ _ h => PEntV.zimp h k) h3⟩
theorem prules {vs : List V} {rs : List Rul} (h : Paired (PRuleV K H) vs rs) : Paired (PEntV Z K H) vs (rs.map .rule) := by
  induction h with
  | nil => exact .nil
  | cons r t ih => exact .cons r ih
theorem unrules : ∀ {vs : List V} {rs : List Rul}, Paired (PEntV Z K H) vs (rs.map .rule) → Paired (PRuleV K H) vs rs
  | _, [], .nil => .nil
  | _, r :: rs, .cons h t => .cons h (unrules t)
theorem dep1 : ∀ {es : List Ent}, Dep 1 es → ∃ rs : List Rul, es = rs.map .rule
  | [], _ => ⟨[], rfl⟩
  | e :: es, h => by
    obtain ⟨r, rfl⟩ := h e List.mem_cons_self
    obtain ⟨rs, rfl⟩ := dep1 (es := es) fun e he => h e (List.mem_cons_of_mem _ he)
    exact ⟨r :: rs, rfl⟩
/-- what isinstance(entry, list) says -/
theorem entList {v : V} {e : Ent} (h : PEntV Z K H v e) : (∃ r, e = .rule r ∧ IsB K H "list" v false) ∨ ∃ rs, e = .inner rs ∧ IsB K H "list" v true := by
  cases e with
  | rule r => obtain ⟨t, a, rfl, h2, h3⟩ := h; exact .inl ⟨r, rfl, isB_tup h2 (by decide +kernel)⟩
  | inner rs => obtain ⟨l, vs, rfl, h2, h3, h4⟩ := h; exact .inr ⟨rs, rfl, isB_lst h3 (by decide +kernel)⟩
end
section
variable {P : Program} {w : World} {K : PySem.W.Frag} {mg : Str → Option Value} {base : Heap} {z : Ad}
/-- rules of a plain list -/
def spRls (K : PySem.W.Frag) (d : Nat) : Sp := fun vs H Q _ => ∃ Z l es, vs = [V.ref l] ∧ PlainAt Z K H l es ∧ Dep d es ∧ (flat es).length ≤ 1000 ∧ ∀ l' vs' H', Ext H H' → H' l' = some (.lst vs') → Paired (PRuleV K H') vs' (flat es) → Q (.ref l') H'
theorem c_rules (T : Txt K mg z) (D : Dfn K mg "_law_rules" s_law_rules) : ∀ d : Nat, Cal P w K mg base (d + 1) "_law_rules" (spRls K d) := by
  intro d
  induction d with
  | zero =>
    obtain ⟨f, fd, hm, F⟩ := D.ex
    exact ⟨f, fun _ _ _ _ _ _ _ _ _ _ _ ⟨_, _, _, _, _, h, _⟩ => h.elim, hm, F.kp⟩
  | succ d ih =>
    refine D.cal (k := d + 1) sc_law_rules (fun _ _ _ _ _ _ us hl => match us, hl with | [_], _ => rfl) (fun vs H Q E ⟨Z, l, es, h, _⟩ => by rw [h]; rfl) fun f cdv A outer s H vs Q E hr ⟨Z, l, es, hv, hpl, hdp, hz, q⟩ => ⟨_, PSs.nox
      (pss_cons (ps_set (i := 1) sc_law_rules.nd rfl (Or.inl rfl) (pe_lst pa_nil))
      (pss_cons (ps_for PassesOwn.never rfl (pi_list (pv 0)) (pg_name (i := 2) sc_law_rules.nd rfl (Or.inl rfl))
        (pss_one (ps_set (i := 1) sc_law_rules.nd rfl (Or.inl rfl) (pe_op op_cat (pv 1) (pe_ifExp (pt_val (pe_isB rfl T.f_isinstance rfl T.f_list PyProof.Rows.boot_list (pv 2))) (pe_c ih hr (by omega) rfl (pa_cons (pv 2) pa_nil)) (pe_lst (pa_cons (pv 2) pa_nil)))))))
      (pss_one (ps_ret (pv 1))))), ?_⟩
    subst hv
    obtain ⟨vs, hzl, hvs, hp⟩ := hpl
    have hln := Paired.len hp
    refine ⟨by show 0 ≤ sizeLine; decide, fun lf hlf => ?_⟩
    refine ⟨_, rfl, l, rfl, ⟨vs, SqL.of (Ext.upd hlf _ _ hvs)⟩, ?_⟩
    refine for_list (xs := vs) (fun i σ G => ∃ x2 lg as, σ = [some (V.ref l), some (V.ref lg), x2] ∧ Ext H G ∧ G lg = some (.lst as) ∧ Paired (PRuleV K G) as (flat (es.take i))) ⟨none, lf, [], rfl, Ext.upd hlf, upd_same, .nil⟩ ?_ ?_ ?_
    · rintro i σ G _ ⟨x2, lg, as, rfl, e, hg, hpa⟩
      exact SqL.of (e _ _ hvs)
    · rintro i v σ G hx ⟨x2, lg, as, rfl, e, hg, hpa⟩
      have hi : i < es.length := by rw [← hln]; exact (List.getElem?_eq_some_iff.mp hx).1
      have hei : es[i]? = some es[i] := List.getElem?_eq_getElem hi
      have hev := (Paired.get' hp hx hei).ext e
      have hft := flat_take hei
      have hfle := flat_take_le es (i + 1)
      have hfl3 : (flat (es.take (i + 1))).length = (flat (es.take i)).length + es[i].rules.length := by rw [hft, List.length_append]
      have hal := Paired.len hpa
      have fin : ∀ (lb : Addr) (bs : List V) (G2 : Hp), Ext G G2 → G2 lb = some (.lst bs) → Paired (PRuleV K G2) bs es[i].rules → rCat (.ref lg) (.ref lb) G2 fun y H1 => gName 1 y [some (V.ref l), some (V.ref lg), some v] H1 fun σ' H' => ∃ x2 lg as, σ' = [some (V.ref l), some (V.ref lg), x2] ∧ Ext H H' ∧ H' lg = some (.lst as) ∧ Paired (PRuleV K H') as (flat (es.take (i + 1))) := fun lb bs G2 e2 hb hpb => by
        have hbl := Paired.len hpb
        refine ⟨lg, lb, as, bs, rfl, rfl, e2 _ _ hg, hb, le_line (by omega), fun p hp => ?_⟩
        have e3 := Ext.upd hp (o := .lst (as ++ bs))
        refine ⟨_, p, as ++ bs, rfl, (e.trans e2).trans e3, upd_same, ?_⟩
        rw [hft]
        exact Paired.app (PRuleV.all (PRuleV.all hpa e2.fx) e3.fx) (PRuleV.all hpb e3.fx)
      rcases entList hev with ⟨r, er, ib⟩ | ⟨rs, er, ib⟩
      · rw [er] at hev fin
        refine ⟨_, rfl, _, rfl, false, ib, false, rfl, iteF ⟨_, rfl, by show 1 ≤ sizeLine; decide, fun lb hlb => fin lb [v] _ (Ext.upd hlb) upd_same (.cons (PRuleV.fx hev (Ext.upd hlb).fx) .nil)⟩⟩
      · have hin : Ent.inner rs ∈ es := by rw [← er]; exact List.getElem_mem hi
        rw [er] at hev fin hfl3
        obtain ⟨li, vi, rfl, z1, h1, h2⟩ := hev
        have hrl : (flat (rs.map Ent.rule)).length = (Ent.inner rs).rules.length := by rw [flat_rules] <;> rfl
        refine ⟨_, rfl, _, rfl, true, ib, true, rfl, iteT ⟨_, rfl, Z, li, rs.map .rule, rfl, ⟨vi, z1, h1, prules h2⟩, dep_inner hdp hin, by omega, fun l' vs' G2 e2 hl' hp' => ?_⟩⟩
        rw [flat_rules] at hp'
        exact fin l' vs' G2 e2 hl' hp'
    · rintro σ G ⟨x2, lg, as, rfl, e, hg, hpa⟩
      rw [hln, List.take_length] at hpa
      exact ⟨_, rfl, q lg as G e hg hpa⟩
def axnOf (a b c d : Axn) : Res → Axn
  | .yes => a | .no => b | .skip => c | .gone => d
theorem c_tbl (T : Txt K mg z) (D : Dfn K mg "_law_table" s_law_table) (CT : Cal P w K mg base 1 "_law_taken" (spTaken K)) : Cal P w K mg base 2 "_law_table" (spTbl K) := by
  refine D.cal (k := 1) sc_law_table (fun _ _ _ _ _ _ us hl => match us, hl with | [_, _], _ => rfl) (fun vs H Q E ⟨row, sc, h, _⟩ => by rw [h]; rfl) fun f cdv A outer s H vs Q E hr ⟨row, sc, hv, hrow, q⟩ => ⟨_, PSs.nox
    (pss_cons (ps_set (i := 2) sc_law_table.nd rfl (Or.inl rfl) (pe_lst (pa_cons (pe_tup (pa_cons pe_str (pa_cons pe_str (pa_cons pe_str (pa_cons pe_str pa_nil))))) (pa_cons (pe_tup (pa_cons pe_str (pa_cons pe_str (pa_cons pe_str (pa_cons pe_str pa_nil))))) (pa_cons (pe_tup (pa_cons pe_str (pa_cons pe_str (pa_cons pe_str (pa_cons pe_str pa_nil))))) pa_nil)))))
    (pss_cons (ps_expr (pe_bm PySem.F.plainAttrs_list PySem.F.slot_list_append PySem.F.type_list_append mt_append (pv 2) (pa_cons (pe_tup (pa_cons pe_str (pa_cons pe_str (pa_cons pe_str (pa_cons pe_str pa_nil))))) pa_nil)))
    (pss_cons (ps_if (PW.pt (pw_or (pt_val (pv 1)) (pw_or1 (pt_cmpR op_eq (pe_c CT hr (by decide) rfl (pa_cons (pv 0) (pa_cons pe_int pa_nil))) pe_int (nomark _))))) (pss_one (ps_ret (pe_ix ix_list (pv 2) (pe_c CT hr (by decide) rfl (pa_cons (pv 0) (pa_cons pe_int pa_nil))) (fun _ _ => rfl)))) pss_nil)
    (pss_cons (ps_set (i := 3) sc_law_table.nd rfl (Or.inr rfl) (pe_lst (pa_cons pe_str (pa_cons pe_str (pa_cons pe_str (pa_cons pe_str (pa_cons pe_str (pa_cons pe_str (pa_cons pe_int (pa_cons pe_int (pa_cons pe_int pa_nil)))))))))))
    (pss_one (ps_ret (pe_callTy call_tuple_of (by rfl) T.f_tuple PyProof.Rows.boot_tuple (pa_cons
      (pe_lc (own := [("_law_k", 4)]) (g := gName 4) (tt := tYes) (te := tOp (rIxL K) (tVar 3) (tCallR (spTaken K) (tCons (tVar 0) (tCons (tC (.int 9)) tNil)))) rfl sc_law_table.nd (pi_range1 rfl T.f_range (pa_cons pe_int pa_nil)) (blkOk_by (N := ["_law_row", "_law_plain_here", "_law_words", "_law_acts", "_law_k"]) (sc := defScope s_law_table) (by decide +kernel)) (fun _ _ _ _ _ => pg_name (i := 4) sc_law_table.nd rfl (Or.inl rfl)) (fun _ _ _ _ _ => pts_nil)
        (fun _ _ _ _ _ => pe_ix ix_list (pv 3) (pe_c CT hr (by decide) rfl (pa_cons (pv 0) (pa_cons pe_int pa_nil))) (fun _ _ => rfl))) pa_nil)))))))), ?_⟩
  subst hv
  refine ⟨by show 4 ≤ sizeLine; decide, fun t1 h1 => ⟨by show 4 ≤ sizeLine; decide, fun t2 h2 => ⟨by show 4 ≤ sizeLine; decide, fun t3 h3 => ⟨by show 3 ≤ sizeLine; decide, fun lw hlw => ?_⟩⟩⟩⟩
  have e1 := Ext.upd h1 (o := .tup [.str "ok", .str "bad", .str "ignore", .str "bad"])
  have e2 := Ext.upd h2 (o := .tup [.str "ok", .str "die", .str "ignore", .str "die"])
  have e3 := Ext.upd h3 (o := .tup [.str "done", .str "ignore", .str "ignore", .str "ignore"])
  have e13 := (e1.trans e2).trans e3
  have e4 := Ext.upd hlw (o := .lst [.ref t1, .ref t2, .ref t3])
  have hlw0 : H lw = none := by
    cases q : H lw with
    | none => rfl
    | some o => rw [e13 _ _ q] at hlw; cases hlw
  refine ⟨_, rfl, .inl ⟨rfl, _, SqL.of upd_same⟩, by show 4 ≤ sizeLine; decide, fun t4 h4 => ⟨lw, _, _, rfl, rfl, Ext.upd h4 _ _ upd_same, by show 3 < sizeLine; decide, ?_⟩⟩
  have e5 := Ext.upd h4 (o := .tup [.str "ok", .str "ignore", .str "ignore", .str "ignore"])
  have u6 : Up lw (L2.upd (L2.upd (L2.upd (L2.upd (L2.upd H t1 (.tup [.str "ok", .str "bad", .str "ignore", .str "bad"])) t2 (.tup [.str "ok", .str "die", .str "ignore", .str "die"])) t3 (.tup [.str "done", .str "ignore", .str "ignore", .str "ignore"])) lw (.lst [.ref t1, .ref t2, .ref t3])) t4 (.tup [.str "ok", .str "ignore", .str "ignore", .str "ignore"])) (L2.upd (L2.upd (L2.upd (L2.upd (L2.upd (L2.upd H t1 (.tup [.str "ok", .str "bad", .str "ignore", .str "bad"])) t2 (.tup [.str "ok", .str "die", .str "ignore", .str "die"])) t3 (.tup [.str "done", .str "ignore", .str "ignore", .str "ignore"])) lw (.lst [.ref t1, .ref t2, .ref t3])) t4 (.tup [.str "ok", .str "ignore", .str "ignore", .str "ignore"])) lw (.lst ([.ref t1, .ref t2, .ref t3] ++ [.ref t4]))) := Up.upd
  have f6 := u6.fx (e5 _ _ upd_same) (by simp [Fixd])
  have eG : Ext H _ := ((Up.ext (e13.trans (e4.trans e5))).trans u6).free hlw0
  have k1 : SqT K _ t1 (axnV (axnOf .ok .bad .ign .bad)) := sqT_fx (sqT_fx (sqT_fx (sqT_fx (sqT_fx SqT.new e2.fx) e3.fx) e4.fx) e5.fx) f6
  have k2 : SqT K _ t2 (axnV (axnOf .ok .die .ign .die)) := sqT_fx (sqT_fx (sqT_fx (sqT_fx SqT.new e3.fx) e4.fx) e5.fx) f6
  have k3 : SqT K _ t3 (axnV (axnOf .done .ign .ign .ign)) := sqT_fx (sqT_fx (sqT_fx SqT.new e4.fx) e5.fx) f6
  have k4 : SqT K _ t4 (axnV (axnOf .ok .ign .ign .ign)) := sqT_fx SqT.new f6
  have hwG : (L2.upd (L2.upd (L2.upd (L2.upd (L2.upd (L2.upd H t1 (.tup [.str "ok", .str "bad", .str "ignore", .str "bad"])) t2 (.tup [.str "ok", .str "die", .str "ignore", .str "die"])) t3 (.tup [.str "done", .str "ignore", .str "ignore", .str "ignore"])) lw (.lst [.ref t1, .ref t2, .ref t3])) t4 (.tup [.str "ok", .str "ignore", .str "ignore", .str "ignore"])) lw (.lst ([.ref t1, .ref t2, .ref t3] ++ [.ref t4]))) lw = some (.lst [.ref t1, .ref t2, .ref t3, .ref t4]) := upd_same
  generalize (L2.upd (L2.upd (L2.upd (L2.upd (L2.upd (L2.upd H t1 (.tup [.str "ok", .str "bad", .str "ignore", .str "bad"])) t2 (.tup [.str "ok", .str "die", .str "ignore", .str "die"])) t3 (.tup [.str "done", .str "ignore", .str "ignore", .str "ignore"])) lw (.lst [.ref t1, .ref t2, .ref t3])) t4 (.tup [.str "ok", .str "ignore", .str "ignore", .str "ignore"])) lw (.lst ([.ref t1, .ref t2, .ref t3] ++ [.ref t4]))) = G at eG k1 k2 k3 k4 hwG ⊢
  have hrG := hrow.ext eG
  obtain ⟨ri, rs, rr, hrat⟩ := hrow.at
  have nlw : lw ≠ row := fun e => by rw [e, hrat] at hlw0; cases hlw0
  refine ⟨_, rfl, false, rfl, iteF ⟨_, rfl, row, sc, 2, rfl, hrG, by decide, by decide, fun dn H1 hdn u1 hr1 => ⟨rfl, _, rfl, ?_⟩⟩⟩
  have w1 := u1 _ _ nlw hwG
  have uu1 : Up row H H1 := (Up.ext eG).trans u1
  refine ite2 (fun hd0 => ?_) fun hd0 => ?_
  · refine ⟨_, rfl, _, rfl, row, sc, 4, rfl, hr1, by decide, by decide, fun d2 H2 hd2 u2 hr2 => ?_⟩
    have f12 := (hrG.fx u1).trans (hr1.fx u2)
    have w2 := u2 _ _ nlw w1
    have uu2 := uu1.trans u2
    match d2, hd2 with
    | 0, _ => exact ⟨lw, _, _, _, rfl, rfl, SqL.of w2, atI_nat (j := 0) rfl, q t1 _ H2 uu2 hr2 (sqT_fx k1 f12)⟩
    | 1, _ => exact ⟨lw, _, _, _, rfl, rfl, SqL.of w2, atI_nat (j := 1) rfl, q t2 _ H2 uu2 hr2 (sqT_fx k2 f12)⟩
    | 2, _ => exact ⟨lw, _, _, _, rfl, rfl, SqL.of w2, atI_nat (j := 2) rfl, q t3 _ H2 uu2 hr2 (sqT_fx k3 f12)⟩
    | 3, _ => exact ⟨lw, _, _, _, rfl, rfl, SqL.of w2, atI_nat (j := 3) rfl, q t4 _ H2 uu2 hr2 (sqT_fx k4 f12)⟩
  · refine ⟨by show 9 ≤ sizeLine; decide, fun la hla => ?_⟩
    have e7 := Ext.upd hla (o := .lst [.str "ok", .str "bad", .str "die", .str "done", .str "ignore", .str "reset", .int 1, .int 2, .int 9])
    have hr7 := hr1.ext e7
    have uu7 : Up row H _ := uu1.trans (Up.ext e7)
    have hla7 : L2.upd H1 la (.lst [.str "ok", .str "bad", .str "die", .str "done", .str "ignore", .str "reset", .int 1, .int 2, .int 9]) la = some (.lst [.str "ok", .str "bad", .str "die", .str "done", .str "ignore", .str "reset", .int 1, .int 2, .int 9]) := upd_same
    obtain ⟨_, _, _, hr1at⟩ := hr1.at
    have nla : la ≠ row := fun e => by rw [e, hr1at] at hla; cases hla
    generalize L2.upd H1 la (.lst [.str "ok", .str "bad", .str "die", .str "done", .str "ignore", .str "reset", .int 1, .int 2, .int 9]) = H7 at e7 hr7 uu7 hla7 ⊢
    refine ⟨4, rfl, by decide, by decide, fun Dl hDl => ?_⟩
    have hr8 := hr7.ext (Ext.upd hDl (o := .lst []))
    obtain ⟨_, _, _, hr7at⟩ := hr7.at
    have nD : Dl ≠ row := fun e => by rw [e, hr7at] at hDl; cases hDl
    have nDa : la ≠ Dl := fun e => by rw [← e, hla7] at hDl; cases hDl
    refine lc_range (lo := 0) (n := 4) (fun j G => Up row H7 G ∧ RowIn K G row sc ∧ ∃ xs : List Axn, xs.length = j ∧ G Dl = some (.lst (xs.map Axn.v))) ⟨Up.new hDl, hr8, [], rfl, upd_same⟩ (fun j G hj ⟨u, hrg, xs, hxl, hD⟩ => ?_) fun G ⟨u, hrg, xs, hxl, hD⟩ => ?_
    · refine ⟨rfl, _, rfl, _, rfl, row, sc, 9, rfl, hrg, by decide, by decide, fun d2 G2 hd2 u2 hr2 => ?_⟩
      have wa := u2 _ _ nla (u _ _ nla hla7)
      have hD2 := u2 _ _ nD hD
      have fin : ∀ a : Axn, ∃ acc, G2 Dl = some (.lst acc) ∧ acc.length < sizeLine ∧ (Up row H7 (L2.upd G2 Dl (.lst (acc ++ [a.v]))) ∧ RowIn K (L2.upd G2 Dl (.lst (acc ++ [a.v]))) row sc ∧ ∃ xs : List Axn, xs.length = j + 1 ∧ L2.upd G2 Dl (.lst (acc ++ [a.v])) Dl = some (.lst (xs.map Axn.v))) := fun a => by
        refine ⟨_, hD2, by rw [List.length_map]; exact lt_line (by omega), fun b o nb hb => ?_, hr2.grow hr7 (fun b o nb hb => ?_) (fun o ho => by rw [upd_ne nD.symm]; exact ho), xs ++ [a], by rw [List.length_append, hxl] <;> rfl, by rw [upd_same, List.map_append] <;> rfl⟩
        · rw [upd_ne (ne_of_none hb hDl)]; exact u2 _ _ nb (u _ _ nb hb)
        · rw [upd_ne (ne_of_none hb hDl)]; exact u2 _ _ nb (u _ _ nb hb)
      match d2, hd2 with
      | 0, _ => exact ⟨la, _, _, _, rfl, rfl, SqL.of wa, atI_nat (j := 0) rfl, fin .ok⟩
      | 1, _ => exact ⟨la, _, _, _, rfl, rfl, SqL.of wa, atI_nat (j := 1) rfl, fin .bad⟩
      | 2, _ => exact ⟨la, _, _, _, rfl, rfl, SqL.of wa, atI_nat (j := 2) rfl, fin .die⟩
      | 3, _ => exact ⟨la, _, _, _, rfl, rfl, SqL.of wa, atI_nat (j := 3) rfl, fin .done⟩
      | 4, _ => exact ⟨la, _, _, _, rfl, rfl, SqL.of wa, atI_nat (j := 4) rfl, fin .ign⟩
      | 5, _ => exact ⟨la, _, _, _, rfl, rfl, SqL.of wa, atI_nat (j := 5) rfl, fin .reset⟩
      | 6, _ => exact ⟨la, _, _, _, rfl, rfl, SqL.of wa, atI_nat (j := 6) rfl, fin .j1⟩
      | 7, _ => exact ⟨la, _, _, _, rfl, rfl, SqL.of wa, atI_nat (j := 7) rfl, fin .j2⟩
      | 8, _ => exact ⟨la, _, _, _, rfl, rfl, SqL.of wa, atI_nat (j := 8) rfl, fin .j9⟩
    · refine ⟨Dl, _, rfl, .inl ⟨SqL.of hD, fun nl hnl => ?_⟩⟩
      match xs, hxl with
      | [a, b, c, d], _ =>
        have e9 := Ext.upd hnl (o := .tup ([a, b, c, d].map Axn.v))
        exact q nl (axnOf a b c d) _ ((uu7.trans u).trans (Up.ext e9)) (hrg.ext e9) SqT.new
end
end LP

end

section
set_option Elab.async false
set_option linter.all false
set_option maxRecDepth 100000
set_option maxHeartbeats 4000000
/-! The law's plain. -/
namespace LP
open PySem PySem.Spec PyProof.Rows L2 LK LT LD LR
theorem dep_snoc {d : Nat} {es : List Ent} {r : Rul} (h : Dep (d + 1) es) : Dep (d + 1) (es ++ [.rule r]) := by
  cases d with
  | zero =>
    intro e he
    rcases List.mem_append.mp he with he | he
    · exact h e he
    · exact ⟨r, List.mem_singleton.mp he⟩
  | succ d => trivial
def nmV : List V := [.str "key", .str "pin", .str "card"]
theorem nm_mdl {v : V} (h : v ∈ nmV) : ∃ m : Mdl, v = .str m.s := by
  have h' : v = .str "key" ∨ v = .str "pin" ∨ v = .str "card" := by simpa [nmV] using h
  rcases h' with e | e | e
  · exact ⟨.key, e⟩
  · exact ⟨.pin, e⟩
  · exact ⟨.card, e⟩
section
variable {P : Program} {w : World} {K : PySem.W.Frag} {mg : Str → Option Value} {base : Heap} {z : Ad}
def spPlain (K : PySem.W.Frag) (d : Nat) : Sp := fun vs H Q _ => ∃ (Z : Addr → Prop) (row sc nl : Addr) (most : Int), vs = [V.ref row, V.ref nl, V.int most, V.int ((d : Nat) : Int), V.bl false] ∧ 1 ≤ d ∧ d ≤ 2 ∧ RowIn K H row sc ∧ (∀ a, H a = none → Z a) ∧ (∀ a, Z a → a ≠ row) ∧ H nl = some (.lst nmV) ∧ nl ≠ row ∧ 0 ≤ most ∧ most ≤ 5 ∧
  ∀ l es H', Up row H H' → RowIn K H' row sc → PlainAt Z K H' l es → Dep d es → es.length ≤ 4 → ((flat es).length : Int) ≤ most → Q (.ref l) H'
theorem c_plain (T : Txt K mg z) (D : Dfn K mg "_law_plain" s_law_plain) (CT : Cal P w K mg base 1 "_law_taken" (spTaken K)) (CP : Cal P w K mg base 2 "_law_pick" (spPick K)) (CB : Cal P w K mg base 2 "_law_table" (spTbl K)) (CR : Cal P w K mg base 2 "_law_rules" (spRls K 1)) : ∀ d : Nat, Cal P w K mg base (d + 3) "_law_plain" (spPlain K d) := by
  intro d
  induction d with
  | zero =>
    obtain ⟨f, fd, hm, F⟩ := D.ex
    exact ⟨f, fun _ _ _ _ _ _ _ _ _ _ _ ⟨_, _, _, _, _, _, h, _⟩ => absurd h (by decide), hm, F.kp⟩
  | succ d ih =>
    refine D.cal (k := d + 3) sc_law_plain (fun _ _ _ _ _ _ us hl => match us, hl with | [_, _, _, _, _], _ => rfl) (fun vs H Q E ⟨Z, row, sc, nl, most, h, _⟩ => by rw [h]; rfl) fun f cdv A outer s H vs Q E hr ⟨Z, row, sc, nl, most, hv, hd1, hd2, hrow, hZ, hZr, hnl, hnr, hm0, hm5, q⟩ => ⟨_, PSs.nox
      (pss_cons (ps_par (i := 5) (j := 6) (by rfl) sc_law_plain.nd rfl rfl (by decide) rfl rfl (pa_cons (pe_lst pa_nil) (pa_cons (pv 2) pa_nil)) (by rfl))
      (pss_cons (ps_for PassesOwn.never rfl (pi_range1 rfl T.f_range (pa_cons (pe_c CT hr (by omega) rfl (pa_cons (pv 0) (pa_cons pe_int pa_nil))) pa_nil)) (pg_name (i := 7) sc_law_plain.nd rfl (Or.inl rfl))
        (pss_one (ps_if (PW.pt (pw_and (pt_cmpR op_gt (pv 3) pe_int (nomark _)) (pw_and (pt_cmpR op_gt (pv 6) pe_int (nomark _)) (pw_and1 (pt_cmpR op_eq (pe_c CT hr (by omega) rfl (pa_cons (pv 0) (pa_cons pe_int pa_nil))) pe_int (nomark _))))))
          (pss_cons (ps_set (i := 8) sc_law_plain.nd rfl (Or.inl rfl) (pe_c ih hr (by omega) rfl (pa_cons (pv 0) (pa_cons (pv 1) (pa_cons (pe_callB (call_min2 rfl) (by rfl) T.f_min boot_min (pa_cons (pv 6) (pa_cons pe_int pa_nil))) (pa_cons (pe_op op_sub (pv 3) pe_int) (pa_cons (pv 4) pa_nil)))))))
          (pss_cons (ps_expr (pe_bm PySem.F.plainAttrs_list PySem.F.slot_list_append PySem.F.type_list_append mt_append (pv 5) (pa_cons (pv 8) pa_nil)))
          (pss_one (ps_set (i := 6) sc_law_plain.nd rfl (Or.inl rfl) (pe_op op_sub (pv 6) (pe_callB call_len (by rfl) T.f_len boot_len (pa_cons (pe_c CR hr (by omega) rfl (pa_cons (pv 8) pa_nil)) pa_nil)))))))
          (pss_one (ps_if (pt_cmpR op_gt (pv 6) pe_int (nomark _))
            (pss_cons (ps_expr (pe_bm PySem.F.plainAttrs_list PySem.F.slot_list_append PySem.F.type_list_append mt_append (pv 5) (pa_cons (pe_tup (pa_cons (pe_c CP hr (by omega) rfl (pa_cons (pv 0) (pa_cons (pv 1) pa_nil))) (pa_cons (pe_c CB hr (by omega) rfl (pa_cons (pv 0) (pa_cons (pv 4) pa_nil))) pa_nil))) pa_nil)))
            (pss_one (ps_set (i := 6) sc_law_plain.nd rfl (Or.inl rfl) (pe_op op_sub (pv 6) pe_int)))) pss_nil)))))
      (pss_one (ps_ret (pv 5))))), ?_⟩
    subst hv
    refine ⟨by show 0 ≤ sizeLine; decide, fun lf hlf => ⟨_, rfl, _, _, rfl, ?_⟩⟩
    have e1 := Ext.upd hlf (o := .lst [])
    have hr1 := hrow.ext e1
    have hf1 : L2.upd H lf (.lst []) lf = some (.lst []) := upd_same
    obtain ⟨_, _, _, hrat⟩ := hrow.at
    have nfr : lf ≠ row := fun e => by rw [e, hrat] at hlf; cases hlf
    have Zf : ∀ a, H a = none → a ≠ lf → Z a ∧ a ≠ lf := fun a h n => ⟨hZ a h, n⟩
    generalize L2.upd H lf (.lst []) = H1 at e1 hr1 hf1 ⊢
    refine ⟨_, rfl, row, sc, 5, rfl, hr1, by decide, by decide, fun dn H2 hdn u2 hr2 => ?_⟩
    have hf2 := u2 _ _ nfr hf1
    have u02 : Up row H H2 := (Up.ext e1).trans u2
    refine ⟨_, rfl, by omega, by omega, ?_⟩
    refine for_range (lo := 0) (n := dn) (fun i σ G => ∃ es as x7 x8, σ = [some (V.ref row), some (V.ref nl), some (V.int most), some (V.int ((d + 1 : Nat) : Int)), some (V.bl false), some (V.ref lf), some (V.int (most - ((flat es).length : Int))), x7, x8] ∧ Up row H G ∧ RowIn K G row sc ∧ G lf = some (.lst as) ∧ Paired (PEntV (fun a => Z a ∧ a ≠ lf) K G) as es ∧ Dep (d + 1) es ∧ es.length ≤ i ∧ ((flat es).length : Int) ≤ most)
      ⟨[], [], none, none, ?_, u02, hr2, hf2, .nil, ?_, Nat.le_refl _, by show (0 : Int) ≤ most; exact hm0⟩ ?_ ?_
    · show _ = [some (V.ref row), some (V.ref nl), some (V.int most), some (V.int ((d + 1 : Nat) : Int)), some (V.bl false), some (V.ref lf), some (V.int (most - 0)), none, none]
      rw [Int.sub_zero] <;> rfl
    · exact dep_rules d []
    · rintro i σ G hi ⟨es, as, x7, x8, rfl, u, hrG, hG, hpa, hdp, hel, hfl⟩
      have hal := Paired.len hpa
      have hff := hfl
      -- an entry appended
      have fin : ∀ (v : V) (e : Ent) (G2 : Hp), Up row G G2 → RowIn K G2 row sc → PEntV (fun a => Z a ∧ a ≠ lf) K G2 v e → (Dep (d + 1) (es ++ [e])) →
          G2 lf = some (.lst as) ∧ as.length < sizeLine ∧ Up row H (L2.upd G2 lf (.lst (as ++ [v]))) ∧ RowIn K (L2.upd G2 lf (.lst (as ++ [v]))) row sc ∧ L2.upd G2 lf (.lst (as ++ [v])) lf = some (.lst (as ++ [v])) ∧ Paired (PEntV (fun a => Z a ∧ a ≠ lf) K (L2.upd G2 lf (.lst (as ++ [v])))) (as ++ [v]) (es ++ [e]) ∧ (es ++ [e]).length ≤ i + 1 ∧ Fx G2 (L2.upd G2 lf (.lst (as ++ [v]))) := fun v e G2 u2' hr2' hev hdp2 => by
        have hG2 := u2' _ _ nfr hG
        have f3 : Fx G2 (L2.upd G2 lf (.lst (as ++ [v]))) := Fx.upd hG2 (by simp [Fixd])
        have up3 : ∀ b o, b ≠ row → H b = some o → L2.upd G2 lf (.lst (as ++ [v])) b = some o := fun b o nb hb => by rw [upd_ne (ne_of_none hb hlf)]; exact u2' _ _ nb (u _ _ nb hb)
        refine ⟨hG2, lt_line (by omega), up3, hr2'.grow hrow up3 (fun o ho => by rw [upd_ne nfr.symm]; exact ho), upd_same, ?_, by rw [List.length_append]; show _ + 1 ≤ _; omega, f3⟩
        have k3 : ∀ l xs, (Z l ∧ l ≠ lf) → G2 l = some (.lst xs) → L2.upd G2 lf (.lst (as ++ [v])) l = some (.lst xs) := fun l xs zl h => by rw [upd_ne zl.2]; exact h
        refine Paired.app (PEntV.all (PEntV.all hpa (hrG.fx u2') fun l xs zl h => u2' _ _ (hZr _ zl.1) h) f3 k3) (.cons (PEntV.to hev f3 k3) .nil)
      refine ⟨_, rfl, _, _, rfl, rfl, _, rfl, ?_⟩
      have elifB : ∀ G2, Up row G G2 → RowIn K G2 row sc → (∃ es' as' x7' x8', [some (V.ref row), some (V.ref nl), some (V.int most), some (V.int ((d + 1 : Nat) : Int)), some (V.bl false), some (V.ref lf), some (V.int (most - ((flat es).length : Int))), some (V.int (0 + ((i : Nat) : Int))), x8] = [some (V.ref row), some (V.ref nl), some (V.int most), some (V.int ((d + 1 : Nat) : Int)), some (V.bl false), some (V.ref lf), some (V.int (most - ((flat es').length : Int))), x7', x8'] ∧ Up row H G2 ∧ RowIn K G2 row sc ∧ G2 lf = some (.lst as') ∧ Paired (PEntV (fun a => Z a ∧ a ≠ lf) K G2) as' es' ∧ Dep (d + 1) es' ∧ es'.length ≤ i + 1 ∧ ((flat es').length : Int) ≤ most) := fun G2 u2' hr2' =>
        ⟨es, as, _, _, rfl, u.trans u2', hr2', u2' _ _ nfr hG, PEntV.all hpa (hrG.fx u2') fun l xs zl h => u2' _ _ (hZr _ zl.1) h, hdp, by omega, hfl⟩
      have uG : Up row G G := Up.refl
      refine ite2 (fun hdeep => ?_) fun hdeep => ?_
      · have hdg : (1 : Int) < ((d + 1 : Nat) : Int) := of_decide_eq_true hdeep
        have ed : d = 1 := by omega
        refine ⟨_, rfl, _, _, rfl, rfl, _, rfl, ?_⟩
        refine ite2 (fun hleft => ?_) fun hleft => ?_
        · have hleft' : 0 < most - ((flat es).length : Int) := of_decide_eq_true hleft
          refine ⟨_, rfl, row, sc, 4, rfl, hrG, by decide, by decide, fun d4 G1 hd4 u1 hr1' => ⟨rfl, _, rfl, ?_⟩⟩
          refine ite2 (fun h0 => ?_) fun h0 => ?_
          · have hfr : ∀ a, G1 a = none → Z a ∧ a ≠ lf := fun a ha => ⟨hZ a (hr1'.none (u.trans u1) ha), fun e => by rw [e, u1 _ _ nfr hG] at ha; cases ha⟩
            refine ⟨_, rfl, _, rfl, _, rfl, _, _, rfl, _, rfl, _, _, rfl, rfl, _, rfl, ?_⟩
            refine ⟨fun a => Z a ∧ a ≠ lf, row, sc, nl, if (3 : Int) < most - ((flat es).length : Int) then (3 : Int) else most - ((flat es).length : Int), ?_, by omega, by omega, hr1', hfr, fun a za => hZr _ za.1, u1 _ _ hnr (u _ _ hnr hnl), hnr, ?_, ?_, fun l' es' G2 u2' hr2' hpl hdep' hlen' hfl' => ?_⟩
            · show [_, _, _, V.int (((d + 1 : Nat) : Int) - 1), _] = _
              rw [show ((d + 1 : Nat) : Int) - 1 = ((d : Nat) : Int) by omega] <;> rfl
            · show 0 ≤ if (3 : Int) < most - ((flat es).length : Int) then (3 : Int) else most - ((flat es).length : Int)
              split <;> omega
            · show (if (3 : Int) < most - ((flat es).length : Int) then (3 : Int) else most - ((flat es).length : Int)) ≤ 5
              split <;> omega
            · have hfl2 : ((flat es').length : Int) ≤ most - ((flat es).length : Int) := by
                have h9 : ((flat es').length : Int) ≤ if (3 : Int) < most - ((flat es).length : Int) then (3 : Int) else most - ((flat es).length : Int) := hfl'
                split at h9 <;> omega
              subst ed
              obtain ⟨rs, rfl⟩ := dep1 hdep'
              rw [flat_rules] at hfl2
              obtain ⟨vs', zl, hvs', hp'⟩ := id hpl
              obtain ⟨g1, g2, g3, g4, g5, g6, g7, g8⟩ := fin (.ref l') (.inner rs) _ (u1.trans u2') hr2' ⟨l', vs', rfl, zl, hvs', unrules hp'⟩ trivial
              refine ⟨_, rfl, .inl ⟨rfl, _, SqL.of g1⟩, _, rfl, lf, _, _, rfl, rfl, g1, g2, ?_⟩
              refine ⟨_, rfl, _, rfl, _, l', rs.map .rule, rfl, hpl.up Up.upd g1 (fun a za => za.2), hdep', by rw [flat_rules]; omega, fun l2 vs2 G4 e4 h4 p4 => ⟨_, _, rfl, .inl ⟨_, SqL.of h4, rfl⟩, _, _, rfl, rfl, ?_⟩⟩
              have hl2 := Paired.len p4
              rw [flat_rules] at hl2
              have efl : (flat (es ++ [Ent.inner rs])).length = (flat es).length + rs.length := by
                rw [flat_append, List.length_append, flat_cons, flat_nil, List.append_nil] <;> rfl
              refine ⟨es ++ [Ent.inner rs], _, some (V.int (0 + ((i : Nat) : Int))), some (V.ref l'), ?_, g3.trans (Up.ext e4), g4.ext e4, e4 _ _ g5, PEntV.allE g6 e4, trivial, g7, by omega⟩
              rw [show most - ((flat (es ++ [Ent.inner rs])).length : Int) = most - ((flat es).length : Int) - ((vs2.length : Nat) : Int) by omega] <;> rfl
          · skip
            refine ⟨_, rfl, _, _, rfl, rfl, _, rfl, ?_⟩
            refine ite2 (fun hl => ?_) fun hl => ?_
            · have hl' : 0 < most - ((flat es).length : Int) := of_decide_eq_true hl
              refine ⟨_, rfl, .inl ⟨rfl, _, SqL.of (u1 _ _ nfr hG)⟩, _, rfl, _, rfl, row, sc, nl, nmV, rfl, hr1', u1 _ _ hnr (u _ _ hnr hnl), hnr, by decide, by decide, fun v G2 hvm u2' hr2' => ?_⟩
              obtain ⟨m, rfl⟩ := nm_mdl hvm
              refine ⟨_, rfl, _, rfl, row, sc, rfl, hr2', fun t a G3 u3 hr3 ht => ⟨by show 2 ≤ sizeLine; decide, fun tp htp => ?_⟩⟩
              have e4 := Ext.upd htp (o := .tup [.str m.s, .ref t])
              obtain ⟨g1, g2, g3, g4, g5, g6, g7, g8⟩ := fin (.ref tp) (.rule ⟨m, a⟩) _ ((u1.trans (u2'.trans u3)).trans (Up.ext e4)) (hr3.ext e4) ⟨tp, t, rfl, SqT.new, sqT_fx ht e4.fx⟩ (dep_snoc hdp)
              refine ⟨lf, _, _, rfl, rfl, g1, g2, ?_⟩
              have efl : (flat (es ++ [Ent.rule ⟨m, a⟩])).length = (flat es).length + 1 := by rw [flat_append, List.length_append] <;> rfl
              refine ⟨_, rfl, _, _, rfl, rfl, es ++ [Ent.rule ⟨m, a⟩], _, some (V.int (0 + ((i : Nat) : Int))), x8, ?_, g3, g4, g5, g6, dep_snoc hdp, g7, by omega⟩
              rw [show most - ((flat (es ++ [Ent.rule ⟨m, a⟩])).length : Int) = most - ((flat es).length : Int) - 1 by omega] <;> rfl
            · exact elifB _ u1 hr1'
        · skip
          refine ⟨_, rfl, _, _, rfl, rfl, _, rfl, ?_⟩
          refine ite2 (fun hl => ?_) fun hl => ?_
          · have hl' : 0 < most - ((flat es).length : Int) := of_decide_eq_true hl
            refine ⟨_, rfl, .inl ⟨rfl, _, SqL.of (uG _ _ nfr hG)⟩, _, rfl, _, rfl, row, sc, nl, nmV, rfl, hrG, uG _ _ hnr (u _ _ hnr hnl), hnr, by decide, by decide, fun v G2 hvm u2' hr2' => ?_⟩
            obtain ⟨m, rfl⟩ := nm_mdl hvm
            refine ⟨_, rfl, _, rfl, row, sc, rfl, hr2', fun t a G3 u3 hr3 ht => ⟨by show 2 ≤ sizeLine; decide, fun tp htp => ?_⟩⟩
            have e4 := Ext.upd htp (o := .tup [.str m.s, .ref t])
            obtain ⟨g1, g2, g3, g4, g5, g6, g7, g8⟩ := fin (.ref tp) (.rule ⟨m, a⟩) _ ((uG.trans (u2'.trans u3)).trans (Up.ext e4)) (hr3.ext e4) ⟨tp, t, rfl, SqT.new, sqT_fx ht e4.fx⟩ (dep_snoc hdp)
            refine ⟨lf, _, _, rfl, rfl, g1, g2, ?_⟩
            have efl : (flat (es ++ [Ent.rule ⟨m, a⟩])).length = (flat es).length + 1 := by rw [flat_append, List.length_append] <;> rfl
            refine ⟨_, rfl, _, _, rfl, rfl, es ++ [Ent.rule ⟨m, a⟩], _, some (V.int (0 + ((i : Nat) : Int))), x8, ?_, g3, g4, g5, g6, dep_snoc hdp, g7, by omega⟩
            rw [show most - ((flat (es ++ [Ent.rule ⟨m, a⟩])).length : Int) = most - ((flat es).length : Int) - 1 by omega] <;> rfl
          · exact elifB _ uG hrG
      · skip
        refine ⟨_, rfl, _, _, rfl, rfl, _, rfl, ?_⟩
        refine ite2 (fun hl => ?_) fun hl => ?_
        · have hl' : 0 < most - ((flat es).length : Int) := of_decide_eq_true hl
          refine ⟨_, rfl, .inl ⟨rfl, _, SqL.of (uG _ _ nfr hG)⟩, _, rfl, _, rfl, row, sc, nl, nmV, rfl, hrG, uG _ _ hnr (u _ _ hnr hnl), hnr, by decide, by decide, fun v G2 hvm u2' hr2' => ?_⟩
          obtain ⟨m, rfl⟩ := nm_mdl hvm
          refine ⟨_, rfl, _, rfl, row, sc, rfl, hr2', fun t a G3 u3 hr3 ht => ⟨by show 2 ≤ sizeLine; decide, fun tp htp => ?_⟩⟩
          have e4 := Ext.upd htp (o := .tup [.str m.s, .ref t])
          obtain ⟨g1, g2, g3, g4, g5, g6, g7, g8⟩ := fin (.ref tp) (.rule ⟨m, a⟩) _ ((uG.trans (u2'.trans u3)).trans (Up.ext e4)) (hr3.ext e4) ⟨tp, t, rfl, SqT.new, sqT_fx ht e4.fx⟩ (dep_snoc hdp)
          refine ⟨lf, _, _, rfl, rfl, g1, g2, ?_⟩
          have efl : (flat (es ++ [Ent.rule ⟨m, a⟩])).length = (flat es).length + 1 := by rw [flat_append, List.length_append] <;> rfl
          refine ⟨_, rfl, _, _, rfl, rfl, es ++ [Ent.rule ⟨m, a⟩], _, some (V.int (0 + ((i : Nat) : Int))), x8, ?_, g3, g4, g5, g6, dep_snoc hdp, g7, by omega⟩
          rw [show most - ((flat (es ++ [Ent.rule ⟨m, a⟩])).length : Int) = most - ((flat es).length : Int) - 1 by omega] <;> rfl
        · exact elifB _ uG hrG
    · rintro σ G ⟨es, as, x7, x8, rfl, u, hrG, hG, hpa, hdp, hel, hfl⟩
      exact ⟨_, rfl, q lf es G u hrG ⟨as, hZ lf hlf, hG, Paired.imp (fun _ _ h => PEntV.zimp h fun a z => z.1) hpa⟩ hdp (by omega) hfl⟩
end
end LP

end

section
set_option Elab.async false
set_option linter.all false
set_option maxRecDepth 100000
set_option maxHeartbeats 4000000
/-! The law's modules, made, turned, acted. -/
namespace LP
open PySem PySem.Spec PyProof.Rows L2 LK LT LD LR
section
variable {P : Program} {w : World} {K : PySem.W.Frag} {mg : Str → Option Value} {base : Heap} {z : Ad}
def spModsL (K : PySem.W.Frag) : Sp := fun vs H Q _ => ∃ Z l es, vs = [V.ref l] ∧ PlainAt Z K H l es ∧ Fits es ∧ ∀ l' H', Ext H H' → H' l' = some (.lst (namesV (mods es))) → Q (.ref l') H'
theorem c_modsL (T : Txt K mg z) (D : Dfn K mg "_law_modules" s_law_modules) (CR : Cal P w K mg base 3 "_law_rules" (spRls K 2)) : Cal P w K mg base 4 "_law_modules" (spModsL K) := by
  refine D.cal (k := 3) sc_law_modules (fun _ _ _ _ _ _ us hl => match us, hl with | [_], _ => rfl) (fun vs H Q E ⟨Z, l, es, h, _⟩ => by rw [h]; rfl) fun f cdv A outer s H vs Q E hr ⟨Z, l, es, hv, hpl, hf, q⟩ => ⟨_, PSs.nox
    (pss_one (ps_ret (pe_callB (LKS.cr_sortedSet rfl) (by rfl) T.f_sorted boot_sorted (pa_cons (pe_callTy (LKS.cr_setOf rfl) (by rfl) T.f_set PyProof.Rows.boot_set (pa_cons
        (pe_lc (own := [("_law_rule", 1)]) (g := gName 1) (tt := tYes) (te := tOp (rIxT K) (tVar 1) (tC (.int 0))) rfl sc_law_modules.nd (pi_list (pe_c CR hr (by decide) rfl (pa_cons (pv 0) pa_nil))) (blkOk_by (N := ["_law_plain_here", "_law_rule"]) (sc := defScope s_law_modules) (by decide +kernel)) (fun _ _ _ _ _ => pg_name (i := 1) sc_law_modules.nd rfl (Or.inl rfl)) (fun _ _ _ _ _ => pts_nil)
          (fun _ _ _ _ _ => pe_ix ix_tup (pv 1) pe_int (fun _ _ => rfl))) pa_nil)) pa_nil)))), ?_⟩
  subst hv
  have hff := hf.2
  refine ⟨_, rfl, Z, l, es, rfl, hpl, trivial, by omega, fun lr vr H1 e1 hlr hp => ⟨lr, rfl, ⟨vr, SqL.of hlr⟩, fun Dl hDl => ?_⟩⟩
  have hln := Paired.len hp
  refine lc_list (xs := vr) (fun j G => Ext H1 G ∧ G Dl = some (.lst ((((flat es).take j).map fun r => r.m.s).map V.str))) ⟨Ext.upd hDl, upd_same⟩ (fun j G _ ⟨e, _⟩ => SqL.of (e _ _ hlr)) (fun j x G hx ⟨e, has⟩ => ?_) fun G ⟨e, has⟩ => ?_
  · have hj : j < (flat es).length := by rw [← hln]; exact (List.getElem?_eq_some_iff.mp hx).1
    have hr' := List.getElem?_eq_getElem hj
    obtain ⟨t, a, rfl, ht, ha⟩ := PRuleV.fx (Paired.get' hp hx hr') e.fx
    refine ⟨rfl, _, rfl, t, _, _, _, rfl, rfl, ht, atI_nat (j := 0) rfl, _, has, by rw [List.length_map, List.length_map, List.length_take]; exact lt_line (by omega), ?_, ?_⟩
    · intro a' o' h'
      rw [upd_ne (fun e => by subst e; rw [hDl] at h'; cases h')]
      exact e _ _ h'
    · rw [upd_same, take_map_succ _ hr', List.map_append] <;> rfl
  · rw [hln, List.take_length] at has
    refine ⟨Dl, (flat es).map (fun r => r.m.s), rfl, .inl (SqL.of has), by rw [List.length_map]; omega, fun sa cN hsa hcN => ?_⟩
    rw [List.length_map] at hcN
    refine ⟨sa, _, cN, rfl, upd_same, by omega, fun ns pl hs hnd hm hlen hpl => ?_⟩
    have hns : ns = (modsR (flat es)).map Mdl.s := by
      rw [mods_set]
      refine sorted_mods (ks := (flat es).map (fun r => r.m.s)) hs hnd hm fun k => ?_
      rw [List.mem_map]
      constructor
      · rintro ⟨r, hr, e⟩; exact ⟨r.m, List.mem_map.mpr ⟨r, hr, rfl⟩, e.symm⟩
      · rintro ⟨m, hm, e⟩
        obtain ⟨r, hr, e2⟩ := List.mem_map.mp hm
        exact ⟨r, hr, by rw [e2, e]⟩
    refine q pl _ ((e1.trans e).trans ((Ext.upd hsa).trans (Ext.upd hpl))) ?_
    rw [upd_same, hns, namesV_eq] <;> rfl
theorem mk0_ok {σ : L2.St} {H : Hp} {Q : VK} {d : Nat} (hd : d ≤ 2) (q : ∀ b H', Ext H H' → StkAt K z (d + 1) H' b [] → Q (.ref b) H') : StX.tMakeR z.cS (spStk K z) E0 tNil σ H Q := fun x dx hx hdx ne =>
  stk_made (K := K) (z := z) (d := d) (ps := []) (es := []) (Q := Q) hx hdx ne .nil (by decide) (by decide) hd q
/-- a stack, one entry more -/
theorem grow_stk {G : Hp} {b c x dx : Addr} {d : Nat} {es : List Ent} {e : Ent} {Q : VK} (hb : StkAt K z (d + 1) G b es) (hc : EntAt K z d G c e) (hd : d ≤ 2) (hf : Fits (es ++ [e])) (hx : G x = none) (hdx : G dx = none) (ne : dx ≠ x)
    (q : ∀ b' G', Ext G G' → StkAt K z (d + 1) G' b' (es ++ [e]) → Q (.ref b') G') :
    spStk K z [V.ref x, V.ref c] (L2.upd (L2.upd G dx (.own x)) x (.ins z.cS dx [])) (fun v H2 => v = .non ∧ rAddO z.cS (spAddS K z) (.ref b) (.ref x) H2 Q) E0 := by
  have hl : [e].length ≤ 12 := by show 1 ≤ 12; decide
  have hfe : (flat [e]).length ≤ 12 := by
    have h := hf.2
    rw [flat_append, List.length_append] at h
    omega
  have z1 := stk_made (z := z) (K := K) (d := d) (ps := [V.ref c]) (es := [e]) (Q := fun v H2 => rAddO z.cS (spAddS K z) (.ref b) v H2 Q) (E := E0) hx hdx ne (.cons ⟨c, rfl, hc⟩ .nil) hl hfe hd fun b1 G1 e1 hs1 => by
    have hb1 := hb.fx e1.fx
    obtain ⟨d1, f1, i1⟩ := hb1.ins
    obtain ⟨d2, f2, i2⟩ := hs1.ins
    exact ⟨b, d1, f1, b1, d2, f2, rfl, rfl, i1, i2, b, b1, d, es, [e], rfl, hb1, hs1, hf.1, hf.2, hd, fun b2 G2 e2 hs2 => q b2 G2 (e1.trans e2) hs2⟩
  exact z1
/-- made(plain): the stack -/
def spMade (K : PySem.W.Frag) (z : Ad) (d : Nat) : Sp := fun vs H Q _ => ∃ Z l es, vs = [V.ref l] ∧ PlainAt Z K H l es ∧ Dep d es ∧ Fits es ∧ d ≤ 3 ∧ ∀ b H', Ext H H' → StkAt K z d H' b es → Q (.ref b) H'
theorem c_made (T : Txt K mg z) (D : Dfn K mg "_law_made" s_law_made) (CR : Mak P w K mg base 4 "Rule" z.cR (spRule0 K z)) (CS : Mak P w K mg base 2 "Stack" z.cS (spStk K z)) (CA : Dun P w K mg base 4 z.cS "__add__" (spAddS K z)) : ∀ d : Nat, Cal P w K mg base (d + 6) "_law_made" (spMade K z d) := by
  intro d
  induction d with
  | zero =>
    obtain ⟨f, fd, hm, F⟩ := D.ex
    exact ⟨f, fun _ _ _ _ _ _ _ _ _ _ _ ⟨_, _, _, _, _, h, _⟩ => h.elim, hm, F.kp⟩
  | succ d ih =>
    refine D.cal (k := d + 6) sc_law_made (fun _ _ _ _ _ _ us hl => match us, hl with | [_], _ => rfl) (fun vs H Q E ⟨Z, l, es, h, _⟩ => by rw [h]; rfl) fun f cdv A outer s H vs Q E hr ⟨Z, l, es, hv, hpl, hdp, hf, hd3, q⟩ => ⟨_, PSs.nox
      (pss_cons (ps_set (i := 1) sc_law_made.nd rfl (Or.inl rfl) (pe_mk0 CS hr (by omega) rfl))
      (pss_cons (ps_for PassesOwn.never rfl (pi_list (pv 0)) (pg_name (i := 2) sc_law_made.nd rfl (Or.inl rfl))
        (pss_one (ps_set (i := 1) sc_law_made.nd rfl (Or.inl rfl) (pe_op (op_addO CA T.sfS (hr.mono (by omega))) (pv 1) (pe_mk CS hr (by omega) rfl (pa_cons (pe_ifExp (pt_val (pe_isB rfl T.f_isinstance rfl T.f_list PyProof.Rows.boot_list (pv 2))) (pe_c ih hr (by omega) rfl (pa_cons (pv 2) pa_nil)) (pe_mk CR hr (by omega) rfl (pa_cons (pe_ix ix_tup (pv 2) pe_int (fun _ _ => rfl)) (pa_cons (pe_ix ix_tup (pv 2) pe_int (fun _ _ => rfl)) pa_nil)))) pa_nil))))))
      (pss_one (ps_ret (pv 1))))), ?_⟩
    subst hv
    obtain ⟨vs, hzl, hvs, hp⟩ := hpl
    have hln := Paired.len hp
    have hf1 := hf.1
    have hf2 := hf.2
    refine asg_ok (mk0_ok (d := d) (by omega) fun b0 H1 e1 hs0 => ?_)
    refine ⟨_, rfl, l, rfl, ⟨vs, SqL.of (e1 _ _ hvs)⟩, ?_⟩
    refine for_list (xs := vs) (fun i σ G => ∃ x2 b, σ = [some (V.ref l), some (V.ref b), x2] ∧ Ext H G ∧ StkAt K z (d + 1) G b (es.take i)) ⟨none, b0, rfl, e1, hs0⟩ ?_ ?_ ?_
    · rintro i σ G _ ⟨x2, b, rfl, e, hb⟩
      exact SqL.of (e _ _ hvs)
    · rintro i v σ G hx ⟨x2, b, rfl, e, hb⟩
      have hi : i < es.length := by rw [← hln]; exact (List.getElem?_eq_some_iff.mp hx).1
      have hei : es[i]? = some es[i] := List.getElem?_eq_getElem hi
      have hev := (Paired.get' hp hx hei).ext e
      have hft := flat_take hei
      have hfle := flat_take_le es (i + 1)
      have hfl3 : (flat (es.take (i + 1))).length = (flat (es.take i)).length + es[i].rules.length := by rw [hft, List.length_append]
      have htk : es.take (i + 1) = es.take i ++ [es[i]] := by rw [List.take_add_one, hei] <;> rfl
      have hfit : Fits (es.take i ++ [es[i]]) := by
        rw [← htk]
        exact ⟨by rw [List.length_take]; omega, by omega⟩
      rcases entList hev with ⟨r, er, ib⟩ | ⟨rs, er, ib⟩
      · rw [er] at hev hfit htk
        obtain ⟨t, a, rfl, ht, ha⟩ := hev
        refine ⟨_, rfl, _, rfl, false, ib, false, rfl, iteF ⟨_, rfl, t, _, _, _, rfl, rfl, ht, atI_nat (j := 0) rfl, _, rfl, t, _, _, _, rfl, rfl, ht, atI_nat (j := 1) rfl, fun x dx hx hdx ne => ?_⟩⟩
        have g4 : Ext G _ := Ext.upd' (Ext.upd hdx (o := .own x)) (o := .ins z.cR dx []) (by rw [upd_ne ne.symm]; exact hx)
        refine ⟨x, dx, a, r, rfl, upd_same, sqT_fx ha g4.fx, fun G3 u3 hr3 => ⟨rfl, fun x2 dx2 hx2 hdx2 ne2 => ?_⟩⟩
        have e3 := mk_ext hx hdx u3
        refine grow_stk (K := K) (z := z) (d := d) (es := es.take i) (e := .rule r) (hb.fx e3.fx) hr3 (by omega) hfit hx2 hdx2 ne2 fun b2 G4 e4 hs4 => ?_
        rw [← htk] at hs4
        exact ⟨_, b2, rfl, (e.trans e3).trans e4, hs4⟩
      · have hin : Ent.inner rs ∈ es := by rw [← er]; exact List.getElem_mem hi
        rw [er] at hev hfit htk hfl3
        obtain ⟨li, vi, rfl, z1, h1, h2⟩ := hev
        have hrl : (flat (rs.map Ent.rule)).length = (Ent.inner rs).rules.length := by rw [flat_rules] <;> rfl
        have hrl2 : (rs.map Ent.rule).length = (Ent.inner rs).rules.length := by rw [List.length_map] <;> rfl
        refine ⟨_, rfl, _, rfl, true, ib, true, rfl, iteT ⟨_, rfl, Z, li, rs.map .rule, rfl, ⟨vi, z1, h1, prules h2⟩, dep_inner hdp hin, ⟨by omega, by omega⟩, by omega, fun c G3 e3 hs3 => fun x2 dx2 hx2 hdx2 ne2 => ?_⟩⟩
        refine grow_stk (K := K) (z := z) (d := d) (es := es.take i) (e := .inner rs) (hb.fx e3.fx) hs3 (by omega) hfit hx2 hdx2 ne2 fun b2 G4 e4 hs4 => ?_
        rw [← htk] at hs4
        exact ⟨_, b2, rfl, (e.trans e3).trans e4, hs4⟩
    · rintro σ G ⟨x2, b, rfl, e, hb⟩
      rw [hln, List.take_length] at hb
      exact ⟨_, rfl, q b G e hb⟩
end
end LP

end

section
set_option Elab.async false
set_option linter.all false
set_option maxRecDepth 100000
set_option maxHeartbeats 4000000
/-! The law's turned, acted. -/
namespace LP
open PySem PySem.Spec PyProof.Rows L2 LK LT LD LR
section
variable {P : Program} {w : World} {K : PySem.W.Frag} {mg : Str → Option Value} {base : Heap} {z : Ad}
def spTrn (K : PySem.W.Frag) (d : Nat) : Sp := fun vs H Q _ => ∃ (Z : Addr → Prop) (l n t f : Nat) (es : List Ent) (a : Res → Axn), vs = [V.ref l, V.int ((n : Nat) : Int), V.ref t, V.int ((f : Nat) : Int)] ∧ PlainAt Z K H l es ∧ (∀ a, H a = none → Z a) ∧ SqT K H t (axnV a) ∧ Dep d es ∧ Fits es ∧ ∀ l' H', Ext H H' → PlainAt Z K H' l' (turnE n a f es) → Q (.ref l') H'
theorem c_trn (T : Txt K mg z) (D : Dfn K mg "_law_turned" s_law_turned) (CR : Cal P w K mg base 2 "_law_rules" (spRls K 1)) : ∀ d : Nat, d ≤ 2 → Cal P w K mg base (d + 3) "_law_turned" (spTrn K d) := by
  intro d
  induction d with
  | zero =>
    intro _
    obtain ⟨f, fd, hm, F⟩ := D.ex
    exact ⟨f, fun _ _ _ _ _ _ _ _ _ _ _ ⟨_, _, _, _, _, _, _, _, _, _, _, h, _⟩ => h.elim, hm, F.kp⟩
  | succ d ih =>
    intro hd2
    refine D.cal (k := d + 3) sc_law_turned (fun _ _ _ _ _ _ us hl => match us, hl with | [_, _, _, _], _ => rfl) (fun vs H Q E ⟨Z, l, n, t, f, es, a, h, _⟩ => by rw [h]; rfl) fun fa cdv A outer s H vs Q E hr ⟨Z, l, n, t, f, es, a, hv, hpl, hZ, ht, hdp, hf, q⟩ => ⟨_, PSs.nox
      (pss_cons (ps_par (i := 4) (j := 5) (by rfl) sc_law_turned.nd rfl rfl (by decide) rfl rfl (pa_cons (pe_lst pa_nil) (pa_cons (pv 3) pa_nil)) (by rfl))
      (pss_cons (ps_for PassesOwn.never rfl (pi_list (pv 0)) (pg_name (i := 6) sc_law_turned.nd rfl (Or.inl rfl))
        (pss_one (ps_if (pt_val (pe_isB rfl T.f_isinstance rfl T.f_list PyProof.Rows.boot_list (pv 6)))
          (pss_cons (ps_expr (pe_bm PySem.F.plainAttrs_list PySem.F.slot_list_append PySem.F.type_list_append mt_append (pv 4) (pa_cons (pe_c (ih (by omega)) hr (by omega) rfl (pa_cons (pv 6) (pa_cons (pv 1) (pa_cons (pv 2) (pa_cons (pv 5) pa_nil))))) pa_nil)))
          (pss_one (ps_set (i := 5) sc_law_turned.nd rfl (Or.inl rfl) (pe_op op_add (pv 5) (pe_callB call_len (by rfl) T.f_len boot_len (pa_cons (pe_c CR hr (by omega) rfl (pa_cons (pv 6) pa_nil)) pa_nil))))))
          (pss_cons (ps_expr (pe_bm PySem.F.plainAttrs_list PySem.F.slot_list_append PySem.F.type_list_append mt_append (pv 4) (pa_cons (pe_ifExp (pt_cmpR op_eq (pv 5) (pv 1) (nomark _)) (pe_tup (pa_cons (pe_ix ix_tup (pv 6) pe_int (fun _ _ => rfl)) (pa_cons (pv 2) pa_nil))) (pv 6)) pa_nil)))
          (pss_one (ps_set (i := 5) sc_law_turned.nd rfl (Or.inl rfl) (pe_op op_add (pv 5) pe_int)))))))
      (pss_one (ps_ret (pv 4))))), ?_⟩
    subst hv
    obtain ⟨vs, hzl, hvs, hp⟩ := hpl
    have hln := Paired.len hp
    have hf1 := hf.1
    have hf2 := hf.2
    refine ⟨by show 0 ≤ sizeLine; decide, fun lf hlf => ⟨_, rfl, _, _, rfl, ?_⟩⟩
    refine ⟨_, rfl, l, rfl, ⟨vs, SqL.of (Ext.upd hlf _ _ hvs)⟩, ?_⟩
    refine for_list (xs := vs) (fun i σ G => ∃ x6 as, σ = [some (V.ref l), some (V.int ((n : Nat) : Int)), some (V.ref t), some (V.int ((f : Nat) : Int)), some (V.ref lf), some (V.int ((f + (flat (es.take i)).length : Nat) : Int)), x6] ∧ Ext H G ∧ G lf = some (.lst as) ∧ Paired (PEntV (fun a => Z a ∧ a ≠ lf) K G) as ((turnE n a f es).take i)) ⟨none, [], rfl, Ext.upd hlf, upd_same, .nil⟩ ?_ ?_ ?_
    · rintro i σ G _ ⟨x6, as, rfl, e, hG, hpa⟩
      exact SqL.of (e _ _ hvs)
    · rintro i v σ G hx ⟨x6, as, rfl, e, hG, hpa⟩
      have hi : i < es.length := by rw [← hln]; exact (List.getElem?_eq_some_iff.mp hx).1
      have hei : es[i]? = some es[i] := List.getElem?_eq_getElem hi
      have hev := (Paired.get' hp hx hei).ext e
      have hft := flat_take hei
      have hfle := flat_take_le es (i + 1)
      have hfl3 : (flat (es.take (i + 1))).length = (flat (es.take i)).length + es[i].rules.length := by rw [hft, List.length_append]
      have hget := turn_get (n := n) (a := a) (f := f) hei
      have hal : as.length ≤ 12 := by rw [Paired.len hpa, List.length_take, turnE_length]; omega
      have hfr : ∀ a, G a = none → Z a ∧ a ≠ lf := fun a ha => ⟨hZ a (by
        cases q : H a with
        | none => rfl
        | some o => rw [e _ _ q] at ha; cases ha), fun q => by rw [q, hG] at ha; cases ha⟩
      have fin : ∀ (v' : V) (G2 : Hp), Ext G G2 → PEntV (fun a => Z a ∧ a ≠ lf) K G2 v' (turn1 n a (f + (flat (es.take i)).length) es[i]) → G2 lf = some (.lst as) ∧ as.length < sizeLine ∧ Ext H (L2.upd G2 lf (.lst (as ++ [v']))) ∧ L2.upd G2 lf (.lst (as ++ [v'])) lf = some (.lst (as ++ [v'])) ∧ Paired (PEntV (fun a => Z a ∧ a ≠ lf) K (L2.upd G2 lf (.lst (as ++ [v'])))) (as ++ [v']) ((turnE n a f es).take (i + 1)) ∧ Fx G2 (L2.upd G2 lf (.lst (as ++ [v']))) := fun v' G2 e2 hev' => by
        have hG2 := e2 _ _ hG
        have f3 : Fx G2 (L2.upd G2 lf (.lst (as ++ [v']))) := Fx.upd hG2 (by simp [Fixd])
        have k3 : ∀ l xs, (Z l ∧ l ≠ lf) → G2 l = some (.lst xs) → L2.upd G2 lf (.lst (as ++ [v'])) l = some (.lst xs) := fun l xs zl h => by rw [upd_ne zl.2]; exact h
        refine ⟨hG2, lt_line (by omega), fun b o hb => by rw [upd_ne (ne_of_none hb hlf)]; exact e2 _ _ (e _ _ hb), upd_same, ?_, f3⟩
        rw [List.take_add_one, hget]
        exact Paired.app (PEntV.all (PEntV.allE hpa e2) f3 k3) (.cons (PEntV.to hev' f3 k3) .nil)
      rcases entList hev with ⟨r, er, ib⟩ | ⟨rs, er, ib⟩
      · rw [er] at hev fin hfl3
        have hrl : (Ent.rule r).rules.length = 1 := rfl
        refine ⟨_, rfl, false, ib, false, rfl, iteF ?_⟩
        have stp : ∀ (v' : V) (G2 : Hp), Ext G G2 → PEntV (fun a => Z a ∧ a ≠ lf) K G2 v' (turn1 n a (f + (flat (es.take i)).length) (.rule r)) → True := fun _ _ _ _ => trivial
        obtain ⟨tv, ta, rfl, h1, h2⟩ := id hev
        refine ⟨_, rfl, .inl ⟨rfl, _, SqL.of hG⟩, _, rfl, _, rfl, rfl, _, rfl, ?_⟩
        by_cases hn : f + (flat (es.take i)).length = n
        · rw [show decide (V.int ((f + (flat (es.take i)).length : Nat) : Int) = V.int ((n : Nat) : Int)) = true from decide_eq_true (by rw [hn])]
          refine iteT ⟨_, rfl, tv, _, _, _, rfl, rfl, h1, atI_nat (j := 0) rfl, _, rfl, by show 2 ≤ sizeLine; decide, fun tp htp => ?_⟩
          have e4 := Ext.upd htp (o := .tup [.str r.m.s, .ref t])
          obtain ⟨g1, g2, g3, g4, g5, g6⟩ := fin (.ref tp) _ e4 (by
            show PRuleV K _ (.ref tp) (if _ then _ else _)
            rw [if_pos hn]
            exact ⟨tp, t, rfl, SqT.new, sqT_fx (sqT_fx ht e.fx) e4.fx⟩)
          refine ⟨lf, _, _, rfl, rfl, g1, g2, _, rfl, _, _, rfl, rfl, some (V.ref tv), _, ?_, g3, g4, g5⟩
          rw [show ((f + (flat (es.take (i + 1))).length : Nat) : Int) = ((f + (flat (es.take i)).length : Nat) : Int) + 1 by omega] <;> rfl
        · rw [show decide (V.int ((f + (flat (es.take i)).length : Nat) : Int) = V.int ((n : Nat) : Int)) = false from decide_eq_false (fun e => hn (by injection e with e; omega))]
          obtain ⟨g1, g2, g3, g4, g5, g6⟩ := fin (.ref tv) _ Ext.rfl' (by
            show PRuleV K _ (.ref tv) (if _ then _ else _)
            rw [if_neg hn]
            exact hev)
          refine iteF ⟨_, rfl, lf, _, _, rfl, rfl, g1, g2, _, rfl, _, _, rfl, rfl, some (V.ref tv), _, ?_, g3, g4, g5⟩
          rw [show ((f + (flat (es.take (i + 1))).length : Nat) : Int) = ((f + (flat (es.take i)).length : Nat) : Int) + 1 by omega] <;> rfl
      · have hin : Ent.inner rs ∈ es := by rw [← er]; exact List.getElem_mem hi
        rw [er] at hev fin hfl3
        obtain ⟨li, vi, rfl, z1, h1, h2⟩ := hev
        have hrl : (flat (rs.map Ent.rule)).length = (Ent.inner rs).rules.length := by rw [flat_rules] <;> rfl
        have hrl2 : (rs.map Ent.rule).length = (Ent.inner rs).rules.length := by rw [List.length_map] <;> rfl
        have hrl3 : (Ent.inner rs).rules.length = rs.length := rfl
        have zli : li ≠ lf := fun q => by
          obtain ⟨_, vi0, el, _, hh, _⟩ : PEntV Z K H (V.ref li) (.inner rs) := by rw [← er]; exact Paired.get' hp hx hei
          cases el
          rw [q, hlf] at hh
          cases hh
        refine ⟨_, rfl, true, ib, true, rfl, iteT ?_⟩
        refine ⟨_, rfl, .inl ⟨rfl, _, SqL.of hG⟩, _, rfl, _, rfl, _, rfl, _, rfl, fun a => Z a ∧ a ≠ lf, li, n, t, f + (flat (es.take i)).length, rs.map .rule, a, rfl, ⟨vi, ⟨z1, zli⟩, h1, prules h2⟩, hfr, sqT_fx ht e.fx, dep_inner hdp hin, ⟨by omega, by omega⟩, fun l' G2 e2 hl' => ?_⟩
        rw [turnE_rules] at hl'
        obtain ⟨vl, zl', hvl, hpl'⟩ := hl'
        obtain ⟨g1, g2, g3, g4, g5, g6⟩ := fin (.ref l') G2 e2 ⟨l', vl, rfl, zl', hvl, unrules hpl'⟩
        refine ⟨lf, _, _, rfl, rfl, g1, g2, ?_⟩
        have hli3 : L2.upd G2 lf (.lst (as ++ [V.ref l'])) li = some (.lst vi) := by rw [upd_ne zli]; exact e2 _ _ h1
        have hpr3 : Paired (PRuleV K (L2.upd G2 lf (.lst (as ++ [V.ref l'])))) vi rs := PRuleV.all (PRuleV.all h2 e2.fx) g6
        have hd1 : Dep 1 (rs.map Ent.rule) := dep_rules 0 rs
        refine ⟨_, rfl, _, rfl, Z, li, rs.map .rule, rfl, ⟨vi, z1, hli3, prules hpr3⟩, hd1, by omega, fun l2 v2 G4 e4 h4 p4 => ⟨_, _, rfl, .inl ⟨_, SqL.of h4, rfl⟩, _, _, rfl, rfl, some (V.ref li), _, ?_, g3.trans e4, e4 _ _ g4, PEntV.allE g5 e4⟩⟩
        have hl2 := Paired.len p4
        rw [show ((f + (flat (es.take (i + 1))).length : Nat) : Int) = ((f + (flat (es.take i)).length : Nat) : Int) + ((v2.length : Nat) : Int) by omega] <;> rfl
    · rintro σ G ⟨x6, as, rfl, e, hG, hpa⟩
      rw [hln, List.take_of_length_le (by rw [turnE_length]; exact Nat.le_refl _)] at hpa
      exact ⟨_, rfl, q lf G e ⟨as, hZ lf hlf, hG, Paired.imp (fun _ _ h => PEntV.zimp h fun a z => z.1) hpa⟩⟩
def spActed (K : PySem.W.Frag) : Sp := fun vs H Q _ => ∃ (a : Axn) (mv bv : V) (m b : Mrk) (n : Int), vs = [a.v, mv, bv, .int n] ∧ MkAt K H mv m ∧ MkAt K H bv b ∧ ∀ v H', Ext H H' → MkAt K H' v (acted a m b) → Q v H'
theorem c_acted (T : Txt K mg z) (D : Dfn K mg "_law_acted" s_law_acted) : Cal P w K mg base 1 "_law_acted" (spActed K) := by
  refine D.cal sc_law_acted (fun _ _ _ _ _ _ us hl => match us, hl with | [_, _, _, _], _ => rfl) (fun vs H Q E ⟨a, mv, bv, m, b, n, h, _⟩ => by rw [h]; rfl) fun f cdv A outer s H vs Q E hr ⟨a, mv, bv, m, b, n, hv, hm, hb, q⟩ => ⟨_, PSs.nox
    (pss_cons (ps_if (pt_cmpR op_in_seq (pv 0) (pe_tup (pa_cons pe_str (pa_cons pe_str pa_nil))) (by rfl))
      (pss_one (ps_ret (pe_ifExp (pt_cmpR op_eq (pe_ix ix_tup (pv 1) pe_int (fun _ _ => rfl)) pe_str (nomark _)) (pe_tup (pa_cons pe_str (pa_cons pe_non pa_nil))) (pv 1)))) pss_nil)
    (pss_cons (ps_if (pt_cmpR op_in_seq (pv 0) (pe_tup (pa_cons pe_str (pa_cons pe_str pa_nil))) (by rfl))
      (pss_one (ps_ret (pe_ifExp (pt_cmpR op_eq (pe_ix ix_tup (pv 1) pe_int (fun _ _ => rfl)) pe_str (nomark _)) (pv 1) (pe_tup (pa_cons pe_str (pa_cons (pv 3) pa_nil)))))) pss_nil)
    (pss_one (ps_ret (pe_ifExp (pt_cmpR op_eq (pv 0) pe_str (nomark _)) (pv 2) (pv 1)))))), ?_⟩
  subst hv
  have fl : flatV a.v = true := by cases a <;> rfl
  refine ⟨_, rfl, by show 2 ≤ sizeLine; decide, fun t ht => ⟨t, _, rfl, .inr SqT.new, fl, rfl, _, rfl, ?_⟩⟩
  have e1 := Ext.upd ht (o := .tup [.str "ok", .str "done"])
  by_cases c1 : a = .ok ∨ a = .done
  · have hi : (if false = true then !inV a.v [.str "ok", .str "done"] else inV a.v [.str "ok", .str "done"]) = true := by rcases c1 with rfl | rfl <;> decide +kernel
    rw [hi]
    refine iteT ?_
    have hac : acted a m b = if m = .none then .good else m := by rcases c1 with rfl | rfl <;> rfl
    obtain ⟨ma, x, d, rfl, hsq, hd, hc⟩ := MkAt.sq (hm.fx e1.fx)
    refine ⟨_, rfl, _, _, _, _, rfl, rfl, hsq, atI_nat (j := 0) (v := .str (mkW m)) rfl, rfl, _, rfl, ?_⟩
    refine ite2 (fun h => ?_) fun h => ?_
    · have h' : m = .none := by
        have h2 : V.str (mkW m) = V.str "none" := of_decide_eq_true h
        revert h2
        cases m <;> decide +kernel
      rw [hac, if_pos h'] at q
      exact ⟨by show 2 ≤ sizeLine; decide, fun p hp => q _ _ (Ext.upd' e1 hp) ⟨p, rfl, SqT.new⟩⟩
    · have h' : m ≠ .none := fun e => h (by rw [e]; decide +kernel)
      rw [hac, if_neg h'] at q
      exact ⟨_, rfl, q _ _ e1 (hm.fx e1.fx)⟩
  · have hi : (if false = true then !inV a.v [.str "ok", .str "done"] else inV a.v [.str "ok", .str "done"]) = false := by
      revert c1; cases a <;> decide +kernel
    rw [hi]
    refine iteF ?_
    refine ⟨_, rfl, by show 2 ≤ sizeLine; decide, fun t2 ht2 => ⟨t2, _, rfl, .inr SqT.new, fl, rfl, _, rfl, ?_⟩⟩
    have e2 := Ext.upd' e1 ht2 (o := .tup [.str "bad", .str "die"])
    by_cases c2 : a = .bad ∨ a = .die
    · have hi : (if false = true then !inV a.v [.str "bad", .str "die"] else inV a.v [.str "bad", .str "die"]) = true := by rcases c2 with rfl | rfl <;> decide +kernel
      rw [hi]
      refine iteT ?_
      have hac : acted a m b = .bad := by rcases c2 with rfl | rfl <;> rfl
      rw [hac] at q
      obtain ⟨ma, x, d, rfl, hsq, hd, hc⟩ := MkAt.sq (hm.fx e2.fx)
      refine ⟨_, rfl, _, _, _, _, rfl, rfl, hsq, atI_nat (j := 0) (v := .str (mkW m)) rfl, rfl, _, rfl, ?_⟩
      refine ite2 (fun h => ?_) fun h => ?_
      · have h' : m = .bad := by
          have h2 : V.str (mkW m) = V.str "bad" := of_decide_eq_true h
          revert h2
          cases m <;> decide +kernel
        subst h'
        exact ⟨_, rfl, q _ _ e2 (hm.fx e2.fx)⟩
      · refine ⟨_, rfl, by show 2 ≤ sizeLine; decide, fun p hp => ?_⟩
        exact q _ _ (Ext.upd' e2 hp) ⟨p, rfl, n, SqT.new⟩
    · have hi : (if false = true then !inV a.v [.str "bad", .str "die"] else inV a.v [.str "bad", .str "die"]) = false := by
        revert c2; cases a <;> decide +kernel
      rw [hi]
      refine iteF ?_
      refine ⟨_, rfl, by cases a <;> rfl, _, rfl, ?_⟩
      refine ite2 (fun h => ?_) fun h => ?_
      · have h' : a = .reset := by
          have h2 : a.v = V.str "reset" := of_decide_eq_true h
          revert h2
          cases a <;> decide +kernel
        subst h'
        exact ⟨_, rfl, q _ _ e2 (hb.fx e2.fx)⟩
      · have hac : acted a m b = m := by
          have h2 : a.v ≠ V.str "reset" := fun e => h (decide_eq_true e)
          revert c1 c2 h2
          cases a <;> first | (intros; rfl) | (intro c1 c2 h2; exact absurd (by decide) c1) | (intro c1 c2 h2; exact absurd (by decide) c2) | (intro c1 c2 h2; exact absurd rfl h2)
        rw [hac] at q
        exact ⟨_, rfl, q _ _ e2 (hm.fx e2.fx)⟩
end
end LP

end

section
set_option Elab.async false
set_option linter.all false
set_option maxRecDepth 100000
set_option maxHeartbeats 4000000
/-! The law's ran, run, where. -/
namespace LP
open PySem PySem.Spec PyProof.Rows L2 LK LT LD LR
theorem ran_rule1 {ans : Mdl → Res} {beg m : Mrk} {es : List Ent} {i : Nat} {r : Rul} (h : es[i]? = some (.rule r)) :
    ranE ans beg (es.drop i) m 0 = if stops (r.a (ans r.m)) (acted (r.a (ans r.m)) m beg) then acted (r.a (ans r.m)) m beg else ranE ans beg (es.drop (i + 1)) (acted (r.a (ans r.m)) m beg) (r.a (ans r.m)).jmp := by
  obtain ⟨hi, he⟩ := List.getElem?_eq_some_iff.mp h
  rw [List.drop_eq_getElem_cons hi, he] <;> rfl
theorem ran_skip {ans : Mdl → Res} {beg m : Mrk} {es : List Ent} {i k : Nat} (h : i < es.length) : ranE ans beg (es.drop i) m (k + 1) = ranE ans beg (es.drop (i + 1)) m k := by
  rw [List.drop_eq_getElem_cons h] <;> rfl
section
variable {P : Program} {w : World} {K : PySem.W.Frag} {mg : Str → Option Value} {base : Heap} {z : Ad}
theorem lawStop {σ : L2.St} {H : Hp} {Q : Bool → Hp → Prop} {a : Axn} {v : V} {m : Mrk} (h11 : σ[11]? = some (some a.v)) (h4 : σ[4]? = some (some v)) (hv : MkAt K H v m) (q : Q (stops a m) H) :
    tOr (tTest (tOp rEq (tVar 11) (tC (.str "die")))) (tAnd (tTest (tOp rEq (tVar 11) (tC (.str "done")))) (tTest (tOp rEq (tOp (rIxT K) (tVar 4) (tC (.int 0))) (tC (.str "good"))))) σ H Q := by
  obtain ⟨sc1, sc2, de1, de2⟩ := axn_str a
  refine ⟨_, h11, sc1, _, rfl, ?_⟩
  rw [de1]
  unfold stops at q
  cases hd : decide (a = .die) with
  | true => rw [hd, Bool.true_or] at q; exact iteT q
  | false =>
    rw [hd, Bool.false_or] at q
    refine iteF ⟨_, h11, sc2, _, rfl, ?_⟩
    rw [de2]
    cases hn : decide (a = .done) with
    | false => rw [hn, Bool.false_and] at q; exact iteF q
    | true =>
      rw [hn, Bool.true_and] at q
      obtain ⟨ma, x, d, rfl, hsq, hd, hc⟩ := hv.sq
      refine iteT ⟨_, h4, ma, _, _, _, rfl, rfl, hsq, atI_nat (j := 0) (v := .str (mkW m)) rfl, rfl, _, rfl, ?_⟩
      rw [show decide (V.str (mkW m) = V.str "good") = decide (m = .good) by cases m <;> decide +kernel]
      exact q
def spRan (K : PySem.W.Frag) (d : Nat) : Sp := fun vs H Q _ => ∃ (Z : Addr → Prop) (l ta : Addr) (n : Int) (bv : V) (m : Mrk) (r : ARow) (es : List Ent), vs = [V.ref l, V.ref ta, V.int n, bv] ∧ PlainAt Z K H l es ∧ AnsAt H ta r ∧ Covers r (flat es) ∧ MkAt K H bv m ∧ Dep d es ∧ Fits es ∧
  ∀ t v la as H', Ext H H' → SqT K H' t [v, .ref la] → H' la = some (.lst as) → as.length ≤ (flat es).length → MkAt K H' v (ranE (look r) m es m 0) → Q (.ref t) H'
theorem c_ran (T : Txt K mg z) (D : Dfn K mg "_law_ran" s_law_ran) (CR : Cal P w K mg base 2 "_law_rules" (spRls K 1)) (CA : Cal P w K mg base 1 "_law_acted" (spActed K)) : ∀ d : Nat, d ≤ 2 → Cal P w K mg base (d + 3) "_law_ran" (spRan K d) := by
  intro d
  induction d with
  | zero =>
    intro _
    obtain ⟨f, fd, hm, F⟩ := D.ex
    exact ⟨f, fun _ _ _ _ _ _ _ _ _ _ _ ⟨_, _, _, _, _, _, _, _, _, _, _, _, _, h, _⟩ => h.elim, hm, F.kp⟩
  | succ d ih =>
    intro hd2
    refine D.cal (k := d + 3) sc_law_ran (fun _ _ _ _ _ _ us hl => match us, hl with | [_, _, _, _], _ => rfl) (fun vs H Q E ⟨Z, l, ta, n, bv, m, r, es, h, _⟩ => by rw [h]; rfl) fun fa cdv A outer s H vs Q E hr ⟨Z, l, ta, n, bv, m, r, es, hv, hpl, hans, hcov, hm, hdp, hf, q⟩ => ⟨_, PSs.nox
      (pss_cons (ps_asg (pe_tup (pa_cons (pv 3) (pa_cons (pe_lst pa_nil) (pa_cons pe_int (pa_cons (pv 2) pa_nil))))) (pg_tup rfl (pgs_cons (pg_name (i := 4) sc_law_ran.nd rfl (Or.inl rfl)) (pgs_cons (pg_name (i := 5) sc_law_ran.nd rfl (Or.inl rfl)) (pgs_cons (pg_name (i := 6) sc_law_ran.nd rfl (Or.inl rfl)) (pgs_cons (pg_name (i := 7) sc_law_ran.nd rfl (Or.inl rfl)) pgs_nil))))))
      (pss_cons (ps_for PassesOwn.never rfl (pi_list (pv 0)) (pg_name (i := 8) sc_law_ran.nd rfl (Or.inl rfl))
        (pss_cons (ps_set (i := 9) sc_law_ran.nd rfl (Or.inl rfl) (pe_ifExp (pt_val (pe_isB rfl T.f_isinstance rfl T.f_list PyProof.Rows.boot_list (pv 8))) (pe_callB call_len (by rfl) T.f_len boot_len (pa_cons (pe_c CR hr (by omega) rfl (pa_cons (pv 8) pa_nil)) pa_nil)) pe_int))
        (pss_cons (ps_if (pt_cmpR op_gt (pv 6) pe_int (nomark _)) (pss_one (ps_set (i := 6) sc_law_ran.nd rfl (Or.inl rfl) (pe_op op_sub (pv 6) pe_int)))
          (pss_one (ps_if (pt_val (pe_isB rfl T.f_isinstance rfl T.f_list PyProof.Rows.boot_list (pv 8)))
            (pss_cons (ps_asg (pe_c (ih (by omega)) hr (by omega) rfl (pa_cons (pv 8) (pa_cons (pv 1) (pa_cons (pv 7) (pa_cons (pv 4) pa_nil))))) (pg_tup rfl (pgs_cons (pg_name (i := 4) sc_law_ran.nd rfl (Or.inl rfl)) (pgs_cons (pg_name (i := 10) sc_law_ran.nd rfl (Or.inl rfl)) pgs_nil))))
            (pss_one (ps_set (i := 5) sc_law_ran.nd rfl (Or.inl rfl) (pe_op op_cat (pv 5) (pv 10)))))
            (pss_cons (ps_set (i := 11) sc_law_ran.nd rfl (Or.inl rfl) (pe_ix ix_tup (pe_ix ix_tup (pv 8) pe_int (fun _ _ => rfl)) (pe_dispIdx (pa_cons pe_str (pa_cons pe_str (pa_cons pe_str (pa_cons pe_str pa_nil)))) (pe_dget (hu_of hr) (pv 1) (pe_ix ix_tup (pv 8) pe_int (fun _ _ => rfl)) (fun _ _ => rfl))) (fun _ _ => rfl)))
            (pss_cons (ps_set (i := 5) sc_law_ran.nd rfl (Or.inl rfl) (pe_op op_cat (pv 5) (pe_lst (pa_cons (pv 7) pa_nil))))
            (pss_cons (ps_set (i := 4) sc_law_ran.nd rfl (Or.inl rfl) (pe_c CA hr (by omega) rfl (pa_cons (pv 11) (pa_cons (pv 4) (pa_cons (pv 3) (pa_cons (pv 7) pa_nil))))))
            (pss_cons (ps_if (PW.pt (pw_or (pt_cmpR op_eq (pv 11) pe_str (nomark _)) (pw_or1 (PW.pt (pw_and (pt_cmpR op_eq (pv 11) pe_str (nomark _)) (pw_and1 (pt_cmpR op_eq (pe_ix ix_tup (pv 4) pe_int (fun _ _ => rfl)) pe_str (nomark _)))))))) (pss_one (ps_ret (pe_tup (pa_cons (pv 4) (pa_cons (pv 5) pa_nil))))) pss_nil)
            (pss_one (ps_set (i := 6) sc_law_ran.nd rfl (Or.inl rfl) (pe_ifExp (pt_val (pe_isB rfl T.f_isinstance rfl T.f_int PyProof.Rows.boot_int (pv 11))) (pv 11) pe_int))))))))))
        (pss_one (ps_set (i := 7) sc_law_ran.nd rfl (Or.inl rfl) (pe_op op_add (pv 7) (pv 9)))))))
      (pss_one (ps_ret (pe_tup (pa_cons (pv 4) (pa_cons (pv 5) pa_nil))))))), ?_⟩
    subst hv
    obtain ⟨vs, hzl, hvs, hp⟩ := hpl
    have hln := Paired.len hp
    have hf1 := hf.1
    have hf2 := hf.2
    refine ⟨_, rfl, by show 0 ≤ sizeLine; decide, fun lf hlf => ⟨_, rfl, by show 4 ≤ sizeLine; decide, fun t0 ht0 => ?_⟩⟩
    have e0 := (Ext.upd hlf (o := .lst [])).trans (Ext.upd ht0 (o := .tup [bv, .ref lf, .int 0, .int n]))
    refine ⟨t0, _, rfl, SqT.new, rfl, _, _, rfl, _, _, rfl, _, _, rfl, _, _, rfl, rfl, ?_⟩
    refine ⟨_, rfl, l, rfl, ⟨vs, SqL.of (e0 _ _ hvs)⟩, ?_⟩
    refine for_list (xs := vs) (fun i σ G => ∃ m' mv la as, ∃ k : Nat, ∃ x8 x9 x10 x11, σ = [some (V.ref l), some (V.ref ta), some (V.int n), some bv, some mv, some (V.ref la), some (V.int ((k : Nat) : Int)), some (V.int (n + ((flat (es.take i)).length : Nat))), x8, x9, x10, x11] ∧ Ext H G ∧ G la = some (.lst as) ∧ as.length ≤ (flat (es.take i)).length ∧ MkAt K G mv m' ∧ ranE (look r) m es m 0 = ranE (look r) m (es.drop i) m' k)
      ⟨m, bv, lf, [], 0, none, none, none, none, ?_, e0, Ext.upd ht0 _ _ upd_same, Nat.le_refl _, hm.fx e0.fx, rfl⟩ ?_ ?_ ?_
    · show _ = [some (V.ref l), some (V.ref ta), some (V.int n), some bv, some bv, some (V.ref lf), some (V.int 0), some (V.int (n + 0)), none, none, none, none]
      rw [Int.add_zero] <;> rfl
    · rintro i σ G _ ⟨m', mv, la, as, k, x8, x9, x10, x11, rfl, e, hla, hal, hmv, hran⟩
      exact SqL.of (e _ _ hvs)
    · rintro i v σ G hx ⟨m', mv, la, as, k, x8, x9, x10, x11, rfl, e, hla, hal, hmv, hran⟩
      have hi : i < es.length := by rw [← hln]; exact (List.getElem?_eq_some_iff.mp hx).1
      have hei : es[i]? = some es[i] := List.getElem?_eq_getElem hi
      have hev := (Paired.get' hp hx hei).ext e
      have hft := flat_take hei
      have hfle := flat_take_le es (i + 1)
      have hfl3 : (flat (es.take (i + 1))).length = (flat (es.take i)).length + es[i].rules.length := by rw [hft, List.length_append]
      have hmb := hm.fx e.fx
      rcases entList hev with ⟨r0, er, ib⟩ | ⟨rs, er, ib⟩
      · rw [er] at hev hfl3 hei
        have hrl : (Ent.rule r0).rules.length = 1 := rfl
        refine ⟨_, rfl, false, ib, false, rfl, iteF ?_⟩
        refine ⟨_, rfl, _, _, rfl, rfl, _, rfl, ?_⟩
        refine ite2 (fun hk => ?_) fun hk => ?_
        · have hk' : (0 : Int) < ((k : Nat) : Int) := of_decide_eq_true hk
          obtain ⟨k', rfl⟩ : ∃ k', k = k' + 1 := ⟨k - 1, by omega⟩
          refine ⟨_, rfl, _, _, rfl, rfl, _, rfl, _, rfl, _, _, rfl, rfl, m', mv, la, as, k', some v, some (V.int 1), x10, x11, ?_, e, hla, by omega, hmv, by rw [hran, ran_skip hi]⟩
          rw [show (n + ((flat (es.take (i + 1))).length : Nat) : Int) = n + ((flat (es.take i)).length : Nat) + 1 by omega, show ((k' : Nat) : Int) = ((k' + 1 : Nat) : Int) - 1 by omega] <;> rfl
        · have hk0 : k = 0 := by
            have : ¬ (0 : Int) < ((k : Nat) : Int) := fun h => hk (decide_eq_true h)
            omega
          subst hk0
          refine ⟨_, rfl, false, ib, false, rfl, iteF ?_⟩
          obtain ⟨tv, tt, rfl, h1, h2⟩ := id hev
          have hmem : r0.m ∈ r.map (·.1) := hcov r0 (List.mem_flatMap.mpr ⟨es[i], List.getElem_mem hi, by rw [er]; exact List.mem_singleton.mpr rfl⟩)
          have hstep := ran_rule1 (ans := look r) (beg := m) (m := m') hei
          obtain ⟨j, j1, j2, j3⟩ := res_at (look r r0.m)
          refine ⟨_, rfl, tv, _, _, _, rfl, rfl, h1, atI_nat (j := 1) rfl, by show 4 ≤ sizeLine; decide, fun p hpn => ?_⟩
          have e1 := Ext.upd hpn (o := .tup [.str "yes", .str "no", .str "skip", .str "gone"])
          have hdg : DGet (L2.upd G p (.tup [.str "yes", .str "no", .str "skip", .str "gone"])) ta (V.str r0.m.s) (some (V.str (look r r0.m).s)) := by
            have z := DGet.k (k := (Sum.inr r0.m.s : Key)) (e1 _ _ (e _ _ hans))
            rw [look_val hmem] at z
            exact z
          refine ⟨_, rfl, _, rfl, tv, _, _, _, rfl, rfl, sqT_fx h1 e1.fx, atI_nat (j := 0) rfl, ta, _, rfl, hdg, allRes.map Res.s, (look r r0.m).s, j, rfl, rfl, j1, j2, upd_same, ?_⟩
          refine ⟨tt, _, _, _, rfl, rfl, sqT_fx h2 e1.fx, atI_nat (v := (r0.a (look r r0.m)).v) (by show (allRes.map fun x => (r0.a x).v)[j]? = _; rw [List.getElem?_map, j3] <;> rfl), ?_⟩
          generalize r0.a (look r r0.m) = a at hstep ⊢
          refine ⟨_, rfl, _, rfl, by show 1 ≤ sizeLine; decide, fun lb hlb => ⟨la, lb, as, _, rfl, rfl, Ext.upd hlb _ _ (e1 _ _ hla), upd_same, le_line (by show as.length + 1 ≤ _; omega), fun lc hlc => ?_⟩⟩
          have e2 := (e1.trans (Ext.upd hlb (o := .lst [.int (n + ((flat (es.take i)).length : Nat))]))).trans (Ext.upd hlc (o := .lst (as ++ [.int (n + ((flat (es.take i)).length : Nat))])))
          have hlc2 : L2.upd (L2.upd (L2.upd G p (.tup [.str "yes", .str "no", .str "skip", .str "gone"])) lb (.lst [.int (n + ((flat (es.take i)).length : Nat))])) lc (.lst (as ++ [.int (n + ((flat (es.take i)).length : Nat))])) lc = some (.lst (as ++ [.int (n + ((flat (es.take i)).length : Nat))])) := upd_same
          generalize L2.upd (L2.upd (L2.upd G p (.tup [.str "yes", .str "no", .str "skip", .str "gone"])) lb (.lst [.int (n + ((flat (es.take i)).length : Nat))])) lc (.lst (as ++ [.int (n + ((flat (es.take i)).length : Nat))])) = G2 at e2 hlc2 ⊢
          refine ⟨_, rfl, _, rfl, _, rfl, _, rfl, a, mv, bv, m', m, n + ((flat (es.take i)).length : Nat), rfl, hmv.fx e2.fx, hmb.fx e2.fx, fun v3 G3 e3 hv3 => ?_⟩
          have hlc3 := e3 _ _ hlc2
          have eH3 := (e.trans e2).trans e3
          have hl4 : (as ++ [V.int (n + ((flat (es.take i)).length : Nat))]).length = as.length + 1 := by rw [List.length_append] <;> rfl
          have hff := flat_take_le es (i + 1)
          refine lawStop rfl rfl hv3 ?_
          cases hs : stops a (acted a m' m) with
          | true =>
            rw [hs, if_pos rfl] at hstep
            refine iteT ⟨_, rfl, _, rfl, by show 2 ≤ sizeLine; decide, fun p4 hp4 => ?_⟩
            have e4 := Ext.upd hp4 (o := .tup [v3, V.ref lc])
            refine q p4 _ lc _ _ (eH3.trans e4) SqT.new (e4 _ _ hlc3) (by omega) ?_
            rw [hran, hstep]
            exact hv3.fx e4.fx
          | false =>
            rw [hs, if_neg Bool.false_ne_true] at hstep
            refine iteF ?_
            rcases axn_isInt (K := K) G3 a with ⟨ji, ea, ej, ib3⟩ | ⟨ej, ib3⟩
            · refine ⟨_, rfl, true, ib3, true, rfl, iteT ⟨_, rfl, _, rfl, _, rfl, _, _, rfl, rfl, acted a m' m, v3, lc, _, ji, some (V.ref tv), some (V.int 1), x10, some a.v, ?_, eH3, hlc3, by omega, hv3, by rw [hran, hstep, ej]⟩⟩
              rw [show (n + ((flat (es.take (i + 1))).length : Nat) : Int) = n + ((flat (es.take i)).length : Nat) + 1 by omega, ← ea] <;> rfl
            · refine ⟨_, rfl, false, ib3, false, rfl, iteF ⟨_, rfl, _, rfl, _, _, rfl, rfl, acted a m' m, v3, lc, _, 0, some (V.ref tv), some (V.int 1), x10, some a.v, ?_, eH3, hlc3, by omega, hv3, by rw [hran, hstep, ej]⟩⟩
              rw [show (n + ((flat (es.take (i + 1))).length : Nat) : Int) = n + ((flat (es.take i)).length : Nat) + 1 by omega] <;> rfl
      · have hin : Ent.inner rs ∈ es := by rw [← er]; exact List.getElem_mem hi
        rw [er] at hev hfl3 hei
        have hev0 := hev
        obtain ⟨li, vi, rfl, z1, h1, h2⟩ := hev
        have hrl : (flat (rs.map Ent.rule)).length = (Ent.inner rs).rules.length := by rw [flat_rules] <;> rfl
        have hrl2 : (rs.map Ent.rule).length = (Ent.inner rs).rules.length := by rw [List.length_map] <;> rfl
        have hrl3 : (Ent.inner rs).rules.length = rs.length := rfl
        have hd1 : Dep 1 (rs.map Ent.rule) := dep_rules 0 rs
        refine ⟨_, rfl, true, ib, true, rfl, iteT ⟨_, rfl, Z, li, rs.map .rule, rfl, ⟨vi, z1, h1, prules h2⟩, hd1, by omega, fun l2 v2 G2 e2 h4 p4 => ⟨_, _, rfl, .inl ⟨_, SqL.of h4, rfl⟩, ?_⟩⟩⟩
        have hl2 := Paired.len p4
        refine ⟨_, rfl, _, _, rfl, rfl, _, rfl, ?_⟩
        refine ite2 (fun hk => ?_) fun hk => ?_
        · have hk' : (0 : Int) < ((k : Nat) : Int) := of_decide_eq_true hk
          obtain ⟨k', rfl⟩ : ∃ k', k = k' + 1 := ⟨k - 1, by omega⟩
          refine ⟨_, rfl, _, _, rfl, rfl, _, rfl, _, rfl, _, _, rfl, rfl, m', mv, la, as, k', some (V.ref li), some (V.int ((v2.length : Nat) : Int)), x10, x11, ?_, e.trans e2, e2 _ _ hla, by omega, hmv.fx e2.fx, by rw [hran, ran_skip hi]⟩
          rw [show (n + ((flat (es.take (i + 1))).length : Nat) : Int) = n + ((flat (es.take i)).length : Nat) + ((v2.length : Nat) : Int) by omega, show ((k' : Nat) : Int) = ((k' + 1 : Nat) : Int) - 1 by omega] <;> rfl
        · have hk0 : k = 0 := by
            have : ¬ (0 : Int) < ((k : Nat) : Int) := fun h => hk (decide_eq_true h)
            omega
          subst hk0
          have ib2 : IsB K G2 "list" (.ref li) true := isB_lst (e2 _ _ h1) (by decide +kernel)
          have hcv : Covers r (flat (rs.map .rule)) := by
            rw [flat_rules]
            intro y hy
            exact hcov y (List.mem_flatMap.mpr ⟨_, hin, hy⟩)
          refine ⟨_, rfl, true, ib2, true, rfl, iteT ?_⟩
          refine ⟨_, rfl, _, rfl, _, rfl, _, rfl, Z, li, ta, n + ((flat (es.take i)).length : Nat), mv, m', r, rs.map .rule, rfl, ⟨vi, z1, e2 _ _ h1, prules (PRuleV.all h2 e2.fx)⟩, e2 _ _ (e _ _ hans), hcv, hmv.fx e2.fx, dep_inner hdp hin, ⟨by omega, by omega⟩, fun t v3 l3 as3 G3 e3 ht3 hl3 hz3 hv3 => ?_⟩
          have e23 := e2.trans e3
          refine ⟨t, _, rfl, ht3, rfl, _, _, rfl, _, _, rfl, rfl, ?_⟩
          refine ⟨_, rfl, _, rfl, la, l3, as, as3, rfl, rfl, e23 _ _ hla, hl3, le_line (by omega), fun lc hlc => ?_⟩
          have e4 := Ext.upd hlc (o := .lst (as ++ as3))
          refine ⟨_, rfl, _, rfl, _, _, rfl, rfl, ranE (look r) m' (rs.map .rule) m' 0, v3, lc, as ++ as3, 0, some (V.ref li), some (V.int ((v2.length : Nat) : Int)), some (V.ref l3), x11, ?_, (e.trans e23).trans e4, upd_same, by rw [List.length_append]; omega, hv3.fx e4.fx, by rw [hran, ran_inner hei]⟩
          rw [show (n + ((flat (es.take (i + 1))).length : Nat) : Int) = n + ((flat (es.take i)).length : Nat) + ((v2.length : Nat) : Int) by omega] <;> rfl
    · rintro σ G ⟨m', mv, la, as, k, x8, x9, x10, x11, rfl, e, hla, hal, hmv, hran⟩
      rw [hln] at hran hal
      rw [List.drop_of_length_le (Nat.le_refl _)] at hran
      rw [List.take_length] at hal
      refine ⟨_, rfl, _, rfl, by show 2 ≤ sizeLine; decide, fun p hp => ?_⟩
      have e4 := Ext.upd hp (o := .tup [mv, V.ref la])
      refine q p mv la as _ (e.trans e4) SqT.new (e4 _ _ hla) (by omega) ?_
      rw [hran]
      exact hmv.fx e4.fx
end
end LP

end

section
set_option Elab.async false
set_option linter.all false
set_option maxRecDepth 100000
set_option maxHeartbeats 4000000
/-! The law's run, where, all, unlike. -/
namespace LP
open PySem PySem.Spec PyProof.Rows L2 LK LT LD LR
theorem merge_kvs : ∀ (r acc : ARow), ((acc ++ r).map (·.1)).Nodup → mergeK (kvsOf acc) (kvsOf r) = kvsOf (acc ++ r)
  | [], acc, _ => by rw [List.append_nil] <;> rfl
  | (m, x) :: r, acc, h => by
    have hm : m ∉ acc.map (·.1) := by
      rw [List.map_append, List.nodup_append] at h
      intro hm
      exact h.2.2 m hm m List.mem_cons_self rfl
    have e1 : mergeK (kvsOf acc) (kvsOf ((m, x) :: r)) = mergeK (mergeK (kvsOf acc) [((Sum.inr m.s : Key), V.str x.s)]) (kvsOf r) := rfl
    rw [e1, kvs_add hm, merge_kvs r (acc ++ [(m, x)]) (by rw [List.append_assoc]; exact h), List.append_assoc] <;> rfl
theorem zip_kvs : ∀ (r : ARow), (((r.map (·.1)).map Mdl.s).map fun k => (Sum.inr k : Key)).zip (r.map fun p => V.str p.2.s) = kvsOf r
  | [] => rfl
  | p :: r => by
    have h := zip_kvs r
    exact congrArg (List.cons ((Sum.inr p.1.s : Key), V.str p.2.s)) h
section
variable {P : Program} {w : World} {K : PySem.W.Frag} {mg : Str → Option Value} {base : Heap} {z : Ad}
def spRunL (K : PySem.W.Frag) : Sp := fun vs H Q _ => ∃ Z l ta r es, vs = [V.ref l, V.ref ta] ∧ PlainAt Z K H l es ∧ AnsAt H ta r ∧ Covers r (flat es) ∧ Fits es ∧ ∀ t x y H', Ext H H' → SqT K H' t [.str (inS (out es (look r))), x, y] → Q (.ref t) H'
theorem c_runL (T : Txt K mg z) (D : Dfn K mg "_law_run" s_law_run) (CR : Cal P w K mg base 5 "_law_ran" (spRan K 2)) : Cal P w K mg base 6 "_law_run" (spRunL K) := by
  refine D.cal (k := 5) sc_law_run (fun _ _ _ _ _ _ us hl => match us, hl with | [_, _], _ => rfl) (fun vs H Q E ⟨Z, l, ta, r, es, h, _⟩ => by rw [h]; rfl) fun f cdv A outer s H vs Q E hr ⟨Z, l, ta, r, es, hv, hpl, hans, hcov, hf, q⟩ => ⟨_, PSs.nox
    (pss_cons (ps_asg (pe_c CR hr (by decide) rfl (pa_cons (pv 0) (pa_cons (pv 1) (pa_cons pe_int (pa_cons (pe_tup (pa_cons pe_str (pa_cons pe_non pa_nil))) pa_nil))))) (pg_tup rfl (pgs_cons (pg_name (i := 2) sc_law_run.nd rfl (Or.inl rfl)) (pgs_cons (pg_name (i := 3) sc_law_run.nd rfl (Or.inl rfl)) pgs_nil))))
    (pss_one (ps_ret (pe_tup (pa_cons (pe_ifExp (pt_cmpR op_eq (pe_ix ix_tup (pv 2) pe_int (fun _ _ => rfl)) pe_str (nomark _)) pe_str pe_str) (pa_cons (pv 3) (pa_cons (pe_ix ix_tup (pv 2) pe_int (fun _ _ => rfl)) pa_nil))))))), ?_⟩
  subst hv
  refine ⟨_, rfl, _, rfl, by show 2 ≤ sizeLine; decide, fun t0 ht0 => ?_⟩
  have e1 := Ext.upd ht0 (o := .tup [.str "none", .non])
  refine ⟨Z, l, ta, 0, _, .none, r, es, rfl, hpl.ext e1, e1 _ _ hans, hcov, ⟨t0, rfl, SqT.new⟩, trivial, hf, fun t v la as H2 e2 ht hla _ hmv => ?_⟩
  obtain ⟨ma, x, d, rfl, hsq, hd, hc⟩ := hmv.sq
  refine ⟨t, _, rfl, ht, rfl, _, _, rfl, _, _, rfl, rfl, ?_⟩
  refine ⟨_, rfl, ma, _, _, _, rfl, rfl, hsq, atI_nat (j := 0) (v := .str (mkW _)) rfl, rfl, _, rfl, ?_⟩
  have key : ∀ s : Str, s = inS (out es (look r)) → ((tVar 3) ([some (V.ref l), some (V.ref ta), some (V.ref ma), some (V.ref la)] : L2.St) H2 fun y H3 => (tVar 2) ([some (V.ref l), some (V.ref ta), some (V.ref ma), some (V.ref la)] : L2.St) H3 fun a H4 => rIxT K a (.int 1) H4 fun z H5 => ([V.str s, y, z] : List V).length ≤ sizeLine ∧ ∀ p, H5 p = none → Q (.ref p) (L2.upd H5 p (.tup [V.str s, y, z]))) := fun s es' => by
    subst es'
    refine ⟨_, rfl, _, rfl, ma, _, _, _, rfl, rfl, hsq, atI_nat (j := 1) rfl, by show 3 ≤ sizeLine; decide, fun p hp => ?_⟩
    exact q p _ _ _ ((e1.trans e2).trans (Ext.upd hp)) SqT.new
  unfold out at key
  rw [show decide (V.str (mkW (ranE (look r) .none es .none 0)) = V.str "good") = decide (ranE (look r) .none es .none 0 = .good) by cases ranE (look r) .none es .none 0 <;> decide +kernel]
  cases hd : decide (ranE (look r) .none es .none 0 = .good) with
  | true => rw [hd] at key; exact iteT (key "in" rfl)
  | false => rw [hd] at key; exact iteF (key "out" rfl)
def spWhr (K : PySem.W.Frag) : Sp := fun vs H Q _ => ∃ Z l ta r es, vs = [V.ref l, V.ref ta] ∧ PlainAt Z K H l es ∧ AnsAt H ta r ∧ Covers r (flat es) ∧ Fits es ∧ ∀ H', Ext H H' → Q (.str (inS (out es (look r)))) H'
theorem c_whr (T : Txt K mg z) (D : Dfn K mg "_law_where" s_law_where) (CR : Cal P w K mg base 6 "_law_run" (spRunL K)) : Cal P w K mg base 7 "_law_where" (spWhr K) := by
  refine D.cal (k := 6) sc_law_where (fun _ _ _ _ _ _ us hl => match us, hl with | [_, _], _ => rfl) (fun vs H Q E ⟨Z, l, ta, r, es, h, _⟩ => by rw [h]; rfl) fun f cdv A outer s H vs Q E hr ⟨Z, l, ta, r, es, hv, hpl, hans, hcov, hf, q⟩ => ⟨_, PSs.nox
    (pss_one (ps_ret (pe_ix ix_tup (pe_c CR hr (by decide) rfl (pa_cons (pv 0) (pa_cons (pv 1) pa_nil))) pe_int (fun _ _ => rfl)))), ?_⟩
  subst hv
  exact ⟨_, rfl, _, rfl, Z, l, ta, r, es, rfl, hpl, hans, hcov, hf, fun t x y H' e ht => ⟨t, _, _, _, rfl, rfl, ht, atI_nat (j := 0) rfl, q H' e⟩⟩
/-! all -/
def TupV (K : PySem.W.Frag) (H : Hp) (v : V) (r : ARow) : Prop := ∃ t, v = .ref t ∧ SqT K H t (r.map fun p => V.str p.2.s)
theorem TupV.all {H H' : Hp} {vs : List V} {rs : List ARow} (h : Paired (TupV K H) vs rs) (f : Fx H H') : Paired (TupV K H') vs rs := Paired.imp (fun _ _ ⟨t, h1, h2⟩ => ⟨t, h1, sqT_fx h2 f⟩) h
def spAllN (K : PySem.W.Frag) : Sp := fun vs H Q _ => ∃ l ms, vs = [V.ref l] ∧ H l = some (.lst (namesV ms)) ∧ ms.Nodup ∧ ms.length ≤ 3 ∧ ∀ l' H', Ext H H' → RowsAt H' l' (rowsOf ms) → Q (.ref l') H'
theorem c_allN (T : Txt K mg z) (D : Dfn K mg "_law_all" s_law_all) : Cal P w K mg base 1 "_law_all" (spAllN K) := by
  refine D.cal sc_law_all (fun _ _ _ _ _ _ us hl => match us, hl with | [_], _ => rfl) (fun vs H Q E ⟨l, ms, h, _⟩ => by rw [h]; rfl) fun f cdv A outer s H vs Q E hr ⟨l, ms, hv, hl, hnd, h3, q⟩ => ⟨_, PSs.nox
    (pss_cons (ps_set (i := 1) sc_law_all.nd rfl (Or.inl rfl) (pe_lst (pa_cons (pe_tup pa_nil) pa_nil)))
    (pss_cons (ps_for PassesOwn.never rfl (pi_list (pv 0)) (pg_name (i := 2) sc_law_all.nd rfl (Or.inl rfl))
      (pss_cons (ps_set (i := 3) sc_law_all.nd rfl (Or.inl rfl) (pe_lst pa_nil))
      (pss_cons (ps_for PassesOwn.never rfl (pi_list (pv 1)) (pg_name (i := 4) sc_law_all.nd rfl (Or.inr rfl))
        (pss_one (ps_set (i := 3) sc_law_all.nd rfl (Or.inl rfl) (pe_op op_cat (pv 3)
          (pe_lc (own := [("_law_result", 5)]) (g := gName 5) (tt := tYes) (te := tOp (rCatA K) (tVar 4) (tTup (tCons (tVar 5) tNil))) rfl sc_law_all.nd (pi_tup (pe_tup (pa_cons pe_str (pa_cons pe_str (pa_cons pe_str (pa_cons pe_str pa_nil)))))) (blkOk_by (N := ["_law_names", "_law_found", "_law_name", "_law_longer", "_law_some", "_law_result"]) (sc := defScope s_law_all) (by decide +kernel)) (fun _ _ _ _ _ => pg_name (i := 5) sc_law_all.nd rfl (Or.inl rfl)) (fun _ _ _ _ _ => pts_nil)
            (fun _ _ _ _ _ => pe_op op_catA (pv 4) (pe_tup (pa_cons (pv 5) pa_nil))))))))
      (pss_one (ps_set (i := 1) sc_law_all.nd rfl (Or.inl rfl) (pv 3))))))
    (pss_one (ps_ret (pe_lc (own := [("_law_some", 4)]) (g := gName 4) (tt := tYes) (te := LKZ.tDictZip K (tCons (tVar 0) (tCons (tVar 4) tNil))) rfl sc_law_all.nd (pi_list (pv 1)) (blkOk_by (N := ["_law_names", "_law_found", "_law_name", "_law_longer", "_law_some", "_law_result"]) (sc := defScope s_law_all) (by decide +kernel)) (fun _ _ _ _ _ => pg_name (i := 4) sc_law_all.nd rfl (Or.inl rfl)) (fun _ _ _ _ _ => pts_nil)
      (fun _ _ _ _ _ => LKZ.pe_dictZip rfl rfl T.f_dict rfl T.f_zip (pa_cons (pv 0) (pa_cons (pv 4) pa_nil)))))))), ?_⟩
  subst hv
  refine ⟨by show 0 ≤ sizeLine; decide, fun t0 ht0 => ⟨by show 1 ≤ sizeLine; decide, fun lf hlf => ?_⟩⟩
  have e1 := (Ext.upd ht0 (o := .tup [])).trans (Ext.upd hlf (o := .lst [.ref t0]))
  have hnl : (namesV ms).length = ms.length := List.length_map _
  refine ⟨_, rfl, l, rfl, ⟨_, SqL.of (e1 _ _ hl)⟩, ?_⟩
  refine for_list (xs := namesV ms) (fun i σ G => ∃ lg as x2 x3 x4 x5, σ = [some (V.ref l), some (V.ref lg), x2, x3, x4, x5] ∧ Ext H G ∧ G lg = some (.lst as) ∧ Paired (TupV K G) as (rowsFrom [[]] (ms.take i)))
    ⟨lf, _, none, none, none, none, rfl, e1, upd_same, .cons ⟨t0, rfl, sqT_fx SqT.new (Ext.upd hlf).fx⟩ .nil⟩ ?_ ?_ ?_
  · rintro i σ G _ ⟨lg, as, x2, x3, x4, x5, rfl, e, hg, hpa⟩
    exact SqL.of (e _ _ hl)
  · rintro i x σ G hx ⟨lg, as, x2, x3, x4, x5, rfl, e, hg, hpa⟩
    have hi : i < ms.length := by rw [← hnl]; exact (List.getElem?_eq_some_iff.mp hx).1
    have hmi := List.getElem?_eq_getElem hi
    have ex : x = V.str ms[i].s := by
      unfold namesV at hx
      rw [List.getElem?_map, hmi] at hx
      exact (Option.some.inj hx).symm
    subst ex
    obtain ⟨b1, b2⟩ := rows_bound h3 i
    have hal := Paired.len hpa
    refine ⟨by show 0 ≤ sizeLine; decide, fun lb hlb => ?_⟩
    have e2 := e.trans (Ext.upd hlb (o := .lst []))
    have hg2 := Ext.upd hlb (o := .lst []) _ _ hg
    have hpa2 := TupV.all hpa (Ext.upd hlb (o := .lst [])).fx
    have hlb2 : L2.upd G lb (.lst []) lb = some (.lst []) := upd_same
    generalize L2.upd G lb (.lst []) = G1 at e2 hg2 hpa2 hlb2 ⊢
    have hrt := rowsFrom_take [[]] hmi
    generalize rowsFrom [[]] (ms.take i) = rows at b1 b2 hal hpa2 hrt
    refine ⟨_, rfl, lg, rfl, ⟨as, SqL.of hg2⟩, ?_⟩
    refine for_list (xs := as) (fun j σ G2 => ∃ lh bs x4 x5, σ = [some (V.ref l), some (V.ref lg), some (V.str ms[i].s), some (V.ref lh), x4, x5] ∧ Ext G1 G2 ∧ G2 lh = some (.lst bs) ∧ Paired (TupV K G2) bs (grow (rows.take j) ms[i])) ⟨lb, [], x4, x5, rfl, Ext.rfl', hlb2, .nil⟩ ?_ ?_ ?_
    · rintro j σ G2 _ ⟨lh, bs, x4', x5', rfl, e3, hlh, hpb⟩
      exact SqL.of (e3 _ _ hg2)
    · rintro j v σ G2 hx2 ⟨lh, bs, x4', x5', rfl, e3, hlh, hpb⟩
      have hj : j < rows.length := by rw [← hal]; exact (List.getElem?_eq_some_iff.mp hx2).1
      have hrj := List.getElem?_eq_getElem hj
      obtain ⟨tv, rfl, htv⟩ := Paired.get' hpa2 hx2 hrj
      have hbl := Paired.len hpb
      have hbl2 : bs.length ≤ 256 := by rw [hbl, grow_length, List.length_take]; omega
      have hrl := b2 rows[j] (List.getElem_mem hj)
      refine ⟨_, rfl, by show 4 ≤ sizeLine; decide, fun p hp => ⟨p, rfl, ⟨_, SqT.new⟩, fun Dl hDl => ?_⟩⟩
      have g1 := Ext.upd hp (o := .tup [.str "yes", .str "no", .str "skip", .str "gone"])
      have hpp : SqT K (L2.upd G2 p (.tup [.str "yes", .str "no", .str "skip", .str "gone"])) p [.str "yes", .str "no", .str "skip", .str "gone"] := SqT.new
      generalize L2.upd G2 p (.tup [.str "yes", .str "no", .str "skip", .str "gone"]) = G3 at g1 hDl hpp ⊢
      refine lc_tup (xs := [.str "yes", .str "no", .str "skip", .str "gone"]) (fun k G => Ext G3 G ∧ ∃ cs, G Dl = some (.lst cs) ∧ Paired (TupV K G) cs ((allRes.take k).map fun x => rows[j] ++ [(ms[i], x)])) ⟨Ext.upd hDl, [], upd_same, .nil⟩ (fun k G _ ⟨e, _⟩ => sqT_fx hpp e.fx) (fun k y G hy ⟨e4, cs, hcs, hpc⟩ => ?_) fun G ⟨e4, cs, hcs, hpc⟩ => ?_
      · have hk4 : k < 4 := (List.getElem?_eq_some_iff.mp hy).1
        have hxk : ∃ x, allRes[k]? = some x ∧ y = V.str (Res.s x) := by
          match k, hk4, hy with
          | 0, _, hy => exact ⟨_, rfl, (Option.some.inj hy).symm⟩
          | 1, _, hy => exact ⟨_, rfl, (Option.some.inj hy).symm⟩
          | 2, _, hy => exact ⟨_, rfl, (Option.some.inj hy).symm⟩
          | 3, _, hy => exact ⟨_, rfl, (Option.some.inj hy).symm⟩
        obtain ⟨x, hx4, rfl⟩ := hxk
        have hcl : cs.length ≤ 4 := by rw [Paired.len hpc, List.length_map, List.length_take]; show min k 4 ≤ 4; omega
        refine ⟨rfl, _, rfl, _, rfl, by show 1 ≤ sizeLine; decide, fun q hq => ?_⟩
        have e5 := Ext.upd hq (o := .tup [.str x.s])
        refine catA_ok (sqT_fx (sqT_fx htv (e3.trans (g1.trans e4)).fx) e5.fx) SqT.new (le_line (by rw [List.length_map]; show _ + 1 ≤ _; omega)) fun p2 G5 e6 hp2 => ?_
        have e56 := e5.trans e6
        have hD5 := e56 _ _ hcs
        have hfx := Fx.upd hD5 (by simp [Fixd]) (u := .lst (cs ++ [V.ref p2]))
        refine ⟨cs, hD5, lt_line (by omega), ?_, _, upd_same, ?_⟩
        · intro a' o' h'
          rw [upd_ne (fun e => by subst e; rw [hDl] at h'; cases h')]
          exact e56 _ _ (e4 _ _ h')
        · rw [take_map_succ _ hx4]
          refine Paired.app (TupV.all (TupV.all hpc e56.fx) hfx) (.cons ⟨p2, rfl, ?_⟩ .nil)
          rw [List.map_append]
          exact sqT_fx hp2 hfx
      · refine ⟨lh, Dl, bs, cs, rfl, rfl, e4 _ _ (g1 _ _ hlh), hcs, le_line (by have hcl := Paired.len hpc; rw [List.length_map] at hcl; have : cs.length = 4 := hcl; omega), fun lc hlc => ?_⟩
        have e7 := Ext.upd hlc (o := .lst (bs ++ cs))
        refine ⟨lc, bs ++ cs, _, _, rfl, (e3.trans (g1.trans e4)).trans e7, upd_same, ?_⟩
        rw [grow_take hrj]
        exact Paired.app (TupV.all (TupV.all hpb (g1.trans e4).fx) e7.fx) (TupV.all hpc e7.fx)
    · rintro σ G2 ⟨lh, bs, x4', x5', rfl, e3, hlh, hpb⟩
      rw [hal, List.take_length] at hpb
      refine ⟨_, rfl, lh, bs, _, _, _, _, rfl, e2.trans e3, hlh, ?_⟩
      rw [hrt]
      exact hpb
  · rintro σ G ⟨lg, as, x2, x3, x4, x5, rfl, e, hg, hpa⟩
    rw [hnl, List.take_length] at hpa
    have hal := Paired.len hpa
    have h64 := rowsOf_le h3
    refine ⟨_, rfl, lg, rfl, ⟨as, SqL.of hg⟩, fun Dl hDl => ?_⟩
    refine lc_list (xs := as) (fun j G2 => Ext G G2 ∧ ∃ cs, G2 Dl = some (.lst cs) ∧ Paired (AnsV G2) cs ((rowsOf ms).take j)) ⟨Ext.upd hDl, [], upd_same, .nil⟩ (fun j G2 _ ⟨e, _⟩ => SqL.of (e _ _ hg)) (fun j v G2 hx ⟨e2, cs, hcs, hpc⟩ => ?_) fun G2 ⟨e2, cs, hcs, hpc⟩ => ?_
    · have hj : j < (rowsOf ms).length := by
        have h : j < as.length := (List.getElem?_eq_some_iff.mp hx).1
        rw [hal] at h
        exact h
      have hrj : (rowsOf ms)[j]? = some (rowsOf ms)[j] := List.getElem?_eq_getElem hj
      obtain ⟨tv, rfl, htv⟩ := Paired.get' hpa hx hrj
      have hk := keys_rowsOf ms _ (List.getElem_mem hj)
      have hcl : cs.length ≤ 64 := by rw [Paired.len hpc, List.length_take]; omega
      have hlen : (ms.map Mdl.s).length = ((rowsOf ms)[j].map fun p => V.str p.2.s).length := by
        have hk2 := congrArg List.length hk
        rw [List.length_map] at hk2
        rw [List.length_map, List.length_map]
        exact hk2.symm
      have hz : mergeK [] (((ms.map Mdl.s).map fun k => (Sum.inr k : Key)).zip ((rowsOf ms)[j].map fun p => V.str p.2.s)) = kvsOf (rowsOf ms)[j] := by
        have h1 := zip_kvs (rowsOf ms)[j]
        rw [hk] at h1
        rw [h1]
        exact merge_kvs (rowsOf ms)[j] [] (by rw [List.nil_append, hk]; exact hnd)
      refine ⟨rfl, _, rfl, _, rfl, l, tv, ms.map Mdl.s, _, rfl, by rw [namesV_eq]; exact SqL.of (e2 _ _ (e _ _ hl)), sqT_fx htv e2.fx, hlen, fun p hp => ?_⟩
      rw [hz]
      have e5 := Ext.upd hp (o := .dK (kvsOf (rowsOf ms)[j]))
      have hD5 := e5 _ _ hcs
      have hfx := Fx.upd hD5 (by simp [Fixd]) (u := .lst (cs ++ [V.ref p]))
      refine ⟨cs, hD5, lt_line (by omega), ?_, _, upd_same, ?_⟩
      · intro a' o' h'
        rw [upd_ne (fun e => by subst e; rw [hDl] at h'; cases h')]
        exact e5 _ _ (e2 _ _ h')
      · rw [List.take_add_one, hrj]
        exact Paired.app (anssFx (anssFx hpc e5.fx) hfx) (.cons ⟨p, rfl, hfx _ _ upd_same trivial⟩ .nil)
    · rw [hal] at hpc
      have hpc' : Paired (AnsV G2) cs (rowsOf ms) := by
        have h := hpc
        rw [show (rowsFrom [[]] ms) = rowsOf ms from rfl, List.take_length] at h
        exact h
      exact q Dl G2 (e.trans e2) ⟨cs, hcs, hpc'⟩
/-- on how many rows two plain lists differ -/
def spUnl (K : PySem.W.Frag) : Sp := fun vs H Q _ => ∃ Z Z' l l' es es', vs = [V.ref l, V.ref l'] ∧ PlainAt Z K H l es ∧ PlainAt Z' K H l' es' ∧ Fits es ∧ Fits es' ∧ ∀ H', Ext H H' → Q (.int ((diff es es' : Nat) : Int)) H'
theorem c_unl (T : Txt K mg z) (D : Dfn K mg "_law_unlike" s_law_unlike) (CM : Cal P w K mg base 4 "_law_modules" (spModsL K)) (CA : Cal P w K mg base 1 "_law_all" (spAllN K)) (CW : Cal P w K mg base 7 "_law_where" (spWhr K)) : Cal P w K mg base 8 "_law_unlike" (spUnl K) := by
  refine D.cal (k := 7) sc_law_unlike (fun _ _ _ _ _ _ us hl => match us, hl with | [_, _], _ => rfl) (fun vs H Q E ⟨Z, Z', l, l', es, es', h, _⟩ => by rw [h]; rfl) fun f cdv A outer s H vs Q E hr ⟨Z, Z', l, l', es, es', hv, hpl, hpl', hf, hf', q⟩ => ⟨_, PSs.nox
    (pss_cons (ps_set (i := 2) sc_law_unlike.nd rfl (Or.inl rfl) (pe_callB (LKS.cr_sortedSet rfl) (by rfl) T.f_sorted boot_sorted (pa_cons (pe_callTy (LKS.cr_setOf rfl) (by rfl) T.f_set PyProof.Rows.boot_set (pa_cons (pe_op op_cat (pe_c CM hr (by decide) rfl (pa_cons (pv 0) pa_nil)) (pe_c CM hr (by decide) rfl (pa_cons (pv 1) pa_nil))) pa_nil)) pa_nil)))
    (pss_cons (ps_setLc (i := 3) (own := [("_law_answers", 4)]) (g := gName 4) (tt := tTest (tOp rNe (tCallR (spWhr K) (tCons (tVar 0) (tCons (tVar 4) tNil))) (tCallR (spWhr K) (tCons (tVar 1) (tCons (tVar 4) tNil))))) rfl sc_law_unlike.nd rfl rfl (sw_true rfl rfl rfl (by decide +kernel)) (pi_list (pe_c CA hr (by decide) rfl (pa_cons (pv 2) pa_nil))) (blkOk_by (N := ["_law_one", "_law_other", "_law_names", "_law_rows", "_law_answers"]) (sc := defScope s_law_unlike) (by decide +kernel)) (fun _ _ _ _ _ => pg_name (i := 4) sc_law_unlike.nd rfl (Or.inl rfl))
      (fun _ _ _ _ _ => pts_one (pt_cmpR op_ne (pe_c CW hr (by decide) rfl (pa_cons (pv 0) (pa_cons (pv 4) pa_nil))) (pe_c CW hr (by decide) rfl (pa_cons (pv 1) (pa_cons (pv 4) pa_nil))) (nomark _)))
      (fun _ _ _ _ _ => pv 4))
    (pss_one (ps_ret (pe_callB call_len (by rfl) T.f_len boot_len (pa_cons (pv 3) pa_nil)))))), ?_⟩
  subst hv
  have m1 := modsR_le (flat es)
  have m2 := modsR_le (flat es')
  have ml : (namesV (mods es)).length + (namesV (mods es')).length ≤ 6 := by unfold namesV; rw [List.length_map, List.length_map]; show (modsR (flat es)).length + (modsR (flat es')).length ≤ 6; omega
  refine ⟨_, rfl, Z, l, es, rfl, hpl, hf, fun la H1 e1 hla => ⟨_, rfl, Z', l', es', rfl, hpl'.ext e1, hf', fun lb H2 e2 hlb => ⟨la, lb, _, _, rfl, rfl, e2 _ _ hla, hlb, le_line (by omega), fun lc hlc => ?_⟩⟩⟩
  have f1 := (e1.trans e2).trans (Ext.upd hlc (o := .lst (namesV (mods es) ++ namesV (mods es'))))
  have hnm : namesV (mods es) ++ namesV (mods es') = ((mods es ++ mods es').map Mdl.s).map V.str := names_both es es'
  have hlc2 : SqL K (L2.upd H2 lc (.lst (namesV (mods es) ++ namesV (mods es')))) lc (((mods es ++ mods es').map Mdl.s).map V.str) := by rw [← hnm]; exact SqL.of upd_same
  generalize L2.upd H2 lc (.lst (namesV (mods es) ++ namesV (mods es'))) = H3 at f1 hlc2 ⊢
  have hll : ((mods es ++ mods es').map Mdl.s).length ≤ 6 := by
    rw [List.length_map, List.length_append]; show (modsR (flat es)).length + (modsR (flat es')).length ≤ 6; omega
  refine ⟨lc, _, rfl, .inl hlc2, by omega, fun sa cN hsa hcN => ⟨sa, _, cN, rfl, upd_same, by omega, fun ns pl hs hnd hm hlen hpl3 => ?_⟩⟩
  have hns := sorted_both hs hnd hm
  subst hns
  have f3 := f1.trans ((Ext.upd hsa (o := LKS.SetO w sa (fun j => decide (j ∈ (mods es ++ mods es').map Mdl.s)) cN)).trans (Ext.upd hpl3 (o := .lst (((modsU es es').map Mdl.s).map V.str))))
  have hU := modsU_le es es'
  refine ⟨_, rfl, pl, modsU es es', rfl, by rw [← namesV_eq, upd_same], modsU_nodup _ _, hU, fun lr H5 g2 ⟨vs, hvs, hp⟩ => ?_⟩
  have eH5 := f3.trans g2
  have hln := Paired.len hp
  have h64 := rowsOf_le hU
  refine ⟨lr, rfl, ⟨vs, SqL.of hvs⟩, fun Dl hDl => ?_⟩
  refine lc_list (xs := vs) (fun j G => Ext H5 G ∧ ∃ as, G Dl = some (.lst as) ∧ as.length = (((rowsOf (modsU es es')).take j).filter fun r => decide (out es (look r) ≠ out es' (look r))).length) ⟨Ext.upd hDl, [], upd_same, by rw [List.take_zero] <;> rfl⟩ (fun j G _ ⟨e, _⟩ => SqL.of (e _ _ hvs)) (fun j v G hx ⟨e, as, has, hal⟩ => ?_) fun G ⟨e, as, has, hal⟩ => ?_
  · have hj : j < (rowsOf (modsU es es')).length := by rw [← hln]; exact (List.getElem?_eq_some_iff.mp hx).1
    have hr' := List.getElem?_eq_getElem hj
    obtain ⟨a', rfl, ha'⟩ := Paired.get' hp hx hr'
    have hk := keys_rowsOf _ _ (List.getElem_mem hj)
    have hal2 : as.length ≤ 64 := by
      rw [hal]
      exact Nat.le_trans (List.length_filter_le _ _) (by rw [List.length_take]; omega)
    have step : (((rowsOf (modsU es es')).take (j + 1)).filter fun r => decide (out es (look r) ≠ out es' (look r))).length = (((rowsOf (modsU es es')).take j).filter fun r => decide (out es (look r) ≠ out es' (look r))).length + if out es (look (rowsOf (modsU es es'))[j]) = out es' (look (rowsOf (modsU es es'))[j]) then 0 else 1 := by
      rw [List.take_add_one, hr', List.filter_append, List.length_append]
      congr 1
      show (List.filter _ [_]).length = _
      by_cases ho : out es (look (rowsOf (modsU es es'))[j]) = out es' (look (rowsOf (modsU es es'))[j])
      · rw [if_pos ho, List.filter_cons_of_neg (by simp [ho])] <;> rfl
      · rw [if_neg ho, List.filter_cons_of_pos (by simp [ho])] <;> rfl
    refine ⟨rfl, _, rfl, _, rfl, Z, l, a', (rowsOf (modsU es es'))[j], es, rfl, hpl.ext (eH5.trans e), e _ _ ha', covers_of hk fun m h => mem_modsU.mpr (.inl h), hf, fun G2 e2 => ?_⟩
    refine ⟨_, rfl, _, rfl, Z', l', a', (rowsOf (modsU es es'))[j], es', rfl, hpl'.ext ((eH5.trans e).trans e2), e2 _ _ (e _ _ ha'), covers_of hk fun m h => mem_modsU.mpr (.inr h), hf', fun G3 e3 => ⟨rfl, _, rfl, ?_⟩⟩
    have e23 := e2.trans e3
    by_cases ho : out es (look (rowsOf (modsU es es'))[j]) = out es' (look (rowsOf (modsU es es'))[j])
    · rw [if_pos ho] at step
      rw [ho, decide_eq_true rfl]
      exact iteF ⟨e.trans e23, as, e23 _ _ has, by rw [step]; exact hal⟩
    · rw [if_neg ho] at step
      rw [show decide (V.str (inS (out es (look (rowsOf (modsU es es'))[j]))) = V.str (inS (out es' (look (rowsOf (modsU es es'))[j])))) = false from decide_eq_false fun e => ho (inS_inj.1 (V.str.inj e))]
      refine iteT ⟨_, rfl, as, e23 _ _ has, lt_line (by omega), fun a0 o0 h0 => ?_, _, upd_same, by rw [step, List.length_append, hal] <;> rfl⟩
      rw [upd_ne (fun e' => by subst e'; rw [hDl] at h0; cases h0)]
      exact e23 _ _ (e _ _ h0)
  · rw [hln, List.take_length] at hal
    refine ⟨_, rfl, _, _, rfl, .inl ⟨as, SqL.of has, rfl⟩, ?_⟩
    rw [hal]
    exact q G (eH5.trans e)
end
end LP

end

section
set_option Elab.async false
set_option linter.all false
set_option maxRecDepth 100000
set_option maxHeartbeats 4000000
/-! The law's changed, done. -/
namespace LP
open PySem PySem.Spec PyProof.Rows L2 LK LT LD LR
theorem lsl_ok {K : PySem.W.Frag} {H : Hp} {a : Addr} {xs : List V} {lo hi : Option Int} {Q : VK} (ha : H a = some (.lst xs)) (q : ∀ p H', Ext H H' → H' p = some (.lst (cutV xs lo hi)) → Q (.ref p) H') : rSlL K (.ref a) lo hi H Q :=
  ⟨a, xs, rfl, SqL.of ha, fun p hp => q p _ (Ext.upd hp) upd_same⟩
theorem cat_ok {H : Hp} {a b : Addr} {xs ys : List V} {Q : VK} (ha : H a = some (.lst xs)) (hb : H b = some (.lst ys)) (hz : xs.length + ys.length ≤ 1000) (q : ∀ p H', Ext H H' → H p = none → H' p = some (.lst (xs ++ ys)) → Q (.ref p) H') : rCat (.ref a) (.ref b) H Q :=
  ⟨a, b, xs, ys, rfl, rfl, ha, hb, le_line (by omega), fun p hp => q p _ (Ext.upd hp) hp upd_same⟩
section
variable (K : PySem.W.Frag) (z : Ad)
def ChgAt (H : Hp) (word : Str) (pt : Addr) (es es2 : List Ent) : Prop :=
  (word = "put" ∧ ∃ (i : Nat) (c : Addr) (r : Rul), SqT K H pt [.int ((i : Nat) : Int), .ref c] ∧ RuleAt K z H c r ∧ i ≤ es.length ∧ es2 = es.take i ++ [.rule r] ++ es.drop i) ∨
  (word = "take" ∧ ∃ i : Nat, SqT K H pt [.int ((i : Nat) : Int)] ∧ i < es.length ∧ es2 = es.take i ++ es.drop (i + 1)) ∨
  (word = "swap" ∧ ∃ (i : Nat) (e1 e2 : Ent), SqT K H pt [.int ((i : Nat) : Int)] ∧ es[i]? = some e1 ∧ es[i + 1]? = some e2 ∧ es2 = es.take i ++ [e2, e1] ++ es.drop (i + 2)) ∨
  (word = "turn" ∧ ∃ (n : Nat) (t : Addr) (a : Res → Axn), SqT K H pt [.int ((n : Nat) : Int), .ref t] ∧ SqT K H t (axnV a) ∧ n < (flat es).length ∧ es2 = turnE n a 0 es)
end
theorem ifS_ok {tt : TT} {t e : TS} {D : Ends} {σ : L2.St} {H : Hp} (b : Bool) (ht : ∀ Q : Bool → Hp → Prop, Q b H → tt σ H Q) (h1 : b = true → t D σ H) (h2 : b = false → e D σ H) : tIfS tt t e D σ H := by
  refine ht _ ?_
  cases b with
  | true => exact iteT (h1 rfl)
  | false => exact iteF (h2 rfl)
theorem nx_ok {f : L2.St → Hp → Prop} {r : VK} {b c : L2.St → Hp → Prop} {σ : L2.St} {H : Hp} (h : f σ H) : (Ends.mk f r b c).nx σ H := h
theorem ifSeq_ok {tt : TT} {t u : TS} {D : Ends} {σ : L2.St} {H : Hp} (b : Bool) (ht : ∀ Q : Bool → Hp → Prop, Q b H → tt σ H Q) (h1 : b = true → t { D with nx := u D } σ H) (h2 : b = false → u D σ H) : tSeq (tIfS tt t tNext) u D σ H := ifS_ok b ht h1 h2
theorem andT {tA tB : TT} {σ : L2.St} {H : Hp} {Q : Bool → Hp → Prop} (a b : Bool) (hA : ∀ Q : Bool → Hp → Prop, Q a H → tA σ H Q) (hB : ∀ Q : Bool → Hp → Prop, Q b H → tB σ H Q) (q : Q (a && b) H) : tAnd tA tB σ H Q := by
  refine hA _ ?_
  cases a with
  | true => exact iteT (hB _ q)
  | false => exact iteF q
theorem flat_put (es : List Ent) (i : Nat) (r : Rul) : (flat (es.take i ++ [.rule r] ++ es.drop i)).length = (flat es).length + 1 := by
  have h := congrArg (fun l => (flat l).length) (List.take_append_drop i es)
  simp only [flat_append, List.length_append] at h ⊢
  have : (flat [Ent.rule r]).length = 1 := rfl
  omega
theorem flat_tk (es : List Ent) (i : Nat) : (flat (es.take i ++ es.drop (i + 1))).length ≤ (flat es).length := by
  have h := congrArg (fun l => (flat l).length) (List.take_append_drop i es)
  have h2 : (flat (es.drop (i + 1))).length ≤ (flat (es.drop i)).length := by
    have h3 := congrArg (fun l => (flat l).length) (List.take_append_drop 1 (es.drop i))
    rw [List.drop_drop] at h3
    simp only [flat_append, List.length_append] at h3
    omega
  simp only [flat_append, List.length_append] at h ⊢
  omega
theorem swap_parts {α : Type} {es : List α} {i : Nat} {e1 e2 : α} (h1 : es[i]? = some e1) (h2 : es[i + 1]? = some e2) : es = es.take i ++ [e1, e2] ++ es.drop (i + 2) := by
  have a1 := (List.getElem?_eq_some_iff.mp h1)
  have a2 := (List.getElem?_eq_some_iff.mp h2)
  obtain ⟨b1, c1⟩ := a1
  obtain ⟨b2, c2⟩ := a2
  have e : es.drop i = e1 :: e2 :: es.drop (i + 2) := by
    rw [List.drop_eq_getElem_cons b1, List.drop_eq_getElem_cons b2, c1, c2]
  have h := (List.take_append_drop i es).symm
  rw [e] at h
  rw [List.append_assoc]
  exact h
theorem flat_sw {es : List Ent} {i : Nat} {e1 e2 : Ent} (h1 : es[i]? = some e1) (h2 : es[i + 1]? = some e2) : (flat (es.take i ++ [e2, e1] ++ es.drop (i + 2))).length = (flat es).length ∧ (es.take i ++ [e2, e1] ++ es.drop (i + 2)).length = es.length := by
  have h := swap_parts h1 h2
  have ha := congrArg (fun l => (flat l).length) h
  have hb := congrArg List.length h
  simp only [flat_append, flat_cons, flat_nil, List.length_append, List.length_cons, List.length_nil] at ha hb ⊢
  omega
section
variable {P : Program} {w : World} {K : PySem.W.Frag} {mg : Str → Option Value} {base : Heap} {z : Ad}
theorem ChgAt.fx {H H' : Hp} {word : Str} {pt : Addr} {es es2 : List Ent} (h : ChgAt K z H word pt es es2) (f : Fx H H') : ChgAt K z H' word pt es es2 := by
  rcases h with ⟨h1, i, c, r, h2, h3, h4⟩ | ⟨h1, i, h2, h3⟩ | ⟨h1, i, e1, e2, h2, h3⟩ | ⟨h1, n, t, a, h2, h3, h4⟩
  · exact .inl ⟨h1, i, c, r, sqT_fx h2 f, h3.fx f, h4⟩
  · exact .inr (.inl ⟨h1, i, sqT_fx h2 f, h3⟩)
  · exact .inr (.inr (.inl ⟨h1, i, e1, e2, sqT_fx h2 f, h3⟩))
  · exact .inr (.inr (.inr ⟨h1, n, t, a, sqT_fx h2 f, sqT_fx h3 f, h4⟩))
/-- the bounds of a change -/
theorem ChgAt.len {H : Hp} {word : Str} {pt : Addr} {es es2 : List Ent} (h : ChgAt K z H word pt es es2) : es2.length ≤ es.length + 1 ∧ (flat es2).length ≤ (flat es).length + 1 := by
  rcases h with ⟨_, i, c, r, _, _, h4, rfl⟩ | ⟨_, i, _, h3, rfl⟩ | ⟨_, i, e1, e2, _, h3, h4, rfl⟩ | ⟨_, n, t, a, _, _, _, rfl⟩
  · refine ⟨?_, Nat.le_of_eq (flat_put es i r)⟩
    simp only [List.length_append, List.length_take, List.length_drop, List.length_cons, List.length_nil]
    omega
  · refine ⟨?_, Nat.le_trans (flat_tk es i) (Nat.le_succ _)⟩
    simp only [List.length_append, List.length_take, List.length_drop]
    omega
  · have z := flat_sw h3 h4
    omega
  · rw [turnE_length, turnE_flat]; omega
def spDone (K : PySem.W.Frag) (z : Ad) : Sp := fun vs H Q _ => ∃ g x b vt bs m es es2 word pt, vs = [V.ref g, V.str word, V.ref pt] ∧ DeskAt K z H g x b (.ref vt) bs m ∧ bs.length ≤ 1000 ∧ SqT K H vt [] ∧ StkAt K z 2 H b es ∧ ChgAt K z H word pt es es2 ∧ Fits es ∧ Fits es2 ∧ Chg K z H g x b vt bs 2 es es2 Q
theorem c_done (T : Txt K mg z) (D : Dfn K mg "_law_done" s_law_done) (C1 : Met P w K mg base 12 z.cG "put" (spPut K z)) (C2 : Met P w K mg base 12 z.cG "turn" (spTurnG K z)) (C3 : Met P w K mg base 12 z.cG "take" (spTake K z)) (C4 : Met P w K mg base 12 z.cG "swap" (spSwap K z)) : Cal P w K mg base 13 "_law_done" (spDone K z) := by
  refine D.cal (k := 12) sc_law_done (fun _ _ _ _ _ _ us hl => match us, hl with | [_, _, _], _ => rfl) (fun vs H Q E ⟨g, x, b, vt, bs, m, es, es2, word, pt, h, _⟩ => by rw [h]; rfl) fun f cdv A outer s H vs Q E hr ⟨g, x, b, vt, bs, m, es, es2, word, pt, hv, hdk, hz, hvt, hb, hch, hf, hf2, q⟩ => ⟨_, PSs.nox
    (pss_cons (ps_if (pt_cmpR op_eq (pv 1) pe_str (nomark _)) (pss_one (ps_ret (pe_mt C1 hr (by decide) (pv 0) (pa_cons (pe_ix ix_tup (pv 2) pe_int (fun _ _ => rfl)) (pa_cons (pe_ix ix_tup (pv 2) pe_int (fun _ _ => rfl)) pa_nil))))) pss_nil)
    (pss_cons (ps_if (pt_cmpR op_eq (pv 1) pe_str (nomark _)) (pss_one (ps_ret (pe_mt C2 hr (by decide) (pv 0) (pa_cons (pe_ix ix_tup (pv 2) pe_int (fun _ _ => rfl)) (pa_cons (pe_ix ix_tup (pv 2) pe_int (fun _ _ => rfl)) pa_nil))))) pss_nil)
    (pss_one (ps_ret (pe_ifExp (pt_cmpR op_eq (pv 1) pe_str (nomark _)) (pe_mt C3 hr (by decide) (pv 0) (pa_cons (pe_ix ix_tup (pv 2) pe_int (fun _ _ => rfl)) pa_nil)) (pe_mt C4 hr (by decide) (pv 0) (pa_cons (pe_ix ix_tup (pv 2) pe_int (fun _ _ => rfl)) pa_nil))))))), ?_⟩
  subst hv
  obtain ⟨⟨dg, hg⟩, _⟩ := id hdk
  rcases hch with ⟨rfl, i, c, r, h1, h2, h3, rfl⟩ | ⟨rfl, i, h1, h2, rfl⟩ | ⟨rfl, i, y1, y2, h1, h2, h3, rfl⟩ | ⟨rfl, n, t, a, h1, h2, h3, rfl⟩
  · refine ⟨_, rfl, rfl, _, rfl, ?_⟩
    rw [show decide (V.str "put" = V.str "put") = true from decide_eq_true rfl]
    exact iteT ⟨_, rfl, g, dg, _, rfl, hg, rfl, _, rfl, pt, _, _, _, rfl, rfl, h1, atI_nat (j := 0) rfl, _, rfl, pt, _, _, _, rfl, rfl, h1, atI_nat (j := 1) rfl, g, x, b, vt, bs, m, 1, es, i, c, r, rfl, hdk, hz, hvt, hb, h2, by decide, h3, hf, hf2, q⟩
  · refine ⟨_, rfl, rfl, _, rfl, ?_⟩
    rw [show decide (V.str "take" = V.str "put") = false by decide +kernel]
    refine iteF ⟨_, rfl, rfl, _, rfl, ?_⟩
    rw [show decide (V.str "take" = V.str "turn") = false by decide +kernel]
    refine iteF ⟨_, rfl, rfl, _, rfl, ?_⟩
    rw [show decide (V.str "take" = V.str "take") = true from decide_eq_true rfl]
    exact iteT ⟨_, rfl, g, dg, _, rfl, hg, rfl, _, rfl, pt, _, _, _, rfl, rfl, h1, atI_nat (j := 0) rfl, g, x, b, vt, bs, m, 1, es, i, rfl, hdk, hz, hvt, hb, by decide, h2, hf, hf2, q⟩
  · refine ⟨_, rfl, rfl, _, rfl, ?_⟩
    rw [show decide (V.str "swap" = V.str "put") = false by decide +kernel]
    refine iteF ⟨_, rfl, rfl, _, rfl, ?_⟩
    rw [show decide (V.str "swap" = V.str "turn") = false by decide +kernel]
    refine iteF ⟨_, rfl, rfl, _, rfl, ?_⟩
    rw [show decide (V.str "swap" = V.str "take") = false by decide +kernel]
    exact iteF ⟨_, rfl, g, dg, _, rfl, hg, rfl, _, rfl, pt, _, _, _, rfl, rfl, h1, atI_nat (j := 0) rfl, g, x, b, vt, bs, m, 1, es, i, y1, y2, rfl, hdk, hz, hvt, hb, by decide, h2, h3, hf, hf2, q⟩
  · refine ⟨_, rfl, rfl, _, rfl, ?_⟩
    rw [show decide (V.str "turn" = V.str "put") = false by decide +kernel]
    refine iteF ⟨_, rfl, rfl, _, rfl, ?_⟩
    rw [show decide (V.str "turn" = V.str "turn") = true from decide_eq_true rfl]
    exact iteT ⟨_, rfl, g, dg, _, rfl, hg, rfl, _, rfl, pt, _, _, _, rfl, rfl, h1, atI_nat (j := 0) rfl, _, rfl, pt, _, _, _, rfl, rfl, h1, atI_nat (j := 1) rfl, g, x, b, vt, bs, m, es, n, t, a, rfl, hdk, hz, hvt, hb, h3, h2, hf, q⟩
def spChanged (K : PySem.W.Frag) (z : Ad) : Sp := fun vs H Q _ => ∃ (Z : Addr → Prop) (row sc l : Addr) (es : List Ent), vs = [V.ref row, V.ref l] ∧ RowIn K H row sc ∧ (∀ a, H a = none → Z a) ∧ (∀ a, Z a → a ≠ row) ∧ PlainAt Z K H l es ∧ es.length ≤ 11 ∧ (flat es).length ≤ 8 ∧
  (∀ H', Up row H H' → RowIn K H' row sc → Q .non H') ∧
  (∀ t word pt l2 es2 H', Up row H H' → RowIn K H' row sc → SqT K H' t [.str word, .ref pt, .ref l2] → PlainAt Z K H' l2 es2 → (flat es2).length ≤ 8 → ChgAt K z H' word pt es es2 → Q (.ref t) H')
theorem c_changed (T : Txt K mg z) (D : Dfn K mg "_law_changed" s_law_changed) (CT : Cal P w K mg base 1 "_law_taken" (spTaken K)) (CP : Cal P w K mg base 2 "_law_pick" (spPick K)) (CB : Cal P w K mg base 2 "_law_table" (spTbl K)) (CR : Cal P w K mg base 3 "_law_rules" (spRls K 2)) (CU : Mak P w K mg base 4 "Rule" z.cR (spRule0 K z)) (CN : Cal P w K mg base 5 "_law_turned" (spTrn K 2)) : Cal P w K mg base 6 "_law_changed" (spChanged K z) := by
  refine D.cal (k := 5) sc_law_changed (fun _ _ _ _ _ _ us hl => match us, hl with | [_, _], _ => rfl) (fun vs H Q E ⟨Z, row, sc, l, es, h, _⟩ => by rw [h]; rfl) fun f cdv A outer s H vs Q E hr ⟨Z, row, sc, l, es, hv, hrow, hZ, hZr, hpl, h11, h8, q1, q2⟩ => ⟨_, PSs.nox
    (pss_cons (ps_par3 (i := 2) (j := 3) (l := 4) (by rfl) sc_law_changed.nd rfl rfl rfl (by decide) (by decide) (by decide) rfl rfl rfl (pa_cons (pe_c CT hr (by decide) rfl (pa_cons (pv 0) (pa_cons pe_int pa_nil))) (pa_cons (pe_callB call_len (by rfl) T.f_len boot_len (pa_cons (pv 1) pa_nil)) (pa_cons (pe_callB call_len (by rfl) T.f_len boot_len (pa_cons (pe_c CR hr (by decide) rfl (pa_cons (pv 1) pa_nil)) pa_nil)) pa_nil))) (by rfl))
    (pss_cons (ps_if (PW.pt (pw_and (pt_cmpR op_eq (pv 2) pe_int (nomark _)) (pw_and1 (pt_cmpR op_lt (pv 4) pe_int (nomark _)))))
      (pss_cons (ps_set (i := 5) sc_law_changed.nd rfl (Or.inl rfl) (pe_c CT hr (by decide) rfl (pa_cons (pv 0) (pa_cons (pe_op op_add (pv 3) pe_int) pa_nil))))
      (pss_cons (ps_set (i := 6) sc_law_changed.nd rfl (Or.inl rfl) (pe_tup (pa_cons (pe_c CP hr (by decide) rfl (pa_cons (pv 0) (pa_cons (pe_lst (pa_cons pe_str (pa_cons pe_str (pa_cons pe_str pa_nil)))) pa_nil))) (pa_cons (pe_c CB hr (by decide) rfl (pa_cons (pv 0) (pa_cons pe_bl pa_nil))) pa_nil))))
      (pss_one (ps_ret (pe_tup (pa_cons pe_str (pa_cons (pe_tup (pa_cons (pv 5) (pa_cons (pe_mk CU hr (by decide) rfl (pa_cons (pe_ix ix_tup (pv 6) pe_int (fun _ _ => rfl)) (pa_cons (pe_ix ix_tup (pv 6) pe_int (fun _ _ => rfl)) pa_nil))) pa_nil)))
        (pa_cons (pe_op op_cat (pe_op op_cat (pe_slice sl_list (pv 1) po_none (po_some (pv 5))) (pe_lst (pa_cons (pv 6) pa_nil))) (pe_slice sl_list (pv 1) (po_some (pv 5)) po_none)) pa_nil))))))))
      pss_nil)
    (pss_cons (ps_if (PW.pt (pw_and (pt_cmpR op_eq (pv 2) pe_int (nomark _)) (pw_and1 (pt_cmpR op_gt (pv 3) pe_int (nomark _)))))
      (pss_cons (ps_set (i := 5) sc_law_changed.nd rfl (Or.inl rfl) (pe_c CT hr (by decide) rfl (pa_cons (pv 0) (pa_cons (pv 3) pa_nil))))
      (pss_one (ps_ret (pe_tup (pa_cons pe_str (pa_cons (pe_tup (pa_cons (pv 5) pa_nil)) (pa_cons (pe_op op_cat (pe_slice sl_list (pv 1) po_none (po_some (pv 5))) (pe_slice sl_list (pv 1) (po_some (pe_op op_add (pv 5) pe_int)) po_none)) pa_nil)))))))
      pss_nil)
    (pss_cons (ps_if (PW.pt (pw_and (pt_cmpR op_eq (pv 2) pe_int (nomark _)) (pw_and1 (pt_cmpR op_gt (pv 3) pe_int (nomark _)))))
      (pss_cons (ps_set (i := 5) sc_law_changed.nd rfl (Or.inl rfl) (pe_c CT hr (by decide) rfl (pa_cons (pv 0) (pa_cons (pe_op op_sub (pv 3) pe_int) pa_nil))))
      (pss_one (ps_ret (pe_tup (pa_cons pe_str (pa_cons (pe_tup (pa_cons (pv 5) pa_nil)) (pa_cons (pe_op op_cat (pe_op op_cat (pe_slice sl_list (pv 1) po_none (po_some (pv 5))) (pe_lst (pa_cons (pe_ix ix_list (pv 1) (pe_op op_add (pv 5) pe_int) (fun _ _ => rfl)) (pa_cons (pe_ix ix_list (pv 1) (pv 5) (fun _ _ => rfl)) pa_nil)))) (pe_slice sl_list (pv 1) (po_some (pe_op op_add (pv 5) pe_int)) po_none)) pa_nil)))))))
      pss_nil)
    (pss_cons (ps_if (pt_cmpR op_eq (pv 4) pe_int (nomark _)) (pss_one (ps_ret pe_non)) pss_nil)
    (pss_cons (ps_par (i := 7) (j := 8) (by rfl) sc_law_changed.nd rfl rfl (by decide) rfl rfl (pa_cons (pe_c CT hr (by decide) rfl (pa_cons (pv 0) (pa_cons (pv 4) pa_nil))) (pa_cons (pe_c CB hr (by decide) rfl (pa_cons (pv 0) (pa_cons pe_bl pa_nil))) pa_nil)) (by rfl))
    (pss_one (ps_ret (pe_tup (pa_cons pe_str (pa_cons (pe_tup (pa_cons (pv 7) (pa_cons (pv 8) pa_nil))) (pa_cons (pe_c CN hr (by decide) rfl (pa_cons (pv 1) (pa_cons (pv 7) (pa_cons (pv 8) (pa_cons pe_int pa_nil))))) pa_nil)))))))))))), ?_⟩
  subst hv
  obtain ⟨vs, hzl, hvs, hp⟩ := id hpl
  obtain ⟨_, _, _, hrat⟩ := hrow.at
  have hln := Paired.len hp
  refine ⟨_, rfl, row, sc, 4, rfl, hrow, by decide, by decide, fun way H1 hw u1 hr1 => ?_⟩
  have hpl1 := hpl.up u1 hrat hZr
  refine ⟨_, rfl, _, es.length, rfl, .inl ⟨vs, SqL.of (u1 _ _ (hZr _ hzl) hvs), hln.symm⟩, _, rfl, Z, l, es, rfl, hpl1, trivial, by omega, fun lr vr H2 e2 hlr hpr => ⟨_, (flat es).length, rfl, .inl ⟨vr, SqL.of hlr, (Paired.len hpr).symm⟩, _, _, _, rfl, ?_⟩⟩
  have hr2 := hr1.ext e2
  have U2 : Up row H H2 := u1.trans (Up.ext e2)
  -- what holds of the given list in later heaps
  have later : ∀ {G : Hp}, Up row H G → G l = some (.lst vs) ∧ Paired (PEntV Z K G) vs es := fun u => ⟨u _ _ (hZr _ hzl) hvs, PEntV.all hp (hrow.fx u) fun l xs zl h => u _ _ (hZr _ zl) h⟩
  have fresh : ∀ {G : Hp} {a : Addr}, Up row H G → RowIn K G row sc → G a = none → Z a := fun u r h => hZ _ (r.none u h)
  refine nx_ok ?_
  refine ifSeq_ok (decide (V.int ((way : Nat) : Int) = V.int 0) && decide (((flat es).length : Int) < 8)) (fun Q q => andT _ _ (fun Q q => ⟨_, rfl, rfl, _, rfl, q⟩) (fun Q q => ⟨_, rfl, _, _, rfl, rfl, _, rfl, q⟩) q) (fun hb => ?_) fun hb => ?_
  · -- put
    have hc8 : (flat es).length < 8 := by
      have h := of_decide_eq_true (Bool.and_eq_true_iff.mp hb).2
      omega
    refine ⟨_, rfl, _, rfl, _, _, rfl, rfl, row, sc, es.length + 1, rfl, hr2, by omega, by omega, fun ix H3 hix u3 hr3 => ?_⟩
    refine ⟨_, rfl, by show 3 ≤ sizeLine; decide, fun nl hnl => ?_⟩
    have e4 := Ext.upd hnl (o := .lst [.str "key", .str "pin", .str "card"])
    have hr4 := hr3.ext e4
    obtain ⟨_, _, _, hr3at⟩ := hr3.at
    have nnl : nl ≠ row := fun e => by rw [e, hr3at] at hnl; cases hnl
    refine ⟨row, sc, nl, nmV, rfl, hr4, upd_same, nnl, by decide, by decide, fun v H5 hvm u5 hr5 => ?_⟩
    obtain ⟨m, rfl⟩ := nm_mdl hvm
    refine ⟨_, rfl, row, sc, rfl, hr5, fun t a H6 u6 hr6 ht => ⟨by show 2 ≤ sizeLine; decide, fun tp htp => ?_⟩⟩
    have U6 : Up row H H6 := ((U2.trans u3).trans (Up.ext e4)).trans (u5.trans u6)
    have e7 := Ext.upd htp (o := .tup [.str m.s, .ref t])
    have htp7 : SqT K (L2.upd H6 tp (.tup [.str m.s, .ref t])) tp [.str m.s, .ref t] := SqT.new
    have ht7 := sqT_fx ht e7.fx
    have hr7 := hr6.ext e7
    have U7 : Up row H _ := U6.trans (Up.ext e7)
    generalize L2.upd H6 tp (.tup [.str m.s, .ref t]) = H7 at e7 htp7 ht7 hr7 U7 ⊢
    refine ⟨_, rfl, _, rfl, tp, _, _, _, rfl, rfl, htp7, atI_nat (j := 0) rfl, _, rfl, tp, _, _, _, rfl, rfl, htp7, atI_nat (j := 1) rfl, fun x dx hx hdx ne => ?_⟩
    have g4 : Ext H7 _ := Ext.upd' (Ext.upd hdx (o := .own x)) (o := .ins z.cR dx []) (by rw [upd_ne ne.symm]; exact hx)
    refine ⟨x, dx, t, ⟨m, a⟩, rfl, upd_same, sqT_fx ht7 g4.fx, fun G3 u3' hr3' => ⟨rfl, ?_⟩⟩
    have e8 := mk_ext hx hdx u3'
    refine ⟨by show 2 ≤ sizeLine; decide, fun pt hpt => ?_⟩
    have e9 := Ext.upd hpt (o := .tup [.int ((ix : Nat) : Int), .ref x])
    have hpt9 : SqT K (L2.upd G3 pt (.tup [.int ((ix : Nat) : Int), .ref x])) pt [.int ((ix : Nat) : Int), .ref x] := SqT.new
    have hru9 := hr3'.fx e9.fx
    have e79 := e8.trans e9
    generalize L2.upd G3 pt (.tup [.int ((ix : Nat) : Int), .ref x]) = G4 at e9 hpt9 hru9 e79 ⊢
    have U9 : Up row H G4 := U7.trans (Up.ext e79)
    refine ⟨_, rfl, _, rfl, _, rfl, lsl_ok (later U9).1 fun p1 G5 f1 hp1 => ?_⟩
    rw [cut_to] at hp1
    refine ⟨_, rfl, by show 1 ≤ sizeLine; decide, fun p2 hp2 => ?_⟩
    have f2 := Ext.upd hp2 (o := .lst [.ref tp])
    refine cat_ok (f2 _ _ hp1) upd_same (by rw [List.length_take]; show min ix vs.length + 1 ≤ 1000; omega) fun p3 G7 f3 _ hp3 => ?_
    have f13 := f1.trans (f2.trans f3)
    refine ⟨_, rfl, _, rfl, _, rfl, ?_⟩
    unfold tNoPart
    refine lsl_ok (later (U9.trans (Up.ext f13))).1 fun p4 G8 f4 hp4 => ?_
    rw [cut_from] at hp4
    refine cat_ok (f4 _ _ hp3) hp4 (by rw [List.length_append, List.length_take, List.length_drop]; show min ix vs.length + 1 + (vs.length - ix) ≤ 1000; omega) fun p5 G9 f5 hp5n hp5 => ?_
    have f14 := f13.trans f4
    have U8 := U9.trans (Up.ext f14)
    have R8 := (hr7.ext e79).ext f14
    have hz5 := fresh U8 R8 hp5n
    have f15 := f14.trans f5
    have U10 := U9.trans (Up.ext f15)
    refine ⟨by show 3 ≤ sizeLine; decide, fun tt htt => ?_⟩
    have f6 := Ext.upd htt (o := .tup [.str "put", .ref pt, .ref p5])
    have f16 := f15.trans f6
    have hpe := (later (U9.trans (Up.ext f16))).2
    refine q2 tt "put" pt p5 (es.take ix ++ [.rule ⟨m, a⟩] ++ es.drop ix) _ (U9.trans (Up.ext f16)) ((hr7.ext e79).ext f16) SqT.new ⟨_, hz5, f6 _ _ hp5, ?_⟩ (by rw [flat_put]; omega) (.inl ⟨rfl, ix, x, ⟨m, a⟩, sqT_fx hpt9 f16.fx, hru9.fx f16.fx, by omega, rfl⟩)
    exact Paired.app (Paired.app (Paired.tk hpe ix) (.cons ⟨tp, t, rfl, sqT_fx htp7 (e79.trans f16).fx, sqT_fx ht7 (e79.trans f16).fx⟩ .nil)) (Paired.dr hpe ix)
  refine ifSeq_ok (decide (V.int ((way : Nat) : Int) = V.int 1) && decide ((0 : Int) < (es.length : Int))) (fun Q q => andT _ _ (fun Q q => ⟨_, rfl, rfl, _, rfl, q⟩) (fun Q q => ⟨_, rfl, _, _, rfl, rfl, _, rfl, q⟩) q) (fun hb => ?_) fun hb => ?_
  · -- take
    have hm0 : 0 < es.length := by
      have h := of_decide_eq_true (Bool.and_eq_true_iff.mp hb).2
      omega
    refine ⟨_, rfl, _, rfl, row, sc, es.length, rfl, hr2, by omega, by omega, fun ix H3 hix u3 hr3 => ?_⟩
    have U3 := U2.trans u3
    refine ⟨_, rfl, by show 1 ≤ sizeLine; decide, fun pt hpt => ?_⟩
    have e9 := Ext.upd hpt (o := .tup [.int ((ix : Nat) : Int)])
    have hpt9 : SqT K (L2.upd H3 pt (.tup [.int ((ix : Nat) : Int)])) pt [.int ((ix : Nat) : Int)] := SqT.new
    have hr9 := hr3.ext e9
    have U9 : Up row H _ := U3.trans (Up.ext e9)
    generalize L2.upd H3 pt (.tup [.int ((ix : Nat) : Int)]) = G4 at e9 hpt9 hr9 U9 ⊢
    refine ⟨_, rfl, _, rfl, _, rfl, lsl_ok (later U9).1 fun p1 G5 f1 hp1 => ?_⟩
    rw [cut_to] at hp1
    refine ⟨_, rfl, _, rfl, _, _, rfl, rfl, _, rfl, ?_⟩
    unfold tNoPart
    refine lsl_ok (later (U9.trans (Up.ext f1))).1 fun p4 G8 f4 hp4 => ?_
    rw [show ((ix : Nat) : Int) + 1 = ((ix + 1 : Nat) : Int) from rfl, cut_from] at hp4
    refine cat_ok (f4 _ _ hp1) hp4 (by rw [List.length_take, List.length_drop]; omega) fun p5 G9 f5 hp5n hp5 => ?_
    have f14 := f1.trans f4
    have hz5 := fresh (U9.trans (Up.ext f14)) (hr9.ext f14) hp5n
    have f15 := f14.trans f5
    refine ⟨by show 3 ≤ sizeLine; decide, fun tt htt => ?_⟩
    have f6 := Ext.upd htt (o := .tup [.str "take", .ref pt, .ref p5])
    have f16 := f15.trans f6
    have hpe := (later (U9.trans (Up.ext f16))).2
    refine q2 tt "take" pt p5 (es.take ix ++ es.drop (ix + 1)) _ (U9.trans (Up.ext f16)) (hr9.ext f16) SqT.new ⟨_, hz5, f6 _ _ hp5, ?_⟩ (Nat.le_trans (flat_tk es ix) h8) (.inr (.inl ⟨rfl, ix, sqT_fx hpt9 f16.fx, hix, rfl⟩))
    exact Paired.app (Paired.tk hpe ix) (Paired.dr hpe (ix + 1))
  refine ifSeq_ok (decide (V.int ((way : Nat) : Int) = V.int 2) && decide ((1 : Int) < (es.length : Int))) (fun Q q => andT _ _ (fun Q q => ⟨_, rfl, rfl, _, rfl, q⟩) (fun Q q => ⟨_, rfl, _, _, rfl, rfl, _, rfl, q⟩) q) (fun hb => ?_) fun hb => ?_
  · -- swap
    have hm1 : 1 < es.length := by
      have h := of_decide_eq_true (Bool.and_eq_true_iff.mp hb).2
      omega
    refine ⟨_, rfl, _, rfl, _, _, rfl, rfl, row, sc, es.length - 1, by show [V.ref row, V.int (((es.length : Nat) : Int) - 1)] = _; rw [show ((es.length : Nat) : Int) - 1 = ((es.length - 1 : Nat) : Int) by omega], hr2, by omega, by omega, fun ix H3 hix u3 hr3 => ?_⟩
    have U3 := U2.trans u3
    have hi1 : ix < es.length := by omega
    have hi2 : ix + 1 < es.length := by omega
    have hv1 : vs[ix]? = some vs[ix] := List.getElem?_eq_getElem (by omega)
    have hv2 : vs[ix + 1]? = some vs[ix + 1] := List.getElem?_eq_getElem (by omega)
    have hE1 : es[ix]? = some es[ix] := List.getElem?_eq_getElem hi1
    have hE2 : es[ix + 1]? = some es[ix + 1] := List.getElem?_eq_getElem hi2
    refine ⟨_, rfl, by show 1 ≤ sizeLine; decide, fun pt hpt => ?_⟩
    have e9 := Ext.upd hpt (o := .tup [.int ((ix : Nat) : Int)])
    have hpt9 : SqT K (L2.upd H3 pt (.tup [.int ((ix : Nat) : Int)])) pt [.int ((ix : Nat) : Int)] := SqT.new
    have hr9 := hr3.ext e9
    have U9 : Up row H _ := U3.trans (Up.ext e9)
    generalize L2.upd H3 pt (.tup [.int ((ix : Nat) : Int)]) = G4 at e9 hpt9 hr9 U9 ⊢
    refine ⟨_, rfl, _, rfl, _, rfl, lsl_ok (later U9).1 fun p1 G5 f1 hp1 => ?_⟩
    rw [cut_to] at hp1
    have l5 := (later (U9.trans (Up.ext f1))).1
    refine ⟨_, rfl, _, rfl, _, _, rfl, rfl, l, _, _, _, rfl, rfl, SqL.of l5, atI_nat hv2, _, rfl, _, rfl, l, _, _, _, rfl, rfl, SqL.of l5, atI_nat hv1, by show 2 ≤ sizeLine; decide, fun p2 hp2 => ?_⟩
    have f2 := Ext.upd hp2 (o := .lst [vs[ix + 1], vs[ix]])
    refine cat_ok (f2 _ _ hp1) upd_same (by rw [List.length_take]; show min ix vs.length + 2 ≤ 1000; omega) fun p3 G7 f3 _ hp3 => ?_
    have f13 := f1.trans (f2.trans f3)
    refine ⟨_, rfl, _, rfl, _, _, rfl, rfl, _, rfl, ?_⟩
    unfold tNoPart
    refine lsl_ok (later (U9.trans (Up.ext f13))).1 fun p4 G8 f4 hp4 => ?_
    rw [show ((ix : Nat) : Int) + 2 = ((ix + 2 : Nat) : Int) from rfl, cut_from] at hp4
    refine cat_ok (f4 _ _ hp3) hp4 (by rw [List.length_append, List.length_take, List.length_drop]; show min ix vs.length + 2 + (vs.length - (ix + 2)) ≤ 1000; omega) fun p5 G9 f5 hp5n hp5 => ?_
    have f14 := f13.trans f4
    have hz5 := fresh (U9.trans (Up.ext f14)) (hr9.ext f14) hp5n
    have f15 := f14.trans f5
    refine ⟨by show 3 ≤ sizeLine; decide, fun tt htt => ?_⟩
    have f6 := Ext.upd htt (o := .tup [.str "swap", .ref pt, .ref p5])
    have f16 := f15.trans f6
    have hpe := (later (U9.trans (Up.ext f16))).2
    refine q2 tt "swap" pt p5 (es.take ix ++ [es[ix + 1], es[ix]] ++ es.drop (ix + 2)) _ (U9.trans (Up.ext f16)) (hr9.ext f16) SqT.new ⟨_, hz5, f6 _ _ hp5, ?_⟩ (by rw [(flat_sw hE1 hE2).1]; exact h8) (.inr (.inr (.inl ⟨rfl, ix, _, _, sqT_fx hpt9 f16.fx, hE1, hE2, rfl⟩)))
    exact Paired.app (Paired.app (Paired.tk hpe ix) (.cons (Paired.get' hpe hv2 hE2) (.cons (Paired.get' hpe hv1 hE1) .nil))) (Paired.dr hpe (ix + 2))
  refine ifSeq_ok (decide (V.int (((flat es).length : Nat) : Int) = V.int 0)) (fun Q q => ⟨_, rfl, rfl, _, rfl, q⟩) (fun hb => q1 H2 U2 hr2) fun hb => ?_
  have hc0 : 0 < (flat es).length := by
    have h := of_decide_eq_false hb
    rcases Nat.eq_zero_or_pos (flat es).length with h0 | h0
    · exact absurd (by rw [h0] <;> rfl) h
    · exact h0
  refine ⟨_, rfl, _, rfl, row, sc, (flat es).length, rfl, hr2, hc0, by omega, fun n H3 hn u3 hr3 => ⟨_, rfl, row, sc, rfl, hr3, fun t a H4 u4 hr4 ht => ⟨_, _, rfl, ?_⟩⟩⟩
  have U4 := U2.trans (u3.trans u4)
  refine ⟨_, rfl, _, rfl, by show 2 ≤ sizeLine; decide, fun pt hpt => ?_⟩
  have e9 := Ext.upd hpt (o := .tup [.int ((n : Nat) : Int), .ref t])
  have hpt9 : SqT K (L2.upd H4 pt (.tup [.int ((n : Nat) : Int), .ref t])) pt [.int ((n : Nat) : Int), .ref t] := SqT.new
  have hr9 := hr4.ext e9
  have ht9 := sqT_fx ht e9.fx
  have U9 : Up row H _ := U4.trans (Up.ext e9)
  generalize L2.upd H4 pt (.tup [.int ((n : Nat) : Int), .ref t]) = G4 at e9 hpt9 hr9 ht9 U9 ⊢
  refine ⟨_, rfl, _, rfl, _, rfl, Z, l, n, t, 0, es, a, rfl, ⟨vs, hzl, later U9⟩, fun b hb => fresh U9 hr9 hb, ht9, trivial, ⟨by omega, by omega⟩, fun l2 G5 f1 hl2 => ⟨by show 3 ≤ sizeLine; decide, fun tt htt => ?_⟩⟩
  have f6 := Ext.upd htt (o := .tup [.str "turn", .ref pt, .ref l2])
  have f16 := f1.trans f6
  exact q2 tt "turn" pt l2 (turnE n a 0 es) _ (U9.trans (Up.ext f16)) (hr9.ext f16) SqT.new (hl2.ext f6) (by rw [turnE_flat]; exact h8) (.inr (.inr (.inr ⟨rfl, n, t, a, sqT_fx hpt9 f16.fx, sqT_fx ht9 f16.fx, hn, rfl⟩)))
end
end LP

end

section
set_option Elab.async false
set_option linter.all false
set_option maxRecDepth 100000
set_option maxHeartbeats 8000000
/-! The law. -/
namespace LP
open PySem PySem.Spec PyProof.Rows L2 LK LT LD LR
theorem PlainAt.fresh {Z : Addr → Prop} {K : PySem.W.Frag} {H : Hp} {l p : Addr} {es : List Ent} (h : PlainAt Z K H l es) (hp : H p = none) : PlainAt (fun a => Z a ∧ a ≠ p) K H l es := by
  obtain ⟨vs, h1, h2, h3⟩ := h
  refine ⟨vs, ⟨h1, ne_of_none h2 hp⟩, h2, Paired.imp (fun v e h => ?_) h3⟩
  cases e with
  | rule r => exact h
  | inner rs => obtain ⟨l', vs', k1, k2, k3, k4⟩ := h; exact ⟨l', vs', k1, ⟨k2, ne_of_none k3 hp⟩, k3, k4⟩
theorem PlainAt.to {Z : Addr → Prop} {K : PySem.W.Frag} {H H' : Hp} {l : Addr} {es : List Ent} (h : PlainAt Z K H l es) (f : Fx H H') (k : ∀ l xs, Z l → H l = some (.lst xs) → H' l = some (.lst xs)) : PlainAt Z K H' l es :=
  let ⟨vs, h1, h2, h3⟩ := h; ⟨vs, h1, k _ _ h1 h2, PEntV.all h3 f k⟩
def HistV (Z : Addr → Prop) (K : PySem.W.Frag) (z : Ad) (H : Hp) (v : V) (c : Addr) : Prop := ∃ pl es, v = .ref pl ∧ PlainAt Z K H pl es ∧ StkAt K z 2 H c es ∧ Fits es
theorem HistV.all {Z : Addr → Prop} {K : PySem.W.Frag} {z : Ad} {H H' : Hp} {vs : List V} {cs : List Addr} (h : Paired (HistV Z K z H) vs cs) (f : Fx H H') (k : ∀ l xs, Z l → H l = some (.lst xs) → H' l = some (.lst xs)) : Paired (HistV Z K z H') vs cs :=
  Paired.imp (fun _ _ ⟨pl, es, h1, h2, h3, h4⟩ => ⟨pl, es, h1, h2.to f k, h3.fx f, h4⟩) h
theorem hist_ref {Z : Addr → Prop} {K : PySem.W.Frag} {z : Ad} {H : Hp} : ∀ {ps : List V} {cs : List Addr}, Paired (HistV Z K z H) ps cs → ps = [] ∨ ∃ a ys, ps = .ref a :: ys
  | _, _, .nil => .inl rfl
  | v :: vs, _, .cons ⟨pl, _, e, _⟩ _ => .inr ⟨pl, vs, by rw [e]⟩
def trues (n : Nat) : List PyData := List.replicate n (.bool true)
theorem trues_lay (n : Nat) : PyData.canLayAll0 (trues n) = true ∧ PyData.depthAll (trues n) = 0 := by
  induction n with
  | zero => exact ⟨rfl, rfl⟩
  | succ n ih =>
    obtain ⟨h1, h2⟩ := ih
    constructor
    · show PyData.canLayAll0 (.bool true :: trues n) = true
      simp [PyData.canLayAll0, PyData.canLay0, h1]
    · show PyData.depthAll (.bool true :: trues n) = 0
      simp [PyData.depthAll, PyData.depth, h2]
theorem trues_shaped (n : Nat) : SeqAt.shaped (.list (trues n)) = true := by
  obtain ⟨h1, h2⟩ := trues_lay n
  simp [SeqAt.shaped, PyData.canLay0, PyData.depth, h1, h2]
theorem trues_dp {K : PySem.W.Frag} {H : Hp} (n : Nat) : DpAll K H (List.replicate n (V.bl true)) (trues n) := by
  induction n with
  | zero => exact .nil
  | succ n ih => exact .cons (.bl true) ih
theorem flat_rep (n : Nat) : (List.replicate n [V.bl true]).flatten = List.replicate n (V.bl true) := by
  induction n with
  | zero => rfl
  | succ n ih => rw [List.replicate_succ, List.flatten_cons, ih, List.replicate_succ] <;> rfl
theorem where_case (es : List Ent) : whereS es = "open" ∨ ∃ wd, whereS es = inS wd := by
  unfold whereS
  split
  · exact .inr ⟨true, rfl⟩
  · split
    · exact .inr ⟨false, rfl⟩
    · exact .inl rfl
theorem not_open (wd : Bool) : decide (V.str (inS wd) = V.str "open") = false := by cases wd <;> decide +kernel
theorem RowIn.upx {K : PySem.W.Frag} {z : Ad} {H H' : Hp} {row sc g x b : Addr} {vv : V} {bs : List Addr} {m : Nat} (h : RowIn K H row sc) (d : DeskAt K z H g x b vv bs m) (u : Up x H H') : RowIn K H' row sc := by
  obtain ⟨ns, i, s, r, h1, h2, h3⟩ := h
  refine ⟨ns, i, s, r, d.keepL u h1, ?_, h3⟩
  obtain ⟨_, dx, nn, a, u', ps, us, k1, _⟩ := d
  rcases h2 with (h | ⟨o', h⟩) | h
  · exact .inl (.inl (u _ _ (ne_of h k1.1 (fun q => nomatch q)) h))
  · exact .inl (.inr ⟨o', u _ _ (ne_of h k1.1 (fun q => nomatch q)) h⟩)
  · exact .inr h
section
variable {P : Program} {w : World} {K : PySem.W.Frag} {mg : Str → Option Value} {base : Heap} {z : Ad}
def spLaw (K : PySem.W.Frag) : Sp := fun vs H Q _ => ∃ (sc : Addr) (ns : List Int), vs = [V.ref sc] ∧ SqL K H sc (ns.map V.int) ∧ ∀ H', Q (.bl true) H'
theorem law_body (T : Txt K mg z) (CT : Cal P w K mg base 1 "_law_taken" (spTaken K)) (CPl : Cal P w K mg base 5 "_law_plain" (spPlain K 2)) (CRg : Mak P w K mg base 3 "Register" z.cG (spReg K z)) (CMd : Cal P w K mg base 8 "_law_made" (spMade K z 2)) (CCh : Cal P w K mg base 6 "_law_changed" (spChanged K z))
    (CSt : Met P w K mg base 1 z.cG "stack" (spStackM K z)) (CU : Cal P w K mg base 8 "_law_unlike" (spUnl K)) (CDn : Cal P w K mg base 13 "_law_done" (spDone K z)) (CEq : Dun P w K mg base 5 z.cS "__eq__" (spEq (StkEq K z 2))) (CAl : Cal P w K mg base 11 "alike" (spAlike K z)) (CFd : Cal P w K mg base 10 "first_difference" (spFirstD K z))
    (CSe : Cal P w K mg base 10 "settled" (spSettled K z)) (CPr : Met P w K mg base 11 z.cG "promise" (spProm K z)) (CUn : Met P w K mg base 3 z.cG "undo" (spUndo K z)) (CRe : Met P w K mg base 3 z.cG "redo" (spRedo K z)) : Body P w K mg base 13 ["_law_script", "_law_row", "_law_plain_here", "_law_desk", "_law_past", "_law_turn", "_law_change", "_law_word", "_law_parts", "_law_new", "_law_old", "_law_due", "_law_where_here", "_law_one"] "law" s_law (spLaw K) := by
  intro f cdv A outer s H vs Q E hr hsp
  obtain ⟨sc, ns, hv, hsc, q⟩ := hsp
  refine ⟨_, PSs.nox
    (pss_cons (ps_set (i := 1) sc_law.nd rfl (Or.inl rfl) (pe_lst (pa_cons (pv 0) (pa_cons pe_int (pa_cons pe_int (pa_cons pe_int pa_nil))))))
    (pss_cons (ps_set (i := 2) sc_law.nd rfl (Or.inl rfl) (pe_c CPl hr (by decide) rfl (pa_cons (pv 1) (pa_cons (pe_lst (pa_cons pe_str (pa_cons pe_str (pa_cons pe_str pa_nil)))) (pa_cons pe_int (pa_cons pe_int (pa_cons pe_bl pa_nil)))))))
    (pss_cons (ps_asg (pe_tup (pa_cons (pe_mk CRg hr (by decide) rfl (pa_cons (pe_c CMd hr (by decide) rfl (pa_cons (pv 2) pa_nil)) pa_nil)) (pa_cons (pe_lst (pa_cons (pv 2) pa_nil)) pa_nil))) (pg_tup rfl (pgs_cons (pg_name (i := 3) sc_law.nd rfl (Or.inr rfl)) (pgs_cons (pg_name (i := 4) sc_law.nd rfl (Or.inl rfl)) pgs_nil))))
    (pss_cons (ps_for PassesOwn.never rfl (pi_range1 rfl T.f_range (pa_cons (pe_op op_add pe_int (pe_c CT hr (by decide) rfl (pa_cons (pv 1) (pa_cons pe_int pa_nil)))) pa_nil)) (pg_name (i := 5) sc_law.nd rfl (Or.inl rfl))
      (pss_cons (ps_set (i := 6) sc_law.nd rfl (Or.inl rfl) (pe_c CCh hr (by decide) rfl (pa_cons (pv 1) (pa_cons (pv 2) pa_nil))))
      (pss_one (ps_if (pt_cmpR op_notN (pv 6) pe_non (nomark _))
        (pss_cons (ps_asg (pv 6) (pg_tup rfl (pgs_cons (pg_name (i := 7) sc_law.nd rfl (Or.inl rfl)) (pgs_cons (pg_name (i := 8) sc_law.nd rfl (Or.inl rfl)) (pgs_cons (pg_name (i := 9) sc_law.nd rfl (Or.inl rfl)) pgs_nil)))))
        (pss_cons (ps_par (i := 10) (j := 11) (by rfl) sc_law.nd rfl rfl (by decide) rfl rfl (pa_cons (pe_mt0 CSt hr (by decide) (pv 3)) (pa_cons (pe_c CU hr (by decide) rfl (pa_cons (pv 2) (pa_cons (pv 9) pa_nil))) pa_nil)) (by rfl))
        (pss_cons (ps_if (PW.pt (pw_or (pt_cmpR op_ne (pe_c CDn hr (by decide) rfl (pa_cons (pv 3) (pa_cons (pv 7) (pa_cons (pv 8) pa_nil)))) (pv 11) (nomark _)) (pw_or1 (pt_cmpR (op_neO CEq T.nnS (hr.mono (by decide))) (pe_mt0 CSt hr (by decide) (pv 3)) (pe_c CMd hr (by decide) rfl (pa_cons (pv 9) pa_nil)) (nomark _))))) (pss_one (ps_ret pe_bl)) pss_nil)
        (pss_cons (ps_if (pt_cmpR op_ne (pe_c CAl hr (by decide) rfl (pa_cons (pv 10) (pa_cons (pe_mt0 CSt hr (by decide) (pv 3)) pa_nil))) (pe_cmpR op_eq (pv 11) pe_int (nomark _)) (nomark _)) (pss_one (ps_ret pe_bl)) pss_nil)
        (pss_cons (ps_if (pt_cmpR op_ne (pe_cmpR op_isN (pe_c CFd hr (by decide) rfl (pa_cons (pv 10) (pa_cons (pe_mt0 CSt hr (by decide) (pv 3)) pa_nil))) pe_non (nomark _)) (pe_cmpR op_eq (pv 11) pe_int (nomark _)) (nomark _)) (pss_one (ps_ret pe_bl)) pss_nil)
        (pss_cons (ps_set (i := 2) sc_law.nd rfl (Or.inl rfl) (pv 9))
        (pss_one (ps_expr (pe_bm PySem.F.plainAttrs_list PySem.F.slot_list_append PySem.F.type_list_append mt_append (pv 4) (pa_cons (pv 9) pa_nil))))))))))
        pss_nil))))
    (pss_cons (ps_set (i := 12) sc_law.nd rfl (Or.inl rfl) (pe_c CSe hr (by decide) rfl (pa_cons (pe_mt0 CSt hr (by decide) (pv 3)) (pa_cons pe_dnewK pa_nil))))
    (pss_cons (ps_if (PW.pt (pw_and (pt_cmpR op_ne (pv 12) pe_str (nomark _)) (pw_and1 (pt_cmpR op_ne (pe_mt CPr hr (by decide) (pv 3) (pa_cons pe_dnewK (pa_cons (pv 12) pa_nil))) pe_int (nomark _))))) (pss_one (ps_ret pe_bl)) pss_nil)
    (pss_cons (ps_if (PW.pt (pw_and (pt_cmpR op_ne (pv 12) pe_str (nomark _)) (pw_and1 (pt_cmpR op_isnot_bl (pe_mt0 CUn hr (by decide) (pv 3)) pe_bl (nomark _))))) (pss_one (ps_ret pe_bl)) pss_nil)
    (pss_cons (ps_for PassesOwn.never rfl (pi_list (pe_revL (pe_slice sl_list (pv 4) po_none (po_some (pe_un un_neg pe_int))))) (pg_name (i := 13) sc_law.nd rfl (Or.inl rfl))
      (pss_one (ps_if (PW.pt (pw_or (pt_cmpR op_isnot_bl (pe_mt0 CUn hr (by decide) (pv 3)) pe_bl (nomark _)) (pw_or1 (pt_cmpR (op_neO CEq T.nnS (hr.mono (by decide))) (pe_mt0 CSt hr (by decide) (pv 3)) (pe_c CMd hr (by decide) rfl (pa_cons (pv 13) pa_nil)) (nomark _))))) (pss_one (ps_ret pe_bl)) pss_nil)))
    (pss_one (ps_ret (pe_and (pe_cmpR op_is_bl (pe_mt0 CUn hr (by decide) (pv 3)) pe_bl (nomark _)) (pe_one (pe_cmpR (op_eqD hr.units)
      (pe_lc (own := [("_law_one", 13)]) (g := gName 13) (tt := tYes) (te := tMetR z.cG "redo" (spRedo K z) (tVar 3) tNil) rfl sc_law.nd (pi_list (pe_slice sl_list (pv 4) (po_some pe_int) po_none)) (blkOk_by (N := ["_law_script", "_law_row", "_law_plain_here", "_law_desk", "_law_past", "_law_turn", "_law_change", "_law_word", "_law_parts", "_law_new", "_law_old", "_law_due", "_law_where_here", "_law_one"]) (sc := defScope s_law) (by decide +kernel)) (fun _ _ _ _ _ => pg_name (i := 13) sc_law.nd rfl (Or.inl rfl)) (fun _ _ _ _ _ => pts_nil) (fun _ _ _ _ _ => pe_mt0 CRe hr (by decide) (pv 3)))
      (pe_op op_rep (pe_lst (pa_cons pe_bl pa_nil)) (pe_op op_sub (pe_callB call_len (by rfl) T.f_len boot_len (pa_cons (pv 4) pa_nil)) pe_int)) (nomark _)))))))))))))), ?_⟩
  subst hv
  refine ⟨_, rfl, by show 4 ≤ sizeLine; decide, fun row hrow => ?_⟩
  have r1 : RowIn K (L2.upd H row (.lst [.ref sc, .int 0, .int 0, .int 0])) row sc := ⟨ns, 0, 0, 0, upd_same, SqL.ext hsc (Ext.upd hrow), by decide, by decide, by decide, by decide⟩
  generalize L2.upd H row (.lst [.ref sc, .int 0, .int 0, .int 0]) = H1 at r1 ⊢
  refine ⟨_, rfl, by show 3 ≤ sizeLine; decide, fun nl hnl => ?_⟩
  have e2 := Ext.upd hnl (o := .lst [.str "key", .str "pin", .str "card"])
  have r2 := r1.ext e2
  obtain ⟨_, _, _, r1at⟩ := r1.at
  obtain ⟨_, _, _, r2at⟩ := r2.at
  have nnl : nl ≠ row := fun e => by rw [e, r1at] at hnl; cases hnl
  refine ⟨fun a => a ≠ row, row, sc, nl, 5, rfl, by decide, by decide, r2, fun a ha e => (by rw [e, r2at] at ha; cases ha), fun a h => h, upd_same, nnl, by decide, by decide, fun l es H3 u3 hr3 hpl hdp hlen hfl => ?_⟩
  have hf0 : Fits es := ⟨by omega, by omega⟩
  refine ⟨_, rfl, _, l, es, rfl, hpl, hdp, hf0, by decide, fun b H4 e4 hb => fun g dg hg hdg ne => ?_⟩
  have g4 : Ext H4 _ := Ext.upd' (Ext.upd hdg (o := .own g)) (o := .ins z.cG dg []) (by rw [upd_ne ne.symm]; exact hg)
  refine ⟨g, dg, b, rfl, upd_same, fun H5 x vt u5 hdk hvt => ⟨rfl, ?_⟩⟩
  have e5 := mk_ext hg hdg u5
  refine ⟨_, rfl, by show 1 ≤ sizeLine; decide, fun pa hpa => ⟨by show 2 ≤ sizeLine; decide, fun tp htp => ⟨tp, _, rfl, SqT.new, rfl, _, _, rfl, _, _, rfl, rfl, ?_⟩⟩⟩
  have e6 := Ext.upd hpa (o := .lst [.ref l])
  have e7 := Ext.upd htp (o := .tup [.ref g, .ref pa])
  have e57 := e6.trans e7
  have r5 := hr3.ext (e4.trans e5)
  have nrp : pa ≠ row := fun e => by obtain ⟨_, _, _, h⟩ := r5.at; rw [e, h] at hpa; cases hpa
  have p5 := (hpl.ext (e4.trans e5)).fresh hpa
  have hpa7 := e7 _ _ (show L2.upd H5 pa (.lst [.ref l]) pa = some (.lst [.ref l]) from upd_same)
  have r7 := r5.ext e57
  have d7 := hdk.ext e57
  have v7 := sqT_fx hvt e57.fx
  have s7 := (hb.fx e5.fx).fx e57.fx
  have p7 := p5.ext e57
  generalize L2.upd (L2.upd H5 pa (.lst [.ref l])) tp (.tup [.ref g, .ref pa]) = H7 at r7 d7 v7 s7 p7 hpa7 ⊢
  clear e6 e7 e57 r5 p5 hpl hb hdk hvt e5 g4 u5 e4 hr3 u3
  have hZr : ∀ a, (a ≠ row ∧ a ≠ pa) → a ≠ row := fun a h => h.1
  have hZp : ∀ a, (a ≠ row ∧ a ≠ pa) → a ≠ pa := fun a h => h.2
  refine ⟨_, rfl, row, sc, 8, rfl, r7, by decide, by decide, fun dn H8 hdn u8 hr8 => ⟨1, _, rfl, rfl, _, rfl, by omega, by omega, ?_⟩⟩
  rw [show (1 + ((dn : Nat) : Int)).toNat = dn + 1 by omega]
  obtain ⟨_, _, _, r7at⟩ := r7.at
  have f8 : Fx H7 H8 := r7.fx u8
  -- the loop
  refine for_range (lo := 0) (n := dn + 1) (fun i σ G => ∃ l b es bs ps x5 x6 x7 x8 x9 x10 x11 x12 x13, σ = [some (V.ref sc), some (V.ref row), some (V.ref l), some (V.ref g), some (V.ref pa), x5, x6, x7, x8, x9, x10, x11, x12, x13] ∧ RowIn K G row sc ∧ DeskAt K z G g x b (.ref vt) bs 0 ∧ SqT K G vt [] ∧ StkAt K z 2 G b es ∧ PlainAt (fun a => a ≠ row ∧ a ≠ pa) K G l es ∧ G pa = some (.lst ps) ∧ Paired (HistV (fun a => a ≠ row ∧ a ≠ pa) K z G) ps (bs ++ [b]) ∧ es.length ≤ 4 + i ∧ (flat es).length ≤ 8 ∧ bs.length ≤ i)
    ⟨l, b, es, [], [.ref l], none, none, none, none, none, none, none, none, none, rfl, hr8, d7.lst r7at u8, sqT_fx v7 f8, s7.fx f8, p7.up u8 r7at hZr, u8 _ _ nrp hpa7, .cons ⟨l, es, rfl, p7.up u8 r7at hZr, s7.fx f8, hf0⟩ .nil, by omega, by omega, Nat.le_refl _⟩ ?_ ?_
  · rintro i σ G hi ⟨l, b, es, bs, ps, x5, x6, x7, x8, x9, x10, x11, x12, x13, rfl, rG, dG, vG, sG, pG, hG, hist, hel, hfl8, hbl⟩
    have hf1 : Fits es := ⟨by omega, by omega⟩
    have hpsl := Paired.len hist
    obtain ⟨_, _, _, rGat⟩ := rG.at
    obtain ⟨vsG, zG, hvG, _⟩ := id pG
    have frG : ∀ a, G a = none → (a ≠ row ∧ a ≠ pa) := fun a ha => ⟨fun e => (by rw [e, rGat] at ha; cases ha), fun e => (by rw [e, hG] at ha; cases ha)⟩
    refine ⟨_, rfl, _, rfl, _, row, sc, l, es, rfl, rG, frG, hZr, pG, by omega, hfl8, fun H9 u9 hr9 => ?_, fun t word pt l2 es2 H9 u9 hr9 ht9 hpl2 hfl2 hch => ?_⟩
    · have f9 : Fx G H9 := rG.fx u9
      refine ⟨_, rfl, rfl, _, rfl, ?_⟩
      rw [show (!decide (V.non = V.non)) = false from by rw [decide_eq_true rfl] <;> rfl]
      exact iteF ⟨l, b, es, bs, ps, _, _, x7, x8, x9, x10, x11, x12, x13, rfl, hr9, dG.lst rGat u9, sqT_fx vG f9, sG.fx f9, pG.up u9 rGat hZr, u9 _ _ nrp hG, HistV.all hist f9 fun l xs zl h => u9 _ _ zl.1 h, by omega, hfl8, by omega⟩
    · have f9 : Fx G H9 := rG.fx u9
      have k9 : ∀ l xs, (l ≠ row ∧ l ≠ pa) → G l = some (.lst xs) → H9 l = some (.lst xs) := fun l xs zl h => u9 _ _ zl.1 h
      have d9 := dG.lst rGat u9
      have v9 := sqT_fx vG f9
      have s9 := sG.fx f9
      have p9 := pG.to f9 k9
      have h9 := u9 _ _ nrp hG
      have hist9 := HistV.all hist f9 k9
      have hbd := hch.len
      have hf2 : Fits es2 := ⟨by omega, by omega⟩
      obtain ⟨⟨dg9, hg9⟩, _⟩ := id d9
      refine ⟨_, rfl, rfl, _, rfl, ?_⟩
      rw [show (!decide (V.ref t = V.non)) = true from by rw [decide_eq_false (fun e => nomatch e)] <;> rfl]
      refine iteT ⟨_, rfl, t, _, rfl, ht9, rfl, _, _, rfl, _, _, rfl, _, _, rfl, rfl, ?_⟩
      refine ⟨_, rfl, g, dg9, _, rfl, hg9, rfl, g, x, b, _, bs, 0, rfl, d9, _, rfl, _, rfl, _, _, l, l2, es, es2, rfl, p9, hpl2, hf1, hf2, fun H10 e10 => ⟨_, _, rfl, ?_⟩⟩
      have d10 := d9.ext e10
      refine ⟨_, rfl, _, rfl, _, rfl, g, x, b, vt, bs, 0, es, es2, word, pt, rfl, d10, by omega, sqT_fx v9 e10.fx, s9.fx e10.fx, hch.fx e10.fx, hf1, hf2, fun H11 b2 u11 d11 v11 s11 => ⟨_, rfl, rfl, _, rfl, ?_⟩⟩
      rw [decide_eq_true (rfl : V.int ((diff es es2 : Nat) : Int) = V.int ((diff es es2 : Nat) : Int))]
      have f11 : Fx H10 H11 := d10.fx u11
      have k11 : ∀ l xs, (l ≠ row ∧ l ≠ pa) → H9 l = some (.lst xs) → H11 l = some (.lst xs) := fun l xs zl h => d10.keepL u11 (e10 _ _ h)
      have f911 := e10.fx.trans f11
      have r11 := (hr9.ext e10).upx d10 u11
      have p11 := hpl2.to f911 k11
      have s11o := (s9.fx e10.fx).fx f11
      have h11 := d10.keepL u11 (e10 _ _ h9)
      have hist11 := HistV.all hist9 f911 k11
      obtain ⟨⟨dg11, hg11⟩, _⟩ := id d11
      refine iteF ⟨_, rfl, g, dg11, _, rfl, hg11, rfl, g, x, b2, _, bs ++ [b], 0, rfl, d11, _, rfl, _, l2, es2, rfl, p11, trivial, hf2, by decide, fun b3 H12 e12 s12 => ?_⟩
      obtain ⟨dxa, fsa, ia⟩ := (s11.fx e12.fx).ins
      obtain ⟨dxb, fsb, ib⟩ := s12.ins
      refine ⟨⟨b2, b3, _, _, _, _, rfl, rfl, ia, ib, es2, s11.fx e12.fx, s12⟩, fun H13 e13 => ⟨_, rfl, iteF ?_⟩⟩
      have e123 := e12.trans e13
      have hdd : decide (V.int ((diff es es2 : Nat) : Int) = V.int 0) = decide (diff es es2 = 0) := by
        by_cases h0 : diff es es2 = 0
        · rw [h0] <;> rfl
        · rw [decide_eq_false h0]
          exact decide_eq_false (fun e => h0 (by injection e with e; omega))
      -- alike
      have d13 := d11.ext e123
      refine ⟨_, rfl, _, rfl, g, dg11, _, rfl, e123 _ _ hg11, rfl, g, x, b2, _, bs ++ [b], 0, rfl, d13, b, b2, 2, 2, es, es2, rfl, s11o.fx e123.fx, s11.fx e123.fx, by decide, by decide, hf1, hf2, fun H14 e14 => ?_⟩
      refine ⟨_, rfl, rfl, rfl, _, rfl, ?_⟩
      rw [hdd, decide_eq_true (rfl : V.bl (decide (diff es es2 = 0)) = V.bl (decide (diff es es2 = 0)))]
      have e114 := e123.trans e14
      have d14 := d11.ext e114
      refine iteF ⟨_, rfl, _, rfl, g, dg11, _, rfl, e114 _ _ hg11, rfl, g, x, b2, _, bs ++ [b], 0, rfl, d14, b, b2, 2, 2, es, es2, rfl, s11o.fx e114.fx, s11.fx e114.fx, by decide, by decide, hf1, hf2, fun v H15 e15 hv15 => ?_⟩
      have hvd : decide (v = V.non) = decide (diff es es2 = 0) := by
        rcases hv15 with ⟨rfl, h0⟩ | ⟨⟨t', rfl⟩, h0⟩
        · rw [h0] <;> rfl
        · rw [decide_eq_false h0]
          exact decide_eq_false (fun e => nomatch e)
      refine ⟨rfl, _, rfl, rfl, rfl, _, rfl, ?_⟩
      rw [hvd, hdd, decide_eq_true (rfl : V.bl (decide (diff es es2 = 0)) = V.bl (decide (diff es es2 = 0)))]
      have e115 := e114.trans e15
      have h15 := e115 _ _ h11
      have hpl15 : ps.length ≤ 100 := by rw [hpsl, List.length_append]; show bs.length + 1 ≤ 100; omega
      refine iteF ⟨_, rfl, _, rfl, .inl ⟨rfl, _, SqL.of h15⟩, _, rfl, pa, _, _, rfl, rfl, h15, lt_line (by omega), ?_⟩
      have f16 : Fx H15 (L2.upd H15 pa (.lst (ps ++ [.ref l2]))) := Fx.upd h15 (by simp [Fixd])
      have u16 : Up pa H15 (L2.upd H15 pa (.lst (ps ++ [.ref l2]))) := Up.upd
      have k16 : ∀ l xs, (l ≠ row ∧ l ≠ pa) → H15 l = some (.lst xs) → L2.upd H15 pa (.lst (ps ++ [.ref l2])) l = some (.lst xs) := fun l xs zl h => u16 _ _ zl.2 h
      have p16 := (p11.ext e115).to f16 k16
      have s16 := (s11.fx e115.fx).fx f16
      have hist15 := HistV.all hist11 e115.fx fun l xs _ h => e115 _ _ h
      refine ⟨l2, b2, es2, bs ++ [b], ps ++ [.ref l2], _, _, _, _, _, _, _, x12, x13, rfl, ?_, (d11.ext e115).lst h15 u16, sqT_fx (sqT_fx v11 e115.fx) f16, s16, p16, upd_same, Paired.app (HistV.all hist15 f16 k16) (.cons ⟨l2, es2, rfl, p16, s16, hf2⟩ .nil), by omega, hfl2, by rw [List.length_append]; show bs.length + 1 ≤ _; omega⟩
      obtain ⟨ms, ri, rs, rr, q1, q2, q3⟩ := r11.ext e115
      refine ⟨ms, ri, rs, rr, u16 _ _ nrp.symm q1, ?_, q3⟩
      rcases hist_ref hist with ep | ⟨a0, ys, rfl⟩
      · rw [ep, List.length_append] at hpsl
        cases hpsl
      · exact sqL_row q2 h15 u16
  · rintro σ G ⟨l, b, es, bs, ps, x5, x6, x7, x8, x9, x10, x11, x12, x13, rfl, rG, dG, vG, sG, pG, hG, hist, hel, hfl8, hbl⟩
    have hf1 : Fits es := ⟨by omega, by omega⟩
    have hpsl := Paired.len hist
    obtain ⟨⟨dg, hg⟩, _⟩ := id dG
    refine ⟨_, rfl, g, dg, _, rfl, hg, rfl, g, x, b, _, bs, 0, rfl, dG, fun k hk => ?_⟩
    have ek := Ext.upd hk (o := .dK [])
    refine ⟨b, k, 2, es, rfl, sG.fx ek.fx, by decide, hf1, upd_same, fun H2 e2 => ?_⟩
    have ek2 := ek.trans e2
    have d2 := dG.ext ek2
    have h2 := ek2 _ _ hG
    have hist2 := HistV.all hist ek2.fx fun l xs _ h => ek2 _ _ h
    rcases where_case es with hw | ⟨wd, hw⟩
    · refine ⟨_, rfl, rfl, _, rfl, ?_⟩
      rw [show decide (V.str (whereS es) = V.str "open") = true from decide_eq_true (by rw [hw])]
      refine iteF (iteF ⟨_, rfl, rfl, _, rfl, ?_⟩)
      rw [show decide (V.str (whereS es) = V.str "open") = true from decide_eq_true (by rw [hw])]
      refine iteF (iteF ?_)
      have dz := d2
      have hz := h2
      have histz := hist2

      have hpl2 := Paired.len histz
      obtain ⟨ps', v0, rfl, hist', hv0⟩ := paired_last histz
      have hpl3 := Paired.len hist'
      refine ⟨_, rfl, _, rfl, _, rfl, lsl_ok hz fun p1 G1 f1 hp1 => ⟨p1, _, rfl, SqL.of hp1, fun p2 hp2 => ⟨p2, rfl, ⟨_, SqL.of upd_same⟩, ?_⟩⟩⟩
      rw [show (Neg.neg (1 : Int)) = -1 from rfl, cut_last]
      rw [show (Neg.neg (1 : Int)) = -1 from rfl, cut_last] at hp1
      have e2' := f1.trans (Ext.upd hp2 (o := .lst ps'.reverse))
      refine for_list (xs := ps'.reverse) (fun j σ G => ∃ bc bs' vv m psr pd x13', σ = [some (V.ref sc), some (V.ref row), some (V.ref l), some (V.ref g), some (V.ref pa), x5, x6, x7, x8, x9, x10, x11, some (V.str (whereS es)), x13'] ∧ DeskAt K z G g x bc vv bs' m ∧ m = 0 + j ∧ ps' = psr ++ pd ∧ pd.length = j ∧ Paired (HistV (fun a => a ≠ row ∧ a ≠ pa) K z G) psr bs' ∧ G pa = some (.lst (ps' ++ [v0])) ∧ G p2 = some (.lst ps'.reverse))
        ⟨b, bs, _, 0, ps', [], _, rfl, dz.ext e2', rfl, by rw [List.append_nil], rfl, HistV.all hist' e2'.fx (fun l xs _ h => e2' _ _ h), e2' _ _ hz, upd_same⟩ ?_ ?_ ?_
      · rintro j σ G _ ⟨bc, bs', vv, m, psr, pd, x13', rfl, d, hm, ep, hpd, hh, hpaG, hp2G⟩
        exact SqL.of hp2G
      · rintro j y σ G hy ⟨bc, bs', vv, m, psr, pd, x13', rfl, d, hm, ep, hpd, hh, hpaG, hp2G⟩
        have hhl := Paired.len hh
        have hjl : j < ps'.length := by
          have h := (List.getElem?_eq_some_iff.mp hy).1
          rw [List.length_reverse] at h
          exact h
        have hpl4 : ps'.length = psr.length + pd.length := by rw [ep, List.length_append]
        obtain ⟨⟨dg0, hg0⟩, _⟩ := id d
        refine ⟨_, rfl, g, dg0, _, rfl, hg0, rfl, g, x, bc, vv, bs', m, rfl, d, by omega, by omega, fun eb => ?_, fun bs'' c eb H1 vv' u1 d1 => ?_⟩
        · rw [eb] at hhl
          have : psr.length = 0 := hhl
          omega
        · subst eb
          obtain ⟨psr', y', rfl, hh', hyc⟩ := paired_last hh
          have ey : y = y' := by
            rw [ep, List.reverse_append, List.reverse_append, List.getElem?_append_right (by rw [List.length_reverse]; omega), List.length_reverse, hpd, Nat.sub_self] at hy
            exact (Option.some.inj hy).symm
          subst ey
          have f1' : Fx G H1 := d.fx u1
          have k1' : ∀ l xs, (l ≠ row ∧ l ≠ pa) → G l = some (.lst xs) → H1 l = some (.lst xs) := fun l xs _ h => d.keepL u1 h
          obtain ⟨pl, es', rfl, hpl, hst, hfit⟩ := hyc
          obtain ⟨⟨dg1, hg1⟩, _⟩ := id d1
          refine ⟨true, true, rfl, rfl, _, rfl, iteF ?_⟩
          refine ⟨_, rfl, g, dg1, _, rfl, hg1, rfl, g, x, c, vv', bs'', m + 1, rfl, d1, _, rfl, _, pl, es', rfl, hpl.to f1' k1', trivial, hfit, by decide, fun b3 H2 e2 hs2 => ?_⟩
          have hsc := (hst.fx f1').fx e2.fx
          obtain ⟨dxa, fsa, ia⟩ := hsc.ins
          obtain ⟨dxb, fsb, ib⟩ := hs2.ins
          refine ⟨⟨c, b3, _, _, _, _, rfl, rfl, ia, ib, es', hsc, hs2⟩, fun H3 e3 => ⟨_, rfl, iteF ?_⟩⟩
          have e23 := e2.trans e3
          exact ⟨c, bs'', vv', m + 1, psr', V.ref pl :: pd, _, rfl, d1.ext e23, by omega, by rw [ep, List.append_assoc] <;> rfl, by rw [List.length_cons, hpd], HistV.all (HistV.all hh' f1' k1') e23.fx (fun l xs _ h => e23 _ _ h), e23 _ _ (d.keepL u1 hpaG), e23 _ _ (d.keepL u1 hp2G)⟩
      · rintro σ G ⟨bc, bs', vv, m, psr, pd, x13', rfl, d, hm, ep, hpd, hh, hpaG, hp2G⟩
        rw [List.length_reverse] at hm hpd
        have hpl4 : ps'.length = psr.length + pd.length := by rw [ep, List.length_append]
        have hpsr : psr = [] := List.length_eq_zero_iff.mp (by omega)
        subst hpsr
        cases hh
        obtain ⟨⟨dg0, hg0⟩, _⟩ := id d
        refine ⟨_, rfl, g, dg0, _, rfl, hg0, rfl, g, x, bc, vv, [], m, rfl, d, by omega, by decide, fun _ H1 e1 => ?_, fun bs'' c eb => by cases bs'' <;> cases eb⟩
        refine ⟨false, false, rfl, rfl, _, rfl, iteT ?_⟩
        refine ⟨_, rfl, _, rfl, ?_⟩
        unfold tNoPart
        refine lsl_ok (e1 _ _ hpaG) fun p3 G3 f3 hp3 => ⟨p3, rfl, ⟨_, SqL.of hp3⟩, fun Dl hDl => ?_⟩
        have e13 := e1.trans f3
        have hdl : (cutV (ps' ++ [v0]) (some 1) none).length = ps'.length := by
          rw [show (1 : Int) = ((1 : Nat) : Int) from rfl, cut_from, List.length_drop, List.length_append] <;> rfl
        have eD := Ext.upd hDl (o := .lst [])
        refine lc_list (xs := cutV (ps' ++ [v0]) (some 1) none) (fun j G => j ≤ ps'.length ∧ G p3 = some (.lst (cutV (ps' ++ [v0]) (some 1) none)) ∧ G Dl = some (.lst (List.replicate j (V.bl true))) ∧ G pa = some (.lst (ps' ++ [v0])) ∧ ∃ bc vv bs', DeskAt K z G g x bc vv bs' (m - j) ∧ bs'.length ≤ j) ⟨Nat.zero_le _, eD _ _ hp3, upd_same, eD _ _ (e13 _ _ hpaG), bc, vv, [], (d.ext e13).ext eD, Nat.le_refl _⟩ (fun j G _ ⟨_, h, _⟩ => SqL.of h) (fun j y G hy ⟨hj, h3, hD, hpa', bc', vv', bs', d', hb'⟩ => ?_) fun G ⟨hj, h3, hD, hpa', bc', vv', bs', d', hb'⟩ => ?_
        · have hjl : j < ps'.length := by rw [← hdl]; exact (List.getElem?_eq_some_iff.mp hy).1
          obtain ⟨⟨dg1, hg1⟩, _⟩ := id d'
          refine ⟨rfl, _, rfl, g, dg1, _, rfl, hg1, rfl, g, x, bc', vv', bs', m - j - 1, rfl, by rw [show m - j - 1 + 1 = m - j by omega]; exact d', by omega, by omega, fun H4 c vv4 u4 d4 => ?_⟩
          have hD4 := d'.keepL u4 hD
          have n3 : p3 ≠ Dl := fun e => by rw [e, hDl] at hp3; cases hp3
          have nPa : pa ≠ Dl := fun e => by have := e13 _ _ hpaG; rw [e, hDl] at this; cases this
          refine ⟨_, hD4, by rw [List.length_replicate]; exact lt_line (by omega), hjl, by rw [upd_ne n3]; exact d'.keepL u4 h3, by rw [upd_same, List.replicate_succ'], by rw [upd_ne nPa]; exact d'.keepL u4 hpa', c, vv4, bs' ++ [bc'], ?_, by rw [List.length_append]; show bs'.length + 1 ≤ j + 1; omega⟩
          rw [show m - (j + 1) = m - j - 1 by omega]
          exact d4.lst hD4 Up.upd
        · rw [hdl] at hD
          refine ⟨by show 1 ≤ sizeLine; decide, fun p5 hp5 => ?_⟩
          have e5 := Ext.upd hp5 (o := .lst [.bl true])
          refine ⟨_, rfl, _, _, rfl, .inl ⟨_, SqL.of (e5 _ _ hpa'), rfl⟩, _, _, rfl, rfl, p5, _, [.bl true], rfl, rfl, upd_same, by omega, (by rw [List.length_append]; have : [v0].length = 1 := rfl; omega), ?_, fun p6 hp6 => ?_⟩
          · rw [List.length_append]
            show 1 * (((ps'.length + 1 : Nat) : Int) - 1).toNat ≤ sizeLine
            exact le_line (by omega)
          · have en : ((((ps' ++ [v0]).length : Nat) : Int) - 1).toNat = ps'.length := by rw [List.length_append]; show (((ps'.length + 1 : Nat) : Int) - 1).toNat = _; omega
            rw [en, flat_rep]
            have e6 := Ext.upd hp6 (o := .lst (List.replicate ps'.length (V.bl true)))
            refine ⟨.list (trues ps'.length), .list (trues ps'.length), .lst (SqL.of (e6 _ _ (e5 _ _ hD))) (trues_dp _), .lst (SqL.of upd_same) (trues_dp _), trues_shaped _, trues_shaped _, ?_⟩
            rw [SeqAt.eqv_refl _ (by obtain ⟨h1, _⟩ := trues_lay ps'.length; simp [PyData.canLay0, h1])]
            exact q _

    · have hno : decide (V.str (whereS es) = V.str "open") = false := by rw [hw]; exact not_open wd
      refine ⟨_, rfl, rfl, _, rfl, ?_⟩
      rw [hno]
      refine iteT ?_
      obtain ⟨⟨dg2, hg2⟩, _⟩ := id d2
      refine ⟨_, rfl, g, dg2, _, rfl, hg2, rfl, fun k2 hk2 => ⟨_, rfl, g, x, b, vt, bs, 0, 2, es, k2, wd, by rw [hw], hw, d2.ext (Ext.upd hk2), by omega, sqT_fx vG (ek2.trans (Ext.upd hk2)).fx, sG.fx (ek2.trans (Ext.upd hk2)).fx, by decide, hf1, upd_same, fun H3 vv3 u3 d3 => ⟨rfl, _, rfl, ?_⟩⟩⟩
      have e23 := Ext.upd hk2 (o := .dK [])
      have d23 := d2.ext e23
      have hz3 := d23.keepL u3 (e23 _ _ h2)
      have f3 := d23.fx u3
      have hist3 := HistV.all hist2 (e23.fx.trans f3) fun l xs _ h => d23.keepL u3 (e23 _ _ h)
      rw [decide_eq_true (rfl : V.int 1 = V.int 1)]
      refine iteF ⟨_, rfl, rfl, _, rfl, ?_⟩
      rw [hno]
      refine iteT ?_
      obtain ⟨⟨dg3, hg3⟩, _⟩ := id d3
      refine ⟨_, rfl, g, dg3, _, rfl, hg3, rfl, g, x, b, vv3, bs ++ [b], 0, rfl, d3, by decide, by rw [List.length_append]; show bs.length + 1 ≤ 1000; omega, fun e => (by cases bs <;> cases e), fun bs' c eb H4 vv4 u4 d4 => ⟨true, true, rfl, rfl, _, rfl, ?_⟩⟩
      obtain ⟨ea, ec⟩ : bs' = bs ∧ c = b := by
        have h := List.append_inj' eb rfl
        exact ⟨h.1.symm, (List.cons.inj h.2).1.symm⟩
      rw [ea, ec] at d4
      refine iteF ?_
      have dz := d4
      have hz := d3.keepL u4 hz3
      have histz := HistV.all hist3 (d3.fx u4) fun l xs _ h => d3.keepL u4 h

      have hpl2 := Paired.len histz
      obtain ⟨ps', v0, rfl, hist', hv0⟩ := paired_last histz
      have hpl3 := Paired.len hist'
      refine ⟨_, rfl, _, rfl, _, rfl, lsl_ok hz fun p1 G1 f1 hp1 => ⟨p1, _, rfl, SqL.of hp1, fun p2 hp2 => ⟨p2, rfl, ⟨_, SqL.of upd_same⟩, ?_⟩⟩⟩
      rw [show (Neg.neg (1 : Int)) = -1 from rfl, cut_last]
      rw [show (Neg.neg (1 : Int)) = -1 from rfl, cut_last] at hp1
      have e2' := f1.trans (Ext.upd hp2 (o := .lst ps'.reverse))
      refine for_list (xs := ps'.reverse) (fun j σ G => ∃ bc bs' vv m psr pd x13', σ = [some (V.ref sc), some (V.ref row), some (V.ref l), some (V.ref g), some (V.ref pa), x5, x6, x7, x8, x9, x10, x11, some (V.str (whereS es)), x13'] ∧ DeskAt K z G g x bc vv bs' m ∧ m = (0 + 1) + j ∧ ps' = psr ++ pd ∧ pd.length = j ∧ Paired (HistV (fun a => a ≠ row ∧ a ≠ pa) K z G) psr bs' ∧ G pa = some (.lst (ps' ++ [v0])) ∧ G p2 = some (.lst ps'.reverse))
        ⟨b, bs, _, (0 + 1), ps', [], _, rfl, dz.ext e2', rfl, by rw [List.append_nil], rfl, HistV.all hist' e2'.fx (fun l xs _ h => e2' _ _ h), e2' _ _ hz, upd_same⟩ ?_ ?_ ?_
      · rintro j σ G _ ⟨bc, bs', vv, m, psr, pd, x13', rfl, d, hm, ep, hpd, hh, hpaG, hp2G⟩
        exact SqL.of hp2G
      · rintro j y σ G hy ⟨bc, bs', vv, m, psr, pd, x13', rfl, d, hm, ep, hpd, hh, hpaG, hp2G⟩
        have hhl := Paired.len hh
        have hjl : j < ps'.length := by
          have h := (List.getElem?_eq_some_iff.mp hy).1
          rw [List.length_reverse] at h
          exact h
        have hpl4 : ps'.length = psr.length + pd.length := by rw [ep, List.length_append]
        obtain ⟨⟨dg0, hg0⟩, _⟩ := id d
        refine ⟨_, rfl, g, dg0, _, rfl, hg0, rfl, g, x, bc, vv, bs', m, rfl, d, by omega, by omega, fun eb => ?_, fun bs'' c eb H1 vv' u1 d1 => ?_⟩
        · rw [eb] at hhl
          have : psr.length = 0 := hhl
          omega
        · subst eb
          obtain ⟨psr', y', rfl, hh', hyc⟩ := paired_last hh
          have ey : y = y' := by
            rw [ep, List.reverse_append, List.reverse_append, List.getElem?_append_right (by rw [List.length_reverse]; omega), List.length_reverse, hpd, Nat.sub_self] at hy
            exact (Option.some.inj hy).symm
          subst ey
          have f1' : Fx G H1 := d.fx u1
          have k1' : ∀ l xs, (l ≠ row ∧ l ≠ pa) → G l = some (.lst xs) → H1 l = some (.lst xs) := fun l xs _ h => d.keepL u1 h
          obtain ⟨pl, es', rfl, hpl, hst, hfit⟩ := hyc
          obtain ⟨⟨dg1, hg1⟩, _⟩ := id d1
          refine ⟨true, true, rfl, rfl, _, rfl, iteF ?_⟩
          refine ⟨_, rfl, g, dg1, _, rfl, hg1, rfl, g, x, c, vv', bs'', m + 1, rfl, d1, _, rfl, _, pl, es', rfl, hpl.to f1' k1', trivial, hfit, by decide, fun b3 H2 e2 hs2 => ?_⟩
          have hsc := (hst.fx f1').fx e2.fx
          obtain ⟨dxa, fsa, ia⟩ := hsc.ins
          obtain ⟨dxb, fsb, ib⟩ := hs2.ins
          refine ⟨⟨c, b3, _, _, _, _, rfl, rfl, ia, ib, es', hsc, hs2⟩, fun H3 e3 => ⟨_, rfl, iteF ?_⟩⟩
          have e23 := e2.trans e3
          exact ⟨c, bs'', vv', m + 1, psr', V.ref pl :: pd, _, rfl, d1.ext e23, by omega, by rw [ep, List.append_assoc] <;> rfl, by rw [List.length_cons, hpd], HistV.all (HistV.all hh' f1' k1') e23.fx (fun l xs _ h => e23 _ _ h), e23 _ _ (d.keepL u1 hpaG), e23 _ _ (d.keepL u1 hp2G)⟩
      · rintro σ G ⟨bc, bs', vv, m, psr, pd, x13', rfl, d, hm, ep, hpd, hh, hpaG, hp2G⟩
        rw [List.length_reverse] at hm hpd
        have hpl4 : ps'.length = psr.length + pd.length := by rw [ep, List.length_append]
        have hpsr : psr = [] := List.length_eq_zero_iff.mp (by omega)
        subst hpsr
        cases hh
        obtain ⟨⟨dg0, hg0⟩, _⟩ := id d
        refine ⟨_, rfl, g, dg0, _, rfl, hg0, rfl, g, x, bc, vv, [], m, rfl, d, by omega, by decide, fun _ H1 e1 => ?_, fun bs'' c eb => by cases bs'' <;> cases eb⟩
        refine ⟨false, false, rfl, rfl, _, rfl, iteT ?_⟩
        refine ⟨_, rfl, _, rfl, ?_⟩
        unfold tNoPart
        refine lsl_ok (e1 _ _ hpaG) fun p3 G3 f3 hp3 => ⟨p3, rfl, ⟨_, SqL.of hp3⟩, fun Dl hDl => ?_⟩
        have e13 := e1.trans f3
        have hdl : (cutV (ps' ++ [v0]) (some 1) none).length = ps'.length := by
          rw [show (1 : Int) = ((1 : Nat) : Int) from rfl, cut_from, List.length_drop, List.length_append] <;> rfl
        have eD := Ext.upd hDl (o := .lst [])
        refine lc_list (xs := cutV (ps' ++ [v0]) (some 1) none) (fun j G => j ≤ ps'.length ∧ G p3 = some (.lst (cutV (ps' ++ [v0]) (some 1) none)) ∧ G Dl = some (.lst (List.replicate j (V.bl true))) ∧ G pa = some (.lst (ps' ++ [v0])) ∧ ∃ bc vv bs', DeskAt K z G g x bc vv bs' (m - j) ∧ bs'.length ≤ j) ⟨Nat.zero_le _, eD _ _ hp3, upd_same, eD _ _ (e13 _ _ hpaG), bc, vv, [], (d.ext e13).ext eD, Nat.le_refl _⟩ (fun j G _ ⟨_, h, _⟩ => SqL.of h) (fun j y G hy ⟨hj, h3, hD, hpa', bc', vv', bs', d', hb'⟩ => ?_) fun G ⟨hj, h3, hD, hpa', bc', vv', bs', d', hb'⟩ => ?_
        · have hjl : j < ps'.length := by rw [← hdl]; exact (List.getElem?_eq_some_iff.mp hy).1
          obtain ⟨⟨dg1, hg1⟩, _⟩ := id d'
          refine ⟨rfl, _, rfl, g, dg1, _, rfl, hg1, rfl, g, x, bc', vv', bs', m - j - 1, rfl, by rw [show m - j - 1 + 1 = m - j by omega]; exact d', by omega, by omega, fun H4 c vv4 u4 d4 => ?_⟩
          have hD4 := d'.keepL u4 hD
          have n3 : p3 ≠ Dl := fun e => by rw [e, hDl] at hp3; cases hp3
          have nPa : pa ≠ Dl := fun e => by have := e13 _ _ hpaG; rw [e, hDl] at this; cases this
          refine ⟨_, hD4, by rw [List.length_replicate]; exact lt_line (by omega), hjl, by rw [upd_ne n3]; exact d'.keepL u4 h3, by rw [upd_same, List.replicate_succ'], by rw [upd_ne nPa]; exact d'.keepL u4 hpa', c, vv4, bs' ++ [bc'], ?_, by rw [List.length_append]; show bs'.length + 1 ≤ j + 1; omega⟩
          rw [show m - (j + 1) = m - j - 1 by omega]
          exact d4.lst hD4 Up.upd
        · rw [hdl] at hD
          refine ⟨by show 1 ≤ sizeLine; decide, fun p5 hp5 => ?_⟩
          have e5 := Ext.upd hp5 (o := .lst [.bl true])
          refine ⟨_, rfl, _, _, rfl, .inl ⟨_, SqL.of (e5 _ _ hpa'), rfl⟩, _, _, rfl, rfl, p5, _, [.bl true], rfl, rfl, upd_same, by omega, (by rw [List.length_append]; have : [v0].length = 1 := rfl; omega), ?_, fun p6 hp6 => ?_⟩
          · rw [List.length_append]
            show 1 * (((ps'.length + 1 : Nat) : Int) - 1).toNat ≤ sizeLine
            exact le_line (by omega)
          · have en : ((((ps' ++ [v0]).length : Nat) : Int) - 1).toNat = ps'.length := by rw [List.length_append]; show (((ps'.length + 1 : Nat) : Int) - 1).toNat = _; omega
            rw [en, flat_rep]
            have e6 := Ext.upd hp6 (o := .lst (List.replicate ps'.length (V.bl true)))
            refine ⟨.list (trues ps'.length), .list (trues ps'.length), .lst (SqL.of (e6 _ _ (e5 _ _ hD))) (trues_dp _), .lst (SqL.of upd_same) (trues_dp _), trues_shaped _, trues_shaped _, ?_⟩
            rw [SeqAt.eqv_refl _ (by obtain ⟨h1, _⟩ := trues_lay ps'.length; simp [PyData.canLay0, h1])]
            exact q _

end
end LP

end

section
set_option Elab.async false
set_option linter.all false
set_option maxRecDepth 100000
set_option maxHeartbeats 4000000
/-! All promises joined. -/
namespace LP
open PySem PySem.Spec PyProof.Rows L2 LK LT LD LR LF
theorem law_all {P : Program} {w : World} {K : PySem.W.Frag} {h : Heap} {mg : Str → Option Value} (X : K.In h) (G : h.Ns mainGlobals mg) (c : Says K) (base : Heap) :
    Body P w K mg base 13 ["_law_script", "_law_row", "_law_plain_here", "_law_desk", "_law_past", "_law_turn", "_law_change", "_law_word", "_law_parts", "_law_new", "_law_old", "_law_due", "_law_where_here", "_law_one"] "law" s_law (spLaw K) := by
  have T := txt X G c
  have cNum := c_number (P := P) (w := w) (base := base) T (d_is_number X G c)
  have cWord := c_is_word (P := P) (w := w) (base := base) T (d_is_word X G c)
  have cIsA := c_is_action (P := P) (w := w) (base := base) T (d_is_action X G c) cNum
  have cTab := c_table_of (P := P) (w := w) (base := base) T (d_table_of X G c) cIsA
  have cRule := c_rule (P := P) (w := w) (base := base) T (d_Rule_init X G c) cWord cTab
  have cMod := c_module (P := P) (w := w) (base := base) T (d_Rule_module X G c)
  have cREq := c_rule_eq (P := P) (w := w) (base := base) T (d_Rule_eq X G c)
  have cActF := c_action (P := P) (w := w) (base := base) T (d_Rule_action_for X G c)
  have cSteps := c_steps_of (P := P) (w := w) (base := base) T (d_steps_of X G c)
  have cFirsts := c_firsts_of (P := P) (w := w) (base := base) T (d_firsts_of X G c) cSteps
  have cStk := c_stack (P := P) (w := w) (base := base) T (d_Stack_init X G c) cSteps
  have cEnt := c_entries (P := P) (w := w) (base := base) T (d_Stack_entries X G c)
  have cRlG := c_rulesG (P := P) (w := w) (base := base) T (d_Stack_rules X G c)
  have cMdG := c_modsG (P := P) (w := w) (base := base) T (d_Stack_modules X G c)
  have cLen := c_lenS (P := P) (w := w) (base := base) T (d_Stack_len X G c)
  have cItm := c_itemS (P := P) (w := w) (base := base) T (d_Stack_getitem X G c)
  have cAdd := c_addS (P := P) (w := w) (base := base) T (d_Stack_add X G c) cStk
  have cSEq := c_stack_eq (P := P) (w := w) (base := base) T (d_Stack_eq X G c) cREq 2
  have cSpl := c_spliced (P := P) (w := w) (base := base) T (d_Stack_spliced X G c) cNum cStk
  have cMrk := c_marked (P := P) (w := w) (base := base) T (d_marked X G c)
  have cEnd := c_ended (P := P) (w := w) (base := base) T (d_Run_ended X G c) cFirsts cMrk cActF
  have cRun := c_run (P := P) (w := w) (base := base) T (d_Run_init X G c) cEnd
  have cOut := c_outcome (P := P) (w := w) (base := base) T (d_Run_outcome X G c)
  have cAT := c_allT (P := P) (w := w) (base := base) T (d_all_answers X G c)
  have cAL := c_allL (P := P) (w := w) (base := base) T (d_all_answers X G c)
  have cOuts := c_outcomes (P := P) (w := w) (base := base) T (d_outcomes X G c) cAT cRun cOut
  have cBoth := c_both (P := P) (w := w) (base := base) T (d_both_outcomes X G c) cAL cRun cOut
  have cFst := c_first (P := P) (w := w) (base := base) T (d_first_difference X G c) cBoth
  have cAlk := c_alike (P := P) (w := w) (base := base) T (d_alike X G c) cFst
  have cAgr := c_agrees (P := P) (w := w) (base := base) T (d_agrees X G c)
  have cNW := c_need_word (P := P) (w := w) (base := base) T (d_need_word X G c)
  have cNA := c_need (P := P) (w := w) (base := base) T (d_need_answers X G c)
  have cWA := c_where_all (P := P) (w := w) (base := base) T (d_where_all X G c) cAgr
  have cSet := c_settled (P := P) (w := w) (base := base) T (d_settled X G c) cNA cWA cOuts
  have cTC := c_turnC (P := P) (w := w) (base := base) T (d_with_control X G c) cEnt cFirsts cMod cRule cStk 2
  have cSta := c_state (P := P) (w := w) (base := base) T (d_State_init X G c)
  have cKep := c_kept (P := P) (w := w) (base := base) T (d_State_kept X G c)
  have cOn := c_on (P := P) (w := w) (base := base) T (d_State_go_on X G c) cKep
  have cBk := c_back (P := P) (w := w) (base := base) T (d_State_go_back X G c) cKep
  have cAg := c_again (P := P) (w := w) (base := base) T (d_State_go_again X G c) cKep
  have cReg := c_register (P := P) (w := w) (base := base) T (d_Register_init X G c) cSta
  have cStM := c_stackM (P := P) (w := w) (base := base) T (d_Register_stack X G c)
  have cEtr := c_enter (P := P) (w := w) (base := base) T (d_Register_enter X G c) cOuts cWA cMdG cOn
  have cEdt := c_edit (P := P) (w := w) (base := base) T (d_Register_edit X G c) cBoth cEtr
  have cNE := c_needE (P := P) (w := w) (base := base) T (d_Register_need_entries X G c) cNum cLen
  have cPut := c_put (P := P) (w := w) (base := base) T (d_Register_put X G c) cEdt cSpl
  have cTak := c_take (P := P) (w := w) (base := base) T (d_Register_take X G c) cNE cEdt cSpl
  have cSwp := c_swap (P := P) (w := w) (base := base) T (d_Register_swap X G c) cNE cItm cEdt cSpl
  have cTrG := c_turnG (P := P) (w := w) (base := base) T (d_Register_turn X G c) cNum cRlG cEdt cTC
  have cPrm := c_prom (P := P) (w := w) (base := base) T (d_Register_promise X G c) cMdG cNA cNW cEtr
  have cUnd := c_undo (P := P) (w := w) (base := base) T (d_Register_undo X G c) cBk
  have cRed := c_redo (P := P) (w := w) (base := base) T (d_Register_redo X G c) cAg
  have lTak := c_taken (P := P) (w := w) (base := base) T (d_law_taken X G c)
  have lPck := c_pick (P := P) (w := w) (base := base) T (d_law_pick X G c) lTak
  have lTbl := c_tbl (P := P) (w := w) (base := base) T (d_law_table X G c) lTak
  have lRls := c_rules (P := P) (w := w) (base := base) T (d_law_rules X G c)
  have lPln := c_plain (P := P) (w := w) (base := base) T (d_law_plain X G c) lTak lPck lTbl (lRls 1) 2
  have lMds := c_modsL (P := P) (w := w) (base := base) T (d_law_modules X G c) (lRls 2)
  have lMad := c_made (P := P) (w := w) (base := base) T (d_law_made X G c) cRule cStk cAdd 2
  have lAll := c_allN (P := P) (w := w) (base := base) T (d_law_all X G c)
  have lAct := c_acted (P := P) (w := w) (base := base) T (d_law_acted X G c)
  have lRan := c_ran (P := P) (w := w) (base := base) T (d_law_ran X G c) (lRls 1) lAct 2 (by decide)
  have lRun := c_runL (P := P) (w := w) (base := base) T (d_law_run X G c) lRan
  have lWhr := c_whr (P := P) (w := w) (base := base) T (d_law_where X G c) lRun
  have lTrn := c_trn (P := P) (w := w) (base := base) T (d_law_turned X G c) (lRls 1) 2 (by decide)
  have lChg := c_changed (P := P) (w := w) (base := base) T (d_law_changed X G c) lTak lPck lTbl (lRls 2) cRule lTrn
  have lDon := c_done (P := P) (w := w) (base := base) T (d_law_done X G c) cPut cTrG cTak cSwp
  have lUnl := c_unl (P := P) (w := w) (base := base) T (d_law_unlike X G c) lMds lAll lWhr
  exact law_body T lTak lPln cReg lMad lChg cStM lUnl lDon cSEq cAlk cFst cSet cPrm cUnd cRed
theorem law_fin {P : Program} {w : World} {K : PySem.W.Frag} {h : Heap} {mg : Str → Option Value} {f : Addr} (X : K.In h) (G : h.Ns mainGlobals mg) (hfa : mg ("law" : Str) = some (.ref f)) (c : Says K) :
    ∃ fd : FuncData, (∀ (s : Shared) (v : Value), BindsTo s fd ⟨[v], []⟩ [("_law_script", v)]) ∧ ∀ base : Heap, K.In base → base.Ns mainGlobals mg → FnOk P w K mg base CX0 14 f fd ["_law_script"] (spLaw K) := by
  obtain ⟨f', fd, e1, F⟩ := (d_law X G c).ex
  have e := hfa.symm.trans e1
  cases e
  have b := FunD.bindsA (ps := ["_law_script"]) F fun _ _ _ _ _ _ us hl => match us, hl with | [_], _ => rfl
  refine ⟨fd, fun s v => b s [v] rfl, fun base _ _ => ?_⟩
  exact F.ok sc_law (fun vs H Q E ⟨sc, ns, h, _⟩ => by rw [h]; rfl) fun cdv A outer s H vs Q E hr h => law_all X G c base _ cdv A outer s H vs Q E hr h
end LP

end

section
set_option Elab.async false
set_option linter.all false
set_option maxRecDepth 100000
set_option maxHeartbeats 0
open PySem PySem.W PySem.Calls PyProof.Rows
theorem PySem.Challenge.cw_loginstacks_k71_whole_registers_beside_c_holds : PySem.Challenge.rw_loginstacks_k71_whole_registers_beside_c.Holds := by
  w_on; o_law
  refine HandSHeadRun.head_any (r := OpenLaw.row PySem.Challenge.rw_loginstacks_k71_whole_registers_beside_c) (q := view (OpenLaw.row PySem.Challenge.rw_loginstacks_k71_whole_registers_beside_c).prog [84]) (H := LF.hkL) (ob := LF.obL) (M := 7000) (loose := LSH.names) (d := HandSHeadRun.topDef (OpenLaw.row PySem.Challenge.rw_loginstacks_k71_whole_registers_beside_c).prog 84) (kwd := []) LF.obL_eq
    (by kernel_rfl) (fun s => by kernel_rfl) LSH.run (by kernel_rfl) (by kernel_rfl) (by kernel_rfl) (by rfl) (by first | assumption | decide +kernel) (by decide +kernel) ⟨rfl, rfl, rfl, rfl, rfl, by decide +kernel⟩ ?hw ?hc
  case hw => w_witness2
  case hc =>
    refine L2.walk_ofE (l := PySem.Challenge.rw_loginstacks_k71_whole_registers_beside_c) (n := 63) (k := 14) (x := "_law_script") (CX := L2.CX0) rfl (by decide) (by kernel_rfl) ⟨rfl, by decide, by decide⟩ ?F (fun _ _ _ _ z => z)
    intro w mg fa h Y G hmg0
    obtain ⟨K, KX, c⟩ := Y
    have hmg : mg ("law" : PySem.Str) = some (.ref fa) := by
      have e : (HandSHeadRun.topDef (OpenLaw.row PySem.Challenge.rw_loginstacks_k71_whole_registers_beside_c).prog 84).name = ("law" : PySem.Str) := by kernel_rfl
      rw [← e]
      exact hmg0
    obtain ⟨fd, hb, hF⟩ := LP.law_fin (P := (PySem.Challenge.rw_loginstacks_k71_whole_registers_beside_c).prog) (w := w) KX G hmg c
    exact ⟨K, fd, LP.spLaw K, KX, hb, fun H a ns hl _ hS => ⟨a, ns, rfl, hS, fun _ => rfl⟩, hF⟩

end
