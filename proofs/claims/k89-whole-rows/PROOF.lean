import PyProof.Rows.All
import Wide.All
import OpenK.AllK
import Wide.FinOn
import HandS.ForMost
import HandS.Star
import HandS.Defaults
import HandS.Property
import HandS.ClsMeth
import HandS.Flow
import HandS.Style
import HandS.TupAny
import HandS.IsInst
import HandS.Walk
import HandS.Zip
import HandS.Exc
import HandS.Set
import HandS.TupSets
import HandS.SetFor
import PyProof.WalksMore
import KE.KExcSuper
import KE.KExcLine
import HandS.ExcSuper
import HandS.ExcIs
import HandS.ExcField
import KE.KExcIs
import HandS.ExcOwn
import HandS.HeadHook1
import HandS.HeadHook2
import HandS.WordsExc
import KE.KStateDown
import HandS.Head0
import HandS.Head1
import HandS.Head2
import HandS.HeadEnd
import PySem.Challenge.RW_touchcaps_k89_whole_rows_used_forgotten
set_option Elab.async false
set_option linter.all false
set_option maxRecDepth 100000
set_option maxHeartbeats 4000000

namespace TC
open PySem PySem.Spec PyProof.Rows L2

section
variable {X : Cx} {o e fe : Expr} {f m : Str} {pos apos p : Pos} {ta to tf : TE} {t : TA} {es : List Expr}
/-- the target o.f of a larger assignment -/
def gFld (K : PySem.W.Frag) (to : TE) (f : Str) : TG := fun v σ H Q => to σ H fun x H1 =>
  ∃ a C dx fs, x = .ref a ∧ H1 a = some (.ins C dx fs) ∧ Cls K C ∧ NoAttr K C f ∧ fs.length < 1000 ∧ Q σ (upd H1 a (.ins C dx (putF f v fs)))
theorem pg_fld (ho : PE X o to) : PG X (.Attribute o f pos) (gFld X.K to f) := by
  constructor
  intro pins s σ H v u Q I r h
  rw [arm_assign_Attribute]
  refine wpAny_bind (wpAny_holding (thn (ho.run pins s σ H _ I h) ?_))
  rintro ov s1 ⟨x, H1, I1, rx, a, C, dx, fs, rfl, ea, c, n, l, q⟩
  obtain rfl : ov = Value.ref a := rx
  refine wpAny_bind (wpAny_standAt (wpAny_bind (wpAny_holding ?_)))
  refine setattr_ok I1 ea c n l r ?_
  intro s2 I2
  exact wpAny_release ⟨σ, _, I2, q⟩

/-- a call of an expression whose value is the plain def at g -/
def tCallF (g : Addr) (sp : Sp) (dvs : List V) (E : XK) (tf : TE) (t : TA) : TE := fun σ H Q => tf σ H fun y H1 => y = V.ref g ∧ t σ H1 fun vs H2 => sp (vs ++ dvs) H2 Q E
theorem pe_callF {CX : CXT} {k : Nat} {g : Addr} {fd : FuncData} {ps : List Str} {sp : Sp} {dvs : List V} {ds : List Value} {E : XK} (hf : PE X fe tf) (F : FnOk X.prog X.w X.K X.mg X.base CX k g fd ps sp) (hr : Room k X.A)
    (hk : PySem.W.keepIn X.K (.ref g) = true) (hb : Binds X.K fd ps ds) (hd : Vals dvs ds) (hx : Passes CX X E) (ha : PA X (e :: es) t)
    (ht : eval (.Call fe (e :: es) [] pos) X.env = (do callWith pos (← eval fe X.env) [] (backTo pos (starEach (e :: es) X.env)) (backToKw pos (keywordEach [] X.env))) := by rfl)
    (he : starEach (e :: es) X.env = (false, eval e X.env) :: starEach es X.env := by rfl) (hpl : (backTo pos (starEach es X.env)).any (·.1) = false := by rfl) :
    PE X (.Call fe (e :: es) [] pos) (tCallF g sp dvs E tf t) := by
  constructor
  intro pins s σ H Q I h
  refine Call_ (thn (hf.run pins s σ H _ I h) ?_) ht
  rintro u s1 ⟨y, H1, I1, ry, rfl, q⟩
  obtain rfl : u = Value.ref g := ry
  refine PySem.W.callWith_K (h₀ := X.base) I.ok.mod.kin hk (thn (ha.run pos pins s1 σ H1 _ I1 q) ?_) he hpl
  rintro us s2 ⟨vs, H2, I2, r, q2⟩
  exact ⟨I2.kIn, run_fn F hr hb hd hx I2 r q2⟩

/-- C.m is a staticmethod around the def at g -/
structure SMet (K : PySem.W.Frag) (C : Addr) (mc : Value) (m : Str) (p g : Addr) : Prop where
  at_ : PySem.W.findCls K (.ref C) mc m = some (.get (.builtin "staticmethod.__get__") (.ref p) .none (.ref C))
  rc : ∃ rest, PySem.W.recIn K p "staticmethod" = some (.ref g :: rest)
def tSMeth (C : Addr) (sp : Sp) (dvs : List V) (E : XK) (ta : TE) (t : TA) : TE := fun σ H Q => ta σ H fun x H1 => x = .ref C ∧ t σ H1 fun vs H2 => sp (vs ++ dvs) H2 Q E
theorem pe_smeth {CX : CXT} {k : Nat} {C q g : Addr} {mc : Value} {fd : FuncData} {ps : List Str} {sp : Sp} {dvs : List V} {ds : List Value} {E : XK} {pl : Sem Bool} (ho : PE X o ta) (r : ClX.CRead X.K C mc) (c : SMet X.K C mc m q g)
    (F : FnOk X.prog X.w X.K X.mg X.base CX k g fd ps sp) (hr : Room k X.A) (hk : PySem.W.keepIn X.K (.ref g) = true) (hb : Binds X.K fd ps ds) (hd : Vals dvs ds) (hx : Passes CX X E) (ha : PA X (e :: es) t)
    (he : starEach (e :: es) X.env = (false, eval e X.env) :: starEach es X.env := by rfl) (hpl : (backTo pos (starEach es X.env)).any (·.1) = false := by rfl)
    (ht : eval (.Call (.Attribute o m apos) (e :: es) [] pos) X.env = (do
      let ov ← eval o X.env
      standAt apos.atName
      let (f, first) ← holding [ov] (getMethod ov m pl)
      callWith pos f first (backTo pos (starEach (e :: es) X.env)) (backToKw pos (keywordEach [] X.env))) := by rfl) :
    PE X (.Call (.Attribute o m apos) (e :: es) [] pos) (tSMeth C sp dvs E ta t) := by
  constructor
  intro pins s σ H Q I h
  refine PySem.W.methodCall_KW (pl := pl) (thn (ho.run pins s σ H _ I h) ?_) ht
  rintro u s1 ⟨x, H1, I1, rx, rfl, qq⟩
  obtain rfl : u = Value.ref C := rx
  obtain ⟨rest, hp⟩ := c.rc
  refine PySem.W.method_cls I1.kIn r.ga ?_
  refine PySem.W.cls_bind I1.kIn r.rd c.at_ (wpAny_call (PySem.W.sm_get (s := { s1 with toks := s1.toks + 1 }) I1.kIn hp (PySem.W.handed_on rfl ?_)))
  have I2 := I1.tok (s1.toks + 1)
  refine PySem.W.callWith_K (h₀ := X.base) I.ok.mod.kin hk (thn (ha.run pos pins _ σ H1 _ I2 qq) ?_) he hpl
  rintro us s2 ⟨vs, H2, I3, rv, q2⟩
  exact ⟨I3.kIn, run_fn F hr hb hd hx I3 rv q2⟩
end

section
variable {X : Cx} {CX : CXT} {k : Nat} {f C : Addr} {fd : FuncData} {ps ks : List Str} {sp : Sp} {E : XK} {m : Str} {pos apos : Pos} {o : Expr} {kws : List Keyword} {ta : TE} {tk : TA} {g : List Value → List Value → List Value} {gV : List V → List V → List V}
/-- o.m(k = v, ..), no argument by place -/
def tMethK (C : Addr) (m : Str) (sp : Sp) (gV : List V → List V → List V) (E : XK) (ta : TE) (tk : TA) : TE := fun σ H Q => ta σ H fun x H1 =>
  ∃ a dx fs, x = .ref a ∧ H1 a = some (.ins C dx fs) ∧ fs.lookup m = none ∧ tk σ H1 fun zs H2 => sp (gV [x] zs) H2 Q E
theorem pe_methK {pl : Sem Bool} (he : PE X o ta) (c : Cls X.K C) (hm : Meth X.K C m f) (F : FnOk X.prog X.w X.K X.mg X.base CX k f fd ps sp) (hr : Room k X.A) (hb : KBinds X.K fd ps ks g gV) (hx : Passes CX X E) (hkw : PK X kws tk)
    (hall : (backToKw pos (keywordEach kws X.env)).all (·.1.isSome) = true := by rfl) (hks : (backToKw pos (keywordEach kws X.env)).filterMap (·.1) = ks := by rfl)
    (hpl : ((backTo pos (starEach [] X.env)).any (·.1) || (backToKw pos (keywordEach kws X.env)).any (·.1.isNone)) = false := by rfl)
    (ht : eval (.Call (.Attribute o m apos) [] kws pos) X.env = (do
      let ov ← eval o X.env
      standAt apos.atName
      let (f, first) ← holding [ov] (getMethod ov m pl)
      callWith pos f first (backTo pos (starEach [] X.env)) (backToKw pos (keywordEach kws X.env))) := by rfl) :
    PE X (.Call (.Attribute o m apos) [] kws pos) (tMethK C m sp gV E ta tk) := by
  constructor
  intro pins s σ H Q I h
  refine PySem.W.methodCall_KW (pl := pl) (thn (he.run pins s σ H _ I h) ?_) ht
  rintro u s1 ⟨x, H1, I1, rx, a, dx, fs, rfl, ea, l, q⟩
  obtain rfl : u = Value.ref a := rx
  refine getmeth_ok I1 ea c hm l ?_
  refine PySem.W.callWith_KW0 (first := [.ref a]) (h₀ := X.base) I.ok.mod.kin hm.kp hall (thn (hkw.run pos pins s1 σ H1 _ I1 q) ?_) hpl
  rintro ws s2 ⟨zs, H2, I2, rz, q2⟩
  refine ⟨I2.kIn, ?_⟩
  rw [hks]
  exact run_fnk (us := [.ref a]) (vs := [.ref a]) F hr hb hx I2 (.cons rfl .nil) rz q2
end
end TC

/-! set(texts) and sorted(such a set): a set of texts whose table can be walked; n bounds its size -/
namespace TC
open PySem PySem.Spec PyProof.Rows L2

/-- the entries are texts whose signs are code points -/
structure ElT (P : Program) (w : World) (l : List (Int × Value)) : Prop where
  el : ElemsOf (strKind P w) l
  ok : ∀ e ∈ l, ∀ x tk, e.2 = Value.str x tk → PyData.strOk x = true
theorem ElT.perm {P : Program} {w : World} {l l' : List (Int × Value)} (h : ElT P w l) (p : List.Perm l' l) : ElT P w l' := ⟨h.el.perm p, fun e he => h.ok e (p.mem_iff.mp he)⟩
theorem ElT.push {P : Program} {w : World} {l : List (Int × Value)} (h : ElT P w l) {x : Str} {tk : Tok} (hx : PyData.strOk x = true) : ElT P w (l ++ [((strKind P w).hash x, .str x tk)]) := by
  refine ⟨ElemsOf.push h.el (strKind_is P w x tk) rfl, fun e he y t q => ?_⟩
  rcases List.mem_append.mp he with he | he
  · exact h.ok e he y t q
  · rw [List.mem_singleton] at he
    subst he
    cases q
    exact hx
def TxtSet (P : Program) (w : World) (h : Heap) (a : Addr) (n : Nat) : Prop :=
  ∃ (o : Obj) (es : Array (Int × Value)) (ep : Nat) (t : SetTable), h.get? a = some o ∧ o.ExactSet ∧ o.data = .set es ep t ∧
    ElT P w es.toList ∧ es.size ≤ n ∧ t.fits es.size = true ∧ Ris t.place.toList ∧ (w.params.followText "set-order" = true ∨ t.led = true)

section
variable {P : Program} {w : World} {A : Around} {E : Value → Shared → Prop} {s : Shared} {a : Addr} {n : Nat} {h h' : Heap}
theorem TxtSet.carry (R : TxtSet P w h a n) (k : ∀ o, h.get? a = some o → h'.get? a = some o) : TxtSet P w h' a n := by
  obtain ⟨o, es, ep, t, g, r⟩ := R
  exact ⟨o, es, ep, t, k o g, r⟩
theorem TxtSet.le {m : Nat} (R : TxtSet P w h a n) (hm : n ≤ m) : TxtSet P w h a m := by
  obtain ⟨o, es, ep, t, g, x, d, el, hs, r⟩ := R
  exact ⟨o, es, ep, t, g, x, d, el, Nat.le_trans hs hm, r⟩
theorem scan64 {k : Nat} (h : k < 64) : k < scanBound := Nat.lt_of_lt_of_le h (by decide)
theorem keep_after {g : Bool → Sem Unit} (hg : ∀ (b : Bool) (s1 : Shared) (Q : Unit → Shared → Prop), Q () s1 → wpAny (model P w) A (g b) Q E s1) {o : Obj} {es es1 : Array (Int × Value)} {ep : Nat} {t t2 : SetTable}
    (go : s.heap.get? a = some o) (xo : o.ExactSet) (dd : o.data = .set es ep t) (el : ElT P w es1.toList) (hs : es1.size ≤ n) (hn : n < 64) (hf : t2.fits es1.size = true) (hr : Ris t2.place.toList)
    (hl : w.params.followText "set-order" = true ∨ t2.led = true) {wd : Bool} {Z : Option Bool → Shared → Prop} (hZ : ∀ h', Heap.SameBut a s.heap h' → TxtSet P w h' a n → Z (some true) { s with heap := h' }) :
    wpAny (model P w) A (do
      storeSet a es1 t2
      if (!wd && t2.tooFull) = true then do
        g (relayAll t2 es1 (SetTable.grown es1.size)).2.2
        storeSet a (relayAll t2 es1 (SetTable.grown es1.size)).1 (relayAll t2 es1 (SetTable.grown es1.size)).2.1
        pure (some true)
      else pure (some true)) Z E s := by
  have b1 : es1.size < scanBound := scan64 (Nat.lt_of_le_of_lt hs hn)
  have at1 := store_at (es' := es1) (t' := t2) go dd
  have but1 := Heap.SameBut.update s.heap a (Obj.putSet es1 t2)
  refine wpAny_bind (wpAny_storeSet_of go dd ?_ (fits_of_scanBound b1))
  split
  case isFalse => exact wpAny_pure (hZ _ but1 ⟨_, es1, _, t2, at1, xo, rfl, el, hs, hf, hr, hl⟩)
  case isTrue =>
    have p2 := relayAll_perm t2 es1 (SetTable.grown es1.size)
    have f2 := relayAll_fits t2 es1 (SetTable.grown es1.size)
    have r2 := relayAll_ris t2 es1 (SetTable.grown es1.size)
    have l2 := relayAll_led t2 es1 (SetTable.grown es1.size)
    revert p2 f2 r2 l2
    generalize relayAll t2 es1 (SetTable.grown es1.size) = Z2
    obtain ⟨es3, t3, gv⟩ := Z2
    intro p2 f2 r2 l2
    simp only at p2 f2 r2 l2
    have sz : es3.size = es1.size := by
      have q := p2.length_eq
      simpa using q
    refine wpAny_bind (hg _ _ _ ?_)
    refine wpAny_bind (wpAny_storeSet_of at1 rfl ?_ (fits_of_scanBound (by rw [sz]; exact b1)))
    have at2 := store_at (es' := es3) (t' := t3) at1 rfl
    refine wpAny_pure (hZ _ (but1.trans (Heap.SameBut.update _ a _)) ?_)
    refine ⟨_, es3, _, t3, at2, xo, rfl, el.perm p2, by rw [sz]; exact hs, f2, r2, ?_⟩
    rcases hl with z | z
    · exact .inl z
    · exact .inr (by rw [l2]; exact z)

theorem txtSet_add {x : Str} {tk : Tok} {Q : Bool → Shared → Prop} (R : TxtSet P w s.heap a n) (hxo : PyData.strOk x = true) (hn : n + 1 < 64) (hQ : ∀ b h', Heap.SameBut a s.heap h' → TxtSet P w h' a (n + 1) → Q b { s with heap := h' }) :
    wpAny (model P w) A (setAddHashed a (.str x tk) ((strKind P w).hash x)) Q E s := by
  obtain ⟨o, es, ep, t, go, xo, dd, el, hs, hf, hr, hl⟩ := R
  have key : (strKind P w).is x (.str x tk) = true := strKind_is P w x tk
  have sc : (Value.str x tk).scannable = true := rfl
  have b0 : es.size < scanBound := scan64 (by omega)
  unfold setAddHashed setAddHashedIn
  refine wpAny_holding (wpAny_bind (wpAny_setState_of go dd hf ?_))
  dsimp only
  rw [byScan_of sc b0 el.el]
  simp only [↓reduceIte]
  unfold setAddByScan
  refine wpAny_bind (wpAny_bind (wpAny_rule ?_))
  refine wpAny_bind (wpAny_setScan_of key go dd hf el.el ?_)
  cases found : List.findIdx? (fun e => (strKind P w).is x e.2) es.toList with
  | some j =>
    dsimp only
    exact wpAny_pure (wpAny_pure (hQ _ s.heap (Heap.SameBut.refl a s.heap) ⟨o, es, ep, t, go, xo, dd, el, Nat.le_succ_of_le hs, hf, hr, hl⟩))
  | none =>
    dsimp only
    have p1 := layNew_perm t es ((strKind P w).hash x) (.str x tk)
    have f1 := layNew_fits t es ((strKind P w).hash x) (.str x tk)
    have r1 := layNew_ris t es ((strKind P w).hash x) (.str x tk) hr
    have l1 := layNew_led t es ((strKind P w).hash x) (.str x tk)
    revert p1 f1 r1 l1
    generalize layNew t es ((strKind P w).hash x) (.str x tk) = Z1
    obtain ⟨es1, t1, wd, gv⟩ := Z1
    intro p1 f1 r1 l1
    simp only at p1 f1 r1 l1
    have el1 : ElT P w es1.toList := by
      refine ElT.perm (ElT.push (tk := tk) el hxo) ?_
      simpa using p1
    have s1 : es1.size = es.size + 1 := by
      have q := p1.length_eq
      simpa using q
    have led1 : w.params.followText "set-order" = true ∨ t1.led = true := by
      rcases hl with z | z
      · exact .inl z
      · exact .inr (by rw [l1]; exact z)
    have gw : ∀ (b : Bool) (s2 : Shared) (Q2 : Unit → Shared → Prop), Q2 () s2 → wpAny (model P w) A (match b with | true => rule "set.scan.the-table-gave-way" | false => pure ()) Q2 E s2 := by
      intro b s2 Q2 q
      cases b
      · exact wpAny_pure q
      · exact wpAny_rule q
    refine wpAny_bind (gw _ _ _ ?_)
    split
    · refine wpAny_bind ?_
      rw [hashByValue_scannable 8 sc]
      refine wpAny_pure ?_
      refine keep_after (n := n + 1) gw go xo dd el1 (by omega) hn ?_ ?_ ?_ ?_
      · split
        · exact f1
        · exact SetTable.fits_plain_off f1
      · split <;> exact r1
      · split <;> exact led1
      · intro h' sb R'
        exact wpAny_pure (hQ _ h' sb R')
    · refine wpAny_bind (wpAny_pure ?_)
      simp only [↓reduceIte]
      refine keep_after (n := n + 1) gw go xo dd el1 (by omega) hn f1 r1 led1 ?_
      intro h' sb R'
      exact wpAny_pure (hQ _ h' sb R')
end
end TC

/-! set(xs), xs a list or a tuple of texts -/
namespace TC
open PySem PySem.Spec PyProof.Rows L2

section
variable {P : Program} {w : World} {A : Around} {E : Value → Shared → Prop} {s : Shared}
abbrev bareSet (w : World) : Obj := { cls := .type "set", dict := none, data := .set #[] 0 (.fresh 0 0 (!w.params.followText "set-order")) }
theorem txtSet_bare {h : Heap} {a : Addr} (e : h.get? a = some (bareSet w)) : TxtSet P w h a 0 := by
  refine ⟨_, #[], 0, _, e, ⟨rfl, rfl, rfl⟩, rfl, ?_, Nat.le_refl _, rfl, List.Pairwise.nil, ?_⟩
  · exact ⟨(fun x hx => nomatch hx), (fun x hx => nomatch hx)⟩
  · show _ ∨ (!w.params.followText "set-order") = true
    cases w.params.followText "set-order"
    · exact .inr rfl
    · exact .inl rfl
theorem txt_loop {I : Addr} {fp wr : List Addr} {G : Array GenState → Array GenState → Prop} {n : Nat} {Pv : Nat → Value → Prop} {St : Nat → Shared → Prop} {R : Result → Shared → Prop} (W : WalksS P w A.in1 I fp wr G n Pv St)
    (S : Addr) (hS : S ∉ fp) (hn : n < 64) (hv : ∀ i v, Pv i v → ∃ x tk, v = .str x tk ∧ PyData.strOk x = true) : ∀ (m i : Nat) (s : Shared), m + i = n → St i s → TxtSet P w s.heap S i →
      (∀ s', Moved (S :: wr) G s s' → TxtSet P w s'.heap S n → R (.ok (.ret .none)) s') → codeAny (model P w) A (.builtin "set.update.loop" ⟨[.ref S, .ref I], []⟩) R s := by
  have nw : S ∉ wr := fun z => hS (W.sub _ z)
  have up : ∀ b ∈ wr, b ∈ S :: wr := fun b z => List.mem_cons_of_mem _ z
  intro m
  induction m with
  | zero =>
    intro i s ei st R0 k
    obtain rfl : i = n := by omega
    refine codeAny_builtin F.entry_set_update_loop ?_
    rw [Around.under_plainId F.plain_set_update_loop _]
    show wpAny _ A.in1 (pyNext (.ref I) >>= _) _ _ s
    refine wpAny_bind (W.done s _ _ st ?_)
    intro s' mv
    show wpAny _ A.in1 (ret Value.none) _ _ s'
    exact wpAny_pure (k s' (mv.mono up) (R0.carry fun o e => mv.heap S o nw e))
  | succ m ih =>
    intro i s ei st R0 k
    have lt : i < n := by omega
    refine codeAny_builtin F.entry_set_update_loop ?_
    rw [Around.under_plainId F.plain_set_update_loop _]
    show wpAny _ A.in1 (pyNext (.ref I) >>= _) _ _ s
    refine wpAny_bind (W.item i s _ _ lt st ?_)
    intro v s' pv st' mv
    obtain ⟨x, tk, rfl, hxo⟩ := hv i v pv
    have R1 := R0.carry (h' := s'.heap) fun o e => mv.heap S o nw e
    show wpAny _ A.in1 (holding [Value.str x tk] (setAdd S (.str x tk)) >>= _) _ _ s'
    refine wpAny_bind (wpAny_holding ?_)
    unfold setAdd
    refine wpAny_holding (wpAny_bind ((strKind P w).pyHash (k := x) (strKind_is P w x tk) ?_))
    refine txtSet_add (s := { s' with toks := s'.toks + 1 }) R1 hxo (by omega) ?_
    intro b h' sb R2
    refine wpAny_pure ⟨plainId_quiet F.plain_set_update_loop _, ?_⟩
    refine ih (i + 1) _ (by omega) (W.frame _ s' _ _ st' (Nat.le_succ _) ?_) R2 ?_
    · intro b hb o e
      exact (sb.2 b fun z => hS (z ▸ hb)).trans e
    · intro s'' mv2 R3
      refine k s'' (Moved.trans W.gtrans ((mv.mono up).then_heap (Nat.le_succ _) ?_) mv2) R3
      intro b o hb e
      exact (sb.2 b fun z => hb (z ▸ List.mem_cons_self)).trans e

theorem set_of_list {l : Addr} {items : Array Value} {Q : Value → Shared → Prop} (hh : A.handled = none) (hl : s.heap.IsList l items) (hv : ∀ (i : Nat) v, items[i]? = some v → ∃ x tk, v = .str x tk ∧ PyData.strOk x = true) (h64 : items.size < 64)
    (k : ∀ (h' : Heap) (tk : Nat), TxtSet P w h' s.heap.objs.size items.size → (∀ b o, s.heap.get? b = some o → h'.get? b = some o) → Q (.ref s.heap.objs.size) { s with heap := h', toks := tk }) :
    wpAny (model P w) A (call (.type "set") [.ref l]) Q E s := by
  obtain ⟨c0, tl0, mro0⟩ := F.called_set.mro
  have made0 := F.called_set.made
  have sub0 := F.called_set.sub
  refine wpAny_call (codeAny_of_tree ?_)
  show wpAny _ _ (callAny (.type "set") _) _ _ _
  refine wpAny_pure ⟨Code.quiet_builtin _ (by decide +kernel), codeAny_builtin F.entry_type_call ?_⟩
  rw [Around.under_plain (weight_type_call_type "set" [.ref l] []) rfl]
  have t1 := F.called_set.notType
  have t2 := F.called_set.canCreate
  have t3 := F.typeCall_set_1 (.ref l)
  repeat (any_goals (first | assumption | wp_step))
  refine codeAny_mono (code_set_led1 (.ref l) (E := E) (Q₁ := fun ob sN => ob = .ref s.heap.objs.size ∧ sN = { s with heap := s.heap.push (bareSet w) }) ⟨rfl, rfl⟩) ?_
  intro r sN hr
  rcases r with er | (ob | _ | _ | _)
  case error => exact hr
  case ok.next => exact hr.elim
  case ok.brk => exact hr.elim
  case ok.cont => exact hr.elim
  obtain ⟨rfl, rfl⟩ := hr
  have gS : (s.heap.push (bareSet w)).get? s.heap.objs.size = some (bareSet w) := Heap.get?_push_size _ rfl
  have tS : Shared.TypeIs { s with heap := s.heap.push (bareSet w) } (.ref s.heap.objs.size) "set" := ⟨_, gS, rfl⟩
  have i1 := F.called_set.init.lookup
  have i2 := F.called_set.init.bind (.ref s.heap.objs.size)
  repeat (any_goals (first | assumption | wp_step))
  refine codeAny_mono (codeAny_call_builtin (R := wants (fun r s2 => r = .none ∧ ∃ h' tk, s2 = { s with heap := h', toks := tk } ∧ TxtSet P w h' s.heap.objs.size items.size ∧ (∀ b o, s.heap.get? b = some o → h'.get? b = some o)) E)
    F.called_set.init.plain F.entry_set_init (check_set_init_1 tS ?_)) ?_
  · obtain ⟨ol, gol, ecl, nl, edl⟩ := hl
    obtain ⟨oc, od, odt, osl⟩ := ol
    simp only at ecl edl
    subst ecl edl
    have ltl : l < s.heap.objs.size := Heap.lt_size gol
    have gol' : (s.heap.push (bareSet w)).get? l = some { cls := .type "list", dict := od, data := .seq items nl, slots := osl } := Heap.get?_push_of_some _ gol
    have n1 := F.sub_list_set
    have n2 := F.sub_list_frozenset
    have n3 : (Value.type "list" == Value.type "dict") = false := by decide
    have isl : (s.heap.push (bareSet w)).IsList l items := ⟨_, gol', rfl, nl, rfl⟩
    have szp : (s.heap.push (bareSet w)).objs.size = s.heap.objs.size + 1 := Heap.size_push ..
    unfold Builtin.«set.__init__» noKeywords Builtin.Frozenset.updateFrom
    generalize epi : pyIter = PI
    wp_walk
    subst epi
    refine wpAny_pyIter_list isl (wpAny_bind (wpAny_runValue ?_))
    have hh3 : A.in1.in1.in1.handled = none := by simp [hh]
    have neI : l ≠ (s.heap.push (bareSet w)).objs.size := by
      rw [szp]
      exact Nat.ne_of_lt (Nat.lt_succ_of_lt ltl)
    have nS : s.heap.objs.size ∉ [(s.heap.push (bareSet w)).objs.size, l] := by
      rw [szp]
      simp only [List.mem_cons, List.not_mem_nil, or_false, not_or]
      exact ⟨Nat.ne_of_lt (Nat.lt_succ_self _), Nat.ne_of_gt ltl⟩
    refine txt_loop ((Walks.list hh3 _ l neI items).toS) s.heap.objs.size nS h64 hv items.size 0 _ (Nat.add_zero _) ⟨⟨_, Heap.get?_push_size _ rfl, rfl, rfl⟩, isl.push _⟩
      (txtSet_bare (Heap.get?_push_of_some _ gS)) ?_
    intro s' mv R'
    obtain ⟨h', g2, d', tk', os'⟩ := s'
    obtain rfl : g2 = s.gens := mv.gens
    obtain rfl : d' = s.drawn := mv.drawn
    obtain rfl : os' = s.os := mv.os
    show wpAny _ _ _ _ _ _
    refine wpAny_pure ?_
    show wpAny _ _ (ret Value.none) _ _ _
    refine wpAny_pure ⟨rfl, h', tk', rfl, R', ?_⟩
    intro b o e
    have lb : b < s.heap.objs.size := Heap.lt_size e
    refine mv.heap b o ?_ (Heap.get?_push_of_some _ (Heap.get?_push_of_some _ e))
    rw [szp]
    simp only [List.mem_cons, List.not_mem_nil, or_false, not_or]
    exact ⟨Nat.ne_of_lt lb, Nat.ne_of_lt (Nat.lt_succ_of_lt lb)⟩
  · intro r2 s2 hr2
    rcases r2 with er | (r | _ | _ | _)
    case error => exact hr2
    case ok.next => exact hr2.elim
    case ok.brk => exact hr2.elim
    case ok.cont => exact hr2.elim
    obtain ⟨rfl, h', tk, rfl, R', kk⟩ := hr2
    repeat (any_goals (first | assumption | wp_step))
    exact k _ _ R' kk

theorem set_of_tuple {l : Addr} {items : Array Value} {Q : Value → Shared → Prop} (hh : A.handled = none) (hl : s.heap.IsTuple l items) (hv : ∀ (i : Nat) v, items[i]? = some v → ∃ x tk, v = .str x tk ∧ PyData.strOk x = true) (h64 : items.size < 64)
    (k : ∀ (h' : Heap) (tk : Nat), TxtSet P w h' s.heap.objs.size items.size → (∀ b o, s.heap.get? b = some o → h'.get? b = some o) → Q (.ref s.heap.objs.size) { s with heap := h', toks := tk }) :
    wpAny (model P w) A (call (.type "set") [.ref l]) Q E s := by
  obtain ⟨c0, tl0, mro0⟩ := F.called_set.mro
  have made0 := F.called_set.made
  have sub0 := F.called_set.sub
  refine wpAny_call (codeAny_of_tree ?_)
  show wpAny _ _ (callAny (.type "set") _) _ _ _
  refine wpAny_pure ⟨Code.quiet_builtin _ (by decide +kernel), codeAny_builtin F.entry_type_call ?_⟩
  rw [Around.under_plain (weight_type_call_type "set" [.ref l] []) rfl]
  have t1 := F.called_set.notType
  have t2 := F.called_set.canCreate
  have t3 := F.typeCall_set_1 (.ref l)
  repeat (any_goals (first | assumption | wp_step))
  refine codeAny_mono (code_set_led1 (.ref l) (E := E) (Q₁ := fun ob sN => ob = .ref s.heap.objs.size ∧ sN = { s with heap := s.heap.push (bareSet w) }) ⟨rfl, rfl⟩) ?_
  intro r sN hr
  rcases r with er | (ob | _ | _ | _)
  case error => exact hr
  case ok.next => exact hr.elim
  case ok.brk => exact hr.elim
  case ok.cont => exact hr.elim
  obtain ⟨rfl, rfl⟩ := hr
  have gS : (s.heap.push (bareSet w)).get? s.heap.objs.size = some (bareSet w) := Heap.get?_push_size _ rfl
  have tS : Shared.TypeIs { s with heap := s.heap.push (bareSet w) } (.ref s.heap.objs.size) "set" := ⟨_, gS, rfl⟩
  have i1 := F.called_set.init.lookup
  have i2 := F.called_set.init.bind (.ref s.heap.objs.size)
  repeat (any_goals (first | assumption | wp_step))
  refine codeAny_mono (codeAny_call_builtin (R := wants (fun r s2 => r = .none ∧ ∃ h' tk, s2 = { s with heap := h', toks := tk } ∧ TxtSet P w h' s.heap.objs.size items.size ∧ (∀ b o, s.heap.get? b = some o → h'.get? b = some o)) E)
    F.called_set.init.plain F.entry_set_init (check_set_init_1 tS ?_)) ?_
  · obtain ⟨ol, gol, ecl, nl, edl⟩ := hl
    obtain ⟨oc, od, odt, osl⟩ := ol
    simp only at ecl edl
    subst ecl edl
    have ltl : l < s.heap.objs.size := Heap.lt_size gol
    have gol' : (s.heap.push (bareSet w)).get? l = some { cls := .type "tuple", dict := od, data := .seq items nl, slots := osl } := Heap.get?_push_of_some _ gol
    have n1 := F.sub_tuple_set
    have n2 := F.sub_tuple_frozenset
    have n3 : (Value.type "tuple" == Value.type "dict") = false := by decide
    have isl : (s.heap.push (bareSet w)).IsTuple l items := ⟨_, gol', rfl, nl, rfl⟩
    have szp : (s.heap.push (bareSet w)).objs.size = s.heap.objs.size + 1 := Heap.size_push ..
    unfold Builtin.«set.__init__» noKeywords Builtin.Frozenset.updateFrom
    generalize epi : pyIter = PI
    wp_walk
    subst epi
    refine wpAny_pyIter_tuple isl (wpAny_bind (wpAny_runValue ?_))
    have hh3 : A.in1.in1.in1.handled = none := by simp [hh]
    have neI : l ≠ (s.heap.push (bareSet w)).objs.size := by
      rw [szp]
      exact Nat.ne_of_lt (Nat.lt_succ_of_lt ltl)
    have nS : s.heap.objs.size ∉ [(s.heap.push (bareSet w)).objs.size, l] := by
      rw [szp]
      simp only [List.mem_cons, List.not_mem_nil, or_false, not_or]
      exact ⟨Nat.ne_of_lt (Nat.lt_succ_self _), Nat.ne_of_gt ltl⟩
    refine txt_loop ((Walks.tuple hh3 _ l neI items).toS) s.heap.objs.size nS h64 hv items.size 0 _ (Nat.add_zero _) ⟨⟨_, Heap.get?_push_size _ rfl, rfl, rfl⟩, isl.push _⟩
      (txtSet_bare (Heap.get?_push_of_some _ gS)) ?_
    intro s' mv R'
    obtain ⟨h', g2, d', tk', os'⟩ := s'
    obtain rfl : g2 = s.gens := mv.gens
    obtain rfl : d' = s.drawn := mv.drawn
    obtain rfl : os' = s.os := mv.os
    show wpAny _ _ _ _ _ _
    refine wpAny_pure ?_
    show wpAny _ _ (ret Value.none) _ _ _
    refine wpAny_pure ⟨rfl, h', tk', rfl, R', ?_⟩
    intro b o e
    have lb : b < s.heap.objs.size := Heap.lt_size e
    refine mv.heap b o ?_ (Heap.get?_push_of_some _ (Heap.get?_push_of_some _ e))
    rw [szp]
    simp only [List.mem_cons, List.not_mem_nil, or_false, not_or]
    exact ⟨Nat.ne_of_lt lb, Nat.ne_of_lt (Nat.lt_succ_of_lt lb)⟩
  · intro r2 s2 hr2
    rcases r2 with er | (r | _ | _ | _)
    case error => exact hr2
    case ok.next => exact hr2.elim
    case ok.brk => exact hr2.elim
    case ok.cont => exact hr2.elim
    obtain ⟨rfl, h', tk, rfl, R', kk⟩ := hr2
    repeat (any_goals (first | assumption | wp_step))
    exact k _ _ R' kk

end
end TC

/-! the rules: set(xs), sorted(a set of texts) -/
namespace TC
open PySem PySem.Spec PyProof.Rows L2
section
variable {P : Program} {w : World} {A : Around} {E : Value → Shared → Prop} {s : Shared}
theorem strs_give : ∀ (vs : List Value), (∀ v ∈ vs, ∃ x tk, v = Value.str x tk ∧ PyData.strOk x = true) → ∃ xs, StrsAre vs xs ∧ xs.length = vs.length ∧ ∀ x ∈ xs, PyData.strOk x = true
  | [], _ => ⟨[], .nil, rfl, fun x hx => by cases hx⟩
  | v :: vs, h => by
    obtain ⟨x, tk, rfl, ok⟩ := h v List.mem_cons_self
    obtain ⟨xs, q, l, z⟩ := strs_give vs fun u hu => h u (List.mem_cons_of_mem _ hu)
    exact ⟨x :: xs, .cons x tk q, congrArg Nat.succ l, fun y hy => (List.mem_cons.mp hy).elim (fun e => by rw [e]; exact ok) (z y)⟩
theorem strs_any : ∀ {us : List Value} {xs : List Str}, StrsAre us xs → (∀ x ∈ xs, PyData.strOk x = true) → ∀ (i : Nat) v, us[i]? = some v → ∃ x tk, v = Value.str x tk ∧ PyData.strOk x = true
  | _, _, .nil, _, i, v, h => by simp at h
  | _, _, .cons y t hr, ok, 0, v, h => by
    simp at h
    exact ⟨y, t, h.symm, ok y List.mem_cons_self⟩
  | _, _, .cons y t hr, ok, i + 1, v, h => strs_any hr (fun x hx => ok x (List.mem_cons_of_mem _ hx)) i v (by simpa using h)
theorem sorted_txtSet {a : Addr} {n : Nat} {Q : Value → Shared → Prop} (R : TxtSet P w s.heap a n) (hh : A.handled = none) (h64 : n < 64)
    (hQ : ∀ s' p (out : Array Value) (c : Nat) (ys : List Str), (∀ b o, s.heap.get? b = some o → s'.heap.get? b = some o) → s'.gens = s.gens → s'.os = s.os → s.heap.objs.size ≤ p →
      s'.heap.get? p = some (seqObj "list" out c) → StrsAre out.toList ys → ys.length ≤ n → (∀ y ∈ ys, PyData.strOk y = true) → Q (.ref p) s') : wpAny (model P w) A (call (.builtin "sorted") [.ref a]) Q E s := by
  obtain ⟨o, es, ep, t, go, xo, dd, el, hs, hf, hr, hl⟩ := R
  have b0 : es.size < scanBound := scan64 (by omega)
  refine Calls.call_function_entry kind_sorted plain_sorted entry_sorted (args_sorted1 _) ?_
  unfold Builtin.«sorted»
  refine wpAny_bind (m := checkCount "sorted" 1 1 _) (wpAny_pure (wpAny_bind ?_))
  refine collect_set (A := A.in1) hh ⟨o, go, xo.1, dd⟩ hf b0 hr hl ?_
  intro s1 vs k1 hz g1 o1 pm
  have lv : vs.length ≤ n := by
    rw [pm.length_eq, List.length_map, Array.length_toList]
    exact hs
  obtain ⟨xs, sx, lx, okx⟩ := strs_give vs (by
    intro v hv
    obtain ⟨e, he, q⟩ := List.mem_map.mp (pm.mem_iff.mp hv)
    obtain ⟨⟨x, ix, _⟩, _⟩ := el.el e he
    obtain ⟨tk, z⟩ := Value.isStrOf_shape (x := x) (v := e.2) ix
    exact ⟨x, tk, q.symm.trans z, el.ok e he x tk z⟩)
  refine wpAny_bind (wpAny_newList ?_ (by rw [sizeLine_eq]; omega))
  have goL : (s1.heap.push (seqObj "list" vs.toArray 0)).get? s1.heap.objs.size = some (seqObj "list" vs.toArray 0) := Heap.get?_push_size _ rfl
  refine wpAny_bind (wpAny_holding (wpAny_call_entry slot_list_sort ⟨_, goL, rfl⟩ entry_list_sort ?_ (args_list_sort _)))
  refine list_sort_treeK strKind_oneLt goL sx.keysOf (fun v1 v2 rest e => keyKind_strs (by rw [← e]; exact sx)) (by omega) ?_
  intro st hp hsd
  obtain ⟨ys, y1, y2, y3⟩ := sorted_out_str sx hp hsd
  obtain ⟨c, hc⟩ := sortedHeap_at (vs := vs) (out := (arrOf st).map (·.2)) goL
  refine ⟨.none, rfl, wpAny_pure ⟨_, rfl, ?_⟩⟩
  refine hQ _ s1.heap.objs.size ((arrOf st).map (·.2)) c ys ?_ g1 o1 hz hc y1 (by rw [y2.length_eq]; omega) (fun y hy => okx y (y2.mem_iff.mp hy))
  intro b u e
  have q := k1 b u e
  have lt := Heap.lt_size q
  refine Eq.trans (sortedHeap_old (Nat.ne_of_lt lt) ?_) (Heap.get?_push_of_some _ q)
  rw [size_push']
  exact Nat.lt_succ_of_lt lt
end

/-- the set of at most n texts at a -/
def TxtO (P : Program) (w : World) (a : Addr) (n : Nat) : HO := .ext fun h => TxtSet P w h a n
section
variable {X : Cx}
theorem txtO_ok {P : Program} {w : World} {H : Hp} {h : Heap} {a : Addr} {n : Nat} (R : TxtSet P w h a n) : ObjOk P w H h a (TxtO P w a n) := by
  have ⟨o, _, _, _, go, _⟩ := R
  exact ⟨R, ⟨o, go⟩, fun h1 h2 p k => p.carry k⟩
/-- set(xs) -/
def rSetTxt (K : PySem.W.Frag) (P : Program) (w : World) : List V → Hp → VK → Prop := fun vs H Q => ∃ (a : Addr) (xs : List Str), vs = [V.ref a] ∧ (SqL K H a (xs.map V.str) ∨ SqT K H a (xs.map V.str)) ∧ xs.length < 64 ∧ (∀ x ∈ xs, PyData.strOk x = true) ∧
  ∀ p, H p = none → Q (.ref p) (upd H p (TxtO P w p xs.length))
theorem cr_setTxt (hc : X.calm = true) : CallR X (.type "set") (rSetTxt X.K X.prog X.w) := by
  intro pins s σ H vs us Q I r h
  obtain ⟨a, xs, rfl, hx, h64, okx, q⟩ := h
  rw [Vals.ref1 r]
  have fresh : H s.heap.objs.size = none := I.hok.fresh (Nat.le_refl _)
  have val : ∀ (its : List Value), Vals (xs.map V.str) its → (∀ (i : Nat) v, its.toArray[i]? = some v → ∃ x tk, v = Value.str x tk ∧ PyData.strOk x = true) ∧ its.toArray.size = xs.length := by
    intro its rv
    have ln : its.length = xs.length := by
      have q := rv.length
      rw [List.length_map] at q
      exact q.symm
    refine ⟨fun i v hv => ?_, by simpa using ln⟩
    have hv2 : its[i]? = some v := by simpa using hv
    have sx := rv.strs
    exact strs_any sx okx i v hv2
  have fin : ∀ (h' : Heap) (tk n : Nat), n = xs.length → TxtSet X.prog X.w h' s.heap.objs.size n → (∀ b o, s.heap.get? b = some o → h'.get? b = some o) → EP X pins σ Q (.ref s.heap.objs.size) { s with heap := h', toks := tk } := by
    rintro h' tk n rfl R k
    exact ⟨.ref s.heap.objs.size, _, I.laid (t' := tk) k (Nat.le_refl _) (txtO_ok R), rfl, q _ fresh⟩
  rcases hx with hx | hx
  · obtain ⟨its, rv, pl, _⟩ := I.list hx
    obtain ⟨v1, v2⟩ := val its rv
    exact set_of_list (I.ok.hd hc) pl.isList v1 (by rw [v2]; exact h64) fun h' tk R k => fin h' tk _ v2 R k
  · obtain ⟨its, rv, pl, _⟩ := I.tuple hx
    obtain ⟨v1, v2⟩ := val its rv
    exact set_of_tuple (I.ok.hd hc) pl v1 (by rw [v2]; exact h64) fun h' tk R k => fin h' tk _ v2 R k
/-- sorted(that set) -/
def rSortTxt (P : Program) (w : World) : List V → Hp → VK → Prop := fun vs H Q => ∃ (a : Addr) (n : Nat), vs = [V.ref a] ∧ H a = some (TxtO P w a n) ∧ n < 64 ∧
  ∀ (p : Addr) (ys : List Str), H p = none → ys.length ≤ n → (∀ y ∈ ys, PyData.strOk y = true) → Q (.ref p) (upd H p (.lst (ys.map V.str)))
theorem cr_sortTxt (hc : X.calm = true) : CallR X (.builtin "sorted") (rSortTxt X.prog X.w) := by
  intro pins s σ H vs us Q I r h
  obtain ⟨a, n, rfl, ha, h64, q⟩ := h
  rw [Vals.ref1 r]
  have R : TxtSet X.prog X.w s.heap a n := (I.hok a _ ha).1
  refine sorted_txtSet R (I.ok.hd hc) h64 ?_
  intro s' p out c ys k eg eo hp gp sy ly oky
  have fresh : H p = none := I.hok.fresh hp
  have lim : (ys.map V.str).length ≤ sizeLine := by rw [List.length_map, sizeLine_eq]; omega
  have J : Inv X pins σ (upd H p (.lst (ys.map V.str))) s' := by
    refine I.call' (ch := []) eo (Un.laid k hp fresh) (I.hok.laid k hp ⟨lim, out.toList, c, vals_of_strs sy, gp⟩) (by rw [eg]; exact I.bare) ?_
    intro b z
    cases z
  exact ⟨.ref p, _, J, rfl, q p ys fresh ly oky⟩
end
end TC

/-! C(v): C an own exception over LookupError whose __init__(self, name) says super().__init__(name) and stores self.name -/
namespace TC
open PySem PySem.Spec PyProof.Rows L2 PySem.W

abbrev leTail : List Value := [.type "LookupError", .type "Exception", .type "BaseException", .type "object"]
def lowBody : List Stmt :=
  [.Expr (.Call (.Attribute (.Call (.Name "super" ⟨33, 8, 33, 13⟩) [] [] ⟨33, 8, 33, 15⟩) "__init__" ⟨33, 8, 33, 24⟩) [.Name "name" ⟨33, 25, 33, 29⟩] [] ⟨33, 8, 33, 30⟩) ⟨33, 8, 33, 30⟩,
   .Assign [.Attribute (.Name "self" ⟨34, 8, 34, 12⟩) "name" ⟨34, 8, 34, 17⟩] (.Name "name" ⟨34, 20, 34, 24⟩) ⟨34, 8, 34, 24⟩]
def lowScope : Scope := { kind := .function, names := [("self", .local), ("name", .local), ("__class__", .free), ("super", .globalImplicit)], isGenerator := false, isCoroutine := false, more := [] }
/-- what the written part says of such a class -/
structure LowF (P : Program) (K : Frag) (C fI cda cc : Addr) (params : Arguments) (body : List Stmt) (scope : Scope) (qual : Str) : Prop where
  init : findIn K (.ref C) "__init__" = some (some (.ref fI))
  exc : excInitIn K C leTail "LookupError.__new__" = true
  fn : isFn K (.ref fI) = true
  func : ∃ oc od kV doc pm an ct osl, K.lookup fI = some ⟨oc, od, .func (ksFn "__init__" qual params body scope .none kV doc pm an (.ref cda) ct cc), osl⟩
  code : codeIn K (.ref cda) qual = true
  file : ∃ ccl cdd vs ccs tf, K.lookup cda = some ⟨ccl, cdd, .fields vs, ccs⟩ ∧ vs[2]? = some (.str P.main.file tf)
  cell : ∃ cl cld csl, K.lookup cc = some ⟨cl, cld, .cell (some (.ref C)), csl⟩
  mro : mroIn K C (.ref C) = some true
  third : nsIn K cStatics "thirdparty.any" = some none
  sup : ks_superIn K C C "__init__" = some (some (.builtin "LookupError.__init__"))
  sub : subIn K (.ref C) (.type "LookupError") = some true
  sa : findIn K (.ref C) "__setattr__" = some (some (.builtin "object.__setattr__"))
  over : excOver K C leTail = true
  tak : takerIn K C "name" = some none
  dict : hasDictIn K C = true
  top : (P.main.scope.names.lookup ("super" : Str)).isSome = false

section
variable {prog : Program} {w : World} {A : Around} {E : Value → Shared → Prop} {s : Shared} {K : Frag} {C fI cda cc : Addr} {params : Arguments} {qual : Str} {mg : Str → Option Value} {base : Heap}

theorem excO_store {x t : Addr} {v : Value} {h : Heap} {g : Array GenState} {d : Drawn} {tk : Nat} {os : OsState} {Q : Unit → Shared → Prop} (T : LowF prog K C fI cda cc params lowBody lowScope qual) (X : K.In h)
    (hx : h.get? x = some (excObj C t none .none))
    (k : ∀ h' tk' dx, (∀ b o, b ≠ x → h.get? b = some o → h'.get? b = some o) → h.objs.size ≤ dx → dx ≠ x → h'.get? x = some (excObj C t (some dx) .none) → h'.Ns1 dx (fun y => if y = "name" then some v else none) → Q () ⟨h', g, d, tk', os⟩) :
    wpAny (model prog w) A (setAttr (.ref x) "name" v) Q E ⟨h, g, d, tk, os⟩ := by
  have I : InstAt h x (excObj C t none .none) C none := ⟨hx, rfl, rfl, trivial⟩
  have nx : x ≠ h.objs.size := Nat.ne_of_lt (Heap.lt_size hx)
  obtain ⟨cd, hcd, hd0⟩ := any_some T.dict
  refine set_plain (od := none) (s := ⟨h, g, d, tk, os⟩) X I T.sa (osa_openX (s := ⟨h, g, d, tk + 1, os⟩) F.store_LookupError X I T.over T.tak ?_)
  intro b
  have lc : Looks (model prog w) h (classData C) cd := looks_clsIn X hcd
  obtain ⟨nm, bs, mro, ns, qn, hd, sn, sb, ab, col, del⟩ := cd
  have hd1 : hd = true := hd0
  subst hd1
  show wpAny _ _ (Builtin.ObjectAttr.storeInOwnDict (.ref x) (.ref C) (.str "name" _) "name" v b) _ _ _
  unfold Builtin.ObjectAttr.storeInOwnDict Builtin.ObjectAttr.ownDictForStores
  repeat (first | with_reducible refine HandSPX.store_in_new ?_ ?_ | with_reducible refine wpAny_loadPart_at hx ?_ | with_reducible refine lc.at ?_ | wp_step)
  · refine ⟨_, #[], _, (Heap.get?_update_ne _ _ _ _ nx.symm).trans (Heap.get?_push_at rfl rfl), rfl, ?_, fun _ => rfl⟩
    intro e he
    exact absurd he (by simp)
  · intro h' tk' hn hs
    have hx1 : (h.push { cls := .type "dict", data := .dict #[] }).get? x = some (excObj C t none .none) := Heap.get?_push_of_some _ hx
    refine k h' _ h.objs.size ?_ (Nat.le_refl _) nx.symm ?_ hn
    · intro y o hy ho
      exact (hs.2 y (Nat.ne_of_lt (Heap.lt_size ho))).trans ((Heap.get?_update_ne _ _ _ _ hy).trans (Heap.get?_push_of_some _ ho))
    · exact (hs.2 x nx).trans (Heap.get?_update_self _ hx1 rfl)

/-- the body of __init__ at its frame L -/
theorem low_body {e t0 L : Addr} {v : Value} {h0 : Heap} {m : Str → Option Value} {R : Value → Shared → Prop} (T : LowF prog K C fI cda cc params lowBody lowScope qual)
    (hp : (params.posonlyargs ++ params.args).head? = some { arg := "self", annotation := none, pos := ⟨32, 17, 32, 21⟩ })
    (X0 : K.In h0) (G : h0.Ns mainGlobals mg) (nsup : mg "super" = none) (B : ∃ mb, h0.Ns builtinsNs mb ∧ ∀ x : Str, x ≠ "__name__" → mb x = bootBuiltins x)
    (Fr0 : Fr h0 L s.heap m) (N0 : News h0 L s.heap [(e, excObj C t0 none .none)]) (mself : m "self" = some (.ref e)) (mname : m "name" = some v)
    (k : ∀ h' tk' t1 dx, (∀ b o, h0.get? b = some o → h'.get? b = some o) → h0.objs.size ≤ dx → dx ≠ e → h'.get? e = some (excObj C t1 (some dx) .none) → h'.Ns1 dx (fun y => if y = "name" then some v else none) → R .none { s with heap := h', toks := tk' }) :
    _root_.PySem.wpAt (model prog w) A (.func lowBody (ksEnv qual lowScope L fI (.ref cda) cc)) (execs lowBody (ksEnv qual lowScope L fI (.ref cda) cc))
      (fun fl s' => R (match fl with | .ret v => v | _ => .none) s') E s := by
  have kMain : lowScope.kind = .function := rfl
  obtain ⟨oc, od, kV, doc, pm, an, ct, osl, lf⟩ := T.func
  obtain ⟨ccl, cdd, vs, ccs, tf, lc, lvs⟩ := T.file
  obtain ⟨cl, cld, csl, lcell⟩ := T.cell
  obtain ⟨cd, hcd, hd0⟩ := any_some T.dict
  have X : K.In s.heap := X0.keeps Fr0.keep
  obtain ⟨oD, gD, dD⟩ : ∃ oD, s.heap.get? C = some oD ∧ oD.data = .cls cd := by
    unfold clsIn at hcd
    split at hcd
    · rename_i c1 d1 cd1 sl1 ho
      cases hcd
      exact ⟨_, X _ _ ho, rfl⟩
    · cases hcd
  have ge : s.heap.get? e = some (excObj C t0 none .none) := (N0 _ List.mem_cons_self).1
  have Ie : InstAt s.heap e (excObj C t0 none .none) C none := ⟨ge, rfl, rfl, trivial⟩
  unfold lowBody
  refine ks_wpAt_execs_cons (ks_wpAt_Expr_any (ks_wpAt_MethodCall ?_))
  refine ks_wpAt_super_base (env := ksEnv qual lowScope L fI (.ref cda) cc) rfl rfl (by decide) rfl (X _ _ lf) rfl hp rfl (X _ _ lc) rfl lvs (beq_self_eq_true _) T.top ?_
  obtain ⟨mb, b1, b2⟩ := B
  refine ks_loadName_global kMain rfl (Calls.loadGlobal_builtin (env := ksEnv qual lowScope L fI (.ref cda) cc) (G.keeps Fr0.keep) nsup (b1.keeps Fr0.keep) ((b2 _ (by decide)).trans (by rfl)) ⟨rfl, ?_⟩)
  refine wpAny_loadName_free kMain rfl rfl ⟨_, X _ _ lcell, rfl⟩ ?_
  refine wpAny_loadName_local kMain rfl Fr0.ns mself ?_
  refine ks_wpAny_isType_cls gD dD ⟨rfl, ?_⟩
  refine ks_wpAny_call_super gD dD ge rfl (fun c z => nomatch z) (looks_mroIn X T.mro) ?_
  intro h1 gso k1
  obtain ⟨F1, N1, lt1⟩ := ks_newsPush (s := s) Fr0 N0 rfl gso k1
  have ge1 : h1.get? e = some (excObj C t0 none .none) := k1 _ _ ge
  refine kxs_method (s := { s with heap := h1 }) kxs_LookupError F1 X0 N1 List.mem_cons_self (show InstAt h1 e (excObj C t0 none .none) C none from ⟨ge1, rfl, rfl, trivial⟩) T.third T.sup T.sub (by decide) ?_
  intro u h2 F2 N2 lt2
  refine kxs_callWith1 (x := e) (i := "LookupError.__init__") N2 List.mem_cons_self ?_
  show wpAny _ _ (spliced ((false, eval (.Name "name" ⟨33, 25, 33, 29⟩) (ksEnv qual lowScope L fI (.ref cda) cc)) :: [])) _ _ _
  refine Calls.spliced_cons (wpAny_Name (wpAny_loadName_local kMain rfl F2.ns mname ?_) (by decide))
  refine Calls.spliced_nil ⟨kxs_at N2 List.mem_cons_self, ?_⟩
  have ne1 : ∀ p ∈ [(e, excObj C t0 none Value.none)], p.1 < s.heap.objs.size := lt1
  have nu : u ≠ e := fun z => absurd (lt2 (e, excObj C t0 none .none) (by simp)) (by rw [z]; exact Nat.lt_irrefl _)
  have nso : s.heap.objs.size ≠ e := Nat.ne_of_gt (Heap.lt_size ge)
  have U : UpdF e (excObj C t0 none .none) [(u, kxs_mw "LookupError.__init__" e), (s.heap.objs.size, ks_superObj C e C), (e, excObj C t0 none .none)]
      (fun o => [(u, kxs_mw "LookupError.__init__" e), (s.heap.objs.size, ks_superObj C e C), (e, o)]) := .tail nu (.tail nso (.head (fun p hp => absurd hp (by simp))))
  refine kxs_call (s := { s with heap := h2, toks := s.toks + 1 }) F2 X0 N2 F.excBase_LookupError T.exc List.mem_cons_self U (by show 1 ≤ sizeLine; decide) ?_
  intro t1 h3 F3 N3 lt3
  have ge3 : h3.get? e = some (excObj C t1 none .none) := (N3 (e, excObj C t1 none .none) (by simp)).1
  -- self.name = name
  refine ks_wpAt_execs_cons (ks_wpAt_Assign_Attr (wpAt_of_wpAny (wpAny_Name (wpAny_loadName_local kMain rfl F3.ns mname ?_) (by decide))))
  refine wpAny_Name (wpAny_loadName_local kMain rfl F3.ns mself ?_) (by decide)
  refine excO_store T (X0.keeps F3.keep) ge3 ?_
  intro h4 tk4 dx k4 ndx ne4 ge4 ns4
  have xn : h0.get? e = none := (N0 _ List.mem_cons_self).2.2
  refine wpAt_of_wpAny (wpAny_execs_nil ?_)
  refine k h4 tk4 t1 dx (fun b o z => k4 b o (fun q => by rw [q, xn] at z; cases z) (F3.keep b o z)) ?_ ne4 ge4 ns4
  exact Nat.le_trans F3.above (Nat.le_trans (Nat.le_of_lt F3.ns.lt) ndx)

/-- C(v) -/
theorem low_make {v : Value} {Q : Value → Shared → Prop} (T : LowF prog K C fI cda cc params lowBody lowScope qual) (hp : (params.posonlyargs ++ params.args).head? = some { arg := "self", annotation := none, pos := ⟨32, 17, 32, 21⟩ })
    (hbind : ∀ kV doc pm an ct x v, bindArgs (ksFn "__init__" qual params lowBody lowScope .none kV doc pm an (.ref cda) ct cc) ⟨[x, v], []⟩ = pure [(("self" : Str), x), (("name" : Str), v)])
    (X : K.In s.heap) (G : s.heap.Ns mainGlobals mg) (nsup : mg "super" = none) (B : ∃ mb, s.heap.Ns builtinsNs mb ∧ ∀ x : Str, x ≠ "__name__" → mb x = bootBuiltins x) (lim : s.heap.NoLimit) (room : A.depth + 2 < recursionLimit)
    (k : ∀ h' tk' e t1 dx, (∀ b o, s.heap.get? b = some o → h'.get? b = some o) → s.heap.objs.size ≤ e → s.heap.objs.size ≤ dx → dx ≠ e → h'.get? e = some (excObj C t1 (some dx) .none) → h'.Ns1 dx (fun y => if y = "name" then some v else none) →
      Q (.ref e) { s with heap := h', toks := tk' }) : wpAny (model prog w) A (call (.ref C) [v]) Q E s := by
  obtain ⟨nm, N', qn, bs, bm, hdct, sn, sub, ab, col, dd, k0, k1, k2, k3, k5, hC, hT⟩ := excInit_of X T.exc
  obtain ⟨oc, od, kV, doc, pm, an, ct, osl, lf⟩ := T.func
  have gf := X _ _ lf
  have ecls : oc = .type "function" := by
    have z := beq_iff_eq.mp T.fn
    have z2 : (K.lookup fI).map (·.cls) = some (.type "function") := z
    rw [lf] at z2
    exact Option.some.inj z2
  subst ecls
  have ini : Looks (model prog w) s.heap (typeLookup (.ref C) "__init__") (some (.ref fI)) := looks_findIn X T.init
  obtain ⟨h, g, d, t, os⟩ := s
  refine wpAny_call (HandSPX.call_own F.excBase_LookupError hT hC ini (fun self => exc_bind gf rfl self) (by show 1 ≤ sizeLine; decide) ?_)
  have kp : ∀ b o, h.get? b = some o → ((h.push (kdv_tup [v])).push (HandSPX.excO C h.objs.size)).get? b = some o := fun b o e => Heap.get?_push_of_some _ (Heap.get?_push_of_some _ e)
  have sz1 : (h.push (kdv_tup [v])).objs.size = h.objs.size + 1 := Heap.size_push ..
  have sz2 : ((h.push (kdv_tup [v])).push (HandSPX.excO C h.objs.size)).objs.size = h.objs.size + 2 := by rw [Heap.size_push, sz1]
  have ge : ((h.push (kdv_tup [v])).push (HandSPX.excO C h.objs.size)).get? (h.objs.size + 1) = some (excObj C h.objs.size none .none) := by
    rw [← sz1]
    exact Heap.get?_push_size _ rfl
  refine ks_codeAny_call_defAt (fd := ksFn "__init__" qual params lowBody lowScope .none kV doc pm an (.ref cda) ct cc) (body := lowBody) (binds := [("self", .ref (h.objs.size + 1)), ("name", v)]) ?_ (kp _ _ gf) rfl (lim.keeps kp) (codeRec_of (X.keeps kp) T.code) rfl
    (.of_eq (hbind _ _ _ _ _ _ _)) (show ∀ y ∈ lowScope.names, y.2 ≠ .cell by decide) (by
      intro y hy
      rcases List.mem_cons.mp hy with z | hy
      · rw [z] <;> rfl
      · rw [List.mem_singleton.mp hy] <;> rfl) ?_
  · rw [make_depth]
    omega
  intro h3 ns3 k3'
  have k03 : ∀ b o, h.get? b = some o → h3.get? b = some o := fun b o z => k3' b o (kp b o z)
  have F3 : Fr h ((h.push (kdv_tup [v])).push (HandSPX.excO C h.objs.size)).objs.size h3 (fun x => ([("self", Value.ref (h.objs.size + 1)), ("name", v)] : List (Str × Value)).reverse.lookup x) := ⟨ns3, k03, by rw [sz2]; exact Nat.le_add_right _ _⟩
  have hn : ∀ b, h.objs.size ≤ b → h.get? b = none := fun b hb => Heap.get?_none_of_le hb
  have N3 : News h ((h.push (kdv_tup [v])).push (HandSPX.excO C h.objs.size)).objs.size h3 [(h.objs.size + 1, excObj C h.objs.size none .none)] := by
    intro p hp'
    obtain rfl := List.mem_singleton.mp hp'
    refine ⟨k3' _ _ ge, ?_, hn _ (Nat.le_succ _)⟩
    rw [sz2]
    exact Nat.ne_of_lt (Nat.lt_succ_self _)
  refine _root_.PySem.wpAt_mono (low_body (s := ⟨h3, g, d, t + 2, os⟩) (E := _) (R := fun v' s' => InitBack (h.objs.size + 1) (fun r s' => match r with | .ok (.ret u) => Q u s' | .ok _ => False | .error x => E x s') (.ok (.ret v')) s') T hp X G nsup B F3 N3 (by rfl) (by rfl) ?_) (fun _ _ z => z) (fun _ _ z => z)
  intro h4 tk4 t1 dx k4 ndx ne4 ge4 ns4
  exact ⟨rfl, k h4 tk4 _ t1 dx k4 (Nat.le_succ _) ndx ne4 ge4 ns4⟩
end
end TC

/-! raise C(e) of such a class; try: .. except C as n: v = n; what was caught, kept behind the suite -/
namespace TC
open PySem PySem.Spec PyProof.Rows L2

section
variable {X : Cx} {C fI cda cc : Addr} {params : Arguments} {qual x : Str} {e : Expr} {te : TE} {p pos : Pos}
theorem pmk_low (T : LowF X.prog X.K C fI cda cc params lowBody lowScope qual) (hp : (params.posonlyargs ++ params.args).head? = some { arg := "self", annotation := none, pos := ⟨32, 17, 32, 21⟩ })
    (hbind : ∀ kV doc pm an ct x v, bindArgs (PySem.W.ksFn "__init__" qual params lowBody lowScope .none kV doc pm an (.ref cda) ct cc) ⟨[x, v], []⟩ = pure [(("self" : Str), x), (("name" : Str), v)])
    (hg : Gl X x) (hm : X.mg x = some (.ref C)) (hk : PySem.W.keepIn X.K (.ref C) = true) (nsup : X.mg "super" = none) (hr : Room 1 X.A) (rs : Raises X (.ref C)) (he : PE X e te) (hd : (x == ("__debug__" : Str)) = false := by decide)
    (hs : starEach [e] X.env = (false, eval e X.env) :: starEach [] X.env := by rfl) :
    PMk X (.Call (.Name x p) [e] [] pos) (fun σ H Q => te σ H fun v H1 => ∀ d, H1 d = none → Q (.ref C) (some d) (upd H1 d (.xd [("name", v)]))) := by
  intro pins s σ H Q I h
  refine wpAny_Call_Name_kw (ld_glob I hg hm ?_ hd)
  refine PySem.W.callWith_K (h₀ := X.base) I.ok.mod.kin hk ?_ hs rfl
  rw [hs]
  show wpAny _ _ (spliced ((false, eval e X.env) :: [])) _ _ s
  refine Calls.spliced_cons (thn (he.run pins s σ H _ I h) ?_)
  rintro u s1 ⟨v, H1, I1, rv, q⟩
  refine Calls.spliced_nil ⟨I1.kIn, ?_⟩
  have room : X.A.depth + 2 < recursionLimit := by
    have z := hr.dp
    omega
  obtain ⟨mb, b1, b2⟩ := I1.mod.blt
  refine low_make T hp hbind I1.kIn (I1.mod.glob.keeps I1.bk) nsup ⟨mb, b1.keeps I1.bk, b2⟩ I1.nolimit room ?_
  intro h' tk' a t1 d kp la ld ne ga ns
  have na : s1.heap.get? a = none := Heap.get?_none_of_le la
  obtain ⟨G, g1, g2⟩ := restrict h' fun b => decide (b ≠ a)
  have gk : ∀ b, b ≠ a → G.get? b = h'.get? b := fun b z => g1 b (decide_eq_true z)
  have ga0 : G.get? a = none := g2 a (by simp)
  have up : ∀ b o, s1.heap.get? b = some o → G.get? b = some o := fun b o z => by
    have nb : b ≠ a := fun y => by
      rw [y, na] at z
      cases z
    rw [gk b nb]
    exact kp b o z
  have back : ∀ b o, G.get? b = some o → h'.get? b = some o := fun b o z => by
    have nb : b ≠ a := fun y => by
      rw [y, ga0] at z
      cases z
    rw [← gk b nb]
    exact z
  have nd : H1 d = none := I1.hok.fresh ld
  have nsG : G.Ns1 d (fun y => if y = "name" then some u else none) := by
    obtain ⟨o, es, ep, go, r⟩ := ns
    exact ⟨o, es, ep, (gk d ne).trans go, r⟩
  have ok : ObjOk X.prog X.w (upd H1 d (.xd [("name", v)])) G d (.xd [("name", v)]) := by
    refine ⟨_, nsG, fun f => ?_⟩
    show RelO (List.lookup f [(("name" : Str), v)]) (if f = "name" then some u else none)
    by_cases z : f = ("name" : Str)
    · subst z
      rw [if_pos rfl]
      exact rv
    · have bz : (f == ("name" : Str)) = false := beq_eq_false_iff_ne.mpr z
      rw [if_neg z]
      simp only [List.lookup, bz]
      trivial
  have J := I1.laid (t' := tk') up ld ok
  have nHa : upd H1 d (.xd [("name", v)]) a = none := by
    rw [upd_ne (fun z => ne z.symm)]
    exact I1.hok.fresh la
  exact ⟨a, _, _, _, _, .ref C, some d, rfl, J, back, ga0, ga, ⟨rfl, rfl⟩, rfl, rfl, nHa, rfl, I1.bare, rs, q d nd⟩
end
end TC

namespace TC
open PySem PySem.Spec PyProof.Rows L2
/-- an exception of the class at C with its dict at d, kept as a value -/
def KeptO (C d a : Addr) : HO := .ext fun h => ∃ oe vs, h.get? a = some oe ∧ Zc (.ref C) (some d) oe ∧ oe.data = .fields vs
section
variable {X : Cx} {pins : List (Addr × Obj)} {σ : L2.St} {H : Hp} {s : Shared}
/-- an object that the def itself brought, tracked from here on -/
theorem track_own {a : Addr} {o : HO} (I : Inv X pins σ H s) (ha : H a = none) (h0 : X.s_0.heap.get? a = none) (nL : a ≠ X.env.locals) (nC : ∀ y c, X.env.cells.lookup y = some c → c ≠ a) (nP : ∀ p ∈ X.pn ++ pins, p.1 ≠ a)
    (ok : ObjOk X.prog X.w (upd H a o) s.heap a o) : Inv X pins σ (upd H a o) s := by
  have nb : ∀ b u, H b = some u → b ≠ a := fun b u e => ne_of_none e ha
  have n0 : ∀ b u, X.s_0.heap.get? b = some u → b ≠ a := fun b u e z => by
    rw [z, h0] at e
    cases e
  refine ⟨I.ok, I.os, I.bare, ⟨I.base.keep, I.base.slot, ?_, I.base.there, ?_, ?_, ?_⟩, I.loc, I.cell, ?_, ?_, ?_, ?_, I.len⟩
  · intro b u e n hx
    rw [upd_ne (n0 b u e)]
    exact I.base.free b u e n hx
  · intro b xs e
    have z := I.base.tups b xs e
    rw [upd_ne (nb _ _ z)]
    exact z
  · intro b u xs e
    have z := I.base.frzs b u xs e
    rw [upd_ne (nb _ _ z)]
    exact z
  · intro b ps e
    obtain ⟨more, z⟩ := I.base.tbls b ps e
    exact ⟨more, by rw [upd_ne (nb _ _ z)]; exact z⟩
  · rw [upd_ne nL.symm]
    exact I.free
  · intro y c e
    rw [upd_ne (nC y c e)]
    exact I.freeC y c e
  · intro p hp
    obtain ⟨z1, z2, z3⟩ := I.pin p hp
    exact ⟨z1, by rw [upd_ne (nP p hp)]; exact z2, z3⟩
  · intro b u e
    by_cases z : b = a
    · subst z
      rw [upd_same] at e
      cases e
      exact ok
    · rw [upd_ne z] at e
      refine (I.hok b u e).stay (fun c v _ q => q) (fun c q => ?_) (fun c xs q => ?_)
      · rw [upd_ne (nb _ _ q)]
        exact q
      · rw [upd_ne (nb _ _ q)]
        exact q
end

/-- what 'except x as n: suite' wishes, where what was caught is kept -/
def wKeep (K : PySem.W.Frag) (c : Value) (i : Nat) (ts : Addr → Value → Option Addr → TS) (Wout : WX) (D : Ends) : WX := fun cls d σ H => ∃ b, PySem.W.exmOne K cls c = some b ∧
  (b = true → ∃ C dd, cls = .ref C ∧ d = some dd ∧ ∀ a, H a = none → ts a cls d { nx := fun σ' H' => D.nx (σ'.set i none) (upd H' a (KeptO C dd a)), rt := fun _ _ => False } (σ.set i (some (.ref a))) H) ∧ (b = false → Wout cls d σ H)
section
variable {X : Cx} {x n : Str} {c : Value} {i : Nat} {body suite : List Stmt} {b0 : Stmt} {np pos pos' : Pos} {tb : WX → TS} {ts : Addr → Value → Option Addr → TS} {Wout : WX}
theorem ps_try_keep (hs : X.stack = X.env :: X.outer) (hf : X.env.frame = some X.env.locals) (hex : X.ex = []) (hN : X.N.Nodup) (hi : X.N[i]? = some n) (hln : X.env.kindOf n = some .local) (hc : Names X x c) (tk : Takes X Wout)
    (hb : ∀ (W : WX) (pn : List (Addr × Obj)) (xe : Value → Shared → Prop), Takes (X.tr pn xe) W → PassesOwn (model X.prog X.w) X.A X.env xe → PSs (X.tr pn xe) body (tb W))
    (hsu : ∀ (a : Addr) (oe : Obj) (cls : Value) (d : Option Addr) (pn : List (Addr × Obj)), Zc cls d oe → (∃ vs, oe.data = .fields vs) → PSs (X.suite a ((a, oe) :: pn)) (b0 :: suite) (ts a cls d)) :
    PS X (.Try body [.ExceptHandler (some (.Name x np)) (some n) (b0 :: suite) pos'] [] [] pos) (fun D σ H => tb (wKeep X.K c i ts Wout D) D σ H) := by
  constructor
  intro pins s σ H D I h
  have ok := I.ok
  have fr : X.A.frames = some (X.env :: X.outer) := by rw [ok.frames, hs]
  refine wpAny_Try_except (wpAny_mono ((hb (wKeep X.K c i ts Wout D) (X.pn ++ pins) (fun e s1 => wpAny (model X.prog X.w) X.A (noteFrame e X.env) (fun _ s2 => wpAny (model X.prog X.w) X.A (setFlight e none) (fun _ s3 =>
    wpAny (model X.prog X.w) X.A (handleBy e X.env [.ExceptHandler (some (.Name x np)) (some n) (b0 :: suite) pos']) (SP X pins D) X.xe s3) X.xe s2) X.xe s1) ?_ PassesOwn.looking).run [] s σ H D (I.toTry _) h) ?_ (fun e s1 he => he))
  · rintro u s' ⟨a, B, sI, pins', σ', H', cls, d, rfl, J', nb, up, sky, na, os, ag, b, hb1, hyes, hno⟩
    have J : Inv X pins σ' H' sI := J'.ofTry ok
    have sky' : Sky B (X.env :: X.outer) a (Zc cls d) X.env.locals s'.heap := by rw [← hs]; exact sky
    show wpAny (model X.prog X.w) X.A (noteFrame (.ref a) X.env) _ _ _
    refine Sky.land Zc.steady fr hf sky' ?_
    intro h3 fl3 up3
    have J3 : Inv X pins σ' H' { s' with heap := h3 } := J.landed nb fl3.1 (up.trans up3) os ag
    obtain ⟨oe3, vs3, he3, hz3, hd3⟩ := fl3.there
    have nfr : a ∉ frs (X.env :: X.outer) := by
      intro hm
      obtain ⟨_, o', e', q⟩ := fl3.2.2.1.mem hm
      rw [he3] at e'
      cases e'
      exact q _ hd3
    have nL : a ≠ X.env.locals := fun z => nfr (List.mem_filterMap.mpr ⟨X.env, List.mem_cons_self, by rw [hf, z]⟩)
    have nF : a ∉ X.fs := by
      intro hm
      obtain ⟨e, he, q⟩ := List.mem_filterMap.mp hm
      exact nfr (List.mem_filterMap.mpr ⟨e, List.mem_cons_of_mem _ he, q⟩)
    -- the exception is not of the state ahead
    have noI : sI.heap.get? a = none := by
      cases z : sI.heap.get? a with
      | none => rfl
      | some o =>
        have q := nb a o z (by rw [hs]; exact nfr)
        rw [fl3.2.1] at q
        cases q
    have no0 : X.s_0.heap.get? a = none := by
      cases z : X.s_0.heap.get? a with
      | none => rfl
      | some o =>
        obtain ⟨o', q⟩ := J.base.there a o z (by rw [hex]; simp)
        rw [noI] at q
        cases q
    have nC : ∀ y c, X.env.cells.lookup y = some c → c ≠ a := by
      intro y c e z
      obtain ⟨v, o, q, _⟩ := J.cell y c e
      rw [z, noI] at q
      cases q
    have nP : ∀ p ∈ X.pn ++ pins, p.1 ≠ a := by
      intro p hp z
      have q := (J.pin p hp).1
      rw [z, noI] at q
      cases q
    have S3 := J3.suite he3 hd3 na nL nF
    refine wpAny_handleBy_cons (codeAny_handlers_test ?_) (by intro q; cases q)
    have LT : PySem.W.Looks (model X.prog X.w) h3 (typeOf (.ref a)) cls := fun A Q E s k q => wpAny_typeOf_ref (k _ _ he3) (by rw [hz3.1]; exact q)
    have LM := PySem.W.exm_one (M := model X.prog X.w) J3.kIn LT hb1
    have named : ∀ {Q : Value → Shared → Prop} {E : Value → Shared → Prop}, Q c { s' with heap := h3 } → wpAny (model X.prog X.w) (X.A.mark (some (.ref a))) (eval (.Name x np) X.env) Q E { s' with heap := h3 } := by
      intro Q E q
      obtain ⟨g1, g2, g3 | ⟨g3, g4, g5⟩⟩ := hc
      · exact ld_glob (X := X.suite a ((a, oe3) :: (X.pn ++ pins))) S3 g1 g3 q g2
      · exact ld_blt (X := X.suite a ((a, oe3) :: (X.pn ++ pins))) S3 g1 g3 g4 q g5 g2
    refine named (LM.here ?_)
    cases b with
    | true =>
      obtain ⟨C, dd, rfl, rfl, hyes⟩ := hyes rfl
      refine codeAny_handlers_suite_as (HandSPX.lands_againZ fl3 ?_)
      intro h4 fl4 up4
      have J4 : Inv X pins σ' H' { s' with heap := h4 } := J.landed nb fl4.1 ((up.trans up3).trans up4) os ag
      obtain ⟨oe4, vs4, he4, hz4, hd4⟩ := fl4.there
      have S4 := J4.suite he4 hd4 na nL nF
      refine store_ok (X := X.suite a ((a, oe4) :: (X.pn ++ pins))) (v := .ref a) S4 hN hi (.inl hln) rfl (fun s5 S5 => ?_) (.inr hln)
      refine wpAny_mono ((hsu a oe4 (.ref C) (some dd) (X.pn ++ pins) hz4 ⟨_, hd4⟩).run [] s5 _ H' _ S5 (hyes a na)) ?_ (fun _ _ z => z.elim)
      intro f s6 sp
      cases f with
      | next =>
        obtain ⟨σ6, H6, S6, q6⟩ := sp
        have pin6 := S6.pin (a, oe4) (List.mem_append_left _ List.mem_cons_self)
        have S7 : Inv X ((a, oe4) :: pins) σ6 H6 s6 := by
          refine (S6.unsuite ok).pins_of ?_
          intro p hp
          rcases List.mem_cons.mp hp with z | z
          · rw [z]
            exact ⟨pin6.1, pin6.2.1, nL, nF, pin6.2.2.2.2⟩
          · exact S6.pin p (List.mem_append_left _ (List.mem_cons_of_mem _ (List.mem_append_right _ z)))
        refine gone_ok S7 hN hi hln ?_
        intro s8 J8
        have ga := (J8.pin (a, oe4) (List.mem_append_right _ List.mem_cons_self)).1
        have J9 : Inv X pins (σ6.set i none) H6 s8 := J8.pins_of fun p hp => J8.pin p (List.mem_append_right _ (List.mem_cons_of_mem _ hp))
        refine ⟨_, _, track_own J9 pin6.2.1 no0 nL nC nP ?_, q6⟩
        exact ⟨⟨oe4, vs4, ga, hz4, hd4⟩, ⟨oe4, ga⟩, fun h1 h2 ⟨oe, vs, z1, z2⟩ kk => ⟨oe, vs, kk _ z1, z2⟩⟩
      | brk => exact (show False from sp.choose_spec.choose_spec.2).elim
      | cont => exact (show False from sp.choose_spec.choose_spec.2).elim
      | ret u =>
        obtain ⟨_, _, _, _, _, z⟩ := sp
        exact z.elim
    | false =>
      show wpAny _ X.A (handleBy (.ref a) X.env []) _ _ _
      refine wpAny_handleBy_nil ?_
      obtain ⟨k1, k2, k3, oe, vs, Tb, oT, ts', he, hz, hd, h1, hr⟩ := id fl3
      unfold PySem.passOn
      refine wpAny_bind (wpAny_field he hd h1 ?_)
      rw [if_neg (show ¬ ((Value.ref Tb == Value.none) = true) from by simp)]
      have fin : wpAny (model X.prog X.w) X.A (setFlight (.ref a) X.env.frame) (fun _ s4 => wpAny (model X.prog X.w) X.A (throw (.ref a) : Sem Flow) (SP X pins D) X.xe s4) X.xe { s' with heap := h3 } := by
        rw [hf]
        refine HandSPX.setFlight_upZ fl3 fun h4 hh4 up4 => wpAny_throw (tk _ _ ?_)
        exact ⟨a, B, sI, pins, σ', H', cls, d, rfl, J, nb, (up.trans up3).trans up4, .inr (.inr (by rw [hs]; exact hh4)), na, os, ag, hno rfl⟩
      first
        | exact wpAny_bind (wpAny_pure (wpAny_bind fin))
        | exact wpAny_bind fin
  · intro f s1 sp
    cases f with
    | next =>
      obtain ⟨σ', H', J', q⟩ := sp
      exact wpAny_execs_nil ⟨σ', H', J'.ofTry ok, q⟩
    | brk =>
      obtain ⟨σ', H', J', q⟩ := sp
      exact ⟨σ', H', J'.ofTry ok, q⟩
    | cont =>
      obtain ⟨σ', H', J', q⟩ := sp
      exact ⟨σ', H', J'.ofTry ok, q⟩
    | ret u =>
      obtain ⟨v, σ', H', J', r, q⟩ := sp
      exact ⟨v, σ', H', J'.ofTry ok, r, q⟩
end
end TC

/-! a method called by keywords within a try; a kept exception: isinstance, its field -/
namespace TC
open PySem PySem.Spec PyProof.Rows L2
section
variable {X : Cx} {CX : CXT} {k : Nat} {f C : Addr} {fd : FuncData} {ps ks : List Str} {sp : Sp} {E : L2.St → XK} {m : Str} {pos apos : Pos} {o : Expr} {kws : List Keyword} {ta : TE} {tk : TA} {g : List Value → List Value → List Value} {gV : List V → List V → List V}
theorem run_kwS {pins : List (Addr × Obj)} {σ : L2.St} {H : Hp} {s : Shared} {Q : VK} {us ws : List Value} {vs zs : List V} (F : FnOk X.prog X.w X.K X.mg X.base CX k f fd ps sp) (hr : Room k X.A) (hb : KBinds X.K fd ps ks g gV) (hx : PassesAt CX X σ (E σ))
    (I : Inv X pins σ H s) (r : Vals vs us) (rz : Vals zs ws) (h : sp (gV vs zs) H Q (E σ)) : wpAny (model X.prog X.w) X.A (call (.ref f) us (ks.zip ws)) (EP X pins σ Q) X.xe s := by
  have rel := hb.rel r rz
  have len : (g us ws).length = ps.length := rel.length.symm.trans (F.len _ _ _ _ h)
  refine wpAny_call (codeAny_mono (F.run X.A X.stack s H ⟨us, ks.zip ws⟩ _ _ Q (E σ) hr I.env0 (hb.to s us ws I.kIn len) rel h) ?_)
  rintro (e | (_ | _ | _ | u)) s' hq
  · exact hx pins H s e s' I hq
  · exact hq.elim
  · exact hq.elim
  · exact hq.elim
  · exact I.after hq
/-- o.m(k = v, ..) whose exceptions are caught here -/
def tMethKS (C : Addr) (m : Str) (sp : Sp) (gV : List V → List V → List V) (E : L2.St → XK) (ta : TE) (tk : TA) : TE := fun σ H Q => ta σ H fun x H1 =>
  ∃ a dx fs, x = .ref a ∧ H1 a = some (.ins C dx fs) ∧ fs.lookup m = none ∧ tk σ H1 fun zs H2 => sp (gV [x] zs) H2 Q (E σ)
theorem pe_methKS {pl : Sem Bool} (he : PE X o ta) (c : Cls X.K C) (hm : Meth X.K C m f) (F : FnOk X.prog X.w X.K X.mg X.base CX k f fd ps sp) (hr : Room k X.A) (hb : KBinds X.K fd ps ks g gV) (hx : ∀ σ, PassesAt CX X σ (E σ)) (hkw : PK X kws tk)
    (hall : (backToKw pos (keywordEach kws X.env)).all (·.1.isSome) = true := by rfl) (hks : (backToKw pos (keywordEach kws X.env)).filterMap (·.1) = ks := by rfl)
    (hpl : ((backTo pos (starEach [] X.env)).any (·.1) || (backToKw pos (keywordEach kws X.env)).any (·.1.isNone)) = false := by rfl)
    (ht : eval (.Call (.Attribute o m apos) [] kws pos) X.env = (do
      let ov ← eval o X.env
      standAt apos.atName
      let (f, first) ← holding [ov] (getMethod ov m pl)
      callWith pos f first (backTo pos (starEach [] X.env)) (backToKw pos (keywordEach kws X.env))) := by rfl) :
    PE X (.Call (.Attribute o m apos) [] kws pos) (tMethKS C m sp gV E ta tk) := by
  constructor
  intro pins s σ H Q I h
  refine PySem.W.methodCall_KW (pl := pl) (thn (he.run pins s σ H _ I h) ?_) ht
  rintro u s1 ⟨x, H1, I1, rx, a, dx, fs, rfl, ea, l, q⟩
  obtain rfl : u = Value.ref a := rx
  refine getmeth_ok I1 ea c hm l ?_
  refine PySem.W.callWith_KW0 (first := [.ref a]) (h₀ := X.base) I.ok.mod.kin hm.kp hall (thn (hkw.run pos pins s1 σ H1 _ I1 q) ?_) hpl
  rintro ws s2 ⟨zs, H2, I2, rz, q2⟩
  refine ⟨I2.kIn, ?_⟩
  rw [hks]
  exact run_kwS (us := [.ref a]) (vs := [.ref a]) F hr hb (hx σ) I2 (.cons rfl .nil) rz q2
end
/-- the object of a kept exception and its dict -/
theorem kept_at {X : Cx} {pins : List (Addr × Obj)} {σ : L2.St} {H : Hp} {s : Shared} {a d C : Addr} {fs : List (Str × V)} (I : Inv X pins σ H s) (ha : H a = some (KeptO C d a)) (hd : H d = some (.xd fs)) :
    ∃ (oe od : Obj) (mA : Str → Option Value), PySem.W.InstAt s.heap a oe C (some od) ∧ (∀ f : Str, RelO (fs.lookup f) (mA f)) ∧ ∀ f : Str, PySem.W.lookIn f od = some (mA f) := by
  obtain ⟨oe, vs, go, hz, hv⟩ := (show ObjOk X.prog X.w H s.heap a (KeptO C d a) from I.hok a _ ha).1
  obtain ⟨mA, hns, hr⟩ := (show ObjOk X.prog X.w H s.heap d (.xd fs) from I.hok d _ hd)
  obtain ⟨od, ho, hl⟩ := lookIn_ns hns
  refine ⟨oe, od, mA, ⟨go, hz.1, ?_, ?_⟩, hr, hl⟩
  · unfold PySem.W.notCls
    rw [hv] <;> rfl
  · rw [hz.2]
    exact ho
/-- isinstance(e, T), e a kept exception -/
def rIsKept (K : PySem.W.Frag) : List V → Hp → VK → Prop := fun xs H Q => ∃ (a d C : Addr) (fs : List (Str × V)) (n : String) (b : Bool), xs = [.ref a, .ty n] ∧ H a = some (KeptO C d a) ∧ H d = some (.xd fs) ∧ ExcC K C ∧ PySem.W.kitOne K (.ref C) (.type n) = some b ∧ Q (.bl b) H
theorem call_isKept {X : Cx} : CallR X (.builtin "isinstance") (rIsKept X.K) := by
  intro pins s σ H xs us Q I r h
  obtain ⟨a, d, C, fs, n, b, rfl, ha, hd, c, e, q⟩ := h
  obtain ⟨u1, u2, rfl, r1, r2⟩ := vals2 r
  obtain rfl : u1 = Value.ref a := r1
  obtain rfl : u2 = Value.type n := r2
  obtain ⟨oe, od, mA, J, _⟩ := kept_at I ha hd
  obtain ⟨cd, hc, _⟩ := PySem.W.any_some c.hd
  exact PySem.W.kia_one (PySem.W.kitx_exc (by rw [hc]; rfl) c.hg c.hk c.hs c.ha c.hn c.ht c.hm) I.kIn J e (fun z => nomatch z) fun tk => ⟨.bl b, H, I.tok tk, rfl, q⟩
/-- e.f, e a kept exception -/
def tKeptF (K : PySem.W.Frag) (f : Str) (ta : TE) : TE := fun σ H Q => ta σ H fun x H1 => ∃ (a d C : Addr) (fs : List (Str × V)) (v : V), x = .ref a ∧ H1 a = some (KeptO C d a) ∧ H1 d = some (.xd fs) ∧ ExcC K C ∧ PySem.W.findIn K (.ref C) f = some none ∧ fs.lookup f = some v ∧ Q v H1
theorem pe_keptF {X : Cx} {e : Expr} {f : Str} {pos : Pos} {ta : TE} (he : PE X e ta) (hb : attributeBase e f X.env (eval e X.env) = eval e X.env := by rfl) : PE X (.Attribute e f pos) (tKeptF X.K f ta) := by
  constructor
  intro pins s σ H Q I h
  refine attr_of hb (thn (he.run pins s σ H _ I h) ?_)
  rintro u s1 ⟨x, H1, I1, rx, a, d, C, fs, v, rfl, ha, hd, c, hno, l, q⟩
  obtain rfl : u = Value.ref a := rx
  obtain ⟨oe, od, mA, J, hr, hl⟩ := kept_at I1 ha hd
  obtain ⟨y, hy, ry⟩ := RelO.some_of (v := v) (o := mA f) (by rw [← l]; exact hr f)
  exact HandSPX.exc_get I1.kIn J c.hg c.hk c.hs (PySem.W.findObj_own c.hd hno rfl (by rw [hl, hy])) (handed_of ry) ⟨v, H1, I1.tok _, ry, q⟩
end TC

/-! The text by places; a def with its promise in one bundle; what the top has written -/
namespace TC
open PySem PySem.Spec PyProof.Rows L2
def topS (i : Nat) : Stmt := PySem.Challenge.pw_touchcaps_k89_whole_rows_used_forgotten.main.body.getD i (.Pass ⟨0, 0, 0, 0⟩)
abbrev cSt (i j : Nat) : Stmt := inClass (topS i) j

/-- the def of statement st stands at f -/
def DefAt (K : PySem.W.Frag) (x q : Str) (st : Stmt) (f : Addr) : Prop := ∃ fd, FunD K x q (defArgs st) (defBody st) (defScope st) [] [] f fd
/-- the def at f keeps its promise and can be called -/
structure DOk (P : Program) (w : World) (K : PySem.W.Frag) (mg : Str → Option Value) (base : Heap) (CX : CXT) (k : Nat) (f : Addr) (ps : List Str) (sp : Sp) : Prop where
  ex : ∃ fd, FnOk P w K mg base CX k f fd ps sp ∧ Binds K fd ps []
  kp : PySem.W.keepIn K (.ref f) = true
section
variable {P : Program} {w : World} {K : PySem.W.Frag} {mg : Str → Option Value} {base : Heap} {x q : Str} {st : Stmt} {f : Addr} {N ps : List Str} {k : Nat} {sp : Sp}
theorem DefAt.okX {CX : CXT} (F : DefAt K x q st f) (S : FnScope N ps (defScope st))
    (hb : ∀ (kV doc pm : Value) (an : Option Addr) (cdv ct : Value) (us : List Value), us.length = ps.length → bindArgs (PySem.W.fnOf x q (defArgs st) (defBody st) (defScope st) .none kV doc pm an cdv ct) ⟨us, []⟩ = pure (ps.zip us))
    (len : ∀ vs H Q E, sp vs H Q E → vs.length = ps.length)
    (body : ∀ (cdv : Value) (A : Around) (outer : List Env) (s : Shared) (H : Hp) (vs : List V) (Q : VK) (E : XK), Room k (A.deeper (envOfC q (defScope st) s.heap.objs.size f cdv)) → sp vs H Q E →
      ∃ t, PSs (cxOf CX P w K mg base N q (defScope st) f cdv A outer s H E) (defBody st) t ∧ t { nx := fun _ H' => Q .non H', rt := Q } (start N vs) H) : DOk P w K mg base CX (k + 1) f ps sp := by
  obtain ⟨fd, F⟩ := F
  exact ⟨⟨fd, F.ok S len body, F.bindsN hb⟩, F.kp⟩
theorem DefAt.ok (F : DefAt K x q st f) (S : FnScope N ps (defScope st))
    (hb : ∀ (kV doc pm : Value) (an : Option Addr) (cdv ct : Value) (us : List Value), us.length = ps.length → bindArgs (PySem.W.fnOf x q (defArgs st) (defBody st) (defScope st) .none kV doc pm an cdv ct) ⟨us, []⟩ = pure (ps.zip us))
    (len : ∀ vs H Q E, sp vs H Q E → vs.length = ps.length)
    (body : ∀ (cdv : Value) (A : Around) (outer : List Env) (s : Shared) (H : Hp) (vs : List V) (Q : VK) (E : XK), Room k (A.deeper (envOfC q (defScope st) s.heap.objs.size f cdv)) → sp vs H Q E →
      ∃ t, PSs (cxOf CX0 P w K mg base N q (defScope st) f cdv A outer s H E).nox (defBody st) t ∧ t { nx := fun _ H' => Q .non H', rt := Q } (start N vs) H) : DOk P w K mg base CX0 (k + 1) f ps sp :=
  F.okX S hb len fun cdv A outer s H vs Q E hr h => by
    obtain ⟨t, a, b⟩ := body cdv A outer s H vs Q E hr h
    exact ⟨t, a.nox, b⟩
end
section
variable {X : Cx} {CX : CXT} {k : Nat} {f C : Addr} {ps : List Str} {sp : Sp} {E : XK} {x m : Str} {p pos apos : Pos} {o e : Expr} {es : List Expr} {t : TA} {ta : TE}
theorem pcl (D : DOk X.prog X.w X.K X.mg X.base CX k f ps sp) (hr : Room k X.A) (hg : Gl X x) (hm : X.mg x = some (.ref f)) (hx : Passes CX X E) (ha : PA X (e :: es) t)
    (hdb : (x == ("__debug__" : Str)) = false := by decide) (he : starEach (e :: es) X.env = (false, eval e X.env) :: starEach es X.env := by rfl) (hpl : (backTo pos (starEach es X.env)).any (·.1) = false := by rfl) :
    PE X (.Call (.Name x p) (e :: es) [] pos) (tCall sp [] E t) := by
  obtain ⟨⟨fd, F, b⟩, kp⟩ := D
  exact pe_call F hr hg hm kp b .nil hx ha hdb he hpl
theorem pcl0 (D : DOk X.prog X.w X.K X.mg X.base CX k f ps sp) (hr : Room k X.A) (hg : Gl X x) (hm : X.mg x = some (.ref f)) (hx : Passes CX X E) (hdb : (x == ("__debug__" : Str)) = false := by decide) :
    PE X (.Call (.Name x p) [] [] pos) (tCall sp [] E tNil) := by
  obtain ⟨⟨fd, F, b⟩, kp⟩ := D
  exact pe_call0 F hr hg hm kp b .nil hx hdb
theorem pmt {pl : Sem Bool} (he : PE X o ta) (c : Cls X.K C) (hm : Meth X.K C m f) (D : DOk X.prog X.w X.K X.mg X.base CX k f ps sp) (hr : Room k X.A) (hx : Passes CX X E) (ha : PA X (e :: es) t)
    (hst : starEach (e :: es) X.env = (false, eval e X.env) :: starEach es X.env := by rfl) (hpl : (backTo pos (starEach es X.env)).any (·.1) = false := by rfl)
    (ht : eval (.Call (.Attribute o m apos) (e :: es) [] pos) X.env = (do
      let ov ← eval o X.env
      standAt apos.atName
      let (f, first) ← holding [ov] (getMethod ov m pl)
      callWith pos f first (backTo pos (starEach (e :: es) X.env)) (backToKw pos (keywordEach [] X.env))) := by rfl) :
    PE X (.Call (.Attribute o m apos) (e :: es) [] pos) (tMeth C m sp [] E ta t) := by
  obtain ⟨⟨fd, F, b⟩, kp⟩ := D
  exact pe_meth he c hm F hr b .nil hx ha hst hpl ht
theorem pmt0 {pl : Sem Bool} (he : PE X o ta) (c : Cls X.K C) (hm : Meth X.K C m f) (D : DOk X.prog X.w X.K X.mg X.base CX k f ps sp) (hr : Room k X.A) (hx : Passes CX X E)
    (ht : eval (.Call (.Attribute o m apos) [] [] pos) X.env = (do
      let ov ← eval o X.env
      standAt apos.atName
      let (f, first) ← holding [ov] (getMethod ov m pl)
      callWith pos f first (backTo pos (starEach [] X.env)) (backToKw pos (keywordEach [] X.env))) := by rfl) :
    PE X (.Call (.Attribute o m apos) [] [] pos) (tMeth C m sp [] E ta tNil) := by
  obtain ⟨⟨fd, F, b⟩, kp⟩ := D
  exact pe_meth0 he c hm F hr b .nil hx ht
end
section
variable {X : Cx} {CX : CXT} {k : Nat} {f g C q p0 : Addr} {ps : List Str} {sp : Sp} {E : XK} {x m : Str} {p pos apos : Pos} {o e fe : Expr} {es : List Expr} {t : TA} {ta tf : TE} {mc : Value}
theorem DOk.raw {P : Program} {w : World} {K : PySem.W.Frag} {mg : Str → Option Value} {base : Heap} (D : DOk P w K mg base CX k f ps sp) : FnR P w K mg base CX k f sp := by
  obtain ⟨⟨fd, F, b⟩, kp⟩ := D
  refine (F.raw b .nil).imp fun vs H Q E h => ?_
  rw [List.append_nil]
  exact h
theorem pclF (D : DOk X.prog X.w X.K X.mg X.base CX k g ps sp) (hf : PE X fe tf) (hr : Room k X.A) (hx : Passes CX X E) (ha : PA X (e :: es) t)
    (ht : eval (.Call fe (e :: es) [] pos) X.env = (do callWith pos (← eval fe X.env) [] (backTo pos (starEach (e :: es) X.env)) (backToKw pos (keywordEach [] X.env))) := by rfl)
    (he : starEach (e :: es) X.env = (false, eval e X.env) :: starEach es X.env := by rfl) (hpl : (backTo pos (starEach es X.env)).any (·.1) = false := by rfl) :
    PE X (.Call fe (e :: es) [] pos) (tCallF g sp [] E tf t) := by
  obtain ⟨⟨fd, F, b⟩, kp⟩ := D
  exact pe_callF hf F hr kp b .nil hx ha ht he hpl
theorem pmk (M : Mk X.K C f) (D : DOk X.prog X.w X.K X.mg X.base CX k f ps sp) (hr : Room (k + 1) X.A) (hg : Gl X x) (hm : X.mg x = some (.ref C)) (hx : Passes CX X E) (ha : PA X (e :: es) t)
    (hdb : (x == ("__debug__" : Str)) = false := by decide) (he : starEach (e :: es) X.env = (false, eval e X.env) :: starEach es X.env := by rfl) (hpl : (backTo pos (starEach es X.env)).any (·.1) = false := by rfl) :
    PE X (.Call (.Name x p) (e :: es) [] pos) (tMake C sp [] E t) := by
  obtain ⟨⟨fd, F, b⟩, kp⟩ := D
  exact pe_make M F hr hg hm b .nil hx ha hdb he hpl
theorem pprop (he : PE X e ta) (c : Cls X.K C) (hp : PropOf X.K C m p0 g) (D : DOk X.prog X.w X.K X.mg X.base CX k g ps sp) (hr : Room (k + 1) X.A) (hx : Passes CX X.nox E)
    (hab : attributeBase e m X.env (eval e X.env) = eval e X.env := by rfl) : PE X (.Attribute e m pos) (tProp C sp [] E ta) := by
  obtain ⟨⟨fd, F, b⟩, kp⟩ := D
  exact pe_prop he c hp F hr b .nil hx hab
theorem psmeth {pl : Sem Bool} (ho : PE X o ta) (r : ClX.CRead X.K C mc) (c : SMet X.K C mc m q g) (D : DOk X.prog X.w X.K X.mg X.base CX k g ps sp) (hr : Room k X.A) (hx : Passes CX X E) (ha : PA X (e :: es) t)
    (he : starEach (e :: es) X.env = (false, eval e X.env) :: starEach es X.env := by rfl) (hpl : (backTo pos (starEach es X.env)).any (·.1) = false := by rfl)
    (ht : eval (.Call (.Attribute o m apos) (e :: es) [] pos) X.env = (do
      let ov ← eval o X.env
      standAt apos.atName
      let (f, first) ← holding [ov] (getMethod ov m pl)
      callWith pos f first (backTo pos (starEach (e :: es) X.env)) (backToKw pos (keywordEach [] X.env))) := by rfl) :
    PE X (.Call (.Attribute o m apos) (e :: es) [] pos) (tSMeth C sp [] E ta t) := by
  obtain ⟨⟨fd, F, b⟩, kp⟩ := D
  exact pe_smeth ho r c F hr kp b .nil hx ha he hpl ht
end
/-! ### what the top holds -/
def frees : List Str := ["len", "isinstance", "int", "bool", "str", "list", "tuple", "abs", "sorted", "set", "all", "zip", "enumerate", "range", "LookupError", "super"]
def globs0 : List Str := ["is_number", "set_of", "number_in", "NoName", "is_name", "outside", "forgotten", "touched", "capped", "CLOSED", "constant_of", "reduced", "form_with", "form_by", "is_step", "Step", "Rule", "Board"]
def globs1 : List Str := ["_law_box", "_law_take", "_law_cells", "_law_of", "_law_same", "_law_line", "_law_host", "_law_does", "_law_name", "_law_deed", "_law_given", "_law_kept", "_law_heard", "_law_by_hand_right", "_law_pairs_so", "_law_right", "law"]
def globs : List Str := globs0 ++ globs1
def consts : List (Str × Str) := [("LETTERS", "abcdefghijklmnopqrstuvwxyz"), ("DIGITS", "0123456789"), ("TOUCH", "touch"), ("FORGET", "forget"), ("CAP", "cap"), ("NOTHING", "-"), ("BETWEEN", "; ")]
def fldS : List Str := ["own_kind", "own_what"]
def fldR : List Str := ["own_steps", "own_form"]
def fldB : List Str := ["own_row", "own_limit", "own_views", "own_frames", "own_past"]
def prpS : List Str := ["kind", "what"]
def prpB : List Str := ["row", "limit"]
def metB : List Str := ["state", "set_to", "keep", "take", "use", "forget", "do", "cut", "row_deed", "done", "attempt", "undo"]
/-- the def within a property, a staticmethod -/
def inR (K : PySem.W.Frag) (p : Addr) (ty : String) : Addr := match PySem.W.recIn K p ty with
  | some (.ref g :: _) => g
  | _ => 0
/-- the constant that stands behind the top -/
def ClosedAt (K : PySem.W.Frag) : Prop := ∃ (t n : Addr) , (∀ H, SqT K H (He.ga K "CLOSED") [.ref t]) ∧ (∀ H, SqT K H t [.ref n, .int 0]) ∧ ∀ H, SqT K H n []
open He in
structure Txt (K : PySem.W.Frag) (mg : Str → Option Value) : Prop where
  free : ∀ x ∈ frees, mg x = none
  glo : ∀ x ∈ globs, mg x = some (.ref (ga K x))
  con : ∀ p ∈ consts, ∃ t, mg p.1 = some (.str p.2 t)
  pair : ∃ t, mg "PAIR" = some (.int 2 t)
  cS : Cls K (ga K "Step")
  cR : Cls K (ga K "Rule")
  cB : Cls K (ga K "Board")
  nS : ∀ f ∈ fldS, NoAttr K (ga K "Step") f
  nR : ∀ f ∈ fldR, NoAttr K (ga K "Rule") f
  nB : ∀ f ∈ fldB, NoAttr K (ga K "Board") f
  kS : Mk K (ga K "Step") (ma K (ga K "Step") "__init__")
  kR : Mk K (ga K "Rule") (ma K (ga K "Rule") "__init__")
  kB : Mk K (ga K "Board") (ma K (ga K "Board") "__init__")
  pS : ∀ f ∈ prpS, PropOf K (ga K "Step") f (ma K (ga K "Step") f) (inR K (ma K (ga K "Step") f) "property")
  pB : ∀ f ∈ prpB, PropOf K (ga K "Board") f (ma K (ga K "Board") f) (inR K (ma K (ga K "Board") f) "property")
  oS : StX.CallO K (ga K "Step") (ma K (ga K "Step") "__call__")
  oR : StX.CallO K (ga K "Rule") (ma K (ga K "Rule") "__call__")
  mB : ∀ m ∈ metB, Meth K (ga K "Board") m (ma K (ga K "Board") m)
  sS : SMet K (ga K "Step") (.type "type") "of" (ma K (ga K "Step") "of") (inR K (ma K (ga K "Step") "of") "staticmethod")
  sR : SMet K (ga K "Rule") (.type "type") "of" (ma K (ga K "Rule") "of") (inR K (ma K (ga K "Rule") "of") "staticmethod")
  rS : ClX.CRead K (ga K "Step") (.type "type")
  rR : ClX.CRead K (ga K "Rule") (.type "type")
  closed : ClosedAt K
section
variable {K : PySem.W.Frag} {mg : Str → Option Value}
theorem Txt.f (T : Txt K mg) (x : Str) (h : x ∈ frees := by decide +kernel) : mg x = none := T.free x h
theorem Txt.s (T : Txt K mg) (x z : Str) (h : (x, z) ∈ consts := by decide +kernel) : ∃ t, mg x = some (.str z t) := T.con (x, z) h
theorem Txt.g (T : Txt K mg) (x : Str) (h : x ∈ globs := by decide +kernel) : mg x = some (.ref (He.ga K x)) := T.glo x h
end
theorem pgi {X : Cx} {x : Str} {i : Int} {pos : Pos} (hg : Gl X x) (h : ∃ t, X.mg x = some (.int i t)) (hd : (x == ("__debug__" : Str)) = false := by decide) : PE X (.Name x pos) (tC (.int i)) := by
  obtain ⟨t, e⟩ := h
  exact pe_glob hg e ⟨t, rfl⟩ hd
theorem pgs {X : Cx} {x z : Str} {pos : Pos} (hg : Gl X x) (h : ∃ t, X.mg x = some (.str z t)) (hd : (x == ("__debug__" : Str)) = false := by decide) : PE X (.Name x pos) (tC (.str z)) := by
  obtain ⟨t, e⟩ := h
  exact pe_glob hg e ⟨t, rfl⟩ hd
/-! ### heaps -/
def fixd : HO → Bool
  | .tup _ => true
  | .frz _ _ => true
  | .ins _ _ fs => (fs.lookup ("own_row" : Str)).isNone
  | _ => false
/-- all but what stands at S is as it was, and tuples are anyway -/
def Kp (S : List Addr) (H H' : Hp) : Prop := ∀ b o, H b = some o → (b ∉ S ∨ fixd o = true) → H' b = some o
theorem Kp.refl {S H} : Kp S H H := fun _ _ h _ => h
theorem Kp.trans {S : List Addr} {H H1 H2 : Hp} (a : Kp S H H1) (b : Kp S H1 H2) : Kp S H H2 := fun c o h q => b c o (a c o h q) q
theorem Kp.mono {S S' : List Addr} {H H1 : Hp} (a : Kp S H H1) (h : ∀ x ∈ S, x ∈ S') : Kp S' H H1 := fun c o e q => a c o e (q.imp (fun z y => z (h _ y)) id)
theorem Same.kp {S : List Addr} {H H1 : Hp} (a : Same H H1) : Kp S H H1 := fun c o e _ => a c o e
theorem Kp.same {H H1 : Hp} (a : Kp [] H H1) : Same H H1 := fun c o e => a c o e (.inl (by simp))
theorem Same.upd {H H1 : Hp} {a : Addr} {o : HO} (h : Same H H1) (n : H a = none) : Same H (upd H1 a o) := fun b u e => by
  rw [upd_ne (ne_of_none e n)]
  exact h b u e
theorem Same.new {H : Hp} {a : Addr} {o : HO} (n : H a = none) : Same H (L2.upd H a o) := Same.upd (Same.refl H) n
theorem Kp.new {S : List Addr} {H H1 : Hp} {a : Addr} {o : HO} (h : Kp S H H1) (n : H1 a = none) : Kp S H (L2.upd H1 a o) := fun b u e q => by
  have z := h b u e q
  rw [upd_ne (ne_of_none z n)]
  exact z
theorem Kp.put {S : List Addr} {H H1 : Hp} {a : Addr} {o o' : HO} (h : Kp S H H1) (ha : a ∈ S) (hn : H1 a = some o') (nf : fixd o' = false) : Kp S H (L2.upd H1 a o) := fun b u e q => by
  have z := h b u e q
  have nb : b ≠ a := fun y => by
    subst y
    rw [hn] at z
    cases z
    rcases q with q | q
    · exact q ha
    · rw [nf] at q
      cases q
  rw [upd_ne nb]
  exact z
theorem Kp.tup {S : List Addr} {H H1 : Hp} (h : Kp S H H1) {a : Addr} {xs : List V} (e : H a = some (.tup xs)) : H1 a = some (.tup xs) := h a _ e (.inr rfl)
theorem Kp.sqT {K : PySem.W.Frag} {S : List Addr} {H H1 : Hp} (h : Kp S H H1) {a : Addr} {xs : List V} (e : SqT K H a xs) : SqT K H1 a xs := by
  rcases e with (e | ⟨o, e⟩) | e
  · exact .inl (.inl (h _ _ e (.inr rfl)))
  · exact .inl (.inr ⟨o, h _ _ e (.inr rfl)⟩)
  · exact .inr e
theorem Same.sqT {K : PySem.W.Frag} {H H1 : Hp} (h : Same H H1) {a : Addr} {xs : List V} (e : SqT K H a xs) : SqT K H1 a xs := Kp.sqT (Same.kp (S := []) h) e
end TC

/-! is_number, is_name, outside, forgotten, touched, capped -/
namespace TC
open PySem PySem.Spec PyProof.Rows L2 He
def rowV (r : List Str) : List V := r.map V.str
/-- the items of a tuple that pass p, in a new list -/
theorem lc_filt {K : PySem.W.Frag} {a : Addr} {xs : List V} {g : TG} {tt : TT} {te : TE} {vs : List Nat} {σ : L2.St} {H1 : Hp} {D : Addr} {Qd : Hp → Prop} (p : V → Bool) (hT : SqT K H1 a xs) (hD : H1 D = none) (hlen : xs.length < sizeLine)
    (hs : ∀ (i : Nat) (x : V) (acc : List V), xs[i]? = some x → acc.length < sizeLine → ∀ N : Hp → Prop, (if p x = true then N (upd H1 D (.lst (acc ++ [x]))) else N (upd H1 D (.lst acc))) → g x (wipe σ vs) (upd H1 D (.lst acc)) fun σ2 H2 => wipe σ2 vs = wipe σ vs ∧ tt σ2 H2 fun b H3 =>
      if b = true then te σ2 H3 fun y H4 => ∃ acc, H4 D = some (.lst acc) ∧ acc.length < sizeLine ∧ N (upd H4 D (.lst (acc ++ [y]))) else N H3) (hd : Qd (upd H1 D (.lst (xs.filter p)))) :
    ∃ W : Nat → Nat → Hp → Prop, (∃ m, W 0 m (upd H1 D (.lst []))) ∧ ∀ i m H, W i m H →
      ((Itt K a).stop i H ∧ Qd H) ∨ ((Itt K a).go i H ∧ ∃ Nx : Hp → Prop, (∀ H', Nx H' → ∃ m', m' < m ∧ W (i + 1) m' H') ∧ ∀ x H', (Itt K a).yld i H x H' → g x (wipe σ vs) H' fun σ2 H2 => wipe σ2 vs = wipe σ vs ∧ tt σ2 H2 fun b H3 =>
        if b = true then te σ2 H3 fun y H4 => ∃ acc, H4 D = some (.lst acc) ∧ acc.length < sizeLine ∧ Nx (upd H4 D (.lst (acc ++ [y]))) else Nx H3) := by
  refine lc_tup (xs := xs) (fun i H' => H' = upd H1 D (.lst ((xs.take i).filter p))) ?_ ?_ ?_ ?_
  · rfl
  · rintro i H' _ rfl
    exact Same.sqT (Same.new hD) hT
  · rintro i x H' hx rfl
    have hl : ((xs.take i).filter p).length < sizeLine := by
      have h1 := List.length_filter_le p (xs.take i)
      have h2 : (xs.take i).length ≤ xs.length := by
        rw [List.length_take]
        omega
      omega
    refine hs i x _ hx hl _ ?_
    have e : (xs.take (i + 1)).filter p = (xs.take i).filter p ++ (if p x = true then [x] else []) := by
      rw [List.take_add_one, hx, List.filter_append]
      show _ ++ List.filter p [x] = _
      rw [List.filter_cons]
      rfl
    rw [e]
    cases p x with
    | true => exact iteT rfl
    | false => exact iteF (by rw [if_neg (by simp), List.append_nil])
  · rintro H' rfl
    rw [List.take_length]
    exact hd
def outsideL (r ns : List Str) : List Str := r.filter fun n => !ns.contains n
theorem rowV_filter (p : Str → Bool) (q : V → Bool) (h : ∀ s, q (.str s) = p s) : ∀ r : List Str, (rowV r).filter q = rowV (r.filter p)
  | [] => rfl
  | s :: r => by
    show List.filter q (V.str s :: rowV r) = _
    rw [List.filter_cons, List.filter_cons, h, rowV_filter p q h r]
    cases p s <;> rfl
theorem inV_row (x : Str) : ∀ ns : List Str, inV (.str x) (rowV ns) = ns.contains x
  | [] => rfl
  | n :: ns => by
    show ((n == x) || inV (.str x) (rowV ns)) = _
    rw [inV_row x ns, List.contains_cons]
    congr 1
    exact Bool.beq_comm
theorem flat_row (ns : List Str) : (rowV ns).all flatV = true := by
  unfold rowV
  rw [List.all_map]
  exact List.all_eq_true.mpr fun _ _ => rfl
def spOutside (K : PySem.W.Frag) : Sp := fun vs H Q _ => ∃ (a b : Addr) (r ns : List Str), vs = [.ref a, .ref b] ∧ SqT K H a (rowV r) ∧ SqT K H b (rowV ns) ∧ r.length ≤ 1000 ∧
  ∀ H' q, Same H H' → H' q = some (.tup (rowV (outsideL r ns))) → Q (.ref q) H'
def spForgotten (K : PySem.W.Frag) : Sp := fun vs H Q _ => ∃ (a : Addr) (r : List Str) (n : Str), vs = [.ref a, .str n] ∧ SqT K H a (rowV r) ∧ r.length ≤ 1000 ∧
  ∀ H' q, Same H H' → H' q = some (.tup (rowV (outsideL r [n]))) → Q (.ref q) H'
def spTouched (K : PySem.W.Frag) : Sp := fun vs H Q _ => ∃ (a : Addr) (r : List Str) (n : Str), vs = [.ref a, .str n] ∧ SqT K H a (rowV r) ∧ r.length ≤ 1000 ∧
  ∀ H' q, Same H H' → H' q = some (.tup (rowV (n :: outsideL r [n]))) → Q (.ref q) H'
/-- t[:k], k not negative -/
theorem cut_row (r : List Str) (k : Int) (hk : 0 ≤ k) : cutV (rowV r) none (some k) = rowV (r.take k.toNat) := by
  obtain ⟨n, rfl⟩ := Int.eq_ofNat_of_zero_le hk
  unfold cutV rowV
  rw [HT.sIx_none, HT.sIx_nat, List.drop_zero, Nat.sub_zero, List.length_map, ← List.map_take]
  congr 1
  by_cases h : n ≤ r.length
  · rw [Nat.min_eq_left h]
    rfl
  · rw [Nat.min_eq_right (by omega), List.take_of_length_le (Nat.le_refl _)]
    exact (List.take_of_length_le (by show r.length ≤ n; omega)).symm
theorem sIx_row (r : List Str) (k : Int) (hk : 0 ≤ k) (h : HT.sIx (rowV r).length 0 none = 0 ∧ HT.sIx (rowV r).length (rowV r).length (some k) = (rowV r).length) : r.take k.toNat = r := by
  obtain ⟨n, rfl⟩ := Int.eq_ofNat_of_zero_le hk
  have h2 := h.2
  unfold rowV at h2
  rw [HT.sIx_nat, List.length_map] at h2
  exact List.take_of_length_le (by show r.length ≤ n; omega)
def spCapped (K : PySem.W.Frag) : Sp := fun vs H Q _ => ∃ (a : Addr) (r : List Str) (k : Int), vs = [.ref a, .int k] ∧ SqT K H a (rowV r) ∧ 0 ≤ k ∧
  ∀ H' q, Same H H' → SqT K H' q (rowV (r.take k.toNat)) → Q (.ref q) H'
def spIsNumber : Sp := fun vs H Q _ => ∃ n : Int, vs = [.int n] ∧ Q (.bl true) H
def spIsName : Sp := fun vs H Q _ => ∃ z : Str, vs = [.str z] ∧ 0 < z.cps.size ∧ z.cps.size ≤ 1000 ∧ (∀ c ∈ z.cps.toList, c ∈ ("abcdefghijklmnopqrstuvwxyz" : Str).cps.toList) ∧ ∀ H', Same H H' → Q (.bl true) H'
section
variable {P : Program} {w : World} {K : PySem.W.Frag} {mg : Str → Option Value} {base : Heap} {f g : Addr}
theorem sc3 : FnScope ["thing"] ["thing"] (defScope (topS 4)) := ⟨rfl, rfl, rfl, by decide +kernel, rfl, by decide +kernel, by decide +kernel⟩
theorem ok_is_number (T : Txt K mg) (F : DefAt K "is_number" "is_number" (topS 4) f) : DOk P w K mg base CX0 1 f ["thing"] spIsNumber := by
  refine F.ok sc3 (fun _ _ _ _ _ _ us hl => match us, hl with | [_], _ => rfl) (fun vs H Q E h => ?_) (fun cdv A outer s H vs Q E hr h => ?_)
  · obtain ⟨n, rfl, _⟩ := h
    rfl
  · obtain ⟨n, rfl, k⟩ := h
    refine ⟨_, pss_one (ps_ret (pe_and (pe_callB call_isi (by rfl) (T.f "isinstance") (by decide +kernel) (pa_cons (pv 0) (pa_cons (pe_bltn (v := .ty "int") (by rfl) (T.f "int") (by decide +kernel) rfl) pa_nil)))
      (pe_one (pe_not (pe_callB call_isi (by rfl) (T.f "isinstance") (by decide +kernel) (pa_cons (pv 0) (pa_cons (pe_bltn (v := .ty "bool") (by rfl) (T.f "bool") (by decide +kernel) rfl) pa_nil))))))), ?_⟩
    refine ⟨_, rfl, _, _, _, _, true, rfl, .ty _, .base (.int n), kit_ty (by decide +kernel), true, rfl, iteT ?_⟩
    exact ⟨_, rfl, _, _, _, _, false, rfl, .ty _, .base (.int n), kit_ty (by decide +kernel), false, rfl, k⟩
theorem scIN : FnScope ["thing", "sign"] ["thing"] (defScope (topS 18)) := ⟨rfl, rfl, rfl, by decide +kernel, rfl, by decide +kernel, by decide +kernel⟩
theorem ok_is_name (T : Txt K mg) (F : DefAt K "is_name" "is_name" (topS 18) f) : DOk P w K mg base CX0 1 f ["thing"] spIsName := by
  refine F.ok scIN (fun _ _ _ _ _ _ us hl => match us, hl with | [_], _ => rfl) (fun vs H Q E h => ?_) (fun cdv A outer s H vs Q E hr h => ?_)
  · obtain ⟨n, rfl, _⟩ := h
    rfl
  · obtain ⟨z, rfl, h0, hz, hc, k⟩ := h
    refine ⟨_, pss_one (ps_ret (pe_and (pe_callB call_isi (by rfl) (T.f "isinstance") (by decide +kernel) (pa_cons (pv 0) (pa_cons (pe_bltn (v := .ty "str") (by rfl) (T.f "str") (by decide +kernel) rfl) pa_nil)))
      (pe_and (pe_cmpR op_ne (pv 0) pe_str (nomark _))
      (pe_one (pe_callB (cr_all rfl) (by rfl) (T.f "all") (by decide +kernel) (pa_cons (pe_lc (own := [("sign", 1)]) (g := gName 1) (by rfl) scIN.nd (pi_str (pv 0)) (blkOk_by (own := [("sign", 1)]) (N := ["thing", "sign"]) (sc := defScope (topS 18)) (by decide +kernel))
        (fun _ _ _ _ _ => pg_name (i := 1) scIN.nd rfl (Or.inl rfl)) (fun _ _ _ _ _ => pts_nil) (fun _ _ _ _ _ => pe_cmpR op_in_sign (pv 1) (pgs rfl (T.s "LETTERS" "abcdefghijklmnopqrstuvwxyz")) (by rfl))) pa_nil)))))), ?_⟩
    refine ⟨_, rfl, _, _, _, _, true, rfl, .ty _, .base (.str z), kit_ty (by decide +kernel), true, rfl, iteT ?_⟩
    refine ⟨_, rfl, rfl, true, ?_, iteT ?_⟩
    · exact congrArg V.bl (by
        show (!decide (V.str z = V.str "")) = true
        have : ¬ (V.str z = V.str "") := fun q => by
          cases q
          exact absurd h0 (by decide)
        rw [decide_eq_false this]
        rfl)
    · refine ⟨_, rfl, z, rfl, fun D hD => ?_⟩
      refine lc_it walk_str (fun i H' => H' = upd H D (.lst ((List.replicate i true).map V.bl))) rfl (fun _ _ _ _ => trivial) ?_ ?_
      · rintro i x H1 H2 hi rfl ⟨rfl, c, hcs, rfl⟩
        refine ⟨rfl, ?_⟩
        refine ⟨_, rfl, c, _, rfl, rfl, ?_⟩
        refine ⟨_, upd_same, ?_, ?_⟩
        · rw [List.length_map, List.length_replicate]
          exact small1000 (by omega)
        · rw [upd_upd]
          have e : decide (c ∈ ("abcdefghijklmnopqrstuvwxyz" : Str).cps.toList) = true := decide_eq_true (hc c (by
            have := (Array.getElem?_eq_some_iff.mp hcs).2
            rw [← this]
            simp))
          rw [e, show ((List.replicate i true).map V.bl ++ [V.bl true]) = (List.replicate (i + 1) true).map V.bl by rw [List.replicate_succ', List.map_append]; rfl]
      · rintro H' rfl
        refine ⟨D, List.replicate z.cps.size true, rfl, SqL.of upd_same, ?_⟩
        rw [show (List.replicate z.cps.size true).all id = true by simp]
        exact k _ (Same.new hD)
theorem scOut : FnScope ["row", "names", "name"] ["row", "names"] (defScope (topS 19)) := ⟨rfl, rfl, rfl, by decide +kernel, rfl, by decide +kernel, by decide +kernel⟩
theorem ok_outside (T : Txt K mg) (F : DefAt K "outside" "outside" (topS 19) f) : DOk P w K mg base CX0 1 f ["row", "names"] (spOutside K) := by
  refine F.ok scOut (fun _ _ _ _ _ _ us hl => match us, hl with | [_, _], _ => rfl) (fun vs H Q E h => ?_) (fun cdv A outer s H vs Q E hr h => ?_)
  · obtain ⟨a, b, r, ns, rfl, _⟩ := h
    rfl
  · obtain ⟨a, b, r, ns, rfl, ha, hb, hl, k⟩ := h
    refine ⟨_, pss_one (ps_ret (pe_callTy call_tuple_of (by rfl) (T.f "tuple") (by decide +kernel) (pa_cons (pe_lc (own := [("name", 2)]) (g := gName 2) (by rfl) scOut.nd (pi_tup (pv 0)) (blkOk_by (own := [("name", 2)]) (N := ["row", "names", "name"]) (sc := defScope (topS 19)) (by decide +kernel))
        (fun _ _ _ _ _ => pg_name (i := 2) scOut.nd rfl (Or.inl rfl)) (fun _ _ _ _ _ => pts_one (pt_cmpR (r := rIn K true) op_notIn_seq (pv 2) (pv 1) (by rfl))) (fun _ _ _ _ _ => pv 2)) pa_nil))), ?_⟩
    refine ⟨_, rfl, a, rfl, ⟨_, ha⟩, fun D hD => ?_⟩
    refine lc_filt (fun x => !inV x (rowV ns)) ha hD ?_ ?_ ?_
    · unfold rowV
      rw [List.length_map]
      exact small1000 hl
    · intro i x acc hx hz N hN
      have fx : flatV x = true := by
        have := List.all_eq_true.mp (flat_row r) x (List.mem_of_getElem? hx)
        exact this
      refine ⟨rfl, _, rfl, _, rfl, b, _, rfl, .inr (Same.sqT (Same.new hD) hb), fx, flat_row ns, _, rfl, ?_⟩
      cases e : inV x (rowV ns) with
      | true =>
        rw [e] at hN
        exact hN
      | false =>
        rw [e] at hN
        exact ⟨_, rfl, _, upd_same, hz, by rw [upd_upd]; exact hN⟩
    · refine ⟨D, _, rfl, .inl ⟨SqL.of upd_same, fun l hl => ?_⟩⟩
      refine k _ l (Same.upd (Same.new hD) (by
        cases q : H l with
        | none => rfl
        | some o =>
          have z := Same.new (o := .lst ((rowV r).filter fun x => !inV x (rowV ns))) hD _ _ q
          rw [hl] at z
          cases z)) ?_
      rw [upd_same, rowV_filter (fun n => !ns.contains n) _ (fun s => by rw [inV_row])]
      rfl
theorem scFor : FnScope ["row", "name"] ["row", "name"] (defScope (topS 20)) := ⟨rfl, rfl, rfl, by decide +kernel, rfl, by decide +kernel, by decide +kernel⟩
theorem ok_forgotten (T : Txt K mg) (F : DefAt K "forgotten" "forgotten" (topS 20) f) (G : DOk P w K mg base CX0 1 (ga K "outside") ["row", "names"] (spOutside K)) : DOk P w K mg base CX0 2 f ["row", "name"] (spForgotten K) := by
  refine F.ok scFor (fun _ _ _ _ _ _ us hl => match us, hl with | [_, _], _ => rfl) (fun vs H Q E h => ?_) (fun cdv A outer s H vs Q E hr h => ?_)
  · obtain ⟨a, r, n, rfl, _⟩ := h
    rfl
  · obtain ⟨a, r, n, rfl, ha, hl, k⟩ := h
    refine ⟨_, pss_one (ps_ret (pcl G hr rfl (T.g "outside") pass0 (pa_cons (pv 0) (pa_cons (pe_tup (pa_cons (pv 1) pa_nil)) pa_nil)))), ?_⟩
    refine ⟨_, rfl, _, rfl, (by show 1 ≤ sizeLine; decide), fun t ht => ?_⟩
    refine ⟨a, t, r, [n], rfl, Same.sqT (Same.new ht) ha, SqT.of upd_same, hl, fun H' q s1 e => k H' q (Same.trans (Same.new ht) s1) e⟩
theorem scTou : FnScope ["row", "name"] ["row", "name"] (defScope (topS 21)) := ⟨rfl, rfl, rfl, by decide +kernel, rfl, by decide +kernel, by decide +kernel⟩
theorem ok_touched (T : Txt K mg) (F : DefAt K "touched" "touched" (topS 21) f) (G : DOk P w K mg base CX0 2 (ga K "forgotten") ["row", "name"] (spForgotten K)) : DOk P w K mg base CX0 3 f ["row", "name"] (spTouched K) := by
  refine F.ok scTou (fun _ _ _ _ _ _ us hl => match us, hl with | [_, _], _ => rfl) (fun vs H Q E h => ?_) (fun cdv A outer s H vs Q E hr h => ?_)
  · obtain ⟨a, r, n, rfl, _⟩ := h
    rfl
  · obtain ⟨a, r, n, rfl, ha, hl, k⟩ := h
    refine ⟨_, pss_one (ps_ret (pe_tup (pa_cons (pv 1) (StX.pa_star (pcl G hr rfl (T.g "forgotten") pass0 (pa_cons (pv 0) (pa_cons (pv 1) pa_nil))) pa_nil)))), ?_⟩
    refine ⟨_, rfl, _, rfl, _, rfl, a, r, n, rfl, ha, hl, fun H' q s1 e => ?_⟩
    refine ⟨q, _, rfl, .inl (SqT.of e), ?_, fun t ht => ?_⟩
    · show (rowV (outsideL r [n]) ++ []).length + 1 ≤ sizeLine
      unfold rowV outsideL
      rw [List.append_nil, List.length_map]
      have := List.length_filter_le (fun m => !List.contains [n] m) r
      exact small1000 (by omega)
    · refine k _ t (Same.upd s1 (s1.free ht)) ?_
      rw [upd_same]
      simp [rowV]
theorem scCap : FnScope ["row", "number"] ["row", "number"] (defScope (topS 22)) := ⟨rfl, rfl, rfl, by decide +kernel, rfl, by decide +kernel, by decide +kernel⟩
theorem ok_capped (T : Txt K mg) (F : DefAt K "capped" "capped" (topS 22) f) : DOk P w K mg base CX0 1 f ["row", "number"] (spCapped K) := by
  refine F.ok scCap (fun _ _ _ _ _ _ us hl => match us, hl with | [_, _], _ => rfl) (fun vs H Q E h => ?_) (fun cdv A outer s H vs Q E hr h => ?_)
  · obtain ⟨a, r, n, rfl, _⟩ := h
    rfl
  · obtain ⟨a, r, n, rfl, ha, hn, k⟩ := h
    refine ⟨_, pss_one (ps_ret (pe_slice sl_tupA (pe_callTy call_tuple_of (by rfl) (T.f "tuple") (by decide +kernel) (pa_cons (pv 0) pa_nil)) po_none (po_some (pv 1)))), ?_⟩
    refine ⟨_, rfl, a, _, rfl, .inr ⟨ha, ?_⟩⟩
    refine ⟨_, rfl, _, rfl, a, _, rfl, ha, fun hw => ?_, fun _ p hp => ?_⟩
    · exact k H a (Same.refl H) (by rw [sIx_row r n hn hw]; exact ha)
    · exact k _ p (Same.new hp) (SqT.of (by rw [upd_same, cut_row r n hn]))
end
end TC

/-! set_of, constant_of, reduced, form_with -/
namespace TC
open PySem PySem.Spec PyProof.Rows L2 He
theorem free2 {H H1 : Hp} {l : Addr} (e : Same H H1) (h : H1 l = none) : H l = none := e.free h
theorem free1 {H : Hp} {a l : Addr} {o : HO} (h : upd H a o l = none) : H l = none := by
  by_cases q : l = a
  · subst q
    rw [upd_same] at h
    cases h
  · rw [upd_ne q] at h
    exact h
theorem ne1 {H : Hp} {a l : Addr} {o : HO} (h : upd H a o l = none) : a ≠ l := fun q => by
  subst q
  rw [upd_same] at h
  cases h
theorem cut2 {A B : Prop} (f : A → B) (a : A) : B := f a
theorem cut3 {B : Prop} {R : Hp → Prop} (C : Hp → List V → Prop) (f : (∀ H ys, C H ys → R H) → B) (a : ∀ H ys, C H ys → R H) : B := f a
/-- every sign of every text is a code point -/
def TOk (r : List Str) : Prop := ∀ x ∈ r, PyData.strOk x = true
/-- a bound: (names, number) -/
def BndAt (K : PySem.W.Frag) (H : Hp) (v : V) : Prop := ∃ (t n : Addr) (r : List Str) (k : Int), v = .ref t ∧ SqT K H t [.ref n, .int k] ∧ SqT K H n (rowV r) ∧ r.length ≤ 64 ∧ TOk r
theorem BndAt.kp {K : PySem.W.Frag} {S : List Addr} {H H1 : Hp} (h : Kp S H H1) {v : V} (b : BndAt K H v) : BndAt K H1 v := by
  obtain ⟨t, n, r, k, e, h1, h2, h3⟩ := b
  exact ⟨t, n, r, k, e, h.sqT h1, h.sqT h2, h3⟩
/-- a tuple of bounds -/
def BAt (K : PySem.W.Frag) (H : Hp) (a : Addr) (m : Nat) : Prop := ∃ ts, SqT K H a ts ∧ ts.length ≤ m ∧ ∀ v ∈ ts, BndAt K H v
theorem BAt.kp {K : PySem.W.Frag} {S : List Addr} {H H1 : Hp} (h : Kp S H H1) {a : Addr} {m : Nat} (b : BAt K H a m) : BAt K H1 a m := by
  obtain ⟨ts, h1, h2, h3⟩ := b
  exact ⟨ts, h.sqT h1, h2, fun v hv => (h3 v hv).kp h⟩
theorem BAt.mono {K : PySem.W.Frag} {H : Hp} {a : Addr} {m n : Nat} (b : BAt K H a m) (h : m ≤ n) : BAt K H a n := by
  obtain ⟨ts, h1, h2, h3⟩ := b
  exact ⟨ts, h1, Nat.le_trans h2 h, h3⟩
theorem last_at {xs : List V} (h : 0 < xs.length) : ∃ v, v ∈ xs ∧ atI xs (-1) = some v ∧ xs[xs.length - 1]? = some v := by
  rcases List.eq_nil_or_concat xs with e | ⟨ys, v, e⟩
  · rw [e] at h
    exact absurd h (by decide)
  · rw [List.concat_eq_append] at e
    subst e
    exact ⟨v, by simp, atI_last _ _, by simp⟩
def spSetOf (K : PySem.W.Frag) : Sp := fun vs H Q _ => ∃ (a : Addr) (r : List Str), vs = [.ref a] ∧ (SqL K H a (rowV r) ∨ SqT K H a (rowV r)) ∧ r.length < 64 ∧ TOk r ∧
  ∀ H' q r', Same H H' → H' q = some (.tup (rowV r')) → r'.length ≤ r.length → TOk r' → Q (.ref q) H'
def spAny1 (n : Nat) (K : PySem.W.Frag) : Sp := fun vs H Q _ => ∃ (a : Addr) (r : List Str), vs = [.ref a] ∧ SqT K H a (rowV r) ∧ r.length ≤ 1000 ∧ ∀ H' v, Same H H' → Q v H'
def spReduced (K : PySem.W.Frag) : Sp := fun vs H Q _ => ∃ (a : Addr), vs = [.ref a] ∧ BAt K H a 500 ∧ ∀ H' v, Same H H' → Q v H'
def spFormWith (K : PySem.W.Frag) : Sp := fun vs H Q _ => ∃ (a b c : Addr) (r g : List Str), vs = [.ref a, .ref b, .ref c] ∧ SqT K H a (rowV r) ∧ r.length ≤ 1000 ∧ SqT K H b (rowV g) ∧ g.length < 64 ∧ TOk g ∧ BAt K H c 500 ∧ ∀ H' v, Same H H' → Q v H'
section
variable {P : Program} {w : World} {K : PySem.W.Frag} {mg : Str → Option Value} {base : Heap} {f g : Addr}
theorem scSet : FnScope ["things"] ["things"] (defScope (topS 6)) := ⟨rfl, rfl, rfl, by decide +kernel, rfl, by decide +kernel, by decide +kernel⟩
theorem ok_set_of (T : Txt K mg) (F : DefAt K "set_of" "set_of" (topS 6) f) : DOk P w K mg base CX0 1 f ["things"] (spSetOf K) := by
  refine F.ok scSet (fun _ _ _ _ _ _ us hl => match us, hl with | [_], _ => rfl) (fun vs H Q E h => ?_) (fun cdv A outer s H vs Q E hr h => ?_)
  · obtain ⟨a, r, rfl, _⟩ := h
    rfl
  · obtain ⟨a, r, rfl, ha, hl, ok, k⟩ := h
    refine ⟨_, pss_one (ps_ret (pe_callTy call_tuple_of (by rfl) (T.f "tuple") (by decide +kernel) (pa_cons (pe_callB (cr_sortTxt rfl) (by rfl) (T.f "sorted") (by decide +kernel) (pa_cons (pe_callTy (cr_setTxt rfl) (by rfl) (T.f "set") (by decide +kernel) (pa_cons (pv 0) pa_nil)) pa_nil)) pa_nil))), ?_⟩
    refine ⟨_, rfl, a, r, rfl, ha, hl, ok, fun p hp => ?_⟩
    refine ⟨p, _, rfl, upd_same, hl, fun q ys hq hy oky => ?_⟩
    refine ⟨q, _, rfl, .inl ⟨SqL.of upd_same, fun t ht => ?_⟩⟩
    exact k _ t ys (Same.upd (Same.upd (Same.new hp) (free1 hq)) (free1 (free1 ht))) upd_same hy oky
theorem scCon : FnScope ["row"] ["row"] (defScope (topS 31)) := ⟨rfl, rfl, rfl, by decide +kernel, rfl, by decide +kernel, by decide +kernel⟩
theorem ok_constant_of (T : Txt K mg) (F : DefAt K "constant_of" "constant_of" (topS 31) f) : DOk P w K mg base CX0 1 f ["row"] (spAny1 1 K) := by
  refine F.ok scCon (fun _ _ _ _ _ _ us hl => match us, hl with | [_], _ => rfl) (fun vs H Q E h => ?_) (fun cdv A outer s H vs Q E hr h => ?_)
  · obtain ⟨a, r, rfl, _⟩ := h
    rfl
  · obtain ⟨a, r, rfl, ha, hl, k⟩ := h
    refine ⟨_, pss_one (ps_ret (pe_tup (pa_cons (pe_callTy call_tuple_of (by rfl) (T.f "tuple") (by decide +kernel) (pa_cons (pv 0) pa_nil)) (pa_cons (pe_tup pa_nil) (pa_cons (pe_glob (v := .ref (ga K "CLOSED")) rfl (T.g "CLOSED") rfl) pa_nil))))), ?_⟩
    refine ⟨_, rfl, a, _, rfl, .inr ⟨ha, ?_⟩⟩
    refine ⟨Nat.zero_le _, fun t ht => ?_⟩
    refine ⟨by show 3 ≤ sizeLine; decide, fun q hq => ?_⟩
    exact k _ _ (Same.upd (Same.new ht) (free1 hq))
theorem scRed : FnScope ["bounds", "found", "names", "number"] ["bounds"] (defScope (topS 32)) := ⟨rfl, rfl, rfl, by decide +kernel, rfl, by decide +kernel, by decide +kernel⟩
theorem ok_reduced (T : Txt K mg) (F : DefAt K "reduced" "reduced" (topS 32) f) (G : DOk P w K mg base CX0 1 (ga K "outside") ["row", "names"] (spOutside K)) : DOk P w K mg base CX0 2 f ["bounds"] (spReduced K) := by
  refine F.ok scRed (fun _ _ _ _ _ _ us hl => match us, hl with | [_], _ => rfl) (fun vs H Q E h => ?_) (fun cdv A outer s H vs Q E hr h => ?_)
  · obtain ⟨a, rfl, _⟩ := h
    rfl
  · obtain ⟨a, rfl, ⟨ts, ha, hl, hb⟩, k⟩ := h
    refine ⟨_, pss_cons (ps_set (i := 1) scRed.nd rfl (Or.inl rfl) (pe_lst pa_nil))
      (pss_cons (ps_for PassesOwn.never rfl (pi_tup (pv 0)) (pg_tup rfl (pgs_cons (pg_name (i := 2) scRed.nd rfl (Or.inl rfl)) (pgs_cons (pg_name (i := 3) scRed.nd rfl (Or.inl rfl)) pgs_nil)))
        (pss_cons (ps_if (PW.pt (pw_and (pt_cmpR op_gt (pe_callB call_len_seq (by rfl) (T.f "len") PySem.boot_len (pa_cons (pv 1) pa_nil)) pe_int (nomark _))
            (pw_and1 (pt_cmpR op_le (pe_ix ix_tup (pe_ix ix_list (pv 1) (pe_un un_neg pe_int) (fun _ _ => rfl)) pe_int (fun _ _ => rfl)) (pv 3) (nomark _))))) (pss_one ps_continue) pss_nil)
        (pss_cons (ps_while PassesOwn.never (PW.pt (pw_and (pt_cmpR op_gt (pe_callB call_len_seq (by rfl) (T.f "len") PySem.boot_len (pa_cons (pv 1) pa_nil)) pe_int (nomark _))
            (pw_and1 (pt_cmpR op_ge (pe_ix ix_tup (pe_ix ix_list (pv 1) (pe_un un_neg pe_int) (fun _ _ => rfl)) pe_int (fun _ _ => rfl))
              (pe_op op_add (pv 3) (pe_callB call_len_seq (by rfl) (T.f "len") PySem.boot_len (pa_cons (pcl G hr rfl (T.g "outside") pass0 (pa_cons (pv 2) (pa_cons (pe_ix ix_tup (pe_ix ix_list (pv 1) (pe_un un_neg pe_int) (fun _ _ => rfl)) pe_int (fun _ _ => rfl)) pa_nil))) pa_nil))) (nomark _)))))
            (pss_one (ps_expr (pe_bm0 PySem.F.plainAttrs_list PySem.F.slot_list_pop PySem.F.type_list_pop mt_pop (pv 1)))))
        (pss_one (ps_expr (pe_bm PySem.F.plainAttrs_list PySem.F.slot_list_append PySem.F.type_list_append mt_append (pv 1) (pa_cons (pe_tup (pa_cons (pv 2) (pa_cons (pv 3) pa_nil))) pa_nil)))))))
      (pss_one (ps_ret (pe_callTy call_tuple_of (by rfl) (T.f "tuple") (by decide +kernel) (pa_cons (pv 1) pa_nil))))), ?_⟩
    refine ⟨Nat.zero_le _, fun l hl0 => ?_⟩
    refine ⟨_, rfl, a, rfl, ⟨ts, Same.sqT (Same.new hl0) ha⟩, for_tup (K := K) (a := a) (xs := ts) (fun i σ H' => ∃ xs v2 v3, σ = [some (.ref a), some (.ref l), v2, v3] ∧ Same H H' ∧ H' l = some (.lst xs) ∧ xs.length ≤ i ∧ ∀ v ∈ xs, BndAt K H' v)
      ⟨[], none, none, rfl, Same.new hl0, upd_same, Nat.le_refl _, fun v hv => by cases hv⟩ (fun i σ H' _ ⟨_, _, _, _, s1, _⟩ => Same.sqT s1 ha) ?_ ?_⟩
    · rintro i y σ H1 hi ⟨xs, v2, v3, rfl, s1, e1, x1, b1⟩
      have hi500 : i < 500 := by
        have := (List.getElem?_eq_some_iff.mp hi).1
        omega
      obtain ⟨t, n, r, kk, rfl, t1, n1, r1, ok1⟩ := hb y (List.mem_of_getElem? hi)
      have t1' := Same.sqT s1 t1
      have n1' := Same.sqT s1 n1
      refine ⟨t, _, rfl, t1', rfl, _, _, rfl, _, _, rfl, rfl, ?_⟩
      apply cut2
      · intro REST
        refine ⟨_, rfl, l, _, rfl, .inl (SqL.of e1), _, _, rfl, rfl, _, rfl, ?_⟩
        refine ite2 (fun q => ?_) (fun _ => REST)
        have q' : 0 < xs.length := by
          have := of_decide_eq_true q
          omega
        obtain ⟨y, ym, ya, _⟩ := last_at q'
        obtain ⟨t2, n2, r2, k2, rfl, c1, c2, c3, _⟩ := b1 y ym
        refine ⟨_, rfl, _, rfl, l, _, _, _, rfl, rfl, SqL.of e1, ya, t2, _, _, _, rfl, rfl, c1, atI_nat (j := 1) rfl, _, rfl, _, _, rfl, rfl, _, rfl, ?_⟩
        refine ite2 (fun _ => ?_) (fun _ => REST)
        exact ⟨xs, _, _, rfl, s1, e1, by omega, b1⟩
      · refine ⟨fun m σ' H2 => ∃ ys, σ' = [some (.ref a), some (.ref l), some (.ref n), some (.int kk)] ∧ Same H H2 ∧ H2 l = some (.lst ys) ∧ ys.length ≤ i ∧ (∀ v ∈ ys, BndAt K H2 v) ∧ m = ys.length, ⟨xs.length, xs, rfl, s1, e1, x1, b1, rfl⟩, ?_⟩
        rintro m σ' H2 ⟨ys, rfl, s2, e2, y1, b2, rfl⟩
        apply cut3 (fun H3 ys => Same H H3 ∧ H3 l = some (.lst ys) ∧ ys.length ≤ i ∧ ∀ v ∈ ys, BndAt K H3 v)
        · intro END
          refine ⟨_, rfl, l, _, rfl, .inl (SqL.of e2), _, _, rfl, rfl, _, rfl, ?_⟩
          refine ite2 (fun q => ?_) (fun _ => iteF (A := True) (END H2 ys ⟨s2, e2, y1, b2⟩))
          have q' : 0 < ys.length := by
            have := of_decide_eq_true q
            omega
          obtain ⟨y, ym, ya, yl⟩ := last_at q'
          obtain ⟨t2, n2, r2, k2, rfl, c1, c2, c3, _⟩ := b2 y ym
          refine ⟨_, rfl, _, rfl, l, _, _, _, rfl, rfl, SqL.of e2, ya, t2, _, _, _, rfl, rfl, c1, atI_nat (j := 1) rfl, _, rfl, _, rfl, _, rfl, _, rfl, l, _, _, _, rfl, rfl, SqL.of e2, ya, t2, _, _, _, rfl, rfl, c1, atI_nat (j := 0) rfl, ?_⟩
          refine ⟨n, n2, r, r2, rfl, Same.sqT s2 n1, c2, by omega, fun H3 q3 s3 e3 => ?_⟩
          refine ⟨q3, _, rfl, .inr (SqT.of e3), _, _, rfl, rfl, _, _, rfl, rfl, _, rfl, ?_⟩
          have b3 : ∀ v ∈ ys, BndAt K H3 v := fun v hv => (b2 v hv).kp (Same.kp (S := []) s3)
          refine ite2 (fun _ => ?_) (fun _ => iteF (A := True) (END H3 ys ⟨Same.trans s2 s3, s3 _ _ e2, y1, b3⟩))
          refine ⟨_, fun σ' H' z => z, _, rfl, .inl ⟨rfl, _, SqL.of (s3 _ _ e2)⟩, l, ys, _, rfl, rfl, s3 _ _ e2, yl, ?_⟩
          refine ⟨ys.length - 1, by omega, ys.dropLast, rfl, ?_, upd_same, by rw [List.length_dropLast]; omega, fun v hv => (b3 v (List.dropLast_subset _ hv)).kp (Kp.put (S := [l]) Kp.refl List.mem_cons_self (s3 _ _ e2) rfl), by rw [List.length_dropLast]⟩
          exact fun b o e => (Kp.put (S := [l]) (Same.kp (Same.trans s2 s3)) List.mem_cons_self (s3 _ _ e2) rfl) b o e (.inl (by
            intro z
            cases List.mem_singleton.mp z
            rw [hl0] at e
            cases e))
        · rintro H3 ys ⟨s3, e3, y3, b3⟩
          refine ⟨_, rfl, .inl ⟨rfl, _, SqL.of e3⟩, _, rfl, _, rfl, by show 2 ≤ sizeLine; decide, fun t3 ht3 => ?_⟩
          have nl : l ≠ t3 := ne_of_none e3 ht3
          refine ⟨l, _, _, rfl, rfl, by rw [upd_ne nl]; exact e3, small1000 (by omega), ?_⟩
          have kp4 : Kp [l] H3 (upd (upd H3 t3 (.tup [.ref n, .int kk])) l (.lst (ys ++ [.ref t3]))) := Kp.put (Kp.new Kp.refl ht3) List.mem_cons_self (by rw [upd_ne nl]; exact e3) rfl
          refine ⟨ys ++ [.ref t3], _, _, rfl, ?_, upd_same, by rw [List.length_append, List.length_singleton]; omega, fun v hv => ?_⟩
          · exact fun b o e => kp4 b o (s3 b o e) (.inl (by
              intro z
              cases List.mem_singleton.mp z
              rw [hl0] at e
              cases e))
          · rcases List.mem_append.mp hv with hv | hv
            · exact (b3 v hv).kp kp4
            · rw [List.mem_singleton.mp hv]
              exact ⟨t3, n, r, kk, rfl, SqT.of (by rw [upd_ne nl.symm, upd_same]), kp4.sqT (Same.sqT s3 n1), r1, ok1⟩
    · rintro σ H1 ⟨xs, v2, v3, rfl, s1, e1, x1, b1⟩
      refine ⟨_, rfl, l, _, rfl, .inl ⟨SqL.of e1, fun q hq => ?_⟩⟩
      exact k _ _ (Same.upd s1 (s1.free hq))
theorem scFW : FnScope ["front", "gone", "bounds"] ["front", "gone", "bounds"] (defScope (topS 33)) := ⟨rfl, rfl, rfl, by decide +kernel, rfl, by decide +kernel, by decide +kernel⟩
theorem ok_form_with (T : Txt K mg) (F : DefAt K "form_with" "form_with" (topS 33) f) (G : DOk P w K mg base CX0 1 (ga K "outside") ["row", "names"] (spOutside K)) (GS : DOk P w K mg base CX0 1 (ga K "set_of") ["things"] (spSetOf K))
    (GR : DOk P w K mg base CX0 2 (ga K "reduced") ["bounds"] (spReduced K)) : DOk P w K mg base CX0 3 f ["front", "gone", "bounds"] (spFormWith K) := by
  refine F.ok scFW (fun _ _ _ _ _ _ us hl => match us, hl with | [_, _, _], _ => rfl) (fun vs H Q E h => ?_) (fun cdv A outer s H vs Q E hr h => ?_)
  · obtain ⟨a, b, c, r, g, rfl, _⟩ := h
    rfl
  · obtain ⟨a, b, c, r, g, rfl, ha, hl, hb, hg, ok, hc, k⟩ := h
    have hr1 : Room 1 _ := hr.mono (by decide)
    refine ⟨_, pss_one (ps_ret (pe_tup (pa_cons (pv 0) (pa_cons (pcl G hr1 rfl (T.g "outside") pass0 (pa_cons (pcl GS hr1 rfl (T.g "set_of") pass0 (pa_cons (pv 1) pa_nil)) (pa_cons (pv 0) pa_nil))) (pa_cons (pcl GR hr rfl (T.g "reduced") pass0 (pa_cons (pv 2) pa_nil)) pa_nil))))), ?_⟩
    refine ⟨_, rfl, _, rfl, b, g, rfl, .inr hb, hg, ok, fun H1 q1 r1 s1 e1 l1 _ => ?_⟩
    refine ⟨_, rfl, q1, a, r1, r, rfl, SqT.of e1, Same.sqT s1 ha, by omega, fun H2 q2 s2 e2 => ?_⟩
    refine ⟨_, rfl, c, rfl, hc.kp (Same.kp (S := []) (Same.trans s1 s2)), fun H3 v s3 => ?_⟩
    refine ⟨by show 3 ≤ sizeLine; decide, fun p hp => ?_⟩
    have s4 := Same.trans (Same.trans s1 s2) s3
    exact k _ _ (Same.upd s4 (s4.free hp))
end
/-! ### a tuple of bounds as data -/
section
variable {K : PySem.W.Frag} {H : Hp}
theorem dpAll_row : ∀ r : List Str, TOk r → DpAll K H (rowV r) (r.map PyData.str) ∧ PyData.canLayAll0 (r.map PyData.str) = true ∧ PyData.depthAll (r.map PyData.str) = 0
  | [], _ => ⟨.nil, rfl, rfl⟩
  | x :: r, h => by
    obtain ⟨a, b, c⟩ := dpAll_row r fun y hy => h y (List.mem_cons_of_mem _ hy)
    refine ⟨.cons (.str x) a, ?_, ?_⟩
    · show (PyData.strOk x && PyData.canLayAll0 (r.map PyData.str)) = true
      rw [h x List.mem_cons_self, b]
      rfl
    · show max 0 (PyData.depthAll (r.map PyData.str)) = 0
      rw [c]
      rfl
theorem dp_bnd {v : V} (h : BndAt K H v) : ∃ d, Dp K H v d ∧ PyData.canLay0 d = true ∧ PyData.depth d ≤ 2 := by
  obtain ⟨t, n, r, k, rfl, h1, h2, _, h3⟩ := h
  obtain ⟨a, b, c⟩ := dpAll_row (K := K) (H := H) r h3
  refine ⟨.tuple [.tuple (r.map PyData.str), .int k], .tup h1 (.cons (.tup h2 a) (.cons (.int k) .nil)), ?_, ?_⟩
  · show (PyData.canLayAll0 (r.map PyData.str) && true) = true
    rw [b]
    rfl
  · show max (PyData.depthAll (r.map PyData.str) + 1) (max 0 0) + 1 ≤ 2
    rw [c]
    decide
theorem dp_bnds : ∀ ts : List V, (∀ v ∈ ts, BndAt K H v) → ∃ ds, DpAll K H ts ds ∧ PyData.canLayAll0 ds = true ∧ PyData.depthAll ds ≤ 2
  | [], _ => ⟨[], .nil, rfl, by decide⟩
  | v :: ts, h => by
    obtain ⟨d, a1, a2, a3⟩ := dp_bnd (h v List.mem_cons_self)
    obtain ⟨ds, b1, b2, b3⟩ := dp_bnds ts fun u hu => h u (List.mem_cons_of_mem _ hu)
    refine ⟨d :: ds, .cons a1 b1, ?_, ?_⟩
    · show (PyData.canLay0 d && PyData.canLayAll0 ds) = true
      rw [a2, b2]
      rfl
    · show max (PyData.depth d) (PyData.depthAll ds) ≤ 2
      omega
theorem BAt.dp {a : Addr} {m : Nat} (h : BAt K H a m) : ∃ d, Dp K H (.ref a) d ∧ SeqAt.shaped d = true := by
  obtain ⟨ts, h1, _, h3⟩ := h
  obtain ⟨ds, a1, a2, a3⟩ := dp_bnds ts h3
  refine ⟨.tuple ds, .tup h1 a1, ?_⟩
  unfold SeqAt.shaped
  have e1 : PyData.canLay0 (.tuple ds) = true := a2
  have e2 : PyData.depth (.tuple ds) ≤ 64 := by
    show PyData.depthAll ds + 1 ≤ 64
    omega
  rw [e1, decide_eq_true e2]
  rfl
end
end TC

/-! form_by -/
namespace TC
open PySem PySem.Spec PyProof.Rows L2 He
/-- a step of a rule -/
inductive Stp where
  | touch (n : Str)
  | forget (n : Str)
  | cap (k : Nat)
def Stp.kindS : Stp → Str
  | .touch _ => "touch"
  | .forget _ => "forget"
  | .cap _ => "cap"
def Stp.whatV : Stp → V
  | .touch n => .str n
  | .forget n => .str n
  | .cap k => .int ((k : Nat) : Int)
/-- what a step does to a row -/
def Stp.run : Stp → List Str → List Str
  | .touch n, r => n :: outsideL r [n]
  | .forget n, r => outsideL r [n]
  | .cap k, r => r.take k
def Stp.ok : Stp → Prop
  | .touch n => PyData.strOk n = true
  | .forget n => PyData.strOk n = true
  | .cap _ => True
def PairAt (K : PySem.W.Frag) (H : Hp) (v : V) (s : Stp) : Prop := ∃ t : Addr, v = .ref t ∧ SqT K H t [.str s.kindS, s.whatV]
theorem PairAt.kp {K : PySem.W.Frag} {S : List Addr} {H H1 : Hp} (h : Kp S H H1) {v : V} {s : Stp} (b : PairAt K H v s) : PairAt K H1 v s := by
  obtain ⟨t, e, q⟩ := b
  exact ⟨t, e, h.sqT q⟩
def spFormBy (K : PySem.W.Frag) : Sp := fun vs H Q _ => ∃ (a : Addr) (ts : List V) (ss : List Stp), vs = [.ref a] ∧ SqL K H a ts ∧ Paired (PairAt K H) ts ss ∧ ts.length ≤ 20 ∧ (∀ s ∈ ss, s.ok) ∧ ∀ H' v, Same H H' → Q v H'
theorem rowV_snoc (r : List Str) (n : Str) : rowV (r ++ [n]) = rowV r ++ [V.str n] := List.map_append
theorem rowV_app (r q : List Str) : rowV (r ++ q) = rowV r ++ rowV q := List.map_append
theorem rowV_len (r : List Str) : (rowV r).length = r.length := List.length_map ..
theorem outsideL_len (r ns : List Str) : (outsideL r ns).length ≤ r.length := List.length_filter_le _ _
theorem paired_at {α β : Type} {R : α → β → Prop} : ∀ {xs : List α} {ys : List β}, Paired R xs ys → ∀ (i : Nat) (x : α), xs[i]? = some x → ∃ y, ys[i]? = some y ∧ R x y
  | _, _, .nil, i, x, h => by simp at h
  | _, _, .cons r t, 0, x, h => by
    simp at h
    subst h
    exact ⟨_, rfl, r⟩
  | _, _, .cons r t, i + 1, x, h => paired_at t i x (by simpa using h)
section
variable {P : Program} {w : World} {K : PySem.W.Frag} {mg : Str → Option Value} {base : Heap} {f g : Addr}
theorem ClosedAt.b (h : ClosedAt K) (H : Hp) (m : Nat) (hm : 1 ≤ m) : BAt K H (ga K "CLOSED") m := by
  obtain ⟨t, n, h1, h2, h3⟩ := h
  refine ⟨[.ref t], h1 H, hm, fun v hv => ?_⟩
  rw [List.mem_singleton.mp hv]
  exact ⟨t, n, [], 0, rfl, h2 H, h3 H, by decide, fun x hx => nomatch hx⟩
theorem scFB : FnScope ["pairs", "front", "gone", "bounds", "kind", "what"] ["pairs"] (defScope (topS 34)) := ⟨rfl, rfl, rfl, by decide +kernel, rfl, by decide +kernel, by decide +kernel⟩
/-- between two turns: a row, what is gone, the bounds -/
structure FBAt (K : PySem.W.Frag) (H0 H : Hp) (i : Nat) (fa ga ba : Addr) (fr gn : List Str) : Prop where
  s : Same H0 H
  f : SqT K H fa (rowV fr)
  fl : fr.length ≤ i
  fo : TOk fr
  g : SqT K H ga (rowV gn)
  gl : gn.length ≤ i
  go : TOk gn
  b : BAt K H ba (i + 1)
theorem ok_form_by (T : Txt K mg) (hC : ClosedAt K) (F : DefAt K "form_by" "form_by" (topS 34) f) (Gtouched : DOk P w K mg base CX0 3 (ga K "touched") ["row", "name"] (spTouched K)) (Gforgotten : DOk P w K mg base CX0 2 (ga K "forgotten") ["row", "name"] (spForgotten K))
    (Gcapped : DOk P w K mg base CX0 1 (ga K "capped") ["row", "number"] (spCapped K)) (Gset_of : DOk P w K mg base CX0 1 (ga K "set_of") ["things"] (spSetOf K)) (Gconstant_of : DOk P w K mg base CX0 1 (ga K "constant_of") ["row"] (spAny1 1 K))
    (Gform_with : DOk P w K mg base CX0 3 (ga K "form_with") ["front", "gone", "bounds"] (spFormWith K)) : DOk P w K mg base CX0 4 f ["pairs"] (spFormBy K) := by
  refine F.ok scFB (fun _ _ _ _ _ _ us hl => match us, hl with | [_], _ => rfl) (fun vs H Q E h => ?_) (fun cdv A outer s H vs Q E hr h => ?_)
  · obtain ⟨a, ts, ss, rfl, _⟩ := h
    rfl
  · obtain ⟨a, ts, ss, rfl, ha, hp, hl, ok, k⟩ := h
    have hr1 : Room 1 _ := hr.mono (by decide)
    have hr2 : Room 2 _ := hr.mono (by decide)
    refine ⟨_, (pss_cons (ps_asg (pe_tup (pa_cons (pe_tup pa_nil) (pa_cons (pe_tup pa_nil) (pa_cons (pe_tup pa_nil) pa_nil)))) (pg_tup rfl (pgs_cons (pg_name (i := 1) scFB.nd rfl (Or.inl rfl)) (pgs_cons (pg_name (i := 2) scFB.nd rfl (Or.inl rfl)) (pgs_cons (pg_name (i := 3) scFB.nd rfl (Or.inl rfl)) pgs_nil)))))
      (pss_cons (ps_for PassesOwn.never rfl (pi_list (pv 0)) (pg_tup rfl (pgs_cons (pg_name (i := 4) scFB.nd rfl (Or.inl rfl)) (pgs_cons (pg_name (i := 5) scFB.nd rfl (Or.inl rfl)) pgs_nil))) (pss_one (ps_if (pt_cmpR op_eq (pv 4) (pgs (by rfl) (T.s "TOUCH" "touch")) (nomark _)) (pss_one (ps_par rfl scFB.nd (i := 1) (j := 2) rfl rfl (by decide) rfl rfl (pa_cons (pcl Gtouched (hr.mono (by decide)) (by rfl) (T.g "touched") pass0 (pa_cons (pv 1) (pa_cons (pv 5) pa_nil))) (pa_cons (pe_tup (StX.pa_star (pv 2) (pa_cons (pv 5) pa_nil))) pa_nil)) (by rfl))) (pss_one (ps_if (pt_cmpR op_eq (pv 4) (pgs (by rfl) (T.s "FORGET" "forget")) (nomark _)) (pss_one (ps_par rfl scFB.nd (i := 1) (j := 2) rfl rfl (by decide) rfl rfl (pa_cons (pcl Gforgotten (hr.mono (by decide)) (by rfl) (T.g "forgotten") pass0 (pa_cons (pv 1) (pa_cons (pv 5) pa_nil))) (pa_cons (pe_tup (StX.pa_star (pv 2) (pa_cons (pv 5) pa_nil))) pa_nil)) (by rfl))) (pss_one (ps_if (PW.pt (pw_or (pt_cmpR (op_eqD hr.units) (pv 3) (pe_glob (v := .ref (ga K "CLOSED")) (by rfl) (T.g "CLOSED") rfl) (nomark _)) (pw_or1 (pt_cmpR op_le (pv 5) (pe_callB call_len_seq (by rfl) (T.f "len") (by decide +kernel) (pa_cons (pv 1) pa_nil)) (nomark _))))) (pss_one (ps_par rfl scFB.nd (i := 1) (j := 3) rfl rfl (by decide) rfl rfl (pa_cons (pcl Gcapped (hr.mono (by decide)) (by rfl) (T.g "capped") pass0 (pa_cons (pv 1) (pa_cons (pv 5) pa_nil))) (pa_cons (pe_glob (v := .ref (ga K "CLOSED")) (by rfl) (T.g "CLOSED") rfl) pa_nil)) (by rfl))) (pss_one (ps_set (i := 3) scFB.nd rfl (Or.inl rfl) (pe_tup (StX.pa_star (pv 3) (pa_cons (pe_tup (pa_cons (pcl Gset_of (hr.mono (by decide)) (by rfl) (T.g "set_of") pass0 (pa_cons (pe_lst (StX.pa_star (pv 1) (StX.pa_star (pv 2) pa_nil))) pa_nil)) (pa_cons (pe_op op_sub (pv 5) (pe_callB call_len_seq (by rfl) (T.f "len") (by decide +kernel) (pa_cons (pv 1) pa_nil))) pa_nil))) pa_nil))))))))))))
      (pss_one (ps_ret (pe_ifExp (pt_cmpR (op_eqD hr.units) (pv 3) (pe_glob (v := .ref (ga K "CLOSED")) (by rfl) (T.g "CLOSED") rfl) (nomark _)) (pcl Gconstant_of (hr.mono (by decide)) (by rfl) (T.g "constant_of") pass0 (pa_cons (pv 1) pa_nil)) (pcl Gform_with (hr.mono (by decide)) (by rfl) (T.g "form_with") pass0 (pa_cons (pv 1) (pa_cons (pv 2) (pa_cons (pv 3) pa_nil))))))))), ?_⟩
    refine ⟨Nat.zero_le _, fun t1 n1 => ⟨Nat.zero_le _, fun t2 n2 => ⟨Nat.zero_le _, fun t3 n3 => ⟨by show 3 ≤ sizeLine; decide, fun t4 n4 => ?_⟩⟩⟩⟩
    refine ⟨t4, _, rfl, SqT.of upd_same, rfl, _, _, rfl, _, _, rfl, _, _, rfl, rfl, ?_⟩
    have s4 : Same H (upd (upd (upd (upd H t1 (.tup [])) t2 (.tup [])) t3 (.tup [])) t4 (.tup [.ref t1, .ref t2, .ref t3])) :=
      Same.upd (Same.upd (Same.upd (Same.new n1) (free1 n2)) (free1 (free1 n3))) (free1 (free1 (free1 n4)))
    refine ⟨_, rfl, a, rfl, ⟨_, s4.seq ha⟩, for_list (K := K) (a := a) (xs := ts) (fun i σ H' => ∃ fa ga ba fr gn v4 v5, σ = [some (.ref a), some (.ref fa), some (.ref ga), some (.ref ba), v4, v5] ∧ FBAt K H H' i fa ga ba fr gn)
      ⟨t1, t2, t3, [], [], none, none, rfl, ⟨s4, ?_, Nat.le_refl _, fun x hx => (nomatch hx), ?_, Nat.le_refl _, fun x hx => (nomatch hx), ?_⟩⟩ (fun i σ H' _ ⟨_, _, _, _, _, _, _, _, R⟩ => R.s.seq ha) ?_ ?_⟩
    · exact Same.sqT (Same.trans (Same.trans (Same.new n2) (Same.new n3)) (Same.new n4)) (SqT.of (xs := []) upd_same)
    · exact Same.sqT (Same.trans (Same.new n3) (Same.new n4)) (SqT.of (xs := []) upd_same)
    · exact ⟨[], Same.sqT (Same.new n4) (SqT.of (xs := []) upd_same), Nat.zero_le _, fun v hv => nomatch hv⟩
    · rintro i y σ H1 hi ⟨fa, ga, ba, fr, gn, v4, v5, rfl, R⟩
      have hi20 : i < 20 := by
        have := (List.getElem?_eq_some_iff.mp hi).1
        omega
      obtain ⟨st, hst, t, rfl, ht⟩ := paired_at hp i y hi
      have sok := ok st (List.mem_of_getElem? hst)
      have hfl := R.fl
      have hgl := R.gl
      have tch : ∀ n, TOk [n] → ∀ x ∈ outsideL fr [n], PyData.strOk x = true := fun n _ x hx => R.fo x (List.mem_filter.mp hx).1
      refine ⟨t, _, rfl, Same.sqT R.s ht, rfl, _, _, rfl, _, _, rfl, rfl, ?_⟩
      cases st with
      | touch n =>
        refine ⟨_, rfl, rfl, _, rfl, ?_⟩
        refine ⟨_, rfl, _, rfl, fa, fr, n, rfl, R.f, by omega, fun H2 q2 s2 e2 => ?_⟩
        refine ⟨_, rfl, ga, _, rfl, .inl (Same.sqT s2 R.g), _, rfl, ?_, fun t5 n5 => ?_⟩
        · show (rowV gn ++ [V.str n]).length ≤ sizeLine
          unfold rowV
          rw [List.length_append, List.length_map, List.length_singleton]
          exact Nat.le_of_lt (small1000 (by omega))
        refine ⟨_, _, rfl, q2, t5, ba, n :: outsideL fr [n], gn ++ [n], _, _, rfl, ?_⟩
        have s3 := Same.trans s2 (Same.new (o := .tup (rowV gn ++ [V.str n])) n5)
        have lo := outsideL_len fr [n]
        refine ⟨Same.trans R.s s3, Same.sqT (Same.new n5) (SqT.of e2), by rw [List.length_cons]; omega, ?_, SqT.of (by rw [upd_same]; exact congrArg (fun z => some (HO.tup z)) (rowV_snoc gn n).symm), by rw [List.length_append, List.length_singleton]; omega, ?_, (R.b.kp (Same.kp (S := []) s3)).mono (by omega)⟩
        · intro x hx
          rcases List.mem_cons.mp hx with e | hx
          · rw [e]
            exact sok
          · exact R.fo x (List.mem_filter.mp hx).1
        · intro x hx
          rcases List.mem_append.mp hx with hx | hx
          · exact R.go x hx
          · rw [List.mem_singleton.mp hx]
            exact sok
      | forget n =>
        refine ⟨_, rfl, rfl, _, rfl, ?_⟩
        refine ⟨_, rfl, rfl, _, rfl, ?_⟩
        refine ⟨_, rfl, _, rfl, fa, fr, n, rfl, R.f, by omega, fun H2 q2 s2 e2 => ?_⟩
        refine ⟨_, rfl, ga, _, rfl, .inl (Same.sqT s2 R.g), _, rfl, ?_, fun t5 n5 => ?_⟩
        · show (rowV gn ++ [V.str n]).length ≤ sizeLine
          unfold rowV
          rw [List.length_append, List.length_map, List.length_singleton]
          exact Nat.le_of_lt (small1000 (by omega))
        refine ⟨_, _, rfl, q2, t5, ba, outsideL fr [n], gn ++ [n], _, _, rfl, ?_⟩
        have s3 := Same.trans s2 (Same.new (o := .tup (rowV gn ++ [V.str n])) n5)
        have lo := outsideL_len fr [n]
        refine ⟨Same.trans R.s s3, Same.sqT (Same.new n5) (SqT.of e2), by omega, ?_, SqT.of (by rw [upd_same]; exact congrArg (fun z => some (HO.tup z)) (rowV_snoc gn n).symm), by rw [List.length_append, List.length_singleton]; omega, ?_, (R.b.kp (Same.kp (S := []) s3)).mono (by omega)⟩
        · intro x hx
          exact R.fo x (List.mem_filter.mp hx).1
        · intro x hx
          rcases List.mem_append.mp hx with hx | hx
          · exact R.go x hx
          · rw [List.mem_singleton.mp hx]
            exact sok
      | cap c =>
        refine ⟨_, rfl, rfl, _, rfl, ?_⟩
        refine ⟨_, rfl, rfl, _, rfl, ?_⟩
        obtain ⟨d, d1, d2⟩ := R.b.dp
        obtain ⟨d', e1, e2⟩ := (hC.b H1 1 (Nat.le_refl _)).dp
        apply cut2
        · intro CAP
          refine ⟨_, rfl, d, d', d1, e1, d2, e2, _, rfl, ?_⟩
          cases PyData.eqv d d' with
          | true => exact CAP
          | false =>
            refine ⟨_, rfl, _, rfl, fa, _, rfl, .inr R.f, _, _, rfl, rfl, _, rfl, ?_⟩
            refine ite2 (fun _ => CAP) (fun _ => ?_)
            refine ⟨_, rfl, ba, ?_⟩
            obtain ⟨us, hb1, hb2, hb3⟩ := R.b
            refine ⟨us, rfl, .inl hb1, ?_⟩
            refine ⟨_, rfl, fa, _, rfl, .inl R.f, _, rfl, ga, _, rfl, .inl R.g, ?_, fun t5 n5 => ?_⟩
            · show (rowV fr ++ (rowV gn ++ [])).length ≤ sizeLine
              rw [List.append_nil, List.length_append, rowV_len, rowV_len]
              exact Nat.le_of_lt (small1000 (by omega))
            refine ⟨t5, fr ++ gn, rfl, .inl (SqL.of (by rw [upd_same, rowV_app]; simp)), by rw [List.length_append]; omega, ?_, fun H2 q2 r2 s2 f2 l2 o2 => ?_⟩
            · intro x hx
              rcases List.mem_append.mp hx with hx | hx
              · exact R.fo x hx
              · exact R.go x hx
            rw [List.length_append] at l2
            have s3 := Same.trans (Same.new n5) s2
            refine ⟨_, rfl, _, rfl, fa, _, rfl, .inr (Same.sqT s3 R.f), _, _, rfl, rfl, by show 2 ≤ sizeLine; decide, fun t6 n6 => ?_⟩
            refine ⟨?_, fun t7 n7 => ?_⟩
            · show (us ++ [V.ref t6]).length ≤ sizeLine
              rw [List.length_append, List.length_singleton]
              exact Nat.le_of_lt (small1000 (by omega))
            have s5 := Same.trans s3 (Same.new (o := .tup [.ref q2, .int (((c : Nat) : Int) - (((rowV fr).length : Nat) : Int))]) n6)
            have s7 := Same.trans s5 (Same.new (o := .tup (us ++ [V.ref t6])) n7)
            refine ⟨fa, ga, t7, fr, gn, _, _, rfl, ⟨Same.trans R.s s7, Same.sqT s7 R.f, by omega, R.fo, Same.sqT s7 R.g, by omega, R.go, ?_⟩⟩
            refine ⟨_, SqT.of upd_same, by show (us ++ [V.ref t6]).length ≤ _; rw [List.length_append, List.length_singleton]; omega, fun v hv => ?_⟩
            rcases List.mem_append.mp hv with hv | hv
            · exact (hb3 v hv).kp (Same.kp (S := []) s7)
            · rw [List.mem_singleton.mp hv]
              exact ⟨t6, q2, r2, _, rfl, Same.sqT (Same.new n7) (SqT.of upd_same), Same.sqT (Same.trans (Same.new n6) (Same.new n7)) (SqT.of f2), by omega, o2⟩
        · refine ⟨_, rfl, _, rfl, fa, fr, _, rfl, R.f, Int.natCast_nonneg c, fun H2 q2 s2 e2 => ?_⟩
          refine ⟨_, _, rfl, q2, ga, _, fr.take c, gn, _, _, rfl, ?_⟩
          refine ⟨Same.trans R.s s2, e2, by rw [List.length_take]; omega, fun x hx => R.fo x (List.mem_of_mem_take hx), Same.sqT s2 R.g, by omega, R.go, hC.b H2 _ (by omega)⟩
    · rintro σ H1 ⟨fa, ga, ba, fr, gn, v4, v5, rfl, R⟩
      have hfl := R.fl
      have hgl := R.gl
      obtain ⟨d, d1, d2⟩ := R.b.dp
      obtain ⟨d', e1, e2⟩ := (hC.b H1 1 (Nat.le_refl _)).dp
      refine ⟨_, rfl, d, d', d1, e1, d2, e2, _, rfl, ?_⟩
      refine ite2 (fun _ => ?_) (fun _ => ?_)
      · exact ⟨_, rfl, fa, fr, rfl, R.f, by omega, fun H' v s' => k _ _ (Same.trans R.s s')⟩
      · exact ⟨_, rfl, _, rfl, _, rfl, fa, ga, ba, fr, gn, rfl, R.f, by omega, R.g, by omega, R.go, R.b.mono (by omega), fun H' v s' => k _ _ (Same.trans R.s s')⟩
end
end TC

/-! Step, Rule: made, asked, called -/
namespace TC
open PySem PySem.Spec PyProof.Rows L2 He
abbrev cStep (K : PySem.W.Frag) : Addr := ga K "Step"
abbrev cRule (K : PySem.W.Frag) : Addr := ga K "Rule"
abbrev cBoard (K : PySem.W.Frag) : Addr := ga K "Board"
/-- a text that is a name -/
def NmOk (z : Str) : Prop := 0 < z.cps.size ∧ z.cps.size ≤ 1000 ∧ ∀ c ∈ z.cps.toList, c ∈ ("abcdefghijklmnopqrstuvwxyz" : Str).cps.toList
def Stp.good : Stp → Prop
  | .touch n => NmOk n
  | .forget n => NmOk n
  | .cap k => 1 ≤ k
def stepF (s : Stp) : List (Str × V) := [("own_kind", .str s.kindS), ("own_what", s.whatV)]
def StepAt (K : PySem.W.Frag) (H : Hp) (v : V) (s : Stp) : Prop := ∃ p dx : Addr, v = .ref p ∧ H p = some (.ins (cStep K) dx (stepF s))
theorem StepAt.kp {K : PySem.W.Frag} {S : List Addr} {H H1 : Hp} (h : Kp S H H1) {v : V} {s : Stp} (b : StepAt K H v s) : StepAt K H1 v s := by
  obtain ⟨p, dx, e, q⟩ := b
  exact ⟨p, dx, e, h _ _ q (.inr rfl)⟩
def spIsStep : Sp := fun vs H Q _ => ∃ s : Stp, vs = [.str s.kindS, s.whatV] ∧ s.good ∧ ∀ H', Same H H' → Q (.bl true) H'
def spStepInit (K : PySem.W.Frag) : Sp := fun vs H Q _ => ∃ (H0 : Hp) (p dx : Addr) (s : Stp), vs = [.ref p, .str s.kindS, s.whatV] ∧ s.good ∧ Same H0 H ∧ H0 p = none ∧ H p = some (.ins (cStep K) dx []) ∧
  ∀ H', Same H0 H' → H' p = some (.ins (cStep K) dx (stepF s)) → Q .non H'
def spGetS (K : PySem.W.Frag) (g : Stp → V) : Sp := fun vs H Q _ => ∃ (v : V) (s : Stp), vs = [v] ∧ StepAt K H v s ∧ Q (g s) H
def spStepCall (K : PySem.W.Frag) : Sp := fun vs H Q _ => ∃ (v : V) (s : Stp) (a : Addr) (r : List Str), vs = [v, .ref a] ∧ StepAt K H v s ∧ SqT K H a (rowV r) ∧ r.length ≤ 1000 ∧ ∀ H' q, Same H H' → SqT K H' q (rowV (s.run r)) → Q (.ref q) H'
section
variable {P : Program} {w : World} {K : PySem.W.Frag} {mg : Str → Option Value} {base : Heap} {f g : Addr}
theorem scIS : FnScope ["kind", "what"] ["kind", "what"] (defScope (topS 44)) := ⟨rfl, rfl, rfl, by decide +kernel, rfl, by decide +kernel, by decide +kernel⟩
theorem ok_is_step (T : Txt K mg) (F : DefAt K "is_step" "is_step" (topS 44) f) (Gis_number : DOk P w K mg base CX0 1 (ga K "is_number") ["thing"] spIsNumber) (Gis_name : DOk P w K mg base CX0 1 (ga K "is_name") ["thing"] spIsName) : DOk P w K mg base CX0 2 f ["kind", "what"] spIsStep := by
  refine F.ok scIS (fun _ _ _ _ _ _ us hl => match us, hl with | [_, _], _ => rfl) (fun vs H Q E h => ?_) (fun cdv A outer s H vs Q E hr h => ?_)
  · obtain ⟨s, rfl, _⟩ := h
    rfl
  · obtain ⟨st, rfl, gd, k⟩ := h
    refine ⟨_, (pss_cons (ps_if (pt_cmpR op_eq (pv 0) (pgs (by rfl) (T.s "CAP" "cap")) (nomark _)) (pss_one (ps_ret (pe_and (pcl Gis_number (hr.mono (by decide)) (by rfl) (T.g "is_number") pass0 (pa_cons (pv 1) pa_nil)) (pe_one (pe_cmpR op_gt (pv 1) pe_int (nomark _)))))) pss_nil)
      (pss_one (ps_ret (pe_and (pe_cmpR op_in_seq (pv 0) (pe_tup (pa_cons (pgs (by rfl) (T.s "TOUCH" "touch")) (pa_cons (pgs (by rfl) (T.s "FORGET" "forget")) pa_nil))) (by rfl)) (pe_one (pcl Gis_name (hr.mono (by decide)) (by rfl) (T.g "is_name") pass0 (pa_cons (pv 1) pa_nil))))))), ?_⟩
    cases st with
    | cap c =>
      refine ⟨_, rfl, rfl, _, rfl, ?_⟩
      refine ⟨_, rfl, _, rfl, true, rfl, ?_⟩
      refine ⟨_, rfl, _, _, rfl, rfl, ?_⟩
      have e : decide ((0 : Int) < ((c : Nat) : Int)) = true := decide_eq_true (by
        have : 1 ≤ c := gd
        omega)
      have kk := k H (Same.refl H)
      rw [← e] at kk
      exact kk
    | touch n =>
      refine ⟨_, rfl, rfl, _, rfl, ?_⟩
      refine ⟨_, rfl, by show 2 ≤ sizeLine; decide, fun p hp => ?_⟩
      refine ⟨p, _, rfl, .inr (SqT.of upd_same), rfl, rfl, true, rfl, ?_⟩
      exact ⟨_, rfl, n, rfl, gd.1, gd.2.1, gd.2.2, fun H' s' => k H' (Same.trans (Same.new hp) s')⟩
    | forget n =>
      refine ⟨_, rfl, rfl, _, rfl, ?_⟩
      refine ⟨_, rfl, by show 2 ≤ sizeLine; decide, fun p hp => ?_⟩
      refine ⟨p, _, rfl, .inr (SqT.of upd_same), rfl, rfl, true, rfl, ?_⟩
      exact ⟨_, rfl, n, rfl, gd.1, gd.2.1, gd.2.2, fun H' s' => k H' (Same.trans (Same.new hp) s')⟩
theorem scSI : FnScope ["self", "kind", "what"] ["self", "kind", "what"] (defScope (cSt 45 0)) := ⟨rfl, rfl, rfl, by decide +kernel, rfl, by decide +kernel, by decide +kernel⟩
theorem ok_step_init (T : Txt K mg) (F : DefAt K "__init__" "Step.__init__" (cSt 45 0) f) (Gis_step : DOk P w K mg base CX0 2 (ga K "is_step") ["kind", "what"] spIsStep) : DOk P w K mg base CX0 3 f ["self", "kind", "what"] (spStepInit K) := by
  refine F.ok scSI (fun _ _ _ _ _ _ us hl => match us, hl with | [_, _, _], _ => rfl) (fun vs H Q E h => ?_) (fun cdv A outer s H vs Q E hr h => ?_)
  · obtain ⟨H0, p, dx, s, rfl, _⟩ := h
    rfl
  · obtain ⟨H0, p, dx, st, rfl, gd, s0, p0, hp, k⟩ := h
    refine ⟨_, (pss_cons (ps_if (pt_not (pt_val (pcl Gis_step (hr.mono (by decide)) (by rfl) (T.g "is_step") pass0 (pa_cons (pv 1) (pa_cons (pv 2) pa_nil))))) (pss_one ps_never) pss_nil)
      (pss_one (ps_asg (pe_tup (pa_cons (pv 1) (pa_cons (pv 2) pa_nil))) (pg_tup rfl (pgs_cons (pg_fld (pv 0)) (pgs_cons (pg_fld (pv 0)) pgs_nil)))))), ?_⟩
    refine ⟨_, rfl, _, rfl, st, rfl, gd, fun H1 s1 => ?_⟩
    refine ⟨true, rfl, ?_⟩
    refine ⟨_, rfl, _, rfl, by show 2 ≤ sizeLine; decide, fun t ht => ?_⟩
    have npt : p ≠ t := ne_of_none (s1 _ _ hp) ht
    refine ⟨t, _, rfl, SqT.of upd_same, rfl, _, _, rfl, ?_⟩
    refine ⟨_, rfl, p, _, dx, _, rfl, by rw [upd_ne npt]; exact s1 _ _ hp, T.cS, T.nS "own_kind" (by decide +kernel), (by show 0 < 1000; decide), ?_⟩
    refine ⟨_, _, rfl, _, rfl, p, _, dx, _, rfl, upd_same, T.cS, T.nS "own_what" (by decide +kernel), (by show 1 < 1000; decide), rfl, ?_⟩
    refine k _ (fun b o e => ?_) upd_same
    have nb : b ≠ p := fun q => by
      rw [q, p0] at e
      cases e
    rw [upd_ne nb, upd_ne nb, upd_ne (ne_of_none (s1 _ _ (s0 _ _ e)) ht)]
    exact s1 _ _ (s0 _ _ e)
theorem scSK : FnScope ["self"] ["self"] (defScope (cSt 45 2)) := ⟨rfl, rfl, rfl, by decide +kernel, rfl, by decide +kernel, by decide +kernel⟩
theorem ok_step_kind (T : Txt K mg) (F : DefAt K "kind" "Step.kind" (cSt 45 2) f) : DOk P w K mg base CX0 1 f ["self"] (spGetS K fun s => .str s.kindS) := by
  refine F.ok scSK (fun _ _ _ _ _ _ us hl => match us, hl with | [_], _ => rfl) (fun vs H Q E h => ?_) (fun cdv A outer s H vs Q E hr h => ?_)
  · obtain ⟨v, s, rfl, _⟩ := h
    rfl
  · obtain ⟨v, st, rfl, ⟨p, dx, rfl, hp⟩, k⟩ := h
    refine ⟨_, (pss_one (ps_ret (pe_fld (pv 0) rfl))), ?_⟩
    exact ⟨_, rfl, p, _, dx, _, _, rfl, hp, T.cS, T.nS "own_kind" (by decide +kernel), rfl, k⟩
theorem scSW : FnScope ["self"] ["self"] (defScope (cSt 45 3)) := ⟨rfl, rfl, rfl, by decide +kernel, rfl, by decide +kernel, by decide +kernel⟩
theorem ok_step_what (T : Txt K mg) (F : DefAt K "what" "Step.what" (cSt 45 3) f) : DOk P w K mg base CX0 1 f ["self"] (spGetS K Stp.whatV) := by
  refine F.ok scSW (fun _ _ _ _ _ _ us hl => match us, hl with | [_], _ => rfl) (fun vs H Q E h => ?_) (fun cdv A outer s H vs Q E hr h => ?_)
  · obtain ⟨v, s, rfl, _⟩ := h
    rfl
  · obtain ⟨v, st, rfl, ⟨p, dx, rfl, hp⟩, k⟩ := h
    refine ⟨_, (pss_one (ps_ret (pe_fld (pv 0) rfl))), ?_⟩
    exact ⟨_, rfl, p, _, dx, _, _, rfl, hp, T.cS, T.nS "own_what" (by decide +kernel), rfl, k⟩
theorem scSC : FnScope ["self", "row", "deeds"] ["self", "row"] (defScope (cSt 45 5)) := ⟨rfl, rfl, rfl, by decide +kernel, rfl, by decide +kernel, by decide +kernel⟩
theorem ok_step_call (T : Txt K mg) (F : DefAt K "__call__" "Step.__call__" (cSt 45 5) f) (Gtouched : DOk P w K mg base CX0 3 (ga K "touched") ["row", "name"] (spTouched K)) (Gforgotten : DOk P w K mg base CX0 2 (ga K "forgotten") ["row", "name"] (spForgotten K))
    (Gcapped : DOk P w K mg base CX0 1 (ga K "capped") ["row", "number"] (spCapped K)) : DOk P w K mg base CX0 4 f ["self", "row"] (spStepCall K) := by
  refine F.ok scSC (fun _ _ _ _ _ _ us hl => match us, hl with | [_, _], _ => rfl) (fun vs H Q E h => ?_) (fun cdv A outer s H vs Q E hr h => ?_)
  · obtain ⟨v, s, a, r, rfl, _⟩ := h
    rfl
  · obtain ⟨v, st, a, r, rfl, ⟨p, dx, rfl, hp⟩, ha, hl, k⟩ := h
    cases st with
    | touch n =>
      have GG := Gtouched
      refine ⟨_, (pss_cons (ps_set (i := 2) scSC.nd rfl (Or.inl rfl) (pe_disp (pps_cons (pgs (by rfl) (T.s "TOUCH" "touch")) (pe_glob (v := .ref (ga K "touched")) (by rfl) (T.g "touched") rfl) (pps_cons (pgs (by rfl) (T.s "FORGET" "forget")) (pe_glob (v := .ref (ga K "forgotten")) (by rfl) (T.g "forgotten") rfl) (pps_cons (pgs (by rfl) (T.s "CAP" "cap")) (pe_glob (v := .ref (ga K "capped")) (by rfl) (T.g "capped") rfl) pps_nil))) (by rfl) (by rfl) (fun z => by cases z) (by decide)))
      (pss_one (ps_ret (pclF GG (pe_dget (hu_of hr) (pv 2) (pe_fld (pv 0) rfl) (fun _ _ => rfl)) (hr.mono (by decide)) pass0 (pa_cons (pv 1) (pa_cons (pe_fld (pv 0) rfl) pa_nil)))))), ?_⟩
      intro d hd
      refine ⟨upd_same, [(Sum.inr ("touch" : Str), .ref (ga K "touched")), (Sum.inr ("forget" : Str), .ref (ga K "forgotten")), (Sum.inr ("cap" : Str), .ref (ga K "capped"))], rfl, by show 3 ≤ 15; decide, ?_⟩
      rw [upd_upd]
      have npd : p ≠ d := ne_of_none hp hd
      have hp' : (upd H d (.dK (mergeK [] [(Sum.inr ("touch" : Str), .ref (ga K "touched")), (Sum.inr ("forget" : Str), .ref (ga K "forgotten")), (Sum.inr ("cap" : Str), .ref (ga K "capped"))]))) p = some (.ins (cStep K) dx (stepF (.touch n))) := by
        rw [upd_ne npd]
        exact hp
      refine ⟨_, rfl, _, rfl, p, _, dx, _, _, rfl, hp', T.cS, T.nS "own_kind" (by decide +kernel), rfl, d, _, rfl, DGet.k (k := Sum.inr ("touch" : Str)) upd_same, rfl, ?_⟩
      refine ⟨_, rfl, _, rfl, p, _, dx, _, _, rfl, hp', T.cS, T.nS "own_what" (by decide +kernel), rfl, ?_⟩
      exact ⟨a, r, n, rfl, Same.sqT (Same.new hd) ha, hl, fun H' q s' e => k H' q (Same.trans (Same.new hd) s') (SqT.of e)⟩
    | forget n =>
      have GG := Gforgotten
      refine ⟨_, (pss_cons (ps_set (i := 2) scSC.nd rfl (Or.inl rfl) (pe_disp (pps_cons (pgs (by rfl) (T.s "TOUCH" "touch")) (pe_glob (v := .ref (ga K "touched")) (by rfl) (T.g "touched") rfl) (pps_cons (pgs (by rfl) (T.s "FORGET" "forget")) (pe_glob (v := .ref (ga K "forgotten")) (by rfl) (T.g "forgotten") rfl) (pps_cons (pgs (by rfl) (T.s "CAP" "cap")) (pe_glob (v := .ref (ga K "capped")) (by rfl) (T.g "capped") rfl) pps_nil))) (by rfl) (by rfl) (fun z => by cases z) (by decide)))
      (pss_one (ps_ret (pclF GG (pe_dget (hu_of hr) (pv 2) (pe_fld (pv 0) rfl) (fun _ _ => rfl)) (hr.mono (by decide)) pass0 (pa_cons (pv 1) (pa_cons (pe_fld (pv 0) rfl) pa_nil)))))), ?_⟩
      intro d hd
      refine ⟨upd_same, [(Sum.inr ("touch" : Str), .ref (ga K "touched")), (Sum.inr ("forget" : Str), .ref (ga K "forgotten")), (Sum.inr ("cap" : Str), .ref (ga K "capped"))], rfl, by show 3 ≤ 15; decide, ?_⟩
      rw [upd_upd]
      have npd : p ≠ d := ne_of_none hp hd
      have hp' : (upd H d (.dK (mergeK [] [(Sum.inr ("touch" : Str), .ref (ga K "touched")), (Sum.inr ("forget" : Str), .ref (ga K "forgotten")), (Sum.inr ("cap" : Str), .ref (ga K "capped"))]))) p = some (.ins (cStep K) dx (stepF (.forget n))) := by
        rw [upd_ne npd]
        exact hp
      refine ⟨_, rfl, _, rfl, p, _, dx, _, _, rfl, hp', T.cS, T.nS "own_kind" (by decide +kernel), rfl, d, _, rfl, DGet.k (k := Sum.inr ("forget" : Str)) upd_same, rfl, ?_⟩
      refine ⟨_, rfl, _, rfl, p, _, dx, _, _, rfl, hp', T.cS, T.nS "own_what" (by decide +kernel), rfl, ?_⟩
      exact ⟨a, r, n, rfl, Same.sqT (Same.new hd) ha, hl, fun H' q s' e => k H' q (Same.trans (Same.new hd) s') (SqT.of e)⟩
    | cap n =>
      have GG := Gcapped
      refine ⟨_, (pss_cons (ps_set (i := 2) scSC.nd rfl (Or.inl rfl) (pe_disp (pps_cons (pgs (by rfl) (T.s "TOUCH" "touch")) (pe_glob (v := .ref (ga K "touched")) (by rfl) (T.g "touched") rfl) (pps_cons (pgs (by rfl) (T.s "FORGET" "forget")) (pe_glob (v := .ref (ga K "forgotten")) (by rfl) (T.g "forgotten") rfl) (pps_cons (pgs (by rfl) (T.s "CAP" "cap")) (pe_glob (v := .ref (ga K "capped")) (by rfl) (T.g "capped") rfl) pps_nil))) (by rfl) (by rfl) (fun z => by cases z) (by decide)))
      (pss_one (ps_ret (pclF GG (pe_dget (hu_of hr) (pv 2) (pe_fld (pv 0) rfl) (fun _ _ => rfl)) (hr.mono (by decide)) pass0 (pa_cons (pv 1) (pa_cons (pe_fld (pv 0) rfl) pa_nil)))))), ?_⟩
      intro d hd
      refine ⟨upd_same, [(Sum.inr ("touch" : Str), .ref (ga K "touched")), (Sum.inr ("forget" : Str), .ref (ga K "forgotten")), (Sum.inr ("cap" : Str), .ref (ga K "capped"))], rfl, by show 3 ≤ 15; decide, ?_⟩
      rw [upd_upd]
      have npd : p ≠ d := ne_of_none hp hd
      have hp' : (upd H d (.dK (mergeK [] [(Sum.inr ("touch" : Str), .ref (ga K "touched")), (Sum.inr ("forget" : Str), .ref (ga K "forgotten")), (Sum.inr ("cap" : Str), .ref (ga K "capped"))]))) p = some (.ins (cStep K) dx (stepF (.cap n))) := by
        rw [upd_ne npd]
        exact hp
      refine ⟨_, rfl, _, rfl, p, _, dx, _, _, rfl, hp', T.cS, T.nS "own_kind" (by decide +kernel), rfl, d, _, rfl, DGet.k (k := Sum.inr ("cap" : Str)) upd_same, rfl, ?_⟩
      refine ⟨_, rfl, _, rfl, p, _, dx, _, _, rfl, hp', T.cS, T.nS "own_what" (by decide +kernel), rfl, ?_⟩
      exact ⟨a, r, _, rfl, Same.sqT (Same.new hd) ha, Int.natCast_nonneg n, fun H' q s' e => k H' q (Same.trans (Same.new hd) s') e⟩
end
end TC

/-! Rule -/
namespace TC
open PySem PySem.Spec PyProof.Rows L2 He
/-- a def with one default -/
def DefAt1 (K : PySem.W.Frag) (x q : Str) (st : Stmt) (f : Addr) : Prop := ∃ (v : V) (fd : FuncData), FunD K x q (defArgs st) (defBody st) (defScope st) [v] [] f fd
section
variable {P : Program} {w : World} {K : PySem.W.Frag} {mg : Str → Option Value} {base : Heap} {x q : Str} {st : Stmt} {f : Addr} {N ps : List Str} {k : Nat} {sp : Sp}
theorem DefAt1.ok (F : DefAt1 K x q st f) (S : FnScope N ps (defScope st))
    (hb : ∀ (T : Addr) (kV doc pm : Value) (an : Option Addr) (cdv ct : Value) (us its : List Value), us.length = ps.length → its.length = 1 →
      ∃ k, bindArgs (PySem.W.fnOf x q (defArgs st) (defBody st) (defScope st) (.ref T) kV doc pm an cdv ct) ⟨us, []⟩ = seqItems? (.ref T) >>= k ∧ k (some its.toArray) = pure (ps.zip (us ++ its.drop 1)))
    (len : ∀ vs H Q E, sp vs H Q E → vs.length = ps.length)
    (body : ∀ (cdv : Value) (A : Around) (outer : List Env) (s : Shared) (H : Hp) (vs : List V) (Q : VK) (E : XK), Room k (A.deeper (envOfC q (defScope st) s.heap.objs.size f cdv)) → sp vs H Q E →
      ∃ t, PSs (cxOf CX0 P w K mg base N q (defScope st) f cdv A outer s H E).nox (defBody st) t ∧ t { nx := fun _ H' => Q .non H', rt := Q } (start N vs) H) : DOk P w K mg base CX0 (k + 1) f ps sp := by
  obtain ⟨v, fd, F⟩ := F
  obtain ⟨ds, hv, hB⟩ := F.binds1 (ps := ps) ps.length 1 (List.cons_ne_nil _ _) (by simp) hb
  have e : ds = [] := by
    have l := hv.length
    exact List.length_eq_zero_iff.mp l.symm
  rw [e] at hB
  exact ⟨⟨fd, F.ok S len fun cdv A outer s H vs Q E hr h => by
    obtain ⟨t, a, b⟩ := body cdv A outer s H vs Q E hr h
    exact ⟨t, a.nox, b⟩, hB⟩, F.kp⟩
end
theorem Same.own {H H1 : Hp} {a : Addr} {o : HO} (h : Same H H1) (n : H a = none) : Same H (L2.upd H1 a o) := fun b u e => by
  rw [upd_ne (ne_of_none e n)]
  exact h b u e
def RuleAt (K : PySem.W.Frag) (H : Hp) (v : V) (ss : List Stp) : Prop := ∃ (p dx t : Addr) (fv : V) (ts : List V), v = .ref p ∧ H p = some (.ins (cRule K) dx [("own_steps", .ref t), ("own_form", fv)]) ∧ SqT K H t ts ∧ Paired (StepAt K H) ts ss
theorem Paired.imp {α β : Type} {R R' : α → β → Prop} (h : ∀ a b, R a b → R' a b) : ∀ {xs : List α} {ys : List β}, Paired R xs ys → Paired R' xs ys
  | _, _, .nil => .nil
  | _, _, .cons r t => .cons (h _ _ r) (Paired.imp h t)
theorem Paired.snoc {α β : Type} {R : α → β → Prop} {a : α} {b : β} (h : R a b) : ∀ {xs : List α} {ys : List β}, Paired R xs ys → Paired R (xs ++ [a]) (ys ++ [b])
  | _, _, .nil => .cons h .nil
  | _, _, .cons r t => .cons r (Paired.snoc h t)
theorem Paired.len {α β : Type} {R : α → β → Prop} : ∀ {xs : List α} {ys : List β}, Paired R xs ys → xs.length = ys.length
  | _, _, .nil => rfl
  | _, _, .cons _ t => congrArg Nat.succ (Paired.len t)
theorem RuleAt.kp {K : PySem.W.Frag} {S : List Addr} {H H1 : Hp} (h : Kp S H H1) {v : V} {ss : List Stp} (b : RuleAt K H v ss) : RuleAt K H1 v ss := by
  obtain ⟨p, dx, t, fv, ts, e, q, ht, hs⟩ := b
  exact ⟨p, dx, t, fv, ts, e, h _ _ q (.inr rfl), h.sqT ht, Paired.imp (fun _ _ z => z.kp h) hs⟩
def spRuleInit (K : PySem.W.Frag) : Sp := fun vs H Q _ => ∃ (H0 : Hp) (p dx a : Addr) (ts : List V) (ss : List Stp), vs = [.ref p, .ref a] ∧ SqL K H0 a ts ∧ Paired (StepAt K H0) ts ss ∧ ts.length ≤ 20 ∧ (∀ s ∈ ss, s.ok) ∧
  Same H0 H ∧ H0 p = none ∧ H p = some (.ins (cRule K) dx []) ∧ ∀ H', Same H0 H' → RuleAt K H' (.ref p) ss → Q .non H'
/-- a whole rule on a row -/
def runAll : List Stp → List Str → List Str
  | [], r => r
  | s :: ss, r => runAll ss (s.run r)
def spRuleCall (K : PySem.W.Frag) : Sp := fun vs H Q _ => ∃ (v : V) (ss : List Stp) (a : Addr) (r : List Str), vs = [v, .ref a] ∧ RuleAt K H v ss ∧ SqT K H a (rowV r) ∧ r.length + ss.length ≤ 1000 ∧ ∀ H' q, Same H H' → SqT K H' q (rowV (runAll ss r)) → Q (.ref q) H'
theorem stp_len (s : Stp) (r : List Str) : (s.run r).length ≤ r.length + 1 := by
  cases s with
  | touch n =>
    have := outsideL_len r [n]
    show (n :: outsideL r [n]).length ≤ _
    rw [List.length_cons]
    omega
  | forget n =>
    have := outsideL_len r [n]
    show (outsideL r [n]).length ≤ _
    omega
  | cap k =>
    show (r.take k).length ≤ _
    rw [List.length_take]
    omega
theorem runAll_snoc (s : Stp) : ∀ (ss : List Stp) (r : List Str), runAll (ss ++ [s]) r = s.run (runAll ss r)
  | [], _ => rfl
  | _ :: ss, r => runAll_snoc s ss _
theorem runAll_len : ∀ (ss : List Stp) (r : List Str), (runAll ss r).length ≤ r.length + ss.length
  | [], _ => Nat.le_refl _
  | s :: ss, r => by
    have h1 := runAll_len ss (s.run r)
    have h2 := stp_len s r
    show (runAll ss (s.run r)).length ≤ r.length + (ss.length + 1)
    omega
section
variable {P : Program} {w : World} {K : PySem.W.Frag} {mg : Str → Option Value} {base : Heap} {f g : Addr}
theorem scRI : FnScope ["self", "steps", "step"] ["self", "steps"] (defScope (cSt 49 0)) := ⟨rfl, rfl, rfl, by decide +kernel, rfl, by decide +kernel, by decide +kernel⟩
theorem ok_rule_init (T : Txt K mg) (F : DefAt1 K "__init__" "Rule.__init__" (cSt 49 0) f) (Gform_by : DOk P w K mg base CX0 4 (ga K "form_by") ["pairs"] (spFormBy K))
    (Gkind : DOk P w K mg base CX0 1 (inR K (ma K (cStep K) "kind") "property") ["self"] (spGetS K fun s => .str s.kindS)) (Gwhat : DOk P w K mg base CX0 1 (inR K (ma K (cStep K) "what") "property") ["self"] (spGetS K Stp.whatV)) : DOk P w K mg base CX0 5 f ["self", "steps"] (spRuleInit K) := by
  refine F.ok scRI (fun _ _ _ _ _ _ _ us its hl h1 => match us, its, hl, h1 with | [_, _], [_], _, _ => ⟨_, rfl, rfl⟩) (fun vs H Q E h => ?_) (fun cdv A outer s H vs Q E hr h => ?_)
  · obtain ⟨H0, p, dx, a, ts, ss, rfl, _⟩ := h
    rfl
  · obtain ⟨H0, p, dx, a, ts, ss, rfl, ha, hs, hl, ok, s0, p0, hp, k⟩ := h
    refine ⟨_, (pss_cons (ps_fld (pv 0) (pe_callTy call_tuple_of (by rfl) (T.f "tuple") (by decide +kernel) (pa_cons (pv 1) pa_nil)) rfl)
      (pss_one (ps_fld (pv 0) (pcl Gform_by (hr.mono (by decide)) (by rfl) (T.g "form_by") pass0 (pa_cons (pe_lc (own := [("step", 2)]) (g := (gName 2)) (by rfl) scRI.nd (pi_tup (pe_fld (pv 0) rfl)) (blkOk_by (own := [("step", 2)]) (N := ["self", "steps", "step"]) (sc := defScope (cSt 49 0)) (by decide +kernel)) (fun _ _ _ _ _ => (pg_name (i := 2) scRI.nd rfl (Or.inl rfl))) (fun _ _ _ _ _ => pts_nil) (fun _ _ _ _ _ => (pe_tup (pa_cons (pprop (pv 2) T.cS (T.pS "kind" (by decide +kernel)) Gkind (hr.mono (by decide)) pass0) (pa_cons (pprop (pv 2) T.cS (T.pS "what" (by decide +kernel)) Gwhat (hr.mono (by decide)) pass0) pa_nil))))) pa_nil)) rfl))), ?_⟩
    refine ⟨_, rfl, a, _, rfl, .inl ⟨s0.seq ha, fun t ht => ?_⟩⟩
    have npt : p ≠ t := ne_of_none hp ht
    have t0 : H0 t = none := s0.free ht
    have lss := Paired.len hs
    refine ⟨_, rfl, p, _, dx, _, rfl, by rw [upd_ne npt]; exact hp, T.cR, T.nR "own_steps" (by decide +kernel), (by show 0 < 1000; decide), ?_⟩
    have s1 : Same H0 (upd (upd H t (.tup ts)) p (.ins (cRule K) dx (putF "own_steps" (.ref t) []))) := Same.own (Same.own s0 t0) p0
    have hp1 : (upd (upd H t (.tup ts)) p (.ins (cRule K) dx (putF "own_steps" (.ref t) []))) p = some (.ins (cRule K) dx (putF "own_steps" (.ref t) [])) := upd_same
    have ht1 : (upd (upd H t (.tup ts)) p (.ins (cRule K) dx (putF "own_steps" (.ref t) []))) t = some (.tup ts) := by rw [upd_ne npt.symm, upd_same]
    generalize (upd (upd H t (.tup ts)) p (.ins (cRule K) dx (putF "own_steps" (.ref t) []))) = H1 at s1 hp1 ht1
    refine ⟨_, rfl, p, _, dx, _, _, rfl, hp1, T.cR, T.nR "own_steps" (by decide +kernel), rfl, t, rfl, ⟨ts, SqT.of ht1⟩, fun D hD => ?_⟩
    refine lc_tup (K := K) (a := t) (xs := ts) (fun i H' => ∃ acc, H' D = some (.lst acc) ∧ acc.length = i ∧ Same H1 H' ∧ Paired (PairAt K H') acc (ss.take i)) ⟨[], upd_same, rfl, Same.new hD, .nil⟩ (fun i H' _ ⟨_, _, _, z, _⟩ => Same.sqT z (SqT.of ht1)) ?_ ?_
    · rintro i x H' hx ⟨acc, hd, hal, z, pr⟩
      obtain ⟨st, hst, hat⟩ := paired_at hs i x hx
      have hat' : StepAt K H' x st := hat.kp (Same.kp (S := []) (Same.trans s1 z))
      obtain ⟨px, pdx, rfl, hpx⟩ := id hat'
      refine ⟨rfl, ?_⟩
      refine ⟨_, rfl, px, pdx, _, rfl, hpx, _, st, rfl, hat', ?_⟩
      refine ⟨_, rfl, px, pdx, _, rfl, hpx, _, st, rfl, hat', ?_⟩
      refine ⟨by show 2 ≤ sizeLine; decide, fun q hq => ?_⟩
      have nDq : D ≠ q := ne_of_none hd hq
      have hi20 : i < 20 := by
        have := (List.getElem?_eq_some_iff.mp hx).1
        omega
      refine ⟨acc, by rw [upd_ne nDq]; exact hd, small1000 (by omega), acc ++ [.ref q], upd_same, by rw [List.length_append, List.length_singleton, hal], Same.own (Same.upd z (z.free hq)) hD, ?_⟩
      have kp : Kp [D] H' (upd (upd H' q (.tup [.str st.kindS, st.whatV])) D (.lst (acc ++ [.ref q]))) := Kp.put (Kp.new Kp.refl hq) List.mem_cons_self (by rw [upd_ne nDq]; exact hd) rfl
      rw [List.take_add_one, hst]
      exact Paired.snoc ⟨q, rfl, SqT.of (by rw [upd_ne nDq.symm, upd_same])⟩ (Paired.imp (fun _ _ w => w.kp kp) pr)
    · rintro H' ⟨acc, hd, hal, z, pr⟩
      rw [List.take_of_length_le (by omega)] at pr
      refine ⟨D, acc, ss, rfl, SqL.of hd, pr, by omega, ok, fun H2 v s2 => ?_⟩
      have z2 := Same.trans z s2
      refine ⟨_, rfl, p, _, dx, _, rfl, z2 _ _ hp1, T.cR, T.nR "own_form" (by decide +kernel), (by show 1 < 1000; decide), ?_⟩
      have s3 := Same.own (o := .ins (cRule K) dx (putF "own_form" v (putF "own_steps" (.ref t) []))) (Same.trans s1 z2) p0
      refine k _ s3 ⟨p, dx, t, v, ts, rfl, upd_same, SqT.of ?_, Paired.imp (fun _ _ w => w.kp (Same.kp (S := []) s3)) hs⟩
      rw [upd_ne npt.symm]
      exact z2 _ _ ht1
theorem scRC : FnScope ["self", "row", "found", "step"] ["self", "row"] (defScope (cSt 49 7)) := ⟨rfl, rfl, rfl, by decide +kernel, rfl, by decide +kernel, by decide +kernel⟩
theorem ok_rule_call (T : Txt K mg) (F : DefAt K "__call__" "Rule.__call__" (cSt 49 7) f) (Gcall : DOk P w K mg base CX0 4 (ma K (cStep K) "__call__") ["self", "row"] (spStepCall K)) : DOk P w K mg base CX0 5 f ["self", "row"] (spRuleCall K) := by
  refine F.ok scRC (fun _ _ _ _ _ _ us hl => match us, hl with | [_, _], _ => rfl) (fun vs H Q E h => ?_) (fun cdv A outer s H vs Q E hr h => ?_)
  · obtain ⟨v, ss, a, r, rfl, _⟩ := h
    rfl
  · obtain ⟨v, ss, a, r, rfl, ⟨p, dx, t, fv, ts, rfl, hp, ht, hs⟩, ha, hl, k⟩ := h
    refine ⟨_, (pss_cons (ps_set (i := 2) scRC.nd rfl (Or.inl rfl) (pe_callTy call_tuple_of (by rfl) (T.f "tuple") (by decide +kernel) (pa_cons (pv 1) pa_nil)))
      (pss_cons (ps_for PassesOwn.never rfl (pi_tup (pe_fld (pv 0) rfl)) (pg_name (i := 3) scRC.nd rfl (Or.inl rfl)) (pss_one (ps_set (i := 2) scRC.nd rfl (Or.inl rfl) (StX.pe_callO (pv 3) T.oS Gcall.raw (hr.mono (by decide)) pass0 (pa_cons (pv 2) pa_nil)))))
      (pss_one (ps_ret (pv 2))))), ?_⟩
    have lss := Paired.len hs
    refine ⟨_, rfl, a, _, rfl, .inr ⟨ha, ?_⟩⟩
    refine ⟨_, rfl, p, _, dx, _, _, rfl, hp, T.cR, T.nR "own_steps" (by decide +kernel), rfl, t, rfl, ⟨ts, ht⟩, for_tup (K := K) (a := t) (xs := ts) (fun i σ H' => ∃ q v, σ = [some (.ref p), some (.ref a), some (.ref q), v] ∧ Same H H' ∧ SqT K H' q (rowV (runAll (ss.take i) r)))
      ⟨a, none, rfl, Same.refl H, ha⟩ (fun i σ H' _ ⟨_, _, _, z, _⟩ => Same.sqT z ht) ?_ ?_⟩
    · rintro i x σ H' hx ⟨q, v, rfl, z, hq⟩
      obtain ⟨st, hst, hat⟩ := paired_at hs i x hx
      have hat' : StepAt K H' x st := hat.kp (Same.kp (S := []) z)
      obtain ⟨px, pdx, rfl, hpx⟩ := id hat'
      have hlt := (List.getElem?_eq_some_iff.mp hx).1
      refine ⟨_, rfl, px, rfl, _, rfl, .inr ⟨pdx, _, hpx⟩, _, st, q, _, rfl, hat', hq, ?_, fun H2 q2 z2 e2 => ?_⟩
      · have := runAll_len (ss.take i) r
        rw [List.length_take] at this
        omega
      · refine ⟨q2, _, rfl, Same.trans z z2, ?_⟩
        rw [List.take_add_one, hst]
        show SqT K H2 q2 (rowV (runAll (ss.take i ++ [st]) r))
        rw [runAll_snoc]
        exact e2
    · rintro σ H' ⟨q, v, rfl, z, hq⟩
      rw [List.take_of_length_le (by omega)] at hq
      exact ⟨_, rfl, k _ _ z hq⟩
end
end TC

/-! number_in, Step.of, Rule.of -/
namespace TC
open PySem PySem.Spec PyProof.Rows L2 He
def spNumberIn : Sp := fun vs H Q _ => vs = [.str "3"] ∧ ∀ H', Same H H' → Q (.int 3) H'
def Stp.word : Stp → Str
  | .touch n => n
  | .forget n => n
  | .cap _ => "3"
def Stp.three : Stp → Prop
  | .cap k => k = 3
  | _ => True
def spStepOf (K : PySem.W.Frag) : Sp := fun vs H Q _ => ∃ (s : Stp) (z : Str), vs = [.str z] ∧ Txt.split z " " = [s.kindS, s.word] ∧ z.length + 2 ≤ sizeLine ∧ s.good ∧ s.three ∧ ∀ H' v, Same H H' → StepAt K H' v s → Q v H'
def handRule : List Stp := [.cap 3, .forget "zzz", .touch "x"]
theorem stp_cap {s : Stp} (q : s.kindS = "cap") (g : s.three) : s.word = "3" ∧ s.whatV = .int 3 := by
  cases s with
  | cap k =>
    obtain rfl : k = 3 := g
    exact ⟨rfl, rfl⟩
  | touch n => exact absurd q (by show ¬ (("touch" : Str) = "cap"); decide +kernel)
  | forget n => exact absurd q (by show ¬ (("forget" : Str) = "cap"); decide +kernel)
theorem stp_nocap {s : Stp} (q : ¬ s.kindS = "cap") : s.whatV = .str s.word := by
  cases s with
  | cap k => exact absurd rfl q
  | touch n => rfl
  | forget n => rfl
theorem cut5 {B : Prop} {R : Hp → Prop} (C : Hp → Prop) (f : (∀ H, C H → R H) → B) (a : ∀ H, C H → R H) : B := f a
instance (z : Str) : Decidable (NmOk z) := inferInstanceAs (Decidable (_ ∧ _ ∧ _))
def spRuleOf (K : PySem.W.Frag) : Sp := fun vs H Q _ => vs = [.str "cap 3; forget zzz; touch x"] ∧ ∀ H' v, Same H H' → RuleAt K H' v handRule → Q v H'
section
variable {P : Program} {w : World} {K : PySem.W.Frag} {mg : Str → Option Value} {base : Heap} {f g : Addr}
theorem scNI : FnScope ["text", "sign"] ["text"] (defScope (topS 7)) := ⟨rfl, rfl, rfl, by decide +kernel, rfl, by decide +kernel, by decide +kernel⟩
theorem ok_number_in (T : Txt K mg) (F : DefAt K "number_in" "number_in" (topS 7) f) : DOk P w K mg base CX0 1 f ["text"] spNumberIn := by
  refine F.ok scNI (fun _ _ _ _ _ _ us hl => match us, hl with | [_], _ => rfl) (fun vs H Q E h => ?_) (fun cdv A outer s H vs Q E hr h => ?_)
  · obtain ⟨rfl, _⟩ := h
    rfl
  · obtain ⟨rfl, k⟩ := h
    refine ⟨_, (pss_cons (ps_if (PW.pt (pw_or (pt_cmpR op_eq (pv 0) pe_str (nomark _)) (pw_or1 (pt_not (pt_val (pe_callB (cr_all rfl) (by rfl) (T.f "all") (by decide +kernel) (pa_cons (pe_lc (own := [("sign", 1)]) (g := (gName 1)) (by rfl) scNI.nd (pi_str (pv 0)) (blkOk_by (own := [("sign", 1)]) (N := ["text", "sign"]) (sc := defScope (topS 7)) (by decide +kernel)) (fun _ _ _ _ _ => (pg_name (i := 1) scNI.nd rfl (Or.inl rfl))) (fun _ _ _ _ _ => pts_nil) (fun _ _ _ _ _ => (pe_cmpR op_in_sign (pv 1) (pgs (by rfl) (T.s "DIGITS" "0123456789")) (by rfl)))) pa_nil))))))) (pss_one (ps_ret pe_non)) pss_nil)
      (pss_one (ps_ret (pe_ifExp (PW.pt (pw_and (pt_cmpR op_eq (pe_ix ix_str (pv 0) pe_int (fun _ _ => rfl)) pe_str (nomark _)) (pw_and1 (pt_cmpR op_ne (pv 0) pe_str (nomark _))))) pe_non (pe_callTy call_int_str (by rfl) (T.f "int") (by decide +kernel) (pa_cons (pv 0) pa_nil)))))), ?_⟩
    refine ⟨_, rfl, rfl, _, rfl, ?_⟩
    refine ⟨_, rfl, _, rfl, fun D hD => ?_⟩
    refine lc_it walk_str (fun i H' => H' = upd H D (.lst ((List.replicate i true).map V.bl))) rfl (fun _ _ _ _ => trivial) ?_ ?_
    · rintro i x H1 H2 hi rfl ⟨rfl, c, hcs, rfl⟩
      have hi1 : i < 1 := hi
      obtain rfl : i = 0 := by omega
      obtain rfl : (51 : Nat) = c := Option.some.inj hcs
      refine ⟨rfl, ?_⟩
      refine ⟨_, rfl, _, _, rfl, rfl, ?_⟩
      refine ⟨_, upd_same, by decide, ?_⟩
      rw [upd_upd]
      rfl
    · rintro H' rfl
      refine ⟨D, List.replicate 1 true, rfl, SqL.of upd_same, true, rfl, ?_⟩
      have k2 := k _ (Same.new (o := .lst ((List.replicate 1 true).map V.bl)) hD)
      refine ⟨_, rfl, _, _, 51, rfl, rfl, by decide, rfl, rfl, _, rfl, ?_⟩
      exact ⟨_, rfl, _, 3, rfl, by decide +kernel, by decide, k2⟩
theorem scSO : FnScope ["text", "words", "kind", "what"] ["text"] (defScope (cSt 45 1)) := ⟨rfl, rfl, rfl, by decide +kernel, rfl, by decide +kernel, by decide +kernel⟩
theorem ok_step_of (T : Txt K mg) (F : DefAt K "of" "Step.of" (cSt 45 1) f) (Gnumber_in : DOk P w K mg base CX0 1 (ga K "number_in") ["text"] spNumberIn) (Gis_step : DOk P w K mg base CX0 2 (ga K "is_step") ["kind", "what"] spIsStep)
    (Gstep_init : DOk P w K mg base CX0 3 (ma K (ga K "Step") "__init__") ["self", "kind", "what"] (spStepInit K)) : DOk P w K mg base CX0 5 f ["text"] (spStepOf K) := by
  refine F.ok scSO (fun _ _ _ _ _ _ us hl => match us, hl with | [_], _ => rfl) (fun vs H Q E h => ?_) (fun cdv A outer s H vs Q E hr h => ?_)
  · obtain ⟨st, z, rfl, _⟩ := h
    rfl
  · obtain ⟨st, z, rfl, hw, hz, gd, g3, k⟩ := h
    refine ⟨_, (pss_cons (ps_set (i := 1) scSO.nd rfl (Or.inl rfl) (pe_split (pv 0) pe_str))
      (pss_cons (ps_if (pt_cmpR op_ne (pe_callB call_len_seq (by rfl) (T.f "len") (by decide +kernel) (pa_cons (pv 1) pa_nil)) (pgi (by rfl) T.pair) (nomark _)) (pss_one ps_never) pss_nil)
      (pss_cons (ps_par rfl scSO.nd (i := 2) (j := 3) rfl rfl (by decide) rfl rfl (pa_cons (pe_ix ix_list (pv 1) pe_int (fun _ _ => rfl)) (pa_cons (pe_ifExp (pt_cmpR op_eq (pe_ix ix_list (pv 1) pe_int (fun _ _ => rfl)) (pgs (by rfl) (T.s "CAP" "cap")) (nomark _)) (pcl Gnumber_in (hr.mono (by decide)) (by rfl) (T.g "number_in") pass0 (pa_cons (pe_ix ix_list (pv 1) pe_int (fun _ _ => rfl)) pa_nil)) (pe_ix ix_list (pv 1) pe_int (fun _ _ => rfl))) pa_nil)) (by rfl))
      (pss_cons (ps_if (pt_not (pt_val (pcl Gis_step (hr.mono (by decide)) (by rfl) (T.g "is_step") pass0 (pa_cons (pv 2) (pa_cons (pv 3) pa_nil))))) (pss_one ps_never) pss_nil)
      (pss_one (ps_ret (pmk T.kS Gstep_init (hr.mono (by decide)) (by rfl) (T.g "Step") pass0 (pa_cons (pv 2) (pa_cons (pv 3) pa_nil))))))))), ?_⟩
    refine ⟨_, rfl, ⟨_, rfl⟩, _, _, rfl, rfl, rfl, hz, ?_⟩
    rw [hw]
    intro l hl
    have e1 : (upd H l (.lst ([st.kindS, st.word].map V.str))) l = some (.lst [.str st.kindS, .str st.word]) := upd_same
    have s1 := Same.new (o := .lst ([st.kindS, st.word].map V.str)) hl
    generalize upd H l (.lst ([st.kindS, st.word].map V.str)) = H1 at e1 s1
    refine ⟨_, rfl, l, _, rfl, .inl (SqL.of e1), ?_⟩
    refine ⟨rfl, _, rfl, ?_⟩
    refine ⟨_, rfl, l, _, _, _, rfl, rfl, SqL.of e1, atI_nat (j := 0) rfl, ?_⟩
    refine ⟨_, rfl, l, _, _, _, rfl, rfl, SqL.of e1, atI_nat (j := 0) rfl, ?_⟩
    -- what, then the step is made
    apply cut5 (fun H2 => Same H1 H2)
    · intro REST
      refine ⟨rfl, _, rfl, ?_⟩
      refine ite2 (fun q => ?_) (fun q => ?_)
      · obtain ⟨q1, q2⟩ := stp_cap (V.str.inj (of_decide_eq_true q)) g3
        refine ⟨_, rfl, l, _, _, _, rfl, rfl, SqL.of e1, atI_nat (j := 1) rfl, congrArg (fun z => [V.str z]) q1, fun H2 s2 => ?_⟩
        refine ⟨_, _, rfl, ?_⟩
        rw [← q2]
        exact REST H2 s2
      · refine ⟨_, rfl, l, _, _, _, rfl, rfl, SqL.of e1, atI_nat (j := 1) rfl, ?_⟩
        refine ⟨_, _, rfl, ?_⟩
        rw [← stp_nocap fun z => q (decide_eq_true (congrArg V.str z))]
        exact REST H1 (Same.refl H1)
    · intro H2 s2
      refine ⟨_, rfl, _, rfl, st, rfl, gd, fun H3 s3 => ⟨true, rfl, ?_⟩⟩
      refine ⟨_, rfl, _, rfl, fun x dx hx hdx ne => ?_⟩
      have s4 := Same.trans (Same.trans s1 s2) s3
      have sN : Same H3 (upd (upd H3 dx (.own x)) x (.ins (cStep K) dx [])) := Same.own (Same.new hdx) hx
      exact ⟨H3, x, dx, st, rfl, gd, sN, hx, upd_same, fun H5 s5 e5 => ⟨rfl, k H5 _ (Same.trans s4 s5) ⟨x, dx, rfl, e5⟩⟩⟩
theorem scRO : FnScope ["text", "piece"] ["text"] (defScope (cSt 49 1)) := ⟨rfl, rfl, rfl, by decide +kernel, rfl, by decide +kernel, by decide +kernel⟩
theorem ok_rule_of (T : Txt K mg) (F : DefAt K "of" "Rule.of" (cSt 49 1) f) (Gstep_of : DOk P w K mg base CX0 5 (inR K (ma K (ga K "Step") "of") "staticmethod") ["text"] (spStepOf K))
    (Grule_init : DOk P w K mg base CX0 5 (ma K (ga K "Rule") "__init__") ["self", "steps"] (spRuleInit K)) : DOk P w K mg base CX0 7 f ["text"] (spRuleOf K) := by
  refine F.ok scRO (fun _ _ _ _ _ _ us hl => match us, hl with | [_], _ => rfl) (fun vs H Q E h => ?_) (fun cdv A outer s H vs Q E hr h => ?_)
  · obtain ⟨rfl, _⟩ := h
    rfl
  · obtain ⟨rfl, k⟩ := h
    refine ⟨_, (pss_one (ps_ret (pmk T.kR Grule_init (hr.mono (by decide)) (by rfl) (T.g "Rule") pass0 (pa_cons (pe_ifExp (pt_cmpR op_ne (pv 0) (pgs (by rfl) (T.s "NOTHING" "-")) (nomark _)) (pe_lc (own := [("piece", 1)]) (g := (gName 1)) (by rfl) scRO.nd (pi_list (pe_split (pv 0) (pgs (by rfl) (T.s "BETWEEN" "; ")))) (blkOk_by (own := [("piece", 1)]) (N := ["text", "piece"]) (sc := defScope (cSt 49 1)) (by decide +kernel)) (fun _ _ _ _ _ => (pg_name (i := 1) scRO.nd rfl (Or.inl rfl))) (fun _ _ _ _ _ => pts_nil) (fun _ _ _ _ _ => (psmeth (pe_glob (v := .ref (cStep K)) (by rfl) (T.g "Step") rfl) T.rS T.sS Gstep_of (hr.mono (by decide)) pass0 (pa_cons (pv 1) pa_nil)))) (pe_lst pa_nil)) pa_nil)))), ?_⟩
    have sp3 : Txt.split "cap 3; forget zzz; touch x" "; " = (["cap 3", "forget zzz", "touch x"] : List Str) := by decide +kernel
    refine ⟨_, rfl, rfl, _, rfl, ?_⟩
    refine ⟨_, rfl, ⟨_, rfl⟩, _, _, rfl, rfl, rfl, by decide +kernel, ?_⟩
    rw [sp3]
    intro l hl
    have e1 : (upd H l (.lst ((["cap 3", "forget zzz", "touch x"] : List Str).map V.str))) l = some (.lst [.str "cap 3", .str "forget zzz", .str "touch x"]) := upd_same
    have s1 := Same.new (o := .lst ((["cap 3", "forget zzz", "touch x"] : List Str).map V.str)) hl
    generalize upd H l (.lst ((["cap 3", "forget zzz", "touch x"] : List Str).map V.str)) = H1 at e1 s1
    refine ⟨l, rfl, ⟨_, SqL.of e1⟩, fun D hD => ?_⟩
    refine lc_list (K := K) (a := l) (xs := [.str "cap 3", .str "forget zzz", .str "touch x"]) (fun i H' => ∃ acc, H' D = some (.lst acc) ∧ acc.length = i ∧ Same H1 H' ∧ Paired (StepAt K H') acc (handRule.take i)) ⟨[], upd_same, rfl, Same.new hD, .nil⟩ (fun i H' _ ⟨_, _, _, z, _⟩ => z.seq (SqL.of e1)) ?_ ?_
    · rintro i x H' hx ⟨acc, hd, hal, z, pr⟩
      have hi3 : i < 3 := (List.getElem?_eq_some_iff.mp hx).1
      obtain ⟨st, zt, hst, ex, sp, lz, gd, g3⟩ : ∃ (st : Stp) (zt : Str), handRule[i]? = some st ∧ x = .str zt ∧ Txt.split zt " " = [st.kindS, st.word] ∧ zt.length + 2 ≤ sizeLine ∧ st.good ∧ st.three := by
        match i, hi3, hx with
        | 0, _, hx => exact ⟨_, "cap 3", rfl, (Option.some.inj hx).symm, by decide +kernel, by decide +kernel, (by decide : 1 ≤ 3), rfl⟩
        | 1, _, hx => exact ⟨_, "forget zzz", rfl, (Option.some.inj hx).symm, by decide +kernel, by decide +kernel, (by decide +kernel : NmOk "zzz"), trivial⟩
        | 2, _, hx => exact ⟨_, "touch x", rfl, (Option.some.inj hx).symm, by decide +kernel, by decide +kernel, (by decide +kernel : NmOk "x"), trivial⟩
      subst ex
      refine ⟨rfl, ?_⟩
      refine ⟨rfl, _, rfl, st, zt, rfl, sp, lz, gd, g3, fun H2 v s2 hv => ?_⟩
      refine ⟨acc, s2 _ _ hd, small1000 (by omega), acc ++ [v], upd_same, by rw [List.length_append, List.length_singleton, hal], Same.own (Same.trans z s2) hD, ?_⟩
      have kp : Kp [D] H2 (upd H2 D (.lst (acc ++ [v]))) := Kp.put Kp.refl List.mem_cons_self (s2 _ _ hd) rfl
      rw [List.take_add_one, hst]
      exact Paired.snoc (hv.kp kp) (Paired.imp (fun _ _ w => w.kp (Kp.trans (S := [D]) (Same.kp s2) kp)) pr)
    · rintro H' ⟨acc, hd, hal, z, pr⟩
      intro x dx hx hdx ne
      have sN : Same H' (upd (upd H' dx (.own x)) x (.ins (cRule K) dx [])) := Same.own (Same.new hdx) hx
      refine ⟨H', x, dx, D, acc, handRule, rfl, SqL.of hd, pr, by show acc.length ≤ 20; rw [hal]; decide, ?_, sN, hx, upd_same, fun H5 s5 r5 => ⟨rfl, k H5 _ (Same.trans (Same.trans s1 z) s5) r5⟩⟩
      intro s hs
      simp only [handRule, List.mem_cons, List.not_mem_nil, or_false] at hs
      rcases hs with rfl | rfl | rfl
      · trivial
      · exact (by decide +kernel : PyData.strOk "zzz" = true)
      · exact (by decide +kernel : PyData.strOk "x" = true)
end
end TC

/-! Board: made, kept, taken, used, cut, undone -/
namespace TC
open PySem PySem.Spec PyProof.Rows L2 He
def limV : Option Int → V
  | none => .non
  | some k => .int k
def cutR : Option Int → List Str → List Str
  | none, r => r
  | some k, r => r.take k.toNat
def LimOk : Option Int → Prop
  | none => True
  | some k => 0 ≤ k
theorem cutR_len (m : Option Int) (r : List Str) : (cutR m r).length ≤ r.length := by
  cases m with
  | none => exact Nat.le_refl _
  | some k =>
    show (r.take k.toNat).length ≤ _
    rw [List.length_take]
    omega
def brdF (r m dv df l : V) : List (Str × V) := [("own_row", r), ("own_limit", m), ("own_views", dv), ("own_frames", df), ("own_past", l)]
abbrev Mo : Type := List Str × Option Int
def PastAt (K : PySem.W.Frag) (H : Hp) (v : V) (m : Mo) : Prop := ∃ (t r : Addr) (dv df : V), v = .ref t ∧ H t = some (.tup [.ref r, limV m.2, dv, df]) ∧ SqT K H r (rowV m.1) ∧ LimOk m.2 ∧ m.1.length ≤ 900
theorem PastAt.kp {K : PySem.W.Frag} {S : List Addr} {H H1 : Hp} (h : Kp S H H1) {v : V} {m : Mo} (b : PastAt K H v m) : PastAt K H1 v m := by
  obtain ⟨t, r, dv, df, e, q, s, z⟩ := b
  exact ⟨t, r, dv, df, e, h.tup q, h.sqT s, z⟩
/-- a board: its row and limit, what stands behind -/
structure BoardAt (K : PySem.W.Frag) (H : Hp) (p l : Addr) (m : Mo) (past : List Mo) : Prop where
  ex : ∃ (dx r : Addr) (dv df : V), H p = some (.ins (cBoard K) dx (brdF (.ref r) (limV m.2) dv df (.ref l))) ∧ SqT K H r (rowV m.1)
  pst : ∃ ps, H l = some (.lst ps) ∧ Paired (PastAt K H) ps past
  lim : LimOk m.2
  len : m.1.length ≤ 900
theorem BoardAt.kp {K : PySem.W.Frag} {S : List Addr} {H H1 : Hp} (h : Kp S H H1) {p l : Addr} {m : Mo} {past : List Mo} (hp : p ∉ S) (hl : l ∉ S) (b : BoardAt K H p l m past) : BoardAt K H1 p l m past := by
  obtain ⟨⟨dx, r, dv, df, e, q⟩, ⟨ps, e2, q2⟩, z, z2⟩ := b
  exact ⟨⟨dx, r, dv, df, h _ _ e (.inl hp), h.sqT q⟩, ⟨ps, h _ _ e2 (.inl hl), Paired.imp (fun _ _ w => w.kp h) q2⟩, z, z2⟩
theorem BoardAt.ne {K : PySem.W.Frag} {H : Hp} {p l : Addr} {m : Mo} {past : List Mo} (b : BoardAt K H p l m past) : p ≠ l := by
  obtain ⟨⟨dx, r, dv, df, e, q⟩, ⟨ps, e2, q2⟩, _⟩ := b
  exact ne_of e e2 (by intro z; cases z)
def spBoardInit (K : PySem.W.Frag) : Sp := fun vs H Q _ => ∃ (H0 : Hp) (p dx a : Addr) (r : List Str), vs = [.ref p, .ref a] ∧ SqL K H0 a (rowV r) ∧ r.length ≤ 900 ∧ Same H0 H ∧ H0 p = none ∧ H p = some (.ins (cBoard K) dx []) ∧
  ∀ H' l, Same H0 H' → H0 l = none → BoardAt K H' p l (r, none) [] → Q .non H'
def spState (K : PySem.W.Frag) : Sp := fun vs H Q _ => ∃ (p dx : Addr) (a b c d e : V), vs = [.ref p] ∧ H p = some (.ins (cBoard K) dx (brdF a b c d e)) ∧ ∀ t, H t = none → Q (.ref t) (upd H t (.tup [a, b, c, d]))
def spSetTo (K : PySem.W.Frag) : Sp := fun vs H Q _ => ∃ (p dx t : Addr) (a b c d e a' b' c' d' : V), vs = [.ref p, .ref t] ∧ H p = some (.ins (cBoard K) dx (brdF a b c d e)) ∧ H t = some (.tup [a', b', c', d']) ∧ Q .non (upd H p (.ins (cBoard K) dx (brdF a' b' c' d' e)))
def spKeep (K : PySem.W.Frag) : Sp := fun vs H Q _ => ∃ (p l : Addr) (m : Mo) (past : List Mo), vs = [.ref p] ∧ BoardAt K H p l m past ∧ past.length ≤ 1000 ∧ ∀ H', Kp [l] H H' → BoardAt K H' p l m (past ++ [m]) → Q .non H'
def spTake (K : PySem.W.Frag) : Sp := fun vs H Q _ => ∃ (p l a : Addr) (m : Mo) (past : List Mo) (r : List Str), vs = [.ref p, .ref a] ∧ BoardAt K H p l m past ∧ SqT K H a (rowV r) ∧ (cutR m.2 r).length ≤ 900 ∧ ∀ H', Kp [p] H H' → BoardAt K H' p l (cutR m.2 r, m.2) past → Q .non H'
def spRowOf (K : PySem.W.Frag) : Sp := fun vs H Q _ => ∃ (p l : Addr) (m : Mo) (past : List Mo), vs = [.ref p] ∧ BoardAt K H p l m past ∧ ∀ r, SqT K H r (rowV m.1) → Q (.ref r) H
def spLimOf (K : PySem.W.Frag) : Sp := fun vs H Q _ => ∃ (p l : Addr) (m : Mo) (past : List Mo), vs = [.ref p] ∧ BoardAt K H p l m past ∧ Q (limV m.2) H
section
variable {P : Program} {w : World} {K : PySem.W.Frag} {mg : Str → Option Value} {base : Heap} {f g : Addr}
theorem scBI : FnScope ["self", "row"] ["self", "row"] (defScope (cSt 59 0)) := ⟨rfl, rfl, rfl, by decide +kernel, rfl, by decide +kernel, by decide +kernel⟩
theorem ok_board_init (T : Txt K mg) (F : DefAt1 K "__init__" "Board.__init__" (cSt 59 0) f) : DOk P w K mg base CX0 1 f ["self", "row"] (spBoardInit K) := by
  refine F.ok scBI (fun _ _ _ _ _ _ _ us its hl h1 => match us, its, hl, h1 with | [_, _], [_], _, _ => ⟨_, rfl, rfl⟩) (fun vs H Q E h => ?_) (fun cdv A outer s H vs Q E hr h => ?_)
  · obtain ⟨H0, p, dx, a, r, rfl, _⟩ := h
    rfl
  · obtain ⟨H0, p, dx, a, r, rfl, ha, hl, s0, p0, hp, k⟩ := h
    refine ⟨_, (pss_cons (ps_asg (pe_tup (pa_cons (pe_callTy call_tuple_of (by rfl) (T.f "tuple") (by decide +kernel) (pa_cons (pv 1) pa_nil)) (pa_cons pe_non pa_nil))) (pg_tup rfl (pgs_cons (pg_fld (pv 0)) (pgs_cons (pg_fld (pv 0)) pgs_nil))))
      (pss_one (ps_asg (pe_tup (pa_cons pe_dnewK (pa_cons pe_dnewK (pa_cons (pe_lst pa_nil) pa_nil)))) (pg_tup rfl (pgs_cons (pg_fld (pv 0)) (pgs_cons (pg_fld (pv 0)) (pgs_cons (pg_fld (pv 0)) pgs_nil))))))), ?_⟩
    refine ⟨_, rfl, a, _, rfl, .inl ⟨s0.seq ha, fun t ht => ?_⟩⟩
    have npt : p ≠ t := ne_of_none hp ht
    have t0 : H0 t = none := s0.free ht
    refine ⟨by show 2 ≤ sizeLine; decide, fun q hq => ?_⟩
    have npq : p ≠ q := ne_of_none (by rw [upd_ne npt]; exact hp) hq
    refine ⟨q, _, rfl, SqT.of upd_same, rfl, _, _, rfl, ?_⟩
    refine ⟨_, rfl, p, _, dx, _, rfl, by rw [upd_ne npq, upd_ne npt]; exact hp, T.cB, T.nB "own_row" (by decide +kernel), (by show 0 < 1000; decide), ?_⟩
    refine ⟨_, _, rfl, _, rfl, p, _, dx, _, rfl, upd_same, T.cB, T.nB "own_limit" (by decide +kernel), (by show 1 < 1000; decide), rfl, ?_⟩
    have s1 : Same H0 (upd (upd (upd (upd H t (.tup (rowV r))) q (.tup [.ref t, .non])) p (.ins (cBoard K) dx (putF "own_row" (.ref t) []))) p (.ins (cBoard K) dx (putF "own_limit" .non (putF "own_row" (.ref t) [])))) :=
      Same.own (Same.own (Same.upd (Same.upd s0 t0) (s0.free (free1 hq))) p0) p0
    have hp1 : (upd (upd (upd (upd H t (.tup (rowV r))) q (.tup [.ref t, .non])) p (.ins (cBoard K) dx (putF "own_row" (.ref t) []))) p (.ins (cBoard K) dx (putF "own_limit" .non (putF "own_row" (.ref t) [])))) p = some (.ins (cBoard K) dx (putF "own_limit" .non (putF "own_row" (.ref t) []))) := upd_same
    have ht1 : (upd (upd (upd (upd H t (.tup (rowV r))) q (.tup [.ref t, .non])) p (.ins (cBoard K) dx (putF "own_row" (.ref t) []))) p (.ins (cBoard K) dx (putF "own_limit" .non (putF "own_row" (.ref t) [])))) t = some (.tup (rowV r)) := by
      rw [upd_ne npt.symm, upd_ne npt.symm, upd_ne (ne_of_none upd_same hq), upd_same]
    generalize (upd (upd (upd (upd H t (.tup (rowV r))) q (.tup [.ref t, .non])) p (.ins (cBoard K) dx (putF "own_row" (.ref t) []))) p (.ins (cBoard K) dx (putF "own_limit" .non (putF "own_row" (.ref t) [])))) = H1 at s1 hp1 ht1
    intro d1 hd1
    intro d2 hd2
    refine ⟨Nat.zero_le _, fun l hl1 => ?_⟩
    refine ⟨by show 3 ≤ sizeLine; decide, fun q2 hq2 => ?_⟩
    have z : Same H1 (upd (upd (upd (upd H1 d1 (.dK [])) d2 (.dK [])) l (.lst [])) q2 (.tup [.ref d1, .ref d2, .ref l])) := Same.upd (Same.upd (Same.upd (Same.new hd1) (free1 hd2)) (free1 (free1 hl1))) (free1 (free1 (free1 hq2)))
    have hl2 : (upd (upd (upd (upd H1 d1 (.dK [])) d2 (.dK [])) l (.lst [])) q2 (.tup [.ref d1, .ref d2, .ref l])) l = some (.lst []) := by rw [upd_ne (ne_of_none upd_same hq2), upd_same]
    have l0 : H1 l = none := free1 (free1 hl1)
    have hq3 : (upd (upd (upd (upd H1 d1 (.dK [])) d2 (.dK [])) l (.lst [])) q2 (.tup [.ref d1, .ref d2, .ref l])) q2 = some (.tup [.ref d1, .ref d2, .ref l]) := upd_same
    generalize (upd (upd (upd (upd H1 d1 (.dK [])) d2 (.dK [])) l (.lst [])) q2 (.tup [.ref d1, .ref d2, .ref l])) = H2 at z hl2 hq3
    refine ⟨q2, _, rfl, SqT.of hq3, rfl, _, _, rfl, ?_⟩
    refine ⟨_, rfl, p, _, dx, _, rfl, z _ _ hp1, T.cB, T.nB "own_views" (by decide +kernel), (by show 2 < 1000; decide), ?_⟩
    refine ⟨_, _, rfl, _, rfl, p, _, dx, _, rfl, upd_same, T.cB, T.nB "own_frames" (by decide +kernel), (by show 3 < 1000; decide), ?_⟩
    refine ⟨_, _, rfl, _, rfl, p, _, dx, _, rfl, upd_same, T.cB, T.nB "own_past" (by decide +kernel), (by show 4 < 1000; decide), rfl, ?_⟩
    have npl : p ≠ l := ne_of_none hp1 l0
    refine k _ l (Same.own (Same.own (Same.own (Same.trans s1 z) p0) p0) p0) (s1.free l0) ⟨⟨dx, t, .ref d1, .ref d2, upd_same, SqT.of ?_⟩, ⟨[], ?_, .nil⟩, trivial, hl⟩
    · rw [upd_ne npt.symm, upd_ne npt.symm, upd_ne npt.symm]
      exact z _ _ ht1
    · rw [upd_ne npl.symm, upd_ne npl.symm, upd_ne npl.symm]
      exact hl2
theorem scBS : FnScope ["self"] ["self"] (defScope (cSt 59 2)) := ⟨rfl, rfl, rfl, by decide +kernel, rfl, by decide +kernel, by decide +kernel⟩
theorem ok_state (T : Txt K mg) (F : DefAt K "state" "Board.state" (cSt 59 2) f) : DOk P w K mg base CX0 1 f ["self"] (spState K) := by
  refine F.ok scBS (fun _ _ _ _ _ _ us hl => match us, hl with | [_], _ => rfl) (fun vs H Q E h => ?_) (fun cdv A outer s H vs Q E hr h => ?_)
  · obtain ⟨p, dx, a, b, c, d, e, rfl, _⟩ := h
    rfl
  · obtain ⟨p, dx, a, b, c, d, e, rfl, hp, k⟩ := h
    refine ⟨_, (pss_one (ps_ret (pe_tup (pa_cons (pe_fld (pv 0) rfl) (pa_cons (pe_fld (pv 0) rfl) (pa_cons (pe_fld (pv 0) rfl) (pa_cons (pe_fld (pv 0) rfl) pa_nil))))))), ?_⟩
    refine ⟨_, rfl, p, _, dx, _, _, rfl, hp, T.cB, T.nB "own_row" (by decide +kernel), rfl, _, rfl, p, _, dx, _, _, rfl, hp, T.cB, T.nB "own_limit" (by decide +kernel), rfl,
      _, rfl, p, _, dx, _, _, rfl, hp, T.cB, T.nB "own_views" (by decide +kernel), rfl, _, rfl, p, _, dx, _, _, rfl, hp, T.cB, T.nB "own_frames" (by decide +kernel), rfl, ?_⟩
    exact ⟨by show 4 ≤ sizeLine; decide, fun t ht => k t ht⟩
theorem scBT : FnScope ["self", "state"] ["self", "state"] (defScope (cSt 59 3)) := ⟨rfl, rfl, rfl, by decide +kernel, rfl, by decide +kernel, by decide +kernel⟩
theorem ok_set_to (T : Txt K mg) (F : DefAt K "set_to" "Board.set_to" (cSt 59 3) f) : DOk P w K mg base CX0 1 f ["self", "state"] (spSetTo K) := by
  refine F.ok scBT (fun _ _ _ _ _ _ us hl => match us, hl with | [_, _], _ => rfl) (fun vs H Q E h => ?_) (fun cdv A outer s H vs Q E hr h => ?_)
  · obtain ⟨p, dx, t, a, b, c, d, e, a', b', c', d', rfl, _⟩ := h
    rfl
  · obtain ⟨p, dx, t, a, b, c, d, e, a', b', c', d', rfl, hp, ht, k⟩ := h
    refine ⟨_, (pss_one (ps_asg (pv 1) (pg_tup rfl (pgs_cons (pg_fld (pv 0)) (pgs_cons (pg_fld (pv 0)) (pgs_cons (pg_fld (pv 0)) (pgs_cons (pg_fld (pv 0)) pgs_nil))))))), ?_⟩
    refine ⟨_, rfl, t, _, rfl, SqT.of ht, rfl, _, _, rfl, ?_⟩
    refine ⟨_, rfl, p, _, dx, _, rfl, hp, T.cB, T.nB "own_row" (by decide +kernel), (by show 5 < 1000; decide), ?_⟩
    refine ⟨_, _, rfl, _, rfl, p, _, dx, _, rfl, upd_same, T.cB, T.nB "own_limit" (by decide +kernel), (by show 5 < 1000; decide), ?_⟩
    refine ⟨_, _, rfl, _, rfl, p, _, dx, _, rfl, upd_same, T.cB, T.nB "own_views" (by decide +kernel), (by show 5 < 1000; decide), ?_⟩
    refine ⟨_, _, rfl, _, rfl, p, _, dx, _, rfl, upd_same, T.cB, T.nB "own_frames" (by decide +kernel), (by show 5 < 1000; decide), rfl, ?_⟩
    rw [upd_upd, upd_upd, upd_upd]
    exact k
theorem scBK : FnScope ["self"] ["self"] (defScope (cSt 59 4)) := ⟨rfl, rfl, rfl, by decide +kernel, rfl, by decide +kernel, by decide +kernel⟩
theorem ok_keep (T : Txt K mg) (F : DefAt K "keep" "Board.keep" (cSt 59 4) f) (Gstate : DOk P w K mg base CX0 1 (ma K (ga K "Board") "state") ["self"] (spState K)) : DOk P w K mg base CX0 2 f ["self"] (spKeep K) := by
  refine F.ok scBK (fun _ _ _ _ _ _ us hl => match us, hl with | [_], _ => rfl) (fun vs H Q E h => ?_) (fun cdv A outer s H vs Q E hr h => ?_)
  · obtain ⟨p, l, m, past, rfl, _⟩ := h
    rfl
  · obtain ⟨p, l, m, past, rfl, B, hn, k⟩ := h
    refine ⟨_, (pss_one (ps_expr (pe_bm PySem.F.plainAttrs_list PySem.F.slot_list_append PySem.F.type_list_append mt_append (pe_fld (pv 0) rfl) (pa_cons (pmt0 (pv 0) T.cB (T.mB "state" (by decide +kernel)) Gstate (hr.mono (by decide)) pass0) pa_nil)))), ?_⟩
    have npl := B.ne
    obtain ⟨⟨dx, r, dv, df, hp, hr⟩, ⟨ps, hl, hps⟩, lk, ln⟩ := B
    have lps := Paired.len hps
    refine ⟨_, rfl, p, _, dx, _, _, rfl, hp, T.cB, T.nB "own_past" (by decide +kernel), rfl, .inl ⟨rfl, _, SqL.of hl⟩, ?_⟩
    refine ⟨_, rfl, p, dx, _, rfl, hp, rfl, p, dx, _, _, _, _, _, rfl, hp, fun t ht => ?_⟩
    have nlt : l ≠ t := ne_of_none hl ht
    refine ⟨l, _, _, rfl, rfl, by rw [upd_ne nlt]; exact hl, small1000 (by omega), ?_⟩
    have kp : Kp [l] H (upd (upd H t (.tup [.ref r, limV m.2, dv, df])) l (.lst (ps ++ [.ref t]))) := Kp.put (Kp.new Kp.refl ht) List.mem_cons_self (by rw [upd_ne nlt]; exact hl) rfl
    refine k _ kp ⟨⟨dx, r, dv, df, ?_, kp.sqT hr⟩, ⟨ps ++ [.ref t], upd_same, Paired.snoc ⟨t, r, dv, df, rfl, ?_, kp.sqT hr, lk, ln⟩ (Paired.imp (fun _ _ w => w.kp kp) hps)⟩, lk, ln⟩
    · rw [upd_ne npl, upd_ne (ne_of_none hp ht)]
      exact hp
    · rw [upd_ne nlt.symm, upd_same]
theorem scBTk : FnScope ["self", "row"] ["self", "row"] (defScope (cSt 59 6)) := ⟨rfl, rfl, rfl, by decide +kernel, rfl, by decide +kernel, by decide +kernel⟩
theorem ok_take (T : Txt K mg) (F : DefAt K "take" "Board.take" (cSt 59 6) f) : DOk P w K mg base CX0 1 f ["self", "row"] (spTake K) := by
  refine F.ok scBTk (fun _ _ _ _ _ _ us hl => match us, hl with | [_, _], _ => rfl) (fun vs H Q E h => ?_) (fun cdv A outer s H vs Q E hr h => ?_)
  · obtain ⟨p, l, a, m, past, r, rfl, _⟩ := h
    rfl
  · obtain ⟨p, l, a, ⟨mr, lim⟩, past, r, rfl, B, ha, hlen, k⟩ := h
    refine ⟨_, (pss_one (ps_fld (pv 0) (pe_ifExp (pt_cmpR op_isN (pe_fld (pv 0) rfl) pe_non (nomark _)) (pe_callTy call_tuple_of (by rfl) (T.f "tuple") (by decide +kernel) (pa_cons (pv 1) pa_nil)) (pe_callTy call_tuple_of (by rfl) (T.f "tuple") (by decide +kernel) (pa_cons (pe_slice sl_tupA (pv 1) po_none (po_some (pe_fld (pv 0) rfl))) pa_nil))) rfl)), ?_⟩
    have npl := B.ne
    obtain ⟨⟨dx, r0, dv, df, hp, hr⟩, ⟨ps, hl, hps⟩, lk, ln⟩ := B
    have fin : ∀ (H1 : Hp) (q : Addr), Same H H1 → SqT K H1 q (rowV (cutR lim r)) → Q .non (upd H1 p (.ins (cBoard K) dx (putF "own_row" (.ref q) (brdF (.ref r0) (limV lim) dv df (.ref l))))) := by
      intro H1 q s1 hq
      have hp1 := s1 _ _ hp
      have kp1 : Kp [p] H1 (upd H1 p (.ins (cBoard K) dx (putF "own_row" (.ref q) (brdF (.ref r0) (limV lim) dv df (.ref l))))) := Kp.put Kp.refl List.mem_cons_self hp1 rfl
      have kp : Kp [p] H (upd H1 p (.ins (cBoard K) dx (putF "own_row" (.ref q) (brdF (.ref r0) (limV lim) dv df (.ref l))))) := Kp.trans (Same.kp s1) kp1
      exact k _ kp ⟨⟨dx, q, dv, df, upd_same, kp1.sqT hq⟩, ⟨ps, by rw [upd_ne npl.symm]; exact s1 _ _ hl, Paired.imp (fun _ _ w => w.kp kp) hps⟩, lk, hlen⟩
    refine ⟨_, rfl, p, _, dx, _, _, rfl, hp, T.cB, T.nB "own_limit" (by decide +kernel), rfl, rfl, _, rfl, ?_⟩
    cases lim with
    | none =>
      refine ⟨_, rfl, a, _, rfl, .inr ⟨ha, ?_⟩⟩
      exact ⟨_, rfl, p, _, dx, _, rfl, hp, T.cB, T.nB "own_row" (by decide +kernel), (by show 5 < 1000; decide), fin H a (Same.refl H) ha⟩
    | some c =>
      have hc : 0 ≤ c := lk
      refine ⟨_, rfl, _, rfl, p, _, dx, _, _, rfl, hp, T.cB, T.nB "own_limit" (by decide +kernel), rfl, c, rfl, a, _, rfl, ha, fun hw => ?_, fun _ q hq => ?_⟩
      · refine ⟨a, _, rfl, .inr ⟨ha, ?_⟩⟩
        exact ⟨_, rfl, p, _, dx, _, rfl, hp, T.cB, T.nB "own_row" (by decide +kernel), (by show 5 < 1000; decide), fin H a (Same.refl H) (by
          show SqT K H a (rowV (r.take c.toNat))
          rw [sIx_row r c hc hw]
          exact ha)⟩
      · have e1 : (upd H q (.tup (cutV (rowV r) none (some c)))) q = some (.tup (rowV (r.take c.toNat))) := by rw [upd_same, cut_row r c hc]
        refine ⟨q, _, rfl, .inr ⟨SqT.of e1, ?_⟩⟩
        exact ⟨_, rfl, p, _, dx, _, rfl, by rw [upd_ne (ne_of_none hp hq)]; exact hp, T.cB, T.nB "own_row" (by decide +kernel), (by show 5 < 1000; decide), fin _ q (Same.new hq) (SqT.of e1)⟩
theorem scBR : FnScope ["self"] ["self"] (defScope (cSt 59 7)) := ⟨rfl, rfl, rfl, by decide +kernel, rfl, by decide +kernel, by decide +kernel⟩
theorem ok_row (T : Txt K mg) (F : DefAt K "row" "Board.row" (cSt 59 7) f) : DOk P w K mg base CX0 1 f ["self"] (spRowOf K) := by
  refine F.ok scBR (fun _ _ _ _ _ _ us hl => match us, hl with | [_], _ => rfl) (fun vs H Q E h => ?_) (fun cdv A outer s H vs Q E hr h => ?_)
  · obtain ⟨p, l, m, past, rfl, _⟩ := h
    rfl
  · obtain ⟨p, l, m, past, rfl, B, k⟩ := h
    refine ⟨_, (pss_one (ps_ret (pe_fld (pv 0) rfl))), ?_⟩
    obtain ⟨⟨dx, r, dv, df, hp, hr⟩, _⟩ := B
    exact ⟨_, rfl, p, _, dx, _, _, rfl, hp, T.cB, T.nB "own_row" (by decide +kernel), rfl, k r hr⟩
theorem scBL : FnScope ["self"] ["self"] (defScope (cSt 59 8)) := ⟨rfl, rfl, rfl, by decide +kernel, rfl, by decide +kernel, by decide +kernel⟩
theorem ok_limit (T : Txt K mg) (F : DefAt K "limit" "Board.limit" (cSt 59 8) f) : DOk P w K mg base CX0 1 f ["self"] (spLimOf K) := by
  refine F.ok scBL (fun _ _ _ _ _ _ us hl => match us, hl with | [_], _ => rfl) (fun vs H Q E h => ?_) (fun cdv A outer s H vs Q E hr h => ?_)
  · obtain ⟨p, l, m, past, rfl, _⟩ := h
    rfl
  · obtain ⟨p, l, m, past, rfl, B, k⟩ := h
    refine ⟨_, (pss_one (ps_ret (pe_fld (pv 0) rfl))), ?_⟩
    obtain ⟨⟨dx, r, dv, df, hp, hr⟩, _⟩ := B
    exact ⟨_, rfl, p, _, dx, _, _, rfl, hp, T.cB, T.nB "own_limit" (by decide +kernel), rfl, k⟩
end
end TC

/-! Board's deeds -/
namespace TC
open PySem PySem.Spec PyProof.Rows L2 He
theorem outside_ne (r : List Str) (n : Str) : (rowV r).filter (fun x => !decide (x = .str n)) = rowV (outsideL r [n]) := by
  unfold outsideL
  refine rowV_filter _ _ (fun s => ?_) r
  show (!decide (V.str s = V.str n)) = !([n].contains s)
  congr 1
  by_cases h : s = n
  · subst h
    rw [decide_eq_true rfl]
    simp
  · rw [decide_eq_false fun z => h (V.str.inj z)]
    simp [h]
theorem run_len {K : PySem.W.Frag} {H : Hp} {v : V} {ss : List Stp} (R : RuleAt K H v ss) : True := trivial
def spUse (K : PySem.W.Frag) : Sp := fun vs H Q _ => ∃ (p l : Addr) (m : Mo) (past : List Mo) (n : Str), vs = [.ref p, .str n] ∧ BoardAt K H p l m past ∧ past.length ≤ 900 ∧ m.1.length ≤ 800 ∧
  ∀ H', Kp [p, l] H H' → BoardAt K H' p l (cutR m.2 (n :: outsideL m.1 [n]), m.2) (past ++ [m]) → Q .non H'
def spForgetIn (K : PySem.W.Frag) : Sp := fun vs H Q _ => ∃ (p l : Addr) (m : Mo) (past : List Mo) (n : Str), vs = [.ref p, .str n] ∧ BoardAt K H p l m past ∧ past.length ≤ 900 ∧ n ∈ m.1 ∧
  ∀ H', Kp [p, l] H H' → BoardAt K H' p l (outsideL m.1 [n], m.2) (past ++ [m]) → Q .non H'
def spDo (K : PySem.W.Frag) : Sp := fun vs H Q _ => ∃ (p l : Addr) (m : Mo) (past : List Mo) (v : V) (ss : List Stp), vs = [.ref p, v] ∧ BoardAt K H p l m past ∧ past.length ≤ 900 ∧ RuleAt K H v ss ∧ m.1.length + ss.length ≤ 900 ∧
  ∀ H', Kp [p, l] H H' → BoardAt K H' p l (cutR m.2 (runAll ss m.1), m.2) (past ++ [m]) → Q .non H'
def spCut (K : PySem.W.Frag) : Sp := fun vs H Q _ => ∃ (p l : Addr) (m : Mo) (past : List Mo) (c : Option Int), vs = [.ref p, limV c] ∧ BoardAt K H p l m past ∧ past.length ≤ 900 ∧ LimOk c ∧
  ∀ H', Kp [p, l] H H' → BoardAt K H' p l (cutR c m.1, c) (past ++ [m]) → Q .non H'
theorem kp1 {p l : Addr} {H H' : Hp} (h : Kp [p] H H') : Kp [p, l] H H' := h.mono fun x hx => by rw [List.mem_singleton.mp hx]; exact List.mem_cons_self
theorem kp2 {p l : Addr} {H H' : Hp} (h : Kp [l] H H') : Kp [p, l] H H' := h.mono fun x hx => by rw [List.mem_singleton.mp hx]; exact List.mem_cons_of_mem _ List.mem_cons_self
theorem BoardAt.same {K : PySem.W.Frag} {H H1 : Hp} {p l : Addr} {m : Mo} {past : List Mo} (b : BoardAt K H p l m past) (h : Same H H1) : BoardAt K H1 p l m past := b.kp (Same.kp (S := []) h) (by simp) (by simp)
section
variable {P : Program} {w : World} {K : PySem.W.Frag} {mg : Str → Option Value} {base : Heap} {f g : Addr}
theorem scBU : FnScope ["self", "name"] ["self", "name"] (defScope (cSt 59 23)) := ⟨rfl, rfl, rfl, by decide +kernel, rfl, by decide +kernel, by decide +kernel⟩
theorem ok_use (T : Txt K mg) (F : DefAt K "use" "Board.use" (cSt 59 23) f) (Gkeep : DOk P w K mg base CX0 2 (ma K (ga K "Board") "keep") ["self"] (spKeep K)) (Gtake : DOk P w K mg base CX0 1 (ma K (ga K "Board") "take") ["self", "row"] (spTake K))
    (Gtouched : DOk P w K mg base CX0 3 (ga K "touched") ["row", "name"] (spTouched K)) : DOk P w K mg base CX0 4 f ["self", "name"] (spUse K) := by
  refine F.ok scBU (fun _ _ _ _ _ _ us hl => match us, hl with | [_, _], _ => rfl) (fun vs H Q E h => ?_) (fun cdv A outer s H vs Q E hr h => ?_)
  · obtain ⟨p, l, m, past, n, rfl, _⟩ := h
    rfl
  · obtain ⟨p, l, m, past, n, rfl, B, hn, hm, k⟩ := h
    refine ⟨_, (pss_cons (ps_expr (pmt0 (pv 0) T.cB (T.mB "keep" (by decide +kernel)) Gkeep (hr.mono (by decide)) pass0))
      (pss_one (ps_expr (pmt (pv 0) T.cB (T.mB "take" (by decide +kernel)) Gtake (hr.mono (by decide)) pass0 (pa_cons (pcl Gtouched (hr.mono (by decide)) (by rfl) (T.g "touched") pass0 (pa_cons (pe_fld (pv 0) rfl) (pa_cons (pv 1) pa_nil))) pa_nil))))), ?_⟩
    obtain ⟨dx, r, dv, df, hp, hr⟩ := B.ex
    refine ⟨_, rfl, p, dx, _, rfl, hp, rfl, p, l, m, past, rfl, B, by omega, fun H1 k1 B1 => ?_⟩
    obtain ⟨dx1, r1, dv1, df1, hp1, hr1⟩ := B1.ex
    refine ⟨_, rfl, p, dx1, _, rfl, hp1, rfl, ?_⟩
    refine ⟨_, rfl, p, _, dx1, _, _, rfl, hp1, T.cB, T.nB "own_row" (by decide +kernel), rfl, _, rfl, r1, m.1, n, rfl, hr1, by omega, fun H2 q s2 e2 => ?_⟩
    have lo := outsideL_len m.1 [n]
    have cl := cutR_len m.2 (n :: outsideL m.1 [n])
    rw [List.length_cons] at cl
    refine ⟨p, l, q, m, past ++ [m], _, rfl, B1.same s2, SqT.of e2, by omega, fun H3 k3 B3 => ?_⟩
    exact k H3 (Kp.trans (kp2 k1) (Kp.trans (Same.kp s2) (kp1 k3))) B3
theorem scBF : FnScope ["self", "name", "own"] ["self", "name"] (defScope (cSt 59 24)) := ⟨rfl, rfl, rfl, by decide +kernel, rfl, by decide +kernel, by decide +kernel⟩
theorem ok_forget_in (T : Txt K mg) (F : DefAt K "forget" "Board.forget" (cSt 59 24) f) (Gkeep : DOk P w K mg base CX0 2 (ma K (ga K "Board") "keep") ["self"] (spKeep K)) : DOk P w K mg base CX0 3 f ["self", "name"] (spForgetIn K) := by
  refine F.ok scBF (fun _ _ _ _ _ _ us hl => match us, hl with | [_, _], _ => rfl) (fun vs H Q E h => ?_) (fun cdv A outer s H vs Q E hr h => ?_)
  · obtain ⟨p, l, m, past, n, rfl, _⟩ := h
    rfl
  · obtain ⟨p, l, m, past, n, rfl, B, hn, hm, k⟩ := h
    refine ⟨_, (pss_cons (ps_if (pt_cmpR op_notIn_seq (pv 1) (pe_fld (pv 0) rfl) (by rfl)) (pss_one ps_never) pss_nil)
      (pss_cons (ps_expr (pmt0 (pv 0) T.cB (T.mB "keep" (by decide +kernel)) Gkeep (hr.mono (by decide)) pass0))
      (pss_one (ps_fld (pv 0) (pe_callTy call_tuple_of (by rfl) (T.f "tuple") (by decide +kernel) (pa_cons (pe_lc (own := [("own", 2)]) (g := (gName 2)) (by rfl) scBF.nd (pi_tup (pe_fld (pv 0) rfl)) (blkOk_by (own := [("own", 2)]) (N := ["self", "name", "own"]) (sc := defScope (cSt 59 24)) (by decide +kernel)) (fun _ _ _ _ _ => (pg_name (i := 2) scBF.nd rfl (Or.inl rfl))) (fun _ _ _ _ _ => (pts_one (pt_cmpR op_ne (pv 2) (pv 1) (nomark _)))) (fun _ _ _ _ _ => (pv 2))) pa_nil)) rfl)))), ?_⟩
    obtain ⟨dx, r, dv, df, hp, hr⟩ := B.ex
    refine ⟨_, rfl, _, rfl, p, _, dx, _, _, rfl, hp, T.cB, T.nB "own_row" (by decide +kernel), rfl, r, _, rfl, .inr hr, rfl, flat_row _, _, rfl, ?_⟩
    have e0 : inV (.str n) (rowV m.1) = true := by
      rw [inV_row]
      exact List.contains_iff_mem.mpr hm
    rw [e0]
    refine ⟨_, rfl, p, dx, _, rfl, hp, rfl, p, l, m, past, rfl, B, by omega, fun H1 k1 B1 => ?_⟩
    have npl := B1.ne
    obtain ⟨⟨dx1, r1, dv1, df1, hp1, hr1⟩, ⟨ps, hl1, hps⟩, lk, ln⟩ := B1
    refine ⟨_, rfl, p, _, dx1, _, _, rfl, hp1, T.cB, T.nB "own_row" (by decide +kernel), rfl, r1, rfl, ⟨_, hr1⟩, fun D hD => ?_⟩
    refine lc_filt (fun x => !decide (x = .str n)) hr1 hD ?_ ?_ ?_
    · rw [rowV_len]
      exact small1000 (by omega)
    · intro i x acc hx hz N hN
      obtain ⟨sx, rfl⟩ : ∃ sx, x = V.str sx := by
        unfold rowV at hx
        rw [List.getElem?_map] at hx
        cases e : m.1[i]? with
        | none =>
          rw [e] at hx
          cases hx
        | some sx =>
          rw [e] at hx
          exact ⟨sx, (Option.some.inj hx).symm⟩
      refine ⟨rfl, _, rfl, _, rfl, rfl, _, rfl, ?_⟩
      cases e : !decide (V.str sx = V.str n) with
      | false =>
        rw [e] at hN
        exact hN
      | true =>
        rw [e] at hN
        exact ⟨_, rfl, _, upd_same, hz, by rw [upd_upd]; exact hN⟩
    · rw [outside_ne]
      refine ⟨D, _, rfl, .inl ⟨SqL.of upd_same, fun t ht => ?_⟩⟩
      have hp2 := Same.upd (o := .tup (rowV (outsideL m.1 [n]))) (Same.new (o := .lst (rowV (outsideL m.1 [n]))) hD) (free1 ht)
      have lo := outsideL_len m.1 [n]
      refine ⟨_, rfl, p, _, dx1, _, rfl, hp2 _ _ hp1, T.cB, T.nB "own_row" (by decide +kernel), (by show 5 < 1000; decide), ?_⟩
      have kq : Kp [p] H1 (upd (upd (upd H1 D (.lst (rowV (outsideL m.1 [n])))) t (.tup (rowV (outsideL m.1 [n])))) p (.ins (cBoard K) dx1 (putF "own_row" (.ref t) (brdF (.ref r1) (limV m.2) dv1 df1 (.ref l))))) :=
        Kp.put (Same.kp hp2) List.mem_cons_self (hp2 _ _ hp1) rfl
      refine k _ (Kp.trans (kp2 k1) (kp1 kq)) ⟨⟨dx1, t, dv1, df1, upd_same, SqT.of ?_⟩, ⟨ps, ?_, Paired.imp (fun _ _ w => w.kp kq) hps⟩, lk, by show (outsideL m.1 [n]).length ≤ 900; have : m.1.length ≤ 900 := ln; omega⟩
      · rw [upd_ne (ne_of_none (hp2 _ _ hp1 |> fun _ => (Same.new (o := .lst (rowV (outsideL m.1 [n]))) hD) _ _ hp1) ht).symm, upd_same]
      · rw [upd_ne npl.symm]
        exact hp2 _ _ hl1
theorem scBD : FnScope ["self", "rule"] ["self", "rule"] (defScope (cSt 59 25)) := ⟨rfl, rfl, rfl, by decide +kernel, rfl, by decide +kernel, by decide +kernel⟩
theorem ok_do (T : Txt K mg) (F : DefAt K "do" "Board.do" (cSt 59 25) f) (Gkeep : DOk P w K mg base CX0 2 (ma K (ga K "Board") "keep") ["self"] (spKeep K)) (Gtake : DOk P w K mg base CX0 1 (ma K (ga K "Board") "take") ["self", "row"] (spTake K))
    (Grule_call : DOk P w K mg base CX0 5 (ma K (cRule K) "__call__") ["self", "row"] (spRuleCall K)) : DOk P w K mg base CX0 6 f ["self", "rule"] (spDo K) := by
  refine F.ok scBD (fun _ _ _ _ _ _ us hl => match us, hl with | [_, _], _ => rfl) (fun vs H Q E h => ?_) (fun cdv A outer s H vs Q E hr h => ?_)
  · obtain ⟨p, l, m, past, v, ss, rfl, _⟩ := h
    rfl
  · obtain ⟨p, l, m, past, v, ss, rfl, B, hn, R, hm, k⟩ := h
    refine ⟨_, (pss_cons (ps_expr (pmt0 (pv 0) T.cB (T.mB "keep" (by decide +kernel)) Gkeep (hr.mono (by decide)) pass0))
      (pss_one (ps_expr (pmt (pv 0) T.cB (T.mB "take" (by decide +kernel)) Gtake (hr.mono (by decide)) pass0 (pa_cons (StX.pe_callO (pv 1) T.oR Grule_call.raw (hr.mono (by decide)) pass0 (pa_cons (pe_fld (pv 0) rfl) pa_nil)) pa_nil))))), ?_⟩
    obtain ⟨dx, r, dv, df, hp, hr⟩ := B.ex
    refine ⟨_, rfl, p, dx, _, rfl, hp, rfl, p, l, m, past, rfl, B, by omega, fun H1 k1 B1 => ?_⟩
    obtain ⟨dx1, r1, dv1, df1, hp1, hr1⟩ := B1.ex
    have R1 := R.kp k1
    obtain ⟨px, pdx, pt, pfv, pts, rfl, hpx, _⟩ := id R1
    refine ⟨_, rfl, p, dx1, _, rfl, hp1, rfl, ?_⟩
    refine ⟨_, rfl, px, rfl, _, rfl, p, _, dx1, _, _, rfl, hp1, T.cB, T.nB "own_row" (by decide +kernel), rfl, .inr ⟨pdx, _, hpx⟩, _, ss, r1, m.1, rfl, R1, hr1, by omega, fun H2 q s2 e2 => ?_⟩
    have cl := cutR_len m.2 (runAll ss m.1)
    have rl := runAll_len ss m.1
    refine ⟨p, l, q, m, past ++ [m], _, rfl, B1.same s2, e2, by omega, fun H3 k3 B3 => ?_⟩
    exact k H3 (Kp.trans (kp2 k1) (Kp.trans (Same.kp s2) (kp1 k3))) B3
theorem scBC : FnScope ["self", "number"] ["self", "number"] (defScope (cSt 59 26)) := ⟨rfl, rfl, rfl, by decide +kernel, rfl, by decide +kernel, by decide +kernel⟩
theorem ok_cut (T : Txt K mg) (F : DefAt K "cut" "Board.cut" (cSt 59 26) f) (Gkeep : DOk P w K mg base CX0 2 (ma K (ga K "Board") "keep") ["self"] (spKeep K)) (Gtake : DOk P w K mg base CX0 1 (ma K (ga K "Board") "take") ["self", "row"] (spTake K)) : DOk P w K mg base CX0 3 f ["self", "number"] (spCut K) := by
  refine F.ok scBC (fun _ _ _ _ _ _ us hl => match us, hl with | [_, _], _ => rfl) (fun vs H Q E h => ?_) (fun cdv A outer s H vs Q E hr h => ?_)
  · obtain ⟨p, l, m, past, c, rfl, _⟩ := h
    rfl
  · obtain ⟨p, l, m, past, c, rfl, B, hn, hc, k⟩ := h
    refine ⟨_, (pss_cons (ps_expr (pmt0 (pv 0) T.cB (T.mB "keep" (by decide +kernel)) Gkeep (hr.mono (by decide)) pass0))
      (pss_cons (ps_fld (pv 0) (pv 1) rfl)
      (pss_one (ps_expr (pmt (pv 0) T.cB (T.mB "take" (by decide +kernel)) Gtake (hr.mono (by decide)) pass0 (pa_cons (pe_fld (pv 0) rfl) pa_nil)))))), ?_⟩
    obtain ⟨dx, r, dv, df, hp, hr⟩ := B.ex
    refine ⟨_, rfl, p, dx, _, rfl, hp, rfl, p, l, m, past, rfl, B, by omega, fun H1 k1 B1 => ?_⟩
    have npl := B1.ne
    obtain ⟨⟨dx1, r1, dv1, df1, hp1, hr1⟩, ⟨ps, hl1, hps⟩, lk, ln⟩ := B1
    refine ⟨_, rfl, _, rfl, p, _, dx1, _, rfl, hp1, T.cB, T.nB "own_limit" (by decide +kernel), (by show 5 < 1000; decide), ?_⟩
    have kq : Kp [p] H1 (upd H1 p (.ins (cBoard K) dx1 (putF "own_limit" (limV c) (brdF (.ref r1) (limV m.2) dv1 df1 (.ref l))))) := Kp.put Kp.refl List.mem_cons_self hp1 rfl
    have hp2 : (upd H1 p (.ins (cBoard K) dx1 (putF "own_limit" (limV c) (brdF (.ref r1) (limV m.2) dv1 df1 (.ref l))))) p = some (.ins (cBoard K) dx1 (brdF (.ref r1) (limV c) dv1 df1 (.ref l))) := upd_same
    have B2 : BoardAt K (upd H1 p (.ins (cBoard K) dx1 (putF "own_limit" (limV c) (brdF (.ref r1) (limV m.2) dv1 df1 (.ref l))))) p l (m.1, c) (past ++ [m]) :=
      ⟨⟨dx1, r1, dv1, df1, hp2, kq.sqT hr1⟩, ⟨ps, by rw [upd_ne npl.symm]; exact hl1, Paired.imp (fun _ _ w => w.kp kq) hps⟩, hc, ln⟩
    generalize (upd H1 p (.ins (cBoard K) dx1 (putF "own_limit" (limV c) (brdF (.ref r1) (limV m.2) dv1 df1 (.ref l))))) = H2 at kq hp2 B2
    refine ⟨_, rfl, p, dx1, _, rfl, hp2, rfl, _, rfl, p, _, dx1, _, _, rfl, hp2, T.cB, T.nB "own_row" (by decide +kernel), rfl, ?_⟩
    have cl := cutR_len c m.1
    have ln' : m.1.length ≤ 900 := ln
    refine ⟨p, l, r1, (m.1, c), past ++ [m], m.1, rfl, B2, kq.sqT hr1, by show (cutR c m.1).length ≤ 900; omega, fun H3 k3 B3 => ?_⟩
    exact k H3 (Kp.trans (kp2 k1) (Kp.trans (kp1 kq) (kp1 k3))) B3
end
end TC

/-! row_deed, done, attempt, undo -/
namespace TC
open PySem PySem.Spec PyProof.Rows L2 He
inductive Deed where
  | use (n : Str)
  | forget (n : Str)
  | run (ss : List Stp)
def Deed.word : Deed → Str
  | .use _ => "use"
  | .forget _ => "forget"
  | .run _ => "do"
def Deed.app : Deed → Mo → Mo
  | .use n, m => (cutR m.2 (n :: outsideL m.1 [n]), m.2)
  | .forget n, m => (outsideL m.1 [n], m.2)
  | .run ss, m => (cutR m.2 (runAll ss m.1), m.2)
def Deed.pre : Deed → Mo → Prop
  | .use _, m => m.1.length ≤ 800
  | .forget n, m => n ∈ m.1
  | .run ss, m => m.1.length + ss.length ≤ 900
def DeedV (K : PySem.W.Frag) (H : Hp) (v : V) : Deed → Prop
  | .use n => v = .str n
  | .forget n => v = .str n
  | .run ss => RuleAt K H v ss
theorem DeedV.kp {K : PySem.W.Frag} {S : List Addr} {H H1 : Hp} (h : Kp S H H1) {v : V} {d : Deed} (b : DeedV K H v d) : DeedV K H1 v d := by
  cases d with
  | use n => exact b
  | forget n => exact b
  | run ss => exact RuleAt.kp h b
def spRowDeed (K : PySem.W.Frag) : Sp := fun vs H Q _ => ∃ (p l : Addr) (m : Mo) (past : List Mo) (d : Deed) (v : V), vs = [.ref p, .str d.word, v] ∧ BoardAt K H p l m past ∧ past.length ≤ 900 ∧ DeedV K H v d ∧ d.pre m ∧
  ∀ H', Kp [p, l] H H' → BoardAt K H' p l (d.app m) (past ++ [m]) → Q .non H'
def spDone (K : PySem.W.Frag) : Sp := fun vs H Q _ => ∃ (p l t : Addr) (m : Mo) (past : List Mo) (d : Deed) (v : V), vs = [.ref p, .ref t] ∧ SqT K H t [.str d.word, v] ∧ BoardAt K H p l m past ∧ past.length ≤ 900 ∧ DeedV K H v d ∧ d.pre m ∧
  ∀ H', Kp [p, l] H H' → BoardAt K H' p l (d.app m) (past ++ [m]) → Q .non H'
def spAttempt (K : PySem.W.Frag) : Sp := fun vs H Q _ => ∃ (p l t ds : Addr) (m : Mo) (past : List Mo) (d : Deed) (v : V), vs = [.ref p, .ref ds] ∧ H ds = some (.lst [.ref t]) ∧ ds ≠ l ∧ SqT K H t [.str d.word, v] ∧ BoardAt K H p l m past ∧ past.length ≤ 800 ∧ DeedV K H v d ∧ d.pre m ∧
  ∀ H' l', Kp [p, l] H H' → H l' = none → BoardAt K H' p l' (d.app m) (past ++ [m]) → Q .non H'
theorem paired_snoc {α β : Type} {R : α → β → Prop} : ∀ {xs : List α} {ys : List β} {b : β}, Paired R xs (ys ++ [b]) → ∃ zs a, xs = zs ++ [a] ∧ Paired R zs ys ∧ R a b
  | _, [], _, .cons r .nil => ⟨[], _, rfl, .nil, r⟩
  | _, _ :: _, _, .cons r t => by
    obtain ⟨zs, a, e, p, q⟩ := paired_snoc t
    exact ⟨_ :: zs, a, by rw [e]; rfl, .cons r p, q⟩
def spUndo (K : PySem.W.Frag) : Sp := fun vs H Q _ => ∃ (p l : Addr) (m m0 : Mo) (past : List Mo), vs = [.ref p] ∧ BoardAt K H p l m (past ++ [m0]) ∧ ∀ H', Kp [p, l] H H' → BoardAt K H' p l m0 past → Q (.bl true) H'
section
variable {P : Program} {w : World} {K : PySem.W.Frag} {mg : Str → Option Value} {base : Heap} {f g : Addr}
theorem scRD : FnScope ["self", "word", "what"] ["self", "word", "what"] (defScope (cSt 59 30)) := ⟨rfl, rfl, rfl, by decide +kernel, rfl, by decide +kernel, by decide +kernel⟩
theorem ok_row_deed (T : Txt K mg) (F : DefAt K "row_deed" "Board.row_deed" (cSt 59 30) f) (Guse : DOk P w K mg base CX0 4 (ma K (ga K "Board") "use") ["self", "name"] (spUse K)) (Gforget : DOk P w K mg base CX0 3 (ma K (ga K "Board") "forget") ["self", "name"] (spForgetIn K))
    (Gdo : DOk P w K mg base CX0 6 (ma K (ga K "Board") "do") ["self", "rule"] (spDo K)) : DOk P w K mg base CX0 7 f ["self", "word", "what"] (spRowDeed K) := by
  refine F.ok scRD (fun _ _ _ _ _ _ us hl => match us, hl with | [_, _, _], _ => rfl) (fun vs H Q E h => ?_) (fun cdv A outer s H vs Q E hr h => ?_)
  · obtain ⟨p, l, m, past, d, v, rfl, _⟩ := h
    rfl
  · obtain ⟨p, l, m, past, d, v, rfl, B, hn, D, pr, k⟩ := h
    refine ⟨_, (pss_one (ps_if (pt_cmpR op_eq (pv 1) pe_str (nomark _)) (pss_one (ps_expr (pmt (pv 0) T.cB (T.mB "use" (by decide +kernel)) Guse (hr.mono (by decide)) pass0 (pa_cons (pv 2) pa_nil)))) (pss_one (ps_if (pt_cmpR op_eq (pv 1) pe_str (nomark _)) (pss_one (ps_expr (pmt (pv 0) T.cB (T.mB "forget" (by decide +kernel)) Gforget (hr.mono (by decide)) pass0 (pa_cons (pv 2) pa_nil)))) (pss_one (ps_if (pt_cmpR op_eq (pv 1) pe_str (nomark _)) (pss_one (ps_expr (pmt (pv 0) T.cB (T.mB "do" (by decide +kernel)) Gdo (hr.mono (by decide)) pass0 (pa_cons (pv 2) pa_nil)))) (pss_one (ps_never)))))))), ?_⟩
    obtain ⟨dx, r, dv, df, hp, hr⟩ := B.ex
    cases d with
    | use n =>
      obtain rfl : v = .str n := D
      exact ⟨_, rfl, rfl, _, rfl, _, rfl, p, dx, _, rfl, hp, rfl, _, rfl, p, l, m, past, n, rfl, B, hn, pr, k⟩
    | forget n =>
      obtain rfl : v = .str n := D
      exact ⟨_, rfl, rfl, _, rfl, _, rfl, rfl, _, rfl, _, rfl, p, dx, _, rfl, hp, rfl, _, rfl, p, l, m, past, n, rfl, B, hn, pr, k⟩
    | run ss => exact ⟨_, rfl, rfl, _, rfl, _, rfl, rfl, _, rfl, _, rfl, rfl, _, rfl, _, rfl, p, dx, _, rfl, hp, rfl, _, rfl, p, l, m, past, v, ss, rfl, B, hn, D, pr, k⟩
theorem scDn : FnScope ["self", "deed", "word", "rest"] ["self", "deed"] (defScope (cSt 59 31)) := ⟨rfl, rfl, rfl, by decide +kernel, rfl, by decide +kernel, by decide +kernel⟩
theorem ok_done (T : Txt K mg) (F : DefAt K "done" "Board.done" (cSt 59 31) f) (Grow_deed : DOk P w K mg base CX0 7 (ma K (ga K "Board") "row_deed") ["self", "word", "what"] (spRowDeed K)) : DOk P w K mg base CX0 8 f ["self", "deed"] (spDone K) := by
  refine F.ok scDn (fun _ _ _ _ _ _ us hl => match us, hl with | [_, _], _ => rfl) (fun vs H Q E h => ?_) (fun cdv A outer s H vs Q E hr h => ?_)
  · obtain ⟨p, l, t, m, past, d, v, rfl, _⟩ := h
    rfl
  · obtain ⟨p, l, t, m, past, d, v, rfl, ht, B, hn, D, pr, k⟩ := h
    refine ⟨_, (pss_cons (ps_par rfl scDn.nd (i := 2) (j := 3) rfl rfl (by decide) rfl rfl (pa_cons (pe_ix ix_tup (pv 1) pe_int (fun _ _ => rfl)) (pa_cons (pe_slice sl_tupA (pv 1) (po_some pe_int) po_none) pa_nil)) (by rfl))
      (pss_one (ps_if (pt_cmpR op_eq (pv 2) pe_str (nomark _)) (pss_one (ps_never)) (pss_one (ps_if (pt_cmpR op_eq (pv 2) pe_str (nomark _)) (pss_one (ps_never)) (pss_one (ps_if (pt_cmpR op_eq (pv 2) pe_str (nomark _)) (pss_one ps_never) (pss_one (ps_if (pt_cmpR op_eq (pv 2) pe_str (nomark _)) (pss_one (ps_never)) (pss_one (ps_if (pt_cmpR op_eq (pv 2) pe_str (nomark _)) (pss_one (ps_never)) (pss_one (ps_expr (pmt (pv 0) T.cB (T.mB "row_deed" (by decide +kernel)) Grow_deed (hr.mono (by decide)) pass0 (pa_cons (pv 2) (pa_cons (pe_ix ix_tup (pv 3) pe_int (fun _ _ => rfl)) pa_nil)))))))))))))))), ?_⟩
    refine ⟨_, rfl, t, _, _, _, rfl, rfl, ht, atI_nat (j := 0) rfl, ?_⟩
    refine ⟨_, rfl, 1, rfl, t, _, rfl, ht, fun hw => absurd (show HT.sIx 2 0 (some 1) = 0 from hw.1) (by decide), fun _ q hq => ?_⟩
    have B1 := B.same (Same.new (o := .tup (cutV [.str d.word, v] (some 1) none)) hq)
    have D1 := D.kp (Same.kp (S := []) (Same.new (o := .tup (cutV [.str d.word, v] (some 1) none)) hq))
    have z1 := Same.new (o := .tup (cutV [.str d.word, v] (some 1) none)) hq
    have hq1 : (upd H q (.tup (cutV [.str d.word, v] (some 1) none))) q = some (.tup [v]) := upd_same
    refine ⟨_, _, rfl, ?_⟩
    generalize (upd H q (.tup (cutV [.str d.word, v] (some 1) none))) = H1 at B1 D1 z1 hq1
    obtain ⟨dx, r, dv, df, hp, hr⟩ := B1.ex
    have fin : ∀ (Q' : VK), (∀ H', Kp [p, l] H1 H' → BoardAt K H' p l (d.app m) (past ++ [m]) → Q' .non H') → spRowDeed K [.ref p, .str d.word, v] H1 Q' E0 := fun Q' k' => ⟨p, l, m, past, d, v, rfl, B1, hn, D1, pr, k'⟩
    have k1 : ∀ H', Kp [p, l] H1 H' → BoardAt K H' p l (d.app m) (past ++ [m]) → Q .non H' := fun H' kk => k H' (Kp.trans (Same.kp z1) kk)
    cases d <;> exact ⟨_, rfl, rfl, _, rfl, _, rfl, rfl, _, rfl, _, rfl, rfl, _, rfl, _, rfl, rfl, _, rfl, _, rfl, rfl, _, rfl, _, rfl, p, dx, _, rfl, hp, rfl, _, rfl, _, rfl, q, _, _, _, rfl, rfl, SqT.of hq1, atI_nat (j := 0) rfl, fin _ k1⟩
theorem scAt : FnScope ["self", "deeds", "state", "past", "number", "deed", "error", "raised", "value"] ["self", "deeds"] (defScope (cSt 59 32)) := ⟨rfl, rfl, rfl, by decide +kernel, rfl, by decide +kernel, by decide +kernel⟩
theorem ok_attempt (T : Txt K mg) (F : DefAt K "attempt" "Board.attempt" (cSt 59 32) f) (Gstate : DOk P w K mg base CX0 1 (ma K (ga K "Board") "state") ["self"] (spState K)) (Gdone : DOk P w K mg base CX0 8 (ma K (ga K "Board") "done") ["self", "deed"] (spDone K)) : DOk P w K mg base CX0 9 f ["self", "deeds"] (spAttempt K) := by
  refine F.ok scAt (fun _ _ _ _ _ _ us hl => match us, hl with | [_, _], _ => rfl) (fun vs H Q E h => ?_) (fun cdv A outer s H vs Q E hr h => ?_)
  · obtain ⟨p, l, t, ds, m, past, d, v, rfl, _⟩ := h
    rfl
  · obtain ⟨p, l, t, ds, m, past, d, v, rfl, hds, ndl, ht, B, hn, D, pr, k⟩ := h
    refine ⟨_, (pss_cons (ps_par rfl scAt.nd (i := 2) (j := 3) rfl rfl (by decide) rfl rfl (pa_cons (pmt0 (pv 0) T.cB (T.mB "state" (by decide +kernel)) Gstate (hr.mono (by decide)) pass0) (pa_cons (pe_callTy call_list_of (by rfl) (T.f "list") (by decide +kernel) (pa_cons (pe_fld (pv 0) rfl) pa_nil)) pa_nil)) (by rfl))
      (pss_cons (ps_for PassesOwn.never rfl (pi_enum (by rfl) (T.f "enumerate") (pa_cons (pv 1) pa_nil)) (pg_tup rfl (pgs_cons (pg_name (i := 4) scAt.nd rfl (Or.inl rfl)) (pgs_cons (pg_name (i := 5) scAt.nd rfl (Or.inl rfl)) pgs_nil))) (pss_one (ps_try_thru0 (pss_one (ps_expr (pmt (pv 0) T.cB (T.mB "done" (by decide +kernel)) Gdone (hr.mono (by decide)) pass0 (pa_cons (pe_callTy call_tuple_of (by rfl) (T.f "tuple") (by decide +kernel) (pa_cons (pv 5) pa_nil)) pa_nil)))))))
      (pss_one (ps_fld (pv 0) (pe_lst (StX.pa_star (pv 3) (pa_cons (pv 2) pa_nil))) rfl)))), ?_⟩
    have npl := B.ne
    obtain ⟨dx, r, dv, df, hp, hr⟩ := B.ex
    obtain ⟨ps, hl, hps⟩ := B.pst
    refine ⟨_, rfl, p, dx, _, rfl, hp, rfl, p, dx, _, _, _, _, _, rfl, hp, fun st hst => ?_⟩
    have z1 := Same.new (o := .tup [.ref r, limV m.2, dv, df]) hst
    refine ⟨_, rfl, p, _, dx, _, _, rfl, z1 _ _ hp, T.cB, T.nB "own_past" (by decide +kernel), rfl, l, _, rfl, .inl (SqL.of (z1 _ _ hl)), fun l2 hl2 => ?_⟩
    have z2 := Same.trans z1 (Same.new (o := .lst ps) hl2)
    have hl2' : (upd (upd H st (.tup [.ref r, limV m.2, dv, df])) l2 (.lst ps)) l2 = some (.lst ps) := upd_same
    have hst' : (upd (upd H st (.tup [.ref r, limV m.2, dv, df])) l2 (.lst ps)) st = some (.tup [.ref r, limV m.2, dv, df]) := by rw [upd_ne (ne_of_none upd_same hl2), upd_same]
    have l20 : H l2 = none := free1 hl2
    refine ⟨_, _, rfl, ?_⟩
    generalize (upd (upd H st (.tup [.ref r, limV m.2, dv, df])) l2 (.lst ps)) = H1 at z2 hl2' hst'
    have n2p : l2 ≠ p := (ne_of_none hp l20).symm
    have n2l : l2 ≠ l := (ne_of_none hl l20).symm
    have hds1 := z2 _ _ hds
    refine ⟨_, rfl, ds, _, rfl, SqL.of hds1, for_it (walk_enum (K := K) (a := ds) (xs := [V.ref t])) (fun i σ H' => ∃ v5 v6, σ = [some (.ref p), some (.ref ds), some (.ref st), some (.ref l2), v5, v6, none, none, none] ∧ Kp [p, l] H1 H' ∧ (i = 0 → H' = H1) ∧ (i = 1 → BoardAt K H' p l (d.app m) (past ++ [m])))
      ⟨_, _, rfl, Kp.refl, fun _ => rfl, (fun z => absurd z (by decide))⟩ (fun i σ H' _ ⟨_, _, _, kk, _⟩ => SqL.of (kk _ _ hds1 (.inl ?_))) ?_ ?_⟩
    · simp only [List.mem_cons, List.not_mem_nil, or_false]
      rintro (e | e)
      · exact ne_of hds hp (by intro z; cases z) e
      · exact ndl e
    · rintro i x σ H2 H3 hi ⟨v5, v6, rfl, kk, e0, _⟩ ⟨q, x1, x2, rfl, hq, rfl, ex1, ex2⟩
      have hi1 : i < 1 := hi
      obtain rfl : i = 0 := by omega
      obtain rfl := e0 rfl
      obtain rfl : V.ref t = x2 := Option.some.inj ex2
      have z3 := Same.new (o := .tup [x1, V.ref t]) hq
      refine ⟨q, _, rfl, SqT.of upd_same, rfl, _, _, rfl, _, _, rfl, rfl, ?_⟩
      have z4 := Same.trans z2 z3
      refine ⟨_, rfl, p, dx, _, rfl, z4 _ _ hp, rfl, _, rfl, t, _, rfl, .inr ⟨Same.sqT z4 ht, ?_⟩⟩
      refine ⟨p, l, t, m, past, d, v, rfl, Same.sqT z4 ht, B.same z4, by omega, D.kp (Same.kp (S := []) z4), pr, fun H5 k5 B5 => ?_⟩
      exact ⟨_, _, rfl, Kp.trans (Same.kp z3) k5, (fun z => absurd z (by decide)), fun _ => B5⟩
    · rintro σ H2 ⟨v5, v6, rfl, kk, _, B2⟩
      have B3 := B2 rfl
      have npl3 := B3.ne
      obtain ⟨⟨dx3, r3, dv3, df3, hp3, hr3⟩, ⟨ps3, hl3, hps3⟩, lk3, ln3⟩ := B3
      have e2 : H2 l2 = some (.lst ps) := kk _ _ hl2' (.inl (by
        simp only [List.mem_cons, List.not_mem_nil, or_false]
        rintro (e | e)
        · exact n2p e
        · exact n2l e))
      refine ⟨_, rfl, l2, _, rfl, .inr (SqL.of e2), _, rfl, ?_, fun l3 h3 => ?_⟩
      · show (ps ++ [V.ref st]).length ≤ sizeLine
        have := Paired.len hps
        rw [List.length_append, List.length_singleton]
        exact Nat.le_of_lt (small1000 (by omega))
      have n3p : p ≠ l3 := ne_of_none hp3 h3
      refine ⟨_, rfl, p, _, dx3, _, rfl, by rw [upd_ne n3p]; exact hp3, T.cB, T.nB "own_past" (by decide +kernel), (by show 5 < 1000; decide), ?_⟩
      have kq : Kp [p, l] H2 (upd (upd H2 l3 (.lst (ps ++ [V.ref st]))) p (.ins (cBoard K) dx3 (putF "own_past" (.ref l3) (brdF (.ref r3) (limV (d.app m).2) dv3 df3 (.ref l))))) :=
        Kp.put (Kp.new Kp.refl h3) List.mem_cons_self (by rw [upd_ne n3p]; exact hp3) rfl
      have kz : Kp [p, l] H _ := Kp.trans (Same.kp z2) (Kp.trans kk kq)
      have h30 : H l3 = none := by
        cases e : H l3 with
        | none => rfl
        | some o =>
          have y := Kp.trans (Same.kp z2) kk l3 o e
          by_cases q1 : l3 ∈ [p, l]
          · simp only [List.mem_cons, List.not_mem_nil, or_false] at q1
            rcases q1 with q1 | q1
            · exact absurd q1.symm n3p
            · rw [q1, hl3] at h3
              cases h3
          · have y2 := y (.inl q1)
            rw [h3] at y2
            cases y2
      refine k _ l3 kz h30 ⟨⟨dx3, r3, dv3, df3, upd_same, kq.sqT hr3⟩, ⟨ps ++ [V.ref st], by rw [upd_ne n3p.symm, upd_same], Paired.snoc ⟨st, r, dv, df, rfl, ?_, kz.sqT hr, B.lim, B.len⟩ (Paired.imp (fun _ _ w => w.kp kz) hps)⟩, lk3, ln3⟩
      exact Kp.tup (Kp.trans kk kq) hst'
theorem scUn : FnScope ["self"] ["self"] (defScope (cSt 59 33)) := ⟨rfl, rfl, rfl, by decide +kernel, rfl, by decide +kernel, by decide +kernel⟩
theorem ok_undo (T : Txt K mg) (F : DefAt K "undo" "Board.undo" (cSt 59 33) f) (Gset_to : DOk P w K mg base CX0 1 (ma K (ga K "Board") "set_to") ["self", "state"] (spSetTo K)) : DOk P w K mg base CX0 2 f ["self"] (spUndo K) := by
  refine F.ok scUn (fun _ _ _ _ _ _ us hl => match us, hl with | [_], _ => rfl) (fun vs H Q E h => ?_) (fun cdv A outer s H vs Q E hr h => ?_)
  · obtain ⟨p, l, m, m0, past, rfl, _⟩ := h
    rfl
  · obtain ⟨p, l, m, m0, past, rfl, B, k⟩ := h
    refine ⟨_, (pss_cons (ps_if (pt_cmpR op_eq (pe_callB call_len_seq (by rfl) (T.f "len") (by decide +kernel) (pa_cons (pe_fld (pv 0) rfl) pa_nil)) pe_int (nomark _)) (pss_one (ps_ret pe_bl)) pss_nil)
      (pss_cons (ps_expr (pmt (pv 0) T.cB (T.mB "set_to" (by decide +kernel)) Gset_to (hr.mono (by decide)) pass0 (pa_cons (pe_bm0 PySem.F.plainAttrs_list PySem.F.slot_list_pop PySem.F.type_list_pop mt_pop (pe_fld (pv 0) rfl)) pa_nil)))
      (pss_one (ps_ret pe_bl)))), ?_⟩
    have npl := B.ne
    obtain ⟨⟨dx, r, dv, df, hp, hr⟩, ⟨ps, hl, hps⟩, lk, ln⟩ := B
    obtain ⟨qs, y, rfl, hqs, hy⟩ : ∃ qs y, ps = qs ++ [y] ∧ Paired (PastAt K H) qs past ∧ PastAt K H y m0 := paired_snoc hps
    obtain ⟨t, r0, dv0, df0, rfl, ht, hr0, lk0, ln0⟩ := hy
    refine ⟨_, rfl, p, _, dx, _, _, rfl, hp, T.cB, T.nB "own_past" (by decide +kernel), rfl, l, _, rfl, .inl (SqL.of hl), rfl, _, rfl, ?_⟩
    refine ite2 (fun q => ?_) (fun _ => ?_)
    · exact absurd (V.int.inj (of_decide_eq_true q)) (by rw [List.length_append, List.length_singleton]; omega)
    refine ⟨_, rfl, p, dx, _, rfl, hp, rfl, ?_⟩
    refine ⟨_, rfl, p, _, dx, _, _, rfl, hp, T.cB, T.nB "own_past" (by decide +kernel), rfl, .inl ⟨rfl, _, SqL.of hl⟩, l, _, _, rfl, rfl, hl, (by rw [List.length_append]; exact List.getElem?_concat_length), ?_⟩
    rw [List.dropLast_concat]
    have kl : Kp [l] H (upd H l (.lst qs)) := Kp.put Kp.refl List.mem_cons_self hl rfl
    refine ⟨p, dx, t, _, _, _, _, _, _, _, _, _, rfl, by rw [upd_ne npl]; exact hp, kl.tup ht, ?_⟩
    have kp' : Kp [p] (upd H l (.lst qs)) (upd (upd H l (.lst qs)) p (.ins (cBoard K) dx (brdF (.ref r0) (limV m0.2) dv0 df0 (.ref l)))) := Kp.put Kp.refl List.mem_cons_self (by rw [upd_ne npl]; exact hp) rfl
    have kk : Kp [p, l] H _ := Kp.trans (kp2 kl) (kp1 kp')
    exact k _ kk ⟨⟨dx, r0, dv0, df0, upd_same, kk.sqT hr0⟩, ⟨qs, by rw [upd_ne npl.symm, upd_same], Paired.imp (fun _ _ w => w.kp kk) hqs⟩, lk0, ln0⟩
end
end TC

/-! the urn -/
namespace TC
open PySem PySem.Spec PyProof.Rows L2 He
/-- the urn at u, at most M numbers drawn by the second road -/
def UrnAt (H : Hp) (u : Addr) (M : Nat) : Prop := ∃ a b c : Int, H u = some (.lst [.int a, .int b, .int c]) ∧ 0 ≤ b ∧ b < 4611686018427387904 ∧ 0 ≤ c ∧ c ≤ ((M : Nat) : Int)
theorem UrnAt.mono {H : Hp} {u : Addr} {M N : Nat} (h : UrnAt H u M) (l : M ≤ N) : UrnAt H u N := by
  obtain ⟨a, b, c, e, h1, h2, h3, h4⟩ := h
  exact ⟨a, b, c, e, h1, h2, h3, by omega⟩
theorem UrnAt.same {H H1 : Hp} {u : Addr} {M : Nat} (h : UrnAt H u M) (s : Same H H1) : UrnAt H1 u M := by
  obtain ⟨a, b, c, e, q⟩ := h
  exact ⟨a, b, c, s _ _ e, q⟩
theorem UrnAt.kp {S : List Addr} {H H1 : Hp} {u : Addr} {M : Nat} (h : UrnAt H u M) (s : Kp S H H1) (n : u ∉ S) : UrnAt H1 u M := by
  obtain ⟨a, b, c, e, q⟩ := h
  exact ⟨a, b, c, s _ _ e (.inl n), q⟩
theorem UrnAt.lst {H : Hp} {u : Addr} {M : Nat} (h : UrnAt H u M) : ∃ xs, H u = some (.lst xs) := by
  obtain ⟨a, b, c, e, q⟩ := h
  exact ⟨_, e⟩
def spBox (K : PySem.W.Frag) : Sp := fun vs H Q _ => ∃ (a : Addr) (zs : List Int) (k : Nat), vs = [.ref a, .int ((k : Nat) : Int)] ∧ SqL K H a (zs.map V.int) ∧ k ≤ 10 ∧ ∀ H' u, Same H H' → H u = none → UrnAt H' u 0 → Q (.ref u) H'
def spLawTake : Sp := fun vs H Q _ => ∃ (u : Addr) (M : Nat) (low : Int), vs = [.ref u, .int low] ∧ UrnAt H u M ∧ M ≤ 100000 ∧ 0 < low ∧ low < 1000 ∧ ∀ H' n, Kp [u] H H' → UrnAt H' u (M + 1) → 0 ≤ n → n < low → Q (.int n) H'
def spLawOf (K : PySem.W.Frag) : Sp := fun vs H Q _ => ∃ (u s : Addr) (M : Nat) (xs : List V), vs = [.ref u, .ref s] ∧ UrnAt H u M ∧ M ≤ 100000 ∧ s ≠ u ∧ SqL K H s xs ∧ 0 < xs.length ∧ xs.length < 1000 ∧ ∀ H' v, Kp [u] H H' → UrnAt H' u (M + 1) → v ∈ xs → Q v H'
theorem b01 (k : Bool) : (-(2 ^ 64) : Int) < (if k = true then 1 else 0) ∧ (if k = true then (1 : Int) else 0) < 2 ^ 64 := by
  cases k <;> decide
theorem cut6 {B : Prop} {R : Int → Prop} (f : (∀ z, R z) → B) (a : ∀ z, R z) : B := f a
theorem Kp.sqL {K : PySem.W.Frag} {S : List Addr} {H H1 : Hp} (h : Kp S H H1) {a : Addr} {xs : List V} (e : SqL K H a xs) (n : a ∉ S) : SqL K H1 a xs := by
  rcases e with (e | ⟨o, e⟩) | e
  · exact .inl (.inl (h _ _ e (.inl n)))
  · exact .inl (.inr ⟨o, h _ _ e (.inl n)⟩)
  · exact .inr e
section
variable {P : Program} {w : World} {K : PySem.W.Frag} {mg : Str → Option Value} {base : Heap} {f g : Addr}
theorem scBox : FnScope ["_law_script", "_law_k", "_law_cell"] ["_law_script", "_law_k"] (defScope (topS 61)) := ⟨rfl, rfl, rfl, by decide +kernel, rfl, by decide +kernel, by decide +kernel⟩
theorem ok_box (T : Txt K mg) (F : DefAt K "_law_box" "_law_box" (topS 61) f) : DOk P w K mg base CX0 1 f ["_law_script", "_law_k"] (spBox K) := by
  refine F.ok scBox (fun _ _ _ _ _ _ us hl => match us, hl with | [_, _], _ => rfl) (fun vs H Q E h => ?_) (fun cdv A outer s H vs Q E hr h => ?_)
  · obtain ⟨a, zs, k, rfl, _⟩ := h
    rfl
  · obtain ⟨a, zs, kk, rfl, ha, hk, k⟩ := h
    refine ⟨_, (pss_cons (ps_set (i := 2) scBox.nd rfl (Or.inl rfl) (pe_ifExp (pt_cmpR op_lt (pv 1) (pe_callB call_len_seq (by rfl) (T.f "len") (by decide +kernel) (pa_cons (pv 0) pa_nil)) (nomark _)) (pe_ix ix_list (pv 0) (pv 1) (fun _ _ => rfl)) pe_int))
      (pss_one (ps_ret (pe_lst (pa_cons (pe_op op_mul (pe_callB call_abs (by rfl) (T.f "abs") (by decide +kernel) (pa_cons (pv 2) pa_nil)) (pe_callTy call_int1 (by rfl) (T.f "int") (by decide +kernel) (pa_cons (pe_cmpR op_ge (pe_callB call_abs (by rfl) (T.f "abs") (by decide +kernel) (pa_cons (pv 2) pa_nil)) (pe_op op_pow pe_int pe_int) (nomark _)) pa_nil))) (pa_cons (pe_op op_add (pe_op op_add (pe_op op_mod (pe_callTy call_int1 (by rfl) (T.f "int") (by decide +kernel) (pa_cons (pv 2) pa_nil)) pe_int) (pe_op op_mul pe_int (pv 1))) pe_int) (pa_cons pe_int pa_nil))))))), ?_⟩
    -- the cell
    apply cut6
    · intro REST
      refine ⟨_, rfl, _, rfl, a, _, rfl, .inl ha, _, _, rfl, rfl, _, rfl, ?_⟩
      refine ite2 (fun q => ?_) (fun q => ?_)
      · have q1 : kk < zs.length := by
          have := of_decide_eq_true q
          rw [List.length_map] at this
          omega
        obtain ⟨z, hz⟩ : ∃ z, zs[kk]? = some z := ⟨_, List.getElem?_eq_getElem q1⟩
        exact ⟨_, rfl, _, rfl, a, _, _, _, rfl, rfl, ha, atI_nat (j := kk) (by rw [List.getElem?_map, hz]; rfl), REST z⟩
      · exact REST 0
    · intro z
      -- abs(cell) * int(abs(cell) >= 10 ** 18)
      refine ⟨_, rfl, _, rfl, _, rfl, _, rfl, _, _, rfl, rfl, ⟨by decide, by decide, by decide⟩, _, _, rfl, rfl, .inr ⟨_, rfl, _, _, rfl, rfl, .inr (b01 _), ?_⟩⟩
      refine ⟨_, rfl, .inl ⟨z, rfl, _, _, rfl, rfl, (by show (0 : Int) < 2305843009213693951; decide), _, rfl, _, _, rfl, rfl, .inl ⟨by decide, by decide⟩, _, _, rfl, rfl, _, _, rfl, rfl, ?_⟩⟩
      refine ⟨by show 3 ≤ sizeLine; decide, fun u hu => ?_⟩
      have h1 := Int.emod_nonneg z (show (2305843009213693951 : Int) ≠ 0 by decide)
      have h2 := Int.emod_lt_of_pos z (show (0 : Int) < 2305843009213693951 by decide)
      exact k _ u (Same.new hu) hu ⟨_, _, 0, upd_same, by omega, by omega, Int.le_refl _, Int.le_refl _⟩
theorem scTk : FnScope ["_law_urn", "_law_low_so", "_law_once", "_law_far", "_law_twice", "_law_drawn"] ["_law_urn", "_law_low_so"] (defScope (topS 62)) := ⟨rfl, rfl, rfl, by decide +kernel, rfl, by decide +kernel, by decide +kernel⟩
theorem ok_law_take (T : Txt K mg) (F : DefAt K "_law_take" "_law_take" (topS 62) f) : DOk P w K mg base CX0 1 f ["_law_urn", "_law_low_so"] spLawTake := by
  refine F.ok scTk (fun _ _ _ _ _ _ us hl => match us, hl with | [_, _], _ => rfl) (fun vs H Q E h => ?_) (fun cdv A outer s H vs Q E hr h => ?_)
  · obtain ⟨u, M, low, rfl, _⟩ := h
    rfl
  · obtain ⟨u, M, low, rfl, ⟨a, b, c, hu, b0, b1, c0, c1⟩, hM, l0, l1, k⟩ := h
    refine ⟨_, (pss_cons (ps_if (pt_cmpR op_gt (pe_ix ix_list (pv 0) pe_int (fun _ _ => rfl)) pe_int (nomark _)) (pss_cons (ps_set (i := 5) scTk.nd rfl (Or.inl rfl) (pe_op op_mod (pe_callTy call_int1 (by rfl) (T.f "int") (by decide +kernel) (pa_cons (pe_ix ix_list (pv 0) pe_int (fun _ _ => rfl)) pa_nil)) (pv 1)))
      (pss_cons (ps_asg (pe_op op_fdiv (pe_ix ix_list (pv 0) pe_int (fun _ _ => rfl)) (pv 1)) (pg_sub (pv 0) pe_int set_list))
      (pss_one (ps_ret (pv 5))))) pss_nil)
      (pss_cons (ps_asg (pe_op op_add (pe_ix ix_list (pv 0) pe_int (fun _ _ => rfl)) pe_int) (pg_sub (pv 0) pe_int set_list))
      (pss_cons (ps_set (i := 2) scTk.nd rfl (Or.inl rfl) (pe_op op_mod (pe_callTy call_int1 (by rfl) (T.f "int") (by decide +kernel) (pa_cons (pe_op op_mul (pe_op op_add (pe_ix ix_list (pv 0) pe_int (fun _ _ => rfl)) (pe_op op_mul pe_int (pe_ix ix_list (pv 0) pe_int (fun _ _ => rfl)))) (pe_op op_add pe_int (pe_ix ix_list (pv 0) pe_int (fun _ _ => rfl)))) pa_nil)) pe_int))
      (pss_cons (ps_set (i := 3) scTk.nd rfl (Or.inl rfl) (pe_op op_add (pe_op op_mod (pe_callTy call_int1 (by rfl) (T.f "int") (by decide +kernel) (pa_cons (pv 2) pa_nil)) pe_int) pe_int))
      (pss_cons (ps_set (i := 4) scTk.nd rfl (Or.inl rfl) (pe_op op_mod (pe_callTy call_int1 (by rfl) (T.f "int") (by decide +kernel) (pa_cons (pe_op op_mul (pe_op op_add (pe_op op_add (pv 2) (pe_ix ix_list (pv 0) pe_int (fun _ _ => rfl))) (pe_op op_fdiv (pe_ix ix_list (pv 0) pe_int (fun _ _ => rfl)) pe_int)) (pv 3)) pa_nil)) pe_int))
      (pss_one (ps_ret (pe_op op_mod (pe_callTy call_int1 (by rfl) (T.f "int") (by decide +kernel) (pa_cons (pe_op op_fdiv (pe_op op_mod (pe_callTy call_int1 (by rfl) (T.f "int") (by decide +kernel) (pa_cons (pe_op op_add (pe_op op_mul (pv 4) pe_int) (pv 2)) pa_nil)) pe_int) pe_int) pa_nil)) (pv 1))))))))), ?_⟩
    refine ⟨_, rfl, u, _, _, _, rfl, rfl, SqL.of hu, atI_nat (j := 0) rfl, _, _, rfl, rfl, _, rfl, ?_⟩
    refine ite2 (fun _ => ?_) (fun _ => ?_)
    · refine ⟨_, rfl, u, _, _, _, rfl, rfl, SqL.of hu, atI_nat (j := 0) rfl, .inl ⟨a, rfl, _, rfl, _, _, rfl, rfl, l0, ?_⟩⟩
      refine ⟨_, rfl, u, _, _, _, rfl, rfl, SqL.of hu, atI_nat (j := 0) rfl, _, rfl, _, _, rfl, rfl, ⟨l0, by omega⟩, _, rfl, u, _, _, 0, rfl, rfl, hu, rfl, ?_⟩
      refine ⟨_, rfl, k _ _ (Kp.put Kp.refl List.mem_cons_self hu rfl) ⟨_, b, c, upd_same, b0, b1, c0, by omega⟩ (Int.emod_nonneg _ (by omega)) (Int.emod_lt_of_pos _ l0)⟩
    · refine ⟨_, rfl, u, _, _, _, rfl, rfl, SqL.of hu, atI_nat (j := 2) rfl, _, _, rfl, rfl, _, rfl, u, _, _, 2, rfl, rfl, hu, rfl, ?_⟩
      have hu1 : (upd H u (.lst ([V.int a, .int b, .int c].set 2 (.int (c + 1))))) u = some (.lst [.int a, .int b, .int (c + 1)]) := upd_same
      have kq : Kp [u] H (upd H u (.lst ([V.int a, .int b, .int c].set 2 (.int (c + 1))))) := Kp.put Kp.refl List.mem_cons_self hu rfl
      generalize (upd H u (.lst ([V.int a, .int b, .int c].set 2 (.int (c + 1))))) = H1 at hu1 kq
      have at0 : atI [V.int a, .int b, .int (c + 1)] 0 = some (.int a) := rfl
      have at1 : atI [V.int a, .int b, .int (c + 1)] 1 = some (.int b) := rfl
      have at2 : atI [V.int a, .int b, .int (c + 1)] 2 = some (.int (c + 1)) := rfl
      -- once
      refine ⟨_, rfl, u, _, _, _, rfl, rfl, SqL.of hu1, at1, _, rfl, u, _, _, _, rfl, rfl, SqL.of hu1, at2, _, _, rfl, rfl, .inl ⟨by decide, by decide⟩, _, _, rfl, rfl,
        _, rfl, u, _, _, _, rfl, rfl, SqL.of hu1, at2, _, _, rfl, rfl, _, _, rfl, rfl, .inl ⟨by omega, by omega⟩, .inl ⟨_, rfl, _, _, rfl, rfl, (by show (0 : Int) < 2147483647; decide), ?_⟩⟩
      generalize hz1 : ((b + 48271 * (c + 1)) * (39373 + (c + 1))) % 2147483647 = z1
      -- far
      refine ⟨_, rfl, .inl ⟨_, rfl, _, _, rfl, rfl, (by show (0 : Int) < 40009; decide), _, _, rfl, rfl, ?_⟩⟩
      have f1 := Int.emod_nonneg z1 (show (40009 : Int) ≠ 0 by decide)
      have f2 := Int.emod_lt_of_pos z1 (show (0 : Int) < 40009 by decide)
      generalize z1 % 40009 = z2 at f1 f2
      -- twice
      refine ⟨_, rfl, _, rfl, u, _, _, _, rfl, rfl, SqL.of hu1, at2, _, _, rfl, rfl, _, rfl, u, _, _, _, rfl, rfl, SqL.of hu1, at1, _, _, rfl, rfl, ⟨by decide, by decide⟩, _, _, rfl, rfl, _, rfl, _, _, rfl, rfl, .inr ⟨by omega, by omega⟩,
        .inl ⟨_, rfl, _, _, rfl, rfl, (by show (0 : Int) < 2147483629; decide), ?_⟩⟩
      generalize ((z1 + (c + 1) + b / 1000003) * (z2 + 7)) % 2147483629 = z3
      refine ⟨_, rfl, _, _, rfl, rfl, .inr ⟨by decide, by decide⟩, _, rfl, _, _, rfl, rfl, .inl ⟨_, rfl, _, _, rfl, rfl, (by show (0 : Int) < 2147483587; decide), _, _, rfl, rfl, ⟨by decide, by decide⟩, .inl ⟨_, rfl, _, rfl, _, _, rfl, rfl, l0, ?_⟩⟩⟩
      exact k _ _ kq ⟨a, b, c + 1, hu1, b0, b1, by omega, by omega⟩ (Int.emod_nonneg _ (by omega)) (Int.emod_lt_of_pos _ l0)
theorem scOf : FnScope ["_law_urn", "_law_some_so"] ["_law_urn", "_law_some_so"] (defScope (topS 64)) := ⟨rfl, rfl, rfl, by decide +kernel, rfl, by decide +kernel, by decide +kernel⟩
theorem ok_law_of (T : Txt K mg) (F : DefAt K "_law_of" "_law_of" (topS 64) f) (G_law_take : DOk P w K mg base CX0 1 (ga K "_law_take") ["_law_urn", "_law_low_so"] spLawTake) : DOk P w K mg base CX0 2 f ["_law_urn", "_law_some_so"] (spLawOf K) := by
  refine F.ok scOf (fun _ _ _ _ _ _ us hl => match us, hl with | [_, _], _ => rfl) (fun vs H Q E h => ?_) (fun cdv A outer s H vs Q E hr h => ?_)
  · obtain ⟨u, a, M, xs, rfl, _⟩ := h
    rfl
  · obtain ⟨u, a, M, xs, rfl, U, hM, ne, ha, l0, l1, k⟩ := h
    refine ⟨_, (pss_one (ps_ret (pe_ix ix_list (pv 1) (pcl G_law_take (hr.mono (by decide)) (by rfl) (T.g "_law_take") pass0 (pa_cons (pv 0) (pa_cons (pe_callB call_len_seq (by rfl) (T.f "len") (by decide +kernel) (pa_cons (pv 1) pa_nil)) pa_nil))) (fun _ _ => rfl)))), ?_⟩
    refine ⟨_, rfl, _, rfl, _, rfl, a, _, rfl, .inl ha, u, M, _, rfl, U, hM, by omega, by omega, fun H1 n k1 U1 n0 n1 => ?_⟩
    obtain ⟨j, rfl⟩ := Int.eq_ofNat_of_zero_le n0
    have hj : j < xs.length := by omega
    exact ⟨a, xs, _, xs[j], rfl, rfl, k1.sqL ha (by simpa using ne), atI_nat (j := j) (List.getElem?_eq_getElem hj), k H1 _ k1 U1 (List.getElem_mem hj)⟩
end
end TC

/-! cells, line, name, deed -/
namespace TC
open PySem PySem.Spec PyProof.Rows L2 He
theorem Kp.own {S : List Addr} {H H1 : Hp} {a : Addr} {o : HO} (h : Kp S H H1) (n : H a = none) : Kp S H (L2.upd H1 a o) := fun b u e q => by
  rw [upd_ne (ne_of_none e n)]
  exact h b u e q
def LineAt (K : PySem.W.Frag) (H : Hp) (t : Addr) (ss : List Stp) : Prop := ∃ ts, SqT K H t ts ∧ Paired (PairAt K H) ts ss
theorem LineAt.kp {K : PySem.W.Frag} {S : List Addr} {H H1 : Hp} (h : Kp S H H1) {t : Addr} {ss : List Stp} (b : LineAt K H t ss) : LineAt K H1 t ss := by
  obtain ⟨ts, e, q⟩ := b
  exact ⟨ts, h.sqT e, Paired.imp (fun _ _ w => w.kp h) q⟩
def Stp.fine (s : Stp) : Prop := s.good ∧ s.ok
inductive LD where
  | use (n : Str)
  | forget (n : Str)
  | run (ss : List Stp)
  | cut (c : Option Int)
def LDAt (K : PySem.W.Frag) (H : Hp) (t : Addr) : LD → Prop
  | .use n => SqT K H t [.str "use", .str n]
  | .forget n => SqT K H t [.str "forget", .str n]
  | .run ss => ∃ lt, SqT K H t [.str "do", .ref lt] ∧ LineAt K H lt ss ∧ ss.length ≤ 4 ∧ ∀ s ∈ ss, s.fine
  | .cut c => SqT K H t [.str "cut", limV c] ∧ LimOk c
def spCells (K : PySem.W.Frag) : Sp := fun vs H Q _ => ∃ (a : Addr) (ns : List Int), vs = [.ref a, .int 3] ∧ SqL K H a (ns.map V.int) ∧ ns.length ≤ 63 ∧ ∀ (H' : Hp) (q : Addr) (zs : List Int), Same H H' → H' q = some (.lst (zs.map V.int)) → zs.length ≤ 3 → Q (.ref q) H'
def spLine (K : PySem.W.Frag) : Sp := fun vs H Q _ => ∃ (u : Addr) (M : Nat), vs = [.ref u, .int 4, .int 5] ∧ UrnAt H u M ∧ M ≤ 90000 ∧ ∀ H' t ss, Kp [u] H H' → UrnAt H' u (M + 9) → LineAt K H' t ss → ss.length ≤ 4 → (∀ s ∈ ss, s.fine) → Q (.ref t) H'
def spLName (K : PySem.W.Frag) : Sp := fun vs H Q _ => ∃ (u : Addr) (M : Nat), vs = [.ref u] ∧ UrnAt H u M ∧ M ≤ 90000 ∧ ∀ H' v, Kp [u] H H' → UrnAt H' u (M + 1) → Q v H'
def sortsV : List V := [.str "use", .str "use", .str "use", .str "forget", .str "do", .str "cut"]
def spDeed (K : PySem.W.Frag) : Sp := fun vs H Q _ => ∃ (u s : Addr) (M : Nat), vs = [.ref u, .ref s] ∧ UrnAt H u M ∧ M ≤ 80000 ∧ H s = some (.lst sortsV) ∧ s ≠ u ∧ ∀ H' t d, Kp [u] H H' → UrnAt H' u (M + 15) → LDAt K H' t d → Q (.ref t) H'
theorem cutH {B : Prop} {R : Hp → Addr → Prop} (C : Hp → Addr → List Int → Prop) (f : (∀ H q zs, C H q zs → R H q) → B) (a : ∀ H q zs, C H q zs → R H q) : B := f a
theorem map_at {α β : Type} {f : α → β} {xs : List α} {i : Nat} {x : β} (h : (xs.map f)[i]? = some x) : ∃ y, xs[i]? = some y ∧ x = f y := by
  rw [List.getElem?_map] at h
  cases e : xs[i]? with
  | none =>
    rw [e] at h
    cases h
  | some y =>
    rw [e] at h
    exact ⟨y, rfl, (Option.some.inj h).symm⟩
theorem cut_ints (ns : List Int) (lo hi : Option Int) : cutV (ns.map V.int) lo hi = ((ns.drop (HT.sIx ns.length 0 lo)).take (HT.sIx ns.length ns.length hi - HT.sIx ns.length 0 lo)).map V.int := by
  unfold cutV
  rw [List.length_map, List.map_take, List.map_drop]
section
variable {P : Program} {w : World} {K : PySem.W.Frag} {mg : Str → Option Value} {base : Heap} {f g : Addr}
theorem scCe : FnScope ["_law_script", "_law_top", "_law_cells_here", "_law_k", "_law_cell", "_law_at_so"] ["_law_script", "_law_top"] (defScope (topS 63)) := ⟨rfl, rfl, rfl, by decide +kernel, rfl, by decide +kernel, by decide +kernel⟩
theorem ok_cells (T : Txt K mg) (F : DefAt K "_law_cells" "_law_cells" (topS 63) f) : DOk P w K mg base CX0 1 f ["_law_script", "_law_top"] (spCells K) := by
  refine F.ok scCe (fun _ _ _ _ _ _ us hl => match us, hl with | [_, _], _ => rfl) (fun vs H Q E h => ?_) (fun cdv A outer s H vs Q E hr h => ?_)
  · obtain ⟨a, ns, rfl, _⟩ := h
    rfl
  · obtain ⟨a, ns, rfl, ha, hl, k⟩ := h
    refine ⟨_, (pss_cons (ps_set (i := 2) scCe.nd rfl (Or.inl rfl) (pe_orT (pe_callTy call_list_of (by rfl) (T.f "list") (by decide +kernel) (pa_cons (pe_slice sl_list (pv 0) po_none (po_some (pv 1))) pa_nil)) (pe_one (pe_lst (pa_cons pe_int pa_nil)))))
      (pss_cons (ps_for PassesOwn.never rfl (pi_enum (by rfl) (T.f "enumerate") (pa_cons (pe_slice sl_list (pv 0) (po_some (pv 1)) (po_some pe_int)) pa_nil)) (pg_tup rfl (pgs_cons (pg_name (i := 3) scCe.nd rfl (Or.inl rfl)) (pgs_cons (pg_name (i := 4) scCe.nd rfl (Or.inl rfl)) pgs_nil))) (pss_cons (ps_set (i := 5) scCe.nd rfl (Or.inl rfl) (pe_op op_mod (pe_callTy call_int1 (by rfl) (T.f "int") (by decide +kernel) (pa_cons (pv 3) pa_nil)) (pv 1)))
      (pss_one (ps_asg (pe_op op_add (pe_ix ix_list (pv 2) (pv 5) (fun _ _ => rfl)) (pe_op op_mul (pv 4) (pe_op op_add (pv 3) pe_int))) (pg_sub (pv 2) (pv 5) set_list)))))
      (pss_one (ps_ret (pv 2))))), ?_⟩
    refine ⟨_, rfl, _, rfl, 3, rfl, a, _, rfl, ha, fun p hp => ?_⟩
    rw [cut_ints]
    have hL1 : ((ns.drop (HT.sIx ns.length 0 none)).take (HT.sIx ns.length ns.length (some 3) - HT.sIx ns.length 0 none)).length ≤ 3 := by
      rw [List.length_take, HT.sIx_none, show (some (3 : Int)) = some (((3 : Nat)) : Int) from rfl, HT.sIx_nat]
      omega
    have hL3 : 3 < ns.length → ((ns.drop (HT.sIx ns.length 0 none)).take (HT.sIx ns.length ns.length (some 3) - HT.sIx ns.length 0 none)).length = 3 := by
      intro h3
      rw [List.length_take, List.length_drop, HT.sIx_none, show (some (3 : Int)) = some (((3 : Nat)) : Int) from rfl, HT.sIx_nat]
      omega
    generalize ((ns.drop (HT.sIx ns.length 0 none)).take (HT.sIx ns.length ns.length (some 3) - HT.sIx ns.length 0 none)) = L at hL1 hL3
    refine ⟨p, _, rfl, .inl (SqL.of upd_same), ?_⟩
    apply cutH (fun (H1 : Hp) (q : Addr) (zs : List Int) => Same H H1 ∧ H1 q = some (.lst (zs.map V.int)) ∧ zs.length ≤ 3 ∧ (3 < ns.length → zs.length = 3) ∧ H q = none)
    · intro REST q hq
      have q0 : H q = none := free1 hq
      have z2 : Same H (upd (upd H p (.lst (L.map V.int))) q (.lst (L.map V.int))) := Same.upd (Same.new hp) (free1 hq)
      have e2 : (upd (upd H p (.lst (L.map V.int))) q (.lst (L.map V.int))) q = some (.lst (L.map V.int)) := upd_same
      generalize (upd (upd H p (.lst (L.map V.int))) q (.lst (L.map V.int))) = H2 at z2 e2
      refine ⟨_, .inl ⟨_, SqL.of e2, rfl⟩, ?_⟩
      refine ite2 (fun _ => REST H2 q L ⟨z2, e2, hL1, hL3, q0⟩) (fun hno => ?_)
      refine ⟨by show 1 ≤ sizeLine; decide, fun q2 hq2 => ?_⟩
      refine REST _ q2 [0] ⟨Same.upd z2 (z2.free hq2), upd_same, by decide, fun h3 => ?_, z2.free hq2⟩
      have h4 := hL3 h3
      cases L with
      | nil => exact absurd h4 (by decide)
      | cons y ys => exact absurd rfl hno
    · rintro H1 q1 zs ⟨s1, e1, l1, l3, q0⟩
      refine ⟨_, rfl, _, rfl, 3, rfl, 63, rfl, a, _, rfl, s1.seq ha, fun p2 hp2 => ?_⟩
      rw [cut_ints]
      have len2 : 0 < ((ns.drop (HT.sIx ns.length 0 (some 3))).take (HT.sIx ns.length ns.length (some 63) - HT.sIx ns.length 0 (some 3))).length → 3 < ns.length := by
        intro hpos
        rw [List.length_take, List.length_drop, show (some (3 : Int)) = some (((3 : Nat)) : Int) from rfl, HT.sIx_nat] at hpos
        omega
      have hms : ((ns.drop (HT.sIx ns.length 0 (some 3))).take (HT.sIx ns.length ns.length (some 63) - HT.sIx ns.length 0 (some 3))).length ≤ 63 := by
        rw [List.length_take, List.length_drop]
        omega
      generalize ((ns.drop (HT.sIx ns.length 0 (some 3))).take (HT.sIx ns.length ns.length (some 63) - HT.sIx ns.length 0 (some 3))) = ms at len2 hms
      have n1 : q1 ≠ p2 := ne_of_none e1 hp2
      have e2 : (upd H1 p2 (.lst (ms.map V.int))) p2 = some (.lst (ms.map V.int)) := upd_same
      have s2 := Same.new (o := .lst (ms.map V.int)) hp2
      have e1' := s2 _ _ e1
      have s12 := Same.trans s1 s2
      generalize (upd H1 p2 (.lst (ms.map V.int))) = H2 at e2 e1' s12
      refine ⟨p2, _, rfl, SqL.of e2, for_it (walk_enum (K := K) (a := p2) (xs := ms.map V.int)) (fun i σ H' => ∃ ys v3 v4 v5, σ = [some (.ref a), some (.int 3), some (.ref q1), v3, v4, v5] ∧ Kp [q1] H2 H' ∧ H' q1 = some (.lst (ys.map V.int)) ∧ ys.length = zs.length)
        ⟨zs, _, _, _, rfl, Kp.refl, e1', rfl⟩ (fun i σ H' _ ⟨_, _, _, _, _, kk, _⟩ => SqL.of (kk _ _ e2 (.inl (by simpa using n1.symm)))) ?_ ?_⟩
      · rintro i x σ H3 H4 hi ⟨ys, v3, v4, v5, rfl, kk, eq1, ly⟩ ⟨tq, x1, x2, rfl, htq, rfl, ex1, ex2⟩
        rw [List.length_map] at hi
        have h3 := l3 (len2 (by omega))
        obtain rfl : V.int ((i : Nat) : Int) = x1 := Option.some.inj ex1
        obtain ⟨m, _, rfl⟩ := map_at ex2
        have hlen : ms.length ≤ 63 := hms
        have nq : q1 ≠ tq := ne_of_none eq1 htq
        have eq2 : (upd H3 tq (.tup [.int ((i : Nat) : Int), .int m])) q1 = some (.lst (ys.map V.int)) := by rw [upd_ne nq]; exact eq1
        have k2 : Kp [q1] H2 (upd H3 tq (.tup [.int ((i : Nat) : Int), .int m])) := Kp.new kk htq
        refine ⟨tq, _, rfl, SqT.of upd_same, rfl, _, _, rfl, _, _, rfl, rfl, ?_⟩
        generalize (upd H3 tq (.tup [.int ((i : Nat) : Int), .int m])) = H5 at eq2 k2
        refine ⟨_, rfl, .inl ⟨_, rfl, _, rfl, _, _, rfl, rfl, (by show (0 : Int) < 3; decide), ?_⟩⟩
        obtain ⟨j, hj, hj3⟩ : ∃ j : Nat, ((i : Nat) : Int) % 3 = ((j : Nat) : Int) ∧ j < 3 := ⟨i % 3, by omega, by omega⟩
        obtain ⟨y, hy⟩ : ∃ y, ys[j]? = some y := ⟨_, List.getElem?_eq_getElem (by omega)⟩
        have hat : atI (ys.map V.int) (((i : Nat) : Int) % 3) = some (.int y) := by
          rw [hj]
          exact atI_nat (by rw [List.getElem?_map, hy]; rfl)
        have hix : ixN (ys.map V.int).length (((i : Nat) : Int) % 3) = some j := by
          rw [hj]
          unfold ixN
          rw [if_pos (by omega), if_pos (by rw [List.length_map]; omega)]
          simp
        refine ⟨_, rfl, _, rfl, q1, _, _, _, rfl, rfl, SqL.of eq2, hat, _, rfl, _, rfl, _, _, rfl, rfl, _, _, rfl, rfl, .inr ⟨by omega, by omega⟩, _, _, rfl, rfl, _, rfl, _, rfl, q1, _, _, j, rfl, rfl, eq2, hix, ?_⟩
        refine ⟨ys.set j (y + m * (((i : Nat) : Int) + 2)), _, _, _, rfl, Kp.put k2 List.mem_cons_self eq2 rfl, ?_, by rw [List.length_set]; exact ly⟩
        rw [upd_same, List.map_set]
      · rintro σ H3 ⟨ys, v3, v4, v5, rfl, kk, eq1, ly⟩
        refine ⟨_, rfl, k _ q1 ys (fun b o e => ?_) eq1 (by omega)⟩
        exact kk b o (s12 b o e) (.inl (by simpa using ne_of_none e q0))
theorem scLN : FnScope ["_law_urn"] ["_law_urn"] (defScope (topS 69)) := ⟨rfl, rfl, rfl, by decide +kernel, rfl, by decide +kernel, by decide +kernel⟩
theorem ok_lname (T : Txt K mg) (F : DefAt K "_law_name" "_law_name" (topS 69) f) (G_law_of : DOk P w K mg base CX0 2 (ga K "_law_of") ["_law_urn", "_law_some_so"] (spLawOf K)) : DOk P w K mg base CX0 3 f ["_law_urn"] (spLName K) := by
  refine F.ok scLN (fun _ _ _ _ _ _ us hl => match us, hl with | [_], _ => rfl) (fun vs H Q E h => ?_) (fun cdv A outer s H vs Q E hr h => ?_)
  · obtain ⟨u, M, rfl, _⟩ := h
    rfl
  · obtain ⟨u, M, rfl, U, hM, k⟩ := h
    refine ⟨_, (pss_one (ps_ret (pcl G_law_of (hr.mono (by decide)) (by rfl) (T.g "_law_of") pass0 (pa_cons (pv 0) (pa_cons (pe_lst (pa_cons pe_str (pa_cons pe_str (pa_cons pe_str (pa_cons pe_str pa_nil))))) pa_nil))))), ?_⟩
    refine ⟨_, rfl, by show 4 ≤ sizeLine; decide, fun l hl => ?_⟩
    obtain ⟨xs, hu⟩ := U.lst
    exact ⟨u, l, M, _, rfl, U.same (Same.new hl), by omega, (ne_of_none hu hl).symm, SqL.of upd_same, by decide, by decide, fun H1 v k1 U1 _ => k H1 v (Kp.trans (Same.kp (Same.new hl)) k1) U1⟩
end
end TC

/-! line, deed -/
namespace TC
open PySem PySem.Spec PyProof.Rows L2 He
theorem cutV1 {B : Prop} {R : V → Hp → Prop} (C : V → Hp → Prop) (f : (∀ x H, C x H → R x H) → B) (a : ∀ x H, C x H → R x H) : B := f a
theorem ite3 {c A B : Prop} [Decidable c] (h2 : ¬ c → B) (h1 : c → A) : if c then A else B := ite2 h1 h2
section
variable {P : Program} {w : World} {K : PySem.W.Frag} {mg : Str → Option Value} {base : Heap} {f g : Addr}
theorem scLi : FnScope ["_law_urn", "_law_many", "_law_top", "_law_found", "_law_turn", "_law_sort_so", "_law_what_so"] ["_law_urn", "_law_many", "_law_top"] (defScope (topS 66)) := ⟨rfl, rfl, rfl, by decide +kernel, rfl, by decide +kernel, by decide +kernel⟩
theorem ok_line (T : Txt K mg) (F : DefAt K "_law_line" "_law_line" (topS 66) f) (G_law_take : DOk P w K mg base CX0 1 (ga K "_law_take") ["_law_urn", "_law_low_so"] spLawTake) (G_law_of : DOk P w K mg base CX0 2 (ga K "_law_of") ["_law_urn", "_law_some_so"] (spLawOf K)) : DOk P w K mg base CX0 3 f ["_law_urn", "_law_many", "_law_top"] (spLine K) := by
  refine F.ok scLi (fun _ _ _ _ _ _ us hl => match us, hl with | [_, _, _], _ => rfl) (fun vs H Q E h => ?_) (fun cdv A outer s H vs Q E hr h => ?_)
  · obtain ⟨u, M, rfl, _⟩ := h
    rfl
  · obtain ⟨u, M, rfl, U, hM, k⟩ := h
    refine ⟨_, (pss_cons (ps_set (i := 3) scLi.nd rfl (Or.inl rfl) (pe_lst pa_nil))
      (pss_cons (ps_for PassesOwn.never rfl (pi_range1 (by rfl) (T.f "range") (pa_cons (pcl G_law_take (hr.mono (by decide)) (by rfl) (T.g "_law_take") pass0 (pa_cons (pv 0) (pa_cons (pe_op op_add (pv 1) pe_int) pa_nil))) pa_nil)) (pg_name (i := 4) scLi.nd rfl (Or.inl rfl)) (pss_cons (ps_set (i := 5) scLi.nd rfl (Or.inl rfl) (pcl G_law_of (hr.mono (by decide)) (by rfl) (T.g "_law_of") pass0 (pa_cons (pv 0) (pa_cons (pe_lst (pa_cons pe_str (pa_cons pe_str (pa_cons pe_str (pa_cons pe_str pa_nil))))) pa_nil))))
      (pss_cons (ps_set (i := 6) scLi.nd rfl (Or.inl rfl) (pe_ifExp (pt_cmpR op_eq (pv 5) pe_str (nomark _)) (pe_op op_add pe_int (pcl G_law_take (hr.mono (by decide)) (by rfl) (T.g "_law_take") pass0 (pa_cons (pv 0) (pa_cons (pv 2) pa_nil)))) (pcl G_law_of (hr.mono (by decide)) (by rfl) (T.g "_law_of") pass0 (pa_cons (pv 0) (pa_cons (pe_lst (pa_cons pe_str (pa_cons pe_str (pa_cons pe_str pa_nil)))) pa_nil)))))
      (pss_one (ps_expr (pe_bm PySem.F.plainAttrs_list PySem.F.slot_list_append PySem.F.type_list_append mt_append (pv 3) (pa_cons (pe_tup (pa_cons (pv 5) (pa_cons (pv 6) pa_nil))) pa_nil)))))))
      (pss_one (ps_ret (pe_callTy call_tuple_of (by rfl) (T.f "tuple") (by decide +kernel) (pa_cons (pv 3) pa_nil)))))), ?_⟩
    refine ⟨Nat.zero_le _, fun F hF => ?_⟩
    obtain ⟨xs0, hu⟩ := U.lst
    have nuF : u ≠ F := ne_of_none hu hF
    have nFu := nuF.symm
    have z0 := Same.new (o := .lst []) hF
    have hF1 : (upd H F (.lst [])) F = some (.lst []) := upd_same
    generalize (upd H F (.lst [])) = H0 at z0 hF1
    refine ⟨_, rfl, _, rfl, _, _, rfl, rfl, u, M, 5, rfl, U.same z0, by omega, by decide, by decide, fun H1 n k1 U1 n0 n1 => ?_⟩
    obtain ⟨n, rfl⟩ := Int.eq_ofNat_of_zero_le n0
    refine ⟨_, rfl, by omega, by omega, for_range (lo := 0) (n := n) (fun i σ H' => ∃ ts ss v4 v5 v6, σ = [some (.ref u), some (.int 4), some (.int 5), some (.ref F), v4, v5, v6] ∧ Kp [u] H H' ∧ UrnAt H' u (M + 1 + 2 * i) ∧ H' F = some (.lst ts) ∧ Paired (PairAt K H') ts ss ∧ ss.length = i ∧ ∀ s ∈ ss, s.fine)
      ⟨[], [], _, _, _, rfl, Kp.trans (Same.kp z0) k1, U1, k1 _ _ hF1 (.inl (by simpa using nFu)), .nil, rfl, fun s hs => nomatch hs⟩ ?_ ?_⟩
    · rintro i σ H2 hi ⟨ts, ss, v4, v5, v6, rfl, k2, U2, hF2, pr, ls, fn⟩
      have lts := Paired.len pr
      -- the sort
      refine ⟨_, rfl, by show 4 ≤ sizeLine; decide, fun l hl => ?_⟩
      obtain ⟨xs2, hu2⟩ := U2.lst
      have nlu : l ≠ u := (ne_of_none hu2 hl).symm
      have nlF : l ≠ F := (ne_of_none hF2 hl).symm
      refine ⟨u, l, M + 1 + 2 * i, _, rfl, U2.same (Same.new hl), by omega, nlu, SqL.of upd_same, by decide, by decide, fun H3 v k3 U3 hv => ?_⟩
      have k3' : Kp [u] H2 H3 := Kp.trans (Same.kp (Same.new hl)) k3
      have hF3 : H3 F = some (.lst ts) := k3' _ _ hF2 (.inl (by simpa using nFu))
      have vk : v = .str "touch" ∨ v = .str "forget" ∨ v = .str "cap" := by
        simp only [List.mem_cons, List.not_mem_nil, or_false] at hv
        rcases hv with e | e | e | e
        · exact .inl e
        · exact .inl e
        · exact .inr (.inl e)
        · exact .inr (.inr e)
      apply cutV1 (fun x H5 => ∃ st : Stp, v = .str st.kindS ∧ x = st.whatV ∧ st.fine ∧ Kp [u] H2 H5 ∧ UrnAt H5 u (M + 1 + 2 * i + 2) ∧ H5 F = some (.lst ts))
      · intro REST
        refine ⟨_, rfl, ?_, _, rfl, ?_⟩
        · rcases vk with e | e | e <;> (rw [e]; rfl)
        refine ite3 (fun q => ?_) (fun q => ?_)
        · refine ⟨_, rfl, by show 3 ≤ sizeLine; decide, fun l2 hl2 => ?_⟩
          obtain ⟨xs3, hu3⟩ := U3.lst
          refine ⟨u, l2, M + 1 + 2 * i + 1, _, rfl, U3.same (Same.new hl2), by omega, (ne_of_none hu3 hl2).symm, SqL.of upd_same, by decide, by decide, fun H5 x k5 U5 hx => ?_⟩
          have k5' : Kp [u] H3 H5 := Kp.trans (Same.kp (Same.new hl2)) k5
          have hF5 : H5 F = some (.lst ts) := k5' _ _ hF3 (.inl (by simpa using nFu))
          refine REST x H5 ?_
          obtain ⟨n, hn, hok, rfl⟩ : ∃ n, NmOk n ∧ PyData.strOk n = true ∧ x = .str n := by
            simp only [List.mem_cons, List.not_mem_nil, or_false] at hx
            rcases hx with e | e | e
            · exact ⟨"a", by decide +kernel, by decide +kernel, e⟩
            · exact ⟨"b", by decide +kernel, by decide +kernel, e⟩
            · exact ⟨"c", by decide +kernel, by decide +kernel, e⟩
          rcases vk with e | e | e
          · exact ⟨.touch n, e, rfl, ⟨hn, hok⟩, Kp.trans k3' k5', U5, hF5⟩
          · exact ⟨.forget n, e, rfl, ⟨hn, hok⟩, Kp.trans k3' k5', U5, hF5⟩
          · exact absurd (decide_eq_true e) q
        · refine ⟨_, rfl, _, rfl, u, _, 5, rfl, U3, by omega, by decide, by decide, fun H5 n k5 U5 n0 n1 => ?_⟩
          obtain ⟨n, rfl⟩ := Int.eq_ofNat_of_zero_le n0
          refine ⟨_, _, rfl, rfl, REST _ H5 ⟨.cap (n + 1), of_decide_eq_true q, ?_, ⟨by show 1 ≤ n + 1; omega, trivial⟩, Kp.trans k3' k5, U5, k5 _ _ hF3 (.inl (by simpa using nFu))⟩⟩
          show V.int (1 + ((n : Nat) : Int)) = V.int (((n + 1 : Nat)) : Int)
          congr 1
          omega
      · rintro x H5 ⟨st, rfl, rfl, sf, k5, U5, hF5⟩
        refine ⟨_, rfl, .inl ⟨rfl, _, SqL.of hF5⟩, _, rfl, _, rfl, by show 2 ≤ sizeLine; decide, fun q hq => ?_⟩
        have nFq : F ≠ q := ne_of_none hF5 hq
        refine ⟨F, ts, _, rfl, rfl, by rw [upd_ne nFq]; exact hF5, small1000 (by omega), ?_⟩
        have kf : Kp [F] H5 (upd (upd H5 q (.tup [.str st.kindS, st.whatV])) F (.lst (ts ++ [.ref q]))) := Kp.put (Kp.new Kp.refl hq) List.mem_cons_self (by rw [upd_ne nFq]; exact hF5) rfl
        have ku : Kp [F, u] H2 _ := Kp.trans (kp2 (p := F) (l := u) k5) (kp1 (p := F) (l := u) kf)
        refine ⟨ts ++ [.ref q], ss ++ [st], _, _, _, rfl, Kp.own (Kp.new (Kp.trans k2 k5) hq) hF, ?_, upd_same, Paired.snoc ⟨q, rfl, SqT.of (by rw [upd_ne nFq.symm, upd_same])⟩ (Paired.imp (fun _ _ w => w.kp ku) pr), by rw [List.length_append, List.length_singleton, ls], fun s hs => ?_⟩
        · exact UrnAt.mono (UrnAt.kp U5 kf (by simpa using nuF)) (by omega)
        · rcases List.mem_append.mp hs with hs | hs
          · exact fn s hs
          · rw [List.mem_singleton.mp hs]
            exact sf
    · rintro σ H2 ⟨ts, ss, v4, v5, v6, rfl, k2, U2, hF2, pr, ls, fn⟩
      refine ⟨_, rfl, F, ts, rfl, .inl ⟨SqL.of hF2, fun t ht => ?_⟩⟩
      have z := Same.new (o := .tup ts) ht
      refine k _ t ss (Kp.new k2 ht) ((U2.same z).mono (by omega)) ⟨ts, SqT.of upd_same, Paired.imp (fun _ _ w => w.kp (Same.kp (S := []) z)) pr⟩ (by omega) fn
theorem scDe : FnScope ["_law_urn", "_law_sorts_so", "_law_sort_so", "_law_tag"] ["_law_urn", "_law_sorts_so"] (defScope (topS 71)) := ⟨rfl, rfl, rfl, by decide +kernel, rfl, by decide +kernel, by decide +kernel⟩
theorem ok_deed (T : Txt K mg) (F : DefAt K "_law_deed" "_law_deed" (topS 71) f) (G_law_of : DOk P w K mg base CX0 2 (ga K "_law_of") ["_law_urn", "_law_some_so"] (spLawOf K)) (G_law_name : DOk P w K mg base CX0 3 (ga K "_law_name") ["_law_urn"] (spLName K)) (G_law_line : DOk P w K mg base CX0 3 (ga K "_law_line") ["_law_urn", "_law_many", "_law_top"] (spLine K)) : DOk P w K mg base CX0 4 f ["_law_urn", "_law_sorts_so"] (spDeed K) := by
  refine F.ok scDe (fun _ _ _ _ _ _ us hl => match us, hl with | [_, _], _ => rfl) (fun vs H Q E h => ?_) (fun cdv A outer s H vs Q E hr h => ?_)
  · obtain ⟨u, l, M, rfl, _⟩ := h
    rfl
  · obtain ⟨u, l, M, rfl, U, hM, hl, nlu, k⟩ := h
    refine ⟨_, (pss_cons (ps_par rfl scDe.nd (i := 2) (j := 3) rfl rfl (by decide) rfl rfl (pa_cons (pcl G_law_of (hr.mono (by decide)) (by rfl) (T.g "_law_of") pass0 (pa_cons (pv 0) (pa_cons (pv 1) pa_nil))) (pa_cons (pcl G_law_name (hr.mono (by decide)) (by rfl) (T.g "_law_name") pass0 (pa_cons (pv 0) pa_nil)) pa_nil)) (by rfl))
      (pss_cons (ps_if (pt_cmpR op_eq (pv 2) pe_str (nomark _)) (pss_one (ps_never)) pss_nil)
      (pss_cons (ps_if (pt_cmpR op_eq (pv 2) pe_str (nomark _)) (pss_one (ps_never)) pss_nil)
      (pss_cons (ps_if (pt_cmpR op_eq (pv 2) pe_str (nomark _)) (pss_one (ps_never)) pss_nil)
      (pss_cons (ps_if (pt_cmpR op_in_seq (pv 2) (pe_tup (pa_cons pe_str (pa_cons pe_str pa_nil))) (by rfl)) (pss_one (ps_ret (pe_tup (pa_cons (pv 2) (pa_cons (pcl G_law_of (hr.mono (by decide)) (by rfl) (T.g "_law_of") pass0 (pa_cons (pv 0) (pa_cons (pe_lst (pa_cons pe_str (pa_cons pe_str (pa_cons pe_str (pa_cons pe_str (pa_cons pe_str pa_nil)))))) pa_nil))) pa_nil))))) pss_nil)
      (pss_cons (ps_if (pt_cmpR op_eq (pv 2) pe_str (nomark _)) (pss_one (ps_ret (pe_tup (pa_cons (pv 2) (pa_cons (pcl G_law_line (hr.mono (by decide)) (by rfl) (T.g "_law_line") pass0 (pa_cons (pv 0) (pa_cons pe_int (pa_cons pe_int pa_nil)))) pa_nil))))) pss_nil)
      (pss_cons (ps_if (pt_cmpR op_eq (pv 2) pe_str (nomark _)) (pss_one (ps_ret (pe_tup (pa_cons (pv 2) (pa_cons (pcl G_law_of (hr.mono (by decide)) (by rfl) (T.g "_law_of") pass0 (pa_cons (pv 0) (pa_cons (pe_lst (pa_cons pe_non (pa_cons pe_int (pa_cons pe_int (pa_cons pe_int (pa_cons pe_int (pa_cons (pe_op op_pow pe_int pe_int) pa_nil))))))) pa_nil))) pa_nil))))) pss_nil)
      (pss_one (ps_never))))))))), ?_⟩
    refine ⟨_, rfl, _, rfl, u, l, M, _, rfl, U, by omega, nlu, SqL.of hl, by decide, by decide, fun H1 v k1 U1 hv => ?_⟩
    refine ⟨_, rfl, u, M + 1, rfl, U1, by omega, fun H2 v2 k2 U2 => ?_⟩
    refine ⟨_, _, rfl, ?_⟩
    have k12 := Kp.trans k1 k2
    have vk : v = .str "use" ∨ v = .str "forget" ∨ v = .str "do" ∨ v = .str "cut" := by
      simp only [sortsV, List.mem_cons, List.not_mem_nil, or_false] at hv
      rcases hv with e | e | e | e | e | e
      · exact .inl e
      · exact .inl e
      · exact .inl e
      · exact .inr (.inl e)
      · exact .inr (.inr (.inl e))
      · exact .inr (.inr (.inr e))
    obtain ⟨xs2, hu2⟩ := U2.lst
    have names : ∀ x ∈ [V.str "a", .str "b", .str "c", .str "x", .str "y"], ∃ n, x = V.str n := by
      intro x hx
      simp only [List.mem_cons, List.not_mem_nil, or_false] at hx
      rcases hx with e | e | e | e | e
      · exact ⟨_, e⟩
      · exact ⟨_, e⟩
      · exact ⟨_, e⟩
      · exact ⟨_, e⟩
      · exact ⟨_, e⟩
    have lims : ∀ x ∈ [V.non, .int 1, .int 2, .int 3, .int 5, .int (10 ^ 30)], ∃ c, x = limV c ∧ LimOk c := by
      intro x hx
      simp only [List.mem_cons, List.not_mem_nil, or_false] at hx
      rcases hx with e | e | e | e | e | e
      · exact ⟨none, e, trivial⟩
      · exact ⟨some 1, e, (by decide : (0 : Int) ≤ 1)⟩
      · exact ⟨some 2, e, (by decide : (0 : Int) ≤ 2)⟩
      · exact ⟨some 3, e, (by decide : (0 : Int) ≤ 3)⟩
      · exact ⟨some 5, e, (by decide : (0 : Int) ≤ 5)⟩
      · exact ⟨some (10 ^ 30), e, (by decide : (0 : Int) ≤ 10 ^ 30)⟩
    rcases vk with rfl | rfl | rfl | rfl
    · refine ⟨_, rfl, rfl, _, rfl, _, rfl, rfl, _, rfl, _, rfl, rfl, _, rfl, _, rfl, by show 2 ≤ sizeLine; decide, fun q hq => ⟨q, _, rfl, .inr (SqT.of upd_same), rfl, rfl, _, rfl, ?_⟩⟩
      have z := Same.new (o := .tup [V.str "use", .str "forget"]) hq
      refine ⟨_, rfl, _, rfl, by show 5 ≤ sizeLine; decide, fun l2 hl2 => ?_⟩
      have z2 := Same.trans z (Same.new (o := .lst [V.str "a", .str "b", .str "c", .str "x", .str "y"]) hl2)
      refine ⟨u, l2, M + 2, _, rfl, U2.same z2, by omega, (ne_of_none (z _ _ hu2) hl2).symm, SqL.of upd_same, by decide, by decide, fun H5 x k5 U5 hx => ?_⟩
      obtain ⟨n, rfl⟩ := names x hx
      refine ⟨by show 2 ≤ sizeLine; decide, fun t ht => ?_⟩
      exact k _ t (.use n) (Kp.new (Kp.trans k12 (Kp.trans (Same.kp z2) k5)) ht) ((U5.same (Same.new ht)).mono (by omega)) (SqT.of upd_same)
    · refine ⟨_, rfl, rfl, _, rfl, _, rfl, rfl, _, rfl, _, rfl, rfl, _, rfl, _, rfl, by show 2 ≤ sizeLine; decide, fun q hq => ⟨q, _, rfl, .inr (SqT.of upd_same), rfl, rfl, _, rfl, ?_⟩⟩
      have z := Same.new (o := .tup [V.str "use", .str "forget"]) hq
      refine ⟨_, rfl, _, rfl, by show 5 ≤ sizeLine; decide, fun l2 hl2 => ?_⟩
      have z2 := Same.trans z (Same.new (o := .lst [V.str "a", .str "b", .str "c", .str "x", .str "y"]) hl2)
      refine ⟨u, l2, M + 2, _, rfl, U2.same z2, by omega, (ne_of_none (z _ _ hu2) hl2).symm, SqL.of upd_same, by decide, by decide, fun H5 x k5 U5 hx => ?_⟩
      obtain ⟨n, rfl⟩ := names x hx
      refine ⟨by show 2 ≤ sizeLine; decide, fun t ht => ?_⟩
      exact k _ t (.forget n) (Kp.new (Kp.trans k12 (Kp.trans (Same.kp z2) k5)) ht) ((U5.same (Same.new ht)).mono (by omega)) (SqT.of upd_same)
    · refine ⟨_, rfl, rfl, _, rfl, _, rfl, rfl, _, rfl, _, rfl, rfl, _, rfl, _, rfl, by show 2 ≤ sizeLine; decide, fun q hq => ⟨q, _, rfl, .inr (SqT.of upd_same), rfl, rfl, _, rfl, ?_⟩⟩
      have z := Same.new (o := .tup [V.str "use", .str "forget"]) hq
      refine ⟨_, rfl, rfl, _, rfl, ?_⟩
      refine ⟨_, rfl, _, rfl, u, M + 2, rfl, U2.same z, by omega, fun H5 lt ss k5 U5 L l4 fn => ?_⟩
      refine ⟨by show 2 ≤ sizeLine; decide, fun t ht => ?_⟩
      exact k _ t (.run ss) (Kp.new (Kp.trans k12 (Kp.trans (Same.kp z) k5)) ht) ((U5.same (Same.new ht)).mono (by omega)) ⟨lt, SqT.of upd_same, L.kp (Same.kp (S := []) (Same.new ht)), l4, fn⟩
    · refine ⟨_, rfl, rfl, _, rfl, _, rfl, rfl, _, rfl, _, rfl, rfl, _, rfl, _, rfl, by show 2 ≤ sizeLine; decide, fun q hq => ⟨q, _, rfl, .inr (SqT.of upd_same), rfl, rfl, _, rfl, ?_⟩⟩
      have z := Same.new (o := .tup [V.str "use", .str "forget"]) hq
      refine ⟨_, rfl, rfl, _, rfl, _, rfl, rfl, _, rfl, ?_⟩
      refine ⟨_, rfl, _, rfl, _, _, rfl, rfl, ⟨by decide, by decide, by decide⟩, by show 6 ≤ sizeLine; decide, fun l2 hl2 => ?_⟩
      have z2 := Same.trans z (Same.new (o := .lst [V.non, .int 1, .int 2, .int 3, .int 5, .int (10 ^ 30)]) hl2)
      refine ⟨u, l2, M + 2, [V.non, .int 1, .int 2, .int 3, .int 5, .int (10 ^ 30)], rfl, U2.same z2, by omega, (ne_of_none (z _ _ hu2) hl2).symm, SqL.of upd_same, by decide, by decide, fun H5 x k5 U5 hx => ?_⟩
      obtain ⟨c, rfl, hc⟩ := lims x hx
      refine ⟨by show 2 ≤ sizeLine; decide, fun t ht => ?_⟩
      exact k _ t (.cut c) (Kp.new (Kp.trans k12 (Kp.trans (Same.kp z2) k5)) ht) ((U5.same (Same.new ht)).mono (by omega)) ⟨SqT.of upd_same, hc⟩
end
end TC

/-! kept, does, host, given -/
namespace TC
open PySem PySem.Spec PyProof.Rows L2 He
def spKept (K : PySem.W.Frag) : Sp := fun vs H Q _ => ∃ (a : Addr) (r : List Str) (c : Option Int), vs = [.ref a, limV c] ∧ SqT K H a (rowV r) ∧ LimOk c ∧ ∀ H' q, Same H H' → SqT K H' q (rowV (cutR c r)) → Q (.ref q) H'
def spDoes (K : PySem.W.Frag) : Sp := fun vs H Q _ => ∃ (t a : Addr) (r : List Str) (ss : List Stp), vs = [.ref t, .ref a] ∧ LineAt K H t ss ∧ SqT K H a (rowV r) ∧ r.length + ss.length ≤ 900 ∧ ∀ H' q, Same H H' → SqT K H' q (rowV (runAll ss r)) → Q (.ref q) H'
def spHost (K : PySem.W.Frag) : Sp := fun vs H Q _ => ∃ (t : Addr) (ss : List Stp), vs = [.ref t] ∧ LineAt K H t ss ∧ ss.length ≤ 20 ∧ (∀ s ∈ ss, s.fine) ∧ ∀ H' v, Same H H' → RuleAt K H' v ss → Q v H'
def LD.deed : LD → Deed
  | .use n => .use n
  | .forget n => .forget n
  | .run ss => .run ss
  | .cut _ => .use "a"
def LD.isCut : LD → Bool
  | .cut _ => true
  | _ => false
def spGiven (K : PySem.W.Frag) : Sp := fun vs H Q _ => ∃ (t : Addr) (d : LD), vs = [.ref t] ∧ LDAt K H t d ∧ d.isCut = false ∧ ∀ H' t' v, Same H H' → SqT K H' t' [.str d.deed.word, v] → DeedV K H' v d.deed → Q (.ref t') H'
section
variable {P : Program} {w : World} {K : PySem.W.Frag} {mg : Str → Option Value} {base : Heap} {f g : Addr}
theorem scKp : FnScope ["_law_row_so", "_law_most_so"] ["_law_row_so", "_law_most_so"] (defScope (topS 73)) := ⟨rfl, rfl, rfl, by decide +kernel, rfl, by decide +kernel, by decide +kernel⟩
theorem ok_kept (T : Txt K mg) (F : DefAt K "_law_kept" "_law_kept" (topS 73) f) : DOk P w K mg base CX0 1 f ["_law_row_so", "_law_most_so"] (spKept K) := by
  refine F.ok scKp (fun _ _ _ _ _ _ us hl => match us, hl with | [_, _], _ => rfl) (fun vs H Q E h => ?_) (fun cdv A outer s H vs Q E hr h => ?_)
  · obtain ⟨a, r, c, rfl, _⟩ := h
    rfl
  · obtain ⟨a, r, c, rfl, ha, hc, k⟩ := h
    refine ⟨_, (pss_one (ps_ret (pe_ifExp (pt_cmpR op_isN (pv 1) pe_non (nomark _)) (pv 0) (pe_slice sl_tupA (pv 0) po_none (po_some (pv 1)))))), ?_⟩
    refine ⟨_, rfl, rfl, _, rfl, ?_⟩
    cases c with
    | none => exact ⟨_, rfl, k H a (Same.refl H) ha⟩
    | some c =>
      refine ⟨_, rfl, _, rfl, c, rfl, a, _, rfl, ha, fun hw => k H a (Same.refl H) (by show SqT K H a (rowV (r.take c.toNat)); rw [sIx_row r c hc hw]; exact ha), fun _ p hp => ?_⟩
      exact k _ p (Same.new hp) (SqT.of (by rw [upd_same, cut_row r c hc]; rfl))
theorem scDo : FnScope ["_law_line_here", "_law_row_so", "_law_sort_so", "_law_what_so", "_law_rest_so", "_law_own"] ["_law_line_here", "_law_row_so"] (defScope (topS 68)) := ⟨rfl, rfl, rfl, by decide +kernel, rfl, by decide +kernel, by decide +kernel⟩
theorem ok_does (T : Txt K mg) (F : DefAt K "_law_does" "_law_does" (topS 68) f) : DOk P w K mg base CX0 1 f ["_law_line_here", "_law_row_so"] (spDoes K) := by
  refine F.ok scDo (fun _ _ _ _ _ _ us hl => match us, hl with | [_, _], _ => rfl) (fun vs H Q E h => ?_) (fun cdv A outer s H vs Q E hr h => ?_)
  · obtain ⟨t, a, r, ss, rfl, _⟩ := h
    rfl
  · obtain ⟨t, a, r, ss, rfl, ⟨ts, ht, pr⟩, ha, hl, k⟩ := h
    refine ⟨_, (pss_cons (ps_for PassesOwn.never rfl (pi_tup (pv 0)) (pg_tup rfl (pgs_cons (pg_name (i := 2) scDo.nd rfl (Or.inl rfl)) (pgs_cons (pg_name (i := 3) scDo.nd rfl (Or.inr rfl)) pgs_nil))) (pss_one (ps_if (pt_cmpR op_eq (pv 2) pe_str (nomark _)) (pss_one (ps_set (i := 1) scDo.nd rfl (Or.inl rfl) (pe_slice sl_tupA (pv 1) po_none (po_some (pv 3))))) (pss_cons (ps_set (i := 4) scDo.nd rfl (Or.inl rfl) (pe_callTy call_tuple_of (by rfl) (T.f "tuple") (by decide +kernel) (pa_cons (pe_lc (own := [("_law_own", 5)]) (g := (gName 5)) (by rfl) scDo.nd (pi_tup (pv 1)) (blkOk_by (own := [("_law_own", 5)]) (N := ["_law_line_here", "_law_row_so", "_law_sort_so", "_law_what_so", "_law_rest_so", "_law_own"]) (sc := defScope (topS 68)) (by decide +kernel)) (fun _ _ _ _ _ => (pg_name (i := 5) scDo.nd rfl (Or.inl rfl))) (fun _ _ _ _ _ => (pts_one (pt_cmpR op_ne (pv 5) (pv 3) (nomark _)))) (fun _ _ _ _ _ => (pv 5))) pa_nil)))
      (pss_one (ps_set (i := 1) scDo.nd rfl (Or.inl rfl) (pe_ifExp (pt_cmpR op_eq (pv 2) pe_str (nomark _)) (pe_op op_catA (pe_tup (pa_cons (pv 3) pa_nil)) (pv 4)) (pv 4))))))))
      (pss_one (ps_ret (pv 1)))), ?_⟩
    have lss := Paired.len pr
    refine ⟨_, rfl, t, rfl, ⟨ts, ht⟩, for_tup (K := K) (a := t) (xs := ts) (fun i σ H' => ∃ q v2 v3 v4, σ = [some (.ref t), some (.ref q), v2, v3, v4, none] ∧ Same H H' ∧ SqT K H' q (rowV (runAll (ss.take i) r)))
      ⟨a, _, _, _, rfl, Same.refl H, ha⟩ (fun i σ H' _ ⟨_, _, _, _, _, z, _⟩ => Same.sqT z ht) ?_ ?_⟩
    · rintro i x σ H' hx ⟨q, v2, v3, v4, rfl, z, hq⟩
      obtain ⟨st, hst, tx, rfl, htx⟩ := paired_at pr i x hx
      have hlt := (List.getElem?_eq_some_iff.mp hx).1
      have htx' := Same.sqT z htx
      have rl : (runAll (ss.take i) r).length ≤ 900 := by
        have := runAll_len (ss.take i) r
        rw [List.length_take] at this
        omega
      have step : ∀ (H2 : Hp) (q2 : Addr) (v2 v3 v4 : Option V), Same H' H2 → SqT K H2 q2 (rowV (st.run (runAll (ss.take i) r))) → ∃ q v2' v3' v4', [some (V.ref t), some (.ref q2), v2, v3, v4, none] = [some (V.ref t), some (.ref q), v2', v3', v4', none] ∧ Same H H2 ∧ SqT K H2 q (rowV (runAll (ss.take (i + 1)) r)) := by
        intro H2 q2 v2 v3 v4 z2 e2
        refine ⟨q2, v2, v3, v4, rfl, Same.trans z z2, ?_⟩
        rw [List.take_add_one, hst]
        show SqT K H2 q2 (rowV (runAll (ss.take i ++ [st]) r))
        rw [runAll_snoc]
        exact e2
      generalize runAll (ss.take i) r = rr at hq rl step
      refine ⟨tx, _, rfl, htx', rfl, _, _, rfl, _, _, rfl, rfl, ?_⟩
      have filt : ∀ n : Str, (rowV rr).length < sizeLine := fun _ => by
        rw [rowV_len]
        exact small1000 (by omega)
      cases st with
      | cap c =>
        refine ⟨_, rfl, rfl, _, rfl, ?_⟩
        refine ⟨_, rfl, _, rfl, _, rfl, q, _, rfl, hq, fun hw => ?_, fun _ p hp => ?_⟩
        · exact step H' q _ _ _ (Same.refl H') (by show SqT K H' q (rowV (rr.take c)); rw [show rr.take c = rr.take ((c : Nat) : Int).toNat from rfl, sIx_row rr _ (Int.natCast_nonneg c) hw]; exact hq)
        · exact step _ p _ _ _ (Same.new hp) (SqT.of (by rw [upd_same, cut_row rr _ (Int.natCast_nonneg c)]; rfl))
      | touch n =>
        refine ⟨_, rfl, rfl, _, rfl, ?_⟩
        refine ⟨_, rfl, q, rfl, ⟨_, hq⟩, fun D hD => ?_⟩
        refine lc_filt (fun x => !decide (x = .str n)) hq hD (filt n) ?_ ?_
        · intro j x acc hx hz N hN
          obtain ⟨sx, _, rfl⟩ := map_at hx
          refine ⟨rfl, _, rfl, _, rfl, rfl, _, rfl, ?_⟩
          refine ite2 (fun q => ?_) (fun q => ?_)
          · rw [if_pos (show (!decide (V.str sx = V.str n)) = true from q)] at hN
            exact ⟨_, rfl, _, upd_same, hz, by rw [upd_upd]; exact hN⟩
          · rw [if_neg (show ¬ (!decide (V.str sx = V.str n)) = true from q)] at hN
            exact hN
        · rw [outside_ne]
          refine ⟨D, _, rfl, .inl ⟨SqL.of upd_same, fun p2 hp2 => ?_⟩⟩
          have z2 := Same.upd (o := .tup (rowV (outsideL rr [n]))) (Same.new (o := .lst (rowV (outsideL rr [n]))) hD) (free1 hp2)
          have e2 : (upd (upd H' D (.lst (rowV (outsideL rr [n])))) p2 (.tup (rowV (outsideL rr [n])))) p2 = some (.tup (rowV (outsideL rr [n]))) := upd_same
          have lo := outsideL_len rr [n]
          generalize (upd (upd H' D (.lst (rowV (outsideL rr [n])))) p2 (.tup (rowV (outsideL rr [n])))) = H3 at z2 e2
          refine ⟨_, rfl, rfl, _, rfl, ?_⟩
          refine ⟨_, rfl, by show 1 ≤ sizeLine; decide, fun p3 hp3 => ?_⟩
          have z3 := Same.trans z2 (Same.new (o := .tup [V.str n]) hp3)
          refine ⟨_, rfl, p3, p2, [V.str n], rowV (outsideL rr [n]), rfl, rfl, SqT.of upd_same, SqT.of ((Same.new hp3) _ _ e2), ?_, (fun z => by cases z), fun _ ys0 => ?_, fun _ _ p4 hp4 => ?_⟩
          · show 1 + (rowV (outsideL rr [n])).length ≤ sizeLine
            rw [rowV_len]
            exact Nat.le_of_lt (small1000 (by omega))
          · refine step _ p3 _ _ _ z3 (SqT.of ?_)
            rw [upd_same]
            have e0 : outsideL rr [n] = [] := by
              cases q : outsideL rr [n] with
              | nil => rfl
              | cons y ys =>
                rw [q] at ys0
                cases ys0
            show some (HO.tup [V.str n]) = some (HO.tup (rowV (n :: outsideL rr [n])))
            rw [e0]
            rfl
          · exact step _ p4 _ _ _ (Same.trans z3 (Same.new hp4)) (SqT.of upd_same)
      | forget n =>
        refine ⟨_, rfl, rfl, _, rfl, ?_⟩
        refine ⟨_, rfl, q, rfl, ⟨_, hq⟩, fun D hD => ?_⟩
        refine lc_filt (fun x => !decide (x = .str n)) hq hD (filt n) ?_ ?_
        · intro j x acc hx hz N hN
          obtain ⟨sx, _, rfl⟩ := map_at hx
          refine ⟨rfl, _, rfl, _, rfl, rfl, _, rfl, ?_⟩
          refine ite2 (fun q => ?_) (fun q => ?_)
          · rw [if_pos (show (!decide (V.str sx = V.str n)) = true from q)] at hN
            exact ⟨_, rfl, _, upd_same, hz, by rw [upd_upd]; exact hN⟩
          · rw [if_neg (show ¬ (!decide (V.str sx = V.str n)) = true from q)] at hN
            exact hN
        · rw [outside_ne]
          refine ⟨D, _, rfl, .inl ⟨SqL.of upd_same, fun p2 hp2 => ?_⟩⟩
          have z2 := Same.upd (o := .tup (rowV (outsideL rr [n]))) (Same.new (o := .lst (rowV (outsideL rr [n]))) hD) (free1 hp2)
          refine ⟨_, rfl, rfl, _, rfl, ?_⟩
          exact ⟨_, rfl, step _ p2 _ _ _ z2 (SqT.of upd_same)⟩
    · rintro σ H' ⟨q, v2, v3, v4, rfl, z, hq⟩
      rw [List.take_of_length_le (by omega)] at hq
      exact ⟨_, rfl, k _ _ z hq⟩
theorem scHo : FnScope ["_law_line_here", "_law_sort_so", "_law_what_so"] ["_law_line_here"] (defScope (topS 67)) := ⟨rfl, rfl, rfl, by decide +kernel, rfl, by decide +kernel, by decide +kernel⟩
theorem ok_host (T : Txt K mg) (F : DefAt K "_law_host" "_law_host" (topS 67) f) (Gstep_init : DOk P w K mg base CX0 3 (ma K (ga K "Step") "__init__") ["self", "kind", "what"] (spStepInit K)) (Grule_init : DOk P w K mg base CX0 5 (ma K (ga K "Rule") "__init__") ["self", "steps"] (spRuleInit K)) : DOk P w K mg base CX0 7 f ["_law_line_here"] (spHost K) := by
  refine F.ok scHo (fun _ _ _ _ _ _ us hl => match us, hl with | [_], _ => rfl) (fun vs H Q E h => ?_) (fun cdv A outer s H vs Q E hr h => ?_)
  · obtain ⟨t, ss, rfl, _⟩ := h
    rfl
  · obtain ⟨t, ss, rfl, ⟨ts, ht, pr⟩, hl, fn, k⟩ := h
    refine ⟨_, (pss_one (ps_ret (pmk T.kR Grule_init (hr.mono (by decide)) (by rfl) (T.g "Rule") pass0 (pa_cons (pe_lc (own := [("_law_sort_so", 1), ("_law_what_so", 2)]) (g := (gTup K 2 (gCons (gName 1) (gCons (gName 2) gNil)))) (by rfl) scHo.nd (pi_tup (pv 0)) (blkOk_by (own := [("_law_sort_so", 1), ("_law_what_so", 2)]) (N := ["_law_line_here", "_law_sort_so", "_law_what_so"]) (sc := defScope (topS 67)) (by decide +kernel)) (fun _ _ _ _ _ => (pg_tup rfl (pgs_cons (pg_name (i := 1) scHo.nd rfl (Or.inl rfl)) (pgs_cons (pg_name (i := 2) scHo.nd rfl (Or.inl rfl)) pgs_nil)))) (fun _ _ _ _ _ => pts_nil) (fun _ _ _ _ _ => (pmk T.kS Gstep_init (hr.mono (by decide)) (by rfl) (T.g "Step") pass0 (pa_cons (pv 1) (pa_cons (pv 2) pa_nil))))) pa_nil)))), ?_⟩
    have lss := Paired.len pr
    refine ⟨_, rfl, t, rfl, ⟨ts, ht⟩, fun D hD => ?_⟩
    refine lc_tup (K := K) (a := t) (xs := ts) (fun i H' => ∃ acc, H' D = some (.lst acc) ∧ acc.length = i ∧ Same H H' ∧ Paired (StepAt K H') acc (ss.take i)) ⟨[], upd_same, rfl, Same.new hD, .nil⟩ (fun i H' _ ⟨_, _, _, z, _⟩ => Same.sqT z ht) ?_ ?_
    · rintro i x H' hx ⟨acc, hd, hal, z, pa⟩
      obtain ⟨st, hst, tx, rfl, htx⟩ := paired_at pr i x hx
      have sf := fn st (List.mem_of_getElem? hst)
      have hlt := (List.getElem?_eq_some_iff.mp hx).1
      refine ⟨tx, _, rfl, Same.sqT z htx, rfl, _, _, rfl, _, _, rfl, rfl, rfl, ?_⟩
      refine ⟨_, rfl, _, rfl, fun x dx hx1 hdx ne => ?_⟩
      have sN : Same H' (upd (upd H' dx (.own x)) x (.ins (cStep K) dx [])) := Same.own (Same.new hdx) hx1
      refine ⟨H', x, dx, st, rfl, sf.1, sN, hx1, upd_same, fun H5 s5 e5 => ⟨rfl, ?_⟩⟩
      have hd5 := s5 _ _ hd
      refine ⟨acc, hd5, small1000 (by omega), acc ++ [.ref x], upd_same, by rw [List.length_append, List.length_singleton, hal], Same.own (Same.trans z s5) hD, ?_⟩
      have kp : Kp [D] H5 (upd H5 D (.lst (acc ++ [.ref x]))) := Kp.put Kp.refl List.mem_cons_self hd5 rfl
      rw [List.take_add_one, hst]
      exact Paired.snoc (StepAt.kp kp ⟨x, dx, rfl, e5⟩) (Paired.imp (fun _ _ w => w.kp (Kp.trans (S := [D]) (Same.kp s5) kp)) pa)
    · rintro H' ⟨acc, hd, hal, z, pa⟩
      rw [List.take_of_length_le (by omega)] at pa
      intro x dx hx hdx ne
      have sN : Same H' (upd (upd H' dx (.own x)) x (.ins (cRule K) dx [])) := Same.own (Same.new hdx) hx
      exact ⟨H', x, dx, D, acc, ss, rfl, SqL.of hd, pa, by omega, fun s hs => (fn s hs).2, sN, hx, upd_same, fun H5 s5 r5 => ⟨rfl, k H5 _ (Same.trans z s5) r5⟩⟩
theorem scGi : FnScope ["_law_deed_here", "_law_own"] ["_law_deed_here"] (defScope (topS 72)) := ⟨rfl, rfl, rfl, by decide +kernel, rfl, by decide +kernel, by decide +kernel⟩
theorem ok_given (T : Txt K mg) (F : DefAt K "_law_given" "_law_given" (topS 72) f) (G_law_host : DOk P w K mg base CX0 7 (ga K "_law_host") ["_law_line_here"] (spHost K)) : DOk P w K mg base CX0 8 f ["_law_deed_here"] (spGiven K) := by
  refine F.ok scGi (fun _ _ _ _ _ _ us hl => match us, hl with | [_], _ => rfl) (fun vs H Q E h => ?_) (fun cdv A outer s H vs Q E hr h => ?_)
  · obtain ⟨t, d, rfl, _⟩ := h
    rfl
  · obtain ⟨t, d, rfl, D, nc, k⟩ := h
    refine ⟨_, (pss_cons (ps_if (pt_cmpR op_eq (pe_ix ix_tup (pv 0) pe_int (fun _ _ => rfl)) pe_str (nomark _)) (pss_one (ps_never)) pss_nil)
      (pss_cons (ps_if (pt_cmpR op_eq (pe_ix ix_tup (pv 0) pe_int (fun _ _ => rfl)) pe_str (nomark _)) (pss_one (ps_never)) pss_nil)
      (pss_cons (ps_if (pt_cmpR op_eq (pe_ix ix_tup (pv 0) pe_int (fun _ _ => rfl)) pe_str (nomark _)) (pss_one (ps_ret (pe_tup (pa_cons (pe_ix ix_tup (pv 0) pe_int (fun _ _ => rfl)) (pa_cons (pcl G_law_host (hr.mono (by decide)) (by rfl) (T.g "_law_host") pass0 (pa_cons (pe_ix ix_tup (pv 0) pe_int (fun _ _ => rfl)) pa_nil)) pa_nil))))) pss_nil)
      (pss_cons (ps_if (pt_cmpR op_eq (pe_ix ix_tup (pv 0) pe_int (fun _ _ => rfl)) pe_str (nomark _)) (pss_one (ps_never)) pss_nil)
      (pss_one (ps_ret (pv 0))))))), ?_⟩
    cases d with
    | cut c => cases nc
    | use n => exact ⟨_, rfl, t, _, _, _, rfl, rfl, D, atI_nat (j := 0) rfl, rfl, _, rfl, _, rfl, t, _, _, _, rfl, rfl, D, atI_nat (j := 0) rfl, rfl, _, rfl, _, rfl, t, _, _, _, rfl, rfl, D, atI_nat (j := 0) rfl, rfl, _, rfl, _, rfl, t, _, _, _, rfl, rfl, D, atI_nat (j := 0) rfl, rfl, _, rfl, _, rfl, k H t _ (Same.refl H) D rfl⟩
    | forget n => exact ⟨_, rfl, t, _, _, _, rfl, rfl, D, atI_nat (j := 0) rfl, rfl, _, rfl, _, rfl, t, _, _, _, rfl, rfl, D, atI_nat (j := 0) rfl, rfl, _, rfl, _, rfl, t, _, _, _, rfl, rfl, D, atI_nat (j := 0) rfl, rfl, _, rfl, _, rfl, t, _, _, _, rfl, rfl, D, atI_nat (j := 0) rfl, rfl, _, rfl, _, rfl, k H t _ (Same.refl H) D rfl⟩
    | run ss =>
      obtain ⟨lt, D, L, l4, fn⟩ := D
      refine ⟨_, rfl, t, _, _, _, rfl, rfl, D, atI_nat (j := 0) rfl, rfl, _, rfl, _, rfl, t, _, _, _, rfl, rfl, D, atI_nat (j := 0) rfl, rfl, _, rfl, _, rfl, t, _, _, _, rfl, rfl, D, atI_nat (j := 0) rfl, rfl, _, rfl, ?_⟩
      refine ⟨_, rfl, t, _, _, _, rfl, rfl, D, atI_nat (j := 0) rfl, _, rfl, t, _, _, _, rfl, rfl, D, atI_nat (j := 1) rfl, lt, ss, rfl, L, by omega, fn, fun H2 v s2 R => ?_⟩
      refine ⟨by show 2 ≤ sizeLine; decide, fun q hq => ?_⟩
      exact k _ q v (Same.upd s2 (s2.free hq)) (SqT.of upd_same) (RuleAt.kp (Same.kp (S := []) (Same.new hq)) R)
end
end TC

/-! same -/
namespace TC
open PySem PySem.Spec PyProof.Rows L2 He
/-- equal data, at most n lists and tuples deep -/
inductive Dq (K : PySem.W.Frag) (H : Hp) : Nat → V → V → Prop where
  | non {n} : Dq K H n .non .non
  | bl {n} (b : Bool) : Dq K H n (.bl b) (.bl b)
  | int {n} (i : Int) : Dq K H n (.int i) (.int i)
  | str {n} (s : Str) : Dq K H n (.str s) (.str s)
  | lst {n} {a b : Addr} {xs ys : List V} : SqL K H a xs → SqL K H b ys → xs.length = ys.length → xs.length ≤ 1000 → (∀ (i : Nat) (x y : V), xs[i]? = some x → ys[i]? = some y → Dq K H n x y) → Dq K H (n + 1) (.ref a) (.ref b)
  | tup {n} {a b : Addr} {xs ys : List V} : SqT K H a xs → SqT K H b ys → xs.length = ys.length → xs.length ≤ 1000 → (∀ (i : Nat) (x y : V), xs[i]? = some x → ys[i]? = some y → Dq K H n x y) → Dq K H (n + 1) (.ref a) (.ref b)
theorem Dq.same {K : PySem.W.Frag} {H H1 : Hp} (s : Same H H1) {n : Nat} {x y : V} (d : Dq K H n x y) : Dq K H1 n x y := by
  induction d with
  | non => exact .non
  | bl b => exact .bl b
  | int i => exact .int i
  | str z => exact .str z
  | lst a b c d _ ih => exact .lst (s.seq a) (s.seq b) c d ih
  | tup a b c d _ ih => exact .tup (Same.sqT s a) (Same.sqT s b) c d ih
theorem tyL {K : PySem.W.Frag} {H : Hp} {a : Addr} {xs : List V} (h : SqL K H a xs) : TyX K H (.ref a) (.type "list") := by
  rcases h with (h | ⟨o, h⟩) | ⟨o, its, n, lk, c, _⟩
  · exact .base (.lst h)
  · exact .base (.frz h)
  · exact .kList lk c
theorem tyT {K : PySem.W.Frag} {H : Hp} {a : Addr} {xs : List V} (h : SqT K H a xs) : TyX K H (.ref a) (.type "tuple") := by
  rcases h with (h | ⟨o, h⟩) | ⟨o, its, n, lk, c, _⟩
  · exact .base (.tup h)
  · exact .fTuple h
  · exact .kTuple lk c
theorem walk_zipT {K : PySem.W.Frag} {a b : Addr} {xs ys : List V} {n : Nat} (hn : n = min xs.length ys.length) : Walk (RZ.ItzT K a b) n (fun H => SqT K H a xs ∧ SqT K H b ys) (YPair (fun i => xs[i]?) (fun i => ys[i]?)) := by
  subst hn
  refine ⟨fun i _ hi q => ?_, fun _ q => ⟨xs, ys, q.1, q.2, by omega⟩, fun i H v H' _ q y => ?_⟩
  · have h1 : i < xs.length := by omega
    have h2 : i < ys.length := by omega
    exact ⟨xs, ys, xs[i], ys[i], q.1, q.2, by simp [h1], by simp [h2]⟩
  · obtain ⟨T, x, z, h1, h2, h3, h4, h5⟩ := y
    exact ⟨T, x, z, h1, h2, h3, h4 xs q.1, h5 ys q.2⟩
def spSame (n : Nat) (K : PySem.W.Frag) : Sp := fun vs H Q _ => ∃ x y, vs = [x, y] ∧ Dq K H n x y ∧ ∀ H', Same H H' → Q (.bl true) H'
/-- isinstance of a value of the built-in type t, for two built-in types -/
theorem kit2 {K : PySem.W.Frag} {t a b : String} {r : Bool} (h : (match kitB t a, kitB t b with | some true, _ => some true | some false, some z => some z | _, _ => none) = some r) : PySem.W.kitAny K (.type t) [.type a, .type b] = some r := by
  cases ha : kitB t a with
  | none =>
    rw [ha] at h
    cases h
  | some x =>
    rw [ha] at h
    cases x with
    | true =>
      cases h
      exact kitAny_cons (kit_ty ha) (fun z => by cases z) (fun _ => rfl)
    | false =>
      cases hb : kitB t b with
      | none =>
        rw [hb] at h
        cases h
      | some z =>
        rw [hb] at h
        cases h
        refine kitAny_cons (kit_ty ha) (fun _ => ?_) (fun z => by cases z)
        cases r with
        | true => exact kitAny_cons (kit_ty hb) (fun z => by cases z) (fun _ => rfl)
        | false => exact kitAny_cons (kit_ty hb) (fun _ => kitAny_nil) (fun z => by cases z)
section
variable {P : Program} {w : World} {K : PySem.W.Frag} {mg : Str → Option Value} {base : Heap} {f g : Addr}
theorem scSa : FnScope ["_law_got", "_law_goal", "_law_mine_so", "_law_own"] ["_law_got", "_law_goal"] (defScope (topS 65)) := ⟨rfl, rfl, rfl, by decide +kernel, rfl, by decide +kernel, by decide +kernel⟩
theorem ok_same0 (T : Txt K mg) (F : DefAt K "_law_same" "_law_same" (topS 65) f) : DOk P w K mg base CX0 1 f ["_law_got", "_law_goal"] (spSame 0 K) := by
  refine F.ok scSa (fun _ _ _ _ _ _ us hl => match us, hl with | [_, _], _ => rfl) (fun vs H Q E h => ?_) (fun cdv A outer s H vs Q E hr h => ?_)
  · obtain ⟨x, y, rfl, _⟩ := h
    rfl
  · obtain ⟨x, y, rfl, D, k⟩ := h
    refine ⟨_, (pss_cons (ps_if (pt_val (pe_callB call_isiT (by rfl) (T.f "isinstance") (by decide +kernel) (pa_cons (pv 1) (pa_cons (pe_tup (pa_cons (pe_bltn (v := .ty "list") (by rfl) (T.f "list") (by decide +kernel) rfl) (pa_cons (pe_bltn (v := .ty "tuple") (by rfl) (T.f "tuple") (by decide +kernel) rfl) pa_nil))) pa_nil)))) (pss_cons (ps_never)
      (pss_one (ps_never))) pss_nil)
      (pss_cons (ps_if (PW.pt (pw_or (pt_cmpR op_isN (pv 1) pe_non (nomark _)) (pw_or1 (pt_val (pe_callB call_isiT (by rfl) (T.f "isinstance") (by decide +kernel) (pa_cons (pv 1) (pa_cons (pe_tup (pa_cons (pe_bltn (v := .ty "bool") (by rfl) (T.f "bool") (by decide +kernel) rfl) (pa_cons (pe_bltn (v := .ty "str") (by rfl) (T.f "str") (by decide +kernel) rfl) pa_nil))) pa_nil))))))) (pss_one (ps_ret (pe_and (pe_cmpR op_eq (pv 0) (pv 1) (nomark _)) (pe_and (pe_cmpR op_eq (pe_callB call_isi (by rfl) (T.f "isinstance") (by decide +kernel) (pa_cons (pv 0) (pa_cons (pe_bltn (v := .ty "bool") (by rfl) (T.f "bool") (by decide +kernel) rfl) pa_nil))) (pe_callB call_isi (by rfl) (T.f "isinstance") (by decide +kernel) (pa_cons (pv 1) (pa_cons (pe_bltn (v := .ty "bool") (by rfl) (T.f "bool") (by decide +kernel) rfl) pa_nil))) (nomark _)) (pe_one (pe_cmpR op_eq (pe_cmpR op_isN (pv 0) pe_non (nomark _)) (pe_cmpR op_isN (pv 1) pe_non (nomark _)) (nomark _))))))) pss_nil)
      (pss_one (ps_ret (pe_and (pe_callB call_isi (by rfl) (T.f "isinstance") (by decide +kernel) (pa_cons (pv 0) (pa_cons (pe_bltn (v := .ty "int") (by rfl) (T.f "int") (by decide +kernel) rfl) pa_nil))) (pe_and (pe_not (pe_callB call_isi (by rfl) (T.f "isinstance") (by decide +kernel) (pa_cons (pv 0) (pa_cons (pe_bltn (v := .ty "bool") (by rfl) (T.f "bool") (by decide +kernel) rfl) pa_nil)))) (pe_one (pe_cmpR op_eq (pv 0) (pv 1) (nomark _))))))))), ?_⟩
    cases D with
    | non =>
      refine ⟨_, rfl, by show 2 ≤ sizeLine; decide, fun tp htp => ?_⟩
      refine ⟨_, tp, _, _, [.type "list", .type "tuple"], false, rfl, upd_same, .cons (.ty _) (.cons (.ty _) .nil), .base .non, kit2 (by decide +kernel), false, rfl, ?_⟩
      have k1 := fun H' (s : Same _ H') => k H' (Same.trans (Same.new (o := .tup [.ty "list", .ty "tuple"]) htp) s)
      generalize (upd H tp (.tup [.ty "list", .ty "tuple"])) = H1 at k1
      refine ⟨_, rfl, rfl, _, rfl, ?_⟩
      refine ⟨_, rfl, _, rfl, rfl, _, rfl, ?_⟩
      refine ite2 (fun _ => ?_) (fun q => absurd (decide_eq_true rfl) q)
      refine ⟨_, rfl, _, _, _, _, false, rfl, .ty _, .base .non, kit_ty (by decide +kernel), _, rfl, _, _, _, _, false, rfl, .ty _, .base .non, kit_ty (by decide +kernel), rfl, _, rfl, ?_⟩
      refine ⟨_, rfl, rfl, _, rfl, rfl, rfl, ?_⟩
      exact k1 _ (Same.refl _)
    | bl b =>
      refine ⟨_, rfl, by show 2 ≤ sizeLine; decide, fun tp htp => ?_⟩
      refine ⟨_, tp, _, _, [.type "list", .type "tuple"], false, rfl, upd_same, .cons (.ty _) (.cons (.ty _) .nil), .base (.bl b), kit2 (by decide +kernel), false, rfl, ?_⟩
      have k1 := fun H' (s : Same _ H') => k H' (Same.trans (Same.new (o := .tup [.ty "list", .ty "tuple"]) htp) s)
      generalize (upd H tp (.tup [.ty "list", .ty "tuple"])) = H1 at k1
      refine ⟨_, rfl, rfl, _, rfl, ?_⟩
      refine ⟨_, rfl, by show 2 ≤ sizeLine; decide, fun tq htq => ?_⟩
      refine ⟨_, tq, _, _, [.type "bool", .type "str"], true, rfl, upd_same, .cons (.ty _) (.cons (.ty _) .nil), .base (.bl b), kit2 (by decide +kernel), true, rfl, ?_⟩
      refine ⟨_, rfl, _, rfl, rfl, _, rfl, ?_⟩
      refine ite2 (fun _ => ?_) (fun q => absurd (decide_eq_true rfl) q)
      refine ⟨_, rfl, _, _, _, _, true, rfl, .ty _, .base (.bl b), kit_ty (by decide +kernel), _, rfl, _, _, _, _, true, rfl, .ty _, .base (.bl b), kit_ty (by decide +kernel), rfl, _, rfl, ?_⟩
      refine ⟨_, rfl, rfl, _, rfl, rfl, rfl, ?_⟩
      exact k1 _ (Same.new htq)
    | int i =>
      refine ⟨_, rfl, by show 2 ≤ sizeLine; decide, fun tp htp => ?_⟩
      refine ⟨_, tp, _, _, [.type "list", .type "tuple"], false, rfl, upd_same, .cons (.ty _) (.cons (.ty _) .nil), .base (.int i), kit2 (by decide +kernel), false, rfl, ?_⟩
      have k1 := fun H' (s : Same _ H') => k H' (Same.trans (Same.new (o := .tup [.ty "list", .ty "tuple"]) htp) s)
      generalize (upd H tp (.tup [.ty "list", .ty "tuple"])) = H1 at k1
      refine ⟨_, rfl, rfl, _, rfl, ?_⟩
      refine ⟨_, rfl, by show 2 ≤ sizeLine; decide, fun tq htq => ?_⟩
      refine ⟨_, tq, _, _, [.type "bool", .type "str"], false, rfl, upd_same, .cons (.ty _) (.cons (.ty _) .nil), .base (.int i), kit2 (by decide +kernel), false, rfl, ?_⟩
      refine ⟨_, rfl, _, _, _, _, true, rfl, .ty _, .base (.int i), kit_ty (by decide +kernel), true, rfl, ?_⟩
      refine ⟨_, rfl, _, _, _, _, false, rfl, .ty _, .base (.int i), kit_ty (by decide +kernel), false, rfl, _, rfl, ?_⟩
      refine ⟨_, rfl, _, rfl, rfl, ?_⟩
      have k2 := k1 _ (Same.new (o := .tup [.ty "bool", .ty "str"]) htq)
      rw [← show decide (V.int i = V.int i) = true from decide_eq_true rfl] at k2
      exact k2
    | str z =>
      refine ⟨_, rfl, by show 2 ≤ sizeLine; decide, fun tp htp => ?_⟩
      refine ⟨_, tp, _, _, [.type "list", .type "tuple"], false, rfl, upd_same, .cons (.ty _) (.cons (.ty _) .nil), .base (.str z), kit2 (by decide +kernel), false, rfl, ?_⟩
      have k1 := fun H' (s : Same _ H') => k H' (Same.trans (Same.new (o := .tup [.ty "list", .ty "tuple"]) htp) s)
      generalize (upd H tp (.tup [.ty "list", .ty "tuple"])) = H1 at k1
      refine ⟨_, rfl, rfl, _, rfl, ?_⟩
      refine ⟨_, rfl, by show 2 ≤ sizeLine; decide, fun tq htq => ?_⟩
      refine ⟨_, tq, _, _, [.type "bool", .type "str"], true, rfl, upd_same, .cons (.ty _) (.cons (.ty _) .nil), .base (.str z), kit2 (by decide +kernel), true, rfl, ?_⟩
      refine ⟨_, rfl, _, rfl, rfl, _, rfl, ?_⟩
      refine ite2 (fun _ => ?_) (fun q => absurd (decide_eq_true rfl) q)
      refine ⟨_, rfl, _, _, _, _, false, rfl, .ty _, .base (.str z), kit_ty (by decide +kernel), _, rfl, _, _, _, _, false, rfl, .ty _, .base (.str z), kit_ty (by decide +kernel), rfl, _, rfl, ?_⟩
      refine ⟨_, rfl, rfl, _, rfl, rfl, rfl, ?_⟩
      exact k1 _ (Same.new htq)
theorem scSb : FnScope ["_law_got", "_law_goal", "_law_mine_so", "_law_own"] ["_law_got", "_law_goal"] (defScope (topS 65)) := ⟨rfl, rfl, rfl, by decide +kernel, rfl, by decide +kernel, by decide +kernel⟩
theorem ok_sameS (n : Nat) (T : Txt K mg) (F : DefAt K "_law_same" "_law_same" (topS 65) f) (G_law_same : DOk P w K mg base CX0 (n + 1) (ga K "_law_same") ["_law_got", "_law_goal"] (spSame n K)) : DOk P w K mg base CX0 (n + 2) f ["_law_got", "_law_goal"] (spSame (n + 1) K) := by
  refine F.ok scSb (fun _ _ _ _ _ _ us hl => match us, hl with | [_, _], _ => rfl) (fun vs H Q E h => ?_) (fun cdv A outer s H vs Q E hr h => ?_)
  · obtain ⟨x, y, rfl, _⟩ := h
    rfl
  · obtain ⟨x, y, rfl, D, k⟩ := h
    refine ⟨_, (pss_cons (ps_if (pt_val (pe_callB call_isiT (by rfl) (T.f "isinstance") (by decide +kernel) (pa_cons (pv 1) (pa_cons (pe_tup (pa_cons (pe_bltn (v := .ty "list") (by rfl) (T.f "list") (by decide +kernel) rfl) (pa_cons (pe_bltn (v := .ty "tuple") (by rfl) (T.f "tuple") (by decide +kernel) rfl) pa_nil))) pa_nil)))) (pss_cons (ps_if (PW.pt (pw_or (pt_cmpR op_ne (pe_callB call_isi (by rfl) (T.f "isinstance") (by decide +kernel) (pa_cons (pv 0) (pa_cons (pe_bltn (v := .ty "list") (by rfl) (T.f "list") (by decide +kernel) rfl) pa_nil))) (pe_callB call_isi (by rfl) (T.f "isinstance") (by decide +kernel) (pa_cons (pv 1) (pa_cons (pe_bltn (v := .ty "list") (by rfl) (T.f "list") (by decide +kernel) rfl) pa_nil))) (nomark _)) (pw_or1 (pt_cmpR op_ne (pe_callB call_isi (by rfl) (T.f "isinstance") (by decide +kernel) (pa_cons (pv 0) (pa_cons (pe_bltn (v := .ty "tuple") (by rfl) (T.f "tuple") (by decide +kernel) rfl) pa_nil))) (pe_callB call_isi (by rfl) (T.f "isinstance") (by decide +kernel) (pa_cons (pv 1) (pa_cons (pe_bltn (v := .ty "tuple") (by rfl) (T.f "tuple") (by decide +kernel) rfl) pa_nil))) (nomark _))))) (pss_one (ps_ret pe_bl)) pss_nil)
      (pss_one (ps_ret (pe_and (pe_cmpR op_eq (pe_callB call_len_seq (by rfl) (T.f "len") (by decide +kernel) (pa_cons (pv 0) pa_nil)) (pe_callB call_len_seq (by rfl) (T.f "len") (by decide +kernel) (pa_cons (pv 1) pa_nil)) (nomark _)) (pe_one (pe_callB (cr_all rfl) (by rfl) (T.f "all") (by decide +kernel) (pa_cons (pe_lc (own := [("_law_mine_so", 2), ("_law_own", 3)]) (g := (gTup K 2 (gCons (gName 2) (gCons (gName 3) gNil)))) (by rfl) scSb.nd (RZ.pi_zipA (by rfl) (T.f "zip") (pa_cons (pv 0) (pa_cons (pv 1) pa_nil))) (blkOk_by (own := [("_law_mine_so", 2), ("_law_own", 3)]) (N := ["_law_got", "_law_goal", "_law_mine_so", "_law_own"]) (sc := defScope (topS 65)) (by decide +kernel)) (fun _ _ _ _ _ => (pg_tup rfl (pgs_cons (pg_name (i := 2) scSb.nd rfl (Or.inl rfl)) (pgs_cons (pg_name (i := 3) scSb.nd rfl (Or.inl rfl)) pgs_nil)))) (fun _ _ _ _ _ => pts_nil) (fun _ _ _ _ _ => (pcl G_law_same hr (by rfl) (T.g "_law_same") pass0 (pa_cons (pv 2) (pa_cons (pv 3) pa_nil))))) pa_nil))))))) pss_nil)
      (pss_cons (ps_if (PW.pt (pw_or (pt_cmpR op_isN (pv 1) pe_non (nomark _)) (pw_or1 (pt_val (pe_callB call_isiT (by rfl) (T.f "isinstance") (by decide +kernel) (pa_cons (pv 1) (pa_cons (pe_tup (pa_cons (pe_bltn (v := .ty "bool") (by rfl) (T.f "bool") (by decide +kernel) rfl) (pa_cons (pe_bltn (v := .ty "str") (by rfl) (T.f "str") (by decide +kernel) rfl) pa_nil))) pa_nil))))))) (pss_one (ps_ret (pe_and (pe_cmpR op_eq (pv 0) (pv 1) (nomark _)) (pe_and (pe_cmpR op_eq (pe_callB call_isi (by rfl) (T.f "isinstance") (by decide +kernel) (pa_cons (pv 0) (pa_cons (pe_bltn (v := .ty "bool") (by rfl) (T.f "bool") (by decide +kernel) rfl) pa_nil))) (pe_callB call_isi (by rfl) (T.f "isinstance") (by decide +kernel) (pa_cons (pv 1) (pa_cons (pe_bltn (v := .ty "bool") (by rfl) (T.f "bool") (by decide +kernel) rfl) pa_nil))) (nomark _)) (pe_one (pe_cmpR op_eq (pe_cmpR op_isN (pv 0) pe_non (nomark _)) (pe_cmpR op_isN (pv 1) pe_non (nomark _)) (nomark _))))))) pss_nil)
      (pss_one (ps_ret (pe_and (pe_callB call_isi (by rfl) (T.f "isinstance") (by decide +kernel) (pa_cons (pv 0) (pa_cons (pe_bltn (v := .ty "int") (by rfl) (T.f "int") (by decide +kernel) rfl) pa_nil))) (pe_and (pe_not (pe_callB call_isi (by rfl) (T.f "isinstance") (by decide +kernel) (pa_cons (pv 0) (pa_cons (pe_bltn (v := .ty "bool") (by rfl) (T.f "bool") (by decide +kernel) rfl) pa_nil)))) (pe_one (pe_cmpR op_eq (pv 0) (pv 1) (nomark _))))))))), ?_⟩
    cases D with
    | non =>
      refine ⟨_, rfl, by show 2 ≤ sizeLine; decide, fun tp htp => ?_⟩
      refine ⟨_, tp, _, _, [.type "list", .type "tuple"], false, rfl, upd_same, .cons (.ty _) (.cons (.ty _) .nil), .base .non, kit2 (by decide +kernel), false, rfl, ?_⟩
      have k1 := fun H' (s : Same _ H') => k H' (Same.trans (Same.new (o := .tup [.ty "list", .ty "tuple"]) htp) s)
      generalize (upd H tp (.tup [.ty "list", .ty "tuple"])) = H1 at k1
      refine ⟨_, rfl, rfl, _, rfl, ?_⟩
      refine ⟨_, rfl, _, rfl, rfl, _, rfl, ?_⟩
      refine ite2 (fun _ => ?_) (fun q => absurd (decide_eq_true rfl) q)
      refine ⟨_, rfl, _, _, _, _, false, rfl, .ty _, .base .non, kit_ty (by decide +kernel), _, rfl, _, _, _, _, false, rfl, .ty _, .base .non, kit_ty (by decide +kernel), rfl, _, rfl, ?_⟩
      refine ⟨_, rfl, rfl, _, rfl, rfl, rfl, ?_⟩
      exact k1 _ (Same.refl _)
    | bl b =>
      refine ⟨_, rfl, by show 2 ≤ sizeLine; decide, fun tp htp => ?_⟩
      refine ⟨_, tp, _, _, [.type "list", .type "tuple"], false, rfl, upd_same, .cons (.ty _) (.cons (.ty _) .nil), .base (.bl b), kit2 (by decide +kernel), false, rfl, ?_⟩
      have k1 := fun H' (s : Same _ H') => k H' (Same.trans (Same.new (o := .tup [.ty "list", .ty "tuple"]) htp) s)
      generalize (upd H tp (.tup [.ty "list", .ty "tuple"])) = H1 at k1
      refine ⟨_, rfl, rfl, _, rfl, ?_⟩
      refine ⟨_, rfl, by show 2 ≤ sizeLine; decide, fun tq htq => ?_⟩
      refine ⟨_, tq, _, _, [.type "bool", .type "str"], true, rfl, upd_same, .cons (.ty _) (.cons (.ty _) .nil), .base (.bl b), kit2 (by decide +kernel), true, rfl, ?_⟩
      refine ⟨_, rfl, _, rfl, rfl, _, rfl, ?_⟩
      refine ite2 (fun _ => ?_) (fun q => absurd (decide_eq_true rfl) q)
      refine ⟨_, rfl, _, _, _, _, true, rfl, .ty _, .base (.bl b), kit_ty (by decide +kernel), _, rfl, _, _, _, _, true, rfl, .ty _, .base (.bl b), kit_ty (by decide +kernel), rfl, _, rfl, ?_⟩
      refine ⟨_, rfl, rfl, _, rfl, rfl, rfl, ?_⟩
      exact k1 _ (Same.new htq)
    | int i =>
      refine ⟨_, rfl, by show 2 ≤ sizeLine; decide, fun tp htp => ?_⟩
      refine ⟨_, tp, _, _, [.type "list", .type "tuple"], false, rfl, upd_same, .cons (.ty _) (.cons (.ty _) .nil), .base (.int i), kit2 (by decide +kernel), false, rfl, ?_⟩
      have k1 := fun H' (s : Same _ H') => k H' (Same.trans (Same.new (o := .tup [.ty "list", .ty "tuple"]) htp) s)
      generalize (upd H tp (.tup [.ty "list", .ty "tuple"])) = H1 at k1
      refine ⟨_, rfl, rfl, _, rfl, ?_⟩
      refine ⟨_, rfl, by show 2 ≤ sizeLine; decide, fun tq htq => ?_⟩
      refine ⟨_, tq, _, _, [.type "bool", .type "str"], false, rfl, upd_same, .cons (.ty _) (.cons (.ty _) .nil), .base (.int i), kit2 (by decide +kernel), false, rfl, ?_⟩
      refine ⟨_, rfl, _, _, _, _, true, rfl, .ty _, .base (.int i), kit_ty (by decide +kernel), true, rfl, ?_⟩
      refine ⟨_, rfl, _, _, _, _, false, rfl, .ty _, .base (.int i), kit_ty (by decide +kernel), false, rfl, _, rfl, ?_⟩
      refine ⟨_, rfl, _, rfl, rfl, ?_⟩
      have k2 := k1 _ (Same.new (o := .tup [.ty "bool", .ty "str"]) htq)
      rw [← show decide (V.int i = V.int i) = true from decide_eq_true rfl] at k2
      exact k2
    | str z =>
      refine ⟨_, rfl, by show 2 ≤ sizeLine; decide, fun tp htp => ?_⟩
      refine ⟨_, tp, _, _, [.type "list", .type "tuple"], false, rfl, upd_same, .cons (.ty _) (.cons (.ty _) .nil), .base (.str z), kit2 (by decide +kernel), false, rfl, ?_⟩
      have k1 := fun H' (s : Same _ H') => k H' (Same.trans (Same.new (o := .tup [.ty "list", .ty "tuple"]) htp) s)
      generalize (upd H tp (.tup [.ty "list", .ty "tuple"])) = H1 at k1
      refine ⟨_, rfl, rfl, _, rfl, ?_⟩
      refine ⟨_, rfl, by show 2 ≤ sizeLine; decide, fun tq htq => ?_⟩
      refine ⟨_, tq, _, _, [.type "bool", .type "str"], true, rfl, upd_same, .cons (.ty _) (.cons (.ty _) .nil), .base (.str z), kit2 (by decide +kernel), true, rfl, ?_⟩
      refine ⟨_, rfl, _, rfl, rfl, _, rfl, ?_⟩
      refine ite2 (fun _ => ?_) (fun q => absurd (decide_eq_true rfl) q)
      refine ⟨_, rfl, _, _, _, _, false, rfl, .ty _, .base (.str z), kit_ty (by decide +kernel), _, rfl, _, _, _, _, false, rfl, .ty _, .base (.str z), kit_ty (by decide +kernel), rfl, _, rfl, ?_⟩
      refine ⟨_, rfl, rfl, _, rfl, rfl, rfl, ?_⟩
      exact k1 _ (Same.new htq)
    | @lst _ a b xs ys ha hb hl h1 ih =>
      refine ⟨_, rfl, by show 2 ≤ sizeLine; decide, fun tp htp => ?_⟩
      have s1 := Same.new (o := .tup [.ty "list", .ty "tuple"]) htp
      refine ⟨_, tp, _, _, [.type "list", .type "tuple"], true, rfl, upd_same, .cons (.ty _) (.cons (.ty _) .nil), tyL (s1.seq hb), kit2 (by decide +kernel), true, rfl, ?_⟩
      generalize (upd H tp (.tup [.ty "list", .ty "tuple"])) = H1 at s1
      have ha1 := s1.seq ha
      have hb1 := s1.seq hb
      refine ⟨_, rfl, _, _, _, _, true, rfl, .ty _, tyL ha1, kit_ty (by decide +kernel), _, rfl, _, _, _, _, true, rfl, .ty _, tyL hb1, kit_ty (by decide +kernel), rfl, _, rfl, ?_⟩
      refine ⟨_, rfl, _, _, _, _, false, rfl, .ty _, tyL ha1, kit_ty (by decide +kernel), _, rfl, _, _, _, _, false, rfl, .ty _, tyL hb1, kit_ty (by decide +kernel), rfl, _, rfl, ?_⟩
      refine ⟨_, rfl, a, xs, rfl, .inl ha1, _, rfl, b, ys, rfl, .inl hb1, rfl, _, rfl, ?_⟩
      refine ite2 (fun _ => ?_) (fun q => absurd (decide_eq_true (by rw [hl])) q)
      refine ⟨_, rfl, _, rfl, a, b, xs, ys, rfl, .inl ⟨ha1, hb1, fun D hD => ?_⟩⟩
      refine lc_it (walk_zip (K := K) (a := a) (b := b) (xs := xs) (ys := ys) (n := xs.length) (by rw [hl]; exact (Nat.min_self _).symm)) (fun i H' => Same H1 H' ∧ H' D = some (.lst ((List.replicate i true).map V.bl))) ⟨Same.new hD, upd_same⟩ (fun i H' _ ⟨z, _⟩ => ⟨z.seq ha1, z.seq hb1⟩) ?_ ?_
      · rintro i v H2 H3 hi ⟨z, hd⟩ ⟨t, x, y, rfl, ht, rfl, hx, hy⟩
        have nDt : D ≠ t := ne_of_none hd ht
        have z3 := Same.trans s1 (Same.trans z (Same.new (o := .tup [x, y]) ht))
        have hd3 : (upd H2 t (.tup [x, y])) D = some (.lst ((List.replicate i true).map V.bl)) := by rw [upd_ne nDt]; exact hd
        have zz := Same.upd (o := .tup [x, y]) z (z.free ht)
        refine ⟨t, _, rfl, SqT.of upd_same, rfl, _, _, rfl, _, _, rfl, rfl, rfl, ?_⟩
        refine ⟨_, rfl, _, rfl, x, y, rfl, Dq.same z3 (ih i x y hx hy), fun H4 s4 => ?_⟩
        refine ⟨_, s4 _ _ hd3, ?_, Same.own (Same.trans zz s4) hD, ?_⟩
        · rw [List.length_map, List.length_replicate]
          exact small1000 (by omega)
        · rw [upd_same, show ((List.replicate i true).map V.bl ++ [V.bl true]) = (List.replicate (i + 1) true).map V.bl by rw [List.replicate_succ', List.map_append]; rfl]
      · rintro H2 ⟨z, hd⟩
        refine ⟨D, List.replicate xs.length true, rfl, SqL.of hd, ?_⟩
        rw [show (List.replicate xs.length true).all id = true by simp]
        exact k _ (Same.trans s1 z)
    | @tup _ a b xs ys ha hb hl h1 ih =>
      refine ⟨_, rfl, by show 2 ≤ sizeLine; decide, fun tp htp => ?_⟩
      have s1 := Same.new (o := .tup [.ty "list", .ty "tuple"]) htp
      refine ⟨_, tp, _, _, [.type "list", .type "tuple"], true, rfl, upd_same, .cons (.ty _) (.cons (.ty _) .nil), tyT (Same.sqT s1 hb), kit2 (by decide +kernel), true, rfl, ?_⟩
      generalize (upd H tp (.tup [.ty "list", .ty "tuple"])) = H1 at s1
      have ha1 := Same.sqT s1 ha
      have hb1 := Same.sqT s1 hb
      refine ⟨_, rfl, _, _, _, _, false, rfl, .ty _, tyT ha1, kit_ty (by decide +kernel), _, rfl, _, _, _, _, false, rfl, .ty _, tyT hb1, kit_ty (by decide +kernel), rfl, _, rfl, ?_⟩
      refine ⟨_, rfl, _, _, _, _, true, rfl, .ty _, tyT ha1, kit_ty (by decide +kernel), _, rfl, _, _, _, _, true, rfl, .ty _, tyT hb1, kit_ty (by decide +kernel), rfl, _, rfl, ?_⟩
      refine ⟨_, rfl, a, xs, rfl, .inr ha1, _, rfl, b, ys, rfl, .inr hb1, rfl, _, rfl, ?_⟩
      refine ite2 (fun _ => ?_) (fun q => absurd (decide_eq_true (by rw [hl])) q)
      refine ⟨_, rfl, _, rfl, a, b, xs, ys, rfl, .inr ⟨ha1, hb1, fun D hD => ?_⟩⟩
      refine lc_it (walk_zipT (K := K) (a := a) (b := b) (xs := xs) (ys := ys) (n := xs.length) (by rw [hl]; exact (Nat.min_self _).symm)) (fun i H' => Same H1 H' ∧ H' D = some (.lst ((List.replicate i true).map V.bl))) ⟨Same.new hD, upd_same⟩ (fun i H' _ ⟨z, _⟩ => ⟨Same.sqT z ha1, Same.sqT z hb1⟩) ?_ ?_
      · rintro i v H2 H3 hi ⟨z, hd⟩ ⟨t, x, y, rfl, ht, rfl, hx, hy⟩
        have nDt : D ≠ t := ne_of_none hd ht
        have z3 := Same.trans s1 (Same.trans z (Same.new (o := .tup [x, y]) ht))
        have hd3 : (upd H2 t (.tup [x, y])) D = some (.lst ((List.replicate i true).map V.bl)) := by rw [upd_ne nDt]; exact hd
        have zz := Same.upd (o := .tup [x, y]) z (z.free ht)
        refine ⟨t, _, rfl, SqT.of upd_same, rfl, _, _, rfl, _, _, rfl, rfl, rfl, ?_⟩
        refine ⟨_, rfl, _, rfl, x, y, rfl, Dq.same z3 (ih i x y hx hy), fun H4 s4 => ?_⟩
        refine ⟨_, s4 _ _ hd3, ?_, Same.own (Same.trans zz s4) hD, ?_⟩
        · rw [List.length_map, List.length_replicate]
          exact small1000 (by omega)
        · rw [upd_same, show ((List.replicate i true).map V.bl ++ [V.bl true]) = (List.replicate (i + 1) true).map V.bl by rw [List.replicate_succ', List.map_append]; rfl]
      · rintro H2 ⟨z, hd⟩
        refine ⟨D, List.replicate xs.length true, rfl, SqL.of hd, ?_⟩
        rw [show (List.replicate xs.length true).all id = true by simp]
        exact k _ (Same.trans s1 z)
end
end TC

/-! forget, which may raise; heard -/
namespace TC
open PySem PySem.Spec PyProof.Rows L2 He
abbrev cNo (K : PySem.W.Frag) : Addr := ga K "NoName"
structure NmT (P : Program) (K : PySem.W.Frag) : Prop where
  low : ∃ (fI cda cc : Addr) (qual : Str), LowF P K (cNo K) fI cda cc (defArgs (cSt 12 0)) lowBody lowScope qual
  kp : PySem.W.keepIn K (.ref (cNo K)) = true
  exc : ExcC K (cNo K)
  no : PySem.W.findIn K (.ref (cNo K)) "name" = some none
  ty : PySem.W.typeIn K (.ref (cNo K)) = some (.type "type")
  is : PySem.W.kitOne K (.ref (cNo K)) (.type "LookupError") = some true
  one : PySem.W.exmOne K (.ref (cNo K)) (.ref (cNo K)) = some true
def spForget (K : PySem.W.Frag) : Sp := fun vs H Q E => ∃ (p l : Addr) (m : Mo) (past : List Mo) (n : Str), vs = [.ref p, .str n] ∧ BoardAt K H p l m past ∧ past.length ≤ 900 ∧
  (n ∈ m.1 → ∀ H', Kp [p, l] H H' → BoardAt K H' p l (outsideL m.1 [n], m.2) (past ++ [m]) → Q .non H') ∧ (n ∉ m.1 → ∀ d, H d = none → E (.ref (cNo K)) (some d) (upd H d (.xd [("name", .str n)])))
def spHeard (K : PySem.W.Frag) : Sp := fun vs H Q _ => ∃ (p l : Addr) (m : Mo) (past : List Mo) (n : Str), vs = [.ref p, .str n] ∧ BoardAt K H p l m past ∧ past.length ≤ 900 ∧
  (n ∈ m.1 → ∀ H', Kp [p, l] H H' → BoardAt K H' p l (outsideL m.1 [n], m.2) (past ++ [m]) → Q .non H') ∧ (n ∉ m.1 → ∀ H', Same H H' → Q (.str n) H')
/-- one value by place, one by keyword -/
def g1 {α : Type} : List α → List α → List α
  | [a], [b] => [a, b]
  | _, _ => []
theorem kb1 {K : PySem.W.Frag} {fd : FuncData} {p k : Str} (h : ∀ a b, bindArgs fd ⟨[a], [(k, b)]⟩ = pure [(p, a), (k, b)]) : KBinds K fd [p, k] [k] g1 g1 := by
  constructor
  · intro s us ws _ hl
    match us, ws, hl with
    | [a], [b], _ => exact .of_eq (h a b)
    | [], _, hl => cases hl
    | [_], [], hl => cases hl
    | [_], _ :: _ :: _, hl => cases hl
    | _ :: _ :: _, _, hl => cases hl
  · intro vs us zs ws r1 r2
    match vs, us, zs, ws, r1, r2 with
    | [_], [_], [_], [_], .cons a .nil, .cons b .nil => exact .cons a (.cons b .nil)
    | [], [], _, _, _, _ => exact .nil
    | [_], [_], [], [], .cons a .nil, _ => exact .nil
    | [_], [_], _ :: _ :: _, _ :: _ :: _, .cons a .nil, _ => exact .nil
    | _ :: _ :: _, _ :: _ :: _, _, _, _, _ => exact .nil
/-- forget, called by its keyword -/
def ForgetK (P : Program) (w : World) (K : PySem.W.Frag) (mg : Str → Option Value) (base : Heap) : Prop := ∃ fd, FnOk P w K mg base (CX P w) 3 (ma K (ga K "Board") "forget") fd ["self", "name"] (spForget K) ∧ KBinds K fd ["self", "name"] ["name"] g1 g1
section
variable {P : Program} {w : World} {K : PySem.W.Frag} {mg : Str → Option Value} {base : Heap} {f g : Addr}
theorem scFg : FnScope ["self", "name", "own"] ["self", "name"] (defScope (cSt 59 24)) := ⟨rfl, rfl, rfl, by decide +kernel, rfl, by decide +kernel, by decide +kernel⟩
theorem ok_forget (T : Txt K mg) (TN : NmT P K) (F : DefAt K "forget" "Board.forget" (cSt 59 24) f) (Gkeep : DOk P w K mg base CX0 2 (ma K (ga K "Board") "keep") ["self"] (spKeep K)) : ∃ fd, FnOk P w K mg base (CX P w) 3 f fd ["self", "name"] (spForget K) ∧ KBinds K fd ["self", "name"] ["name"] g1 g1 := by
  obtain ⟨fI, cda, cc, qual, TL⟩ := TN.low
  obtain ⟨fd, F⟩ := F
  refine ⟨fd, ?_, by
    obtain ⟨oc, od, dV, kV, doc, pm, an, cdv, ct, osl, rfl, lk, hcd, hD, hK⟩ := F.ex
    rcases hD with ⟨_, rfl⟩ | ⟨e, _⟩
    · exact kb1 fun _ _ => rfl
    · exact absurd rfl e⟩
  refine F.ok scFg (fun vs H Q E h => ?_) (fun cdv A outer s H vs Q E hr h => ?_)
  · obtain ⟨p, l, m, past, n, rfl, _⟩ := h
    rfl
  · obtain ⟨p, l, m, past, n, rfl, B, hn, kin, kout⟩ := h
    refine ⟨_, (pss_cons (ps_if (pt_cmpR op_notIn_seq (pv 1) (pe_fld (pv 0) rfl) (by rfl)) (pss_one (ps_raise rfl (takes_of rfl rfl rfl rfl) (pmk_low TL rfl (fun _ _ _ _ _ _ _ => rfl) (by rfl) (T.g "NoName") TN.kp (T.f "super") (hr.mono (by decide)) (raises_own TN.exc.hs TN.ty) (pv 1)))) pss_nil)
      (pss_cons (ps_expr (pmt0 (pv 0) T.cB (T.mB "keep" (by decide +kernel)) Gkeep (hr.mono (by decide)) pass0))
      (pss_one (ps_fld (pv 0) (pe_callTy call_tuple_of (by rfl) (T.f "tuple") (by decide +kernel) (pa_cons (pe_lc (own := [("own", 2)]) (g := (gName 2)) (by rfl) scFg.nd (pi_tup (pe_fld (pv 0) rfl)) (blkOk_by (own := [("own", 2)]) (N := ["self", "name", "own"]) (sc := defScope (cSt 59 24)) (by decide +kernel)) (fun _ _ _ _ _ => (pg_name (i := 2) scFg.nd rfl (Or.inl rfl))) (fun _ _ _ _ _ => (pts_one (pt_cmpR op_ne (pv 2) (pv 1) (nomark _)))) (fun _ _ _ _ _ => (pv 2))) pa_nil)) rfl)))), ?_⟩
    obtain ⟨dx, r, dv, df, hp, hr⟩ := B.ex
    refine ⟨_, rfl, _, rfl, p, _, dx, _, _, rfl, hp, T.cB, T.nB "own_row" (by decide +kernel), rfl, r, _, rfl, .inr hr, rfl, flat_row _, _, rfl, ?_⟩
    by_cases hm : n ∈ m.1
    case neg =>
      have e0 : inV (.str n) (rowV m.1) = false := by
        rw [inV_row]
        exact Bool.eq_false_iff.mpr fun q => hm (List.contains_iff_mem.mp q)
      rw [e0]
      exact ⟨_, rfl, fun d hd => kout hm d hd⟩
    have k := kin hm
    have e0 : inV (.str n) (rowV m.1) = true := by
      rw [inV_row]
      exact List.contains_iff_mem.mpr hm
    rw [e0]
    refine ⟨_, rfl, p, dx, _, rfl, hp, rfl, p, l, m, past, rfl, B, by omega, fun H1 k1 B1 => ?_⟩
    have npl := B1.ne
    obtain ⟨⟨dx1, r1, dv1, df1, hp1, hr1⟩, ⟨ps, hl1, hps⟩, lk, ln⟩ := B1
    refine ⟨_, rfl, p, _, dx1, _, _, rfl, hp1, T.cB, T.nB "own_row" (by decide +kernel), rfl, r1, rfl, ⟨_, hr1⟩, fun D hD => ?_⟩
    refine lc_filt (fun x => !decide (x = .str n)) hr1 hD ?_ ?_ ?_
    · rw [rowV_len]
      exact small1000 (by omega)
    · intro i x acc hx hz N hN
      obtain ⟨sx, _, rfl⟩ := map_at hx
      refine ⟨rfl, _, rfl, _, rfl, rfl, _, rfl, ?_⟩
      refine ite2 (fun q => ?_) (fun q => ?_)
      · rw [if_pos q] at hN
        exact ⟨_, rfl, _, upd_same, hz, by rw [upd_upd]; exact hN⟩
      · rw [if_neg q] at hN
        exact hN
    · rw [outside_ne]
      refine ⟨D, _, rfl, .inl ⟨SqL.of upd_same, fun t ht => ?_⟩⟩
      have z1 := Same.new (o := .lst (rowV (outsideL m.1 [n]))) hD
      have z2 := Same.upd (o := .tup (rowV (outsideL m.1 [n]))) z1 (free1 ht)
      have lo := outsideL_len m.1 [n]
      have ln' : m.1.length ≤ 900 := ln
      refine ⟨_, rfl, p, _, dx1, _, rfl, z2 _ _ hp1, T.cB, T.nB "own_row" (by decide +kernel), (by show 5 < 1000; decide), ?_⟩
      have kq : Kp [p] H1 (upd (upd (upd H1 D (.lst (rowV (outsideL m.1 [n])))) t (.tup (rowV (outsideL m.1 [n])))) p (.ins (cBoard K) dx1 (putF "own_row" (.ref t) (brdF (.ref r1) (limV m.2) dv1 df1 (.ref l))))) :=
        Kp.put (Same.kp z2) List.mem_cons_self (z2 _ _ hp1) rfl
      refine k _ (Kp.trans (kp2 k1) (kp1 kq)) ⟨⟨dx1, t, dv1, df1, upd_same, SqT.of ?_⟩, ⟨ps, ?_, Paired.imp (fun _ _ w => w.kp kq) hps⟩, lk, by show (outsideL m.1 [n]).length ≤ 900; omega⟩
      · rw [upd_ne (ne_of_none (z1 _ _ hp1) ht).symm, upd_same]
      · rw [upd_ne npl.symm]
        exact z2 _ _ hl1
theorem scHe : FnScope ["_law_plate", "_law_tag", "_law_caught", "error_so"] ["_law_plate", "_law_tag"] (defScope (topS 74)) := ⟨rfl, rfl, rfl, by decide +kernel, rfl, by decide +kernel, by decide +kernel⟩
theorem scHb : FnScope ["_law_plate", "_law_tag", "_law_caught", "error_so"] ["_law_plate", "_law_tag"] (defScope (topS 74)) := ⟨rfl, rfl, rfl, by decide +kernel, rfl, by decide +kernel, by decide +kernel⟩
theorem ok_heard (T : Txt K mg) (TN : NmT P K) (F : DefAt K "_law_heard" "_law_heard" (topS 74) f) (Gforget : ForgetK P w K mg base) : DOk P w K mg base CX0 4 f ["_law_plate", "_law_tag"] (spHeard K) := by
  obtain ⟨fd, Gf, Gb⟩ := Gforget
  refine F.ok scHe (fun _ _ _ _ _ _ us hl => match us, hl with | [_, _], _ => rfl) (fun vs H Q E h => ?_) (fun cdv A outer s H vs Q E hr h => ?_)
  · obtain ⟨p, l, m, past, n, rfl, _⟩ := h
    rfl
  · obtain ⟨p, l, m, past, n, rfl, B, hn, kin, kout⟩ := h
    obtain ⟨dx, r, dv, df, hp, _⟩ := B.ex
    by_cases hm : n ∈ m.1
    · refine ⟨_, (pss_cons (ps_set (i := 2) scHe.nd rfl (Or.inl rfl) pe_non)
      (pss_cons (ps_try_keep (i := 3) rfl rfl rfl scHe.nd rfl rfl ⟨rfl, by decide, .inl (T.g "NoName")⟩ takes0 (fun W pn xe tk _ => pss_one (ps_expr (pe_methKS (pv 0) T.cB (T.mB "forget" (by decide +kernel)) Gf (hr.mono (by decide)) Gb (fun σ => passAt tk σ) (pk_cons (pv 1) pk_nil)))) (fun a oe cls d pn _ _ => pss_one (ps_set (i := 2) scHe.nd rfl (Or.inl rfl) (pv 3))))
      (pss_one (ps_ret (pe_ifExp (pt_val (pe_callB call_isi (by rfl) (T.f "isinstance") (by decide +kernel) (pa_cons (pv 2) (pa_cons (pe_bltn (v := .ty "LookupError") (by rfl) (T.f "LookupError") (by decide +kernel) rfl) pa_nil)))) (pe_keptF (pv 2)) pe_non))))), ?_⟩
      refine ⟨_, rfl, p, dx, _, rfl, hp, rfl, _, rfl, p, l, m, past, n, rfl, B, hn, fun _ H1 k1 B1 => ?_, fun z => absurd hm z⟩
      exact ⟨_, rfl, _, _, _, _, false, rfl, .ty _, .base .non, kit_ty (by decide +kernel), false, rfl, kin hm _ k1 B1⟩
    · refine ⟨_, (pss_cons (ps_set (i := 2) scHb.nd rfl (Or.inl rfl) pe_non)
      (pss_cons (ps_try_keep (i := 3) rfl rfl rfl scHe.nd rfl rfl ⟨rfl, by decide, .inl (T.g "NoName")⟩ takes0 (fun W pn xe tk _ => pss_one (ps_expr (pe_methKS (pv 0) T.cB (T.mB "forget" (by decide +kernel)) Gf (hr.mono (by decide)) Gb (fun σ => passAt tk σ) (pk_cons (pv 1) pk_nil)))) (fun a oe cls d pn _ _ => pss_one (ps_set (i := 2) scHe.nd rfl (Or.inl rfl) (pv 3))))
      (pss_one (ps_ret (pe_ifExp (pt_val (pe_callB call_isKept (by rfl) (T.f "isinstance") (by decide +kernel) (pa_cons (pv 2) (pa_cons (pe_bltn (v := .ty "LookupError") (by rfl) (T.f "LookupError") (by decide +kernel) rfl) pa_nil)))) (pe_keptF (pv 2)) pe_non))))), ?_⟩
      refine ⟨_, rfl, p, dx, _, rfl, hp, rfl, _, rfl, p, l, m, past, n, rfl, B, hn, fun z => absurd z hm, fun _ d hd => ?_⟩
      refine ⟨true, TN.one, fun _ => ⟨cNo K, d, rfl, rfl, fun a ha => ?_⟩, fun z => by cases z⟩
      refine ⟨_, rfl, ?_⟩
      have nda : d ≠ a := (ne1 ha)
      have ea : (upd (upd H d (.xd [("name", .str n)])) a (KeptO (cNo K) d a)) a = some (KeptO (cNo K) d a) := upd_same
      have ed : (upd (upd H d (.xd [("name", .str n)])) a (KeptO (cNo K) d a)) d = some (.xd [("name", .str n)]) := by rw [upd_ne nda, upd_same]
      have z := Same.upd (o := KeptO (cNo K) d a) (Same.new (o := .xd [("name", .str n)]) hd) (free1 ha)
      refine ⟨_, rfl, a, d, cNo K, _, "LookupError", true, rfl, ea, ed, TN.exc, TN.is, true, rfl, ?_⟩
      exact ⟨_, rfl, a, d, cNo K, _, .str n, rfl, ea, ed, TN.exc, TN.no, rfl, kout hm _ z⟩
end
end TC

/-! right -/
namespace TC
open PySem PySem.Spec PyProof.Rows L2 He
def spHand : Sp := fun vs H Q _ => vs = [] ∧ ∀ H', Same H H' → Q (.bl true) H'
def spRight (K : PySem.W.Frag) : Sp := fun vs H Q _ => ∃ u : Addr, vs = [.ref u] ∧ UrnAt H u 0 ∧ ∀ H', Kp [u] H H' → Q (.bl true) H'
theorem Kp.hide {S S' : List Addr} {H0 H H' : Hp} (a : Kp S H0 H) (b : Kp S' H H') (h : ∀ x ∈ S', x ∈ S ∨ H0 x = none) : Kp S H0 H' := fun c o e q => by
  have z := a c o e q
  refine b c o z (q.imp (fun n m => ?_) id)
  rcases h c m with y | y
  · exact n y
  · rw [e] at y
    cases y
theorem Kp.none {S : List Addr} {H H1 : Hp} (k : Kp S H H1) {a : Addr} (h : H1 a = Option.none) (n : a ∉ S) : H a = Option.none := by
  cases e : H a with
  | none => rfl
  | some o =>
    have z := k a o e (.inl n)
    rw [h] at z
    cases z
def MoV (K : PySem.W.Frag) (H : Hp) (v : V) (m : Mo) : Prop := ∃ t r : Addr, v = .ref t ∧ SqT K H t [.ref r, limV m.2] ∧ SqT K H r (rowV m.1)
theorem MoV.kp {K : PySem.W.Frag} {S : List Addr} {H H1 : Hp} (h : Kp S H H1) {v : V} {m : Mo} (b : MoV K H v m) : MoV K H1 v m := by
  obtain ⟨t, r, e, q, s⟩ := b
  exact ⟨t, r, e, h.sqT q, h.sqT s⟩
/-- between two laps -/
structure LapS (K : PySem.W.Frag) (H0 H : Hp) (u p l ra rk : Addr) (m : Mo) (past : List Mo) : Prop where
  k : Kp [u] H0 H
  b : BoardAt K H p l m past
  r : SqT K H ra (rowV m.1)
  ks : ∃ xs, H rk = some (.lst xs) ∧ Paired (MoV K H) xs (past ++ [m])
  p0 : H0 p = none
  l0 : H0 l = none
  k0 : H0 rk = none
  nul : u ≠ l
  nkl : rk ≠ l
  nuk : u ≠ rk
  within : cutR m.2 m.1 = m.1
theorem LapS.nkp {K : PySem.W.Frag} {H0 H : Hp} {u p l ra rk : Addr} {m : Mo} {past : List Mo} (s : LapS K H0 H u p l ra rk m past) : rk ≠ p := by
  obtain ⟨xs, e, _⟩ := s.ks
  obtain ⟨dx, r, dv, df, hp, _⟩ := s.b.ex
  exact ne_of e hp (by intro z; cases z)
theorem urn_ne {K : PySem.W.Frag} {H : Hp} {u p l : Addr} {M : Nat} {m : Mo} {past : List Mo} (U : UrnAt H u M) (b : BoardAt K H p l m past) : u ≠ p := by
  obtain ⟨xs, e⟩ := U.lst
  obtain ⟨dx, r, dv, df, hp, _⟩ := b.ex
  exact ne_of e hp (by intro z; cases z)
/-- what another object's change leaves -/
theorem LapS.urn {K : PySem.W.Frag} {H0 H H1 : Hp} {u p l ra rk : Addr} {m : Mo} {past : List Mo} {M : Nat} (s : LapS K H0 H u p l ra rk m past) (U : UrnAt H u M) (k : Kp [u] H H1) : LapS K H0 H1 u p l ra rk m past := by
  obtain ⟨xs, e, q⟩ := s.ks
  exact ⟨Kp.trans s.k k, s.b.kp k (by simpa using (urn_ne U s.b).symm) (by simpa using s.nul.symm), k.sqT s.r, ⟨xs, k _ _ e (.inl (by simpa using s.nuk.symm)), Paired.imp (fun _ _ w => w.kp k) q⟩, s.p0, s.l0, s.k0, s.nul, s.nkl, s.nuk, s.within⟩
theorem LapS.same {K : PySem.W.Frag} {H0 H H1 : Hp} {u p l ra rk : Addr} {m : Mo} {past : List Mo} (s : LapS K H0 H u p l ra rk m past) (z : Same H H1) : LapS K H0 H1 u p l ra rk m past := by
  obtain ⟨xs, e, q⟩ := s.ks
  exact ⟨Kp.trans s.k (Same.kp z), s.b.same z, Same.sqT z s.r, ⟨xs, z _ _ e, Paired.imp (fun _ _ w => w.kp (Same.kp (S := []) z)) q⟩, s.p0, s.l0, s.k0, s.nul, s.nkl, s.nuk, s.within⟩
/-- the board has moved on, the row is kept: the new pair t is appended -/
theorem LapS.step {K : PySem.W.Frag} {H0 H H1 H2 : Hp} {u p l l' ra ra' rk t : Addr} {m m' : Mo} {past : List Mo} {xs : List V} (s : LapS K H0 H u p l ra rk m past) (hx : H rk = some (.lst xs)) (hq : Paired (MoV K H) xs (past ++ [m]))
    (k1 : Kp [p, l] H H1) (B1 : BoardAt K H1 p l' m' (past ++ [m])) (hl' : l' = l ∨ H l' = none) (z2 : Same H1 H2) (r2 : SqT K H2 ra' (rowV m'.1)) (wi : cutR m'.2 m'.1 = m'.1) (nup : u ≠ p) (hu : ∃ ys, H u = some (.lst ys)) (ht : H2 t = none) :
    LapS K H0 (upd (upd H2 t (.tup [.ref ra', limV m'.2])) rk (.lst (xs ++ [.ref t]))) u p l' ra' rk m' (past ++ [m]) := by
  obtain ⟨ys, hu⟩ := hu
  have nkp := s.nkp
  have e1 : H1 rk = some (.lst xs) := k1 _ _ hx (.inl (by
    simp only [List.mem_cons, List.not_mem_nil, or_false]
    rintro (q | q)
    · exact nkp q
    · exact s.nkl q))
  have e2 := z2 _ _ e1
  have nkt : rk ≠ t := ne_of_none e2 ht
  have k3 : Kp [rk] H2 (upd (upd H2 t (.tup [.ref ra', limV m'.2])) rk (.lst (xs ++ [.ref t]))) := Kp.put (Kp.new Kp.refl ht) List.mem_cons_self (by rw [upd_ne nkt]; exact e2) rfl
  have nkl' : rk ≠ l' := by
    rcases hl' with q | q
    · rw [q]
      exact s.nkl
    · exact ne_of_none hx q
  have nul' : u ≠ l' := by
    rcases hl' with q | q
    · rw [q]
      exact s.nul
    · exact ne_of_none hu q
  have l0' : H0 l' = none := by
    rcases hl' with q | q
    · rw [q]
      exact s.l0
    · exact s.k.none q (by simpa using nul'.symm)
  have kall : Kp [p, l] H H2 := Kp.trans k1 (Same.kp z2)
  have kfin : Kp [u] H0 (upd (upd H2 t (.tup [.ref ra', limV m'.2])) rk (.lst (xs ++ [.ref t]))) := by
    refine Kp.hide (Kp.hide s.k kall ?_) k3 ?_
    · simp only [List.mem_cons, List.not_mem_nil, or_false]
      rintro x (q | q)
      · rw [q]
        exact .inr s.p0
      · rw [q]
        exact .inr s.l0
    · simp only [List.mem_cons, List.not_mem_nil, or_false]
      rintro x q
      rw [q]
      exact .inr s.k0
  refine ⟨kfin, (B1.same z2).kp k3 (by simpa using nkp.symm) (by simpa using nkl'.symm), k3.sqT r2, ⟨_, upd_same, Paired.snoc ⟨t, ra', rfl, SqT.of ?_, k3.sqT r2⟩ (Paired.imp (fun _ _ w => (w.kp kall).kp k3) hq)⟩, s.p0, l0', s.k0, nul', nkl', s.nuk, wi⟩
  rw [upd_ne nkt.symm, upd_same]
/-- while all is undone -/
structure UndoS (K : PySem.W.Frag) (H0 H : Hp) (u p l rk : Addr) (m : Mo) (past : List Mo) : Prop where
  k : Kp [u] H0 H
  b : BoardAt K H p l m past
  ks : ∃ xs, H rk = some (.lst xs) ∧ Paired (MoV K H) xs (past ++ [m])
  p0 : H0 p = none
  l0 : H0 l = none
  k0 : H0 rk = none
  nul : u ≠ l
  nkl : rk ≠ l
  nuk : u ≠ rk
theorem LapS.undo {K : PySem.W.Frag} {H0 H : Hp} {u p l ra rk : Addr} {m : Mo} {past : List Mo} (s : LapS K H0 H u p l ra rk m past) : UndoS K H0 H u p l rk m past := ⟨s.k, s.b, s.ks, s.p0, s.l0, s.k0, s.nul, s.nkl, s.nuk⟩
theorem UndoS.nkp {K : PySem.W.Frag} {H0 H : Hp} {u p l rk : Addr} {m : Mo} {past : List Mo} (s : UndoS K H0 H u p l rk m past) : rk ≠ p := by
  obtain ⟨xs, e, _⟩ := s.ks
  obtain ⟨dx, r, dv, df, hp, _⟩ := s.b.ex
  exact ne_of e hp (by intro z; cases z)
theorem UndoS.same {K : PySem.W.Frag} {H0 H H1 : Hp} {u p l rk : Addr} {m : Mo} {past : List Mo} (s : UndoS K H0 H u p l rk m past) (z : Same H H1) : UndoS K H0 H1 u p l rk m past := by
  obtain ⟨xs, e, q⟩ := s.ks
  exact ⟨Kp.trans s.k (Same.kp z), s.b.same z, ⟨xs, z _ _ e, Paired.imp (fun _ _ w => w.kp (Same.kp (S := []) z)) q⟩, s.p0, s.l0, s.k0, s.nul, s.nkl, s.nuk⟩
theorem dq_mo {K : PySem.W.Frag} {H : Hp} {t t' r r' : Addr} {m : Mo} (h1 : SqT K H t [.ref r, limV m.2]) (h2 : SqT K H r (rowV m.1)) (h3 : SqT K H t' [.ref r', limV m.2]) (h4 : SqT K H r' (rowV m.1)) (hl : m.1.length ≤ 1000) : Dq K H 2 (.ref t) (.ref t') := by
  refine .tup h1 h3 rfl (by show 2 ≤ 1000; decide) ?_
  intro i x y hx hy
  match i, hx, hy with
  | 0, hx, hy =>
    obtain rfl := Option.some.inj hx
    obtain rfl := Option.some.inj hy
    refine .tup h2 h4 rfl (by rw [rowV_len]; exact hl) ?_
    intro j x y hx hy
    rw [hx] at hy
    obtain rfl := Option.some.inj hy
    obtain ⟨s, _, rfl⟩ := map_at hx
    exact .str s
  | 1, hx, hy =>
    obtain rfl := Option.some.inj hx
    obtain rfl := Option.some.inj hy
    cases m.2 with
    | none => exact .non
    | some c => exact .int c
theorem cutS {B : Prop} {R : L2.St → Hp → Prop} (C : L2.St → Hp → Prop) (f : (∀ σ H, C σ H → R σ H) → B) (a : ∀ σ H, C σ H → R σ H) : B := f a
theorem within_out {c : Option Int} {r : List Str} (h : cutR c r = r) (n : Str) : cutR c (outsideL r [n]) = outsideL r [n] := by
  cases c with
  | none => rfl
  | some k =>
    have h2 : r.take k.toNat = r := h
    have h3 : r.length ≤ k.toNat := by
      have := congrArg List.length h2
      rw [List.length_take] at this
      omega
    have := outsideL_len r [n]
    exact List.take_of_length_le (by omega)
theorem within_cut (c : Option Int) (r : List Str) : cutR c (cutR c r) = cutR c r := by
  cases c with
  | none => rfl
  | some k =>
    show (r.take k.toNat).take k.toNat = r.take k.toNat
    rw [List.take_take, Nat.min_self]
section
variable {P : Program} {w : World} {K : PySem.W.Frag} {mg : Str → Option Value} {base : Heap} {f g : Addr}
theorem scRt : FnScope ["_law_urn", "_law_turn", "_law_lap", "_law_row_so", "_law_most_so", "_law_plate", "_law_rows_kept", "_law_deed_here", "_law_sort_so", "_law_line_here"] ["_law_urn"] (defScope (topS 77)) := ⟨rfl, rfl, rfl, by decide +kernel, rfl, by decide +kernel, by decide +kernel⟩
theorem ok_right (T : Txt K mg) (F : DefAt K "_law_right" "_law_right" (topS 77) f) (G_law_by_hand_right : DOk P w K mg base CX0 8 (ga K "_law_by_hand_right") [] spHand) (G_law_take : DOk P w K mg base CX0 1 (ga K "_law_take") ["_law_urn", "_law_low_so"] spLawTake)
    (Gboard_init : DOk P w K mg base CX0 1 (ma K (ga K "Board") "__init__") ["self", "row"] (spBoardInit K)) (G_law_deed : DOk P w K mg base CX0 4 (ga K "_law_deed") ["_law_urn", "_law_sorts_so"] (spDeed K)) (G_law_heard : DOk P w K mg base CX0 4 (ga K "_law_heard") ["_law_plate", "_law_tag"] (spHeard K))
    (Gcut : DOk P w K mg base CX0 3 (ma K (ga K "Board") "cut") ["self", "number"] (spCut K)) (Gattempt : DOk P w K mg base CX0 9 (ma K (ga K "Board") "attempt") ["self", "deeds"] (spAttempt K)) (Gundo : DOk P w K mg base CX0 2 (ma K (ga K "Board") "undo") ["self"] (spUndo K))
    (G_law_given : DOk P w K mg base CX0 8 (ga K "_law_given") ["_law_deed_here"] (spGiven K)) (G_law_does : DOk P w K mg base CX0 1 (ga K "_law_does") ["_law_line_here", "_law_row_so"] (spDoes K)) (G_law_kept : DOk P w K mg base CX0 1 (ga K "_law_kept") ["_law_row_so", "_law_most_so"] (spKept K)) (G_law_same : DOk P w K mg base CX0 3 (ga K "_law_same") ["_law_got", "_law_goal"] (spSame 2 K))
    (Grow : DOk P w K mg base CX0 1 (inR K (ma K (ga K "Board") "row") "property") ["self"] (spRowOf K)) (Glimit : DOk P w K mg base CX0 1 (inR K (ma K (ga K "Board") "limit") "property") ["self"] (spLimOf K)) : DOk P w K mg base CX0 11 f ["_law_urn"] (spRight K) := by
  refine F.ok scRt (fun _ _ _ _ _ _ us hl => match us, hl with | [_], _ => rfl) (fun vs H Q E h => ?_) (fun cdv A outer s H vs Q E hr h => ?_)
  · obtain ⟨u, rfl, _⟩ := h
    rfl
  · obtain ⟨u, rfl, U, k⟩ := h
    refine ⟨_, (pss_cons (ps_if (pt_not (pt_val (pcl0 G_law_by_hand_right (hr.mono (by decide)) (by rfl) (T.g "_law_by_hand_right") pass0))) (pss_one (ps_ret pe_bl)) pss_nil)
      (pss_cons (ps_for PassesOwn.never rfl (pi_range1 (by rfl) (T.f "range") (pa_cons pe_int pa_nil)) (pg_name (i := 1) scRt.nd rfl (Or.inl rfl)) (pss_cons (ps_par rfl scRt.nd (i := 3) (j := 4) rfl rfl (by decide) rfl rfl (pa_cons (pe_slice sl_tupA (pe_tup (pa_cons pe_str (pa_cons pe_str (pa_cons pe_str pa_nil)))) po_none (po_some (pcl G_law_take (hr.mono (by decide)) (by rfl) (T.g "_law_take") pass0 (pa_cons (pv 0) (pa_cons pe_int pa_nil))))) (pa_cons pe_non pa_nil)) (by rfl))
      (pss_cons (ps_par rfl scRt.nd (i := 5) (j := 6) rfl rfl (by decide) rfl rfl (pa_cons (pmk T.kB Gboard_init (hr.mono (by decide)) (by rfl) (T.g "Board") pass0 (pa_cons (pe_callTy call_list_of (by rfl) (T.f "list") (by decide +kernel) (pa_cons (pv 3) pa_nil)) pa_nil)) (pa_cons (pe_lst (pa_cons (pe_tup (pa_cons (pv 3) (pa_cons pe_non pa_nil))) pa_nil)) pa_nil)) (by rfl))
      (pss_cons (ps_for PassesOwn.never rfl (pi_range1 (by rfl) (T.f "range") (pa_cons pe_int pa_nil)) (pg_name (i := 2) scRt.nd rfl (Or.inl rfl)) (pss_cons (ps_set (i := 7) scRt.nd rfl (Or.inl rfl) (pcl G_law_deed (hr.mono (by decide)) (by rfl) (T.g "_law_deed") pass0 (pa_cons (pv 0) (pa_cons (pe_lst (pa_cons pe_str (pa_cons pe_str (pa_cons pe_str (pa_cons pe_str (pa_cons pe_str (pa_cons pe_str pa_nil))))))) pa_nil))))
      (pss_cons (ps_if (PW.pt (pw_and (pt_cmpR op_eq (pe_ix ix_tup (pv 7) pe_int (fun _ _ => rfl)) pe_str (nomark _)) (pw_and1 (pt_cmpR op_notIn_seq (pe_ix ix_tup (pv 7) pe_int (fun _ _ => rfl)) (pv 3) (by rfl))))) (pss_one (ps_if (pt_cmpR op_ne (pcl G_law_heard (hr.mono (by decide)) (by rfl) (T.g "_law_heard") pass0 (pa_cons (pv 5) (pa_cons (pe_ix ix_tup (pv 7) pe_int (fun _ _ => rfl)) pa_nil))) (pe_ix ix_tup (pv 7) pe_int (fun _ _ => rfl)) (nomark _)) (pss_one (ps_ret pe_bl)) pss_nil)) (pss_one (ps_if (pt_cmpR op_eq (pe_ix ix_tup (pv 7) pe_int (fun _ _ => rfl)) pe_str (nomark _)) (pss_cons (ps_set (i := 4) scRt.nd rfl (Or.inl rfl) (pe_ix ix_tup (pv 7) pe_int (fun _ _ => rfl)))
      (pss_cons (ps_expr (pmt (pv 5) T.cB (T.mB "cut" (by decide +kernel)) Gcut (hr.mono (by decide)) pass0 (pa_cons (pv 4) pa_nil)))
      (pss_cons (ps_set (i := 3) scRt.nd rfl (Or.inl rfl) (pcl G_law_kept (hr.mono (by decide)) (by rfl) (T.g "_law_kept") pass0 (pa_cons (pv 3) (pa_cons (pv 4) pa_nil))))
      (pss_one (ps_expr (pe_bm PySem.F.plainAttrs_list PySem.F.slot_list_append PySem.F.type_list_append mt_append (pv 6) (pa_cons (pe_tup (pa_cons (pv 3) (pa_cons (pv 4) pa_nil))) pa_nil))))))) (pss_cons (ps_expr (pmt (pv 5) T.cB (T.mB "attempt" (by decide +kernel)) Gattempt (hr.mono (by decide)) pass0 (pa_cons (pe_lst (pa_cons (pcl G_law_given (hr.mono (by decide)) (by rfl) (T.g "_law_given") pass0 (pa_cons (pv 7) pa_nil)) pa_nil)) pa_nil)))
      (pss_cons (ps_set (i := 8) scRt.nd rfl (Or.inl rfl) (pe_ifExp (pt_cmpR op_eq (pe_ix ix_tup (pv 7) pe_int (fun _ _ => rfl)) pe_str (nomark _)) pe_str pe_str))
      (pss_cons (ps_set (i := 9) scRt.nd rfl (Or.inl rfl) (pe_ifExp (pt_cmpR op_eq (pe_ix ix_tup (pv 7) pe_int (fun _ _ => rfl)) pe_str (nomark _)) (pe_ix ix_tup (pv 7) pe_int (fun _ _ => rfl)) (pe_tup (pa_cons (pe_tup (pa_cons (pv 8) (pa_cons (pe_ix ix_tup (pv 7) pe_int (fun _ _ => rfl)) pa_nil))) pa_nil))))
      (pss_cons (ps_set (i := 3) scRt.nd rfl (Or.inl rfl) (pcl G_law_kept (hr.mono (by decide)) (by rfl) (T.g "_law_kept") pass0 (pa_cons (pcl G_law_does (hr.mono (by decide)) (by rfl) (T.g "_law_does") pass0 (pa_cons (pv 9) (pa_cons (pv 3) pa_nil))) (pa_cons (pv 4) pa_nil))))
      (pss_one (ps_expr (pe_bm PySem.F.plainAttrs_list PySem.F.slot_list_append PySem.F.type_list_append mt_append (pv 6) (pa_cons (pe_tup (pa_cons (pv 3) (pa_cons (pv 4) pa_nil))) pa_nil)))))))))))
      (pss_one (ps_if (pt_not (pt_val (pcl G_law_same (hr.mono (by decide)) (by rfl) (T.g "_law_same") pass0 (pa_cons (pe_tup (pa_cons (pprop (pv 5) T.cB (T.pB "row" (by decide +kernel)) Grow (hr.mono (by decide)) pass0) (pa_cons (pprop (pv 5) T.cB (T.pB "limit" (by decide +kernel)) Glimit (hr.mono (by decide)) pass0) pa_nil))) (pa_cons (pe_ix ix_list (pv 6) (pe_un un_neg pe_int) (fun _ _ => rfl)) pa_nil))))) (pss_one (ps_ret pe_bl)) pss_nil)))))
      (pss_one (ps_while PassesOwn.never (pt_cmpR op_gt (pe_callB call_len_seq (by rfl) (T.f "len") (by decide +kernel) (pa_cons (pv 6) pa_nil)) pe_int (nomark _)) (pss_cons (ps_expr (pe_bm0 PySem.F.plainAttrs_list PySem.F.slot_list_pop PySem.F.type_list_pop mt_pop (pv 6)))
      (pss_one (ps_if (PW.pt (pw_or (pt_cmpR op_notBl (pmt0 (pv 5) T.cB (T.mB "undo" (by decide +kernel)) Gundo (hr.mono (by decide)) pass0) pe_bl (nomark _)) (pw_or1 (pt_not (pt_val (pcl G_law_same (hr.mono (by decide)) (by rfl) (T.g "_law_same") pass0 (pa_cons (pe_tup (pa_cons (pprop (pv 5) T.cB (T.pB "row" (by decide +kernel)) Grow (hr.mono (by decide)) pass0) (pa_cons (pprop (pv 5) T.cB (T.pB "limit" (by decide +kernel)) Glimit (hr.mono (by decide)) pass0) pa_nil))) (pa_cons (pe_ix ix_list (pv 6) (pe_un un_neg pe_int) (fun _ _ => rfl)) pa_nil)))))))) (pss_one (ps_ret pe_bl)) pss_nil)))))))))
      (pss_one (ps_ret pe_bl)))), ?_⟩
    refine ⟨rfl, fun H1 s1 => ⟨true, rfl, ?_⟩⟩
    refine ⟨4, rfl, by decide, by decide, for_range (lo := 0) (n := 4) (fun i σ H' => ∃ v1 v2 v3 v4 v5 v6 v7 v8 v9, σ = [some (.ref u), v1, v2, v3, v4, v5, v6, v7, v8, v9] ∧ Kp [u] H H' ∧ UrnAt H' u (400 * i))
      ⟨_, _, _, _, _, _, _, _, _, rfl, Same.kp s1, U.same s1⟩ ?_ ?_⟩
    · rintro i σ H2 hi ⟨v1, v2, v3, v4, v5, v6, v7, v8, v9, rfl, k2, U2⟩
      apply cutS (fun σ H' => ∃ ra r, σ = [some (.ref u), some (.int (0 + ((i : Nat) : Int))), v2, some (.ref ra), some .non, v5, v6, v7, v8, v9] ∧ SqT K H' ra (rowV r) ∧ r.length ≤ 3 ∧ Kp [u] H H' ∧ UrnAt H' u (400 * i + 1))
      · intro REST
        refine ⟨by show 3 ≤ sizeLine; decide, fun t0 ht0 => ?_⟩
        have z0 := Same.new (o := .tup [V.str "x", .str "y", .str "a"]) ht0
        have e0 : (upd H2 t0 (.tup [V.str "x", .str "y", .str "a"])) t0 = some (.tup (rowV ["x", "y", "a"])) := upd_same
        refine ⟨_, rfl, u, 400 * i, 4, rfl, U2.same z0, by omega, by decide, by decide, fun H3 n k3 U3 n0 n1 => ?_⟩
        have e3 := k3.tup e0
        have k3' := Kp.trans k2 (Kp.trans (Same.kp z0) k3)
        have tl : ∀ j, (((["x", "y", "a"] : List Str).take j).length ≤ 3) := fun j => by
          rw [List.length_take]
          exact Nat.min_le_right _ _
        refine ⟨n, rfl, t0, _, rfl, SqT.of e3, fun hw => ?_, fun _ q hq => ?_⟩
        · exact ⟨_, _, rfl, REST _ _ ⟨t0, ["x", "y", "a"], rfl, SqT.of e3, by decide, k3', U3⟩⟩
        · exact ⟨_, _, rfl, REST _ _ ⟨q, (["x", "y", "a"] : List Str).take n.toNat, rfl, SqT.of (by rw [upd_same]; exact congrArg (fun z => some (HO.tup z)) (cut_row ["x", "y", "a"] n n0)), tl _, Kp.new k3' hq, U3.same (Same.new hq)⟩⟩
      · rintro σ H3 ⟨ra, r, rfl, hr3, lr, k3, U3⟩
        -- the board, the rows kept
        refine ⟨_, rfl, ra, _, rfl, .inr hr3, fun l0 hl0 => ?_⟩
        have z4 := Same.new (o := .lst (rowV r)) hl0
        have e4 : (upd H3 l0 (.lst (rowV r))) l0 = some (.lst (rowV r)) := upd_same
        generalize (upd H3 l0 (.lst (rowV r))) = H4 at z4 e4
        intro p dx hp hdx ne
        have sN : Same H4 (upd (upd H4 dx (.own p)) p (.ins (cBoard K) dx [])) := Same.own (Same.new hdx) hp
        refine ⟨H4, p, dx, l0, r, rfl, SqL.of e4, by omega, sN, hp, upd_same, fun H5 l s5 l50 B5 => ⟨rfl, ?_⟩⟩
        have z5 := Same.trans z4 s5
        refine ⟨_, rfl, by show 2 ≤ sizeLine; decide, fun t ht => ⟨by show 1 ≤ sizeLine; decide, fun rk hrk => ⟨_, _, rfl, ?_⟩⟩⟩
        have z6 : Same H5 (upd (upd H5 t (.tup [.ref ra, .non])) rk (.lst [.ref t])) := Same.upd (Same.new ht) (free1 hrk)
        have et : (upd (upd H5 t (.tup [.ref ra, .non])) rk (.lst [.ref t])) t = some (.tup [.ref ra, .non]) := by rw [upd_ne (ne1 hrk), upd_same]
        have erk : (upd (upd H5 t (.tup [.ref ra, .non])) rk (.lst [.ref t])) rk = some (.lst [.ref t]) := upd_same
        have rk5 : H5 rk = none := free1 hrk
        generalize (upd (upd H5 t (.tup [.ref ra, .non])) rk (.lst [.ref t])) = H6 at z6 et erk
        have z36 := Same.trans z5 z6
        obtain ⟨xs3, hu3⟩ := U3.lst
        have hu5 := z5 _ _ hu3
        obtain ⟨psB, hlB, _⟩ := B5.pst
        have nup5 := urn_ne (U3.same z5) B5
        have S0 : LapS K H H6 u p l ra rk (r, none) [] := by
          have nkl : rk ≠ l := (ne_of_none hlB rk5).symm
          have nul : u ≠ l := fun q => by
            have := z4 _ _ hu3
            rw [q, l50] at this
            cases this
          have frs : ∀ b, H4 b = none → b ≠ u → H b = none := fun b hb nb => by
            have h3 := z4.free hb
            exact k3.none h3 (by simpa using nb)
          refine ⟨Kp.trans k3 (Same.kp z36), B5.same z6, Same.sqT z36 hr3, ⟨[.ref t], erk, .cons ⟨t, ra, rfl, SqT.of et, Same.sqT z36 hr3⟩ .nil⟩, frs p hp nup5.symm, frs l l50 nul.symm, ?_, nul, nkl, (ne_of_none hu5 rk5), rfl⟩
          exact frs rk (s5.free rk5) (ne_of_none hu5 rk5).symm
        refine ⟨20, rfl, by decide, by decide, for_range (lo := 0) (n := 20) (fun j σ H' => ∃ ra l m past v2 v7 v8 v9, σ = [some (.ref u), some (.int (0 + ((i : Nat) : Int))), v2, some (.ref ra), some (limV m.2), some (.ref p), some (.ref rk), v7, v8, v9] ∧ UrnAt H' u (400 * i + 1 + 15 * j) ∧ past.length ≤ j ∧ m.1.length ≤ 3 + 4 * j ∧ LapS K H H' u p l ra rk m past)
          ⟨ra, l, (r, none), [], _, _, _, _, rfl, U3.same z36, Nat.le_refl _, lr, S0⟩ ?_ ?_⟩
        · rintro j σ H7 hj ⟨ra, l, m, past, v2, v7, v8, v9, rfl, U7, lp, lm, S⟩
          obtain ⟨xs7, hu7⟩ := U7.lst
          refine ⟨_, rfl, by show 6 ≤ sizeLine; decide, fun sl hsl => ?_⟩
          have z7 := Same.new (o := .lst sortsV) hsl
          refine ⟨u, sl, 400 * i + 1 + 15 * j, rfl, U7.same z7, by omega, upd_same, (ne_of_none hu7 hsl).symm, fun H8 t d k8 U8 D => ?_⟩
          have S8 := (S.same z7).urn (U7.same z7) k8
          obtain ⟨xs8, hu8⟩ := U8.lst
          obtain ⟨kx, hkx, pkx⟩ := S8.ks
          obtain ⟨dx, rb, dv, df, hp, _⟩ := S8.b.ex
          have nup := urn_ne U8 S8.b
          have nkp := S8.nkp
          have lpk := Paired.len pkx
          rw [List.length_append, List.length_singleton] at lpk
          apply cutS (fun σ H' => ∃ ra l m past v2 v7 v8 v9, σ = [some (.ref u), some (.int (0 + ((i : Nat) : Int))), v2, some (.ref ra), some (limV m.2), some (.ref p), some (.ref rk), v7, v8, v9] ∧ UrnAt H' u (400 * i + 1 + 15 * (j + 1)) ∧ past.length ≤ j + 1 ∧ m.1.length ≤ 3 + 4 * (j + 1) ∧ LapS K H H' u p l ra rk m past)
          · intro REST
            apply cutS (fun σ H' => ∃ lt ss l' v2 v8, σ = [some (.ref u), some (.int (0 + ((i : Nat) : Int))), v2, some (.ref ra), some (limV m.2), some (.ref p), some (.ref rk), some (.ref t), v8, some (.ref lt)] ∧ UrnAt H' u (400 * i + 1 + 15 * j + 15) ∧ LineAt K H' lt ss ∧ ss.length ≤ 4 ∧ (l' = l ∨ H8 l' = none) ∧ Kp [p, l] H8 H' ∧ BoardAt K H' p l' (cutR m.2 (runAll ss m.1), m.2) (past ++ [m]))
            · intro TAIL
              have dk : (∃ c, d = .cut c) ∨ (∃ n, d = .use n) ∨ (∃ n, d = .forget n) ∨ ∃ ss, d = .run ss := by
                cases d with
                | cut c => exact .inl ⟨c, rfl⟩
                | use n => exact .inr (.inl ⟨n, rfl⟩)
                | forget n => exact .inr (.inr (.inl ⟨n, rfl⟩))
                | run ss => exact .inr (.inr (.inr ⟨ss, rfl⟩))
              rcases dk with ⟨c, hd⟩ | ⟨n, hd⟩ | ⟨n, hd⟩ | ⟨ss, hd⟩
              · have D : LDAt K H8 t (.cut c) := by rw [← hd]; exact D
                obtain ⟨Dt, hc⟩ := D
                refine ⟨_, rfl, t, _, _, _, rfl, rfl, Dt, atI_nat (j := 0) rfl, rfl, _, rfl, ?_⟩
                refine ⟨_, rfl, t, _, _, _, rfl, rfl, Dt, atI_nat (j := 0) rfl, rfl, _, rfl, ?_⟩
                refine ⟨_, rfl, t, _, _, _, rfl, rfl, Dt, atI_nat (j := 1) rfl, ?_⟩
                refine ⟨_, rfl, p, dx, _, rfl, hp, rfl, _, rfl, p, l, m, past, c, rfl, S8.b, by omega, hc, fun H9 k9 B9 => ?_⟩
                refine ⟨_, rfl, _, rfl, ra, m.1, c, rfl, k9.sqT S8.r, hc, fun H10 q s10 e10 => ?_⟩
                have e9 : H9 rk = some (.lst kx) := k9 _ _ hkx (.inl (by
                  simp only [List.mem_cons, List.not_mem_nil, or_false]
                  rintro (q | q)
                  · exact nkp q
                  · exact S8.nkl q))
                have e10' := s10 _ _ e9
                have cl := cutR_len c m.1
                refine ⟨_, rfl, .inl ⟨rfl, _, SqL.of e10'⟩, _, rfl, _, rfl, by show 2 ≤ sizeLine; decide, fun tt htt => ?_⟩
                have nkt : rk ≠ tt := ne_of_none e10' htt
                refine ⟨rk, kx, _, rfl, rfl, by rw [upd_ne nkt]; exact e10', small1000 (by omega), ?_⟩
                have U9 : UrnAt H9 u (400 * i + 1 + 15 * j + 15) := U8.kp k9 (by
                  simp only [List.mem_cons, List.not_mem_nil, or_false]
                  rintro (q | q)
                  · exact nup q
                  · exact S8.nul q)
                show Ends.nx _ _ _
                refine REST _ _ ⟨q, l, (cutR c m.1, c), past ++ [m], _, _, _, _, rfl, ?_, by rw [List.length_append, List.length_singleton]; omega, by show (cutR c m.1).length ≤ _; omega, LapS.step S8 hkx pkx k9 B9 (.inl rfl) s10 e10 (within_cut _ _) nup ⟨_, hu8⟩ htt⟩
                refine UrnAt.mono (UrnAt.kp (U9.same s10) (S := [rk]) ?_ (by simpa using S8.nuk)) (by omega)
                exact Kp.put (Kp.new Kp.refl htt) List.mem_cons_self (by rw [upd_ne nkt]; exact e10') rfl
              · have D : LDAt K H8 t (.use n) := by rw [← hd]; exact D
                have Dt := D
                refine ⟨_, rfl, t, _, _, _, rfl, rfl, Dt, atI_nat (j := 0) rfl, rfl, _, rfl, ?_⟩
                refine ⟨_, rfl, t, _, _, _, rfl, rfl, Dt, atI_nat (j := 0) rfl, rfl, _, rfl, ?_⟩
                refine ⟨_, rfl, p, dx, _, rfl, hp, rfl, _, rfl, t, .use n, rfl, D, rfl, fun H9 t' v s9 ht' dv => ⟨by show 1 ≤ sizeLine; decide, fun dl hdl => ?_⟩⟩
                have z9 := Same.trans s9 (Same.new (o := .lst [.ref t']) hdl)
                have zn := Same.new (o := .lst [.ref t']) hdl
                obtain ⟨psl, hpl, _⟩ := S8.b.pst
                refine ⟨p, l, t', dl, m, past, LD.deed (.use n), v, rfl, upd_same, (ne_of_none (s9 _ _ hpl) hdl).symm, Same.sqT zn ht', S8.b.same z9, by omega, dv.kp (Same.kp (S := []) zn), (by show m.1.length ≤ 800; omega), fun H10 l' k10 hl' B10 => ?_⟩
                have k810 : Kp [p, l] H8 H10 := Kp.trans (Same.kp z9) k10
                have l'8 : H8 l' = none := z9.free hl'
                have Dt10 := k810.sqT Dt
                have U10 : UrnAt H10 u (400 * i + 1 + 15 * j + 15) := U8.kp k810 (by
                  simp only [List.mem_cons, List.not_mem_nil, or_false]
                  rintro (q | q)
                  · exact nup q
                  · exact S8.nul q)
                refine ⟨_, rfl, t, _, _, _, rfl, rfl, Dt10, atI_nat (j := 0) rfl, rfl, _, rfl, ?_⟩
                refine ⟨_, rfl, t, _, _, _, rfl, rfl, Dt10, atI_nat (j := 0) rfl, rfl, _, rfl, ?_⟩
                refine ⟨_, rfl, _, rfl, t, _, _, _, rfl, rfl, Dt10, atI_nat (j := 1) rfl, by show 2 ≤ sizeLine; decide, fun q1 hq1 => ⟨by show 1 ≤ sizeLine; decide, fun q2 hq2 => ?_⟩⟩
                have z11 : Same H10 (upd (upd H10 q1 (.tup [.str "touch", .str n])) q2 (.tup [.ref q1])) := Same.upd (Same.new hq1) (free1 hq2)
                show Ends.nx _ _ _
                refine TAIL _ _ ⟨q2, [.touch n], l', _, _, rfl, U10.same z11, ⟨[.ref q1], SqT.of upd_same, .cons ⟨q1, rfl, SqT.of (by rw [upd_ne (ne1 hq2), upd_same]; rfl)⟩ .nil⟩, (by show 1 ≤ 4; decide), .inr l'8, Kp.trans k810 (Same.kp z11), ?_⟩
                exact B10.same z11
              · have D : LDAt K H8 t (.forget n) := by rw [← hd]; exact D
                have Dt := D
                refine ⟨_, rfl, t, _, _, _, rfl, rfl, Dt, atI_nat (j := 0) rfl, rfl, _, rfl, ?_⟩
                refine ⟨_, rfl, t, _, _, _, rfl, rfl, Dt, atI_nat (j := 1) rfl, _, rfl, ra, _, rfl, .inr S8.r, rfl, flat_row _, _, rfl, ?_⟩
                by_cases hm : n ∈ m.1
                case neg =>
                  have e0 : inV (.str n) (rowV m.1) = false := by
                    rw [inV_row]
                    exact Bool.eq_false_iff.mpr fun q => hm (List.contains_iff_mem.mp q)
                  rw [e0]
                  refine ⟨_, rfl, _, rfl, t, _, _, _, rfl, rfl, Dt, atI_nat (j := 1) rfl, p, l, m, past, n, rfl, S8.b, by omega, fun z => absurd z hm, fun _ H9 s9 => ?_⟩
                  refine ⟨_, rfl, t, _, _, _, rfl, rfl, Same.sqT s9 Dt, atI_nat (j := 1) rfl, rfl, _, rfl, ?_⟩
                  refine ite2 (fun q => ?_) (fun _ => ?_)
                  · rw [decide_eq_true (rfl : V.str n = V.str n)] at q
                    cases q
                  · show Ends.nx _ _ _
                    exact REST _ _ ⟨ra, l, m, past, _, _, _, _, rfl, (U8.same s9).mono (by omega), by omega, by omega, S8.same s9⟩
                have e0 : inV (.str n) (rowV m.1) = true := by
                  rw [inV_row]
                  exact List.contains_iff_mem.mpr hm
                rw [e0]
                refine ⟨_, rfl, t, _, _, _, rfl, rfl, Dt, atI_nat (j := 0) rfl, rfl, _, rfl, ?_⟩
                refine ⟨_, rfl, p, dx, _, rfl, hp, rfl, _, rfl, t, .forget n, rfl, D, rfl, fun H9 t' v s9 ht' dv => ⟨by show 1 ≤ sizeLine; decide, fun dl hdl => ?_⟩⟩
                have z9 := Same.trans s9 (Same.new (o := .lst [.ref t']) hdl)
                have zn := Same.new (o := .lst [.ref t']) hdl
                obtain ⟨psl, hpl, _⟩ := S8.b.pst
                refine ⟨p, l, t', dl, m, past, LD.deed (.forget n), v, rfl, upd_same, (ne_of_none (s9 _ _ hpl) hdl).symm, Same.sqT zn ht', S8.b.same z9, by omega, dv.kp (Same.kp (S := []) zn), hm, fun H10 l' k10 hl' B10 => ?_⟩
                have k810 : Kp [p, l] H8 H10 := Kp.trans (Same.kp z9) k10
                have l'8 : H8 l' = none := z9.free hl'
                have Dt10 := k810.sqT Dt
                have U10 : UrnAt H10 u (400 * i + 1 + 15 * j + 15) := U8.kp k810 (by
                  simp only [List.mem_cons, List.not_mem_nil, or_false]
                  rintro (q | q)
                  · exact nup q
                  · exact S8.nul q)
                refine ⟨_, rfl, t, _, _, _, rfl, rfl, Dt10, atI_nat (j := 0) rfl, rfl, _, rfl, ?_⟩
                refine ⟨_, rfl, t, _, _, _, rfl, rfl, Dt10, atI_nat (j := 0) rfl, rfl, _, rfl, ?_⟩
                refine ⟨_, rfl, _, rfl, t, _, _, _, rfl, rfl, Dt10, atI_nat (j := 1) rfl, by show 2 ≤ sizeLine; decide, fun q1 hq1 => ⟨by show 1 ≤ sizeLine; decide, fun q2 hq2 => ?_⟩⟩
                have z11 : Same H10 (upd (upd H10 q1 (.tup [.str "forget", .str n])) q2 (.tup [.ref q1])) := Same.upd (Same.new hq1) (free1 hq2)
                show Ends.nx _ _ _
                refine TAIL _ _ ⟨q2, [.forget n], l', _, _, rfl, U10.same z11, ⟨[.ref q1], SqT.of upd_same, .cons ⟨q1, rfl, SqT.of (by rw [upd_ne (ne1 hq2), upd_same]; rfl)⟩ .nil⟩, (by show 1 ≤ 4; decide), .inr l'8, Kp.trans k810 (Same.kp z11), ?_⟩
                have B11 := B10.same z11
                have ew : (Deed.forget n).app m = (cutR m.2 (outsideL m.1 [n]), m.2) := by
                  show (outsideL m.1 [n], m.2) = (cutR m.2 (outsideL m.1 [n]), m.2)
                  rw [within_out S8.within n]
                show BoardAt K _ p l' (cutR m.2 (outsideL m.1 [n]), m.2) (past ++ [m])
                rw [← ew]
                exact B11
              · have D : LDAt K H8 t (.run ss) := by rw [← hd]; exact D
                obtain ⟨lt, Dt, L8, l4, fn⟩ := id D
                refine ⟨_, rfl, t, _, _, _, rfl, rfl, Dt, atI_nat (j := 0) rfl, rfl, _, rfl, ?_⟩
                refine ⟨_, rfl, t, _, _, _, rfl, rfl, Dt, atI_nat (j := 0) rfl, rfl, _, rfl, ?_⟩
                refine ⟨_, rfl, p, dx, _, rfl, hp, rfl, _, rfl, t, .run ss, rfl, D, rfl, fun H9 t' v s9 ht' dv => ⟨by show 1 ≤ sizeLine; decide, fun dl hdl => ?_⟩⟩
                have z9 := Same.trans s9 (Same.new (o := .lst [.ref t']) hdl)
                have zn := Same.new (o := .lst [.ref t']) hdl
                obtain ⟨psl, hpl, _⟩ := S8.b.pst
                refine ⟨p, l, t', dl, m, past, LD.deed (.run ss), v, rfl, upd_same, (ne_of_none (s9 _ _ hpl) hdl).symm, Same.sqT zn ht', S8.b.same z9, by omega, dv.kp (Same.kp (S := []) zn), (by show m.1.length + ss.length ≤ 900; omega), fun H10 l' k10 hl' B10 => ?_⟩
                have k810 : Kp [p, l] H8 H10 := Kp.trans (Same.kp z9) k10
                have l'8 : H8 l' = none := z9.free hl'
                have Dt10 := k810.sqT Dt
                have U10 : UrnAt H10 u (400 * i + 1 + 15 * j + 15) := U8.kp k810 (by
                  simp only [List.mem_cons, List.not_mem_nil, or_false]
                  rintro (q | q)
                  · exact nup q
                  · exact S8.nul q)
                refine ⟨_, rfl, t, _, _, _, rfl, rfl, Dt10, atI_nat (j := 0) rfl, rfl, _, rfl, ?_⟩
                refine ⟨_, rfl, t, _, _, _, rfl, rfl, Dt10, atI_nat (j := 0) rfl, rfl, _, rfl, ?_⟩
                refine ⟨_, rfl, t, _, _, _, rfl, rfl, Dt10, atI_nat (j := 1) rfl, ?_⟩
                show Ends.nx _ _ _
                exact TAIL _ _ ⟨lt, ss, l', _, _, rfl, U10, L8.kp k810, l4, .inr l'8, k810, B10⟩
            · rintro σ H9 ⟨lt, ss, l', w2, w8, rfl, U9, L9, l4, hl', k9, B9⟩
              have e9 : H9 rk = some (.lst kx) := k9 _ _ hkx (.inl (by
                simp only [List.mem_cons, List.not_mem_nil, or_false]
                rintro (q | q)
                · exact nkp q
                · exact S8.nkl q))
              refine ⟨_, rfl, _, rfl, lt, ra, m.1, ss, rfl, L9, k9.sqT S8.r, by omega, fun H10 q s10 e10 => ?_⟩
              refine ⟨_, rfl, q, _, m.2, rfl, e10, S8.b.lim, fun H11 q2 s11 e11 => ?_⟩
              have z911 := Same.trans s10 s11
              have e11' := z911 _ _ e9
              refine ⟨_, rfl, .inl ⟨rfl, _, SqL.of e11'⟩, _, rfl, _, rfl, by show 2 ≤ sizeLine; decide, fun tt htt => ?_⟩
              have nkt : rk ≠ tt := ne_of_none e11' htt
              refine ⟨rk, kx, _, rfl, rfl, by rw [upd_ne nkt]; exact e11', small1000 (by omega), ?_⟩
              have rl := runAll_len ss m.1
              have cl := cutR_len m.2 (runAll ss m.1)
              show Ends.nx _ _ _
              refine REST _ _ ⟨q2, l', (cutR m.2 (runAll ss m.1), m.2), past ++ [m], _, _, _, _, rfl, ?_, by rw [List.length_append, List.length_singleton]; omega, by show (cutR m.2 (runAll ss m.1)).length ≤ _; omega, LapS.step S8 hkx pkx k9 B9 hl' z911 e11 (within_cut _ _) nup ⟨_, hu8⟩ htt⟩
              refine UrnAt.mono (UrnAt.kp (U9.same z911) (S := [rk]) ?_ (by simpa using S8.nuk)) (by omega)
              exact Kp.put (Kp.new Kp.refl htt) List.mem_cons_self (by rw [upd_ne nkt]; exact e11') rfl
          · rintro σ H9 ⟨ra, l, m, past, v2, v7, v8, v9, rfl, U9, lp, lm, S9⟩
            obtain ⟨dx9, rb9, dv9, df9, hp9, hr9⟩ := S9.b.ex
            obtain ⟨kx9, hkx9, pkx9⟩ := S9.ks
            obtain ⟨zs, y, rfl, pz, t9, r9, rfl, ht9, hr99⟩ := paired_snoc pkx9
            refine ⟨_, rfl, p, dx9, _, rfl, hp9, p, l, m, past, rfl, S9.b, fun r1 hr1 => ?_⟩
            refine ⟨_, rfl, p, dx9, _, rfl, hp9, p, l, m, past, rfl, S9.b, ?_⟩
            refine ⟨by show 2 ≤ sizeLine; decide, fun tt htt => ?_⟩
            have zt := Same.new (o := .tup [.ref r1, limV m.2]) htt
            have et : (upd H9 tt (.tup [.ref r1, limV m.2])) tt = some (.tup [.ref r1, limV m.2]) := upd_same
            generalize (upd H9 tt (.tup [.ref r1, limV m.2])) = H10 at zt et
            refine ⟨_, rfl, _, rfl, rk, _, _, _, rfl, rfl, SqL.of (zt _ _ hkx9), atI_last _ _, ?_⟩
            refine ⟨_, _, rfl, dq_mo (SqT.of et) (Same.sqT zt hr1) (Same.sqT zt ht9) (Same.sqT zt hr99) (by omega), fun H11 s11 => ⟨true, rfl, ?_⟩⟩
            have z := Same.trans zt s11
            exact ⟨ra, l, m, past, _, _, _, _, rfl, (U9.same z).mono (by omega), lp, lm, S9.same z⟩
        · rintro σ H7 ⟨ra, l, m, past, v2, v7, v8, v9, rfl, U7, lp, lm, S⟩
          -- all undone
          refine ⟨fun n σ H' => ∃ l m past v2 v3 v4 v7 v8 v9, σ = [some (.ref u), some (.int (0 + ((i : Nat) : Int))), v2, v3, v4, some (.ref p), some (.ref rk), v7, v8, v9] ∧ n = past.length ∧ UrnAt H' u (400 * i + 301) ∧ UndoS K H H' u p l rk m past,
            ⟨past.length, l, m, past, _, _, _, _, _, _, rfl, rfl, U7, S.undo⟩, ?_⟩
          rintro n σ H8 ⟨l, m, past, v2, v3, v4, v7, v8, v9, rfl, rfl, U8, S8⟩
          obtain ⟨xs, hk, pk⟩ := S8.ks
          have lpk := Paired.len pk
          rw [List.length_append, List.length_singleton] at lpk
          refine ⟨_, rfl, rk, _, rfl, .inl (SqL.of hk), _, _, rfl, rfl, _, rfl, ?_⟩
          refine ite2 (fun q => ?_) (fun _ => ⟨_, _, _, _, _, _, _, _, _, rfl, S8.k, U8.mono (by omega)⟩)
          have hpos : 0 < past.length := by
            have := of_decide_eq_true q
            omega
          obtain ⟨past0, m0, rfl⟩ : ∃ past0 m0, past = past0 ++ [m0] := by
            rcases List.eq_nil_or_concat past with e | ⟨a, b, e⟩
            · rw [e] at hpos
              exact absurd hpos (by decide)
            · exact ⟨a, b, by rw [e, List.concat_eq_append]⟩
          obtain ⟨zs, y, rfl, pz, _⟩ := paired_snoc pk
          refine ⟨_, fun σ' H' z => z, ?_⟩
          refine ⟨_, rfl, .inl ⟨rfl, _, SqL.of hk⟩, rk, _, _, rfl, rfl, hk, by rw [List.length_append]; exact List.getElem?_concat_length, ?_⟩
          rw [List.dropLast_concat]
          have kr : Kp [rk] H8 (upd H8 rk (.lst zs)) := Kp.put Kp.refl List.mem_cons_self hk rfl
          have hk9 : (upd H8 rk (.lst zs)) rk = some (.lst zs) := upd_same
          have nup := urn_ne U8 S8.b
          have nkp := S8.nkp
          have B9 := S8.b.kp kr (by simpa using nkp.symm) (by simpa using S8.nkl.symm)
          have U9 := U8.kp kr (by simpa using S8.nuk)
          obtain ⟨dx9, rb9, dv9, df9, hp9, _⟩ := B9.ex
          refine ⟨_, rfl, p, dx9, _, rfl, hp9, rfl, p, l, m, m0, past0, rfl, B9, fun H10 k10 B10 => ⟨true, true, rfl, rfl, _, rfl, ?_⟩⟩
          have hk10 : H10 rk = some (.lst zs) := k10 _ _ hk9 (.inl (by
            simp only [List.mem_cons, List.not_mem_nil, or_false]
            rintro (q | q)
            · exact nkp q
            · exact S8.nkl q))
          have U10 := U9.kp k10 (by
            simp only [List.mem_cons, List.not_mem_nil, or_false]
            rintro (q | q)
            · exact nup q
            · exact S8.nul q)
          have k810 : Kp [rk, p, l] H8 H10 := Kp.trans (kr.mono fun x hx => by rw [List.mem_singleton.mp hx]; exact List.mem_cons_self) (k10.mono fun x hx => List.mem_cons_of_mem _ hx)
          have pz10 := Paired.imp (fun _ _ w => MoV.kp k810 w) pz
          have S10 : UndoS K H H10 u p l rk m0 past0 := by
            refine ⟨Kp.hide S8.k k810 ?_, B10, ⟨zs, hk10, pz10⟩, S8.p0, S8.l0, S8.k0, S8.nul, S8.nkl, S8.nuk⟩
            simp only [List.mem_cons, List.not_mem_nil, or_false]
            rintro x (q | q | q)
            · rw [q]
              exact .inr S8.k0
            · rw [q]
              exact .inr S8.p0
            · rw [q]
              exact .inr S8.l0
          obtain ⟨dx10, rb10, dv10, df10, hp10, _⟩ := B10.ex
          obtain ⟨ws, yy, rfl, _, t9, r9, rfl, ht9, hr99⟩ := paired_snoc pz10
          refine ⟨_, rfl, p, dx10, _, rfl, hp10, p, l, m0, past0, rfl, B10, fun r1 hr1 => ?_⟩
          refine ⟨_, rfl, p, dx10, _, rfl, hp10, p, l, m0, past0, rfl, B10, ?_⟩
          refine ⟨by show 2 ≤ sizeLine; decide, fun tt htt => ?_⟩
          have zt := Same.new (o := .tup [.ref r1, limV m0.2]) htt
          have et : (upd H10 tt (.tup [.ref r1, limV m0.2])) tt = some (.tup [.ref r1, limV m0.2]) := upd_same
          generalize (upd H10 tt (.tup [.ref r1, limV m0.2])) = H11 at zt et
          refine ⟨_, rfl, _, rfl, rk, _, _, _, rfl, rfl, SqL.of (zt _ _ hk10), atI_last _ _, ?_⟩
          have ln0 := B10.len
          refine ⟨_, _, rfl, dq_mo (SqT.of et) (Same.sqT zt hr1) (Same.sqT zt ht9) (Same.sqT zt hr99) (by omega), fun H12 s12 => ⟨true, rfl, ?_⟩⟩
          have z := Same.trans zt s12
          exact ⟨past0.length, by rw [List.length_append, List.length_singleton]; omega, l, m0, past0, _, _, _, _, _, _, rfl, rfl, U10.same z, S10.same z⟩
    · rintro σ H2 ⟨v1, v2, v3, v4, v5, v6, v7, v8, v9, rfl, k2, U2⟩
      exact k H2 k2
end
end TC

/-! pairs; the law -/
namespace TC
open PySem PySem.Spec PyProof.Rows L2 He
/-- a text's signs -/
def sgn (z : Str) : List Str := z.cps.toList.map fun c => ⟨#[c]⟩
theorem sgn_at {z : Str} {i c : Nat} (h : z.cps[i]? = some c) : (sgn z)[i]? = some ⟨#[c]⟩ := by
  unfold sgn
  rw [List.getElem?_map]
  have e : z.cps.toList[i]? = some c := by simpa using h
  rw [e]
  rfl
theorem sgn_len (z : Str) : (sgn z).length = z.cps.size := by
  unfold sgn
  simp
def aToL : List Str := sgn "abcdefghijkl"
def aToZ : List Str := sgn "abcdefghijklmnopqrstuvwxyz"
def pairsOf (c : Str) : List (Str × Str) := aToZ.map fun d => (c, d)
def pairsL : List (Str × Str) := aToL.flatMap pairsOf
def PrAt (H : Hp) (v : V) (s : Str × Str) : Prop := ∃ t : Addr, v = .ref t ∧ H t = some (.tup [.str s.1, .str s.2])
theorem PrAt.kp {S : List Addr} {H H1 : Hp} (h : Kp S H H1) {v : V} {s : Str × Str} (b : PrAt H v s) : PrAt H1 v s := by
  obtain ⟨t, e, q⟩ := b
  exact ⟨t, e, h.tup q⟩
def spPairs : Sp := fun vs H Q _ => vs = [] ∧ ∀ H' q ts, Same H H' → H' q = some (.lst ts) → Paired (PrAt H') ts pairsL → Q (.ref q) H'
theorem Paired.append {α β : Type} {R : α → β → Prop} {xs' : List α} {ys' : List β} (h : Paired R xs' ys') : ∀ {xs : List α} {ys : List β}, Paired R xs ys → Paired R (xs ++ xs') (ys ++ ys')
  | _, _, .nil => h
  | _, _, .cons r t => .cons r (Paired.append h t)
section
variable {P : Program} {w : World} {K : PySem.W.Frag} {mg : Str → Option Value} {base : Heap} {f g : Addr}
theorem scPa : FnScope ["_law_found", "_law_one_so", "_law_two_so"] [] (defScope (topS 76)) := ⟨rfl, rfl, rfl, by decide +kernel, rfl, by decide +kernel, by decide +kernel⟩
theorem ok_pairs (T : Txt K mg) (F : DefAt K "_law_pairs_so" "_law_pairs_so" (topS 76) f) : DOk P w K mg base CX0 1 f [] spPairs := by
  refine F.ok scPa (fun _ _ _ _ _ _ us hl => match us, hl with | [], _ => rfl) (fun vs H Q E h => ?_) (fun cdv A outer s H vs Q E hr h => ?_)
  · obtain ⟨rfl, _⟩ := h
    rfl
  · obtain ⟨rfl, k⟩ := h
    refine ⟨_, (pss_cons (ps_set (i := 0) scPa.nd rfl (Or.inl rfl) (pe_lst pa_nil))
      (pss_cons (ps_for PassesOwn.never rfl (pi_str pe_str) (pg_name (i := 1) scPa.nd rfl (Or.inr rfl)) (pss_one (ps_set (i := 0) scPa.nd rfl (Or.inl rfl) (pe_op op_cat (pv 0) (pe_lc (own := [("_law_two_so", 2)]) (g := (gName 2)) (by rfl) scPa.nd (pi_str pe_str) (blkOk_by (own := [("_law_two_so", 2)]) (N := ["_law_found", "_law_one_so", "_law_two_so"]) (sc := defScope (topS 76)) (by decide +kernel)) (fun _ _ _ _ _ => (pg_name (i := 2) scPa.nd rfl (Or.inl rfl))) (fun _ _ _ _ _ => pts_nil) (fun _ _ _ _ _ => (pe_tup (pa_cons (pv 1) (pa_cons (pv 2) pa_nil)))))))))
      (pss_one (ps_ret (pv 0))))), ?_⟩
    refine ⟨Nat.zero_le _, fun l0 hl0 => ?_⟩
    refine ⟨_, rfl, for_it walk_str (fun i σ H' => ∃ q ts v1 v2, σ = [some (.ref q), v1, v2] ∧ Same H H' ∧ H' q = some (.lst ts) ∧ Paired (PrAt H') ts ((aToL.take i).flatMap pairsOf) ∧ ts.length = 26 * i)
      ⟨l0, [], _, _, rfl, Same.new hl0, upd_same, .nil, rfl⟩ (fun _ _ _ _ _ => trivial) ?_ ?_⟩
    · rintro i x σ H1 H2 hi ⟨q, ts, v1, v2, rfl, z, hq, pr, lt⟩ ⟨rfl, c, hc, rfl⟩
      have hi12 : i < 12 := hi
      refine ⟨_, rfl, _, rfl, fun D hD => ?_⟩
      refine lc_it walk_str (fun j H' => ∃ us, H' D = some (.lst us) ∧ Same H2 H' ∧ Paired (PrAt H') us ((pairsOf ⟨#[c]⟩).take j) ∧ us.length = j) ⟨[], upd_same, Same.new hD, .nil, rfl⟩ (fun _ _ _ _ => trivial) ?_ ?_
      · rintro j x H3 H4 hj ⟨us, hd, z3, pr3, lu⟩ ⟨rfl, d, hdd, rfl⟩
        have hj26 : j < 26 := hj
        refine ⟨rfl, ?_⟩
        refine ⟨_, rfl, _, rfl, by show 2 ≤ sizeLine; decide, fun t ht => ?_⟩
        have nDt : D ≠ t := ne_of_none hd ht
        have kp : Kp [D] H4 (upd (upd H4 t (.tup [.str ⟨#[c]⟩, .str ⟨#[d]⟩])) D (.lst (us ++ [.ref t]))) := Kp.put (Kp.new Kp.refl ht) List.mem_cons_self (by rw [upd_ne nDt]; exact hd) rfl
        refine ⟨us, by rw [upd_ne nDt]; exact hd, small1000 (by omega), us ++ [.ref t], upd_same, Same.own (Same.upd z3 (z3.free ht)) hD, ?_, by rw [List.length_append, List.length_singleton, lu]⟩
        have e : (pairsOf ⟨#[c]⟩).take (j + 1) = (pairsOf ⟨#[c]⟩).take j ++ [(⟨#[c]⟩, ⟨#[d]⟩)] := by
          rw [List.take_add_one]
          congr 1
          unfold pairsOf
          rw [List.getElem?_map, show aToZ[j]? = some ⟨#[d]⟩ from sgn_at hdd]
          rfl
        rw [e]
        exact Paired.snoc ⟨t, rfl, by rw [upd_ne nDt.symm, upd_same]⟩ (Paired.imp (fun _ _ w => w.kp kp) pr3)
      · rintro H3 ⟨us, hd, z3, pr3, lu⟩
        have lu26 : us.length = 26 := lu
        rw [List.take_of_length_le (by unfold pairsOf aToZ; rw [List.length_map, sgn_len]; exact Nat.le_refl _)] at pr3
        have hq3 := z3 _ _ hq
        refine ⟨q, D, ts, us, rfl, rfl, hq3, hd, ?_, fun p hp => ?_⟩
        · have : ts.length + us.length ≤ 1000 := by omega
          exact Nat.le_of_lt (small1000 this)
        · have z4 := Same.new (o := .lst (ts ++ us)) hp
          refine ⟨p, ts ++ us, _, _, rfl, Same.trans (Same.trans z z3) z4, upd_same, ?_, by rw [List.length_append]; omega⟩
          have e : (aToL.take (i + 1)).flatMap pairsOf = (aToL.take i).flatMap pairsOf ++ pairsOf ⟨#[c]⟩ := by
            rw [List.take_add_one, show aToL[i]? = some ⟨#[c]⟩ from sgn_at hc, List.flatMap_append]
            simp
          rw [e]
          exact Paired.append (Paired.imp (fun _ _ w => PrAt.kp (S := []) (Same.kp z4) w) pr3) (Paired.imp (fun _ _ w => PrAt.kp (S := []) (Same.kp (Same.trans z3 z4)) w) pr)
    · rintro σ H1 ⟨q, ts, v1, v2, rfl, z, hq, pr, lt⟩
      have e : (aToL.take ("abcdefghijkl" : Str).cps.size).flatMap pairsOf = pairsL := by
        unfold pairsL
        rw [List.take_of_length_le (by unfold aToL; rw [sgn_len]; exact Nat.le_refl _)]
      rw [e] at pr
      exact ⟨_, rfl, k H1 q ts z hq pr⟩
theorem scLw : FnScope ["_law_script", "_law_cells_here", "_law_k"] ["_law_script"] (defScope (topS 78)) := ⟨rfl, rfl, rfl, by decide +kernel, rfl, by decide +kernel, by decide +kernel⟩
def spLaw (K : PySem.W.Frag) : Sp := fun vs H Q _ => ∃ (a : Addr) (ns : List Int), vs = [.ref a] ∧ SqL K H a (ns.map V.int) ∧ ns.length ≤ 63 ∧ ∀ H', Q (.bl true) H'
theorem noxE {X : Cx} {b : List Stmt} {q : TS → Prop} (h : ∃ t, PSs X.nox b t ∧ q t) : ∃ t, PSs X b t ∧ q t := by
  obtain ⟨t, a, z⟩ := h
  exact ⟨t, a.nox, z⟩
theorem ok_law {fd : FuncData} (T : Txt K mg) (F : FunD K "law" "law" (defArgs (topS 78)) (defBody (topS 78)) (defScope (topS 78)) [] [] f fd) (G_law_cells : DOk P w K mg base CX0 1 (ga K "_law_cells") ["_law_script", "_law_top"] (spCells K)) (G_law_box : DOk P w K mg base CX0 1 (ga K "_law_box") ["_law_script", "_law_k"] (spBox K)) (G_law_right : DOk P w K mg base CX0 11 (ga K "_law_right") ["_law_urn"] (spRight K)) : FnOk P w K mg base CX0 12 f fd ["_law_script"] (spLaw K) := by
  refine F.ok scLw (fun vs H Q E h => ?_) (fun cdv A outer s H vs Q E hr h => noxE ?_)
  · obtain ⟨a, ns, rfl, _⟩ := h
    rfl
  · obtain ⟨a, ns, rfl, ha, hl, k⟩ := h
    refine ⟨_, (pss_cons (ps_set (i := 1) scLw.nd rfl (Or.inr rfl) (pcl G_law_cells (hr.mono (by decide)) (by rfl) (T.g "_law_cells") pass0 (pa_cons (pv 0) (pa_cons pe_int pa_nil))))
      (pss_one (ps_ret (pe_callB (cr_all rfl) (by rfl) (T.f "all") (by decide +kernel) (pa_cons (pe_lc (own := [("_law_k", 2)]) (g := (gName 2)) (by rfl) scLw.nd (pi_range1 (by rfl) (T.f "range") (pa_cons (pe_callB call_len_seq (by rfl) (T.f "len") (by decide +kernel) (pa_cons (pv 1) pa_nil)) pa_nil)) (blkOk_by (own := [("_law_k", 2)]) (N := ["_law_script", "_law_cells_here", "_law_k"]) (sc := defScope (topS 78)) (by decide +kernel)) (fun _ _ _ _ _ => (pg_name (i := 2) scLw.nd rfl (Or.inl rfl))) (fun _ _ _ _ _ => pts_nil) (fun _ _ _ _ _ => (pcl G_law_right (hr.mono (by decide)) (by rfl) (T.g "_law_right") pass0 (pa_cons (pcl G_law_box (hr.mono (by decide)) (by rfl) (T.g "_law_box") pass0 (pa_cons (pv 1) (pa_cons (pv 2) pa_nil))) pa_nil)))) pa_nil))))), ?_⟩
    refine ⟨_, rfl, a, ns, rfl, ha, hl, fun H1 q zs z1 hq lz => ?_⟩
    refine ⟨_, rfl, q, _, rfl, .inl (SqL.of hq), ?_⟩
    rw [List.length_map]
    refine ⟨_, rfl, by omega, by omega, fun D hD => ?_⟩
    have nqD : q ≠ D := ne_of_none hq hD
    refine lc_range (lo := 0) (n := zs.length) (fun i H' => Same H1 H' ∧ H' D = some (.lst ((List.replicate i true).map V.bl))) ⟨Same.new hD, upd_same⟩ ?_ ?_
    · rintro i H2 hi ⟨z, hd⟩
      refine ⟨rfl, ?_⟩
      refine ⟨_, rfl, _, rfl, q, zs, i, congrArg (fun z => [V.ref q, V.int z]) (Int.zero_add _), SqL.of (z _ _ hq), by omega, fun H3 u z3 hu U3 => ?_⟩
      have hd3 := z3 _ _ hd
      have nuD : D ≠ u := ne_of_none hd hu
      have u1 : H1 u = none := z.free hu
      refine ⟨u, rfl, U3, fun H4 k4 => ?_⟩
      have hd4 : H4 D = some (.lst ((List.replicate i true).map V.bl)) := k4 _ _ hd3 (.inl (by simpa using nuD))
      refine ⟨_, hd4, ?_, ?_, ?_⟩
      · rw [List.length_map, List.length_replicate]
        exact small1000 (by omega)
      · refine Same.own (fun b o e => ?_) hD
        exact k4 b o (z3 b o (z b o e)) (.inl (by simpa using ne_of_none e u1))
      · rw [upd_same, show ((List.replicate i true).map V.bl ++ [V.bl true]) = (List.replicate (i + 1) true).map V.bl by rw [List.replicate_succ', List.map_append]; rfl]
    · rintro H2 ⟨z, hd⟩
      refine ⟨D, List.replicate zs.length true, rfl, SqL.of hd, ?_⟩
      rw [show (List.replicate zs.length true).all id = true by simp]
      exact k _
end
end TC

/-! the law by hand: the rows -/
namespace TC
open PySem PySem.Spec PyProof.Rows L2 He
def tagsL : List Str := (pairsL.map fun s => s.1 ++ s.2).take 300
def tg (i : Nat) : Str := tagsL.getD i "a"
def m0 : Mo := (tagsL, none)
def m1 : Mo := (cutR m0.2 (tg 299 :: outsideL m0.1 [tg 299]), m0.2)
def m2 : Mo := (cutR (some (10 ^ 40)) m1.1, some (10 ^ 40))
def m3 : Mo := (cutR (some 299) m2.1, some 299)
def m4 : Mo := (outsideL m3.1 [tg 5], m3.2)
def m5 : Mo := (cutR m4.2 ("zzz" :: outsideL m4.1 ["zzz"]), m4.2)
def m6 : Mo := (cutR m5.2 ("yyy" :: outsideL m5.1 ["yyy"]), m5.2)
def m7 : Mo := (cutR m6.2 (runAll handRule m6.1), m6.2)
theorem f_pairs : pairsL.length = 312 := by decide +kernel
theorem f_small : ∀ s ∈ pairsL, s.1.length + s.2.length ≤ 2 := by decide +kernel
theorem f_tags : tagsL.length = 300 := by decide +kernel
theorem f_m1 : m1.1.length = 300 := by decide +kernel
theorem f_m1t : m1.1.take 2 = [tg 299, tg 0] := by decide +kernel
theorem f_m1z : ("zzz" : Str) ∉ m1.1 := by decide +kernel
theorem f_m2 : m2.1.length = 300 := by decide +kernel
theorem f_m3 : m3.1.length = 299 := by decide +kernel
theorem f_m3l : m3.1[298]? = some (tg 297) := by decide +kernel
theorem f_m3n : tg 298 ∉ m3.1 := by decide +kernel
theorem f_m3y : tg 5 ∈ m3.1 := by decide +kernel
theorem f_m4 : m4.1.length = 298 := by decide +kernel
theorem f_m5 : m5.1.length = 299 := by decide +kernel
theorem f_m5a : m5.1[0]? = some ("zzz" : Str) := by decide +kernel
theorem f_m6 : m6.1.length = 299 := by decide +kernel
theorem f_m6t : m6.1.take 2 = [("yyy" : Str), "zzz"] := by decide +kernel
theorem f_m7 : m7.1 = [("x" : Str), "yyy", tg 299] := by decide +kernel
theorem tg_at {i : Nat} (h : i < 300) : (rowV tagsL)[i]? = some (.str (tg i)) := by
  have h2 : i < tagsL.length := by
    rw [f_tags]
    exact h
  unfold rowV tg
  rw [List.getElem?_map, List.getElem?_eq_getElem h2, List.getD_eq_getElem?_getD, List.getElem?_eq_getElem h2]
  rfl
theorem f_last : atI (rowV m3.1) (-1) = some (.str (tg 297)) := by
  obtain ⟨v, _, h1, h2⟩ := last_at (xs := rowV m3.1) (by rw [rowV_len, f_m3]; decide)
  rw [rowV_len, f_m3] at h2
  have h3 : (rowV m3.1)[298]? = some (.str (tg 297)) := by
    unfold rowV
    rw [List.getElem?_map, f_m3l]
    rfl
  rw [h1]
  exact h2.symm.trans h3
theorem f_m5v : (rowV m5.1)[0]? = some (.str "zzz") := by
  unfold rowV
  rw [List.getElem?_map, f_m5a]
  rfl
theorem no_whole {r : List Str} (h : 3 ≤ r.length) (q : HT.sIx (rowV r).length 0 none = 0 ∧ HT.sIx (rowV r).length (rowV r).length (some 2) = (rowV r).length) : False := by
  have z := q.2
  rw [show (some (2 : Int)) = some (((2 : Nat)) : Int) from rfl, HT.sIx_nat, rowV_len] at z
  omega
end TC

/-! the law by hand -/
namespace TC
open PySem PySem.Spec PyProof.Rows L2 He
/-- by hand: the board, the tags at a, got at gq, goal at hq, the tuples that are named in them -/
structure HS (K : PySem.W.Frag) (H0 H : Hp) (p l a gq hq : Addr) (m : Mo) (past : List Mo) (gv hv : List V) (tl : List (Addr × List V)) : Prop where
  k : Kp [] H0 H
  b : BoardAt K H p l m past
  tags : H a = some (.lst (rowV tagsL))
  got : H gq = some (.lst gv)
  goal : H hq = some (.lst hv)
  ts : ∀ x ∈ tl, SqT K H x.1 x.2
  p0 : H0 p = none
  l0 : H0 l = none
  nal : a ≠ l
  ngl : gq ≠ l
  nhl : hq ≠ l
section
variable {K : PySem.W.Frag} {H0 H H1 : Hp} {p l a gq hq : Addr} {m m' : Mo} {past past' : List Mo} {gv hv : List V} {tl : List (Addr × List V)}
theorem HS.np (s : HS K H0 H p l a gq hq m past gv hv tl) : a ≠ p ∧ gq ≠ p ∧ hq ≠ p := by
  obtain ⟨dx, r, dv, df, hp, _⟩ := s.b.ex
  exact ⟨ne_of s.tags hp (by intro z; cases z), ne_of s.got hp (by intro z; cases z), ne_of s.goal hp (by intro z; cases z)⟩
theorem HS.same (s : HS K H0 H p l a gq hq m past gv hv tl) (z : Same H H1) : HS K H0 H1 p l a gq hq m past gv hv tl :=
  ⟨Kp.trans s.k (Same.kp z), s.b.same z, z _ _ s.tags, z _ _ s.got, z _ _ s.goal, fun x hx => Same.sqT z (s.ts x hx), s.p0, s.l0, s.nal, s.ngl, s.nhl⟩
/-- a deed of the board -/
theorem HS.deed (s : HS K H0 H p l a gq hq m past gv hv tl) (k : Kp [p, l] H H1) (b : BoardAt K H1 p l m' past') : HS K H0 H1 p l a gq hq m' past' gv hv tl := by
  obtain ⟨n1, n2, n3⟩ := s.np
  have no : ∀ x, x ≠ p → x ≠ l → x ∉ [p, l] := fun x h1 h2 => by
    simp only [List.mem_cons, List.not_mem_nil, or_false]
    rintro (q | q)
    · exact h1 q
    · exact h2 q
  refine ⟨Kp.hide s.k k ?_, b, k _ _ s.tags (.inl (no _ n1 s.nal)), k _ _ s.got (.inl (no _ n2 s.ngl)), k _ _ s.goal (.inl (no _ n3 s.nhl)), fun x hx => k.sqT (s.ts x hx), s.p0, s.l0, s.nal, s.ngl, s.nhl⟩
  simp only [List.mem_cons, List.not_mem_nil, or_false]
  rintro x (q | q)
  · rw [q]
    exact .inr s.p0
  · rw [q]
    exact .inr s.l0
/-- a tuple that is named -/
theorem HS.tup (s : HS K H0 H p l a gq hq m past gv hv tl) {t : Addr} {xs : List V} (h : SqT K H t xs) : HS K H0 H p l a gq hq m past gv hv ((t, xs) :: tl) :=
  ⟨s.k, s.b, s.tags, s.got, s.goal, fun x hx => (List.mem_cons.mp hx).elim (fun e => by rw [e]; exact h) (s.ts x), s.p0, s.l0, s.nal, s.ngl, s.nhl⟩
theorem HS.nl (s : HS K H0 H p l a gq hq m past gv hv tl) {q : Addr} (z : Same H H1) (h : H1 q = none) : q ≠ l := by
  obtain ⟨ps, e, _⟩ := s.b.pst
  exact (ne_of_none (z _ _ e) h).symm
/-- got has grown: the new items at b, the longer list at q -/
theorem HS.gotC (s : HS K H0 H p l a gq hq m past gv hv tl) {b q : Addr} {xs : List V} (hb : H b = none) (hq' : (upd H b (.lst xs)) q = none) : HS K H0 (upd (upd H b (.lst xs)) q (.lst (gv ++ xs))) p l a q hq m past (gv ++ xs) hv tl := by
  have z := Same.upd (o := .lst (gv ++ xs)) (Same.new (o := .lst xs) hb) (free1 hq')
  have s1 := s.same z
  exact ⟨s1.k, s1.b, s1.tags, upd_same, s1.goal, s1.ts, s1.p0, s1.l0, s1.nal, s.nl (Same.new hb) hq', s1.nhl⟩
theorem HS.goalC (s : HS K H0 H p l a gq hq m past gv hv tl) {b q : Addr} {xs : List V} (hb : H b = none) (hq' : (upd H b (.lst xs)) q = none) : HS K H0 (upd (upd H b (.lst xs)) q (.lst (hv ++ xs))) p l a gq q m past gv (hv ++ xs) tl := by
  have z := Same.upd (o := .lst (hv ++ xs)) (Same.new (o := .lst xs) hb) (free1 hq')
  have s1 := s.same z
  exact ⟨s1.k, s1.b, s1.tags, s1.got, upd_same, s1.ts, s1.p0, s1.l0, s1.nal, s1.ngl, s.nl (Same.new hb) hq'⟩
end
/-- equal lists of equal data -/
theorem dq_pairs {K : PySem.W.Frag} {H : Hp} {n : Nat} : ∀ {xs ys : List V}, Paired (Dq K H n) xs ys → xs.length = ys.length ∧ ∀ (i : Nat) (x y : V), xs[i]? = some x → ys[i]? = some y → Dq K H n x y
  | _, _, .nil => ⟨rfl, fun i x y h => by simp at h⟩
  | _, _, .cons r t => by
    obtain ⟨e, q⟩ := dq_pairs t
    refine ⟨congrArg Nat.succ e, fun i x y hx hy => ?_⟩
    cases i with
    | zero =>
      simp at hx hy
      subst hx hy
      exact r
    | succ i => exact q i x y (by simpa using hx) (by simpa using hy)
theorem dq_lst {K : PySem.W.Frag} {H : Hp} {n : Nat} {a b : Addr} {xs ys : List V} (h1 : SqL K H a xs) (h2 : SqL K H b ys) (hl : xs.length ≤ 1000) (p : Paired (Dq K H n) xs ys) : Dq K H (n + 1) (.ref a) (.ref b) := by
  obtain ⟨e1, e2⟩ := dq_pairs p
  exact .lst h1 h2 e1 hl e2
theorem dq_row {K : PySem.W.Frag} {H : Hp} {t t' : Addr} {r : List Str} (h1 : SqT K H t (rowV r)) (h2 : SqT K H t' (rowV r)) (hl : r.length ≤ 1000) : Dq K H 1 (.ref t) (.ref t') := by
  refine .tup h1 h2 rfl (by rw [rowV_len]; exact hl) ?_
  intro j x y hx hy
  rw [hx] at hy
  obtain rfl := Option.some.inj hy
  obtain ⟨s, _, rfl⟩ := map_at hx
  exact .str s
theorem len_int {r : List Str} {n : Nat} (h : r.length = n) : V.int (((rowV r).length : Nat) : Int) = V.int ((n : Nat) : Int) := by
  rw [rowV_len, h]
theorem fin_pairs {K : PySem.W.Frag} {H : Hp} {t1 t2 t3 t4 t5 rr : Addr} (h5 : SqT K H t5 (rowV [("x" : Str), "yyy", tg 299])) (h4 : SqT K H t4 (rowV [("yyy" : Str), "zzz"])) (hr : SqT K H rr (rowV [("x" : Str), "yyy", tg 299])) (h3 : SqT K H t3 (rowV [("yyy" : Str), "zzz"]))
    (h2 : SqT K H t2 (rowV [tg 299, tg 0])) (h1 : SqT K H t1 (rowV [tg 299, tg 0])) : Paired (Dq K H 1)
    ([.int (((rowV m0.1).length : Nat) : Int), .non, .ref t1, .int (((rowV m1.1).length : Nat) : Int), .str "zzz", .non, .int (((rowV m2.1).length : Nat) : Int), limV m2.2, .non, .int (((rowV m3.1).length : Nat) : Int), .str (tg 297),
      .str (tg 298), .non, .int (((rowV m4.1).length : Nat) : Int), .non, .non] ++ [.ref t3, .int (((rowV m6.1).length : Nat) : Int), .non, .ref rr, .str (tg 299), .bl true, .int (((rowV m6.1).length : Nat) : Int), .bl true, .str "zzz", .bl true, .bl true, .int (((rowV m3.1).length : Nat) : Int), limV m3.2])
    ([.int 300, .non, .ref t2, .int 300, .str "zzz", .non, .int 300, .int (10 ^ Int.toNat 40), .non, .int 299, .str (tg 297), .str (tg 298), .non, .int 298, .non, .non] ++ [.ref t4, .int 299, .non, .ref t5, .str (tg 299), .bl true, .int 299, .bl true, .str "zzz", .bl true, .bl true, .int 299, .int 299]) := by
  rw [len_int (show m0.1.length = 300 from f_tags), len_int f_m1, len_int f_m2, len_int f_m3, len_int f_m4, len_int f_m6]
  refine Paired.append ?_ ?_
  · exact .cons (dq_row h3 h4 (by decide)) (.cons (.int _) (.cons .non (.cons (dq_row hr h5 (by show 3 ≤ 1000; decide)) (.cons (.str _) (.cons (.bl _) (.cons (.int _) (.cons (.bl _) (.cons (.str _) (.cons (.bl _) (.cons (.bl _) (.cons (.int _) (.cons (.int _) .nil))))))))))))
  · exact .cons (.int _) (.cons .non (.cons (dq_row h1 h2 (by show 2 ≤ 1000; decide)) (.cons (.int _) (.cons (.str _) (.cons .non (.cons (.int _) (.cons (.int _) (.cons .non (.cons (.int _) (.cons (.str _) (.cons (.str _) (.cons .non (.cons (.int _) (.cons .non (.cons .non .nil)))))))))))))))
end TC

/-! the law by hand -/
namespace TC
open PySem PySem.Spec PyProof.Rows L2 He
section
variable {P : Program} {w : World} {K : PySem.W.Frag} {mg : Str → Option Value} {base : Heap} {f g : Addr}
theorem scHd : FnScope ["_law_tags_so", "_law_plate", "_law_kept_so", "_law_got", "_law_goal", "_law_one_so", "_law_two_so"] [] (defScope (topS 75)) := ⟨rfl, rfl, rfl, by decide +kernel, rfl, by decide +kernel, by decide +kernel⟩
theorem ok_hand (T : Txt K mg) (F : DefAt K "_law_by_hand_right" "_law_by_hand_right" (topS 75) f) (G_law_pairs_so : DOk P w K mg base CX0 1 (ga K "_law_pairs_so") [] spPairs) (Gboard_init : DOk P w K mg base CX0 1 (ma K (ga K "Board") "__init__") ["self", "row"] (spBoardInit K))
    (G_law_heard : DOk P w K mg base CX0 4 (ga K "_law_heard") ["_law_plate", "_law_tag"] (spHeard K)) (Gcut : DOk P w K mg base CX0 3 (ma K (ga K "Board") "cut") ["self", "number"] (spCut K)) (Gundo : DOk P w K mg base CX0 2 (ma K (ga K "Board") "undo") ["self"] (spUndo K))
    (Guse : DOk P w K mg base CX0 4 (ma K (ga K "Board") "use") ["self", "name"] (spUse K)) (Gdo : DOk P w K mg base CX0 6 (ma K (ga K "Board") "do") ["self", "rule"] (spDo K)) (Grule_of : DOk P w K mg base CX0 7 (inR K (ma K (ga K "Rule") "of") "staticmethod") ["text"] (spRuleOf K))
    (G_law_same : DOk P w K mg base CX0 3 (ga K "_law_same") ["_law_got", "_law_goal"] (spSame 2 K)) (Grow : DOk P w K mg base CX0 1 (inR K (ma K (ga K "Board") "row") "property") ["self"] (spRowOf K)) (Glimit : DOk P w K mg base CX0 1 (inR K (ma K (ga K "Board") "limit") "property") ["self"] (spLimOf K)) :
    DOk P w K mg base CX0 8 f [] spHand := by
  refine F.ok scHd (fun _ _ _ _ _ _ us hl => match us, hl with | [], _ => rfl) (fun vs H Q E h => ?_) (fun cdv A outer s H vs Q E hr h => ?_)
  · obtain ⟨rfl, _⟩ := h
    rfl
  · obtain ⟨rfl, k⟩ := h
    refine ⟨_, (pss_cons (ps_set (i := 0) scHd.nd rfl (Or.inl rfl) (pe_slice sl_list (pe_lc (own := [("_law_one_so", 5), ("_law_two_so", 6)]) (g := (gTup K 2 (gCons (gName 5) (gCons (gName 6) gNil)))) (by rfl) scHd.nd (pi_list (pcl0 G_law_pairs_so (hr.mono (by decide)) (by rfl) (T.g "_law_pairs_so") pass0)) (blkOk_by (own := [("_law_one_so", 5), ("_law_two_so", 6)]) (N := ["_law_tags_so", "_law_plate", "_law_kept_so", "_law_got", "_law_goal", "_law_one_so", "_law_two_so"]) (sc := defScope (topS 75)) (by decide +kernel)) (fun _ _ _ _ _ => (pg_tup rfl (pgs_cons (pg_name (i := 5) scHd.nd rfl (Or.inl rfl)) (pgs_cons (pg_name (i := 6) scHd.nd rfl (Or.inl rfl)) pgs_nil)))) (fun _ _ _ _ _ => pts_nil) (fun _ _ _ _ _ => (pe_op op_add_str (pv 5) (pv 6)))) po_none (po_some pe_int)))
      (pss_cons (ps_set (i := 1) scHd.nd rfl (Or.inl rfl) (pmk T.kB Gboard_init (hr.mono (by decide)) (by rfl) (T.g "Board") pass0 (pa_cons (pv 0) pa_nil)))
      (pss_cons (ps_set (i := 2) scHd.nd rfl (Or.inl rfl) (pprop (pv 1) T.cB (T.pB "row" (by decide +kernel)) Grow (hr.mono (by decide)) pass0))
      (pss_cons (ps_set (i := 3) scHd.nd rfl (Or.inl rfl) (pe_lst (pa_cons (pe_callB call_len_seq (by rfl) (T.f "len") (by decide +kernel) (pa_cons (pprop (pv 1) T.cB (T.pB "row" (by decide +kernel)) Grow (hr.mono (by decide)) pass0) pa_nil)) (pa_cons (pmt (pv 1) T.cB (T.mB "use" (by decide +kernel)) Guse (hr.mono (by decide)) pass0 (pa_cons (pe_ix ix_list (pv 0) pe_int (fun _ _ => rfl)) pa_nil)) (pa_cons (pe_slice sl_tupA (pprop (pv 1) T.cB (T.pB "row" (by decide +kernel)) Grow (hr.mono (by decide)) pass0) po_none (po_some pe_int)) (pa_cons (pe_callB call_len_seq (by rfl) (T.f "len") (by decide +kernel) (pa_cons (pprop (pv 1) T.cB (T.pB "row" (by decide +kernel)) Grow (hr.mono (by decide)) pass0) pa_nil)) pa_nil))))))
      (pss_cons (ps_set (i := 3) scHd.nd rfl (Or.inl rfl) (pe_op op_cat (pv 3) (pe_lst (pa_cons (pcl G_law_heard (hr.mono (by decide)) (by rfl) (T.g "_law_heard") pass0 (pa_cons (pv 1) (pa_cons pe_str pa_nil))) pa_nil))))
      (pss_cons (ps_set (i := 4) scHd.nd rfl (Or.inl rfl) (pe_lst (pa_cons pe_int (pa_cons pe_non (pa_cons (pe_tup (pa_cons (pe_ix ix_list (pv 0) pe_int (fun _ _ => rfl)) (pa_cons (pe_ix ix_list (pv 0) pe_int (fun _ _ => rfl)) pa_nil))) (pa_cons pe_int (pa_cons pe_str pa_nil)))))))
      (pss_cons (ps_set (i := 3) scHd.nd rfl (Or.inl rfl) (pe_op op_cat (pv 3) (pe_lst (pa_cons (pmt (pv 1) T.cB (T.mB "cut" (by decide +kernel)) Gcut (hr.mono (by decide)) pass0 (pa_cons (pe_op op_pow pe_int pe_int) pa_nil)) (pa_cons (pe_callB call_len_seq (by rfl) (T.f "len") (by decide +kernel) (pa_cons (pprop (pv 1) T.cB (T.pB "row" (by decide +kernel)) Grow (hr.mono (by decide)) pass0) pa_nil)) (pa_cons (pprop (pv 1) T.cB (T.pB "limit" (by decide +kernel)) Glimit (hr.mono (by decide)) pass0) (pa_cons (pmt (pv 1) T.cB (T.mB "cut" (by decide +kernel)) Gcut (hr.mono (by decide)) pass0 (pa_cons pe_int pa_nil)) (pa_cons (pe_callB call_len_seq (by rfl) (T.f "len") (by decide +kernel) (pa_cons (pprop (pv 1) T.cB (T.pB "row" (by decide +kernel)) Grow (hr.mono (by decide)) pass0) pa_nil)) pa_nil))))))))
      (pss_cons (ps_set (i := 3) scHd.nd rfl (Or.inl rfl) (pe_op op_cat (pv 3) (pe_lst (pa_cons (pe_ix ix_tup (pprop (pv 1) T.cB (T.pB "row" (by decide +kernel)) Grow (hr.mono (by decide)) pass0) (pe_un un_neg pe_int) (fun _ _ => rfl)) pa_nil))))
      (pss_cons (ps_set (i := 4) scHd.nd rfl (Or.inl rfl) (pe_op op_cat (pv 4) (pe_lst (pa_cons pe_non (pa_cons pe_int (pa_cons (pe_op op_pow pe_int pe_int) (pa_cons pe_non (pa_cons pe_int (pa_cons (pe_ix ix_list (pv 0) pe_int (fun _ _ => rfl)) pa_nil)))))))))
      (pss_cons (ps_set (i := 3) scHd.nd rfl (Or.inl rfl) (pe_op op_cat (pv 3) (pe_lst (pa_cons (pcl G_law_heard (hr.mono (by decide)) (by rfl) (T.g "_law_heard") pass0 (pa_cons (pv 1) (pa_cons (pe_ix ix_list (pv 0) pe_int (fun _ _ => rfl)) pa_nil))) (pa_cons (pcl G_law_heard (hr.mono (by decide)) (by rfl) (T.g "_law_heard") pass0 (pa_cons (pv 1) (pa_cons (pe_ix ix_list (pv 0) pe_int (fun _ _ => rfl)) pa_nil))) (pa_cons (pe_callB call_len_seq (by rfl) (T.f "len") (by decide +kernel) (pa_cons (pprop (pv 1) T.cB (T.pB "row" (by decide +kernel)) Grow (hr.mono (by decide)) pass0) pa_nil)) pa_nil))))))
      (pss_cons (ps_set (i := 3) scHd.nd rfl (Or.inl rfl) (pe_op op_cat (pv 3) (pe_lst (pa_cons (pmt (pv 1) T.cB (T.mB "use" (by decide +kernel)) Guse (hr.mono (by decide)) pass0 (pa_cons pe_str pa_nil)) (pa_cons (pmt (pv 1) T.cB (T.mB "use" (by decide +kernel)) Guse (hr.mono (by decide)) pass0 (pa_cons pe_str pa_nil)) pa_nil)))))
      (pss_cons (ps_set (i := 4) scHd.nd rfl (Or.inl rfl) (pe_op op_cat (pv 4) (pe_lst (pa_cons (pe_ix ix_list (pv 0) pe_int (fun _ _ => rfl)) (pa_cons pe_non (pa_cons pe_int (pa_cons pe_non (pa_cons pe_non pa_nil))))))))
      (pss_cons (ps_set (i := 3) scHd.nd rfl (Or.inl rfl) (pe_op op_cat (pv 3) (pe_lst (pa_cons (pe_slice sl_tupA (pprop (pv 1) T.cB (T.pB "row" (by decide +kernel)) Grow (hr.mono (by decide)) pass0) po_none (po_some pe_int)) (pa_cons (pe_callB call_len_seq (by rfl) (T.f "len") (by decide +kernel) (pa_cons (pprop (pv 1) T.cB (T.pB "row" (by decide +kernel)) Grow (hr.mono (by decide)) pass0) pa_nil)) (pa_cons (pmt (pv 1) T.cB (T.mB "do" (by decide +kernel)) Gdo (hr.mono (by decide)) pass0 (pa_cons (psmeth (pe_glob (v := .ref (cRule K)) (by rfl) (T.g "Rule") rfl) T.rR T.sR Grule_of (hr.mono (by decide)) pass0 (pa_cons pe_str pa_nil)) pa_nil)) pa_nil))))))
      (pss_cons (ps_set (i := 3) scHd.nd rfl (Or.inl rfl) (pe_op op_cat (pv 3) (pe_lst (pa_cons (pprop (pv 1) T.cB (T.pB "row" (by decide +kernel)) Grow (hr.mono (by decide)) pass0) (pa_cons (pe_ix ix_tup (pv 2) pe_int (fun _ _ => rfl)) pa_nil)))))
      (pss_cons (ps_set (i := 4) scHd.nd rfl (Or.inl rfl) (pe_op op_cat (pv 4) (pe_lst (pa_cons (pe_tup (pa_cons pe_str (pa_cons pe_str pa_nil))) (pa_cons pe_int (pa_cons pe_non (pa_cons (pe_tup (pa_cons pe_str (pa_cons pe_str (pa_cons (pe_ix ix_list (pv 0) pe_int (fun _ _ => rfl)) pa_nil)))) (pa_cons (pe_ix ix_list (pv 0) pe_int (fun _ _ => rfl)) pa_nil))))))))
      (pss_cons (ps_set (i := 3) scHd.nd rfl (Or.inl rfl) (pe_op op_cat (pv 3) (pe_lst (pa_cons (pmt0 (pv 1) T.cB (T.mB "undo" (by decide +kernel)) Gundo (hr.mono (by decide)) pass0) (pa_cons (pe_callB call_len_seq (by rfl) (T.f "len") (by decide +kernel) (pa_cons (pprop (pv 1) T.cB (T.pB "row" (by decide +kernel)) Grow (hr.mono (by decide)) pass0) pa_nil)) (pa_cons (pmt0 (pv 1) T.cB (T.mB "undo" (by decide +kernel)) Gundo (hr.mono (by decide)) pass0) (pa_cons (pe_ix ix_tup (pprop (pv 1) T.cB (T.pB "row" (by decide +kernel)) Grow (hr.mono (by decide)) pass0) pe_int (fun _ _ => rfl)) (pa_cons (pmt0 (pv 1) T.cB (T.mB "undo" (by decide +kernel)) Gundo (hr.mono (by decide)) pass0) pa_nil))))))))
      (pss_cons (ps_set (i := 3) scHd.nd rfl (Or.inl rfl) (pe_op op_cat (pv 3) (pe_lst (pa_cons (pmt0 (pv 1) T.cB (T.mB "undo" (by decide +kernel)) Gundo (hr.mono (by decide)) pass0) (pa_cons (pe_callB call_len_seq (by rfl) (T.f "len") (by decide +kernel) (pa_cons (pprop (pv 1) T.cB (T.pB "row" (by decide +kernel)) Grow (hr.mono (by decide)) pass0) pa_nil)) (pa_cons (pprop (pv 1) T.cB (T.pB "limit" (by decide +kernel)) Glimit (hr.mono (by decide)) pass0) pa_nil))))))
      (pss_one (ps_ret (pcl G_law_same (hr.mono (by decide)) (by rfl) (T.g "_law_same") pass0 (pa_cons (pv 3) (pa_cons (pe_op op_cat (pv 4) (pe_lst (pa_cons pe_bl (pa_cons pe_int (pa_cons pe_bl (pa_cons pe_str (pa_cons pe_bl (pa_cons pe_bl (pa_cons pe_int (pa_cons pe_int pa_nil)))))))))) pa_nil)))))))))))))))))))))), ?_⟩
    -- the tags
    refine ⟨rfl, fun Ha qa ts zqa hqa pra => ?_⟩
    have lts := Paired.len pra
    rw [f_pairs] at lts
    refine ⟨qa, rfl, ⟨_, SqL.of hqa⟩, fun D hD => ?_⟩
    refine lc_list (K := K) (a := qa) (xs := ts) (fun i H' => Same Ha H' ∧ H' D = some (.lst ((pairsL.take i).map fun s => V.str (s.1 ++ s.2)))) ⟨Same.new hD, upd_same⟩ (fun i H' _ ⟨z, _⟩ => z.seq (SqL.of hqa)) ?_ ?_
    · rintro i x H1 hx ⟨z, hd⟩
      obtain ⟨sx, hsx, t, rfl, ht⟩ := paired_at pra i x hx
      have hi : i < 312 := by
        have := (List.getElem?_eq_some_iff.mp hx).1
        omega
      refine ⟨t, _, rfl, SqT.of (z _ _ ht), rfl, _, _, rfl, _, _, rfl, rfl, rfl, ?_⟩
      refine ⟨_, rfl, _, rfl, _, _, rfl, rfl, ?_, ?_⟩
      · have := f_small sx (List.mem_of_getElem? hsx)
        exact Nat.le_of_lt (small1000 (by omega))
      · refine ⟨_, hd, ?_, Same.own z hD, ?_⟩
        · rw [List.length_map, List.length_take]
          exact small1000 (by omega)
        · rw [upd_same, List.take_add_one, hsx, List.map_append]
          rfl
    · rintro H1 ⟨z, hd⟩
      rw [List.take_of_length_le (by rw [f_pairs]; omega)] at hd
      have eL : (pairsL.map fun s => V.str (s.1 ++ s.2)) = rowV (pairsL.map fun s => s.1 ++ s.2) := by
        unfold rowV
        rw [List.map_map]
        rfl
      rw [eL] at hd
      refine ⟨300, rfl, D, _, rfl, SqL.of hd, fun a ha => ?_⟩
      rw [cut_row _ 300 (by decide)]
      have ea : (upd H1 a (.lst (rowV ((pairsL.map fun s => s.1 ++ s.2).take (300 : Int).toNat)))) a = some (.lst (rowV tagsL)) := upd_same
      have za : Same H (upd H1 a (.lst (rowV ((pairsL.map fun s => s.1 ++ s.2).take (300 : Int).toNat)))) := Same.trans (Same.trans zqa z) (Same.new ha)
      generalize (upd H1 a (.lst (rowV ((pairsL.map fun s => s.1 ++ s.2).take (300 : Int).toNat)))) = H2 at ea za
      -- the board
      refine ⟨_, rfl, fun p dx hp hdx ne => ?_⟩
      have sN : Same H2 (upd (upd H2 dx (.own p)) p (.ins (cBoard K) dx [])) := Same.own (Same.new hdx) hp
      refine ⟨H2, p, dx, a, tagsL, rfl, SqL.of ea, by rw [f_tags]; decide, sN, hp, upd_same, fun H3 l s3 l20 B3 => ⟨rfl, ?_⟩⟩
      have ea3 := s3 _ _ ea
      have z3 := Same.trans za s3
      have nal : a ≠ l := ne_of_none ea l20
      have p0 := za.free hp
      have l0 := za.free l20
      obtain ⟨dx3, rb3, dv3, df3, hp3, _⟩ := B3.ex
      refine ⟨_, rfl, p, dx3, _, rfl, hp3, p, l, m0, [], rfl, B3, fun kr hkr => ?_⟩
      -- got: 300, use, two, 300
      refine ⟨_, rfl, p, dx3, _, rfl, hp3, p, l, m0, [], rfl, B3, fun r1 hr1 => ⟨r1, _, rfl, .inr hr1, ?_⟩⟩
      refine ⟨_, rfl, p, dx3, _, rfl, hp3, rfl, _, rfl, a, _, _, _, rfl, rfl, SqL.of ea3, atI_nat (j := 299) (tg_at (by decide)), p, l, m0, [], tg 299, rfl, B3, by decide, by show tagsL.length ≤ 800; rw [f_tags]; decide, fun H4 k4 B4 => ?_⟩
      have B4 : BoardAt K H4 p l m1 ([] ++ [m0]) := B4
      have npa : a ≠ p := ne_of ea3 hp3 (by intro z; cases z)
      have ea4 : H4 a = some (.lst (rowV tagsL)) := k4 _ _ ea3 (.inl (by
        simp only [List.mem_cons, List.not_mem_nil, or_false]
        rintro (q | q)
        · exact npa q
        · exact nal q))
      obtain ⟨dx4, rb4, dv4, df4, hp4, _⟩ := B4.ex
      refine ⟨_, rfl, p, dx4, _, rfl, hp4, p, l, m1, _, rfl, B4, fun r4 hr4 => ?_⟩
      refine ⟨2, rfl, r4, _, rfl, hr4, fun hw => ?_, fun _ t1 ht1 => ?_⟩
      · exfalso
        have q := hw.2
        rw [show (some (2 : Int)) = some (((2 : Nat)) : Int) from rfl, HT.sIx_nat, rowV_len, f_m1] at q
        exact absurd q (by decide)
      have et1 : (upd H4 t1 (.tup (cutV (rowV m1.1) none (some 2)))) t1 = some (.tup (rowV [tg 299, tg 0])) := by
        rw [upd_same, cut_row _ 2 (by decide)]
        exact congrArg (fun z => some (HO.tup (rowV z))) f_m1t
      have z5 := Same.new (o := .tup (cutV (rowV m1.1) none (some 2))) ht1
      generalize (upd H4 t1 (.tup (cutV (rowV m1.1) none (some 2)))) = H5 at et1 z5
      have hp5 := z5 _ _ hp4
      have B5 := B4.same z5
      refine ⟨_, rfl, p, dx4, _, rfl, hp5, p, l, m1, _, rfl, B5, fun r5 hr5 => ⟨r5, _, rfl, .inr hr5, ?_⟩⟩
      refine ⟨by show 4 ≤ sizeLine; decide, fun g1 hg1 => ?_⟩
      have eg1 : (upd H5 g1 (.lst [.int (((rowV m0.1).length : Nat) : Int), .non, .ref t1, .int (((rowV m1.1).length : Nat) : Int)])) g1 = some (.lst [.int (((rowV m0.1).length : Nat) : Int), .non, .ref t1, .int (((rowV m1.1).length : Nat) : Int)]) := upd_same
      have z6 := Same.new (o := .lst [.int (((rowV m0.1).length : Nat) : Int), .non, .ref t1, .int (((rowV m1.1).length : Nat) : Int)]) hg1
      have ngl : g1 ≠ l := by
        obtain ⟨ps, e, _⟩ := B5.pst
        exact (ne_of_none e hg1).symm
      generalize (upd H5 g1 (.lst [.int (((rowV m0.1).length : Nat) : Int), .non, .ref t1, .int (((rowV m1.1).length : Nat) : Int)])) = H6 at eg1 z6
      -- heard zzz
      have B6 := B5.same z6
      refine ⟨_, rfl, _, rfl, p, l, m1, _, "zzz", rfl, B6, by decide, fun z => absurd z f_m1z, fun _ H7 s7 => ?_⟩
      have eg7 := s7 _ _ eg1
      refine ⟨by show 1 ≤ sizeLine; decide, fun b7 hb7 => ?_⟩
      refine ⟨g1, b7, _, _, rfl, rfl, (Same.new hb7) _ _ eg7, upd_same, (by show (4 + 1 : Nat) ≤ sizeLine; decide), fun g2 hg2 => ?_⟩
      -- goal
      have z57 := Same.trans z6 s7
      have z47 := Same.trans z5 z57
      have zH8 : Same H7 (upd (upd H7 b7 (.lst [.str "zzz"])) g2 (.lst ([.int (((rowV m0.1).length : Nat) : Int), .non, .ref t1, .int (((rowV m1.1).length : Nat) : Int)] ++ [.str "zzz"]))) := Same.upd (Same.new hb7) (free1 hg2)
      have eg8 : (upd (upd H7 b7 (.lst [.str "zzz"])) g2 (.lst ([.int (((rowV m0.1).length : Nat) : Int), .non, .ref t1, .int (((rowV m1.1).length : Nat) : Int)] ++ [.str "zzz"]))) g2 = some (.lst ([.int (((rowV m0.1).length : Nat) : Int), .non, .ref t1, .int (((rowV m1.1).length : Nat) : Int)] ++ [.str "zzz"])) := upd_same
      have ng2l : g2 ≠ l := by
        obtain ⟨ps, e, _⟩ := B6.pst
        exact (ne_of_none ((Same.new (o := .lst [.str "zzz"]) hb7) _ _ (s7 _ _ e)) hg2).symm
      generalize (upd (upd H7 b7 (.lst [.str "zzz"])) g2 (.lst ([.int (((rowV m0.1).length : Nat) : Int), .non, .ref t1, .int (((rowV m1.1).length : Nat) : Int)] ++ [.str "zzz"]))) = H8 at zH8 eg8
      have z48 := Same.trans z47 zH8
      have ea8 := z48 _ _ ea4
      refine ⟨_, rfl, a, _, _, _, rfl, rfl, SqL.of ea8, atI_nat (j := 299) (tg_at (by decide)), _, rfl, a, _, _, _, rfl, rfl, SqL.of ea8, atI_nat (j := 0) (tg_at (by decide)), by show 2 ≤ sizeLine; decide, fun t2 ht2 => ?_⟩
      refine ⟨by show 5 ≤ sizeLine; decide, fun q1 hq1 => ?_⟩
      have z9 := Same.new (o := .tup [.str (tg 299), .str (tg 0)]) ht2
      have z10 := Same.upd (o := .lst [.int 300, .non, .ref t2, .int 300, .str "zzz"]) z9 (free1 hq1)
      have S : HS K H (upd (upd H8 t2 (.tup [.str (tg 299), .str (tg 0)])) q1 (.lst [.int 300, .non, .ref t2, .int 300, .str "zzz"])) p l a g2 q1 m1 ([] ++ [m0]) ([.int (((rowV m0.1).length : Nat) : Int), .non, .ref t1, .int (((rowV m1.1).length : Nat) : Int)] ++ [.str "zzz"]) [.int 300, .non, .ref t2, .int 300, .str "zzz"] [(t2, rowV [tg 299, tg 0]), (t1, rowV [tg 299, tg 0]), (kr, rowV tagsL)] := by
        have z410 := Same.trans z48 z10
        have kk : Kp [] H H4 := Kp.hide (Same.kp z3) k4 (by
          simp only [List.mem_cons, List.not_mem_nil, or_false]
          rintro x (q | q)
          · rw [q]
            exact .inr p0
          · rw [q]
            exact .inr l0)
        obtain ⟨ps, el, _⟩ := B4.pst
        refine ⟨Kp.trans kk (Same.kp z410), B4.same z410, z410 _ _ ea4, z10 _ _ eg8, upd_same, ?_, p0, l0, nal, ng2l, (ne_of_none (z9 _ _ (z48 _ _ el)) hq1).symm⟩
        intro x hx
        simp only [List.mem_cons, List.not_mem_nil, or_false] at hx
        rcases hx with q | q | q
        · rw [q]
          exact SqT.of (by rw [upd_ne (ne1 hq1), upd_same]; rfl)
        · rw [q]
          exact Same.sqT (Same.trans z57 (Same.trans zH8 z10)) (SqT.of et1)
        · rw [q]
          exact Same.sqT z410 (k4.sqT hkr)
      generalize (upd (upd H8 t2 (.tup [.str (tg 299), .str (tg 0)])) q1 (.lst [.int 300, .non, .ref t2, .int 300, .str "zzz"])) = H10 at S
      clear z48 zH8 z47 z57 z6 z5 z9 z10 eg8 eg7 eg1 et1
      refine ⟨_, rfl, ?_⟩
      obtain ⟨dx101, rb101, dv101, df101, hp101, _⟩ := S.b.ex
      refine ⟨_, rfl, p, dx101, _, rfl, hp101, rfl, _, _, rfl, rfl, ⟨by decide, by decide, by decide⟩, p, l, m1, _, some (10 ^ 40), rfl, S.b, by decide, (by decide : (0 : Int) ≤ 10 ^ 40), fun H101 k101 B101 => ?_⟩
      have S101 := S.deed k101 (B101 : BoardAt K H101 p l m2 (([] ++ [m0]) ++ [m1]))
      obtain ⟨dx102, rb102, dv102, df102, hp102, _⟩ := S101.b.ex
      refine ⟨_, rfl, p, dx102, _, rfl, hp102, p, l, m2, _, rfl, S101.b, fun r102 hr102 => ⟨r102, _, rfl, .inr hr102, ?_⟩⟩
      obtain ⟨dx103, rb103, dv103, df103, hp103, _⟩ := S101.b.ex
      refine ⟨_, rfl, p, dx103, _, rfl, hp103, p, l, m2, _, rfl, S101.b, ?_⟩
      obtain ⟨dx104, rb104, dv104, df104, hp104, _⟩ := S101.b.ex
      refine ⟨_, rfl, p, dx104, _, rfl, hp104, rfl, p, l, m2, _, some (299), rfl, S101.b, by decide, (by decide : (0 : Int) ≤ 299), fun H104 k104 B104 => ?_⟩
      have S104 := S101.deed k104 (B104 : BoardAt K H104 p l m3 ((([] ++ [m0]) ++ [m1]) ++ [m2]))
      obtain ⟨dx105, rb105, dv105, df105, hp105, _⟩ := S104.b.ex
      refine ⟨_, rfl, p, dx105, _, rfl, hp105, p, l, m3, _, rfl, S104.b, fun r105 hr105 => ⟨r105, _, rfl, .inr hr105, ?_⟩⟩
      refine ⟨by show 5 ≤ sizeLine; decide, fun b106 hb106 => ?_⟩
      refine ⟨g2, b106, _, _, rfl, rfl, (Same.new hb106) _ _ S104.got, upd_same, (by show (5 + 5 : Nat) ≤ sizeLine; decide), fun g106 hg106 => ?_⟩
      have S106 := S104.gotC hb106 hg106
      refine ⟨_, rfl, ?_⟩
      obtain ⟨dx107, rb107, dv107, df107, hp107, _⟩ := S106.b.ex
      refine ⟨_, rfl, p, dx107, _, rfl, hp107, p, l, m3, _, rfl, S106.b, fun r107 hr107 => ⟨_, rfl, r107, _, _, _, rfl, rfl, hr107, f_last, ?_⟩⟩
      refine ⟨by show 1 ≤ sizeLine; decide, fun b108 hb108 => ?_⟩
      refine ⟨g106, b108, _, _, rfl, rfl, (Same.new hb108) _ _ S106.got, upd_same, (by show (10 + 1 : Nat) ≤ sizeLine; decide), fun g108 hg108 => ?_⟩
      have S108 := S106.gotC hb108 hg108
      refine ⟨_, rfl, ?_⟩
      refine ⟨_, _, rfl, rfl, ⟨by decide, by decide, by decide⟩, _, rfl, a, _, _, _, rfl, rfl, SqL.of S108.tags, atI_nat (j := 297) (tg_at (by decide)), by show 6 ≤ sizeLine; decide, fun b109 hb109 => ?_⟩
      refine ⟨q1, b109, _, _, rfl, rfl, (Same.new hb109) _ _ S108.goal, upd_same, (by show (5 + 6 : Nat) ≤ sizeLine; decide), fun q109 hq109 => ?_⟩
      have S109 := S108.goalC hb109 hq109
      refine ⟨_, rfl, ?_⟩
      refine ⟨_, rfl, _, rfl, a, _, _, _, rfl, rfl, SqL.of S109.tags, atI_nat (j := 298) (tg_at (by decide)), p, l, m3, _, tg 298, rfl, S109.b, by decide, fun z => absurd z f_m3n, fun _ H110 s110 => ?_⟩
      have S110 := S109.same s110
      refine ⟨_, rfl, _, rfl, a, _, _, _, rfl, rfl, SqL.of S110.tags, atI_nat (j := 5) (tg_at (by decide)), p, l, m3, _, tg 5, rfl, S110.b, by decide, fun _ H111 k111 B111 => ?_, fun z => absurd f_m3y z⟩
      have S111 := S110.deed k111 (B111 : BoardAt K H111 p l m4 (((([] ++ [m0]) ++ [m1]) ++ [m2]) ++ [m3]))
      obtain ⟨dx112, rb112, dv112, df112, hp112, _⟩ := S111.b.ex
      refine ⟨_, rfl, p, dx112, _, rfl, hp112, p, l, m4, _, rfl, S111.b, fun r112 hr112 => ⟨r112, _, rfl, .inr hr112, ?_⟩⟩
      refine ⟨by show 3 ≤ sizeLine; decide, fun b113 hb113 => ?_⟩
      refine ⟨g108, b113, _, _, rfl, rfl, (Same.new hb113) _ _ S111.got, upd_same, (by show (11 + 3 : Nat) ≤ sizeLine; decide), fun g113 hg113 => ?_⟩
      have S113 := S111.gotC hb113 hg113
      refine ⟨_, rfl, ?_⟩
      obtain ⟨dx114, rb114, dv114, df114, hp114, _⟩ := S113.b.ex
      refine ⟨_, rfl, p, dx114, _, rfl, hp114, rfl, p, l, m4, _, "zzz", rfl, S113.b, by decide, by rw [f_m4]; decide, fun H114 k114 B114 => ?_⟩
      have S114 := S113.deed k114 (B114 : BoardAt K H114 p l m5 ((((([] ++ [m0]) ++ [m1]) ++ [m2]) ++ [m3]) ++ [m4]))
      obtain ⟨dx115, rb115, dv115, df115, hp115, _⟩ := S114.b.ex
      refine ⟨_, rfl, p, dx115, _, rfl, hp115, rfl, p, l, m5, _, "yyy", rfl, S114.b, by decide, by rw [f_m5]; decide, fun H115 k115 B115 => ?_⟩
      have S115 := S114.deed k115 (B115 : BoardAt K H115 p l m6 (((((([] ++ [m0]) ++ [m1]) ++ [m2]) ++ [m3]) ++ [m4]) ++ [m5]))
      refine ⟨by show 2 ≤ sizeLine; decide, fun b116 hb116 => ?_⟩
      refine ⟨g113, b116, _, _, rfl, rfl, (Same.new hb116) _ _ S115.got, upd_same, (by show (14 + 2 : Nat) ≤ sizeLine; decide), fun g116 hg116 => ?_⟩
      have S116 := S115.gotC hb116 hg116
      refine ⟨_, rfl, ?_⟩
      refine ⟨_, rfl, a, _, _, _, rfl, rfl, SqL.of S116.tags, atI_nat (j := 298) (tg_at (by decide)), by show 5 ≤ sizeLine; decide, fun b117 hb117 => ?_⟩
      refine ⟨q109, b117, _, _, rfl, rfl, (Same.new hb117) _ _ S116.goal, upd_same, (by show (11 + 5 : Nat) ≤ sizeLine; decide), fun q117 hq117 => ?_⟩
      have S117 := S116.goalC hb117 hq117
      refine ⟨_, rfl, ?_⟩
      obtain ⟨dx118, rb118, dv118, df118, hp118, _⟩ := S117.b.ex
      refine ⟨_, rfl, p, dx118, _, rfl, hp118, p, l, m6, _, rfl, S117.b, fun r118 hr118 => ?_⟩
      refine ⟨2, rfl, r118, _, rfl, hr118, fun hw => (no_whole (by rw [f_m6]; decide) hw).elim, fun _ t118 ht118 => ?_⟩
      have S119 := S117.same (Same.new (o := .tup (cutV (rowV m6.1) none (some 2))) ht118)
      have S120 := S119.tup (xs := rowV [("yyy" : Str), "zzz"]) (t := t118) (SqT.of (by rw [upd_same, cut_row _ 2 (by decide)]; exact congrArg (fun z => some (HO.tup (rowV z))) f_m6t))
      obtain ⟨dx121, rb121, dv121, df121, hp121, _⟩ := S120.b.ex
      refine ⟨_, rfl, p, dx121, _, rfl, hp121, p, l, m6, _, rfl, S120.b, fun r121 hr121 => ⟨r121, _, rfl, .inr hr121, ?_⟩⟩
      obtain ⟨dx122, rb122, dv122, df122, hp122, _⟩ := S120.b.ex
      refine ⟨_, rfl, p, dx122, _, rfl, hp122, rfl, rfl, rfl, fun H122 v122 s122 R122 => ?_⟩
      have S123 := S120.same s122
      refine ⟨p, l, m6, _, v122, handRule, rfl, S123.b, by decide, R122, by rw [f_m6]; decide, fun H124 k124 B124 => ?_⟩
      have S124 := S123.deed k124 (B124 : BoardAt K H124 p l m7 ((((((([] ++ [m0]) ++ [m1]) ++ [m2]) ++ [m3]) ++ [m4]) ++ [m5]) ++ [m6]))
      refine ⟨by show 3 ≤ sizeLine; decide, fun b125 hb125 => ?_⟩
      refine ⟨g116, b125, _, _, rfl, rfl, (Same.new hb125) _ _ S124.got, upd_same, (by show (16 + 3 : Nat) ≤ sizeLine; decide), fun g125 hg125 => ?_⟩
      have S125 := S124.gotC hb125 hg125
      refine ⟨_, rfl, ?_⟩
      obtain ⟨dx126, rb126, dv126, df126, hp126, _⟩ := S125.b.ex
      refine ⟨_, rfl, p, dx126, _, rfl, hp126, p, l, m7, _, rfl, S125.b, fun rr hrr => ?_⟩
      rw [f_m7] at hrr
      have S126 := S125.tup hrr
      refine ⟨_, rfl, kr, _, _, _, rfl, rfl, S126.ts (kr, rowV tagsL) (.tail _ (.tail _ (.tail _ (.tail _ (.head _))))), atI_nat (j := 299) (tg_at (by decide)), ?_⟩
      refine ⟨by show 2 ≤ sizeLine; decide, fun b127 hb127 => ?_⟩
      refine ⟨g125, b127, _, _, rfl, rfl, (Same.new hb127) _ _ S126.got, upd_same, (by show (19 + 2 : Nat) ≤ sizeLine; decide), fun g127 hg127 => ?_⟩
      have S127 := S126.gotC hb127 hg127
      refine ⟨_, rfl, ?_⟩
      refine ⟨by show 2 ≤ sizeLine; decide, fun t128 ht128 => ?_⟩
      have S129 := S127.same (Same.new (o := .tup [.str "yyy", .str "zzz"]) ht128)
      have S130 := S129.tup (xs := rowV [("yyy" : Str), "zzz"]) (t := t128) (SqT.of upd_same)
      refine ⟨_, rfl, a, _, _, _, rfl, rfl, SqL.of S130.tags, atI_nat (j := 299) (tg_at (by decide)), by show 3 ≤ sizeLine; decide, fun t131 ht131 => ?_⟩
      have S132 := S130.same (Same.new (o := .tup [.str "x", .str "yyy", .str (tg 299)]) ht131)
      have S133 := S132.tup (xs := rowV [("x" : Str), "yyy", tg 299]) (t := t131) (SqT.of upd_same)
      refine ⟨_, rfl, a, _, _, _, rfl, rfl, SqL.of S133.tags, atI_nat (j := 299) (tg_at (by decide)), by show 5 ≤ sizeLine; decide, fun b134 hb134 => ?_⟩
      refine ⟨q117, b134, _, _, rfl, rfl, (Same.new hb134) _ _ S133.goal, upd_same, (by show (16 + 5 : Nat) ≤ sizeLine; decide), fun q134 hq134 => ?_⟩
      have S134 := S133.goalC hb134 hq134
      refine ⟨_, rfl, ?_⟩
      obtain ⟨dx135, rb135, dv135, df135, hp135, _⟩ := S134.b.ex
      refine ⟨_, rfl, p, dx135, _, rfl, hp135, rfl, p, l, m7, m6, (((((([] ++ [m0]) ++ [m1]) ++ [m2]) ++ [m3]) ++ [m4]) ++ [m5]), rfl, S134.b, fun H135 k135 B135 => ?_⟩
      have S135 := S134.deed k135 (B135 : BoardAt K H135 p l m6 (((((([] ++ [m0]) ++ [m1]) ++ [m2]) ++ [m3]) ++ [m4]) ++ [m5]))
      obtain ⟨dx136, rb136, dv136, df136, hp136, _⟩ := S135.b.ex
      refine ⟨_, rfl, p, dx136, _, rfl, hp136, p, l, m6, _, rfl, S135.b, fun r136 hr136 => ⟨r136, _, rfl, .inr hr136, ?_⟩⟩
      obtain ⟨dx137, rb137, dv137, df137, hp137, _⟩ := S135.b.ex
      refine ⟨_, rfl, p, dx137, _, rfl, hp137, rfl, p, l, m6, m5, ((((([] ++ [m0]) ++ [m1]) ++ [m2]) ++ [m3]) ++ [m4]), rfl, S135.b, fun H137 k137 B137 => ?_⟩
      have S137 := S135.deed k137 (B137 : BoardAt K H137 p l m5 ((((([] ++ [m0]) ++ [m1]) ++ [m2]) ++ [m3]) ++ [m4]))
      obtain ⟨dx138, rb138, dv138, df138, hp138, _⟩ := S137.b.ex
      refine ⟨_, rfl, p, dx138, _, rfl, hp138, p, l, m5, _, rfl, S137.b, fun r138 hr138 => ⟨r138, _, _, _, rfl, rfl, hr138, atI_nat (j := 0) f_m5v, ?_⟩⟩
      obtain ⟨dx139, rb139, dv139, df139, hp139, _⟩ := S137.b.ex
      refine ⟨_, rfl, p, dx139, _, rfl, hp139, rfl, p, l, m5, m4, (((([] ++ [m0]) ++ [m1]) ++ [m2]) ++ [m3]), rfl, S137.b, fun H139 k139 B139 => ?_⟩
      have S139 := S137.deed k139 (B139 : BoardAt K H139 p l m4 (((([] ++ [m0]) ++ [m1]) ++ [m2]) ++ [m3]))
      refine ⟨by show 5 ≤ sizeLine; decide, fun b140 hb140 => ?_⟩
      refine ⟨g127, b140, _, _, rfl, rfl, (Same.new hb140) _ _ S139.got, upd_same, (by show (21 + 5 : Nat) ≤ sizeLine; decide), fun g140 hg140 => ?_⟩
      have S140 := S139.gotC hb140 hg140
      refine ⟨_, rfl, ?_⟩
      obtain ⟨dx141, rb141, dv141, df141, hp141, _⟩ := S140.b.ex
      refine ⟨_, rfl, p, dx141, _, rfl, hp141, rfl, p, l, m4, m3, ((([] ++ [m0]) ++ [m1]) ++ [m2]), rfl, S140.b, fun H141 k141 B141 => ?_⟩
      have S141 := S140.deed k141 (B141 : BoardAt K H141 p l m3 ((([] ++ [m0]) ++ [m1]) ++ [m2]))
      obtain ⟨dx142, rb142, dv142, df142, hp142, _⟩ := S141.b.ex
      refine ⟨_, rfl, p, dx142, _, rfl, hp142, p, l, m3, _, rfl, S141.b, fun r142 hr142 => ⟨r142, _, rfl, .inr hr142, ?_⟩⟩
      obtain ⟨dx143, rb143, dv143, df143, hp143, _⟩ := S141.b.ex
      refine ⟨_, rfl, p, dx143, _, rfl, hp143, p, l, m3, _, rfl, S141.b, ?_⟩
      refine ⟨by show 3 ≤ sizeLine; decide, fun b144 hb144 => ?_⟩
      refine ⟨g140, b144, _, _, rfl, rfl, (Same.new hb144) _ _ S141.got, upd_same, (by show (26 + 3 : Nat) ≤ sizeLine; decide), fun g144 hg144 => ?_⟩
      have S144 := S141.gotC hb144 hg144
      refine ⟨_, rfl, ?_⟩
      refine ⟨_, rfl, ?_⟩
      refine ⟨by show 8 ≤ sizeLine; decide, fun b145 hb145 => ?_⟩
      refine ⟨q134, b145, _, _, rfl, rfl, (Same.new hb145) _ _ S144.goal, upd_same, (by show (21 + 8 : Nat) ≤ sizeLine; decide), fun q145 hq145 => ?_⟩
      have S145 := S144.goalC hb145 hq145
      have zk := Kp.same S145.k
      refine ⟨_, _, rfl, ?_, fun H' s' => k H' (Same.trans zk s')⟩
      refine dq_lst (SqL.of S145.got) (SqL.of S145.goal) (by show 29 ≤ 1000; decide) ?_
      have ts := S145.ts
      exact fin_pairs (ts _ (.head _)) (ts _ (.tail _ (.head _))) (ts _ (.tail _ (.tail _ (.head _)))) (ts _ (.tail _ (.tail _ (.tail _ (.head _))))) (ts _ (.tail _ (.tail _ (.tail _ (.tail _ (.head _)))))) (ts _ (.tail _ (.tail _ (.tail _ (.tail _ (.tail _ (.head _)))))))
end
end TC

/-! what the end leans on: one Bool of the written part and the functions' texts -/
namespace TC
open PySem PySem.Spec PyProof.Rows L2 He
/-- what an object names, as far as it is wanted -/
def refsS (o : Obj) : List Addr := match o.data with
  | .seq its _ => its.toList.flatMap refV
  | .dict es _ => es.toList.flatMap fun e => refV e.val
  | .func fd => refV fd.code ++ (refV fd.defaults ++ fd.closure.map (·.2))
  | .cls cd => [cd.ns]
  | .fields vs => (match vs.toList with
    | v :: _ => refV v
    | [] => [])
  | _ => []
def stepS (g : Addr → Option Obj) (l : List Addr) : List Addr := l.flatMap fun a => match g a with
  | some o => refsS o
  | none => []
def goS (g : Addr → Option Obj) : Nat → List Addr → List Addr
  | 0, l => l
  | n + 1, l => l ++ goS g n (stepS g l)
/-- the written part that is looked at: the module's names that are wanted, and what they reach; the statics' table -/
def fragG (g : Addr → Option Obj) : PySem.W.Frag := frG g (mainGlobals :: cStatics :: goS g 4 (globs.map (ga (frG g [mainGlobals]))))
/-- a def: where it stands, its name, its qualified name, its statement, whether it has a default -/
structure DW where
  ad : PySem.W.Frag → Addr
  name : Str
  qual : Str
  st : Stmt
  nd : Bool := false
abbrev FnQ : Type := Option (Str × Str × Arguments × FuncBody × Scope × Addr × Addr)
def fnQ (K : PySem.W.Frag) (a : Addr) : FnQ := match K.lookup a with
  | some ⟨_, _, .func fd, _⟩ => some (fd.name, fd.qualname, fd.params, fd.body, fd.scope, fd.globals, fd.builtins)
  | _ => none
def DW.val (d : DW) : FnQ := some (d.name, d.qual, defArgs d.st, .stmts (defBody d.st), defScope d.st, mainGlobals, builtinsNs)
/-- the one default of the def at a -/
def dfl1 (K : PySem.W.Frag) (a : Addr) : Addr := match K.lookup a with
  | some ⟨_, _, .func fd, _⟩ => (match fd.defaults with
    | .ref T => (match K.lookup T with
      | some ⟨_, _, .seq its _, _⟩ => (match its.toList with
        | [.ref b] => b
        | _ => 0)
      | _ => 0)
    | _ => 0)
  | _ => 0
def DW.dvs (K : PySem.W.Frag) (d : DW) : List V := if d.nd then [.ref (dfl1 K (d.ad K))] else []
def DW.ok (K : PySem.W.Frag) (d : DW) : Bool := PySem.W.keepIn K (.ref (d.ad K)) && (match K.lookup (d.ad K) with
  | some ⟨_, _, .func fd, _⟩ => PySem.W.codeIn K fd.code d.qual && (fd.closure.isEmpty && dflB K fd.defaults (d.dvs K))
  | _ => false)
theorem DW.funD {K : PySem.W.Frag} {d : DW} (e : fnQ K (d.ad K) = d.val) (c : d.ok K = true) : ∃ fd, FunD K d.name d.qual (defArgs d.st) (defBody d.st) (defScope d.st) (d.dvs K) [] (d.ad K) fd := by
  obtain ⟨kp, c2⟩ := ba c
  unfold fnQ at e
  cases q : K.lookup (d.ad K) with
  | none =>
    rw [q] at c2
    cases c2
  | some o =>
    obtain ⟨oc, od, dt, osl⟩ := o
    rw [q] at c2 e
    cases dt with
    | func fd =>
      obtain ⟨n1, n2, n3, n4, n5, n6, n7, n8, n9, n10, n11, n12, n13, n14, n15⟩ := fd
      have e2 : (some (n1, n2, n3, n4, n5, n6, n15) : FnQ) = some (d.name, d.qual, defArgs d.st, .stmts (defBody d.st), defScope d.st, mainGlobals, builtinsNs) := e
      have c3 : (PySem.W.codeIn K n13 d.qual && (n7.isEmpty && dflB K n8 (d.dvs K))) = true := c2
      obtain ⟨k1, k2⟩ := ba c3
      obtain ⟨k3, k4⟩ := ba k2
      have e7 : n7 = [] := List.isEmpty_iff.mp k3
      simp only [Option.some.injEq, Prod.mk.injEq] at e2
      obtain ⟨h1, h2, h3, h4, h5, h6, h7⟩ := e2
      subst h1 h2 h3 h4 h5 h6 h7 e7
      exact ⟨_, ⟨oc, od, n8, n9, n10, n11, n12, n13, n14, osl, rfl, q, k1, dflB_ok k4, .inl rfl⟩, kp⟩
    | _ => cases c2
def defs0 : List DW := [
  { ad := fun K => ga K "is_number", name := "is_number", qual := "is_number", st := topS 4 },
  { ad := fun K => ga K "set_of", name := "set_of", qual := "set_of", st := topS 6 },
  { ad := fun K => ga K "number_in", name := "number_in", qual := "number_in", st := topS 7 },
  { ad := fun K => ga K "is_name", name := "is_name", qual := "is_name", st := topS 18 },
  { ad := fun K => ga K "outside", name := "outside", qual := "outside", st := topS 19 },
  { ad := fun K => ga K "forgotten", name := "forgotten", qual := "forgotten", st := topS 20 },
  { ad := fun K => ga K "touched", name := "touched", qual := "touched", st := topS 21 },
  { ad := fun K => ga K "capped", name := "capped", qual := "capped", st := topS 22 },
  { ad := fun K => ga K "constant_of", name := "constant_of", qual := "constant_of", st := topS 31 },
  { ad := fun K => ga K "reduced", name := "reduced", qual := "reduced", st := topS 32 },
  { ad := fun K => ga K "form_with", name := "form_with", qual := "form_with", st := topS 33 },
  { ad := fun K => ga K "form_by", name := "form_by", qual := "form_by", st := topS 34 },
  { ad := fun K => ga K "is_step", name := "is_step", qual := "is_step", st := topS 44 },
  { ad := fun K => ga K "_law_box", name := "_law_box", qual := "_law_box", st := topS 61 }]
def defs1 : List DW := [
  { ad := fun K => ga K "_law_take", name := "_law_take", qual := "_law_take", st := topS 62 },
  { ad := fun K => ga K "_law_cells", name := "_law_cells", qual := "_law_cells", st := topS 63 },
  { ad := fun K => ga K "_law_of", name := "_law_of", qual := "_law_of", st := topS 64 },
  { ad := fun K => ga K "_law_same", name := "_law_same", qual := "_law_same", st := topS 65 },
  { ad := fun K => ga K "_law_line", name := "_law_line", qual := "_law_line", st := topS 66 },
  { ad := fun K => ga K "_law_host", name := "_law_host", qual := "_law_host", st := topS 67 },
  { ad := fun K => ga K "_law_does", name := "_law_does", qual := "_law_does", st := topS 68 },
  { ad := fun K => ga K "_law_name", name := "_law_name", qual := "_law_name", st := topS 69 },
  { ad := fun K => ga K "_law_deed", name := "_law_deed", qual := "_law_deed", st := topS 71 },
  { ad := fun K => ga K "_law_given", name := "_law_given", qual := "_law_given", st := topS 72 },
  { ad := fun K => ga K "_law_kept", name := "_law_kept", qual := "_law_kept", st := topS 73 },
  { ad := fun K => ga K "_law_heard", name := "_law_heard", qual := "_law_heard", st := topS 74 },
  { ad := fun K => ga K "_law_by_hand_right", name := "_law_by_hand_right", qual := "_law_by_hand_right", st := topS 75 },
  { ad := fun K => ga K "_law_pairs_so", name := "_law_pairs_so", qual := "_law_pairs_so", st := topS 76 }]
def defs2 : List DW := [
  { ad := fun K => ga K "_law_right", name := "_law_right", qual := "_law_right", st := topS 77 },
  { ad := fun K => ga K "law", name := "law", qual := "law", st := topS 78 },
  { ad := fun K => ma K (ga K "Step") "__init__", name := "__init__", qual := "Step.__init__", st := cSt 45 0 },
  { ad := fun K => inR K (ma K (ga K "Step") "of") "staticmethod", name := "of", qual := "Step.of", st := cSt 45 1 },
  { ad := fun K => inR K (ma K (ga K "Step") "kind") "property", name := "kind", qual := "Step.kind", st := cSt 45 2 },
  { ad := fun K => inR K (ma K (ga K "Step") "what") "property", name := "what", qual := "Step.what", st := cSt 45 3 },
  { ad := fun K => ma K (ga K "Step") "__call__", name := "__call__", qual := "Step.__call__", st := cSt 45 5 },
  { ad := fun K => ma K (ga K "Rule") "__init__", name := "__init__", qual := "Rule.__init__", st := cSt 49 0, nd := true },
  { ad := fun K => inR K (ma K (ga K "Rule") "of") "staticmethod", name := "of", qual := "Rule.of", st := cSt 49 1 },
  { ad := fun K => ma K (ga K "Rule") "__call__", name := "__call__", qual := "Rule.__call__", st := cSt 49 7 },
  { ad := fun K => ma K (ga K "Board") "__init__", name := "__init__", qual := "Board.__init__", st := cSt 59 0, nd := true },
  { ad := fun K => ma K (ga K "Board") "state", name := "state", qual := "Board.state", st := cSt 59 2 },
  { ad := fun K => ma K (ga K "Board") "set_to", name := "set_to", qual := "Board.set_to", st := cSt 59 3 },
  { ad := fun K => ma K (ga K "Board") "keep", name := "keep", qual := "Board.keep", st := cSt 59 4 }]
def defs3 : List DW := [
  { ad := fun K => ma K (ga K "Board") "take", name := "take", qual := "Board.take", st := cSt 59 6 },
  { ad := fun K => inR K (ma K (ga K "Board") "row") "property", name := "row", qual := "Board.row", st := cSt 59 7 },
  { ad := fun K => inR K (ma K (ga K "Board") "limit") "property", name := "limit", qual := "Board.limit", st := cSt 59 8 },
  { ad := fun K => ma K (ga K "Board") "use", name := "use", qual := "Board.use", st := cSt 59 23 },
  { ad := fun K => ma K (ga K "Board") "forget", name := "forget", qual := "Board.forget", st := cSt 59 24 },
  { ad := fun K => ma K (ga K "Board") "do", name := "do", qual := "Board.do", st := cSt 59 25 },
  { ad := fun K => ma K (ga K "Board") "cut", name := "cut", qual := "Board.cut", st := cSt 59 26 },
  { ad := fun K => ma K (ga K "Board") "row_deed", name := "row_deed", qual := "Board.row_deed", st := cSt 59 30 },
  { ad := fun K => ma K (ga K "Board") "done", name := "done", qual := "Board.done", st := cSt 59 31 },
  { ad := fun K => ma K (ga K "Board") "attempt", name := "attempt", qual := "Board.attempt", st := cSt 59 32 },
  { ad := fun K => ma K (ga K "Board") "undo", name := "undo", qual := "Board.undo", st := cSt 59 33 }]
def defs : List DW := defs0 ++ defs1 ++ defs2 ++ defs3

/-! ### Bools -/
def propB (K : PySem.W.Frag) (C p : Addr) (f : Str) : Bool := eqO (PySem.W.findIn K (.ref C) f) (some (some (.ref p))) && (eqO (PySem.W.specialIn K (.ref p) "__get__") (some (some (.builtin "property.__get__"))) && (decide (PySem.W.takesIn K (.ref p) = some true) && (match PySem.W.recIn K p "property" with
  | some (.ref _ :: _) => true
  | _ => false)))
theorem propB_ok {K : PySem.W.Frag} {C p : Addr} {f : Str} (h : propB K C p f = true) : PropOf K C f p (inR K p "property") := by
  obtain ⟨h1, h⟩ := ba h
  obtain ⟨h2, h⟩ := ba h
  obtain ⟨h3, h4⟩ := ba h
  refine ⟨eqO_ok h1, eqO_ok h2, of_decide_eq_true h3, ?_⟩
  unfold inR
  split at h4
  · rename_i g rest e
    rw [e]
    exact ⟨rest, rfl⟩
  · cases h4
def callB (K : PySem.W.Frag) (C g : Addr) : Bool := eqO (PySem.W.findIn K (.ref C) "__call__") (some (some (.ref g))) && (PySem.W.isFn K (.ref g) && PySem.W.fnIn K g)
theorem callB_ok {K : PySem.W.Frag} {C g : Addr} (h : callB K C g = true) : StX.CallO K C g := by
  obtain ⟨h1, h⟩ := ba h
  obtain ⟨h2, h3⟩ := ba h
  exact ⟨eqO_ok h1, h2, h3⟩
def readB (K : PySem.W.Frag) (C : Addr) : Bool := PySem.W.readsIn K C (.type "type") && eqO (PySem.W.specialIn K (.ref C) "__getattribute__") (some (some (.builtin "type.__getattribute__")))
theorem readB_ok {K : PySem.W.Frag} {C : Addr} (h : readB K C = true) : ClX.CRead K C (.type "type") := by
  obtain ⟨h1, h2⟩ := ba h
  exact ⟨h1, eqO_ok h2⟩
def smetB (K : PySem.W.Frag) (C p : Addr) (m : Str) : Bool := (match PySem.W.findCls K (.ref C) (.type "type") m with
  | some (.get g a o t) => decide (g = .builtin "staticmethod.__get__") && (decide (a = .ref p) && (decide (o = .none) && decide (t = .ref C)))
  | _ => false) && (match PySem.W.recIn K p "staticmethod" with
  | some (.ref _ :: _) => true
  | _ => false)
theorem smetB_ok {K : PySem.W.Frag} {C p : Addr} {m : Str} (h : smetB K C p m = true) : SMet K C (.type "type") m p (inR K p "staticmethod") := by
  obtain ⟨h1, h2⟩ := ba h
  refine ⟨?_, ?_⟩
  · split at h1
    · rename_i g a o t e
      obtain ⟨a1, h1⟩ := ba h1
      obtain ⟨a2, h1⟩ := ba h1
      obtain ⟨a3, a4⟩ := ba h1
      rw [e, of_decide_eq_true a1, of_decide_eq_true a2, of_decide_eq_true a3, of_decide_eq_true a4]
    · cases h1
  · unfold inR
    split at h2
    · rename_i g rest e
      rw [e]
      exact ⟨rest, rfl⟩
    · cases h2
/-- the first item of the tuple at a -/
def item0 (K : PySem.W.Frag) (a : Addr) : Addr := match K.lookup a with
  | some ⟨_, _, .seq its _, _⟩ => (match its.toList with
    | .ref b :: _ => b
    | _ => 0)
  | _ => 0
def tupA (K : PySem.W.Frag) (a : Addr) (vs : List V) : Bool := match K.lookup a with
  | some ⟨.type c, _, .seq its _, _⟩ => decide (c = "tuple") && (decide (its.size ≤ sizeLine) && relAll vs its.toList)
  | _ => false
theorem tupA_ok {K : PySem.W.Frag} {a : Addr} {vs : List V} (h : tupA K a vs = true) (H : Hp) : SqT K H a vs := by
  unfold tupA at h
  split at h
  · rename_i c d its n sl q
    obtain ⟨h1, h2⟩ := ba h
    obtain ⟨h3, h4⟩ := ba h2
    exact .inr ⟨_, its, n, q, congrArg Value.type (of_decide_eq_true h1), rfl, of_decide_eq_true h3, relAll_ok h4⟩
  · cases h
def closedB (K : PySem.W.Frag) : Bool := tupA K (ga K "CLOSED") [.ref (item0 K (ga K "CLOSED"))] && (tupA K (item0 K (ga K "CLOSED")) [.ref (item0 K (item0 K (ga K "CLOSED"))), .int 0] && tupA K (item0 K (item0 K (ga K "CLOSED"))) [])
theorem closedB_ok {K : PySem.W.Frag} (h : closedB K = true) : ClosedAt K := by
  obtain ⟨h1, h⟩ := ba h
  obtain ⟨h2, h3⟩ := ba h
  exact ⟨_, _, tupA_ok h1, tupA_ok h2, tupA_ok h3⟩
def restB (K : PySem.W.Frag) : Bool := (prpS.all fun f => propB K (ga K "Step") (ma K (ga K "Step") f) f) && ((prpB.all fun f => propB K (ga K "Board") (ma K (ga K "Board") f) f) && (callB K (ga K "Step") (ma K (ga K "Step") "__call__") && (callB K (ga K "Rule") (ma K (ga K "Rule") "__call__") &&
  (smetB K (ga K "Step") (ma K (ga K "Step") "of") "of" && (smetB K (ga K "Rule") (ma K (ga K "Rule") "of") "of" && (readB K (ga K "Step") && (readB K (ga K "Rule") && closedB K)))))))
/-! ### the own exception -/
def excB (K : PySem.W.Frag) (D : Addr) : Bool := eqO (PySem.W.findIn K (.ref D) "__getattribute__") (some (some (.builtin "BaseException.__getattribute__"))) && (eqO (PySem.W.findIn K (.ref D) "__getattr__") (some none) && (decide (PySem.W.subIn K (.ref D) (.type "BaseException") = some true) &&
  (PySem.W.hasDictIn K D && (eqO (PySem.W.findIn K (.ref D) "__class__") (some (some (.builtin "object.__class__"))) && (eqO (PySem.W.specialIn K (.builtin "object.__class__") "__get__") (some (some (.builtin "getset_descriptor.__get__"))) &&
  (decide (PySem.W.takesIn K (.builtin "object.__class__") = some true) && decide (PySem.W.mroIn K D (.type "object") = some true)))))))
theorem excB_ok {K : PySem.W.Frag} {D : Addr} (h : excB K D = true) : ExcC K D := by
  obtain ⟨h1, h⟩ := ba h
  obtain ⟨h2, h⟩ := ba h
  obtain ⟨h3, h⟩ := ba h
  obtain ⟨h4, h⟩ := ba h
  obtain ⟨h5, h⟩ := ba h
  obtain ⟨h6, h⟩ := ba h
  obtain ⟨h7, h8⟩ := ba h
  exact ⟨eqO_ok h1, eqO_ok h2, of_decide_eq_true h3, h4, eqO_ok h5, eqO_ok h6, of_decide_eq_true h7, of_decide_eq_true h8⟩
/-- the code object and the cell of the def at a -/
def lowB (K : PySem.W.Frag) (file : Str) (C fI : Addr) (qual : Str) : Bool := eqO (PySem.W.findIn K (.ref C) "__init__") (some (some (.ref fI))) && (PySem.W.excInitIn K C leTail "LookupError.__new__" && (PySem.W.isFn K (.ref fI) && ((match K.lookup fI with
  | some ⟨_, _, .func fd, _⟩ => (match fd.closure, fd.code, fd.defaults with
    | [(x, cc)], .ref cda, .none => decide (x = "__class__") && (PySem.W.codeIn K (.ref cda) qual && ((match K.lookup cda with
      | some ⟨_, _, .fields vs, _⟩ => (match (vs[2]? : Option Value) with
        | some (.str z _) => decide (z = file)
        | _ => false)
      | _ => false) && (match K.lookup cc with
      | some ⟨_, _, .cell (some v), _⟩ => decide (v = .ref C)
      | _ => false)))
    | _, _, _ => false)
  | _ => false) && (decide (PySem.W.mroIn K C (.ref C) = some true) && (eqO (PySem.W.nsIn K cStatics "thirdparty.any") (some none) && (eqO (PySem.W.ks_superIn K C C "__init__") (some (some (.builtin "LookupError.__init__"))) && (decide (PySem.W.subIn K (.ref C) (.type "LookupError") = some true) &&
  (eqO (PySem.W.findIn K (.ref C) "__setattr__") (some (some (.builtin "object.__setattr__"))) && (PySem.W.excOver K C leTail && (eqO (PySem.W.takerIn K C "name") (some none) && PySem.W.hasDictIn K C))))))))))
def dNo : DW := { ad := fun K => ma K (cNo K) "__init__", name := "__init__", qual := "NoName.__init__", st := cSt 12 0 }
theorem lowB_ok {P : Program} {K : PySem.W.Frag} (e : fnQ K (dNo.ad K) = dNo.val) (h : lowB K P.main.file (cNo K) (dNo.ad K) "NoName.__init__" = true) (hb : defBody (cSt 12 0) = lowBody) (hs : defScope (cSt 12 0) = lowScope) (ht : (P.main.scope.names.lookup ("super" : Str)).isSome = false) :
    ∃ (fI cda cc : Addr) (qual : Str), LowF P K (cNo K) fI cda cc (defArgs (cSt 12 0)) lowBody lowScope qual := by
  obtain ⟨h1, h⟩ := ba h
  obtain ⟨h2, h⟩ := ba h
  obtain ⟨h3, h⟩ := ba h
  obtain ⟨h4, h⟩ := ba h
  obtain ⟨h5, h⟩ := ba h
  obtain ⟨h6, h⟩ := ba h
  obtain ⟨h7, h⟩ := ba h
  obtain ⟨h8, h⟩ := ba h
  obtain ⟨h9, h⟩ := ba h
  obtain ⟨h10, h⟩ := ba h
  obtain ⟨h11, h12⟩ := ba h
  unfold fnQ at e
  split at h4
  · rename_i oc od fd osl q
    rw [q] at e
    obtain ⟨n1, n2, n3, n4, n5, n6, n7, n8, n9, n10, n11, n12, n13, n14, n15⟩ := fd
    dsimp only at h4 e
    split at h4
    · rename_i x cc cda
      obtain ⟨a1, h4⟩ := ba h4
      obtain ⟨a2, h4⟩ := ba h4
      obtain ⟨a3, a4⟩ := ba h4
      have e2 : (some (n1, n2, n3, n4, n5, n6, n15) : FnQ) = some (dNo.name, dNo.qual, defArgs dNo.st, .stmts (defBody dNo.st), defScope dNo.st, mainGlobals, builtinsNs) := e
      simp only [Option.some.injEq, Prod.mk.injEq] at e2
      obtain ⟨y1, y2, y3, y4, y5, y6, y7⟩ := e2
      have ex := of_decide_eq_true a1
      subst y1 y2 y3 y6 y7 ex
      rw [show defBody dNo.st = lowBody from hb] at y4
      rw [show defScope dNo.st = lowScope from hs] at y5
      subst y4 y5
      refine ⟨dNo.ad K, cda, cc, "NoName.__init__", ⟨eqO_ok h1, h2, h3, ⟨oc, od, _, _, _, _, _, osl, q⟩, a2, ?_, ?_, of_decide_eq_true h5, eqO_ok h6, eqO_ok h7, of_decide_eq_true h8, eqO_ok h9, h10, eqO_ok h11, h12, ht⟩⟩
      · split at a3
        · rename_i u1 u2 vs u3 qc
          split at a3
          · rename_i z tz qz
            rw [of_decide_eq_true a3] at qz
            exact ⟨u1, u2, vs, u3, tz, qc, qz⟩
          · cases a3
        · cases a3
      · split at a4
        · rename_i u1 u2 v u3 qc
          rw [of_decide_eq_true a4] at qc
          exact ⟨u1, u2, u3, qc⟩
        · cases a4
    · cases h4
  · cases h4
def nmB (K : PySem.W.Frag) (file : Str) : Bool := lowB K file (cNo K) (dNo.ad K) "NoName.__init__" && (PySem.W.keepIn K (.ref (cNo K)) && (excB K (cNo K) && (eqO (PySem.W.findIn K (.ref (cNo K)) "name") (some none) && (decide (PySem.W.typeIn K (.ref (cNo K)) = some (.type "type")) &&
  (decide (PySem.W.kitOne K (.ref (cNo K)) (.type "LookupError") = some true) && decide (PySem.W.exmOne K (.ref (cNo K)) (.ref (cNo K)) = some true))))))
end TC

/-! the head's Hook, the run -/
namespace TC
open PySem PySem.Spec PyProof.Rows L2 He
def fas : List Fa := frees.map Fa.free ++ (globs.map Fa.glo ++ (consts.map (fun p => Fa.str p.1 p.2) ++ ([Fa.int "PAIR" 2, .cls "Step", .cls "Rule", .cls "Board", .mkr "Step", .mkr "Rule", .mkr "Board"] ++
  (fldS.map (Fa.noat "Step") ++ (fldR.map (Fa.noat "Rule") ++ (fldB.map (Fa.noat "Board") ++ metB.map (Fa.meth "Board")))))))
abbrev AlK : Type := Bool × List FnQ
def theFile : Str := PySem.Challenge.pw_touchcaps_k89_whole_rows_used_forgotten.main.file
def obsK (K : PySem.W.Frag) : AlK := (fas.all (fun f => f.ok K) && (restB K && (nmB K theFile && defs.all fun d => d.ok K)), (dNo :: defs).map fun d => fnQ K (d.ad K))
def valK : AlK := (true, (dNo :: defs).map DW.val)
def hk : PySem.W.Hook where
  α := AlK
  obs := fun s => obsK (fragG s.heap.get?)
  val := fun _ => valK
  says := fun _ h => ∃ K : PySem.W.Frag, K.In h ∧ obsK K = valK
  of := fun _ _ e => ⟨_, frG_in, e⟩
  keeps := fun _ _ _ ⟨K, hK, c⟩ k => ⟨K, PySem.W.Frag.In.keeps hK k, c⟩
def ob (s : PySem.W.SharedT) : AlK := obsK (fragG (HandSHeadRun.getT s))
theorem ob_eq (s : PySem.W.SharedT) : ob s = hk.obs s.abs := by
  have e : HandSHeadRun.getT s = s.abs.heap.get? := funext (HandSHeadRun.getT_eq s)
  show obsK (fragG (HandSHeadRun.getT s)) = obsK (fragG s.abs.heap.get?)
  rw [e]
section
variable {K : PySem.W.Frag} {h : Heap} {mg : Str → Option Value}
theorem facts_all (c : obsK K = valK) : fas.all (fun f => f.ok K) = true ∧ restB K = true ∧ nmB K theFile = true ∧ (defs.all fun d => d.ok K) = true ∧ (∀ d ∈ dNo :: defs, fnQ K (d.ad K) = d.val) := by
  have c1 : (fas.all (fun f => f.ok K) && (restB K && (nmB K theFile && defs.all fun d => d.ok K))) = true := congrArg (fun z : AlK => z.1) c
  have c2 : (dNo :: defs).map (fun d => fnQ K (d.ad K)) = (dNo :: defs).map DW.val := congrArg (fun z : AlK => z.2) c
  obtain ⟨h1, c1⟩ := ba c1
  obtain ⟨h2, c1⟩ := ba c1
  obtain ⟨h3, h4⟩ := ba c1
  refine ⟨h1, h2, h3, h4, fun d hd => ?_⟩
  obtain ⟨i, hi, e⟩ := List.mem_iff_getElem.mp hd
  have e2 : ((dNo :: defs).map fun d => fnQ K (d.ad K))[i]? = ((dNo :: defs).map DW.val)[i]? := by rw [c2]
  rw [List.getElem?_map, List.getElem?_map, List.getElem?_eq_getElem hi, e] at e2
  exact Option.some.inj e2
theorem txt_of (X : K.In h) (G : h.Ns mainGlobals mg) (c : obsK K = valK) : Txt K mg := by
  obtain ⟨h1, h2, h3, h4, h5⟩ := facts_all c
  have fa : ∀ f ∈ fas, f.ok K = true := fun f hf => List.all_eq_true.mp h1 f hf
  have m1 : ∀ {x : Fa}, x ∈ frees.map Fa.free → x ∈ fas := fun h => List.mem_append_left _ h
  have m2 : ∀ {x : Fa}, x ∈ globs.map Fa.glo → x ∈ fas := fun h => List.mem_append_right _ (List.mem_append_left _ h)
  have m3 : ∀ {x : Fa}, x ∈ consts.map (fun p => Fa.str p.1 p.2) → x ∈ fas := fun h => List.mem_append_right _ (List.mem_append_right _ (List.mem_append_left _ h))
  have m4 : ∀ {x : Fa}, x ∈ [Fa.int "PAIR" 2, .cls "Step", .cls "Rule", .cls "Board", .mkr "Step", .mkr "Rule", .mkr "Board"] → x ∈ fas := fun h => List.mem_append_right _ (List.mem_append_right _ (List.mem_append_right _ (List.mem_append_left _ h)))
  have m5 : ∀ {x : Fa}, x ∈ fldS.map (Fa.noat "Step") → x ∈ fas := fun h => List.mem_append_right _ (List.mem_append_right _ (List.mem_append_right _ (List.mem_append_right _ (List.mem_append_left _ h))))
  have m6 : ∀ {x : Fa}, x ∈ fldR.map (Fa.noat "Rule") → x ∈ fas := fun h => List.mem_append_right _ (List.mem_append_right _ (List.mem_append_right _ (List.mem_append_right _ (List.mem_append_right _ (List.mem_append_left _ h)))))
  have m7 : ∀ {x : Fa}, x ∈ fldB.map (Fa.noat "Board") → x ∈ fas := fun h => List.mem_append_right _ (List.mem_append_right _ (List.mem_append_right _ (List.mem_append_right _ (List.mem_append_right _ (List.mem_append_right _ (List.mem_append_left _ h))))))
  have m8 : ∀ {x : Fa}, x ∈ metB.map (Fa.meth "Board") → x ∈ fas := fun h => List.mem_append_right _ (List.mem_append_right _ (List.mem_append_right _ (List.mem_append_right _ (List.mem_append_right _ (List.mem_append_right _ (List.mem_append_right _ h))))))
  obtain ⟨r1, h2⟩ := ba h2
  obtain ⟨r2, h2⟩ := ba h2
  obtain ⟨r3, h2⟩ := ba h2
  obtain ⟨r4, h2⟩ := ba h2
  obtain ⟨r5, h2⟩ := ba h2
  obtain ⟨r6, h2⟩ := ba h2
  obtain ⟨r7, h2⟩ := ba h2
  obtain ⟨r8, r9⟩ := ba h2
  exact {
    free := fun x hx => free_ok X G (fa _ (m1 (List.mem_map_of_mem hx)))
    glo := fun x hx => glo_ok X G (fa _ (m2 (List.mem_map_of_mem hx)))
    con := fun p hp => str_ok X G (fa _ (m3 (List.mem_map_of_mem (f := fun p : Str × Str => Fa.str p.1 p.2) hp)))
    pair := int_ok X G (fa _ (m4 (by simp)))
    cS := cls_ok (fa _ (m4 (by simp)))
    cR := cls_ok (fa _ (m4 (by simp)))
    cB := cls_ok (fa _ (m4 (by simp)))
    nS := fun f hf => noat_ok (fa _ (m5 (List.mem_map_of_mem hf)))
    nR := fun f hf => noat_ok (fa _ (m6 (List.mem_map_of_mem hf)))
    nB := fun f hf => noat_ok (fa _ (m7 (List.mem_map_of_mem hf)))
    kS := mkr_ok (fa _ (m4 (by simp)))
    kR := mkr_ok (fa _ (m4 (by simp)))
    kB := mkr_ok (fa _ (m4 (by simp)))
    pS := fun f hf => propB_ok (List.all_eq_true.mp r1 f hf)
    pB := fun f hf => propB_ok (List.all_eq_true.mp r2 f hf)
    oS := callB_ok r3
    oR := callB_ok r4
    mB := fun m hm => meth_ok (fa _ (m8 (List.mem_map_of_mem hm)))
    sS := smetB_ok r5
    sR := smetB_ok r6
    rS := readB_ok r7
    rR := readB_ok r8
    closed := closedB_ok r9 }
theorem nm_of {P : Program} (c : obsK K = valK) (hf : P.main.file = theFile) (hb : defBody (cSt 12 0) = lowBody) (hs : defScope (cSt 12 0) = lowScope) (ht : (P.main.scope.names.lookup ("super" : Str)).isSome = false) : NmT P K := by
  obtain ⟨h1, h2, h3, h4, h5⟩ := facts_all c
  obtain ⟨n1, h3⟩ := ba h3
  obtain ⟨n2, h3⟩ := ba h3
  obtain ⟨n3, h3⟩ := ba h3
  obtain ⟨n4, h3⟩ := ba h3
  obtain ⟨n5, h3⟩ := ba h3
  obtain ⟨n6, n7⟩ := ba h3
  rw [← hf] at n1
  exact ⟨lowB_ok (h5 _ List.mem_cons_self) n1 hb hs ht, n2, excB_ok n3, eqO_ok n4, of_decide_eq_true n5, of_decide_eq_true n6, of_decide_eq_true n7⟩
theorem def_of (c : obsK K = valK) {d : DW} (hd : d ∈ defs) (hn : d.nd = false) : DefAt K d.name d.qual d.st (d.ad K) := by
  obtain ⟨h1, h2, h3, h4, h5⟩ := facts_all c
  obtain ⟨fd, F⟩ := DW.funD (h5 _ (List.mem_cons_of_mem _ hd)) (List.all_eq_true.mp h4 d hd)
  unfold DW.dvs at F
  rw [hn] at F
  exact ⟨fd, F⟩
theorem def1_of (c : obsK K = valK) {d : DW} (hd : d ∈ defs) (hn : d.nd = true) : DefAt1 K d.name d.qual d.st (d.ad K) := by
  obtain ⟨h1, h2, h3, h4, h5⟩ := facts_all c
  obtain ⟨fd, F⟩ := DW.funD (h5 _ (List.mem_cons_of_mem _ hd)) (List.all_eq_true.mp h4 d hd)
  unfold DW.dvs at F
  rw [hn] at F
  exact ⟨_, fd, F⟩
end
end TC

set_option maxHeartbeats 0
namespace TCH
open PySem PySem.W PySem.Calls PyProof.Rows
abbrev R : OpenRow := OpenLaw.row PySem.Challenge.rw_touchcaps_k89_whole_rows_used_forgotten
abbrev qv : Program := view R.prog [78]
def names1 : List PySem.Str := [PySem.Str.ofString "_wall", PySem.Str.ofString "LETTERS", PySem.Str.ofString "DIGITS", PySem.Str.ofString "is_number", PySem.Str.ofString "tupled", PySem.Str.ofString "set_of", PySem.Str.ofString "number_in", PySem.Str.ofString "NoPlace", PySem.Str.ofString "BadText", PySem.Str.ofString "BadStep", PySem.Str.ofString "NoName", PySem.Str.ofString "NoView", PySem.Str.ofString "NoFrame", PySem.Str.ofString "Outside", PySem.Str.ofString "Stopped", PySem.Str.ofString "is_name", PySem.Str.ofString "outside", PySem.Str.ofString "forgotten", PySem.Str.ofString "touched", PySem.Str.ofString "capped", PySem.Str.ofString "TOUCH", PySem.Str.ofString "FORGET", PySem.Str.ofString "CAP", PySem.Str.ofString "START", PySem.Str.ofString "CLOSED", PySem.Str.ofString "is_constant", PySem.Str.ofString "ends_in", PySem.Str.ofString "constant_of", PySem.Str.ofString "reduced", PySem.Str.ofString "form_with", PySem.Str.ofString "form_by", PySem.Str.ofString "keeps", PySem.Str.ofString "shown_by", PySem.Str.ofString "form_behind", PySem.Str.ofString "power_of"]
def names2 : List PySem.Str := [PySem.Str.ofString "is_met", PySem.Str.ofString "is_below", PySem.Str.ofString "plain_pairs", PySem.Str.ofString "PAIR", PySem.Str.ofString "is_step", PySem.Str.ofString "Step", PySem.Str.ofString "NOTHING", PySem.Str.ofString "BETWEEN", PySem.Str.ofString "Rule", PySem.Str.ofString "form_in", PySem.Str.ofString "rule_with", PySem.Str.ofString "plain", PySem.Str.ofString "in_frame", PySem.Str.ofString "plain_text", PySem.Str.ofString "told_by", PySem.Str.ofString "without", PySem.Str.ofString "Board", PySem.Str.ofString "_law_box", PySem.Str.ofString "_law_take", PySem.Str.ofString "_law_cells", PySem.Str.ofString "_law_of", PySem.Str.ofString "_law_same", PySem.Str.ofString "_law_line", PySem.Str.ofString "_law_host", PySem.Str.ofString "_law_does", PySem.Str.ofString "_law_name", PySem.Str.ofString "_law_rim", PySem.Str.ofString "_law_deed", PySem.Str.ofString "_law_given", PySem.Str.ofString "_law_kept", PySem.Str.ofString "_law_heard", PySem.Str.ofString "_law_by_hand_right", PySem.Str.ofString "_law_pairs_so", PySem.Str.ofString "_law_right"]
def names : List PySem.Str := names1 ++ names2
theorem run (w : World) : HandSHeadRun.RunEq R qv TC.hk TC.ob 20000 names w := by
  intro os
  kernel_rfl
end TCH

/-! all defs together -/
namespace TC
open PySem PySem.Spec PyProof.Rows L2 He
section
variable {P : Program} {w : World} {K : PySem.W.Frag} {mg : Str → Option Value} {base : Heap}
theorem mem_def {d : DW} (i : Nat) (h : defs[i]? = some d) : d ∈ defs := List.mem_of_getElem? h
def d0 : DW := { ad := fun K => ga K "is_number", name := "is_number", qual := "is_number", st := topS 4 }
def d1 : DW := { ad := fun K => ga K "set_of", name := "set_of", qual := "set_of", st := topS 6 }
def d2 : DW := { ad := fun K => ga K "number_in", name := "number_in", qual := "number_in", st := topS 7 }
def d3 : DW := { ad := fun K => ga K "is_name", name := "is_name", qual := "is_name", st := topS 18 }
def d4 : DW := { ad := fun K => ga K "outside", name := "outside", qual := "outside", st := topS 19 }
def d5 : DW := { ad := fun K => ga K "forgotten", name := "forgotten", qual := "forgotten", st := topS 20 }
def d6 : DW := { ad := fun K => ga K "touched", name := "touched", qual := "touched", st := topS 21 }
def d7 : DW := { ad := fun K => ga K "capped", name := "capped", qual := "capped", st := topS 22 }
def d8 : DW := { ad := fun K => ga K "constant_of", name := "constant_of", qual := "constant_of", st := topS 31 }
def d9 : DW := { ad := fun K => ga K "reduced", name := "reduced", qual := "reduced", st := topS 32 }
def d10 : DW := { ad := fun K => ga K "form_with", name := "form_with", qual := "form_with", st := topS 33 }
def d11 : DW := { ad := fun K => ga K "form_by", name := "form_by", qual := "form_by", st := topS 34 }
def d12 : DW := { ad := fun K => ga K "is_step", name := "is_step", qual := "is_step", st := topS 44 }
def d13 : DW := { ad := fun K => ga K "_law_box", name := "_law_box", qual := "_law_box", st := topS 61 }
def d14 : DW := { ad := fun K => ga K "_law_take", name := "_law_take", qual := "_law_take", st := topS 62 }
def d15 : DW := { ad := fun K => ga K "_law_cells", name := "_law_cells", qual := "_law_cells", st := topS 63 }
def d16 : DW := { ad := fun K => ga K "_law_of", name := "_law_of", qual := "_law_of", st := topS 64 }
def d17 : DW := { ad := fun K => ga K "_law_same", name := "_law_same", qual := "_law_same", st := topS 65 }
def d18 : DW := { ad := fun K => ga K "_law_line", name := "_law_line", qual := "_law_line", st := topS 66 }
def d19 : DW := { ad := fun K => ga K "_law_host", name := "_law_host", qual := "_law_host", st := topS 67 }
def d20 : DW := { ad := fun K => ga K "_law_does", name := "_law_does", qual := "_law_does", st := topS 68 }
def d21 : DW := { ad := fun K => ga K "_law_name", name := "_law_name", qual := "_law_name", st := topS 69 }
def d22 : DW := { ad := fun K => ga K "_law_deed", name := "_law_deed", qual := "_law_deed", st := topS 71 }
def d23 : DW := { ad := fun K => ga K "_law_given", name := "_law_given", qual := "_law_given", st := topS 72 }
def d24 : DW := { ad := fun K => ga K "_law_kept", name := "_law_kept", qual := "_law_kept", st := topS 73 }
def d25 : DW := { ad := fun K => ga K "_law_heard", name := "_law_heard", qual := "_law_heard", st := topS 74 }
def d26 : DW := { ad := fun K => ga K "_law_by_hand_right", name := "_law_by_hand_right", qual := "_law_by_hand_right", st := topS 75 }
def d27 : DW := { ad := fun K => ga K "_law_pairs_so", name := "_law_pairs_so", qual := "_law_pairs_so", st := topS 76 }
def d28 : DW := { ad := fun K => ga K "_law_right", name := "_law_right", qual := "_law_right", st := topS 77 }
def d29 : DW := { ad := fun K => ga K "law", name := "law", qual := "law", st := topS 78 }
def d30 : DW := { ad := fun K => ma K (ga K "Step") "__init__", name := "__init__", qual := "Step.__init__", st := cSt 45 0 }
def d31 : DW := { ad := fun K => inR K (ma K (ga K "Step") "of") "staticmethod", name := "of", qual := "Step.of", st := cSt 45 1 }
def d32 : DW := { ad := fun K => inR K (ma K (ga K "Step") "kind") "property", name := "kind", qual := "Step.kind", st := cSt 45 2 }
def d33 : DW := { ad := fun K => inR K (ma K (ga K "Step") "what") "property", name := "what", qual := "Step.what", st := cSt 45 3 }
def d34 : DW := { ad := fun K => ma K (ga K "Step") "__call__", name := "__call__", qual := "Step.__call__", st := cSt 45 5 }
def d35 : DW := { ad := fun K => ma K (ga K "Rule") "__init__", name := "__init__", qual := "Rule.__init__", st := cSt 49 0, nd := true }
def d36 : DW := { ad := fun K => inR K (ma K (ga K "Rule") "of") "staticmethod", name := "of", qual := "Rule.of", st := cSt 49 1 }
def d37 : DW := { ad := fun K => ma K (ga K "Rule") "__call__", name := "__call__", qual := "Rule.__call__", st := cSt 49 7 }
def d38 : DW := { ad := fun K => ma K (ga K "Board") "__init__", name := "__init__", qual := "Board.__init__", st := cSt 59 0, nd := true }
def d39 : DW := { ad := fun K => ma K (ga K "Board") "state", name := "state", qual := "Board.state", st := cSt 59 2 }
def d40 : DW := { ad := fun K => ma K (ga K "Board") "set_to", name := "set_to", qual := "Board.set_to", st := cSt 59 3 }
def d41 : DW := { ad := fun K => ma K (ga K "Board") "keep", name := "keep", qual := "Board.keep", st := cSt 59 4 }
def d42 : DW := { ad := fun K => ma K (ga K "Board") "take", name := "take", qual := "Board.take", st := cSt 59 6 }
def d43 : DW := { ad := fun K => inR K (ma K (ga K "Board") "row") "property", name := "row", qual := "Board.row", st := cSt 59 7 }
def d44 : DW := { ad := fun K => inR K (ma K (ga K "Board") "limit") "property", name := "limit", qual := "Board.limit", st := cSt 59 8 }
def d45 : DW := { ad := fun K => ma K (ga K "Board") "use", name := "use", qual := "Board.use", st := cSt 59 23 }
def d46 : DW := { ad := fun K => ma K (ga K "Board") "forget", name := "forget", qual := "Board.forget", st := cSt 59 24 }
def d47 : DW := { ad := fun K => ma K (ga K "Board") "do", name := "do", qual := "Board.do", st := cSt 59 25 }
def d48 : DW := { ad := fun K => ma K (ga K "Board") "cut", name := "cut", qual := "Board.cut", st := cSt 59 26 }
def d49 : DW := { ad := fun K => ma K (ga K "Board") "row_deed", name := "row_deed", qual := "Board.row_deed", st := cSt 59 30 }
def d50 : DW := { ad := fun K => ma K (ga K "Board") "done", name := "done", qual := "Board.done", st := cSt 59 31 }
def d51 : DW := { ad := fun K => ma K (ga K "Board") "attempt", name := "attempt", qual := "Board.attempt", st := cSt 59 32 }
def d52 : DW := { ad := fun K => ma K (ga K "Board") "undo", name := "undo", qual := "Board.undo", st := cSt 59 33 }
theorem all_ok {fd : FuncData} (T : Txt K mg) (TN : NmT P K) (c : obsK K = valK) (FL : FunD K "law" "law" (defArgs (topS 78)) (defBody (topS 78)) (defScope (topS 78)) [] [] (ga K "law") fd) : FnOk P w K mg base CX0 12 (ga K "law") fd ["_law_script"] (spLaw K) := by
  have F0 : DefAt K "is_number" "is_number" (topS 4) (ga K "is_number") := def_of c (d := d0) (mem_def 0 rfl) rfl
  have G0 := ok_is_number (P := P) (w := w) (base := base) T F0
  have F3 : DefAt K "is_name" "is_name" (topS 18) (ga K "is_name") := def_of c (d := d3) (mem_def 3 rfl) rfl
  have G3 := ok_is_name (P := P) (w := w) (base := base) T F3
  have F4 : DefAt K "outside" "outside" (topS 19) (ga K "outside") := def_of c (d := d4) (mem_def 4 rfl) rfl
  have G4 := ok_outside (P := P) (w := w) (base := base) T F4
  have F5 : DefAt K "forgotten" "forgotten" (topS 20) (ga K "forgotten") := def_of c (d := d5) (mem_def 5 rfl) rfl
  have G5 := ok_forgotten (P := P) (w := w) (base := base) T F5 G4
  have F6 : DefAt K "touched" "touched" (topS 21) (ga K "touched") := def_of c (d := d6) (mem_def 6 rfl) rfl
  have G6 := ok_touched (P := P) (w := w) (base := base) T F6 G5
  have F7 : DefAt K "capped" "capped" (topS 22) (ga K "capped") := def_of c (d := d7) (mem_def 7 rfl) rfl
  have G7 := ok_capped (P := P) (w := w) (base := base) T F7
  have F1 : DefAt K "set_of" "set_of" (topS 6) (ga K "set_of") := def_of c (d := d1) (mem_def 1 rfl) rfl
  have G1 := ok_set_of (P := P) (w := w) (base := base) T F1
  have F8 : DefAt K "constant_of" "constant_of" (topS 31) (ga K "constant_of") := def_of c (d := d8) (mem_def 8 rfl) rfl
  have G8 := ok_constant_of (P := P) (w := w) (base := base) T F8
  have F9 : DefAt K "reduced" "reduced" (topS 32) (ga K "reduced") := def_of c (d := d9) (mem_def 9 rfl) rfl
  have G9 := ok_reduced (P := P) (w := w) (base := base) T F9 G4
  have F10 : DefAt K "form_with" "form_with" (topS 33) (ga K "form_with") := def_of c (d := d10) (mem_def 10 rfl) rfl
  have G10 := ok_form_with (P := P) (w := w) (base := base) T F10 G4 G1 G9
  have F11 : DefAt K "form_by" "form_by" (topS 34) (ga K "form_by") := def_of c (d := d11) (mem_def 11 rfl) rfl
  have G11 := ok_form_by (P := P) (w := w) (base := base) T T.closed F11 G6 G5 G7 G1 G8 G10
  have F12 : DefAt K "is_step" "is_step" (topS 44) (ga K "is_step") := def_of c (d := d12) (mem_def 12 rfl) rfl
  have G12 := ok_is_step (P := P) (w := w) (base := base) T F12 G0 G3
  have F30 : DefAt K "__init__" "Step.__init__" (cSt 45 0) (ma K (ga K "Step") "__init__") := def_of c (d := d30) (mem_def 30 rfl) rfl
  have G30 := ok_step_init (P := P) (w := w) (base := base) T F30 G12
  have F32 : DefAt K "kind" "Step.kind" (cSt 45 2) (inR K (ma K (ga K "Step") "kind") "property") := def_of c (d := d32) (mem_def 32 rfl) rfl
  have G32 := ok_step_kind (P := P) (w := w) (base := base) T F32
  have F33 : DefAt K "what" "Step.what" (cSt 45 3) (inR K (ma K (ga K "Step") "what") "property") := def_of c (d := d33) (mem_def 33 rfl) rfl
  have G33 := ok_step_what (P := P) (w := w) (base := base) T F33
  have F34 : DefAt K "__call__" "Step.__call__" (cSt 45 5) (ma K (ga K "Step") "__call__") := def_of c (d := d34) (mem_def 34 rfl) rfl
  have G34 := ok_step_call (P := P) (w := w) (base := base) T F34 G6 G5 G7
  have F35 : DefAt1 K "__init__" "Rule.__init__" (cSt 49 0) (ma K (ga K "Rule") "__init__") := def1_of c (d := d35) (mem_def 35 rfl) rfl
  have G35 := ok_rule_init (P := P) (w := w) (base := base) T F35 G11 G32 G33
  have F37 : DefAt K "__call__" "Rule.__call__" (cSt 49 7) (ma K (ga K "Rule") "__call__") := def_of c (d := d37) (mem_def 37 rfl) rfl
  have G37 := ok_rule_call (P := P) (w := w) (base := base) T F37 G34
  have F2 : DefAt K "number_in" "number_in" (topS 7) (ga K "number_in") := def_of c (d := d2) (mem_def 2 rfl) rfl
  have G2 := ok_number_in (P := P) (w := w) (base := base) T F2
  have F31 : DefAt K "of" "Step.of" (cSt 45 1) (inR K (ma K (ga K "Step") "of") "staticmethod") := def_of c (d := d31) (mem_def 31 rfl) rfl
  have G31 := ok_step_of (P := P) (w := w) (base := base) T F31 G2 G12 G30
  have F36 : DefAt K "of" "Rule.of" (cSt 49 1) (inR K (ma K (ga K "Rule") "of") "staticmethod") := def_of c (d := d36) (mem_def 36 rfl) rfl
  have G36 := ok_rule_of (P := P) (w := w) (base := base) T F36 G31 G35
  have F38 : DefAt1 K "__init__" "Board.__init__" (cSt 59 0) (ma K (ga K "Board") "__init__") := def1_of c (d := d38) (mem_def 38 rfl) rfl
  have G38 := ok_board_init (P := P) (w := w) (base := base) T F38
  have F39 : DefAt K "state" "Board.state" (cSt 59 2) (ma K (ga K "Board") "state") := def_of c (d := d39) (mem_def 39 rfl) rfl
  have G39 := ok_state (P := P) (w := w) (base := base) T F39
  have F40 : DefAt K "set_to" "Board.set_to" (cSt 59 3) (ma K (ga K "Board") "set_to") := def_of c (d := d40) (mem_def 40 rfl) rfl
  have G40 := ok_set_to (P := P) (w := w) (base := base) T F40
  have F41 : DefAt K "keep" "Board.keep" (cSt 59 4) (ma K (ga K "Board") "keep") := def_of c (d := d41) (mem_def 41 rfl) rfl
  have G41 := ok_keep (P := P) (w := w) (base := base) T F41 G39
  have F42 : DefAt K "take" "Board.take" (cSt 59 6) (ma K (ga K "Board") "take") := def_of c (d := d42) (mem_def 42 rfl) rfl
  have G42 := ok_take (P := P) (w := w) (base := base) T F42
  have F43 : DefAt K "row" "Board.row" (cSt 59 7) (inR K (ma K (ga K "Board") "row") "property") := def_of c (d := d43) (mem_def 43 rfl) rfl
  have G43 := ok_row (P := P) (w := w) (base := base) T F43
  have F44 : DefAt K "limit" "Board.limit" (cSt 59 8) (inR K (ma K (ga K "Board") "limit") "property") := def_of c (d := d44) (mem_def 44 rfl) rfl
  have G44 := ok_limit (P := P) (w := w) (base := base) T F44
  have F45 : DefAt K "use" "Board.use" (cSt 59 23) (ma K (ga K "Board") "use") := def_of c (d := d45) (mem_def 45 rfl) rfl
  have G45 := ok_use (P := P) (w := w) (base := base) T F45 G41 G42 G6
  have F46 : DefAt K "forget" "Board.forget" (cSt 59 24) (ma K (ga K "Board") "forget") := def_of c (d := d46) (mem_def 46 rfl) rfl
  have G46 := ok_forget_in (P := P) (w := w) (base := base) T F46 G41
  have F47 : DefAt K "do" "Board.do" (cSt 59 25) (ma K (ga K "Board") "do") := def_of c (d := d47) (mem_def 47 rfl) rfl
  have G47 := ok_do (P := P) (w := w) (base := base) T F47 G41 G42 G37
  have F48 : DefAt K "cut" "Board.cut" (cSt 59 26) (ma K (ga K "Board") "cut") := def_of c (d := d48) (mem_def 48 rfl) rfl
  have G48 := ok_cut (P := P) (w := w) (base := base) T F48 G41 G42
  have F49 : DefAt K "row_deed" "Board.row_deed" (cSt 59 30) (ma K (ga K "Board") "row_deed") := def_of c (d := d49) (mem_def 49 rfl) rfl
  have G49 := ok_row_deed (P := P) (w := w) (base := base) T F49 G45 G46 G47
  have F50 : DefAt K "done" "Board.done" (cSt 59 31) (ma K (ga K "Board") "done") := def_of c (d := d50) (mem_def 50 rfl) rfl
  have G50 := ok_done (P := P) (w := w) (base := base) T F50 G49
  have F51 : DefAt K "attempt" "Board.attempt" (cSt 59 32) (ma K (ga K "Board") "attempt") := def_of c (d := d51) (mem_def 51 rfl) rfl
  have G51 := ok_attempt (P := P) (w := w) (base := base) T F51 G39 G50
  have F52 : DefAt K "undo" "Board.undo" (cSt 59 33) (ma K (ga K "Board") "undo") := def_of c (d := d52) (mem_def 52 rfl) rfl
  have G52 := ok_undo (P := P) (w := w) (base := base) T F52 G40
  have F13 : DefAt K "_law_box" "_law_box" (topS 61) (ga K "_law_box") := def_of c (d := d13) (mem_def 13 rfl) rfl
  have G13 := ok_box (P := P) (w := w) (base := base) T F13
  have F14 : DefAt K "_law_take" "_law_take" (topS 62) (ga K "_law_take") := def_of c (d := d14) (mem_def 14 rfl) rfl
  have G14 := ok_law_take (P := P) (w := w) (base := base) T F14
  have F16 : DefAt K "_law_of" "_law_of" (topS 64) (ga K "_law_of") := def_of c (d := d16) (mem_def 16 rfl) rfl
  have G16 := ok_law_of (P := P) (w := w) (base := base) T F16 G14
  have F15 : DefAt K "_law_cells" "_law_cells" (topS 63) (ga K "_law_cells") := def_of c (d := d15) (mem_def 15 rfl) rfl
  have G15 := ok_cells (P := P) (w := w) (base := base) T F15
  have F21 : DefAt K "_law_name" "_law_name" (topS 69) (ga K "_law_name") := def_of c (d := d21) (mem_def 21 rfl) rfl
  have G21 := ok_lname (P := P) (w := w) (base := base) T F21 G16
  have F18 : DefAt K "_law_line" "_law_line" (topS 66) (ga K "_law_line") := def_of c (d := d18) (mem_def 18 rfl) rfl
  have G18 := ok_line (P := P) (w := w) (base := base) T F18 G14 G16
  have F22 : DefAt K "_law_deed" "_law_deed" (topS 71) (ga K "_law_deed") := def_of c (d := d22) (mem_def 22 rfl) rfl
  have G22 := ok_deed (P := P) (w := w) (base := base) T F22 G16 G21 G18
  have F24 : DefAt K "_law_kept" "_law_kept" (topS 73) (ga K "_law_kept") := def_of c (d := d24) (mem_def 24 rfl) rfl
  have G24 := ok_kept (P := P) (w := w) (base := base) T F24
  have F20 : DefAt K "_law_does" "_law_does" (topS 68) (ga K "_law_does") := def_of c (d := d20) (mem_def 20 rfl) rfl
  have G20 := ok_does (P := P) (w := w) (base := base) T F20
  have F19 : DefAt K "_law_host" "_law_host" (topS 67) (ga K "_law_host") := def_of c (d := d19) (mem_def 19 rfl) rfl
  have G19 := ok_host (P := P) (w := w) (base := base) T F19 G30 G35
  have F23 : DefAt K "_law_given" "_law_given" (topS 72) (ga K "_law_given") := def_of c (d := d23) (mem_def 23 rfl) rfl
  have G23 := ok_given (P := P) (w := w) (base := base) T F23 G19
  have F17 : DefAt K "_law_same" "_law_same" (topS 65) (ga K "_law_same") := def_of c (d := d17) (mem_def 17 rfl) rfl
  have G17 := ok_sameS (P := P) (w := w) (base := base) 1 T F17 (ok_sameS 0 T F17 (ok_same0 T F17))
  have F25 : DefAt K "_law_heard" "_law_heard" (topS 74) (ga K "_law_heard") := def_of c (d := d25) (mem_def 25 rfl) rfl
  have G25 := ok_heard (P := P) (w := w) (base := base) T TN F25 (ok_forget T TN F46 G41)
  have F27 : DefAt K "_law_pairs_so" "_law_pairs_so" (topS 76) (ga K "_law_pairs_so") := def_of c (d := d27) (mem_def 27 rfl) rfl
  have G27 := ok_pairs (P := P) (w := w) (base := base) T F27
  have F26 : DefAt K "_law_by_hand_right" "_law_by_hand_right" (topS 75) (ga K "_law_by_hand_right") := def_of c (d := d26) (mem_def 26 rfl) rfl
  have G26 := ok_hand (P := P) (w := w) (base := base) T F26 G27 G38 G25 G48 G52 G45 G47 G36 G17 G43 G44
  have F28 : DefAt K "_law_right" "_law_right" (topS 77) (ga K "_law_right") := def_of c (d := d28) (mem_def 28 rfl) rfl
  have G28 := ok_right (P := P) (w := w) (base := base) T F28 G26 G14 G38 G22 G25 G48 G51 G52 G23 G20 G24 G17 G43 G44
  exact ok_law (P := P) (w := w) (base := base) T FL G15 G13 G28
theorem law_fd (c : obsK K = valK) : ∃ fd, FunD K "law" "law" (defArgs (topS 78)) (defBody (topS 78)) (defScope (topS 78)) [] [] (ga K "law") fd := def_of c (d := d29) (mem_def 29 rfl) rfl
end
theorem law_facts {w : World} {K : PySem.W.Frag} {h : Heap} {mg : Str → Option Value} {f : Addr} (X : K.In h) (G : h.Ns mainGlobals mg) (hfa : mg ("law" : Str) = some (.ref f)) (c : obsK K = valK) :
    ∃ fd : FuncData, (∀ (s : Shared) (v : Value), BindsTo s fd ⟨[v], []⟩ [("_law_script", v)]) ∧ ∀ base : Heap, K.In base → base.Ns mainGlobals mg → FnOk PySem.Challenge.rw_touchcaps_k89_whole_rows_used_forgotten.prog w K mg base CX0 12 f fd ["_law_script"] (spLaw K) := by
  have T := txt_of X G c
  have TN : NmT PySem.Challenge.rw_touchcaps_k89_whole_rows_used_forgotten.prog K := nm_of c rfl (by kernel_rfl) (by kernel_rfl) (by decide +kernel)
  have e := hfa.symm.trans (T.g "law")
  cases e
  obtain ⟨fd, F⟩ := law_fd c
  have b := FunD.bindsA (ps := ["_law_script"]) F fun _ _ _ _ _ _ us hl => match us, hl with | [_], _ => rfl
  exact ⟨fd, fun s v => b s [v] rfl, fun base _ _ => all_ok T TN c F⟩
end TC

open PySem PySem.W PySem.Calls PyProof.Rows
theorem PySem.Challenge.cw_touchcaps_k89_whole_rows_used_forgotten_holds : PySem.Challenge.rw_touchcaps_k89_whole_rows_used_forgotten.Holds := by
  w_on; o_law
  refine HandSHeadRun.head_any (r := OpenLaw.row PySem.Challenge.rw_touchcaps_k89_whole_rows_used_forgotten) (q := view (OpenLaw.row PySem.Challenge.rw_touchcaps_k89_whole_rows_used_forgotten).prog [78]) (H := TC.hk) (ob := TC.ob) (M := 20000) (loose := TCH.names) (d := HandSHeadRun.topDef (OpenLaw.row PySem.Challenge.rw_touchcaps_k89_whole_rows_used_forgotten).prog 78) (kwd := []) TC.ob_eq
    (by kernel_rfl) (fun s => by kernel_rfl) TCH.run (by kernel_rfl) (by kernel_rfl) (by kernel_rfl) (by rfl) (by first | assumption | decide +kernel) (by decide +kernel) ⟨rfl, rfl, rfl, rfl, rfl, by decide +kernel⟩ ?hw ?hc
  case hw => w_witness2
  case hc =>
    refine L2.walk_ofE (l := PySem.Challenge.rw_touchcaps_k89_whole_rows_used_forgotten) (n := 63) (k := 12) (x := "_law_script") (CX := L2.CX0) rfl (by decide) (by kernel_rfl) ⟨rfl, by decide, by decide⟩ ?F (fun _ _ _ _ z => z)
    intro w mg fa h Y G hmg0
    obtain ⟨K, KX, c⟩ := Y
    have hmg : mg ("law" : PySem.Str) = some (.ref fa) := by
      have e : (HandSHeadRun.topDef (OpenLaw.row PySem.Challenge.rw_touchcaps_k89_whole_rows_used_forgotten).prog 78).name = ("law" : PySem.Str) := by kernel_rfl
      rw [← e]
      exact hmg0
    obtain ⟨fd, hb, hF⟩ := TC.law_facts (w := w) KX G hmg c
    exact ⟨K, fd, TC.spLaw K, KX, hb, fun H a ns hl _ hS => ⟨a, ns, rfl, hS, hl, fun _ => rfl⟩, hF⟩
