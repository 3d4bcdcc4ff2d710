import PyProof.Rows.All
import Wide.All
import OpenK.AllK
import Wide.FinOn
import HandS.ForMost
import HandS.ForExc
import HandS.Wide
import HandS.WideBits
import HandS.IsInst
import HandS.TupAny
import HandS.TupMul
import HandS.ExcValue
import HandS.ExcIs
import PyProof.DictMoreH
import HandS.DictTup
import HandS.Style
import KE.KRevSl
import KE.DataMinMax
import HandS.Conv
import HandS.SortOrd
import HandS.NamedTupSort
import HandS.TupSets
import HandS.TupLe
import HandS.SortKw
import HandS.Zip
import PyProof.WalkInts
import PySem.Challenge.RW_lowwater_k04_degrees_and_worths
set_option Elab.async false
set_option linter.all false
set_option maxRecDepth 100000
set_option maxHeartbeats 4000000
namespace Mp
open PySem PySem.Spec PyProof.Rows L2
/-! ### a caught exception, kept behind its clause -/
/-- an exception object of the class cls at a -/
abbrev KEx (cls : Value) (a : Addr) : HO := .ext fun g => ∃ (ob : Obj) (ws : Array Value), g.get? a = some ob ∧ Zc cls none ob ∧ ob.data = .fields ws
section
variable {X : Cx} {pins : List (Addr × Obj)} {σ : L2.St} {H : Hp} {s : Shared} {a : Addr} {ob : Obj} {ws : Array Value} {cls : Value}
theorem adopt (I : Inv X pins σ H s) (ha : s.heap.get? a = some ob) (hz : Zc cls none ob) (hd : ob.data = .fields ws) (na : H a = none) (nl : a ≠ X.env.locals) (n0 : X.s_0.heap.get? a = none) (np : ∀ p ∈ X.pn ++ pins, p.1 ≠ a) :
    Inv X pins σ (upd H a (KEx cls a)) s := by
  have nb : ∀ {b : Addr} {o : HO}, H b = some o → b ≠ a := fun e z => by rw [z, na] at e; cases e
  have n1 : ∀ {b : Addr} {o : Obj}, X.s_0.heap.get? b = some o → b ≠ a := fun e z => by rw [z, n0] at e; cases e
  refine ⟨I.ok, I.os, I.bare, ?_, I.loc, I.cell, ?_, ?_, ?_, ?_, I.len⟩
  · exact {
      keep := I.base.keep
      slot := I.base.slot
      free := fun b o e h h' => (upd_ne (n1 e)).trans (I.base.free b o e h h')
      there := I.base.there
      tups := fun b xs e => (upd_ne (nb (I.base.tups b xs e))).trans (I.base.tups b xs e)
      frzs := fun b o u e => (upd_ne (nb (I.base.frzs b o u e))).trans (I.base.frzs b o u e)
      tbls := fun b ps e => by
        obtain ⟨m, q⟩ := I.base.tbls b ps e
        exact ⟨m, (upd_ne (nb q)).trans q⟩ }
  · rw [upd_ne (Ne.symm nl)]; exact I.free
  · intro x c e
    obtain ⟨v, o, h1, h2⟩ := I.cell x c e
    have : c ≠ a := fun z => by
      rw [z, ha] at h1
      cases h1
      rw [hd] at h2
      cases h2
    rw [upd_ne this]
    exact I.freeC x c e
  · intro p hp
    obtain ⟨q1, q2, q3⟩ := I.pin p hp
    refine ⟨q1, ?_, q3⟩
    rw [upd_ne (np p hp)]
    exact q2
  · refine HOk.laidN I.hok (fun _ _ z => z) na ?_
    exact ⟨⟨ob, ws, ha, hz, hd⟩, ⟨ob, ha⟩, fun _ _ ⟨o, v, q, r⟩ k => ⟨o, v, k o q, r⟩⟩
end
/-- what "except c as e: kept = e" wishes of the body's exceptions: each is a c; e is number i, kept number j -/
def wKeep (K : PySem.W.Frag) (c : Value) (i j : Nat) (D : Ends) : WX := fun cls d σ H =>
  PySem.W.exmOne K cls c = some true ∧ d = none ∧ ∀ a, H a = none → D.nx (((σ.set i (some (.ref a))).set j (some (.ref a))).set i none) (upd H a (KEx cls a))
theorem ps_try_keep {X : Cx} {x n k : Str} {c : Value} {i j : Nat} {body : List Stmt} {p0 p1 p2 p3 pos pos' : Pos} {tb : WX → TS}
    (hs : X.stack = X.env :: X.outer) (hf : X.env.frame = some X.env.locals) (hx : X.ex = []) (nd : X.N.Nodup) (hi : X.N[i]? = some n) (hj : X.N[j]? = some k)
    (ln : X.env.kindOf n = some .local) (vn : Vis X.env.scope n) (lk : Loc X.env.scope k) (fk : X.fn k = true ∨ X.env.scope.names.lookup k = some .local)
    (d1 : (n == ("__debug__" : Str)) = false) (d2 : (n == ("__classdict__" : Str)) = false) (hc : Names X x c)
    (hb : ∀ (W : WX) (qs : List (Addr × Obj)) (xe : Value → Shared → Prop), Takes (X.tr qs xe) W → PassesOwn (model X.prog X.w) X.A X.env xe → PSs (X.tr qs xe) body (tb W)) :
    PS X (.Try body [.ExceptHandler (some (.Name x p0)) (some n) [.Assign [.Name k p1] (.Name n p2) p3] pos'] [] [] pos) (fun D σ H => tb (wKeep X.K c i j D) D σ H) := by
  refine ⟨fun pins s σ H D I h => ?_⟩
  have ok := I.ok
  have frs1 : X.A.frames = some (X.env :: X.outer) := ok.frames.trans (congrArg some hs)
  refine wpAny_Try_except ?_
  refine wpAny_mono ((hb (wKeep X.K c i j D) (X.pn ++ pins) _ ?tk PassesOwn.looking).run [] s σ H D (I.toTry _) h) (fun f s1 hsp => ?_) (fun e s1 he => he)
  case tk =>
    intro u s2 xx
    obtain ⟨a, Bh, sJ, ps2, σ2, H2, cls, d, rfl, JT, nbs, up, sky, na, os, ag, hm, rfl, hyes⟩ := xx
    have J : Inv X pins σ2 H2 sJ := JT.ofTry ok
    rw [hs] at sky
    refine Sky.land Zc.steady frs1 hf sky fun g fl upg => ?_
    have Jg : Inv X pins σ2 H2 { s2 with heap := g } := J.landed nbs fl.1 (up.trans upg) os ag
    obtain ⟨ob, ws, hob, hz, hdt⟩ := fl.there
    have nfr : a ∉ frs (X.env :: X.outer) := fun hmem => by
      obtain ⟨_, o2, e2, hnf⟩ := fl.2.2.1.mem hmem
      rw [hob] at e2
      cases e2
      exact hnf _ hdt
    have nl : a ≠ X.env.locals := fun z => nfr (List.mem_filterMap.mpr ⟨_, List.mem_cons_self, by rw [hf, z]⟩)
    have nf : a ∉ X.fs := fun hmem => by
      obtain ⟨e, h1, h2⟩ := List.mem_filterMap.mp hmem
      exact nfr (List.mem_filterMap.mpr ⟨e, List.mem_cons_of_mem _ h1, h2⟩)
    have nJ : sJ.heap.get? a = none := by
      cases e : sJ.heap.get? a with
      | none => rfl
      | some o =>
        have := nbs a o e (by rw [hs]; exact nfr)
        rw [fl.2.1] at this
        cases this
    have n0 : X.s_0.heap.get? a = none := by
      cases e : X.s_0.heap.get? a with
      | none => rfl
      | some o =>
        obtain ⟨o', q⟩ := J.base.there a o e (by rw [hx]; exact fun z => nomatch z)
        rw [nJ] at q
        cases q
    have np : ∀ p ∈ X.pn ++ pins, p.1 ≠ a := fun p hp z => by
      have := (J.pin p hp).1
      rw [z, nJ] at this
      cases this
    have Sg := Jg.suite hob hdt na nl nf
    refine wpAny_handleBy_cons (codeAny_handlers_test ?_) (by intro q; cases q)
    have LT : PySem.W.Looks (model X.prog X.w) g (typeOf (.ref a)) cls := fun A Q E s k q => wpAny_typeOf_ref (k _ _ hob) (by rw [hz.1]; exact q)
    have LM := PySem.W.exm_one (M := model X.prog X.w) Jg.kIn LT hm
    have test : ∀ {Q : Value → Shared → Prop} {E : Value → Shared → Prop}, Q c { s2 with heap := g } → wpAny (model X.prog X.w) (X.A.mark (some (.ref a))) (eval (.Name x p0) X.env) Q E { s2 with heap := g } := fun {Q E} q => by
      obtain ⟨h1, h2, h3⟩ := hc
      rcases h3 with h3 | ⟨h3, h4, h5⟩
      · exact ld_glob Sg h1 h3 q h2
      · exact ld_blt Sg h1 h3 h4 q h5 h2
    refine test (LM.here (codeAny_handlers_suite_as ?_))
    refine HandSPX.lands_againZ fl fun g2 fl2 up2 => ?_
    obtain ⟨ob2, ws2, hob2, hz2, hdt2⟩ := fl2.there
    have Jg2 : Inv X pins σ2 H2 { s2 with heap := g2 } := J.landed nbs fl2.1 ((up.trans upg).trans up2) os ag
    have Sg2 := Jg2.suite hob2 hdt2 na nl nf
    refine store_ok (X := X.suite a ((a, ob2) :: (X.pn ++ pins))) (v := .ref a) Sg2 nd hi (.inl ln) rfl (fun s3 S3 => ?_) (.inr ln)
    have hi2 : i < σ2.length := by
      rw [Jg2.len]
      exact (List.getElem?_eq_some_iff.mp hi).1
    have st : PSs (X.suite a ((a, ob2) :: (X.pn ++ pins))) [.Assign [.Name k p1] (.Name n p2) p3] (tAsg (tVar i) (gName j)) := pss_one (ps_set nd hj lk (pe_var hi vn d1 d2) rfl fk)
    refine wpAny_mono (st.run [] s3 _ H2 ⟨fun σ' H' => σ' = (σ2.set i (some (.ref a))).set j (some (.ref a)) ∧ H' = H2, fun _ _ => False, fun _ _ => False, fun _ _ => False⟩ S3 ⟨.ref a, ?_, ?_⟩) (fun f s4 q => ?_) (fun _ _ z => False.elim z)
    · rw [List.getElem?_set_self hi2]
    · exact ⟨rfl, rfl⟩
    · cases f with
      | brk => obtain ⟨_, _, _, z⟩ := q; exact z.elim
      | cont => obtain ⟨_, _, _, z⟩ := q; exact z.elim
      | ret u => obtain ⟨_, _, _, _, _, z⟩ := q; exact z.elim
      | next =>
        obtain ⟨σ4, H4, S4, rfl, rfl⟩ := q
        have I4 : Inv X ((a, ob2) :: pins) ((σ2.set i (some (.ref a))).set j (some (.ref a))) H4 s4 :=
          ⟨ok, S4.os, S4.bare, S4.base, S4.loc, S4.cell, S4.free, S4.freeC, fun p hp => S4.pin p (by
            refine List.mem_append_left _ ?_
            rcases List.mem_append.mp hp with h | h
            · exact List.mem_cons_of_mem _ (List.mem_append_left _ h)
            · rcases List.mem_cons.mp h with h | h
              · rw [h]; exact List.mem_cons_self
              · exact List.mem_cons_of_mem _ (List.mem_append_right _ h)), S4.hok, S4.len⟩
        refine gone_ok I4 nd hi ln fun s5 I5 => ?_
        obtain ⟨e5, _⟩ := I5.pin (a, ob2) (List.mem_append_right _ List.mem_cons_self)
        have I6 : Inv X pins (((σ2.set i (some (.ref a))).set j (some (.ref a))).set i none) H4 s5 :=
          ⟨ok, I5.os, I5.bare, I5.base, I5.loc, I5.cell, I5.free, I5.freeC, fun p hp => I5.pin p (by
            rcases List.mem_append.mp hp with h | h
            · exact List.mem_append_left _ h
            · exact List.mem_append_right _ (List.mem_cons_of_mem _ h)), I5.hok, I5.len⟩
        exact ⟨_, _, adopt I6 e5 hz2 hdt2 na nl n0 np, hyes a na⟩
  · cases f with
    | next =>
      obtain ⟨σ', H', J', q⟩ := hsp
      exact wpAny_execs_nil (show SP X pins D .next s1 from ⟨σ', H', J'.ofTry ok, q⟩)
    | brk => obtain ⟨σ', H', J', q⟩ := hsp; exact ⟨σ', H', J'.ofTry ok, q⟩
    | cont => obtain ⟨σ', H', J', q⟩ := hsp; exact ⟨σ', H', J'.ofTry ok, q⟩
    | ret u => obtain ⟨v, σ', H', J', r, q⟩ := hsp; exact ⟨v, σ', H', J'.ofTry ok, r, q⟩
end Mp
namespace Mp
open PySem PySem.Spec PyProof.Rows L2
/-! ### isinstance of a kept exception -/
/-- classes as values -/
def ClsV (c : V) (cv : Value) : Prop := ∀ u, RelV c u → u = cv
def ClsVs : List V → List Value → Prop
  | [], cs => cs = []
  | v :: vs, cs => ∃ c r, cs = c :: r ∧ ClsV v c ∧ ClsVs vs r
theorem ClsVs.eq : ∀ {vs : List V} {cs us : List Value}, ClsVs vs cs → Vals vs us → us = cs
  | [], cs, us, h, r => by cases r; exact (show cs = [] from h).symm
  | v :: vs, cs, us, h, r => by
    obtain ⟨c, t, rfl, h1, h2⟩ := h
    cases r with
    | cons r1 r2 => rw [h1 _ r1, h2.eq r2]
def rIsX (K : PySem.W.Frag) : List V → Hp → VK → Prop := fun xs H Q => ∃ (a C : Addr) (c : V) (b : Bool), xs = [.ref a, c] ∧ H a = some (KEx (.ref C) a) ∧ ExcC K C ∧
  ((∃ cv, ClsV c cv ∧ PySem.W.kitOne K (.ref C) cv = some b) ∨ ∃ T vs cs, c = .ref T ∧ H T = some (.tup vs) ∧ ClsVs vs cs ∧ PySem.W.kitAny K (.ref C) cs = some b) ∧ Q (.bl b) H
theorem call_isX {X : Cx} : CallR X (.builtin "isinstance") (rIsX X.K) := by
  intro pins s σ H xs us Q I r h
  obtain ⟨a, C, c, b, rfl, ha, E, hb, q⟩ := h
  cases r with
  | cons rx rr =>
    cases rr with
    | cons rt rr =>
      cases rr
      cases rx
      have J : ∃ ob, PySem.W.InstAt s.heap a ob C none := by
        obtain ⟨⟨ob, ws, e1, hz, e3⟩, _⟩ := I.hok a _ ha
        obtain ⟨oc, od, oda, osl⟩ := ob
        obtain ⟨h1, h2⟩ := hz
        dsimp only at h1 h2 e3
        subst h1 h2 e3
        exact ⟨_, e1, rfl, rfl, trivial⟩
      obtain ⟨ob, J⟩ := J
      rcases hb with ⟨cv, hc, e⟩ | ⟨T, vs, cs, rfl, hT, hc, e⟩
      · have ec := hc _ rt
        subst ec
        exact PySem.W.kia_one (PySem.W.handS_kitx_exc E.hg E.hk E.hs E.hd E.ha E.hn E.ht E.hm) I.kIn J e (fun z => nomatch z) fun tk => ⟨.bl b, H, I.kept (t' := tk) fun _ _ z => z, rfl, q⟩
      · cases rt
        obtain ⟨_, its, rv, ob2, e1, e2, n, e3⟩ := I.hok T _ hT
        have ec := hc.eq rv
        subst ec
        obtain ⟨oc, od, oda, osl⟩ := ob2
        dsimp only at e2 e3
        subst e2 e3
        exact PySem.W.kia_tup (PySem.W.handS_kitx_exc E.hg E.hk E.hs E.hd E.ha E.hn E.ht E.hm) I.kIn J e1 e (fun z => nomatch z) fun tk => ⟨.bl b, H, I.kept (t' := tk) fun _ _ z => z, rfl, q⟩
theorem kitAny_of {K : PySem.W.Frag} {t : Value} {β : Type} (f : β → Bool) (g : β → Value) : ∀ l : List β, (∀ x ∈ l, PySem.W.kitOne K t (g x) = some (f x)) → PySem.W.kitAny K t (l.map g) = some (l.any f)
  | [], _ => rfl
  | x :: l, h => by
    have h1 := h x List.mem_cons_self
    have h2 := kitAny_of f g l fun y hy => h y (List.mem_cons_of_mem _ hy)
    show (match PySem.W.kitOne K t (g x) with
      | some true => some true
      | some false => PySem.W.kitAny K t (l.map g)
      | none => none) = _
    rw [h1]
    cases e : f x with
    | true => simp [e]
    | false => simp [e, h2]
end Mp
namespace Mp
open PySem PySem.Spec PyProof.Rows L2
/-! ### d.pop(k), the key there -/
def rPopX : V → List V → Hp → VK → Prop := fun x xs H Q =>
  (∃ (a : Addr) (kvs : List (L2.Key × V)) (k : L2.Key) (v : V), x = .ref a ∧ xs = [kV k] ∧ H a = some (.dK kvs) ∧ valV kvs k = some v ∧ Q v (upd H a (.dK (dropK kvs k)))) ∨
  ∃ (a : Addr) (kvs : List (List L2.Key × V)) (k : List L2.Key) (b : Addr) (v : V), x = .ref a ∧ xs = [.ref b] ∧ H a = some (.dT kvs) ∧ H b = some (.tup (k.map kV)) ∧ valV kvs k = some v ∧ Q v (upd H a (.dT (dropK kvs k)))
theorem mt_popX {X : Cx} (hu : X.A.units + 1 < cLine) : MtR X "dict.pop" rPopX := by
  intro pins s σ H x xs u us Q I rx rxs h
  rcases h with ⟨a, kvs, k, v, rfl, rfl, ha, hv, q⟩ | ⟨a, kvs, k, b, v, rfl, rfl, ha, hb, hv, q⟩
  · cases rx
    cases rxs with
    | cons r1 r2 =>
      cases r2
      exact d_pop (more := []) I ha r1 hv (.inl rfl) fun w' s' I' r' => ⟨v, _, I', r', q⟩
  · cases rx
    cases rxs with
    | cons r1 r2 =>
      cases r2
      cases r1
      obtain ⟨z, hd, ys, rel, dd⟩ := dt_of I.hok ha
      have hz : ys.length ≤ sizeLine := by rw [← Paired.length rel]; exact z
      obtain ⟨p, hp, rp⟩ : ∃ p, atKey ys k = some p ∧ RelV v p.2 := by
        have r := rel.val k
        rw [hv] at r
        cases e : atKey ys k with
        | none => rw [e] at r; exact (show False from r).elim
        | some p => rw [e] at r; exact ⟨p, rfl, r⟩
      refine call_pop_heap (.inl rfl) (PySem.F.args_dict_pop_2 _ _) (tupleKind_room_in1 hu) (key_of I.hok hb) hd dd hp (fun g dd2 sb => ?_) hz
      obtain ⟨o, es, ep, hq, h2, h3, h4, _, h5⟩ := dd2
      have I2 : Inv X pins σ (upd H a (.dT (dropK kvs k))) { s with heap := g, toks := s.toks + (tupleKind (mixKind X.prog X.w)).draws k } := d_write I (by rw [ha]; exact True.intro) sb ⟨o, hq⟩
        ⟨Nat.le_trans (dropK_le kvs k) z, hd, _, (DX.KT_drop k rel).keeps (fun c ys ec => (by rw [upd_ne (ne_of ec ha (fun z => nomatch z))]; exact ec)), o, es, ep, hq, h2, h3, h4, h5⟩
      exact ⟨v, _, I2, rp, q⟩
end Mp
namespace Mp
open PySem PySem.Spec PyProof.Rows L2
/-! ### t[::-1] -/
theorem adjust_rev (n : Nat) : Builtin.Slice.sliceAdjust none none (-1) (n : Int) = ((n : Int) - 1, -1) := by
  unfold Builtin.Slice.sliceAdjust
  simp
theorem places_rev (n : Nat) : Builtin.Slice.slicePlaces ((n : Int) - 1) (-1) (-1) = n := by
  unfold Builtin.Slice.slicePlaces
  simp
  split <;> omega
theorem pick_rev (xs : Array Value) : ((List.range xs.size).filterMap fun (m : Nat) => xs[(((xs.size : Int) - 1) + (m : Int) * (-1)).toNat]?).toArray = xs.toList.reverse.toArray := by
  have e : (fun (m : Nat) => xs[(((xs.size : Int) - 1) + (m : Int) * (-1)).toNat]?) = (xs[·]?) ∘ fun m => xs.size - 1 - m := by
    funext m
    show xs[(((xs.size : Int) - 1) + (m : Int) * (-1)).toNat]? = xs[xs.size - 1 - m]?
    have : (((xs.size : Int) - 1) + (m : Int) * (-1)).toNat = xs.size - 1 - m := by omega
    rw [this]
  rw [e, ← List.filterMap_map, PySem.W.krv_range, List.filterMap_reverse, PySem.W.krv_all]
section
variable {prog : Program} {w : World} {A : Around} {E : Value → Shared → Prop} {s : Shared}
theorem applied_rev {sl : Addr} {vs : Value} {n : Nat} {Q : Int × Int × Nat → Shared → Prop} (hs : s.heap.IsSliceOf sl .none .none vs) (ps : IsPart vs (some (-1))) (h : Q ((n : Int) - 1, -1, n) s) :
    wpAny (model prog w) A (Builtin.Slice.sliceApplied (.ref sl) (pure (n : Int))) Q E s := by
  obtain ⟨ob, h1, _, h3⟩ := id hs
  unfold Builtin.Slice.sliceApplied Builtin.Slice.sliceFields
  refine wpAny_bind (wpAny_bind (wpAny_field h1 h3 (x := .none) rfl (wpAny_bind (wpAny_field h1 h3 (x := .none) rfl (wpAny_bind (wpAny_field h1 h3 (x := vs) rfl (wpAny_pure ?_)))))))
  refine wpAny_bind (HT.slicePart_ ps ?_)
  show wpAny _ _ (if ((-1 : Int) == 0) = true then _ else _) _ _ s
  rw [if_neg (by decide)]
  refine wpAny_bind (slicePart_none (wpAny_bind (slicePart_none (wpAny_bind (wpAny_pure ?_)))))
  show wpAny _ _ (match Builtin.Slice.sliceAdjust none none (-1) (n : Int) with | (a, b) => pure (a, (-1 : Int), Builtin.Slice.slicePlaces a b (-1))) _ _ s
  rw [adjust_rev n]
  show wpAny _ _ (pure ((n : Int) - 1, (-1 : Int), Builtin.Slice.slicePlaces ((n : Int) - 1) (-1) (-1))) _ _ s
  rw [places_rev]
  exact wpAny_pure h
theorem getItem_tuple_rev {t sl : Addr} {items : Array Value} {vs : Value} {Q : Value → Shared → Prop} (ht : IsTup s.heap t items) (hs : s.heap.IsSliceOf sl .none .none vs) (ps : IsPart vs (some (-1)))
    (h : Q (.ref s.heap.objs.size) { s with heap := s.heap.push { cls := .type "tuple", data := .seq items.toList.reverse.toArray } }) (hsz : items.size ≤ sizeLine) : wpAny (model prog w) A (getItem (.ref t) (.ref sl)) Q E s := by
  have hk : sizeOk (.seq items.toList.reverse.toArray) := by
    show items.toList.reverse.toArray.size ≤ sizeLine
    rw [List.size_toArray, List.length_reverse, Array.length_toList]
    exact hsz
  obtain ⟨ob, h1, h2, _⟩ := id hs
  have ts : s.TypeIs (.ref sl) "slice" := ⟨ob, h1, h2⟩
  unfold getItem
  try with_reducible refine wpAny_holding ?_
  first | refine wpAny_bind (wpAny_pure ?_) | skip
  refine wpAny_bind (wpAny_sequenceKey ht.typeIs (by decide) ?_)
  refine wpAny_bind (wpAny_callSpecial?_slot (name := Str.ofString "__getitem__") ht.typeIs PyProof.Rows.slot_tuple_getitem (wpAny_call_entry PyProof.Rows.slot_tuple_getitem ht.typeIs entry_tuple_getitem ?_ (args_tuple_getitem _ _)))
  show wpAny _ _ (Builtin.Tuple.tupleItemsOf (.ref t) >>= _) _ _ s
  refine wpAny_bind (tupleItemsOf_ ht ?_)
  refine wpAny_bind (wpAny_typeOf ts ?_)
  rw [if_pos (by decide)]
  refine wpAny_bind (applied_rev hs ps ?_)
  have no : ¬ (((((items.size : Nat) : Int) - 1) == 0 && (-1 : Int) == 1 && items.size == items.size) = true) := by
    intro q
    rw [Bool.and_eq_true, Bool.and_eq_true] at q
    exact absurd q.1.2 (by decide)
  show wpAny _ _ (if ((((items.size : Nat) : Int) - 1) == 0 && (-1 : Int) == 1 && items.size == items.size) = true then _ else _) _ _ s
  rw [if_neg no, pick_rev]
  first
    | exact wpAny_bind (m := Builtin.Tuple.tupleExact _) (wpAny_newObj_type (wpAny_pure ⟨_, rfl, wpAny_pure h⟩) hk)
    | exact wpAny_bind (m := Builtin.Tuple.tupleExact _) (wpAny_newObj_type (wpAny_bind (wpAny_pure (wpAny_pure ⟨_, rfl, wpAny_pure h⟩))) hk)
    | exact wpAny_bind (wpAny_bind (m := Builtin.Tuple.tupleExact _) (wpAny_newObj_type (wpAny_pure (wpAny_pure ⟨_, rfl, wpAny_pure h⟩)) hk))
    | exact wpAny_bind (wpAny_bind (m := Builtin.Tuple.tupleExact _) (wpAny_newObj_type (wpAny_pure ⟨_, rfl, wpAny_pure h⟩) hk))
end
def tRev (K : PySem.W.Frag) (te : TE) : TE := fun σ H Q => te σ H fun x H1 => ∃ a xs, x = .ref a ∧ ((SqL K H1 a xs ∧ ∀ p, H1 p = none → Q (.ref p) (upd H1 p (.lst xs.reverse))) ∨ (SqT K H1 a xs ∧ ∀ p, H1 p = none → Q (.ref p) (upd H1 p (.tup xs.reverse))))
theorem pe_rev {X : Cx} {e : Expr} {te : TE} {k : Nat} {p1 p2 p3 pos : Pos} (he : PE X e te) : PE X (.Subscript e (.Slice none none (some (.UnaryOp .USub (.Constant (.int 1) k p1) p2)) p3) pos) (tRev X.K te) := by
  refine ⟨fun pins s σ H Q I h => ?_⟩
  refine Subscript_ (thn (he.run pins s σ H _ I h) fun v s1 ⟨x, H1, I1, rx, a, xs, ex, hq⟩ => ?_)
  subst ex
  cases rx
  have minus : PO X (some (.UnaryOp .USub (.Constant (.int 1) k p1) p2)) (tPart (tUn (rU fun i => .int (-i)) (tC (.int 1)))) := po_some (pe_un un_neg pe_int)
  refine wpAny_Slice (thn (po_none.run pins s1 σ H1 (fun o H2 => o = none ∧ H2 = H1) I1 ⟨rfl, rfl⟩) fun w1 s2 ⟨o1, H2, I2, q1, z1, y1⟩ => ?_)
  subst z1 y1
  refine thn (po_none.run pins s2 σ H2 (fun o H3 => o = none ∧ H3 = H2) I2 ⟨rfl, rfl⟩) fun w2 s3 ⟨o2, H3, I3, q2, z2, y2⟩ => ?_
  subst z2 y2
  refine thn (minus.run pins s3 σ H3 (fun o H4 => o = some (-1) ∧ H4 = H3) I3 ⟨1, rfl, -1, rfl, rfl, rfl⟩) fun w3 s4 ⟨o3, H4, I4, q3, z3, y3⟩ => ?_
  subst z3 y3
  have I5 : Inv X pins σ H4 { s4 with heap := s4.heap.push { cls := .type "slice", data := .fields #[w1, w2, w3] } } := I4.kept (t' := s4.toks) fun b o z => Heap.get?_push_of_some _ z
  show wpAny (model X.prog X.w) X.A (subscriptTail e _ (.ref a) (.ref s4.heap.objs.size)) (EP X pins σ Q) X.xe _
  rcases hq with ⟨hx, q⟩ | ⟨hx, q⟩
  · obtain ⟨its, r, ht, hz⟩ := I5.list hx
    have hl := r.length
    refine tail_any (ops := [.ref a, .ref s4.heap.objs.size]) ht.isList.typeIs (PySem.slot_list_getitem.lookup) ?_ (by with_unfolding_all rfl)
    refine wpAny_getItem_list_slice ht.isList (Heap.IsSliceOf.new _ w1 w2 w3) q1 q2 q3 (by decide) ?_ (by rw [List.size_toArray]; omega)
    rw [PySem.W.krv_pick]
    exact ⟨.ref _, _, I5.laid (t' := s4.toks) (o := .lst xs.reverse) (fun b o z => Heap.get?_push_of_some _ z) (Nat.le_refl _) ⟨by rw [List.length_reverse]; exact hz, _, 0, r.reverse, Heap.get?_push_size _ rfl⟩, rfl, q _ (I5.hok.fresh (Nat.le_refl _))⟩
  · obtain ⟨its, r, ht, hz⟩ := I5.tuple hx
    have hl := r.length
    cases q1
    cases q2
    refine tail_any (ops := [.ref a, .ref s4.heap.objs.size]) ht.typeIs (PyProof.Rows.slot_tuple_getitem.lookup) ?_ (by with_unfolding_all rfl)
    refine getItem_tuple_rev ht (Heap.IsSliceOf.new _ .none .none w3) q3 ?_ (by rw [List.size_toArray]; omega)
    exact ⟨.ref _, _, I5.laid (t' := s4.toks) (o := .tup xs.reverse) (fun b o z => Heap.get?_push_of_some _ z) (Nat.le_refl _) ⟨by rw [List.length_reverse]; exact hz, _, r.reverse, ⟨_, Heap.get?_push_size _ rfl, rfl, _, rfl⟩⟩, rfl, q _ (I5.hok.fresh (Nat.le_refl _))⟩
end Mp
namespace Mp
open PySem PySem.Spec PyProof.Rows L2
/-! ### sum of a list or a tuple of ints -/
section
variable {prog : Program} {w : World} {A : Around} {E : Value → Shared → Prop} {s : Shared}
theorem sum_tup {l : Addr} {its : List Value} {ns : List Int} {Q : Value → Shared → Prop} (hh : A.handled = none) (hl : s.heap.IsTuple l its.toArray) (hi : IntsAre its ns)
    (h : ∀ h' tk t', (∀ b o, s.heap.get? b = some o → h'.get? b = some o) → Q (.int ns.sum t') { s with heap := h', toks := tk }) : wpAny (model prog w) A (call (.builtin "sum") [.ref l]) Q E s := by
  obtain ⟨xs, e⟩ := hi.allInts.items
  have hn : numsOf (intItems xs).toList = ns := by rw [← e]; exact hi.numsOf
  rw [nums_intItems] at hn
  rw [e] at hl
  have lt : l < s.heap.objs.size := by obtain ⟨_, q, _⟩ := id hl; exact Heap.lt_size q
  refine call_sum_walkG (wpAny_pyIter_tuple hl ?_)
  refine ⟨_, _, _, _, _, _, numAt xs, rfl, Walks.tuple (A := A.in1) hh _ l (Nat.ne_of_lt lt) (intItems xs), ⟨⟨_, Heap.get?_push_size _ rfl, rfl, rfl⟩, hl.push _⟩, fun b hb => ?_, fun _ _ => intItems_at, fun h' tk t' hk => ?_⟩
  · show b < (s.heap.push _).objs.size
    rw [Heap.size_push]
    rcases List.mem_cons.mp hb with rfl | hb
    · exact Nat.lt_succ_self _
    · rw [List.mem_singleton.mp hb]
      exact Nat.lt_succ_of_lt lt
  · have q := h h' tk t' fun b o q => hk b o (fun z => Nat.lt_irrefl _ (List.mem_singleton.mp z ▸ Heap.lt_size q)) (Heap.get?_push_of_some _ q)
    have e2 : preSum (numAt xs) (intItems xs).size = ns.sum := by
      have : (intItems xs).size = xs.size := by simp [intItems]
      rw [this, preSum_eq, List.take_of_length_le (by simp), hn]
    rw [e2]
    exact q
end
def rSumA (K : PySem.W.Frag) : List V → Hp → VK → Prop := fun vs H Q => ∃ (a : Addr) (ns : List Int), vs = [V.ref a] ∧ (SqL K H a (ns.map V.int) ∨ SqT K H a (ns.map V.int)) ∧ Q (.int ns.sum) H
theorem cr_sumA {X : Cx} (hc : X.calm = true) : CallR X (.builtin "sum") (rSumA X.K) := by
  intro pins s σ H vs us Q I r h
  obtain ⟨a, ns, rfl, hs, q⟩ := h
  rcases hs with hs | hs
  · exact cr_sum hc pins s σ H _ us Q I r ⟨a, ns, rfl, hs, q⟩
  · obtain ⟨its, rv, ⟨ob, e1, e2, n, e3⟩, _⟩ := I.tuple hs
    rw [Vals.ref1 r]
    exact sum_tup (I.ok.hd hc) ⟨ob, e1, e2, n, e3⟩ rv.ints fun h' tk t' hk => ⟨.int _, H, I.kept hk, ⟨_, rfl⟩, q⟩
end Mp
namespace Mp
open PySem PySem.Spec PyProof.Rows L2
/-! ### sorted of a dict whose keys are tuples of ints: any number of keys -/
section
variable {prog : Program} {w : World} {A : Around} {E : Value → Shared → Prop} {s : Shared}
theorem lexK {b d : Bool} {Q : Bool → Shared → Prop} {xs ys : List Value} {ns ms : List Int} (i : Nat) (hx : IntsAre xs ns) (hy : IntsAre ys ms) (hd : d = decide (ns.length < ms.length))
    (h : Q (HT.lexLt ns ms) s) : PySem.W.KatLex prog w A b d Q (xs.zip ys) i s := by
  induction hx generalizing ys ms i with
  | nil =>
    cases hy with
    | nil => subst hd; exact PySem.W.kat_nil h
    | cons q u hy => subst hd; exact PySem.W.kat_nil h
  | @cons p t xs ns hx ih =>
    cases hy with
    | nil => subst hd; exact PySem.W.kat_nil h
    | @cons q u ys ms hy =>
      show PySem.W.KatLex prog w A b d Q ((Value.int p t, Value.int q u) :: xs.zip ys) i s
      refine PySem.W.kat_cons (wpAny_eqBool_int ?_)
      have e0 : HT.lexLt (p :: ns) (q :: ms) = if p = q then HT.lexLt ns ms else decide (p < q) := rfl
      rw [e0] at h
      by_cases e : p = q
      · subst e
        rw [if_pos rfl] at h
        rw [beq_self_eq_true]
        refine PySem.W.kat_yes ?_
        exact ih (i + 1) hy (by subst hd; exact decide_eq_decide.mpr (by simp)) h
      · rw [if_neg e] at h
        rw [show (p == q) = false from beq_eq_false_iff_ne.mpr e]
        exact PySem.W.kat_no (TS.oneLt_ints _ h)
/-- each is a tuple of ints, not empty -/
def KTup (h : Heap) (v : Value) : Prop := ∃ ns, TS.TupInts h v ns ∧ ns ≠ []
theorem firstsK {h : Heap} : ∀ vs : List Value, (∀ v ∈ vs, KTup h v) → ∃ fs, PySem.W.KatTups h vs fs ∧ fs.length = vs.length ∧ ∀ f, f ∈ fs → ∃ n t, f = Value.int n t
  | [], _ => ⟨[], PySem.W.KatTups.nil, rfl, fun f hf => by simp at hf⟩
  | v :: vs, x => by
    obtain ⟨fs, k, hl, hi⟩ := firstsK vs fun u hu => x u (List.mem_cons_of_mem _ hu)
    obtain ⟨ns, ⟨a, xs, rfl, ⟨o, ho, hc, n, hdt⟩, i⟩, hn⟩ := x v (List.mem_cons_self ..)
    obtain ⟨y, ys, e⟩ : ∃ y ys, xs.toList = y :: ys := by
      cases q : xs.toList with
      | nil =>
        rw [q] at i
        cases i
        exact (hn rfl).elim
      | cons y ys => exact ⟨y, ys, rfl⟩
    obtain ⟨m, t, hy⟩ := i.all y (by rw [e]; exact List.mem_cons_self ..)
    refine ⟨y :: fs, PySem.W.KatTups.cons ho hc hdt ?_ k, by simp [hl], ?_⟩
    · have z := congrArg (fun l : List Value => l[0]?) e
      simpa using z
    · intro f hf
      rcases List.mem_cons.mp hf with rfl | hf
      · exact ⟨m, t, hy⟩
      · exact hi f hf
theorem cmpK {vs : List Value} {h0 : Heap} (hp : ∀ v ∈ vs, KTup s.heap v) (hk : ∀ v ∈ vs, TS.intsOf h0 v = TS.intsOf s.heap v) :
    SrtO.Cmp prog w A s (tuples' true) (fun p => p.1 ∈ vs) (SrtO.lt2 fun v u => HT.lexLt (TS.intsOf h0 v) (TS.intsOf h0 u)) := by
  intro p q hm hm'
  obtain ⟨ns, h1, _⟩ := hp _ hm
  obtain ⟨ms, h2, _⟩ := hp _ hm'
  show wpAny (model prog w) A (keyLt' (tuples' true) p.1 q.1) (fun r s' => s' = s ∧ r = HT.lexLt (TS.intsOf h0 p.1) (TS.intsOf h0 q.1)) (fun _ _ => False) s
  rw [hk _ hm, hk _ hm', h1.ints, h2.ints]
  obtain ⟨a, xs, e, ⟨o, ho, hc, n, hd⟩, i⟩ := h1
  obtain ⟨a', ys, e', ⟨o', ho', hc', n', hd'⟩, i'⟩ := h2
  rw [e, e']
  refine PySem.W.kat_lt ho hd ho' hd' ?_
  refine lexK 0 i i' ?_ ⟨rfl, rfl⟩
  have l1 := i.length
  have l2 := i'.length
  rw [Array.length_toList] at l1 l2
  rw [l1, l2]
theorem sortableK {a : Addr} {vs : List Value} {h0 : Heap} (n0 : 0 < vs.length) (hp : ∀ v ∈ vs, KTup s.heap v) (hk : ∀ v ∈ vs, TS.intsOf h0 v = TS.intsOf s.heap v) (ha : ∀ o, s.heap.get? a = some o → o.cls ≠ .type "tuple") :
    SrtO.SortableO prog w A s a vs fun v u => HT.lexLt (TS.intsOf h0 v) (TS.intsOf h0 u) := by
  intro h' keep
  have kk : ∀ v ns, TS.TupInts s.heap v ns → TS.TupInts h' v ns := fun v ns t => t.keeps fun b o e c => keep b o (fun z => by subst z; exact ha o e c) e
  have hp' : ∀ v ∈ vs, KTup h' v := fun v hm => let ⟨ns, t, ne⟩ := hp v hm; ⟨ns, kk v ns t, ne⟩
  have hk' : ∀ v ∈ vs, TS.intsOf h0 v = TS.intsOf h' v := fun v hm => by
    obtain ⟨ns, t, ne⟩ := hp v hm
    rw [hk v hm, t.ints, (kk v ns t).ints]
  obtain ⟨fs, h1, h2, h3⟩ := firstsK vs hp'
  refine ⟨tuples' true, fun Q E hq => ?_, cmpK (s := { s with heap := h' }) hp' hk'⟩
  refine PySem.W.kat_kind (T := .type "int") h1 (by omega) (fun f hm => ?_) (by rfl) ?_
  · obtain ⟨x, t, rfl⟩ := h3 f hm
    exact PySem.W.Looks.now
  · have e : (Value.type "int" != Value.type "tuple") = true := by first | decide +kernel | rfl | decide
    rw [e]
    exact hq
end
/-- the key tuples, told by their addresses -/
def rSortDT : List V → Hp → VK → Prop := fun xs H Q => ∃ (d : Addr) (kvs : List (List L2.Key × V)) (L : List (List Int)), xs = [V.ref d] ∧ Rd H d (.dT kvs) ∧ kvs.map (·.1) = L.map (fun ns => ns.map Sum.inl) ∧ (∀ ns ∈ L, ns ≠ []) ∧
  ∀ (p : Addr) (bs : List (Addr × List Int)), (bs.map (·.2)).Perm L → bs.Pairwise (fun x y => HT.lexLt y.2 x.2 = false) → (∀ b ∈ bs, H b.1 = some (.tup (b.2.map V.int))) → H p = none → Q (.ref p) (upd H p (.lst (bs.map fun b => V.ref b.1)))
theorem ints_of_tup {h : Heap} {P : Program} {w : World} {H : Hp} (hok : HOk P w H h) {b : Addr} {ns : List Int} (e : H b = some (.tup (ns.map V.int))) : TS.TupInts h (.ref b) ns := by
  obtain ⟨_, its, rv, ob, e1, e2, n, e3⟩ := hok b _ e
  exact ⟨b, its.toArray, rfl, ⟨ob, e1, e2, n, e3⟩, by simpa using rv.ints⟩
theorem kV_inl (ns : List Int) : (ns.map (Sum.inl : Int → L2.Key)).map kV = ns.map V.int := by rw [List.map_map]; rfl
theorem cr_sortedDT {X : Cx} (hc : X.calm = true) : CallR X (.builtin "sorted") rSortDT := by
  intro pins s σ H xs us Q I r h
  obtain ⟨d, kvs, L, rfl, hd, hL, hne, q⟩ := h
  obtain ⟨u, rfl, rx⟩ := r.one
  cases rx
  obtain ⟨z, hs, ks, pr, o, es, ep, ho, hx, hdt, he, hn⟩ := (show ObjOk X.prog X.w H s.heap d (.dT kvs) from hd.ok I.hok)
  have l1 : es.size = ks.length := size_of_entries he
  have l2 : kvs.length = ks.length := Paired.length pr
  refine Calls.call_function_entry PyProof.Rows.kind_sorted PyProof.Rows.plain_sorted PyProof.Rows.entry_sorted (PyProof.Rows.args_sorted1 _) ?_
  unfold Builtin.«sorted»
  refine wpAny_bind (m := checkCount "sorted" 1 1 _) (wpAny_pure ?_)
  refine wpAny_bind (PySem.W.kdu_collect (A := X.A.in1) (kdl_raw hs hx hdt) (I.ok.hd hc) ho (by omega) fun h' tk acc hk it => ?_)
  have ea : acc.toList = ks.map fun x => Value.ref x.2.1 := by
    have hl : acc.toList.length = ks.length := by rw [Array.length_toList, it.1]; exact l1
    apply List.ext_getElem?
    intro j
    rw [List.getElem?_map]
    cases hj : acc.toList[j]? with
    | none =>
      have h1 := List.getElem?_eq_none_iff.mp hj
      rw [List.getElem?_eq_none (by omega)]
      all_goals rfl
    | some v =>
      obtain ⟨en, hen, hv⟩ := it.2 j v (by rw [← Array.getElem?_toList]; exact hj)
      have qe := entry_at he j
      rw [hen] at qe
      cases hb : ks[j]? with
      | none =>
        rw [hb] at qe
        exact nomatch (show some en = none from qe)
      | some b =>
        rw [hb] at qe
        have e2 : en = entryOfKey (tupleKind (mixKind X.prog X.w)) b := Option.some.inj qe
        rw [hv, e2]
        all_goals rfl
  rw [ea]
  have I1 : Inv X pins σ H { s with heap := h', toks := tk } := I.kept hk
  -- the keys as ints
  have key : ∀ (kvs : List (List L2.Key × V)) (ks : List (List L2.Key × Addr × Value)) (L : List (List Int)), Paired (fun (p : List L2.Key × V) (q : List L2.Key × Addr × Value) => p.1 = q.1 ∧ H q.2.1 = some (.tup (p.1.map kV)) ∧ RelV p.2 q.2.2) kvs ks →
      kvs.map (·.1) = L.map (fun ns => ns.map Sum.inl) → (ks.map fun x => TS.intsOf h' (Value.ref x.2.1)) = L ∧ ∀ x ∈ ks, ∃ ns ∈ L, H x.2.1 = some (.tup (ns.map V.int)) := by
    intro kvs ks L p
    induction p generalizing L with
    | nil =>
      intro e
      cases L with
      | nil => exact ⟨rfl, fun x hx => by cases hx⟩
      | cons a b => simp at e
    | @cons a b l1 l2 h t ih =>
      intro e
      cases L with
      | nil => simp at e
      | cons ns L =>
        obtain ⟨e1, e2⟩ := List.cons.inj e
        obtain ⟨i1, i2⟩ := ih L e2
        have ht : H b.2.1 = some (.tup (ns.map V.int)) := by
          have := h.2.1
          rw [show a.1 = ns.map Sum.inl from e1, kV_inl] at this
          exact this
        refine ⟨?_, fun x hx => ?_⟩
        · rw [List.map_cons, i1, (ints_of_tup I1.hok ht).ints]
        · rcases List.mem_cons.mp hx with rfl | hx
          · exact ⟨ns, List.mem_cons_self .., ht⟩
          · obtain ⟨m, hm, q⟩ := i2 x hx
            exact ⟨m, List.mem_cons_of_mem _ hm, q⟩
  obtain ⟨k1, k2⟩ := key kvs ks L pr hL
  have hlen : (ks.map fun x => Value.ref x.2.1).length ≤ sizeLine := by rw [List.length_map]; omega
  generalize hvs : (ks.map fun x => Value.ref x.2.1) = vs at hlen
  have hv : ∀ v ∈ vs, ∃ b ns, v = Value.ref b ∧ ns ∈ L ∧ H b = some (.tup (ns.map V.int)) := by
    intro v hv
    rw [← hvs] at hv
    obtain ⟨x, hx, rfl⟩ := List.mem_map.mp hv
    obtain ⟨ns, hn, e⟩ := k2 x hx
    exact ⟨_, ns, rfl, hn, e⟩
  have kI : vs.map (TS.intsOf h') = L := by rw [← hvs, List.map_map]; exact k1
  refine wpAny_bind (wpAny_newList ?_ (by simpa using hlen))
  have hoL : (h'.push (seqObj "list" vs.toArray 0)).get? h'.objs.size = some (seqObj "list" vs.toArray 0) := Heap.get?_push_size _ rfl
  have kp : ∀ v ∈ vs, ∀ ns, TS.TupInts h' v ns → TS.TupInts (h'.push (seqObj "list" vs.toArray 0)) v ns := fun v _ ns t => t.keeps fun b o e c => Heap.get?_push_of_some _ e
  show wpAny _ _ _ _ _ { s with heap := h'.push (seqObj "list" vs.toArray 0), toks := tk }
  refine wpAny_bind (wpAny_holding (wpAny_call_entry PyProof.Rows.slot_list_sort ⟨_, hoL, rfl⟩ PyProof.Rows.entry_list_sort
    (SrtO.list_sort_ord (s := { s with heap := h'.push (seqObj "list" vs.toArray 0), toks := tk }) (NtL.swo_lexL (TS.intsOf h')) hoL hlen (fun h2 => ?_) fun out g1 g2 => ⟨_, rfl, ?_⟩) (PyProof.Rows.args_list_sort _)))
  · refine sortableK (s := { s with heap := h'.push (seqObj "list" vs.toArray 0), toks := tk }) (by omega) (fun v hm => ?_) (fun v hm => ?_) fun o e => ?_
    · obtain ⟨b, ns, rfl, hn, e⟩ := hv v hm
      exact ⟨ns, kp _ hm _ (ints_of_tup I1.hok e), hne ns hn⟩
    · obtain ⟨b, ns, rfl, hn, e⟩ := hv v hm
      rw [(ints_of_tup I1.hok e).ints, (kp _ hm _ (ints_of_tup I1.hok e)).ints]
    · have e' : some o = some (seqObj "list" vs.toArray 0) := e.symm.trans hoL
      cases e'
      intro c
      exact absurd (Value.type.inj c) (by decide)
  · obtain ⟨e', he'⟩ := PyProof.Rows.sortedHeap_at (vs := vs) (out := out.toArray) hoL
    have ho : ∀ v ∈ out, ∃ b ns, v = Value.ref b ∧ ns ∈ L ∧ H b = some (.tup (ns.map V.int)) := fun v hm => hv v (g2.perm.mem_iff.mp hm)
    have adr : ∃ bs : List (Addr × List Int), out = bs.map (fun b => Value.ref b.1) ∧ (∀ b ∈ bs, H b.1 = some (.tup (b.2.map V.int))) ∧ bs.map (·.2) = out.map (TS.intsOf h') := by
      clear g1 g2 he' e'
      induction out with
      | nil => exact ⟨[], rfl, (fun b hb => by cases hb), rfl⟩
      | cons v out ih =>
        obtain ⟨bs, r1, r2, r3⟩ := ih fun u hu => ho u (List.mem_cons_of_mem _ hu)
        obtain ⟨b, ns, rfl, _, e⟩ := ho v (List.mem_cons_self ..)
        refine ⟨(b, ns) :: bs, by rw [List.map_cons, ← r1], fun c hc => ?_, ?_⟩
        · rcases List.mem_cons.mp hc with rfl | hc
          · exact e
          · exact r2 c hc
        · rw [List.map_cons, List.map_cons, r3, (ints_of_tup I1.hok e).ints]
    obtain ⟨bs, r1, r2, r3⟩ := adr
    have hl2 : (bs.map fun b => V.ref b.1).length ≤ sizeLine := by
      have e1 := congrArg List.length r1
      have e2 := g2.perm.length_eq
      rw [List.length_map] at e1 ⊢
      omega
    have rv : Vals (bs.map fun b => V.ref b.1) out := by
      rw [r1]
      have := vals_refs (bs.map (·.1))
      rw [List.map_map, List.map_map] at this
      exact this
    refine wpAny_pure ⟨_, rfl, .ref h'.objs.size, upd H h'.objs.size (.lst (bs.map fun b => V.ref b.1)), I1.laid (t' := tk) (fun b u e => ?_) (Nat.le_refl _)
      (show ObjOk X.prog X.w _ _ _ (.lst (bs.map fun b => V.ref b.1)) from ⟨hl2, out, e', rv, he'⟩), rfl, q _ bs ?_ ?_ r2 (I1.hok.fresh (Nat.le_refl _))⟩
    · have hb : b < h'.objs.size := Heap.lt_size e
      rw [PyProof.Rows.sortedHeap_old (Nat.ne_of_lt hb) (by rw [size_push']; exact Nat.lt_succ_of_lt hb)]
      exact Heap.get?_push_of_some _ e
    · rw [r3]
      have := g2.perm.map (TS.intsOf h')
      rw [kI] at this
      exact this
    · have p1 : (out.map (TS.intsOf h')).Pairwise (fun x y => HT.lexLt y x = false) := List.pairwise_map.mpr g1
      rw [← r3] at p1
      exact List.pairwise_map.mp p1
/-! ### two tuples of ints, compared -/
def lexG (R : Int → Int → Bool) (z : Bool) : List Int → List Int → Bool
  | [], _ => z
  | _ :: _, [] => z
  | x :: xs, y :: ys => if x = y then lexG R z xs ys else R x y
theorem lexAt_shift (e r : Nat → Bool) (z : Bool) : ∀ (k i : Nat), Ob.lexAt e r z (i + 1) k = Ob.lexAt (fun j => e (j + 1)) (fun j => r (j + 1)) z i k
  | 0, _ => rfl
  | k + 1, i => by
    rw [Ob.lexAt_succ, Ob.lexAt_succ, lexAt_shift e r z k (i + 1)]
theorem lexAt_G (R : Int → Int → Bool) (z : Bool) : ∀ ns ms : List Int, Ob.lexAt (fun j => decide (ns.getD j 0 = ms.getD j 0)) (fun j => R (ns.getD j 0) (ms.getD j 0)) z 0 (min ns.length ms.length) = lexG R z ns ms
  | [], ms => by rw [List.length_nil, Nat.zero_min]; rfl
  | x :: xs, [] => by rw [List.length_nil, Nat.min_zero]; rfl
  | x :: xs, y :: ys => by
    have ih := lexAt_G R z xs ys
    rw [List.length_cons, List.length_cons, Nat.succ_min_succ, Ob.lexAt_succ, lexAt_shift]
    show (if decide (x = y) = true then Ob.lexAt (fun j => decide (xs.getD j 0 = ys.getD j 0)) (fun j => R (xs.getD j 0) (ys.getD j 0)) z 0 (min xs.length ys.length) else R x y) = if x = y then lexG R z xs ys else R x y
    rw [ih]
    by_cases e : x = y
    · rw [if_pos e, if_pos (decide_eq_true e)]
    · rw [if_neg e, if_neg (by simpa using e)]
theorem lexG_ge : ∀ ns ms : List Int, lexG (fun x y => decide (y ≤ x)) (decide (ms.length ≤ ns.length)) ns ms = !HT.lexLt ns ms
  | [], [] => rfl
  | [], y :: ys => rfl
  | x :: xs, [] => rfl
  | x :: xs, y :: ys => by
    have ih := lexG_ge xs ys
    have e0 : decide ((y :: ys).length ≤ (x :: xs).length) = decide (ys.length ≤ xs.length) := decide_eq_decide.mpr (by simp)
    rw [e0]
    show (if x = y then lexG _ _ xs ys else decide (y ≤ x)) = !(if x = y then HT.lexLt xs ys else decide (x < y))
    rw [ih]
    by_cases e : x = y
    · rw [if_pos e, if_pos e]
    · rw [if_neg e, if_neg e, ← decide_not]
      exact decide_eq_decide.mpr (by omega)
theorem lexG_le : ∀ ns ms : List Int, lexG (fun x y => decide (x ≤ y)) (decide (ns.length ≤ ms.length)) ns ms = !HT.lexLt ms ns
  | [], [] => rfl
  | [], y :: ys => rfl
  | x :: xs, [] => rfl
  | x :: xs, y :: ys => by
    have ih := lexG_le xs ys
    have e0 : decide ((x :: xs).length ≤ (y :: ys).length) = decide (xs.length ≤ ys.length) := decide_eq_decide.mpr (by simp)
    rw [e0]
    show (if x = y then lexG _ _ xs ys else decide (x ≤ y)) = !(if y = x then HT.lexLt ys xs else decide (y < x))
    rw [ih]
    by_cases e : x = y
    · rw [if_pos e, if_pos e.symm]
    · rw [if_neg e, if_neg (fun z => e z.symm), ← decide_not]
      exact decide_eq_decide.mpr (by omega)
theorem lexG_gt : ∀ ns ms : List Int, lexG (fun x y => decide (y < x)) (decide (ms.length < ns.length)) ns ms = HT.lexLt ms ns
  | [], [] => rfl
  | [], y :: ys => rfl
  | x :: xs, [] => rfl
  | x :: xs, y :: ys => by
    have ih := lexG_gt xs ys
    have e0 : decide ((y :: ys).length < (x :: xs).length) = decide (ys.length < xs.length) := decide_eq_decide.mpr (by simp)
    rw [e0]
    show (if x = y then lexG _ _ xs ys else decide (y < x)) = (if y = x then HT.lexLt ys xs else decide (y < x))
    rw [ih]
    by_cases e : x = y
    · rw [if_pos e, if_pos e.symm]
    · rw [if_neg e, if_neg (fun z => e z.symm)]
def rCmpT (K : PySem.W.Frag) (f : List Int → List Int → Bool) : R2 := fun x y H Q => ∃ (a b : Addr) (ns ms : List Int), x = .ref a ∧ y = .ref b ∧ SqT K H a (ns.map V.int) ∧ SqT K H b (ms.map V.int) ∧ Q (.bl (f ns ms)) H
theorem sz_dec {its its2 : List Value} {ns ms : List Int} (i1 : IntsAre its ns) (i2 : IntsAre its2 ms) : its.toArray.size = ns.length ∧ its2.toArray.size = ms.length := ⟨by rw [List.size_toArray]; exact i1.length, by rw [List.size_toArray]; exact i2.length⟩
theorem op_geT {X : Cx} (hu : X.A.units < cLine) : OpR X (compareOp .GtE) (rCmpT X.K (fun ns ms => !HT.lexLt ns ms)) := by
  intro pins s σ H x y v u Q I rx ry h
  obtain ⟨a, b, ns, ms, rfl, rfl, ha, hb, q⟩ := h
  cases rx
  cases ry
  obtain ⟨its, r1, p1, _⟩ := I.tuple ha
  obtain ⟨its2, r2, p2, _⟩ := I.tuple hb
  have i1 : IntsAre its ns := Vals.ints r1
  have i2 : IntsAre its2 ms := Vals.ints r2
  obtain ⟨e1, e2⟩ := sz_dec i1 i2
  have at1 : ∀ j (h1 : j < its.toArray.size), ∃ t, its.toArray[j] = .int (ns.getD j 0) t := fun j h1 => PyProof.Rows.IntsAre.int_at i1 _ _ (by simp at h1; simp [h1])
  have at2 : ∀ j (h1 : j < its2.toArray.size), ∃ t, its2.toArray[j] = .int (ms.getD j 0) t := fun j h1 => PyProof.Rows.IntsAre.int_at i2 _ _ (by simp at h1; simp [h1])
  have R := Ob.RcOp.tuples_ge (A := X.A) (s := s) (e := fun j => decide (ns.getD j 0 = ms.getD j 0)) (r := fun j => decide (ms.getD j 0 ≤ ns.getD j 0)) p1 p2 hu (fun j h1 h2 => by
    obtain ⟨t, et⟩ := at1 j h1
    obtain ⟨t', et'⟩ := at2 j h2
    rw [et, et']
    have z : (ns.getD j 0 == ms.getD j 0) = decide (ns.getD j 0 = ms.getD j 0) := by
      by_cases q : ns.getD j 0 = ms.getD j 0
      · rw [decide_eq_true q]; exact beq_iff_eq.mpr q
      · rw [decide_eq_false q]; exact beq_eq_false_iff_ne.mpr q
    rw [← z]
    exact SeqAt.EqAt.int_int _ _ _ _) (fun j h1 h2 _ => by
    obtain ⟨t, et⟩ := at1 j h1
    obtain ⟨t', et'⟩ := at2 j h2
    rw [et, et']
    exact Ob.RcOp.ge_int _ _ _ _)
  rw [e1, e2] at R
  have g : Ob.lexAt (fun j => decide (ns.getD j 0 = ms.getD j 0)) (fun j => decide (ms.getD j 0 ≤ ns.getD j 0)) (decide (ms.length ≤ ns.length)) 0 (min ns.length ms.length) = (fun ns ms => !HT.lexLt ns ms) ns ms := (lexAt_G (fun x y => decide (y ≤ x)) (decide (ms.length ≤ ns.length)) ns ms).trans (lexG_ge ns ms)
  have q' : Q (.bl (Ob.lexAt (fun j => decide (ns.getD j 0 = ms.getD j 0)) (fun j => decide (ms.getD j 0 ≤ ns.getD j 0)) (decide (ms.length ≤ ns.length)) 0 (min ns.length ms.length))) H := by rw [g]; exact q
  exact R X.prog X.w X.xe (EP X pins σ Q) ⟨.bl _, H, I, rfl, q'⟩
theorem op_leXT {X : Cx} (hu : X.A.units < cLine) : OpR X (compareOp .LtE) (rCmpT X.K (fun ns ms => !HT.lexLt ms ns)) := by
  intro pins s σ H x y v u Q I rx ry h
  obtain ⟨a, b, ns, ms, rfl, rfl, ha, hb, q⟩ := h
  cases rx
  cases ry
  obtain ⟨its, r1, p1, _⟩ := I.tuple ha
  obtain ⟨its2, r2, p2, _⟩ := I.tuple hb
  have i1 : IntsAre its ns := Vals.ints r1
  have i2 : IntsAre its2 ms := Vals.ints r2
  obtain ⟨e1, e2⟩ := sz_dec i1 i2
  have at1 : ∀ j (h1 : j < its.toArray.size), ∃ t, its.toArray[j] = .int (ns.getD j 0) t := fun j h1 => PyProof.Rows.IntsAre.int_at i1 _ _ (by simp at h1; simp [h1])
  have at2 : ∀ j (h1 : j < its2.toArray.size), ∃ t, its2.toArray[j] = .int (ms.getD j 0) t := fun j h1 => PyProof.Rows.IntsAre.int_at i2 _ _ (by simp at h1; simp [h1])
  have R := Ob.RcOp.tuples_le (A := X.A) (s := s) (e := fun j => decide (ns.getD j 0 = ms.getD j 0)) (r := fun j => decide (ns.getD j 0 ≤ ms.getD j 0)) p1 p2 hu (fun j h1 h2 => by
    obtain ⟨t, et⟩ := at1 j h1
    obtain ⟨t', et'⟩ := at2 j h2
    rw [et, et']
    have z : (ns.getD j 0 == ms.getD j 0) = decide (ns.getD j 0 = ms.getD j 0) := by
      by_cases q : ns.getD j 0 = ms.getD j 0
      · rw [decide_eq_true q]; exact beq_iff_eq.mpr q
      · rw [decide_eq_false q]; exact beq_eq_false_iff_ne.mpr q
    rw [← z]
    exact SeqAt.EqAt.int_int _ _ _ _) (fun j h1 h2 _ => by
    obtain ⟨t, et⟩ := at1 j h1
    obtain ⟨t', et'⟩ := at2 j h2
    rw [et, et']
    exact Ob.RcOp.le_int _ _ _ _)
  rw [e1, e2] at R
  have g : Ob.lexAt (fun j => decide (ns.getD j 0 = ms.getD j 0)) (fun j => decide (ns.getD j 0 ≤ ms.getD j 0)) (decide (ns.length ≤ ms.length)) 0 (min ns.length ms.length) = (fun ns ms => !HT.lexLt ms ns) ns ms := (lexAt_G (fun x y => decide (x ≤ y)) (decide (ns.length ≤ ms.length)) ns ms).trans (lexG_le ns ms)
  have q' : Q (.bl (Ob.lexAt (fun j => decide (ns.getD j 0 = ms.getD j 0)) (fun j => decide (ns.getD j 0 ≤ ms.getD j 0)) (decide (ns.length ≤ ms.length)) 0 (min ns.length ms.length))) H := by rw [g]; exact q
  exact R X.prog X.w X.xe (EP X pins σ Q) ⟨.bl _, H, I, rfl, q'⟩
theorem op_gtT {X : Cx} (hu : X.A.units < cLine) : OpR X (compareOp .Gt) (rCmpT X.K (fun ns ms => HT.lexLt ms ns)) := by
  intro pins s σ H x y v u Q I rx ry h
  obtain ⟨a, b, ns, ms, rfl, rfl, ha, hb, q⟩ := h
  cases rx
  cases ry
  obtain ⟨its, r1, p1, _⟩ := I.tuple ha
  obtain ⟨its2, r2, p2, _⟩ := I.tuple hb
  have i1 : IntsAre its ns := Vals.ints r1
  have i2 : IntsAre its2 ms := Vals.ints r2
  obtain ⟨e1, e2⟩ := sz_dec i1 i2
  have at1 : ∀ j (h1 : j < its.toArray.size), ∃ t, its.toArray[j] = .int (ns.getD j 0) t := fun j h1 => PyProof.Rows.IntsAre.int_at i1 _ _ (by simp at h1; simp [h1])
  have at2 : ∀ j (h1 : j < its2.toArray.size), ∃ t, its2.toArray[j] = .int (ms.getD j 0) t := fun j h1 => PyProof.Rows.IntsAre.int_at i2 _ _ (by simp at h1; simp [h1])
  have R := Ob.RcOp.tuples_gt (A := X.A) (s := s) (e := fun j => decide (ns.getD j 0 = ms.getD j 0)) (r := fun j => decide (ms.getD j 0 < ns.getD j 0)) p1 p2 hu (fun j h1 h2 => by
    obtain ⟨t, et⟩ := at1 j h1
    obtain ⟨t', et'⟩ := at2 j h2
    rw [et, et']
    have z : (ns.getD j 0 == ms.getD j 0) = decide (ns.getD j 0 = ms.getD j 0) := by
      by_cases q : ns.getD j 0 = ms.getD j 0
      · rw [decide_eq_true q]; exact beq_iff_eq.mpr q
      · rw [decide_eq_false q]; exact beq_eq_false_iff_ne.mpr q
    rw [← z]
    exact SeqAt.EqAt.int_int _ _ _ _) (fun j h1 h2 _ => by
    obtain ⟨t, et⟩ := at1 j h1
    obtain ⟨t', et'⟩ := at2 j h2
    rw [et, et']
    exact Ob.RcOp.gt_int _ _ _ _)
  rw [e1, e2] at R
  have g : Ob.lexAt (fun j => decide (ns.getD j 0 = ms.getD j 0)) (fun j => decide (ms.getD j 0 < ns.getD j 0)) (decide (ms.length < ns.length)) 0 (min ns.length ms.length) = (fun ns ms => HT.lexLt ms ns) ns ms := (lexAt_G (fun x y => decide (y < x)) (decide (ms.length < ns.length)) ns ms).trans (lexG_gt ns ms)
  have q' : Q (.bl (Ob.lexAt (fun j => decide (ns.getD j 0 = ms.getD j 0)) (fun j => decide (ms.getD j 0 < ns.getD j 0)) (decide (ms.length < ns.length)) 0 (min ns.length ms.length))) H := by rw [g]; exact q
  exact R X.prog X.w X.xe (EP X pins σ Q) ⟨.bl _, H, I, rfl, q'⟩
end Mp
namespace Mp
open PySem PySem.Spec PyProof.Rows L2
/-! ### max of a list of ints, with default= -/
section
variable {prog : Program} {w : World} {A : Around} {E : Value → Shared → Prop} {s : Shared}
theorem max_dflt {l : Addr} {its : List Value} {ns : List Int} {d : Value} {Q : Value → Shared → Prop} (hh : A.handled = none) (hl : s.heap.IsList l its.toArray) (hi : IntsAre its ns)
    (h0 : ns = [] → ∀ h' tk, (∀ b o, s.heap.get? b = some o → h'.get? b = some o) → Q d { s with heap := h', toks := tk })
    (h1 : ∀ h' tk M t', (∀ b o, s.heap.get? b = some o → h'.get? b = some o) → M ∈ ns → (∀ a, a ∈ ns → a ≤ M) → Q (.int M t') { s with heap := h', toks := tk }) :
    wpAny (model prog w) A (call (.builtin "max") [.ref l] [(Str.ofString "default", d)]) Q E s := by
  obtain ⟨xs, e⟩ := hi.allInts.items
  have hn : numsOf (intItems xs).toList = ns := by rw [← e]; exact hi.numsOf
  rw [nums_intItems] at hn
  subst hn
  rw [e] at hl
  have hsz : (intItems xs).size = xs.size := by simp [intItems]
  refine call_max_walkD (PySem.W.iter_listW (A := A.in1) hh hl fun s₂ e W st hfp hw hk => ?_)
  refine ⟨_, _, _, _, _, _, _, s.heap, (fun i j => decide (numAt xs i > numAt xs j)), rfl, W, st, hfp, hw, hk, fun hz s' m => ?_, fun hp => ⟨?_, fun v s' hP m => ?_⟩⟩
  · obtain ⟨h', tk, rfl, hk'⟩ := PySem.W.moved_old e rfl m
    refine h0 ?_ h' tk hk'
    rw [hsz] at hz
    have : xs.toList = [] := List.eq_nil_of_length_eq_zero (by rw [Array.length_toList]; exact hz)
    rw [this]; rfl
  · intro i j vi vj s' Q E _ hvi hvj hq
    obtain ⟨t, rfl⟩ := intItems_at hvi
    obtain ⟨t', rfl⟩ := intItems_at hvj
    exact PyProof.Rows.gt_int hq
  · obtain ⟨h', tk, rfl, hk'⟩ := PySem.W.moved_old e rfl m
    obtain ⟨t, rfl⟩ := intItems_at hP
    obtain ⟨k1, k2⟩ := argBest_gt (numAt xs) (xs.size - 1)
    rw [hsz] at hp ⊢
    refine h1 h' tk _ t hk' ?_ fun a ha => ?_
    · rw [numAt_eq]; exact PySem.getD_mem (by rw [List.length_map, Array.length_toList]; omega)
    · obtain ⟨j, hj, rfl⟩ := mem_getD ha
      rw [List.length_map, Array.length_toList] at hj
      rw [← numAt_eq]; exact k2 j (by omega)
end
def rMaxDf (K : PySem.W.Frag) : List V → List V → Hp → VK → Prop := fun xs zs H Q => ∃ (a : Addr) (ns : List Int) (d : V), xs = [V.ref a] ∧ zs = [d] ∧ SqL K H a (ns.map V.int) ∧ (ns = [] → Q d H) ∧ ∀ m, m ∈ ns → (∀ y, y ∈ ns → y ≤ m) → Q (.int m) H
theorem crk_max {X : Cx} (hc : X.calm = true) : CallRK X (.builtin "max") ["default"] (rMaxDf X.K) := by
  intro pins s σ H xs zs us ws Q I r1 r2 h
  obtain ⟨a, ns, d, rfl, rfl, hs, q0, q1⟩ := h
  obtain ⟨its, rv, hl, _⟩ := I.list hs
  rw [Vals.ref1 r1]
  obtain ⟨dv, rfl, rd⟩ := vals1 r2
  exact max_dflt (I.ok.hd hc) hl.isList rv.ints (fun e h' tk hk => ⟨d, H, I.kept hk, rd, q0 e⟩) fun h' tk m t' hk k1 k2 => ⟨.int _, H, I.kept hk, ⟨_, rfl⟩, q1 m k1 k2⟩
/-! ### a tuple once -/
theorem tuple_mul1 (l : Addr) (items : Array Value) (n : Nat) (sl : Array (Option Value)) (dd : Option Addr) (u : Tok) :
    Meets (Builtin.«tuple.__mul__» ⟨[.ref l, .int 1 u], []⟩) (fun _ R s => s.heap.get? l = some { cls := .type "tuple", dict := dd, data := .seq items n, slots := sl } ∧ R (.ok (.ret (Value.ref l))) s) :=
  .of_wp fun prog w A R s h => by
    obtain ⟨hp, g, d, tk, os⟩ := s
    obtain ⟨hl, h⟩ := h
    have f1 := AutoSeq1.idx_int
    wp_walk using wpAny_loadPart' hl
    exact ⟨_, rfl, h⟩
theorem tuple_mul0 (l : Addr) (items : Array Value) (n : Nat) (sl : Array (Option Value)) (dd : Option Addr) (x : Int) (u : Tok) (hx : x ≤ 0) (hy : -(2 ^ 63) ≤ x) (hi : items.isEmpty = false) :
    Meets (Builtin.«tuple.__mul__» ⟨[.ref l, .int x u], []⟩) (fun _ R s => s.heap.get? l = some { cls := .type "tuple", dict := dd, data := .seq items n, slots := sl } ∧
      R (.ok (.ret (Value.ref s.heap.objs.size))) { s with heap := s.heap.push { cls := Value.type "tuple", data := Data.seq #[] }, toks := s.toks }) :=
  .of_wp fun prog w A R s h => by
    obtain ⟨hp, g, d, tk, os⟩ := s
    obtain ⟨hl, h⟩ := h
    have f1 := AutoSeq1.idx_int
    have c0 : (decide (x < -(2 ^ 63)) || decide (x ≥ 2 ^ 63)) = false := by
      rw [decide_eq_false (by omega), decide_eq_false (by omega)] <;> rfl
    have c1 : (items.isEmpty || x == 1) = false := by
      rw [hi, Bool.false_or]
      exact beq_eq_false_iff_ne.mpr (by omega)
    have c2 : (decide (x ≤ 0) || items.isEmpty) = true := by
      rw [decide_eq_true hx] <;> rfl
    wp_walk using wpAny_loadPart' hl
    repeat (first
      | (refine wpAny_ite_false (decide_eq_false (by rw [c0]; exact Bool.false_ne_true)) ?_; wp_walk using wpAny_loadPart' hl)
      | (refine wpAny_ite_false (decide_eq_false (by rw [c1]; exact Bool.false_ne_true)) ?_; wp_walk using wpAny_loadPart' hl)
      | (refine wpAny_ite_true (decide_eq_true c2) ?_; wp_walk using wpAny_loadPart' hl))
    exact ⟨_, rfl, h⟩
def rRep1 (K : PySem.W.Frag) : R2 := fun x y H Q => ∃ l xs, x = .ref l ∧ y = .int 1 ∧ SqT K H l xs ∧ Q (.ref l) H
theorem op_rep1 {X : Cx} : OpR X (binaryOp .Mult) (rRep1 X.K) := by
  intro pins s σ H x y v u Q I rx ry h
  obtain ⟨l, xs, rfl, rfl, hT, q⟩ := h
  cases rx
  obtain ⟨t, rfl⟩ := ry
  obtain ⟨its, r, ⟨⟨cls, dd, data, sl⟩, ho, hc, n, hd⟩, hs⟩ := I.tuple hT
  simp only at hc hd
  subst hc hd
  refine wpAny_binaryOp_repeat_ref (T := "tuple") (U := "int") (by decide) ⟨_, ho, rfl⟩ (fun s' => typeIs_int s' 1 t) noFill_tuple_mul F.fills_int_mul F.slot_int_rmul repeat_tuple F.slot_int_index.lookup
    (call_meets F.slot_int_rmul (typeIs_int s 1 t) F.entry_int_rmul (F.args_int_rmul_2 _ _) (int_rmul_tuple 1 t l its.toArray n dd sl)
      ⟨ho, rfl, ⟨_, ho, rfl⟩, call_meets F.slot_tuple_mul ⟨_, ho, rfl⟩ F.entry_tuple_mul (F.args_tuple_mul_2 _ _) (tuple_mul1 l its.toArray n sl dd t) ⟨ho, ?_⟩⟩)
  exact ⟨.ref l, H, I, rfl, q⟩
end Mp
/-! Mp1: a small language over plain values: what an expression, a statement gives. -/
namespace Mp
open PySem
inductive D where
  | non | bl (b : Bool) | int (i : Int) | str (x : Str) | tup (ds : List D) | wtup (ds : List D) | loc (n : Nat) | exc (c : Str) | scr (ns : List Int)
inductive Ob where
  | lst (ds : List D)
  | dK (kvs : List (L2.Key × D))
  | dT (kvs : List (List L2.Key × D))
  | lk (o : Ob)
abbrev Sto := List Ob
inductive Ret (α : Type) where
  | ok (a : α) (S : Sto) | exc (c : Str) (S : Sto) | bad
abbrev M (α : Type) := Sto → Ret α
def mp {α : Type} (a : α) : M α := fun S => .ok a S
def mbad {α : Type} : M α := fun _ => .bad
def Ret.bind {α β : Type} (x : Ret α) (f : α → M β) : Ret β := match x with
  | .ok a S => f a S
  | .exc c S => .exc c S
  | .bad => .bad
def mb {α β : Type} (x : M α) (f : α → M β) : M β := fun S => (x S).bind f
theorem mb_ok {α β : Type} {x : M α} {f : α → M β} {S S' : Sto} {a : α} (h : x S = .ok a S') : mb x f S = f a S' := by
  unfold mb; rw [h]; rfl
theorem mb_exc {α β : Type} {x : M α} {f : α → M β} {S S' : Sto} {c : Str} (h : x S = .exc c S') : mb x f S = .exc c S' := by
  unfold mb; rw [h]; rfl
@[simp] theorem mb_mp {α β : Type} {a : α} {f : α → M β} : mb (mp a) f = f a := rfl
theorem mp_ap {α : Type} {a : α} {S : Sto} : mp a S = .ok a S := rfl
theorem mb_ap {α β : Type} {x : M α} {f : α → M β} {S : Sto} : mb x f S = (x S).bind f := rfl
@[simp] theorem bind_ok {α β : Type} {a : α} {f : α → M β} {S : Sto} : (Ret.ok a S).bind f = f a S := rfl
@[simp] theorem bind_exc {α β : Type} {c : Str} {f : α → M β} {S : Sto} : (Ret.exc c S : Ret α).bind f = .exc c S := rfl
@[simp] theorem bind_bad {α β : Type} {f : α → M β} : (Ret.bad : Ret α).bind f = .bad := rfl
theorem mb_mb {α β γ : Type} {x : M α} {f : α → M β} {g : β → M γ} : mb (mb x f) g = mb x fun a => mb (f a) g := by
  funext S
  simp only [mb]
  cases x S <;> rfl
def alloc (o : Ob) : M D := fun S => .ok (.loc S.length) (S ++ [o])
abbrev Env := List (Option D)
/-- guard -/
def chk {α : Type} (c : Bool) (x : M α) : M α := if c then x else mbad
def rdOb : Ob → Ob
  | .lk o => o
  | o => o
def sz : Nat := PySem.sizeLine
/-! ### data -/
def D.py (S : Sto) : Nat → D → Option PyData
  | _, .non => some .none
  | _, .bl b => some (.bool b)
  | _, .int i => some (.int i)
  | _, .str x => some (.str x)
  | n + 1, .tup ds => (ds.mapM (D.py S n)).map .tuple
  | n + 1, .wtup ds => (ds.mapM (D.py S n)).map .tuple
  | n + 1, .loc k => match (S[k]?).map rdOb with
    | some (.lst ds) => (ds.mapM (D.py S n)).map .list
    | _ => none
  | _, _ => none
def key1 : D → Option L2.Key
  | .int i => some (.inl i)
  | .str x => some (.inr x)
  | _ => none
def keyT : D → Option (List L2.Key)
  | .tup ds => ds.mapM key1
  | _ => none
def unkey1 : L2.Key → D
  | .inl i => .int i
  | .inr x => .str x
def unkeyT (ks : List L2.Key) : D := .tup (ks.map unkey1)
def getK {κ : Type} [DecidableEq κ] (kvs : List (κ × D)) (k : κ) : Option D := (kvs.find? fun p => decide (p.1 = k)).map (·.2)
def setK {κ : Type} [DecidableEq κ] (kvs : List (κ × D)) (k : κ) (v : D) : List (κ × D) :=
  if (kvs.any fun kv => decide (kv.1 = k)) = true then kvs.map (fun kv => if kv.1 = k then (kv.1, v) else kv) else kvs ++ [(k, v)]
def delK {κ : Type} [DecidableEq κ] (kvs : List (κ × D)) (k : κ) : List (κ × D) := kvs.filter fun kv => decide (kv.1 ≠ k)
/-- an item's place -/
def at? (n : Nat) (i : Int) : Option Nat := L2.ixN n i
def cut {α : Type} (xs : List α) (lo hi : Option Int) : List α := (xs.drop (HT.sIx xs.length 0 lo)).take (HT.sIx xs.length xs.length hi - HT.sIx xs.length 0 lo)
/-! ### operations -/
inductive Bop where | add | sub | mul | fdv | mod | pow
inductive Cop where | eq | ne | lt | le | gt | ge | is | isnot
open Classical in
noncomputable def mulI (i j : Int) : M D := if L2.CMulX i j then mp (.int (i * j)) else mbad
noncomputable def binF : Bop → D → D → M D
  | .add, .int i, .int j => mp (.int (i + j))
  | .add, .str x, .str y => chk (decide (x.length + y.length ≤ sz)) (mp (.str (x ++ y)))
  | .add, .tup xs, .tup ys => chk (decide (xs.length + ys.length ≤ sz)) (mp (.tup (xs ++ ys)))
  | .add, .tup xs, .wtup ys => chk (decide (xs.length + ys.length ≤ sz)) (mp (.wtup (xs ++ ys)))
  | .add, .wtup xs, .tup ys => chk (decide (xs.length + ys.length ≤ sz)) (mp (.wtup (xs ++ ys)))
  | .add, .wtup xs, .wtup ys => chk (decide (xs.length + ys.length ≤ sz)) (mp (.wtup (xs ++ ys)))
  | .add, .loc a, .loc b => fun S => match S[a]?, S[b]? with
    | some (.lst xs), some (.lst ys) => chk (decide (xs.length + ys.length ≤ sz)) (alloc (.lst (xs ++ ys))) S
    | _, _ => .bad
  | .sub, .int i, .int j => mp (.int (i - j))
  | .mul, .int i, .int j => mulI i j
  | .mul, .loc a, .int k => fun S => match S[a]? with
    | some (.lst xs) => chk (decide (-(2 ^ 63) ≤ k ∧ k < 2 ^ 63 ∧ xs.length * k.toNat ≤ sz)) (alloc (.lst (List.replicate k.toNat xs).flatten)) S
    | _ => .bad
  | .mul, .tup xs, .int k => if k = 1 then mp (.tup xs) else chk (decide (2 ≤ k ∧ k ≤ 1000 ∧ xs.length ≤ 1000) && !xs.isEmpty) (mp (.tup (List.replicate k.toNat xs).flatten))
  | .fdv, .int i, .int j => chk (decide (j ≠ 0) && !PySem.Builtin.divisionGoesByPylong i j) (mp (.int (i.fdiv j)))
  | .mod, .int i, .int j => chk (decide (j ≠ 0)) (mp (.int (i.fmod j)))
  | .pow, .int i, .int j => chk (decide (0 ≤ j ∧ (PySem.Builtin.Int.intBits i : Int) * j ≤ 2 ^ 27)) (mp (.int (i ^ j.toNat)))
  | _, _, _ => mbad
def eqF (x y : D) : M Bool := fun S => match D.py S 12 x, D.py S 12 y with
  | some d, some e => if SeqAt.shaped d && SeqAt.shaped e then .ok (PyData.eqv d e) S else .bad
  | _, _ => .bad
def dInts : List D → Option (List Int)
  | [] => some []
  | .int i :: r => (dInts r).map (i :: ·)
  | _ :: _ => none
def dBools : List D → Option (List Bool)
  | [] => some []
  | .bl i :: r => (dBools r).map (i :: ·)
  | _ :: _ => none
/-- a tuple's items -/
def tp? : D → Option (List D)
  | .tup ds => some ds
  | .wtup ds => some ds
  | _ => none
def ltF : D → D → M Bool
  | .int i, .int j => mp (decide (i < j))
  | x, y => match (tp? x).bind dInts, (tp? y).bind dInts with
    | some a, some b => mp (HT.lexLt a b)
    | _, _ => mbad
def inF : D → D → M Bool
  | x, .loc n => fun S => match (S[n]?).map rdOb with
    | some (.dT kvs) => match keyT x with
      | some k => .ok (getK kvs k).isSome S
      | none => .bad
    | some (.dK kvs) => match key1 x with
      | some k => .ok (getK kvs k).isSome S
      | none => .bad
    | _ => .bad
  | _, _ => mbad
def isNone : D → Bool
  | .non => true
  | _ => false
def cmpF : Cop → D → D → M D
  | .eq, x, y => mb (eqF x y) fun b => mp (.bl b)
  | .ne, x, y => mb (eqF x y) fun b => mp (.bl (!b))
  | .lt, x, y => mb (ltF x y) fun b => mp (.bl b)
  | .gt, .int i, .int j => mp (.bl (decide (j < i)))
  | .gt, x, y => mb (ltF y x) fun b => mp (.bl b)
  | .le, .int i, .int j => mp (.bl (decide (i ≤ j)))
  | .le, x, y => mb (ltF y x) fun b => mp (.bl (!b))
  | .ge, .int i, .int j => mp (.bl (decide (j ≤ i)))
  | .ge, x, y => mb (ltF x y) fun b => mp (.bl (!b))
  | .is, x, .non => mp (.bl (isNone x))
  | .isnot, x, .non => mp (.bl (!isNone x))
  | _, _, _ => mbad
def truthy : D → M Bool
  | .non => mp false
  | .bl b => mp b
  | .int i => mp (i != 0)
  | .tup ds => mp (!ds.isEmpty)
  | .wtup ds => mp (!ds.isEmpty)
  | .loc n => fun S => match (S[n]?).map rdOb with
    | some (.lst ds) => .ok (!ds.isEmpty) S
    | _ => .bad
  | _ => mbad
def nth (xs : List D) (i : Int) : M D := match L2.atI xs i with
  | some d => mp d
  | none => mbad
def ixF : D → D → M D
  | .tup ds, .int i => nth ds i
  | .wtup ds, .int i => nth ds i
  | .str x, .int i => chk (decide (x.length ≤ sz)) (match L2.atI x.cps.toList i with
    | some c => mp (.str ⟨#[c]⟩)
    | none => mbad)
  | .loc n, d => fun S => match (S[n]?).map rdOb, d with
    | some (.lst ds), .int i => nth ds i S
    | some (.dT kvs), d => match (keyT d).bind (getK kvs) with
      | some v => .ok v S
      | none => .bad
    | some (.dK kvs), d => match (key1 d).bind (getK kvs) with
      | some v => .ok v S
      | none => .bad
    | _, _ => .bad
  | _, _ => mbad
def slF (d : D) (lo hi : Option Int) : M D := match d with
  | .tup ds => mp (.tup (cut ds lo hi))
  | .wtup ds => mp (.wtup (cut ds lo hi))
  | .scr ns => alloc (.lst (cut (ns.map D.int) lo hi))
  | .loc n => fun S => match (S[n]?).map rdOb with
    | some (.lst ds) => alloc (.lst (cut ds lo hi)) S
    | _ => .bad
  | _ => mbad
def revF : D → M D
  | .tup ds => mp (.tup ds.reverse)
  | .wtup ds => mp (.tup ds.reverse)
  | .loc n => fun S => match (S[n]?).map rdOb with
    | some (.lst ds) => alloc (.lst ds.reverse) S
    | _ => .bad
  | _ => mbad
/-- list, tuple: the items -/
def itemsOf : D → M (List D)
  | .tup ds => mp ds
  | .wtup ds => mp ds
  | .loc n => fun S => match (S[n]?).map rdOb with
    | some (.lst ds) => .ok ds S
    | _ => .bad
  | _ => mbad
inductive Bi where | len | abs | int | str | tuple | list | sum | max | min | all | any | sorted
inductive Ty5 where | tup | int | bool | str | list
def Ty5.nm : Ty5 → String
  | .tup => "tuple" | .int => "int" | .bool => "bool" | .str => "str" | .list => "list"
def tyName (S : Sto) : D → Option String
  | .non => some "NoneType"
  | .bl _ => some "bool"
  | .int _ => some "int"
  | .str _ => some "str"
  | .tup _ => some "tuple"
  | .wtup _ => some "tuple"
  | .loc n => match S[n]? with
    | some (.lst _) => some "list"
    | some (.lk (.lst _)) => some "list"
    | some (.dK _) => some "dict"
    | some (.dT _) => some "dict"
    | _ => none
  | .exc _ => none
  | .scr _ => none
def isF (T : String) (d : D) : M D := fun S => match tyName S d with
  | some t => .ok (.bl (t == T || (T == "int" && t == "bool"))) S
  | none => .bad
/-- the program's own classes of error: all of one base -/
def subE (c d : Str) : Bool := decide (d = ("ValueError" : Str)) || decide (d = ("LowwaterError" : Str)) || decide (c = d)
def exnAll : List Str := ["LowwaterError", "NoRow", "NoQuotient", "TooGreat", "NoText", "NotSecond", "NotStraight", "TooMany", "NoLine"]
def isxF (l : List Str) : D → M D
  | .exc c => chk (decide (c ∈ exnAll)) (mp (.bl (l.any (subE c))))
  | _ => mbad
/-- keys that are tuples of ints, none empty -/
def keyIs : List L2.Key → Option (List Int)
  | [] => some []
  | .inl i :: r => (keyIs r).map (i :: ·)
  | .inr _ :: _ => none
def keysI : List (List L2.Key) → Option (List (List Int))
  | [] => some []
  | k :: r => if k.isEmpty then none else (keyIs k).bind fun ns => (keysI r).map (ns :: ·)
def insL (x : List Int) : List (List Int) → List (List Int)
  | [] => [x]
  | y :: ys => if HT.lexLt y x then y :: insL x ys else x :: y :: ys
/-- the same, ascending -/
def srtL (l : List (List Int)) : List (List Int) := l.foldr insL []
def tupI (ns : List Int) : D := .tup (ns.map D.int)
def maxL (n : Int) (ns : List Int) : Int := ns.foldl (fun a b => if a < b then b else a) n
def minL (n : Int) (ns : List Int) : Int := ns.foldl (fun a b => if b < a then b else a) n
def biF : Bi → List D → M D
  | .len, [d] => match d with
    | .str x => chk (decide (x.length ≤ sz)) (mp (.int x.length))
    | d => mb (itemsOf d) fun ds => mp (.int ds.length)
  | .abs, [.int i] => mp (.int (if i < 0 then -i else i))
  | .int, [.int i] => mp (.int i)
  | .int, [.bl b] => mp (.int (if b then 1 else 0))
  | .str, [.int i] => chk (decide (i.natAbs.log2 < 1920)) (mp (.str (toString i)))
  | .tuple, [.wtup ds] => mp (.wtup ds)
  | .tuple, [d] => mb (itemsOf d) fun ds => mp (.tup ds)
  | .list, [d] => mb (itemsOf d) fun ds => alloc (.lst ds)
  | .sum, [d] => mb (itemsOf d) fun ds => match dInts ds with
    | some ns => mp (.int ns.sum)
    | none => mbad
  | .all, [.loc n] => fun S => match (S[n]?).map rdOb with
    | some (.lst ds) => match dBools ds with
      | some bs => .ok (.bl (bs.all id)) S
      | none => .bad
    | _ => .bad
  | .sorted, [.loc n] => fun S => match (S[n]?).map rdOb with
    | some (.dT kvs) => match keysI (kvs.map (·.1)) with
      | some L => alloc (.lst ((srtL L).map tupI)) S
      | none => .bad
    | _ => .bad
  | .max, [.int i, .int j] => mp (.int (if j > i then j else i))
  | .max, [.loc n] => fun S => match (S[n]?).map rdOb with
    | some (.lst ds) => match dInts ds with
      | some (x :: r) => .ok (.int (maxL x r)) S
      | _ => .bad
    | _ => .bad
  | .min, [.int i, .int j] => mp (.int (if j < i then j else i))
  | .min, [.loc n] => fun S => match (S[n]?).map rdOb with
    | some (.lst ds) => match dInts ds with
      | some (x :: r) => .ok (.int (minL x r)) S
      | _ => .bad
    | _ => .bad
  | _, _ => mbad
/-! ### the terms -/
inductive Ie where
  | var (i : Nat) | con (d : D) | glob (x : Str)
  | tup (a : Ie) | lst (a : Ie) | newK | newT
  | bin (op : Bop) (a b : Ie) | cmp (op : Cop) (a b : Ie) | chn (op op' : Cop) (a b c : Ie)
  | andV (a b : Ie) | orV (a b : Ie) | notV (a : Ie) | ife (t a b : Ie) | neg (a : Ie)
  | ix (a b : Ie) | sl (a lo hi : Ie) | rev (a : Ie)
  | call (f : Str) (a : Ie) | bi (f : Bi) (a : Ie) | isi (T : Ty5) (a : Ie)
  | isx (l : List Str) (a : Ie) | isin (neg : Bool) (a b : Ie) | app (a b : Ie) | get2 (d k x : Ie) | popK (d k : Ie)
  | comp (own : List (Str × Nat)) (it : Ie) (tg : List Nat) (t e : Ie) | compD (own : List (Str × Nat)) (i : Nat) (tg : List Nat) (t e : Ie) | maxd (a d : Ie)
  | itv (a : Ie) | itr (a : Ie) | itz (a b : Ie)
  | yes | no | nil | cons (a b : Ie)
/-- a target: one name, or a tuple of names -/
inductive Tg where
  | nm (i : Nat) | tp (l : List Nat)
inductive Is where
  | nil | cons (a b : Is)
  | pass | asg (i : Nat) (e : Ie) | par (i j : Nat) (a b : Ie) | unp (l : List Nat) (e : Ie)
  | sub (o i e : Ie) | ex (e : Ie) | ifs (t : Ie) (a b : Is) | for_ (g : Tg) (it : Ie) (b : Is) | forD (g : Tg) (i : Nat) (b : Is) | whl (t : Ie) (b : Is)
  | ret (e : Ie) | retN | rse (c : Str) (e : Ie) | tri (c : Str) (i j : Nat) (t : Option Nat) (f : Str) (a : Ie)
/-- what the module's names are: defs, constants -/
structure Gt where
  fn : Str → List D → M D
  con : Str → Option D
  sub : Str → Str → Bool
def wipeD (δ : Env) : List Nat → Env
  | [] => δ
  | v :: vs => (wipeD δ vs).set v none
abbrev Chk := List (Nat × Ob)
open Classical in
noncomputable def okC (c : Chk) (S : Sto) : Bool := decide (∀ p ∈ c, S[p.1]? = some p.2)
def setAll : List Nat → List D → Env → Option Env
  | [], [], δ => some δ
  | i :: is, d :: ds, δ => setAll is ds (δ.set i (some d))
  | _, _, _ => none
def Tg.put : Tg → D → Env → Option Env
  | .nm i, d, δ => some (δ.set i (some d))
  | .tp l, .tup ds, δ => if l.length = ds.length then setAll l ds δ else none
  | .tp l, .wtup ds, δ => if l.length = ds.length then setAll l ds δ else none
  | _, _, _ => none
/-- the items of a walk, with what must stay -/
def iterF (d : D) : M (List D × Chk) := match d with
  | .tup ds => mp (ds, [])
  | .wtup ds => mp (ds, [])
  | .loc n => fun S => match S[n]? with
    | some o => match rdOb o with
      | .lst ds => .ok (ds, [(n, o)]) S
      | _ => .bad
    | none => .bad
  | _ => mbad
def smallI (i : Int) : Bool := decide (-(2 ^ 62) ≤ i ∧ i < 2 ^ 62)
def rngF : List D → M (List D × Chk)
  | [.int n] => chk (smallI n) (mp ((List.range n.toNat).map fun (k : Nat) => D.int (0 + (k : Int)), []))
  | [.int a, .int n] => chk (smallI a && smallI n) (mp ((List.range (n - a).toNat).map fun (k : Nat) => D.int (a + (k : Int)), []))
  | _ => mbad
/-- a comprehension's turns: the list so far stands at n -/
noncomputable def lcL (c : Chk) (n : Nat) (own : List Nat) (g : Tg) (t : Env → M Bool) (e : Env → M D) : List D → Env → M D
  | [], δ => fun S => if okC c S then .ok (.loc n) S else .bad
  | d :: ds, δ => fun S => if okC c S then match g.put d (wipeD δ own) with
    | some δ1 => (t δ1 S).bind fun b S1 => if b then (e δ1 S1).bind fun y S2 => match S2[n]? with
        | some (.lst acc) => if acc.length < sz then lcL c n own g t e ds δ (S2.set n (.lst (acc ++ [y]))) else .bad
        | _ => .bad
      else lcL c n own g t e ds δ S1
    | none => .bad
    else .bad
def tgOf : List Nat → Tg
  | [i] => .nm i
  | l => .tp l
/-- no exception leaves -/
def quiet {α : Type} (x : M α) : M α := fun S => match x S with
  | .exc _ _ => .bad
  | r => r
def isLst : D → M Unit
  | .loc n => fun S => match S[n]? with
    | some (.lst _) => .ok () S
    | _ => .bad
  | _ => mbad
def isDic : D → M Unit
  | .loc n => fun S => match (S[n]?).map rdOb with
    | some (.dK _) => .ok () S
    | some (.dT _) => .ok () S
    | _ => .bad
  | _ => mbad
def isDcu : D → M Unit
  | .loc n => fun S => match S[n]? with
    | some (.dK _) => .ok () S
    | some (.dT _) => .ok () S
    | _ => .bad
  | _ => mbad
def getF (x k v : D) : M D := match x with
  | .loc n => fun S => match (S[n]?).map rdOb with
    | some (.dT kvs) => match keyT k with
      | some k => .ok ((getK kvs k).getD v) S
      | none => .bad
    | some (.dK kvs) => match key1 k with
      | some k => .ok ((getK kvs k).getD v) S
      | none => .bad
    | _ => .bad
  | _ => mbad
def popF (x k : D) : M D := match x with
  | .loc n => fun S => match S[n]? with
    | some (.dT kvs) => match keyT k with
      | some k => match getK kvs k with
        | some v => .ok v (S.set n (.dT (delK kvs k)))
        | none => .bad
      | none => .bad
    | some (.dK kvs) => match key1 k with
      | some k => match getK kvs k with
        | some v => .ok v (S.set n (.dK (delK kvs k)))
        | none => .bad
      | none => .bad
    | _ => .bad
  | _ => mbad
/-- the keys of a dict, in order -/
def dkeys : Ob → Option (List D)
  | .dK kvs => some (kvs.map fun p => unkey1 p.1)
  | .dT kvs => some (kvs.map fun p => unkeyT p.1)
  | _ => none
/-- the lock at n taken away -/
def unlk {α : Type} (n : Nat) (r : Ret α) : Ret α := match r with
  | .ok a S => (match S[n]? with
    | some (.lk o) => .ok a (S.set n o)
    | _ => .bad)
  | _ => .bad
def zipF (x y : D) : M (List D × Chk) := match tp? x, tp? y with
  | some xs, some ys => mp ((xs.zip ys).map fun r => .tup [r.1, r.2], [])
  | none, none => mb (iterF x) fun p => mb (iterF y) fun q => mp ((p.1.zip q.1).map fun r => .tup [r.1, r.2], p.2 ++ q.2)
  | _, _ => mbad
def maxdF : D → D → M D
  | .loc n, z => fun S => match (S[n]?).map rdOb with
    | some (.lst ds) => (match dInts ds with
      | some [] => .ok z S
      | some (x :: r) => .ok (.int (maxL x r)) S
      | none => .bad)
    | _ => .bad
  | _, _ => mbad
mutual
noncomputable def evE (G : Gt) : Ie → Env → M D
  | .var i, δ => match δ[i]? with
    | some (some d) => mp d
    | _ => mbad
  | .con d, _ => mp d
  | .glob x, _ => match G.con x with
    | some d => mp d
    | none => mbad
  | .tup a, δ => mb (evA G a δ) fun ds => chk (decide (ds.length ≤ sz)) (mp (.tup ds))
  | .lst a, δ => mb (evA G a δ) fun ds => chk (decide (ds.length ≤ sz)) (alloc (.lst ds))
  | .newK, _ => alloc (.dK [])
  | .newT, _ => alloc (.dT [])
  | .bin op a b, δ => mb (evE G a δ) fun x => mb (evE G b δ) fun y => binF op x y
  | .cmp op a b, δ => mb (evE G a δ) fun x => mb (evE G b δ) fun y => cmpF op x y
  | .chn op op' a b c, δ => mb (evE G a δ) fun x => mb (evE G b δ) fun y => mb (cmpF op x y) fun r => match r with
    | .bl true => mb (evE G c δ) fun z => cmpF op' y z
    | .bl false => mp (.bl false)
    | _ => mbad
  | .andV a b, δ => mb (evE G a δ) fun x => match x with
    | .bl true => evE G b δ
    | .bl false => mp (.bl false)
    | _ => mbad
  | .orV a b, δ => mb (evE G a δ) fun x => match x with
    | .bl false => evE G b δ
    | .bl true => mp (.bl true)
    | _ => mbad
  | .notV a, δ => mb (evE G a δ) fun x => match x with
    | .bl b => mp (.bl (!b))
    | _ => mbad
  | .ife t a b, δ => mb (evT G t δ) fun c => if c then evE G a δ else evE G b δ
  | .neg a, δ => mb (evE G a δ) fun x => match x with
    | .int i => mp (.int (-i))
    | _ => mbad
  | .ix a b, δ => mb (evE G a δ) fun x => mb (evE G b δ) fun y => ixF x y
  | .sl a lo hi, δ => mb (evE G a δ) fun x => mb (evO G lo δ) fun l => mb (evO G hi δ) fun h => slF x l h
  | .rev a, δ => mb (evE G a δ) revF
  | .call f a, δ => mb (evA G a δ) fun ds => G.fn f ds
  | .bi f a, δ => mb (evA G a δ) fun ds => biF f ds
  | .isi T a, δ => mb (evE G a δ) fun x => isF T.nm x
  | .isx l a, δ => mb (evE G a δ) (isxF l)
  | .isin neg a b, δ => mb (evE G a δ) fun x => mb (evE G b δ) fun y => mb (inF x y) fun r => mp (.bl (if neg then !r else r))
  | .app a b, δ => mb (evE G a δ) fun x => mb (isLst x) fun _ => mb (evE G b δ) fun y => match x with
    | .loc n => fun S => match S[n]? with
      | some (.lst ds) => if ds.length < sz then .ok .non (S.set n (.lst (ds ++ [y]))) else .bad
      | _ => .bad
    | _ => mbad
  | .get2 d k x, δ => mb (evE G d δ) fun a => mb (isDic a) fun _ => mb (evE G k δ) fun y => mb (evE G x δ) fun z => getF a y z
  | .popK d k, δ => mb (evE G d δ) fun a => mb (isDcu a) fun _ => mb (evE G k δ) fun y => popF a y
  | .comp own it tg t e, δ => mb (evI G it δ) fun p => fun S => lcL p.2 S.length (own.map (·.2)) (tgOf tg) (fun δ' => quiet (evT G t δ')) (fun δ' => quiet (evE G e δ')) p.1 δ (S ++ [.lst []])
  | .compD own i tg t e, δ => fun S => match δ[i]? with
    | some (some (.loc n)) => match S[n]? with
      | some o => match dkeys o with
        | some ks => unlk n (lcL [(n, .lk o)] (S.set n (.lk o)).length (own.map (·.2)) (tgOf tg) (fun δ' => quiet (evT G t δ')) (fun δ' => quiet (evE G e δ')) ks δ (S.set n (.lk o) ++ [.lst []]))
        | none => .bad
      | none => .bad
    | _ => .bad
  | .maxd a d, δ => mb (evE G a δ) fun x => mb (evE G d δ) fun z => maxdF x z
  | _, _ => mbad
noncomputable def evA (G : Gt) : Ie → Env → M (List D)
  | .nil, _ => mp []
  | .cons a b, δ => mb (evE G a δ) fun x => mb (evA G b δ) fun xs => mp (x :: xs)
  | _, _ => mbad
noncomputable def evO (G : Gt) : Ie → Env → M (Option Int)
  | .nil, _ => mp none
  | .cons a .nil, δ => mb (evE G a δ) fun x => match x with
    | .int i => mp (some i)
    | _ => mbad
  | _, _ => mbad
noncomputable def evT (G : Gt) : Ie → Env → M Bool
  | .yes, _ => mp true
  | .andV a b, δ => mb (evT G a δ) fun x => if x then evT G b δ else mp false
  | .orV a b, δ => mb (evT G a δ) fun x => if x then mp true else evT G b δ
  | .notV a, δ => mb (evT G a δ) fun x => mp (!x)
  | .cons e .nil, δ => mb (evE G e δ) truthy
  | _, _ => mbad
noncomputable def evI (G : Gt) : Ie → Env → M (List D × Chk)
  | .itv a, δ => mb (evE G a δ) iterF
  | .itr a, δ => mb (evA G a δ) rngF
  | .itz a b, δ => mb (evE G a δ) fun x => mb (evE G b δ) fun y => zipF x y
  | _, _ => mbad
end
def putT (t : Option Nat) (d : D) (δ : Env) : Env := match t with
  | some t => δ.set t (some d)
  | none => δ
inductive Fl where
  | nx (δ : Env) | rt (d : D)
noncomputable def forL (c : Chk) (g : Tg) (body : Env → M Fl) : List D → Env → M Fl
  | [], δ => fun S => if okC c S then .ok (.nx δ) S else .bad
  | d :: ds, δ => fun S => if okC c S then match g.put d δ with
    | some δ1 => (body δ1 S).bind fun f => match f with
      | .nx δ2 => forL c g body ds δ2
      | .rt v => mp (.rt v)
    | none => .bad
    else .bad
def whlL (t : Env → M Bool) (body : Env → M Fl) : Nat → Env → M Fl
  | 0, _ => mbad
  | n + 1, δ => mb (t δ) fun b => if b then mb (body δ) fun f => match f with
    | .nx δ2 => whlL t body n δ2
    | .rt v => mp (.rt v)
    else mp (.nx δ)
def putF : D → D → D → M Unit
  | .loc n, i, v => fun S => match S[n]?, i with
    | some (.lst ds), .int i => match L2.ixN ds.length i with
      | some k => .ok () (S.set n (.lst (ds.set k v)))
      | none => .bad
    | some (.dT kvs), i => match keyT i with
      | some k => if kvs.length < sz then .ok () (S.set n (.dT (setK kvs k v))) else .bad
      | none => .bad
    | some (.dK kvs), i => match key1 i with
      | some k => if kvs.length < sz then .ok () (S.set n (.dK (setK kvs k v))) else .bad
      | none => .bad
    | _, _ => .bad
  | _, _, _ => mbad
noncomputable def evS (G : Gt) (N : Nat) : Is → Env → M Fl
  | .nil, δ => mp (.nx δ)
  | .cons a b, δ => mb (evS G N a δ) fun f => match f with
    | .nx δ1 => evS G N b δ1
    | .rt v => mp (.rt v)
  | .pass, δ => mp (.nx δ)
  | .asg i e, δ => mb (evE G e δ) fun d => mp (.nx (δ.set i (some d)))
  | .par i j a b, δ => mb (evE G a δ) fun x => mb (evE G b δ) fun y => mp (.nx ((δ.set i (some x)).set j (some y)))
  | .unp l e, δ => mb (evE G e δ) fun d => match (Tg.tp l).put d δ with
    | some δ1 => mp (.nx δ1)
    | none => mbad
  | .sub o i e, δ => mb (evE G e δ) fun v => mb (evE G o δ) fun x => mb (evE G i δ) fun y => mb (putF x y v) fun _ => mp (.nx δ)
  | .ex e, δ => mb (evE G e δ) fun _ => mp (.nx δ)
  | .ifs t a b, δ => mb (evT G t δ) fun c => if c then evS G N a δ else evS G N b δ
  | .for_ g it b, δ => mb (evI G it δ) fun p => forL p.2 g (evS G N b) p.1 δ
  | .forD g i b, δ => fun S => match δ[i]? with
    | some (some (.loc n)) => match S[n]? with
      | some o => match dkeys o with
        | some ks => unlk n (forL [(n, .lk o)] g (evS G N b) ks δ (S.set n (.lk o)))
        | none => .bad
      | none => .bad
    | _ => .bad
  | .whl t b, δ => whlL (evT G t) (evS G N b) N δ
  | .ret e, δ => mb (evE G e δ) fun d => mp (.rt d)
  | .retN, _ => mp (.rt .non)
  | .rse c e, δ => mb (evE G e δ) fun _ => fun S => .exc c S
  | .tri c i j t f a, δ => fun S => match quiet (evA G a δ) S with
    | .ok ds S1 => match G.fn f ds S1 with
      | .ok d S2 => .ok (.nx (putT t d δ)) S2
      | .exc c' S2 => if decide (c' ∈ exnAll) && subE c' c then .ok (.nx (((δ.set i (some (.exc c'))).set j (some (.exc c'))).set i none)) S2 else .bad
      | .bad => .bad
    | _ => .bad
/-- a def's body -/
noncomputable def evF (G : Gt) (N : Nat) (slots : Nat) (b : Is) (ds : List D) : M D :=
  mb (evS G N b (ds.map some ++ List.replicate (slots - ds.length) none)) fun f => match f with
    | .nx _ => mp .non
    | .rt d => mp d
end Mp
namespace Mp
open PySem L2
/-! ### how plain values lie in the heap -/
abbrev Mm := List Addr
/-- a tuple that stands in the heap or in the written part -/
def WT (K : PySem.W.Frag) (H : Hp) (a : Addr) (xs : List V) : Prop := H a = some (.tup xs) ∨
  ∃ (o : Obj) (its : Array Value) (n : Nat), K.lookup a = some o ∧ o.cls = .type "tuple" ∧ o.data = .seq its n ∧ its.size ≤ sizeLine ∧ Vals xs its.toList
theorem WT.sq {K : PySem.W.Frag} {H : Hp} {a : Addr} {xs : List V} (h : WT K H a xs) : SqT K H a xs := h.elim (fun h => .inl (.inl h)) .inr
/-- the script: read, never written -/
def ScL (K : PySem.W.Frag) (H : Hp) (a : Addr) (xs : List V) : Prop := (∃ o, H a = some (.frz o (.lst xs))) ∨
    ∃ (o : Obj) (its : Array Value) (n : Nat), K.lookup a = some o ∧ o.cls = .type "list" ∧ o.dict = none ∧ o.data = .seq its n ∧ its.size ≤ sizeLine ∧ Vals xs its.toList
theorem ScL.sq {K : PySem.W.Frag} {H : Hp} {a : Addr} {xs : List V} (h : ScL K H a xs) : SqL K H a xs := h.elim (fun ⟨o, h⟩ => .inl (.inr ⟨o, h⟩)) .inr
mutual
def VR (K : PySem.W.Frag) (m : Mm) (H : Hp) : D → V → Prop
  | .non, v => v = .non
  | .bl b, v => v = .bl b
  | .int i, v => v = .int i
  | .str x, v => v = .str x
  | .tup ds, v => ∃ a vs, v = .ref a ∧ H a = some (.tup vs) ∧ VRs K m H ds vs
  | .wtup ds, v => ∃ a vs, v = .ref a ∧ WT K H a vs ∧ VRs K m H ds vs
  | .loc n, v => ∃ a, v = .ref a ∧ m[n]? = some a
  | .exc c, v => ∃ a C, v = .ref a ∧ PySem.W.nsIn K mainGlobals c = some (some (.ref C)) ∧ H a = some (KEx (.ref C) a)
  | .scr ns, v => ∃ a, v = .ref a ∧ ScL K H a (ns.map V.int)
def VRs (K : PySem.W.Frag) (m : Mm) (H : Hp) : List D → List V → Prop
  | [], vs => vs = []
  | d :: ds, vs => ∃ v ws, vs = v :: ws ∧ VR K m H d v ∧ VRs K m H ds ws
end
def KR {κ : Type} (K : PySem.W.Frag) (m : Mm) (H : Hp) (kvs : List (κ × D)) (us : List (κ × V)) : Prop :=
  kvs.map (·.1) = us.map (·.1) ∧ VRs K m H (kvs.map (·.2)) (us.map (·.2))
def OH (K : PySem.W.Frag) (m : Mm) (H : Hp) : Ob → HO → Prop
  | .lst ds, u => ∃ vs, u = .lst vs ∧ VRs K m H ds vs
  | .dK kvs, u => ∃ us, u = .dK us ∧ KR K m H kvs us
  | .dT kvs, u => ∃ us, u = .dT us ∧ KR K m H kvs us
  | .lk o, u => ∃ ob u', u = .frz ob u' ∧ OH K m H o u'
/-- what a value leans on stays -/
structure Ext0 (m : Mm) (H : Hp) (m' : Mm) (H' : Hp) : Prop where
  pre : ∃ t, m' = m ++ t
  tup : ∀ a vs, H a = some (.tup vs) → H' a = some (.tup vs)
  frl : ∀ a o vs, H a = some (.frz o (.lst vs)) → H' a = some (.frz o (.lst vs))
  kex : ∀ a cls, H a = some (KEx cls a) → H' a = some (KEx cls a)
/-- and what is locked, too -/
structure Ext (m : Mm) (H : Hp) (m' : Mm) (H' : Hp) : Prop where
  pre : ∃ t, m' = m ++ t
  tup : ∀ a vs, H a = some (.tup vs) → H' a = some (.tup vs)
  frz : ∀ a o u, H a = some (.frz o u) → H' a = some (.frz o u)
  kex : ∀ a cls, H a = some (KEx cls a) → H' a = some (KEx cls a)
theorem Ext.e0 {m m' : Mm} {H H' : Hp} (e : Ext m H m' H') : Ext0 m H m' H' := ⟨e.pre, e.tup, fun a o vs h => e.frz a o _ h, e.kex⟩
theorem Ext.refl (m : Mm) (H : Hp) : Ext m H m H := ⟨⟨[], by simp⟩, fun _ _ h => h, fun _ _ _ h => h, fun _ _ h => h⟩
theorem Ext.trans {m m1 m2 : Mm} {H H1 H2 : Hp} (a : Ext m H m1 H1) (b : Ext m1 H1 m2 H2) : Ext m H m2 H2 := by
  obtain ⟨t, rfl⟩ := a.pre
  obtain ⟨t', rfl⟩ := b.pre
  exact ⟨⟨t ++ t', by simp⟩, fun x vs h => b.tup x vs (a.tup x vs h), fun x o u h => b.frz x o u (a.frz x o u h), fun x c h => b.kex x c (a.kex x c h)⟩
theorem Ext0.at {m m' : Mm} {H H' : Hp} (e : Ext0 m H m' H') {n : Nat} {a : Addr} (h : m[n]? = some a) : m'[n]? = some a := by
  obtain ⟨t, rfl⟩ := e.pre
  obtain ⟨h1, h2⟩ := List.getElem?_eq_some_iff.mp h
  rw [List.getElem?_append_left h1]
  exact h
theorem Ext.at {m m' : Mm} {H H' : Hp} (e : Ext m H m' H') {n : Nat} {a : Addr} (h : m[n]? = some a) : m'[n]? = some a := e.e0.at h
theorem Ext0.wt {K : PySem.W.Frag} {m m' : Mm} {H H' : Hp} (e : Ext0 m H m' H') {a : Addr} {vs : List V} (h : WT K H a vs) : WT K H' a vs := by
  rcases h with h | h
  · exact .inl (e.tup _ _ h)
  · exact .inr h
section
variable {K : PySem.W.Frag} {m m' : Mm} {H H' : Hp}
mutual
theorem VR.mono0 (e : Ext0 m H m' H') : ∀ (d : D) (v : V), VR K m H d v → VR K m' H' d v
  | .non, _, h => h
  | .bl _, _, h => h
  | .int _, _, h => h
  | .str _, _, h => h
  | .tup ds, v, h => by
    obtain ⟨a, vs, h1, h2, h3⟩ := h
    exact ⟨a, vs, h1, e.tup _ _ h2, VRs.mono0 e ds vs h3⟩
  | .wtup ds, v, h => by
    obtain ⟨a, vs, h1, h2, h3⟩ := h
    exact ⟨a, vs, h1, e.wt h2, VRs.mono0 e ds vs h3⟩
  | .loc n, v, h => by
    obtain ⟨a, h1, h2⟩ := h
    exact ⟨a, h1, e.at h2⟩
  | .exc c, _, h => by
    obtain ⟨a, C, h1, h2, h3⟩ := h
    exact ⟨a, C, h1, h2, e.kex a _ h3⟩
  | .scr ns, v, h => by
    obtain ⟨a, h1, h2⟩ := h
    refine ⟨a, h1, ?_⟩
    rcases h2 with ⟨o, h2⟩ | h2
    · exact .inl ⟨o, e.frl a o _ h2⟩
    · exact .inr h2
theorem VRs.mono0 (e : Ext0 m H m' H') : ∀ (ds : List D) (vs : List V), VRs K m H ds vs → VRs K m' H' ds vs
  | [], _, h => h
  | d :: ds, vs, h => by
    obtain ⟨v, ws, h1, h2, h3⟩ := h
    exact ⟨v, ws, h1, VR.mono0 e d v h2, VRs.mono0 e ds ws h3⟩
end
theorem KR.mono0 {κ : Type} (e : Ext0 m H m' H') {kvs : List (κ × D)} {us : List (κ × V)} (h : KR K m H kvs us) : KR K m' H' kvs us := ⟨h.1, VRs.mono0 e _ _ h.2⟩
theorem OH.mono0 (e : Ext0 m H m' H') : ∀ {o : Ob} {u : HO}, OH K m H o u → OH K m' H' o u
  | .lst ds, u, h => by
    obtain ⟨vs, h1, h2⟩ := h
    exact ⟨vs, h1, VRs.mono0 e _ _ h2⟩
  | .dK kvs, u, h => by
    obtain ⟨us, h1, h2⟩ := h
    exact ⟨us, h1, h2.mono0 e⟩
  | .dT kvs, u, h => by
    obtain ⟨us, h1, h2⟩ := h
    exact ⟨us, h1, h2.mono0 e⟩
  | .lk o, u, h => by
    obtain ⟨ob, u', h1, h2⟩ := h
    exact ⟨ob, u', h1, OH.mono0 e h2⟩
theorem VR.mono (e : Ext m H m' H') (d : D) (v : V) (h : VR K m H d v) : VR K m' H' d v := VR.mono0 e.e0 d v h
theorem VRs.mono (e : Ext m H m' H') (ds : List D) (vs : List V) (h : VRs K m H ds vs) : VRs K m' H' ds vs := VRs.mono0 e.e0 ds vs h
theorem KR.mono {κ : Type} (e : Ext m H m' H') {kvs : List (κ × D)} {us : List (κ × V)} (h : KR K m H kvs us) : KR K m' H' kvs us := h.mono0 e.e0
theorem OH.mono (e : Ext m H m' H') {o : Ob} {u : HO} (h : OH K m H o u) : OH K m' H' o u := h.mono0 e.e0
theorem Ext.wt (e : Ext m H m' H') {a : Addr} {vs : List V} (h : WT K H a vs) : WT K H' a vs := e.e0.wt h
theorem VRs.len : ∀ {ds : List D} {vs : List V}, VRs K m H ds vs → vs.length = ds.length
  | [], _, h => by rw [show _ = [] from h]; rfl
  | d :: ds, vs, h => by
    obtain ⟨v, ws, rfl, h2, h3⟩ := h
    rw [List.length_cons, List.length_cons, VRs.len h3]
theorem VRs.app : ∀ {ds es : List D} {vs ws : List V}, VRs K m H ds vs → VRs K m H es ws → VRs K m H (ds ++ es) (vs ++ ws)
  | [], es, _, ws, h, k => by rw [show _ = [] from h]; exact k
  | d :: ds, es, vs, ws, h, k => by
    obtain ⟨v, vs', rfl, h2, h3⟩ := h
    exact ⟨v, vs' ++ ws, rfl, h2, h3.app k⟩
theorem VRs.get : ∀ {ds : List D} {vs : List V} {i : Nat} {d : D}, VRs K m H ds vs → ds[i]? = some d → ∃ v, vs[i]? = some v ∧ VR K m H d v
  | [], _, _, _, _, e => by simp at e
  | d :: ds, vs, 0, d', h, e => by
    obtain ⟨v, ws, rfl, h2, h3⟩ := h
    cases (show some d = some d' from e)
    exact ⟨v, rfl, h2⟩
  | d :: ds, vs, i + 1, d', h, e => by
    obtain ⟨v, ws, rfl, h2, h3⟩ := h
    exact VRs.get (i := i) h3 e
theorem VRs.set : ∀ {ds : List D} {vs : List V} {d : D} {v : V} (i : Nat), VRs K m H ds vs → VR K m H d v → VRs K m H (ds.set i d) (vs.set i v)
  | [], _, _, _, _, h, _ => by rw [show _ = [] from h]; rfl
  | d :: ds, vs, d', v', 0, h, k => by
    obtain ⟨v, ws, rfl, h2, h3⟩ := h
    exact ⟨v', ws, rfl, k, h3⟩
  | d :: ds, vs, d', v', i + 1, h, k => by
    obtain ⟨v, ws, rfl, h2, h3⟩ := h
    exact ⟨v, ws.set i v', rfl, h2, VRs.set i h3 k⟩
theorem VRs.drop : ∀ {ds : List D} {vs : List V} (n : Nat), VRs K m H ds vs → VRs K m H (ds.drop n) (vs.drop n)
  | _, _, 0, h => h
  | [], _, n + 1, h => by rw [show _ = [] from h]; rfl
  | d :: ds, vs, n + 1, h => by
    obtain ⟨v, ws, rfl, h2, h3⟩ := h
    exact VRs.drop n h3
theorem VRs.take : ∀ {ds : List D} {vs : List V} (n : Nat), VRs K m H ds vs → VRs K m H (ds.take n) (vs.take n)
  | _, _, 0, h => rfl
  | [], _, n + 1, h => by rw [show _ = [] from h]; rfl
  | d :: ds, vs, n + 1, h => by
    obtain ⟨v, ws, rfl, h2, h3⟩ := h
    exact ⟨v, ws.take n, rfl, h2, VRs.take n h3⟩
theorem VRs.cut {ds : List D} {vs : List V} (lo hi : Option Int) (h : VRs K m H ds vs) : VRs K m H (Mp.cut ds lo hi) (cutV vs lo hi) := by
  unfold Mp.cut cutV
  rw [h.len]
  exact (h.drop _).take _
theorem VRs.rep {ds : List D} {vs : List V} (h : VRs K m H ds vs) : ∀ n : Nat, VRs K m H (List.replicate n ds).flatten (List.replicate n vs).flatten
  | 0 => rfl
  | n + 1 => by
    rw [List.replicate_succ, List.replicate_succ, List.flatten_cons, List.flatten_cons]
    exact h.app (VRs.rep h n)
theorem VRs.at {ds : List D} {vs : List V} {i : Int} {d : D} (h : VRs K m H ds vs) (e : atI ds i = some d) : ∃ v, atI vs i = some v ∧ VR K m H d v := by
  unfold atI at e ⊢
  rw [h.len]
  cases q : ixN ds.length i with
  | none => rw [q] at e; cases e
  | some j =>
    rw [q] at e
    exact h.get e
end
/-- the store as the heap holds it -/
structure HR (K : PySem.W.Frag) (m : Mm) (H : Hp) (S : Sto) : Prop where
  len : m.length = S.length
  inj : ∀ (i j : Nat) (a : Addr), m[i]? = some a → m[j]? = some a → i = j
  ob : ∀ (n : Nat) (a : Addr) (o : Ob), m[n]? = some a → S[n]? = some o → ∃ u, H a = some u ∧ OH K m H o u
structure SR (K : PySem.W.Frag) (m : Mm) (H : Hp) (δ : Env) (σ : L2.St) : Prop where
  len : δ.length = σ.length
  get : ∀ (i : Nat) (d : D), δ[i]? = some (some d) → ∃ v, σ[i]? = some (some v) ∧ VR K m H d v
theorem SR.mono {K : PySem.W.Frag} {m m' : Mm} {H H' : Hp} {δ : Env} {σ : L2.St} (h : SR K m H δ σ) (e : Ext m H m' H') : SR K m' H' δ σ :=
  ⟨h.len, fun i d q => let ⟨v, a, b⟩ := h.get i d q; ⟨v, a, VR.mono e _ _ b⟩⟩
theorem SR.set {K : PySem.W.Frag} {m : Mm} {H : Hp} {δ : Env} {σ : L2.St} {d : D} {v : V} (h : SR K m H δ σ) (i : Nat) (r : VR K m H d v) : SR K m H (δ.set i (some d)) (σ.set i (some v)) := by
  refine ⟨by simp [h.len], fun j d' q => ?_⟩
  by_cases e : i = j
  · subst e
    by_cases hi : i < δ.length
    · rw [List.getElem?_set_self hi] at q
      cases q
      exact ⟨v, by rw [List.getElem?_set_self (by rw [← h.len]; exact hi)], r⟩
    · rw [List.getElem?_eq_none (by simpa using hi)] at q
      cases q
  · rw [List.getElem?_set_ne e] at q ⊢
    exact h.get j d' q
theorem SR.unset {K : PySem.W.Frag} {m : Mm} {H : Hp} {δ : Env} {σ : L2.St} (h : SR K m H δ σ) (i : Nat) (x : Option V) : SR K m H (δ.set i none) (σ.set i x) := by
  refine ⟨by simp [h.len], fun j d' q => ?_⟩
  by_cases e : i = j
  · subst e
    by_cases hi : i < δ.length
    · rw [List.getElem?_set_self hi] at q
      cases q
    · rw [List.getElem?_eq_none (by simpa using hi)] at q
      cases q
  · rw [List.getElem?_set_ne e] at q ⊢
    exact h.get j d' q
/-! ### what is wanted -/
section
variable (K : PySem.W.Frag) (mg : Str → Option Value) (E : XK)
def Post {α β : Type} (R : Mm → Hp → α → β → Prop) (m : Mm) (H : Hp) (r : Ret α) (Q : β → Hp → Prop) : Prop := match r with
  | .ok d S' => ∀ v m' H', Ext m H m' H' → R m' H' d v → HR K m' H' S' → Q v H'
  | .exc c S' => ∀ C m' H', mg c = some (.ref C) → Ext m H m' H' → HR K m' H' S' → E (.ref C) none H'
  | .bad => False
end
section
variable {K : PySem.W.Frag} {mg : Str → Option Value} {E : XK} {α β γ ε : Type} {R : Mm → Hp → α → β → Prop} {R2 : Mm → Hp → γ → ε → Prop} {m m' : Mm} {H H' : Hp}
theorem Post.imp {r : Ret α} {Q Q' : β → Hp → Prop} (h : Post K mg E R m H r Q) (k : ∀ v H, Q v H → Q' v H) : Post K mg E R m H r Q' := by
  cases r with
  | ok d S => exact fun v m' H' a b c => k _ _ (h v m' H' a b c)
  | exc c S => exact h
  | bad => exact h
theorem Post.pre {r : Ret α} {Q : β → Hp → Prop} (h : Post K mg E R m H r Q) (e : Ext m H m' H') : Post K mg E R m' H' r Q := by
  cases r with
  | ok d S => exact fun v m' H' a b c => h v m' H' (e.trans a) b c
  | exc c S => exact fun C m' H' hc a b => h C m' H' hc (e.trans a) b
  | bad => exact h
theorem Post.bind {x : Ret α} {f : α → M γ} {Q : ε → Hp → Prop} (h : Post K mg E R2 m H (x.bind f) Q) :
    Post K mg E R m H x fun v H1 => ∃ m1 d S1, Ext m H m1 H1 ∧ R m1 H1 d v ∧ HR K m1 H1 S1 ∧ Post K mg E R2 m1 H1 (f d S1) Q := by
  cases x with
  | ok d S => exact fun v m' H' a b c => ⟨m', d, S, a, b, c, Post.pre h a⟩
  | exc c S => exact h
  | bad => exact h
theorem Post.ok {d : α} {v : β} {S : Sto} {Q : β → Hp → Prop} (h : Post K mg E R m H (.ok d S) Q) (r : R m H d v) (hr : HR K m H S) : Q v H := h v m H (Ext.refl m H) r hr
end
/-! ### changes of the heap -/
section
variable {K : PySem.W.Frag} {m : Mm} {H : Hp} {S : Sto}
theorem HR.lt (h : HR K m H S) {n : Nat} {a : Addr} (e : m[n]? = some a) : n < S.length := by
  rw [← h.len]
  exact (List.getElem?_eq_some_iff.mp e).1
theorem HR.at (h : HR K m H S) {n : Nat} {o : Ob} (e : S[n]? = some o) : ∃ a u, m[n]? = some a ∧ H a = some u ∧ OH K m H o u := by
  have hn : n < m.length := by
    rw [h.len]
    exact (List.getElem?_eq_some_iff.mp e).1
  obtain ⟨u, h1, h2⟩ := h.ob n m[n] o (List.getElem?_eq_getElem hn) e
  exact ⟨m[n], u, List.getElem?_eq_getElem hn, h1, h2⟩
theorem rd_upd_new {p : Addr} {o : HO} (n : H p = none) : ∀ a vs, H a = some (.tup vs) → (upd H p o) a = some (.tup vs) := fun a vs h => by
  rw [upd_ne (ne_of_none h n)]; exact h
/-- a new untracked-in-the-store object (a tuple) -/
theorem frl_upd_new {p : Addr} {o : HO} (n : H p = none) : ∀ a ob u, H a = some (.frz ob u) → (upd H p o) a = some (.frz ob u) := fun a ob vs h => by
  rw [upd_ne (ne_of_none h n)]; exact h
theorem kex_upd_new {p : Addr} {o : HO} (n : H p = none) : ∀ a cls, H a = some (KEx cls a) → (upd H p o) a = some (KEx cls a) := fun a cls h => by
  rw [upd_ne (ne_of_none h n)]; exact h
theorem Ext.new {p : Addr} {o : HO} (n : H p = none) : Ext m H m (upd H p o) := ⟨⟨[], by simp⟩, rd_upd_new n, frl_upd_new n, kex_upd_new n⟩
theorem HR.keep {H' : Hp} (h : HR K m H S) (e : Ext m H m H') (k : ∀ (n : Nat) (a : Addr) (u : HO), m[n]? = some a → H a = some u → H' a = some u) : HR K m H' S :=
  ⟨h.len, h.inj, fun n a o x y => let ⟨u, p, q⟩ := h.ob n a o x y; ⟨u, k n a u x p, q.mono e⟩⟩
theorem HR.new {p : Addr} {o : HO} (h : HR K m H S) (n : H p = none) : HR K m (upd H p o) S := h.keep (Ext.new n) fun _ a u _ e => by rw [upd_ne (ne_of_none e n)]; exact e
/-- a new object of the store -/
theorem HR.push {p : Addr} {u : HO} {o : Ob} (h : HR K m H S) (n : H p = none) (r : OH K m H o u) : Ext m H (m ++ [p]) (upd H p u) ∧ HR K (m ++ [p]) (upd H p u) (S ++ [o]) := by
  have e : Ext m H (m ++ [p]) (upd H p u) := ⟨⟨[p], rfl⟩, rd_upd_new n, frl_upd_new n, kex_upd_new n⟩
  have fresh : ∀ i : Nat, m[i]? ≠ some p := fun i q => by
    have hi := h.lt q
    obtain ⟨w, h1, _⟩ := h.ob i p S[i] q (List.getElem?_eq_getElem hi)
    rw [n] at h1
    cases h1
  refine ⟨e, by simp [h.len], fun i j a hi hj => ?_, fun i a ob hi ho => ?_⟩
  · by_cases q : i < m.length
    · rw [List.getElem?_append_left q] at hi
      by_cases q2 : j < m.length
      · rw [List.getElem?_append_left q2] at hj
        exact h.inj i j a hi hj
      · rw [List.getElem?_append_right (by omega)] at hj
        have : a = p := by
          cases hh : j - m.length with
          | zero => rw [hh] at hj; exact (Option.some.inj hj).symm
          | succ k => rw [hh] at hj; simp at hj
        subst this
        exact absurd hi (fresh i)
    · rw [List.getElem?_append_right (by omega)] at hi
      have ei : i = m.length ∧ a = p := by
        cases hh : i - m.length with
        | zero => rw [hh] at hi; exact ⟨by omega, (Option.some.inj hi).symm⟩
        | succ k => rw [hh] at hi; simp at hi
      obtain ⟨rfl, rfl⟩ := ei
      by_cases q2 : j < m.length
      · rw [List.getElem?_append_left q2] at hj
        exact absurd hj (fresh j)
      · rw [List.getElem?_append_right (by omega)] at hj
        cases hh : j - m.length with
        | zero => omega
        | succ k => rw [hh] at hj; simp at hj
  · by_cases q : i < m.length
    · rw [List.getElem?_append_left q] at hi
      rw [List.getElem?_append_left (by rw [← h.len]; exact q)] at ho
      obtain ⟨w, h1, h2⟩ := h.ob i a ob hi ho
      exact ⟨w, by rw [upd_ne (ne_of_none h1 n)]; exact h1, h2.mono e⟩
    · rw [List.getElem?_append_right (by omega)] at hi
      rw [List.getElem?_append_right (by rw [← h.len]; omega)] at ho
      have ei : i = m.length ∧ a = p := by
        cases hh : i - m.length with
        | zero => rw [hh] at hi; exact ⟨by omega, (Option.some.inj hi).symm⟩
        | succ k => rw [hh] at hi; simp at hi
      obtain ⟨rfl, rfl⟩ := ei
      rw [← h.len, Nat.sub_self] at ho
      cases (show some o = some ob from ho)
      exact ⟨u, upd_same, r.mono e⟩
/-- an object of the store is changed -/
theorem HR.write {n : Nat} {a : Addr} {u : HO} {o' : Ob} {w : HO} (h : HR K m H S) (hn : m[n]? = some a) (hs : H a = some w) (nt : ∀ vs, w ≠ .tup vs) (r : OH K m H o' u) (nl : ∀ o u, w ≠ .frz o u := by intro _ _ z; cases z) (nk : ∀ cls, w ≠ KEx cls a := by intro _ z; cases z) :
    Ext m H m (upd H a u) ∧ HR K m (upd H a u) (S.set n o') := by
  have e : Ext m H m (upd H a u) := ⟨⟨[], by simp⟩, fun b vs q => by
    have : b ≠ a := fun z => by
      rw [z, hs] at q
      exact nt vs (Option.some.inj q)
    rw [upd_ne this]; exact q, fun b ob vs q => by
    have : b ≠ a := fun z => by
      rw [z, hs] at q
      exact nl ob vs (Option.some.inj q)
    rw [upd_ne this]; exact q, fun b cls q => by
    have : b ≠ a := fun z => by
      rw [z, hs] at q
      exact nk cls (Option.some.inj q)
    rw [upd_ne this]; exact q⟩
  refine ⟨e, by simp [h.len], h.inj, fun i b ob hi ho => ?_⟩
  by_cases q : n = i
  · subst q
    rw [hn] at hi
    cases hi
    have hl : n < S.length := h.lt hn
    rw [List.getElem?_set_self hl] at ho
    cases ho
    exact ⟨u, upd_same, r.mono e⟩
  · rw [List.getElem?_set_ne q] at ho
    obtain ⟨w', h1, h2⟩ := h.ob i b ob hi ho
    have : b ≠ a := fun z => q (h.inj n i a hn (z ▸ hi))
    exact ⟨w', by rw [upd_ne this]; exact h1, h2.mono e⟩
end
end Mp
namespace Mp
open PySem L2
variable {X : Cx} {K : PySem.W.Frag} {mg : Str → Option Value} {E : XK}
/-- two values, one value: what the operation is to give -/
def rD (K : PySem.W.Frag) (mg : Str → Option Value) (E : XK) (f : D → D → M D) : R2 := fun v u H Q => ∃ m S x y, VR K m H x v ∧ VR K m H y u ∧ HR K m H S ∧ Post K mg E (VR K) m H (f x y S) Q
def rDL (K : PySem.W.Frag) (mg : Str → Option Value) (E : XK) (f : List D → M D) : List V → Hp → VK → Prop := fun vs H Q => ∃ m S ds, VRs K m H ds vs ∧ HR K m H S ∧ Post K mg E (VR K) m H (f ds S) Q
theorem chk_bad {α : Type} {c : Bool} {x : M α} {S : Sto} {P : Ret α → Prop} (hb : ¬ P .bad) (h : P (chk c x S)) : c = true ∧ P (x S) := by
  unfold chk at h
  cases c with
  | true => exact ⟨rfl, h⟩
  | false => exact absurd h hb
theorem Post.chk {α β : Type} {R : Mm → Hp → α → β → Prop} {m : Mm} {H : Hp} {c : Bool} {x : M α} {S : Sto} {Q : β → Hp → Prop} (h : Post K mg E R m H (Mp.chk c x S) Q) : c = true ∧ Post K mg E R m H (x S) Q :=
  chk_bad (P := fun r => Post K mg E R m H r Q) id h
theorem VR.tup {m : Mm} {H : Hp} {ds : List D} {v : V} (h : VR K m H (.tup ds) v) : ∃ a vs, v = .ref a ∧ H a = some (.tup vs) ∧ VRs K m H ds vs := h
theorem VR.wtup {m : Mm} {H : Hp} {ds : List D} {v : V} (h : VR K m H (.wtup ds) v) : ∃ a vs, v = .ref a ∧ WT K H a vs ∧ VRs K m H ds vs := h
theorem VR.tp {m : Mm} {H : Hp} {d : D} {ds : List D} {v : V} (h : VR K m H d v) (e : tp? d = some ds) : ∃ a vs, v = .ref a ∧ WT K H a vs ∧ VRs K m H ds vs := by
  cases d <;> first | (cases e; done) | skip
  case tup es =>
    cases e
    obtain ⟨a, vs, h1, h2, h3⟩ := h
    exact ⟨a, vs, h1, .inl h2, h3⟩
  case wtup es =>
    cases e
    exact h
theorem VR.loc {m : Mm} {H : Hp} {n : Nat} {v : V} (h : VR K m H (.loc n) v) : ∃ a, v = .ref a ∧ m[n]? = some a := h
theorem sqt {H : Hp} {a : Addr} {xs : List V} (h : H a = some (.tup xs)) : SqT K H a xs := .inl (.inl h)
theorem sql {H : Hp} {a : Addr} {xs : List V} (h : H a = some (.lst xs)) : SqL K H a xs := .inl (.inl h)
/-- a new tuple -/
theorem Post.newT {m : Mm} {H : Hp} {S : Sto} {ds : List D} {vs : List V} {Q : VK} (hr : HR K m H S) (r : VRs K m H ds vs) (h : Post K mg E (VR K) m H (.ok (.tup ds) S) Q) : ∀ p, H p = none → Q (.ref p) (upd H p (.tup vs)) := fun p n => by
  have e : Ext m H m (upd H p (.tup vs)) := Ext.new n
  exact h _ m _ e ⟨p, vs, rfl, upd_same, VRs.mono e _ _ r⟩ (hr.new n)
/-- a new object of the store -/
theorem Post.newO {m : Mm} {H : Hp} {S : Sto} {o : Ob} {u : HO} {Q : VK} (hr : HR K m H S) (r : OH K m H o u) (h : Post K mg E (VR K) m H (.ok (.loc S.length) (S ++ [o])) Q) : ∀ p, H p = none → Q (.ref p) (upd H p u) := fun p n => by
  obtain ⟨e, hr'⟩ := hr.push n r
  refine h _ _ _ e ⟨p, rfl, ?_⟩ hr'
  rw [← hr.len, List.getElem?_append_right (Nat.le_refl _), Nat.sub_self]
  rfl
theorem HR.lst {m : Mm} {H : Hp} {S : Sto} {n : Nat} {a : Addr} {ds : List D} (hr : HR K m H S) (h : m[n]? = some a) (e : S[n]? = some (.lst ds)) : ∃ vs, H a = some (.lst vs) ∧ VRs K m H ds vs := by
  obtain ⟨u, h1, vs, rfl, h3⟩ := hr.ob n a _ h e
  exact ⟨vs, h1, h3⟩
theorem HR.rd {m : Mm} {H : Hp} {S : Sto} {n : Nat} {a : Addr} {o : Ob} (hr : HR K m H S) (h : m[n]? = some a) (e : (S[n]?).map rdOb = some o) (nl : ∀ q, o ≠ .lk q) : ∃ u, Rd H a u ∧ OH K m H o u := by
  cases q : S[n]? with
  | none => rw [q] at e; cases e
  | some o' =>
    rw [q] at e
    cases (show some (rdOb o') = some o from e)
    obtain ⟨u, h1, h2⟩ := hr.ob n a _ h q
    cases o' with
    | lst ds => exact ⟨u, .inl h1, h2⟩
    | dK ds => exact ⟨u, .inl h1, h2⟩
    | dT ds => exact ⟨u, .inl h1, h2⟩
    | lk o2 =>
      obtain ⟨ob, u', rfl, h4⟩ := h2
      exact ⟨u', .inr ⟨ob, h1⟩, h4⟩
theorem HR.rdl {m : Mm} {H : Hp} {S : Sto} {n : Nat} {a : Addr} {ds : List D} (hr : HR K m H S) (h : m[n]? = some a) (e : (S[n]?).map rdOb = some (.lst ds)) : ∃ vs, SqL K H a vs ∧ VRs K m H ds vs := by
  obtain ⟨u, h1, vs, rfl, h3⟩ := hr.rd h e (fun q z => by cases z)
  exact ⟨vs, .inl h1, h3⟩
theorem HR.rdT {m : Mm} {H : Hp} {S : Sto} {n : Nat} {a : Addr} {kvs : List (List L2.Key × D)} (hr : HR K m H S) (h : m[n]? = some a) (e : (S[n]?).map rdOb = some (.dT kvs)) : ∃ us, Rd H a (.dT us) ∧ KR K m H kvs us := by
  obtain ⟨u, h1, us, rfl, h3⟩ := hr.rd h e (fun q z => by cases z)
  exact ⟨us, h1, h3⟩
theorem vrs_ints {m : Mm} {H : Hp} : ∀ ns : List Int, VRs K m H (ns.map D.int) (ns.map V.int)
  | [] => rfl
  | n :: ns => ⟨_, _, rfl, rfl, vrs_ints ns⟩
theorem Post.newW {m : Mm} {H : Hp} {S : Sto} {ds : List D} {vs : List V} {Q : VK} (hr : HR K m H S) (r : VRs K m H ds vs) (h : Post K mg E (VR K) m H (.ok (.wtup ds) S) Q) : ∀ p, H p = none → Q (.ref p) (upd H p (.tup vs)) := fun p n => by
  have e : Ext m H m (upd H p (.tup vs)) := Ext.new n
  exact h _ m _ e ⟨p, vs, rfl, .inl upd_same, VRs.mono e _ _ r⟩ (hr.new n)
theorem cat_w {pins : List (Addr × Obj)} {s : Shared} {σ : L2.St} {H : Hp} {a b : V} {v u : Value} {Q : VK} {m : Mm} {S : Sto} {ds es : List D} (I : Inv X pins σ H s) (ra : RelV a v) (rb : RelV b u)
    (hx : ∃ a1 vs, a = .ref a1 ∧ WT X.K H a1 vs ∧ VRs X.K m H ds vs) (hy : ∃ b1 ws, b = .ref b1 ∧ WT X.K H b1 ws ∧ VRs X.K m H es ws) (hr : HR X.K m H S)
    (p : Post X.K mg E (VR X.K) m H (chk (decide (ds.length + es.length ≤ sz)) (mp (.wtup (ds ++ es))) S) Q) : wpAny (model X.prog X.w) X.A (binaryOp .Add v u) (EP X pins σ Q) X.xe s := by
  obtain ⟨a1, vs, rfl, s1, r1⟩ := hx
  obtain ⟨b1, ws, rfl, s2, r2⟩ := hy
  obtain ⟨c, p⟩ := Post.chk p
  have c := of_decide_eq_true c
  refine op_catA pins s σ H _ _ v u Q I ra rb ⟨a1, b1, vs, ws, rfl, rfl, s1.sq, s2.sq, by rw [r1.len, r2.len]; exact c, fun e => ?_, fun _ e => ?_, fun _ _ => ?_⟩
  · refine Post.ok p ⟨b1, ws, rfl, s2, ?_⟩ hr
    have : ds = [] := List.eq_nil_of_length_eq_zero (by rw [← r1.len, e]; rfl)
    rw [this]
    exact r2
  · refine Post.ok p ⟨a1, vs, rfl, s1, ?_⟩ hr
    have : es = [] := List.eq_nil_of_length_eq_zero (by rw [← r2.len, e]; rfl)
    rw [this, List.append_nil]
    exact r1
  · exact Post.newW hr (r1.app r2) p
/-! ### arithmetic -/
theorem add_ok : OpR X (binaryOp .Add) (rD X.K mg E (binF .add)) := by
  intro pins s σ H a b v u Q I ra rb h
  obtain ⟨m, S, x, y, hx, hy, hr, p⟩ := h
  cases x <;> cases y <;> first | exact (show False from p).elim | skip
  case int.int i j =>
    cases (show a = _ from hx)
    cases (show b = _ from hy)
    exact op_add pins s σ H _ _ v u Q I ra rb ⟨i, j, rfl, rfl, Post.ok p rfl hr⟩
  case str.str i j =>
    cases (show a = _ from hx)
    cases (show b = _ from hy)
    obtain ⟨c, p⟩ := Post.chk p
    exact op_add_str pins s σ H _ _ v u Q I ra rb ⟨i, j, rfl, rfl, of_decide_eq_true c, Post.ok p rfl hr⟩
  case tup.tup xs ys =>
    obtain ⟨a1, vs, rfl, s1, r1⟩ := hx.tup
    obtain ⟨b1, ws, rfl, s2, r2⟩ := hy.tup
    obtain ⟨c, p⟩ := Post.chk p
    have c := of_decide_eq_true c
    refine op_catA pins s σ H _ _ v u Q I ra rb ⟨a1, b1, vs, ws, rfl, rfl, sqt s1, sqt s2, by rw [r1.len, r2.len]; exact c, fun e => ?_, fun _ e => ?_, fun _ _ => ?_⟩
    · refine Post.ok p ⟨b1, ws, rfl, s2, ?_⟩ hr
      have : xs = [] := List.eq_nil_of_length_eq_zero (by rw [← r1.len, e]; rfl)
      rw [this]
      exact r2
    · refine Post.ok p ⟨a1, vs, rfl, s1, ?_⟩ hr
      have : ys = [] := List.eq_nil_of_length_eq_zero (by rw [← r2.len, e]; rfl)
      rw [this, List.append_nil]
      exact r1
    · exact Post.newT hr (r1.app r2) p
  case tup.wtup xs ys => exact cat_w (ds := xs) (es := ys) I ra rb (VR.tp hx rfl) (VR.tp hy rfl) hr p
  case wtup.tup xs ys => exact cat_w (ds := xs) (es := ys) I ra rb (VR.tp hx rfl) (VR.tp hy rfl) hr p
  case wtup.wtup xs ys => exact cat_w (ds := xs) (es := ys) I ra rb (VR.tp hx rfl) (VR.tp hy rfl) hr p
  case loc.loc i j =>
    obtain ⟨a1, rfl, m1⟩ := hx.loc
    obtain ⟨b1, rfl, m2⟩ := hy.loc
    have p : Post X.K mg E (VR X.K) m H (match S[i]?, S[j]? with
      | some (.lst xs), some (.lst ys) => chk (decide (xs.length + ys.length ≤ sz)) (alloc (.lst (xs ++ ys))) S
      | _, _ => .bad) Q := p
    split at p
    · rename_i xs ys e1 e2
      obtain ⟨vs, h1, r1⟩ := hr.lst m1 e1
      obtain ⟨ws, h2, r2⟩ := hr.lst m2 e2
      obtain ⟨c, p⟩ := Post.chk p
      refine op_cat pins s σ H _ _ v u Q I ra rb ⟨a1, b1, vs, ws, rfl, rfl, h1, h2, by rw [r1.len, r2.len]; exact of_decide_eq_true c, ?_⟩
      exact Post.newO hr (show OH X.K m H (.lst (xs ++ ys)) _ from ⟨_, rfl, r1.app r2⟩) p
    · exact (show False from p).elim
theorem sub_ok : OpR X (binaryOp .Sub) (rD X.K mg E (binF .sub)) := by
  intro pins s σ H a b v u Q I ra rb h
  obtain ⟨m, S, x, y, hx, hy, hr, p⟩ := h
  cases x <;> cases y <;> first | exact (show False from p).elim | skip
  case int.int i j =>
    cases (show a = _ from hx)
    cases (show b = _ from hy)
    exact op_sub pins s σ H _ _ v u Q I ra rb ⟨i, j, rfl, rfl, Post.ok p rfl hr⟩
theorem fdv_ok : OpR X (binaryOp .FloorDiv) (rD X.K mg E (binF .fdv)) := by
  intro pins s σ H a b v u Q I ra rb h
  obtain ⟨m, S, x, y, hx, hy, hr, p⟩ := h
  cases x <;> cases y <;> first | exact (show False from p).elim | skip
  case int.int i j =>
    cases (show a = _ from hx)
    cases (show b = _ from hy)
    obtain ⟨c, p⟩ := Post.chk p
    simp only [Bool.and_eq_true, decide_eq_true_eq, Bool.not_eq_true'] at c
    obtain ⟨t, rfl⟩ := ra
    obtain ⟨t', rfl⟩ := rb
    exact PyProof.Rows.floordiv_int c.1 ⟨.int _, H, I.tok _, ⟨_, rfl⟩, Post.ok p rfl hr⟩ (.inl c.2)
theorem mod_ok : OpR X (binaryOp .Mod) (rD X.K mg E (binF .mod)) := by
  intro pins s σ H a b v u Q I ra rb h
  obtain ⟨m, S, x, y, hx, hy, hr, p⟩ := h
  cases x <;> cases y <;> first | exact (show False from p).elim | skip
  case int.int i j =>
    cases (show a = _ from hx)
    cases (show b = _ from hy)
    obtain ⟨c, p⟩ := Post.chk p
    exact op_modN pins s σ H _ _ v u Q I ra rb ⟨i, j, rfl, rfl, of_decide_eq_true c, Post.ok p rfl hr⟩
theorem pow_ok : OpR X (binaryOp .Pow) (rD X.K mg E (binF .pow)) := by
  intro pins s σ H a b v u Q I ra rb h
  obtain ⟨m, S, x, y, hx, hy, hr, p⟩ := h
  cases x <;> cases y <;> first | exact (show False from p).elim | skip
  case int.int i j =>
    cases (show a = _ from hx)
    cases (show b = _ from hy)
    obtain ⟨c, p⟩ := Post.chk p
    have c := of_decide_eq_true c
    obtain ⟨t, rfl⟩ := ra
    obtain ⟨t', rfl⟩ := rb
    exact PyProof.Rows.pow_int c.1 c.2 ⟨.int _, H, I.tok _, ⟨_, rfl⟩, Post.ok p rfl hr⟩
theorem mul_ok : OpR X (binaryOp .Mult) (rD X.K mg E (binF .mul)) := by
  intro pins s σ H a b v u Q I ra rb h
  obtain ⟨m, S, x, y, hx, hy, hr, p⟩ := h
  cases x <;> cases y <;> first | exact (show False from p).elim | skip
  case int.int i j =>
    cases (show a = _ from hx)
    cases (show b = _ from hy)
    have p : Post X.K mg E (VR X.K) m H (mulI i j S) Q := p
    unfold mulI at p
    split at p
    · rename_i c
      exact op_mulX pins s σ H _ _ v u Q I ra rb ⟨i, j, rfl, rfl, c, Post.ok p rfl hr⟩
    · exact (show False from p).elim
  case loc.int i j =>
    obtain ⟨a1, rfl, m1⟩ := hx.loc
    cases (show b = _ from hy)
    have p : Post X.K mg E (VR X.K) m H (match S[i]? with
      | some (.lst xs) => chk (decide (-(2 ^ 63) ≤ j ∧ j < 2 ^ 63 ∧ xs.length * j.toNat ≤ sz)) (alloc (.lst (List.replicate j.toNat xs).flatten)) S
      | _ => .bad) Q := p
    split at p
    · rename_i xs e1
      obtain ⟨vs, h1, r1⟩ := hr.lst m1 e1
      obtain ⟨c, p⟩ := Post.chk p
      have c := of_decide_eq_true c
      refine op_rep pins s σ H _ _ v u Q I ra rb ⟨a1, j, vs, rfl, rfl, h1, c.1, c.2.1, by rw [r1.len]; exact c.2.2, ?_⟩
      exact Post.newO hr (show OH X.K m H (.lst (List.replicate j.toNat xs).flatten) _ from ⟨_, rfl, r1.rep _⟩) p
    · exact (show False from p).elim
  case tup.int xs j =>
    obtain ⟨a1, vs, rfl, s1, r1⟩ := hx.tup
    cases (show b = _ from hy)
    have p : Post X.K mg E (VR X.K) m H ((if j = 1 then mp (.tup xs) else chk (decide (2 ≤ j ∧ j ≤ 1000 ∧ xs.length ≤ 1000) && !xs.isEmpty) (mp (.tup (List.replicate j.toNat xs).flatten)) : M D) S) Q := p
    by_cases j1 : j = 1
    · subst j1
      rw [if_pos rfl] at p
      exact op_rep1 pins s σ H _ _ v u Q I ra rb ⟨a1, vs, rfl, rfl, sqt s1, Post.ok (d := D.tup xs) p ⟨a1, vs, rfl, s1, r1⟩ hr⟩
    · rw [if_neg j1] at p
      obtain ⟨c, p⟩ := Post.chk p
      obtain ⟨c, c3⟩ := Bool.and_eq_true_iff.mp c
      have c := of_decide_eq_true c
      refine op_repT pins s σ H _ _ v u Q I ra rb ⟨a1, j, vs, rfl, rfl, sqt s1, fun e => ?_, c.1, c.2.1, by rw [r1.len]; exact c.2.2, ?_⟩
      · have : xs = [] := List.eq_nil_of_length_eq_zero (by rw [← r1.len, e]; rfl)
        rw [this] at c3
        cases c3
      · exact Post.newT hr (r1.rep _) p
/-! ### comparisons -/
theorem mapM_cons_some {α β : Type} {f : α → Option β} {a : α} {l : List α} {ps : List β} (h : (a :: l).mapM f = some ps) : ∃ p qs, f a = some p ∧ l.mapM f = some qs ∧ ps = p :: qs := by
  rw [List.mapM_cons] at h
  cases e : f a with
  | none => rw [e] at h; cases h
  | some p =>
    rw [e] at h
    cases e2 : l.mapM f with
    | none => rw [e2] at h; cases h
    | some qs =>
      rw [e2] at h
      cases (show some (p :: qs) = some ps from h)
      exact ⟨p, qs, rfl, rfl, rfl⟩
theorem py_dp {m : Mm} {H : Hp} {S : Sto} (hr : HR K m H S) : ∀ (n : Nat) (d : D) (v : V) (p : PyData), VR K m H d v → D.py S n d = some p → Dp K H v p := by
  intro n
  induction n with
  | zero =>
    intro d v p hv hp
    cases d with
    | non => cases (show v = _ from hv); cases hp; exact .non
    | bl b => cases (show v = _ from hv); cases hp; exact .bl _
    | int i => cases (show v = _ from hv); cases hp; exact .int _
    | str x => cases (show v = _ from hv); cases hp; exact .str _
    | tup ds => cases hp
    | wtup ds => cases hp
    | loc k => cases hp
    | exc c => cases hp
    | scr c => cases hp
  | succ n ih =>
    have all : ∀ (ds : List D) (vs : List V) (ps : List PyData), VRs K m H ds vs → ds.mapM (D.py S n) = some ps → DpAll K H vs ps := by
      intro ds
      induction ds with
      | nil => intro vs ps h k; cases (show some [] = some ps from k); cases (show vs = [] from h); exact .nil
      | cons d ds ih2 =>
        intro vs ps h k
        obtain ⟨v, ws, rfl, h2, h3⟩ := h
        obtain ⟨p, qs, k1, k2, rfl⟩ := mapM_cons_some k
        exact .cons (ih d v _ h2 k1) (ih2 ws _ h3 k2)
    intro d v p hv hp
    cases d with
    | non => cases (show v = _ from hv); cases hp; exact .non
    | bl b => cases (show v = _ from hv); cases hp; exact .bl _
    | int i => cases (show v = _ from hv); cases hp; exact .int _
    | str x => cases (show v = _ from hv); cases hp; exact .str _
    | exc c => cases hp
    | scr c => cases hp
    | tup ds =>
      obtain ⟨a, vs, rfl, h2, h3⟩ := hv.tup
      have hp : (ds.mapM (D.py S n)).map .tuple = some p := hp
      cases e : ds.mapM (D.py S n) with
      | none => rw [e] at hp; cases hp
      | some ps =>
        rw [e] at hp
        cases hp
        exact .tup (sqt h2) (all _ _ _ h3 e)
    | wtup ds =>
      obtain ⟨a, vs, rfl, h2, h3⟩ := hv.wtup
      have hp : (ds.mapM (D.py S n)).map .tuple = some p := hp
      cases e : ds.mapM (D.py S n) with
      | none => rw [e] at hp; cases hp
      | some ps =>
        rw [e] at hp
        cases hp
        exact .tup h2.sq (all _ _ _ h3 e)
    | loc k =>
      obtain ⟨a, rfl, h2⟩ := hv.loc
      have hp : (match (S[k]?).map rdOb with
        | some (.lst ds) => (ds.mapM (D.py S n)).map .list
        | _ => none) = some p := hp
      split at hp
      · rename_i ds e1
        obtain ⟨vs, h3, h4⟩ := hr.rdl h2 e1
        cases e : ds.mapM (D.py S n) with
        | none => rw [e] at hp; cases hp
        | some ps =>
          rw [e] at hp
          cases hp
          exact .lst h3 (all _ _ _ h4 e)
      · cases hp
theorem eqF_some {S : Sto} {x y : D} {m : Mm} {H : Hp} {Q : Bool → Hp → Prop} {R : Mm → Hp → Bool → Bool → Prop} (h : Post K mg E R m H (eqF x y S) Q) : ∃ d e, D.py S 12 x = some d ∧ D.py S 12 y = some e ∧ SeqAt.shaped d = true ∧ SeqAt.shaped e = true ∧ eqF x y S = .ok (PyData.eqv d e) S := by
  unfold eqF at h ⊢
  cases e1 : D.py S 12 x with
  | none => rw [e1] at h; exact (show False from h).elim
  | some d =>
    rw [e1] at h
    cases e2 : D.py S 12 y with
    | none => rw [e2] at h; exact (show False from h).elim
    | some e =>
      rw [e2] at h
      cases e3 : (SeqAt.shaped d && SeqAt.shaped e) with
      | false =>
        have h : Post K mg E R m H (if (SeqAt.shaped d && SeqAt.shaped e) = true then .ok (PyData.eqv d e) S else .bad) Q := h
        rw [e3] at h
        exact (show False from h).elim
      | true =>
        have e4 := Bool.and_eq_true_iff.mp e3
        refine ⟨d, e, rfl, rfl, e4.1, e4.2, ?_⟩
        show (if (SeqAt.shaped d && SeqAt.shaped e) = true then Ret.ok (PyData.eqv d e) S else .bad) = _
        rw [if_pos e3]
def RB : Mm → Hp → Bool → Bool → Prop := fun _ _ a b => a = b
theorem eq_ok (hu : X.A.units + 64 < cLine) : OpR X (compareOp .Eq) (rD X.K mg E (cmpF .eq)) := by
  intro pins s σ H a b v u Q I ra rb h
  obtain ⟨m, S, x, y, hx, hy, hr, p⟩ := h
  have p : Post X.K mg E (VR X.K) m H ((eqF x y S).bind fun b => mp (.bl b)) Q := p
  obtain ⟨d, e, e1, e2, s1, s2, e3⟩ := eqF_some (R := RB) p.bind
  rw [e3] at p
  exact op_eqD hu pins s σ H _ _ v u Q I ra rb ⟨d, e, py_dp hr _ _ _ _ hx e1, py_dp hr _ _ _ _ hy e2, s1, s2, Post.ok p rfl hr⟩
theorem ne_ok (hu : X.A.units + 64 < cLine) : OpR X (compareOp .NotEq) (rD X.K mg E (cmpF .ne)) := by
  intro pins s σ H a b v u Q I ra rb h
  obtain ⟨m, S, x, y, hx, hy, hr, p⟩ := h
  have p : Post X.K mg E (VR X.K) m H ((eqF x y S).bind fun b => mp (.bl (!b))) Q := p
  obtain ⟨d, e, e1, e2, s1, s2, e3⟩ := eqF_some (R := RB) p.bind
  rw [e3] at p
  exact op_neD hu pins s σ H _ _ v u Q I ra rb ⟨d, e, py_dp hr _ _ _ _ hx e1, py_dp hr _ _ _ _ hy e2, s1, s2, Post.ok p rfl hr⟩
theorem ints_vs {m : Mm} {H : Hp} : ∀ {ds : List D} {vs : List V} {is : List Int}, VRs K m H ds vs → dInts ds = some is → vs = is.map V.int
  | [], vs, is, h, e => by
    cases (show some [] = some is from e)
    exact h
  | .int i :: r, vs, is, h, e => by
    obtain ⟨v, ws, rfl, h2, h3⟩ := h
    cases q : dInts r with
    | none =>
      have e : (dInts r).map (i :: ·) = some is := e
      rw [q] at e
      cases e
    | some js =>
      have e : (dInts r).map (i :: ·) = some is := e
      rw [q] at e
      cases e
      cases (show v = _ from h2)
      rw [ints_vs h3 q]
      rfl
  | .non :: r, _, _, _, e => by cases e
  | .bl _ :: r, _, _, _, e => by cases e
  | .str _ :: r, _, _, _, e => by cases e
  | .tup _ :: r, _, _, _, e => by cases e
  | .wtup _ :: r, _, _, _, e => by cases e
  | .loc _ :: r, _, _, _, e => by cases e
  | .exc _ :: r, _, _, _, e => by cases e
  | .scr _ :: r, _, _, _, e => by cases e
theorem bools_vs {m : Mm} {H : Hp} : ∀ {ds : List D} {vs : List V} {is : List Bool}, VRs K m H ds vs → dBools ds = some is → vs = is.map V.bl
  | [], vs, is, h, e => by
    cases (show some [] = some is from e)
    exact h
  | .bl i :: r, vs, is, h, e => by
    obtain ⟨v, ws, rfl, h2, h3⟩ := h
    cases q : dBools r with
    | none =>
      have e : (dBools r).map (i :: ·) = some is := e
      rw [q] at e
      cases e
    | some js =>
      have e : (dBools r).map (i :: ·) = some is := e
      rw [q] at e
      cases e
      cases (show v = _ from h2)
      rw [bools_vs h3 q]
      rfl
  | .non :: r, _, _, _, e => by cases e
  | .int _ :: r, _, _, _, e => by cases e
  | .str _ :: r, _, _, _, e => by cases e
  | .tup _ :: r, _, _, _, e => by cases e
  | .wtup _ :: r, _, _, _, e => by cases e
  | .loc _ :: r, _, _, _, e => by cases e
  | .exc _ :: r, _, _, _, e => by cases e
  | .scr _ :: r, _, _, _, e => by cases e
theorem ltF_tp {x y : D} (h : ∀ i j, x = .int i → y = .int j → False) : ltF x y = (match (tp? x).bind dInts, (tp? y).bind dInts with
    | some a, some b => mp (HT.lexLt a b)
    | _, _ => mbad) := by
  cases x <;> cases y <;> first | rfl | exact (h _ _ rfl rfl).elim
theorem lt_ok (hu : X.A.units < cLine) : OpR X (compareOp .Lt) (rD X.K mg E (cmpF .lt)) := by
  intro pins s σ H a b v u Q I ra rb h
  obtain ⟨m, S, x, y, hx, hy, hr, p⟩ := h
  by_cases c : ∃ i j, x = .int i ∧ y = .int j
  · obtain ⟨i, j, rfl, rfl⟩ := c
    cases (show a = _ from hx)
    cases (show b = _ from hy)
    exact op_lt pins s σ H _ _ v u Q I ra rb ⟨i, j, rfl, rfl, Post.ok p rfl hr⟩
  · have p : Post X.K mg E (VR X.K) m H ((ltF x y S).bind fun b => mp (.bl b)) Q := p
    rw [ltF_tp fun i j h1 h2 => c ⟨i, j, h1, h2⟩] at p
    cases e1 : tp? x with
    | none => rw [e1] at p; exact (show False from p).elim
    | some xs =>
      cases e2 : tp? y with
      | none =>
        rw [e1, e2] at p
        cases e3 : dInts xs with
        | none => rw [show (some xs).bind dInts = none from e3] at p; exact (show False from p).elim
        | some is => rw [show (some xs).bind dInts = some is from e3] at p; exact (show False from p).elim
      | some ys =>
        rw [e1, e2] at p
        cases e3 : dInts xs with
        | none => rw [show (some xs).bind dInts = none from e3] at p; exact (show False from p).elim
        | some is =>
          rw [show (some xs).bind dInts = some is from e3] at p
          cases e4 : dInts ys with
          | none => rw [show (some ys).bind dInts = none from e4] at p; exact (show False from p).elim
          | some js =>
            rw [show (some ys).bind dInts = some js from e4] at p
            obtain ⟨a1, vs, rfl, s1, r1⟩ := VR.tp hx e1
            obtain ⟨b1, ws, rfl, s2, r2⟩ := VR.tp hy e2
            refine op_ltT hu pins s σ H _ _ v u Q I ra rb ⟨a1, b1, is, js, rfl, rfl, ?_, ?_, Post.ok (d := D.bl (HT.lexLt is js)) p rfl hr⟩
            · rw [← ints_vs r1 e3]; exact s1.sq
            · rw [← ints_vs r2 e4]; exact s2.sq
theorem ltF_post {m : Mm} {H : Hp} {x y : D} {a b : V} {S : Sto} {Q : VK} {k : Bool → M D} (hx : VR K m H x a) (hy : VR K m H y b) (nc : ∀ i j, x = .int i → y = .int j → False) (p : Post K mg E (VR K) m H ((ltF x y S).bind k) Q) :
    ∃ a1 b1 is js, a = .ref a1 ∧ b = .ref b1 ∧ SqT K H a1 (is.map V.int) ∧ SqT K H b1 (js.map V.int) ∧ Post K mg E (VR K) m H (k (HT.lexLt is js) S) Q := by
  rw [ltF_tp nc] at p
  cases e1 : tp? x with
  | none => rw [e1] at p; exact (show False from p).elim
  | some xs =>
    cases e2 : tp? y with
    | none =>
      rw [e1, e2] at p
      cases e3 : dInts xs with
      | none => rw [show (some xs).bind dInts = none from e3] at p; exact (show False from p).elim
      | some is => rw [show (some xs).bind dInts = some is from e3] at p; exact (show False from p).elim
    | some ys =>
      rw [e1, e2] at p
      cases e3 : dInts xs with
      | none => rw [show (some xs).bind dInts = none from e3] at p; exact (show False from p).elim
      | some is =>
        rw [show (some xs).bind dInts = some is from e3] at p
        cases e4 : dInts ys with
        | none => rw [show (some ys).bind dInts = none from e4] at p; exact (show False from p).elim
        | some js =>
          rw [show (some ys).bind dInts = some js from e4] at p
          obtain ⟨a1, vs, rfl, s1, r1⟩ := VR.tp hx e1
          obtain ⟨b1, ws, rfl, s2, r2⟩ := VR.tp hy e2
          exact ⟨a1, b1, is, js, rfl, rfl, (by rw [← ints_vs r1 e3]; exact s1.sq), (by rw [← ints_vs r2 e4]; exact s2.sq), p⟩
theorem cmpF_gt {x y : D} (h : ∀ i j, x = .int i → y = .int j → False) : cmpF .gt x y = mb (ltF y x) fun b => mp (.bl (b)) := by
  cases x <;> cases y <;> first | rfl | exact (h _ _ rfl rfl).elim
theorem gt_ok (hu : X.A.units < cLine) : OpR X (compareOp .Gt) (rD X.K mg E (cmpF .gt)) := by
  intro pins s σ H a b v u Q I ra rb h
  obtain ⟨m, S, x, y, hx, hy, hr, p⟩ := h
  by_cases c : ∃ i j, x = .int i ∧ y = .int j
  · obtain ⟨i, j, rfl, rfl⟩ := c
    cases (show a = _ from hx)
    cases (show b = _ from hy)
    exact op_gt pins s σ H _ _ v u Q I ra rb ⟨i, j, rfl, rfl, Post.ok p rfl hr⟩
  · rw [cmpF_gt fun i j h1 h2 => c ⟨i, j, h1, h2⟩] at p
    obtain ⟨a1, b1, is, js, rfl, rfl , s1, s2, p⟩ := ltF_post hy hx (fun i j h1 h2 => c ⟨j, i, h2, h1⟩) p
    exact op_gtT hu pins s σ H _ _ v u Q I ra rb ⟨b1, a1, js, is, rfl, rfl, s2, s1, Post.ok (d := D.bl (HT.lexLt is js)) p rfl hr⟩
theorem cmpF_le {x y : D} (h : ∀ i j, x = .int i → y = .int j → False) : cmpF .le x y = mb (ltF y x) fun b => mp (.bl (!b)) := by
  cases x <;> cases y <;> first | rfl | exact (h _ _ rfl rfl).elim
theorem le_ok (hu : X.A.units < cLine) : OpR X (compareOp .LtE) (rD X.K mg E (cmpF .le)) := by
  intro pins s σ H a b v u Q I ra rb h
  obtain ⟨m, S, x, y, hx, hy, hr, p⟩ := h
  by_cases c : ∃ i j, x = .int i ∧ y = .int j
  · obtain ⟨i, j, rfl, rfl⟩ := c
    cases (show a = _ from hx)
    cases (show b = _ from hy)
    exact op_le pins s σ H _ _ v u Q I ra rb ⟨i, j, rfl, rfl, Post.ok p rfl hr⟩
  · rw [cmpF_le fun i j h1 h2 => c ⟨i, j, h1, h2⟩] at p
    obtain ⟨a1, b1, is, js, rfl, rfl , s1, s2, p⟩ := ltF_post hy hx (fun i j h1 h2 => c ⟨j, i, h2, h1⟩) p
    exact op_leXT hu pins s σ H _ _ v u Q I ra rb ⟨b1, a1, js, is, rfl, rfl, s2, s1, Post.ok (d := D.bl (!HT.lexLt is js)) p rfl hr⟩
theorem cmpF_ge {x y : D} (h : ∀ i j, x = .int i → y = .int j → False) : cmpF .ge x y = mb (ltF x y) fun b => mp (.bl (!b)) := by
  cases x <;> cases y <;> first | rfl | exact (h _ _ rfl rfl).elim
theorem ge_ok (hu : X.A.units < cLine) : OpR X (compareOp .GtE) (rD X.K mg E (cmpF .ge)) := by
  intro pins s σ H a b v u Q I ra rb h
  obtain ⟨m, S, x, y, hx, hy, hr, p⟩ := h
  by_cases c : ∃ i j, x = .int i ∧ y = .int j
  · obtain ⟨i, j, rfl, rfl⟩ := c
    cases (show a = _ from hx)
    cases (show b = _ from hy)
    exact op_ge pins s σ H _ _ v u Q I ra rb ⟨i, j, rfl, rfl, Post.ok p rfl hr⟩
  · rw [cmpF_ge fun i j h1 h2 => c ⟨i, j, h1, h2⟩] at p
    obtain ⟨a1, b1, is, js, rfl, rfl , s1, s2, p⟩ := ltF_post hx hy (fun i j h1 h2 => c ⟨i, j, h1, h2⟩) p
    exact op_geT hu pins s σ H _ _ v u Q I ra rb ⟨a1, b1, is, js, rfl, rfl, s1, s2, Post.ok (d := D.bl (!HT.lexLt is js)) p rfl hr⟩
theorem isNone_v {m : Mm} {H : Hp} {x : D} {v : V} (h : VR K m H x v) : decide (v = .non) = isNone x := by
  cases x with
  | non => cases (show v = _ from h); rfl
  | bl b => cases (show v = _ from h); rfl
  | int b => cases (show v = _ from h); rfl
  | str b => cases (show v = _ from h); rfl
  | tup ds => obtain ⟨a, vs, rfl, _⟩ := h.tup; rfl
  | wtup ds => obtain ⟨a, vs, rfl, _⟩ := h.wtup; rfl
  | loc n => obtain ⟨a, rfl, _⟩ := h.loc; rfl
  | exc c => obtain ⟨a, C, rfl, _⟩ := h; rfl
  | scr c => obtain ⟨a, rfl, _⟩ := h; rfl
theorem is_ok : OpR X (compareOp .Is) (rD X.K mg E (cmpF .is)) := by
  intro pins s σ H a b v u Q I ra rb h
  obtain ⟨m, S, x, y, hx, hy, hr, p⟩ := h
  cases y <;> first | exact (show False from p).elim | skip
  case non =>
    cases (show b = _ from hy)
    refine op_isN pins s σ H _ _ v u Q I ra rb ⟨rfl, ?_⟩
    rw [isNone_v hx]
    exact Post.ok (d := D.bl (isNone x)) p rfl hr
theorem isnot_ok : OpR X (compareOp .IsNot) (rD X.K mg E (cmpF .isnot)) := by
  intro pins s σ H a b v u Q I ra rb h
  obtain ⟨m, S, x, y, hx, hy, hr, p⟩ := h
  cases y <;> first | exact (show False from p).elim | skip
  case non =>
    cases (show b = _ from hy)
    refine op_notN pins s σ H _ _ v u Q I ra rb ⟨rfl, ?_⟩
    rw [isNone_v hx]
    exact Post.ok (d := D.bl (!isNone x)) p rfl hr
end Mp
namespace Mp
open PySem L2
section
variable {X : Cx} {K : PySem.W.Frag} {mg : Str → Option Value} {E : XK}
/-! ### index, slices, truth, built-ins -/
theorem nth_post {α β : Type} {R : Mm → Hp → D → β → Prop} {m : Mm} {H : Hp} {ds : List D} {i : Int} {S : Sto} {Q : β → Hp → Prop} (p : Post K mg E R m H (nth ds i S) Q) : ∃ d, atI ds i = some d ∧ Post K mg E R m H (.ok d S) Q := by
  unfold nth at p
  cases e : atI ds i with
  | none => rw [e] at p; exact (show False from p).elim
  | some d => rw [e] at p; exact ⟨d, rfl, p⟩
def isSeq (S : Sto) : D → Bool
  | .tup _ => true
  | .wtup _ => true
  | .str _ => true
  | .loc n => match (S[n]?).map rdOb with
    | some (.lst _) => true
    | _ => false
  | _ => false
def rDI (K : PySem.W.Frag) (mg : Str → Option Value) (E : XK) : R2 := fun v u H Q => ∃ m S x y, isSeq S x = true ∧ VR K m H x v ∧ VR K m H y u ∧ HR K m H S ∧ Post K mg E (VR K) m H (ixF x y S) Q
theorem ix_ok : IxR X (rDI X.K mg E) := by
  intro ve se pins s σ H a b v u Q I ra rb h
  obtain ⟨m, S, x, y, sq, hx, hy, hr, p⟩ := h
  cases x <;> first | exact (show False from p).elim | skip
  case tup ds =>
    cases y <;> first | exact (show False from p).elim | skip
    case int i =>
      obtain ⟨a1, vs, rfl, s1, r1⟩ := hx.tup
      cases (show b = _ from hy)
      obtain ⟨d, e, p⟩ := nth_post (α := Unit) p
      obtain ⟨w, e2, r2⟩ := r1.at e
      exact ix_tup ve se pins s σ H _ _ v u Q I ra rb ⟨a1, vs, i, w, rfl, rfl, sqt s1, e2, Post.ok p r2 hr⟩
  case wtup ds =>
    cases y <;> first | exact (show False from p).elim | skip
    case int i =>
      obtain ⟨a1, vs, rfl, s1, r1⟩ := hx.wtup
      cases (show b = _ from hy)
      obtain ⟨d, e, p⟩ := nth_post (α := Unit) p
      obtain ⟨w, e2, r2⟩ := r1.at e
      exact ix_tup ve se pins s σ H _ _ v u Q I ra rb ⟨a1, vs, i, w, rfl, rfl, s1.sq, e2, Post.ok p r2 hr⟩
  case str z =>
    cases y <;> first | exact (show False from p).elim | skip
    case int i =>
      cases (show a = _ from hx)
      cases (show b = _ from hy)
      obtain ⟨c, p⟩ := Post.chk p
      cases e : atI z.cps.toList i with
      | none =>
        have p : Post X.K mg E (VR X.K) m H ((match L2.atI z.cps.toList i with
          | some c => mp (.str ⟨#[c]⟩)
          | none => mbad : M D) S) Q := p
        rw [e] at p
        exact (show False from p).elim
      | some k =>
        have p : Post X.K mg E (VR X.K) m H ((match L2.atI z.cps.toList i with
          | some c => mp (.str ⟨#[c]⟩)
          | none => mbad : M D) S) Q := p
        rw [e] at p
        exact ix_str ve se pins s σ H _ _ v u Q I ra rb ⟨z, i, k, rfl, rfl, of_decide_eq_true c, e, Post.ok (d := D.str ⟨#[k]⟩) p rfl hr⟩
  case loc n =>
    obtain ⟨a1, rfl, m1⟩ := hx.loc
    cases e : (S[n]?).map rdOb with
    | none =>
      simp only [isSeq, e] at sq
      cases sq
    | some o =>
      cases o with
      | lst ds =>
        cases y with
        | int i =>
          cases (show b = _ from hy)
          simp only [ixF, e] at p
          obtain ⟨d, e4, p⟩ := nth_post (α := Unit) p
          obtain ⟨vs, h3, r3⟩ := hr.rdl m1 e
          obtain ⟨w, e2, r2⟩ := r3.at e4
          exact ix_list ve se pins s σ H _ _ v u Q I ra rb ⟨a1, vs, i, w, rfl, rfl, h3, e2, Post.ok p r2 hr⟩
        | _ =>
          simp only [ixF, e] at p
          exact (show False from p).elim
      | _ =>
        simp only [isSeq, e] at sq
        cases sq
def rDSl (K : PySem.W.Frag) (mg : Str → Option Value) (E : XK) : V → Option Int → Option Int → Hp → VK → Prop := fun v lo hi H Q => ∃ m S x, VR K m H x v ∧ HR K m H S ∧ Post K mg E (VR K) m H (slF x lo hi S) Q
theorem cut_whole {ds : List D} {lo hi : Option Int} (h : HT.sIx ds.length 0 lo = 0 ∧ HT.sIx ds.length ds.length hi = ds.length) : cut ds lo hi = ds := by
  unfold cut
  rw [h.1, h.2]
  simp
theorem sl_ok : SlR X (rDSl X.K mg E) := by
  intro pins s σ H a v vl vu lo hi sl Q I ra hs pl pu h
  obtain ⟨m, S, x, hx, hr, p⟩ := h
  cases x <;> first | exact (show False from p).elim | skip
  case tup ds =>
    obtain ⟨a1, vs, rfl, s1, r1⟩ := hx.tup
    refine sl_tupA pins s σ H _ v vl vu lo hi sl Q I ra hs pl pu ⟨a1, vs, rfl, sqt s1, fun w => ?_, fun w => ?_⟩
    · rw [r1.len] at w
      have p : Post X.K mg E (VR X.K) m H (.ok (.tup (cut ds lo hi)) S) Q := p
      rw [cut_whole w] at p
      exact Post.ok p ⟨a1, vs, rfl, s1, r1⟩ hr
    · exact Post.newT hr (r1.cut lo hi) p
  case wtup ds =>
    obtain ⟨a1, vs, rfl, s1, r1⟩ := hx.wtup
    refine sl_tupA pins s σ H _ v vl vu lo hi sl Q I ra hs pl pu ⟨a1, vs, rfl, s1.sq, fun w => ?_, fun w => ?_⟩
    · rw [r1.len] at w
      have p : Post X.K mg E (VR X.K) m H (.ok (.wtup (cut ds lo hi)) S) Q := p
      rw [cut_whole w] at p
      exact Post.ok p ⟨a1, vs, rfl, s1, r1⟩ hr
    · exact Post.newW hr (r1.cut lo hi) p
  case scr ns =>
    obtain ⟨a1, rfl, s1⟩ := hx
    have r1 : VRs X.K m H (ns.map D.int) (ns.map V.int) := by
      clear p s1
      induction ns with
      | nil => rfl
      | cons n ns ih => exact ⟨_, _, rfl, rfl, ih⟩
    exact sl_list pins s σ H _ v vl vu lo hi sl Q I ra hs pl pu ⟨a1, _, rfl, s1.sq, Post.newO hr (show OH X.K m H (.lst (cut (ns.map D.int) lo hi)) _ from ⟨_, rfl, r1.cut lo hi⟩) p⟩
  case loc n =>
    obtain ⟨a1, rfl, m1⟩ := hx.loc
    cases e : (S[n]?).map rdOb with
    | none =>
      simp only [slF, e] at p
      exact (show False from p).elim
    | some o =>
      cases o with
      | lst ds =>
        simp only [slF, e] at p
        obtain ⟨vs, h3, r3⟩ := hr.rdl m1 e
        exact sl_list pins s σ H _ v vl vu lo hi sl Q I ra hs pl pu ⟨a1, vs, rfl, h3, Post.newO hr (show OH X.K m H (.lst (cut ds lo hi)) _ from ⟨_, rfl, r3.cut lo hi⟩) p⟩
      | _ =>
        simp only [slF, e] at p
        exact (show False from p).elim
def rDT (K : PySem.W.Frag) (mg : Str → Option Value) (E : XK) : V → Hp → (Bool → Hp → Prop) → Prop := fun v H Q => ∃ m S x, VR K m H x v ∧ HR K m H S ∧ Post K mg E RB m H (truthy x S) Q
theorem tru_r {v : V} {H : Hp} {Q : Bool → Hp → Prop} (h : rDT K mg E v H Q) : ∃ k, TruV K v H k ∧ Q k H := by
  obtain ⟨m, S, x, hx, hr, p⟩ := h
  cases x <;> first | exact (show False from p).elim | skip
  case non => cases (show v = _ from hx); exact ⟨false, rfl, Post.ok p rfl hr⟩
  case bl b => cases (show v = _ from hx); exact ⟨b, rfl, Post.ok p rfl hr⟩
  case int b => cases (show v = _ from hx); exact ⟨b != 0, rfl, Post.ok p rfl hr⟩
  case tup ds =>
    obtain ⟨a1, vs, rfl, s1, r1⟩ := VR.tp hx rfl
    refine ⟨!vs.isEmpty, .inr (.inl ⟨vs, s1.sq, rfl⟩), ?_⟩
    have e : (!vs.isEmpty) = (!ds.isEmpty) := by
      cases ds with
      | nil => rw [show vs = [] from r1]; rfl
      | cons d ds => obtain ⟨_, _, rfl, _⟩ := r1; rfl
    rw [e]
    exact Post.ok (d := !ds.isEmpty) p rfl hr
  case wtup ds =>
    obtain ⟨a1, vs, rfl, s1, r1⟩ := VR.tp hx rfl
    refine ⟨!vs.isEmpty, .inr (.inl ⟨vs, s1.sq, rfl⟩), ?_⟩
    have e : (!vs.isEmpty) = (!ds.isEmpty) := by
      cases ds with
      | nil => rw [show vs = [] from r1]; rfl
      | cons d ds => obtain ⟨_, _, rfl, _⟩ := r1; rfl
    rw [e]
    exact Post.ok (d := !ds.isEmpty) p rfl hr
  case loc n =>
    obtain ⟨a1, rfl, m1⟩ := hx.loc
    cases e : (S[n]?).map rdOb with
    | none =>
      simp only [truthy, e] at p
      exact (show False from p).elim
    | some o =>
      cases o with
      | lst ds =>
        simp only [truthy, e] at p
        obtain ⟨vs, h3, r3⟩ := hr.rdl m1 e
        refine ⟨!vs.isEmpty, .inl ⟨vs, h3, rfl⟩, ?_⟩
        have e : (!vs.isEmpty) = (!ds.isEmpty) := by
          cases ds with
          | nil => rw [show vs = [] from r3]; rfl
          | cons d ds => obtain ⟨_, _, rfl, _⟩ := r3; rfl
        rw [e]
        exact Post.ok (d := !ds.isEmpty) p rfl hr
      | _ =>
        simp only [truthy, e] at p
        exact (show False from p).elim
theorem items_post {β : Type} {R : Mm → Hp → List D → β → Prop} {m : Mm} {H : Hp} {d : D} {v : V} {S : Sto} {Q : β → Hp → Prop} (hx : VR K m H d v) (hr : HR K m H S) (p : Post K mg E R m H (itemsOf d S) Q) :
    ∃ a vs ds, v = .ref a ∧ (SqL K H a vs ∨ SqT K H a vs) ∧ VRs K m H ds vs ∧ itemsOf d S = .ok ds S ∧ (tp? d = some ds → WT K H a vs) ∧ (∀ n, d = .loc n → SqL K H a vs) := by
  cases d <;> first | exact (show False from p).elim | skip
  case tup ds =>
    obtain ⟨a1, vs, rfl, s1, r1⟩ := VR.tp hx rfl
    exact ⟨a1, vs, ds, rfl, .inr s1.sq, r1, rfl, fun _ => s1, fun _ z => by cases z⟩
  case wtup ds =>
    obtain ⟨a1, vs, rfl, s1, r1⟩ := VR.tp hx rfl
    exact ⟨a1, vs, ds, rfl, .inr s1.sq, r1, rfl, fun _ => s1, fun _ z => by cases z⟩
  case loc n =>
    obtain ⟨a1, rfl, m1⟩ := hx.loc
    cases e : (S[n]?).map rdOb with
    | none =>
      simp only [itemsOf, e] at p
      exact (show False from p).elim
    | some o =>
      cases o with
      | lst ds =>
        obtain ⟨vs, h3, r3⟩ := hr.rdl m1 e
        exact ⟨a1, vs, ds, rfl, .inl h3, r3, (by simp only [itemsOf, e]), (fun z => by cases z), fun _ _ => h3⟩
      | _ =>
        simp only [itemsOf, e] at p
        exact (show False from p).elim
theorem vrs1 {m : Mm} {H : Hp} {ds : List D} {d : D} {vs : List V} (h : VRs K m H (d :: ds) vs) : ∃ v ws, vs = v :: ws ∧ VR K m H d v ∧ VRs K m H ds ws := h
theorem one_of {m : Mm} {H : Hp} {d : D} {vs : List V} (h : VRs K m H [d] vs) : ∃ v, vs = [v] ∧ VR K m H d v := by
  obtain ⟨v, ws, rfl, h2, h3⟩ := h
  rw [show ws = [] from h3]
  exact ⟨v, rfl, h2⟩
theorem biF1 {f : Bi} {ds : List D} {S : Sto} {m : Mm} {H : Hp} {Q : VK} (p : Post K mg E (VR K) m H (biF f ds S) Q) (h1 : f ≠ .max := by intro z; cases z) (h2 : f ≠ .min := by intro z; cases z) : ∃ d, ds = [d] := by
  match ds, p with
  | [], p => exact (by cases f <;> exact (show False from p).elim)
  | [d], _ => exact ⟨d, rfl⟩
  | a :: b :: r, p => exact (by cases f <;> first | exact (h1 rfl).elim | exact (h2 rfl).elim | (cases a <;> exact (show False from p).elim))
theorem len_ok : CallR X (.builtin "len") (rDL X.K mg E (biF .len)) := by
  intro pins s σ H vs us Q I r h
  obtain ⟨m, S, ds, hv, hr, p⟩ := h
  obtain ⟨d, rfl⟩ := biF1 p
  obtain ⟨v, rfl, hx⟩ := one_of hv
  cases d <;> first | exact (show False from p).elim | skip
  case str z =>
    cases (show v = _ from hx)
    obtain ⟨c, p⟩ := Post.chk p
    exact call_len pins s σ H _ us Q I r ⟨_, z.length, rfl, ⟨of_decide_eq_true c, rfl⟩, Post.ok p rfl hr⟩
  case tup es =>
    obtain ⟨a1, ws, rfl, s1, r1⟩ := VR.tp hx rfl
    refine call_len pins s σ H _ us Q I r ⟨_, ws.length, rfl, .inr ⟨ws, s1.sq, rfl⟩, ?_⟩
    rw [r1.len]
    exact Post.ok (d := D.int es.length) p rfl hr
  case wtup es =>
    obtain ⟨a1, ws, rfl, s1, r1⟩ := VR.tp hx rfl
    refine call_len pins s σ H _ us Q I r ⟨_, ws.length, rfl, .inr ⟨ws, s1.sq, rfl⟩, ?_⟩
    rw [r1.len]
    exact Post.ok (d := D.int es.length) p rfl hr
  case loc n =>
    have p : Post X.K mg E (VR X.K) m H ((itemsOf (.loc n) S).bind fun ds => mp (.int ds.length)) Q := p
    obtain ⟨a, ws, es, rfl, h1, h2, h3, h4, h5⟩ := items_post (R := fun _ _ _ (_ : Unit) => True) hx hr p.bind
    rw [h3] at p
    refine call_len pins s σ H _ us Q I r ⟨_, ws.length, rfl, .inl ⟨ws, h5 n rfl, rfl⟩, ?_⟩
    rw [h2.len]
    exact Post.ok (d := D.int es.length) p rfl hr
theorem abs_ok : CallR X (.builtin "abs") (rDL X.K mg E (biF .abs)) := by
  intro pins s σ H vs us Q I r h
  obtain ⟨m, S, ds, hv, hr, p⟩ := h
  obtain ⟨d, rfl⟩ := biF1 p
  obtain ⟨v, rfl, hx⟩ := one_of hv
  cases d <;> first | exact (show False from p).elim | skip
  case int i =>
    cases (show v = _ from hx)
    exact call_abs pins s σ H _ us Q I r ⟨i, rfl, Post.ok p rfl hr⟩
theorem int_ok : CallR X (.type "int") (rDL X.K mg E (biF .int)) := by
  intro pins s σ H vs us Q I r h
  obtain ⟨m, S, ds, hv, hr, p⟩ := h
  obtain ⟨d, rfl⟩ := biF1 p
  obtain ⟨v, rfl, hx⟩ := one_of hv
  cases d <;> first | exact (show False from p).elim | skip
  case int i =>
    cases (show v = _ from hx)
    exact call_int1 pins s σ H _ us Q I r (.inl ⟨i, rfl, Post.ok p rfl hr⟩)
  case bl i =>
    cases (show v = _ from hx)
    exact call_int1 pins s σ H _ us Q I r (.inr ⟨i, rfl, Post.ok p rfl hr⟩)
theorem str_ok : CallR X (.type "str") (rDL X.K mg E (biF .str)) := by
  intro pins s σ H vs us Q I r h
  obtain ⟨m, S, ds, hv, hr, p⟩ := h
  obtain ⟨d, rfl⟩ := biF1 p
  obtain ⟨v, rfl, hx⟩ := one_of hv
  cases d <;> first | exact (show False from p).elim | skip
  case int i =>
    cases (show v = _ from hx)
    obtain ⟨c, p⟩ := Post.chk p
    exact call_str_int pins s σ H _ us Q I r ⟨i, rfl, of_decide_eq_true c, Post.ok p rfl hr⟩
theorem tuple_ok : CallR X (.type "tuple") (rDL X.K mg E (biF .tuple)) := by
  intro pins s σ H vs us Q I r h
  obtain ⟨m, S, ds, hv, hr, p⟩ := h
  obtain ⟨d, rfl⟩ := biF1 p
  obtain ⟨v, rfl, hx⟩ := one_of hv
  cases d <;> first | exact (show False from p).elim | skip
  case tup es =>
    obtain ⟨a, ws, rfl, s1, r1⟩ := hx.tup
    exact call_tuple_of pins s σ H _ us Q I r ⟨a, ws, rfl, .inr ⟨sqt s1, Post.ok (d := D.tup es) p ⟨a, ws, rfl, s1, r1⟩ hr⟩⟩
  case wtup es =>
    obtain ⟨a, ws, rfl, s1, r1⟩ := hx.wtup
    exact call_tuple_of pins s σ H _ us Q I r ⟨a, ws, rfl, .inr ⟨s1.sq, Post.ok (d := D.wtup es) p ⟨a, ws, rfl, s1, r1⟩ hr⟩⟩
  case loc n =>
    have p : Post X.K mg E (VR X.K) m H ((itemsOf (.loc n) S).bind fun ds => mp (.tup ds)) Q := p
    obtain ⟨a, ws, es, rfl, h1, h2, h3, h4, h5⟩ := items_post (R := fun _ _ _ (_ : Unit) => True) hx hr p.bind
    rw [h3] at p
    exact call_tuple_of pins s σ H _ us Q I r ⟨a, ws, rfl, .inl ⟨h5 n rfl, Post.newT hr h2 p⟩⟩
theorem list_ok : CallR X (.type "list") (rDL X.K mg E (biF .list)) := by
  intro pins s σ H vs us Q I r h
  obtain ⟨m, S, ds, hv, hr, p⟩ := h
  obtain ⟨d, rfl⟩ := biF1 p
  obtain ⟨v, rfl, hx⟩ := one_of hv
  have p : Post X.K mg E (VR X.K) m H ((itemsOf d S).bind fun ds => alloc (.lst ds)) Q := p
  obtain ⟨a, ws, es, rfl, h1, h2, h3, h4, h5⟩ := items_post (R := fun _ _ _ (_ : Unit) => True) hx hr p.bind
  rw [h3] at p
  exact call_list_of pins s σ H _ us Q I r ⟨a, ws, rfl, h1, Post.newO hr (show OH X.K m H (.lst es) _ from ⟨_, rfl, h2⟩) p⟩
theorem sum_ok (hc : X.calm = true) : CallR X (.builtin "sum") (rDL X.K mg E (biF .sum)) := by
  intro pins s σ H vs us Q I r h
  obtain ⟨m, S, ds, hv, hr, p⟩ := h
  obtain ⟨d, rfl⟩ := biF1 p
  obtain ⟨v, rfl, hx⟩ := one_of hv
  have p : Post X.K mg E (VR X.K) m H ((itemsOf d S).bind fun ds => match dInts ds with
    | some ns => mp (D.int ns.sum)
    | none => mbad) Q := p
  obtain ⟨a, ws, es, rfl, h1, h2, h3, h4, h5⟩ := items_post (R := fun _ _ _ (_ : Unit) => True) hx hr p.bind
  rw [h3] at p
  have p : Post X.K mg E (VR X.K) m H ((match dInts es with
    | some ns => mp (D.int ns.sum)
    | none => mbad : M D) S) Q := p
  cases e : dInts es with
  | none => rw [e] at p; exact (show False from p).elim
  | some ns =>
    rw [e] at p
    rw [ints_vs h2 e] at h1
    exact cr_sumA hc pins s σ H _ us Q I r ⟨a, ns, rfl, h1, Post.ok (d := D.int ns.sum) p rfl hr⟩
theorem all_ok (hc : X.calm = true) : CallR X (.builtin "all") (rDL X.K mg E (biF .all)) := by
  intro pins s σ H vs us Q I r h
  obtain ⟨m, S, ds, hv, hr, p⟩ := h
  obtain ⟨d, rfl⟩ := biF1 p
  obtain ⟨v, rfl, hx⟩ := one_of hv
  cases d <;> first | exact (show False from p).elim | skip
  case loc n =>
    obtain ⟨a1, rfl, m1⟩ := hx.loc
    cases e : (S[n]?).map rdOb with
    | none =>
      simp only [biF, e] at p
      exact (show False from p).elim
    | some o =>
      cases o with
      | lst ds =>
        obtain ⟨ws, h3, r3⟩ := hr.rdl m1 e
        cases e2 : dBools ds with
        | none =>
          simp only [biF, e, e2] at p
          exact (show False from p).elim
        | some bs =>
          simp only [biF, e, e2] at p
          rw [bools_vs r3 e2] at h3
          exact cr_all hc pins s σ H _ us Q I r ⟨a1, bs, rfl, h3, Post.ok (d := D.bl (bs.all id)) p rfl hr⟩
      | _ =>
        simp only [biF, e] at p
        exact (show False from p).elim
theorem keyIs_eq : ∀ {k : List L2.Key} {ns : List Int}, keyIs k = some ns → k = ns.map Sum.inl
  | [], ns, h => by cases (show some [] = some ns from h); rfl
  | .inl i :: r, ns, h => by
    have h : (keyIs r).map (i :: ·) = some ns := h
    cases q : keyIs r with
    | none => rw [q] at h; cases h
    | some js => rw [q] at h; cases h; rw [keyIs_eq q]; rfl
  | .inr _ :: _, _, h => by cases h
theorem keysI_eq : ∀ {l : List (List L2.Key)} {L : List (List Int)}, keysI l = some L → l = L.map (fun ns => ns.map Sum.inl) ∧ ∀ ns ∈ L, ns ≠ []
  | [], L, h => by cases (show some [] = some L from h); exact ⟨rfl, fun ns h => by cases h⟩
  | k :: r, L, h => by
    unfold keysI at h
    by_cases c : k.isEmpty = true
    · rw [if_pos c] at h; cases h
    · rw [if_neg c] at h
      cases q : keyIs k with
      | none => rw [q] at h; cases h
      | some ns =>
        rw [q] at h
        have h : (keysI r).map (ns :: ·) = some L := h
        cases q2 : keysI r with
        | none => rw [q2] at h; cases h
        | some L' =>
          rw [q2] at h
          cases h
          obtain ⟨h1, h2⟩ := keysI_eq q2
          have e := keyIs_eq q
          refine ⟨by rw [h1, e]; rfl, fun ms hm => ?_⟩
          rcases List.mem_cons.mp hm with rfl | hm
          · intro z
            rw [e, z] at c
            exact c rfl
          · exact h2 ms hm
theorem insL_perm (x : List Int) : ∀ l, (insL x l).Perm (x :: l)
  | [] => List.Perm.refl _
  | y :: ys => by
    unfold insL
    split
    · exact ((insL_perm x ys).cons y).trans (List.Perm.swap x y ys)
    · exact List.Perm.refl _
theorem srtL_perm : ∀ l, (srtL l).Perm l
  | [] => List.Perm.refl _
  | x :: l => (insL_perm x (srtL l)).trans ((srtL_perm l).cons x)
theorem insL_srt (x : List Int) : ∀ l, l.Pairwise (fun a b => HT.lexLt b a = false) → (insL x l).Pairwise (fun a b => HT.lexLt b a = false)
  | [], _ => List.pairwise_singleton _ _
  | y :: ys, h => by
    unfold insL
    obtain ⟨h1, h2⟩ := List.pairwise_cons.mp h
    split
    · rename_i c
      refine List.pairwise_cons.mpr ⟨fun z hz => ?_, insL_srt x ys h2⟩
      rcases List.mem_cons.mp ((insL_perm x ys).mem_iff.mp hz) with rfl | hz
      · exact NtL.lex_asym _ _ c
      · exact h1 z hz
    · rename_i c
      have c : HT.lexLt y x = false := by simpa using c
      refine List.pairwise_cons.mpr ⟨fun z hz => ?_, h⟩
      rcases List.mem_cons.mp hz with rfl | hz
      · exact c
      · exact NtL.lex_tr _ _ _ c (h1 z hz)
theorem srtL_srt : ∀ l, (srtL l).Pairwise (fun a b => HT.lexLt b a = false)
  | [] => List.Pairwise.nil
  | x :: l => insL_srt x _ (srtL_srt l)
theorem lex_eq : ∀ {a b : List Int}, HT.lexLt a b = false → HT.lexLt b a = false → a = b
  | [], [], _, _ => rfl
  | [], y :: ys, h, _ => by rw [HT.lexLt_nil_cons] at h; cases h
  | x :: xs, [], _, h => by rw [HT.lexLt_nil_cons] at h; cases h
  | x :: xs, y :: ys, h, h' => by
    rw [HT.lexLt_cons] at h h'
    by_cases e : x = y
    · subst e
      rw [if_pos rfl] at h h'
      rw [lex_eq h h']
    · rw [if_neg e] at h
      rw [if_neg (fun z => e z.symm)] at h'
      have a := of_decide_eq_false h
      have b := of_decide_eq_false h'
      omega
theorem srt_uniq : ∀ {l m : List (List Int)}, l.Perm m → l.Pairwise (fun a b => HT.lexLt b a = false) → m.Pairwise (fun a b => HT.lexLt b a = false) → l = m
  | [], m, p, _, _ => (List.Perm.eq_nil p.symm).symm
  | x :: l, [], p, _, _ => absurd p.length_eq (by simp)
  | x :: l, y :: m, p, h1, h2 => by
    obtain ⟨a1, a2⟩ := List.pairwise_cons.mp h1
    obtain ⟨b1, b2⟩ := List.pairwise_cons.mp h2
    have irr : ∀ z : List Int, HT.lexLt z z = false := fun z => (NtL.swo_lexL (id : List Int → List Int)).refl z
    have e1 : HT.lexLt x y = false := by
      rcases List.mem_cons.mp (p.mem_iff.mp (List.mem_cons_self (a := x) (l := l))) with e | hx
      · rw [e]; exact irr y
      · exact b1 x hx
    have e2 : HT.lexLt y x = false := by
      rcases List.mem_cons.mp (p.mem_iff.mpr (List.mem_cons_self (a := y) (l := m))) with e | hy
      · rw [e]; exact irr x
      · exact a1 y hy
    have e := lex_eq e1 e2
    subst e
    rw [srt_uniq p.cons_inv a2 b2]
theorem vrs_tups {m : Mm} {H : Hp} : ∀ (bs : List (Addr × List Int)), (∀ b ∈ bs, H b.1 = some (.tup (b.2.map V.int))) → VRs K m H (bs.map fun b => tupI b.2) (bs.map fun b => V.ref b.1)
  | [], _ => rfl
  | b :: bs, h => ⟨_, _, rfl, ⟨b.1, _, rfl, h b (List.mem_cons_self ..), vrs_ints b.2⟩, vrs_tups bs fun c hc => h c (List.mem_cons_of_mem _ hc)⟩
theorem sorted_ok (hc : X.calm = true) : CallR X (.builtin "sorted") (rDL X.K mg E (biF .sorted)) := by
  intro pins s σ H vs us Q I r h
  obtain ⟨m, S, ds, hv, hr, p⟩ := h
  obtain ⟨d, rfl⟩ := biF1 p
  obtain ⟨v, rfl, hx⟩ := one_of hv
  cases d <;> first | exact (show False from p).elim | skip
  case loc n =>
    obtain ⟨a1, rfl, m1⟩ := hx.loc
    cases e : (S[n]?).map rdOb with
    | none =>
      simp only [biF, e] at p
      exact (show False from p).elim
    | some o =>
      cases o with
      | dT kvs =>
        obtain ⟨ws, h3, r3⟩ := hr.rdT m1 e
        cases e2 : keysI (kvs.map (·.1)) with
        | none =>
          simp only [biF, e, e2] at p
          exact (show False from p).elim
        | some L =>
          simp only [biF, e, e2] at p
          obtain ⟨k1, k2⟩ := keysI_eq e2
          rw [r3.1] at k1
          refine cr_sortedDT hc pins s σ H _ us Q I r ⟨a1, ws, L, rfl, h3, k1, k2, fun q bs b1 b2 b3 nq => ?_⟩
          have e3 : bs.map (·.2) = srtL L := srt_uniq (b1.trans (srtL_perm L).symm) (List.pairwise_map.mpr b2) (srtL_srt L)
          have e4 : (srtL L).map tupI = bs.map fun b => tupI b.2 := by rw [← e3, List.map_map]; rfl
          rw [e4] at p
          exact Post.newO hr (show OH X.K m H (.lst (bs.map fun b => tupI b.2)) _ from ⟨_, rfl, vrs_tups bs b3⟩) p q nq
      | _ =>
        simp only [biF, e] at p
        exact (show False from p).elim
theorem maxL_ok : ∀ (r : List Int) (x : Int), maxL x r ∈ x :: r ∧ ∀ y ∈ x :: r, y ≤ maxL x r
  | [], x => ⟨List.mem_cons_self .., fun y h => by rw [List.mem_singleton.mp h]; exact Int.le_refl _⟩
  | z :: r, x => by
    have e : maxL x (z :: r) = maxL (if x < z then z else x) r := rfl
    obtain ⟨h1, h2⟩ := maxL_ok r (if x < z then z else x)
    rw [e]
    have h3 := h2 _ (List.mem_cons_self ..)
    constructor
    · rcases List.mem_cons.mp h1 with h | h
      · rw [h]
        split
        · exact List.mem_cons_of_mem _ (List.mem_cons_self ..)
        · exact List.mem_cons_self ..
      · exact List.mem_cons_of_mem _ (List.mem_cons_of_mem _ h)
    · intro y hy
      have h4 : ∀ y ∈ r, y ≤ maxL (if x < z then z else x) r := fun y hy => h2 y (List.mem_cons_of_mem _ hy)
      generalize maxL (if x < z then z else x) r = M at h3 h4 ⊢
      rcases List.mem_cons.mp hy with rfl | hy
      · split at h3 <;> omega
      · rcases List.mem_cons.mp hy with rfl | hy
        · split at h3 <;> omega
        · exact h4 y hy
theorem minL_ok : ∀ (r : List Int) (x : Int), minL x r ∈ x :: r ∧ ∀ y ∈ x :: r, minL x r ≤ y
  | [], x => ⟨List.mem_cons_self .., fun y h => by rw [List.mem_singleton.mp h]; exact Int.le_refl _⟩
  | z :: r, x => by
    have e : minL x (z :: r) = minL (if z < x then z else x) r := rfl
    obtain ⟨h1, h2⟩ := minL_ok r (if z < x then z else x)
    rw [e]
    have h3 := h2 _ (List.mem_cons_self ..)
    constructor
    · rcases List.mem_cons.mp h1 with h | h
      · rw [h]
        split
        · exact List.mem_cons_of_mem _ (List.mem_cons_self ..)
        · exact List.mem_cons_self ..
      · exact List.mem_cons_of_mem _ (List.mem_cons_of_mem _ h)
    · intro y hy
      have h4 : ∀ y ∈ r, minL (if z < x then z else x) r ≤ y := fun y hy => h2 y (List.mem_cons_of_mem _ hy)
      generalize minL (if z < x then z else x) r = M at h3 h4 ⊢
      rcases List.mem_cons.mp hy with rfl | hy
      · split at h3 <;> omega
      · rcases List.mem_cons.mp hy with rfl | hy
        · split at h3 <;> omega
        · exact h4 y hy
theorem max_ok (hc : X.calm = true) : CallR X (.builtin "max") (rDL X.K mg E (biF .max)) := by
  intro pins s σ H vs us Q I r h
  obtain ⟨m, S, ds, hv, hr, p⟩ := h
  match ds, hv, p with
  | [], _, p => exact (show False from p).elim
  | [d], hv, p =>
    obtain ⟨v, rfl, hx⟩ := one_of hv
    cases d <;> first | exact (show False from p).elim | skip
    case loc n =>
      obtain ⟨a1, rfl, m1⟩ := hx.loc
      cases e : (S[n]?).map rdOb with
      | none =>
        simp only [biF, e] at p
        exact (show False from p).elim
      | some o =>
        cases o with
        | lst ds =>
          obtain ⟨ws, h3, r3⟩ := hr.rdl m1 e
          cases e2 : dInts ds with
          | none =>
            simp only [biF, e, e2] at p
            exact (show False from p).elim
          | some ns =>
            rw [ints_vs r3 e2] at h3
            cases ns with
            | nil =>
              simp only [biF, e, e2] at p
              exact (show False from p).elim
            | cons x r2 =>
              simp only [biF, e, e2] at p
              obtain ⟨k1, k2⟩ := maxL_ok r2 x
              refine cr_max hc pins s σ H _ us Q I r ⟨a1, x :: r2, rfl, h3, by simp, fun z hz hm => ?_⟩
              have e5 : z = maxL x r2 := by
                have q1 := k2 z hz
                have q2 := hm _ k1
                omega
              rw [e5]
              exact Post.ok (d := D.int (maxL x r2)) p rfl hr
        | _ =>
          simp only [biF, e] at p
          exact (show False from p).elim
  | [d, d'], hv, p =>
    obtain ⟨v, ws, rfl, r2, r3⟩ := vrs1 hv
    obtain ⟨v', rfl, r4⟩ := one_of r3
    cases d <;> first | exact (show False from p).elim | skip
    case int i =>
      cases d' <;> first | exact (show False from p).elim | skip
      case int j =>
        cases (show v = _ from r2)
        cases (show v' = _ from r4)
        exact call_max2 hc pins s σ H _ us Q I r ⟨i, j, rfl, Post.ok (d := D.int (if j > i then j else i)) p rfl hr⟩
  | a :: b :: c :: r, _, p => cases a <;> first | exact (show False from p).elim | (cases b <;> exact (show False from p).elim)
theorem min_ok (hc : X.calm = true) : CallR X (.builtin "min") (rDL X.K mg E (biF .min)) := by
  intro pins s σ H vs us Q I r h
  obtain ⟨m, S, ds, hv, hr, p⟩ := h
  match ds, hv, p with
  | [], _, p => exact (show False from p).elim
  | [d], hv, p =>
    obtain ⟨v, rfl, hx⟩ := one_of hv
    cases d <;> first | exact (show False from p).elim | skip
    case loc n =>
      obtain ⟨a1, rfl, m1⟩ := hx.loc
      cases e : (S[n]?).map rdOb with
      | none =>
        simp only [biF, e] at p
        exact (show False from p).elim
      | some o =>
        cases o with
        | lst ds =>
          obtain ⟨ws, h3, r3⟩ := hr.rdl m1 e
          cases e2 : dInts ds with
          | none =>
            simp only [biF, e, e2] at p
            exact (show False from p).elim
          | some ns =>
            rw [ints_vs r3 e2] at h3
            cases ns with
            | nil =>
              simp only [biF, e, e2] at p
              exact (show False from p).elim
            | cons x r2 =>
              simp only [biF, e, e2] at p
              obtain ⟨k1, k2⟩ := minL_ok r2 x
              refine cr_min hc pins s σ H _ us Q I r ⟨a1, x :: r2, rfl, h3, by simp, fun z hz hm => ?_⟩
              have e5 : z = minL x r2 := by
                have q1 := k2 z hz
                have q2 := hm _ k1
                omega
              rw [e5]
              exact Post.ok (d := D.int (minL x r2)) p rfl hr
        | _ =>
          simp only [biF, e] at p
          exact (show False from p).elim
  | [d, d'], hv, p =>
    obtain ⟨v, ws, rfl, r2, r3⟩ := vrs1 hv
    obtain ⟨v', rfl, r4⟩ := one_of r3
    cases d <;> first | exact (show False from p).elim | skip
    case int i =>
      cases d' <;> first | exact (show False from p).elim | skip
      case int j =>
        cases (show v = _ from r2)
        cases (show v' = _ from r4)
        exact call_min2 hc pins s σ H _ us Q I r ⟨i, j, rfl, Post.ok (d := D.int (if j < i then j else i)) p rfl hr⟩
  | a :: b :: c :: r, _, p => cases a <;> first | exact (show False from p).elim | (cases b <;> exact (show False from p).elim)
theorem ty_of {m : Mm} {H : Hp} {S : Sto} {d : D} {v : V} {t : String} (hx : VR K m H d v) (hr : HR K m H S) (e : tyName S d = some t) : TyX K H v (.type t) := by
  cases d <;> first | (cases e; done) | skip
  case non => cases (show v = _ from hx); cases e; exact .base .non
  case bl b => cases (show v = _ from hx); cases e; exact .base (.bl b)
  case int b => cases (show v = _ from hx); cases e; exact .base (.int b)
  case str b => cases (show v = _ from hx); cases e; exact .base (.str b)
  case tup ds =>
    obtain ⟨a, vs, rfl, s1, r1⟩ := hx.tup
    cases e
    exact .base (.tup s1)
  case wtup ds =>
    obtain ⟨a, vs, rfl, s1, r1⟩ := hx.wtup
    cases e
    rcases s1 with s1 | ⟨o, its, n, s1, s2, _⟩
    · exact .base (.tup s1)
    · exact .kTuple s1 s2
  case loc n =>
    obtain ⟨a, rfl, m1⟩ := hx.loc
    cases q : S[n]? with
    | none => simp only [tyName, q] at e; cases e
    | some o =>
      obtain ⟨u, h1, h2⟩ := hr.ob n a o m1 q
      cases o with
      | lst ds =>
        simp only [tyName, q] at e
        cases e
        obtain ⟨vs, rfl, _⟩ := h2
        exact .base (.lst h1)
      | dK ds =>
        simp only [tyName, q] at e
        cases e
        obtain ⟨vs, rfl, _⟩ := h2
        exact .base (.dK h1)
      | dT ds =>
        simp only [tyName, q] at e
        cases e
        obtain ⟨vs, rfl, _⟩ := h2
        exact .base (.dT h1)
      | lk o2 =>
        cases o2 with
        | lst ds =>
          simp only [tyName, q] at e
          cases e
          obtain ⟨ob, u', rfl, vs, rfl, _⟩ := h2
          exact .base (.frz h1)
        | _ => simp only [tyName, q] at e; cases e
theorem kit_all (a b : String) (ha : a ∈ ["NoneType", "bool", "int", "str", "tuple", "list", "dict"]) (hb : b ∈ ["tuple", "int", "bool", "str", "list"]) : kitB a b = some (a == b || (b == "int" && a == "bool")) := by
  have : (["NoneType", "bool", "int", "str", "tuple", "list", "dict"].all fun a => ["tuple", "int", "bool", "str", "list"].all fun b => decide (kitB a b = some (a == b || (b == "int" && a == "bool")))) = true := by decide +kernel
  rw [List.all_eq_true] at this
  have := this a ha
  rw [List.all_eq_true] at this
  exact of_decide_eq_true (this b hb)
theorem tyName_mem {S : Sto} {d : D} {t : String} (e : tyName S d = some t) : t ∈ ["NoneType", "bool", "int", "str", "tuple", "list", "dict"] := by
  cases d with
  | loc n =>
    cases q : S[n]? with
    | none => simp only [tyName, q] at e; cases e
    | some o =>
      cases o with
      | lk o2 => cases o2 <;> simp only [tyName, q] at e <;> first | (cases e; decide) | cases e
      | _ => simp only [tyName, q] at e; cases e; decide
  | exc c => cases e
  | scr c => cases e
  | _ => cases e; decide
/-- isinstance(x, T) -/
theorem isF_r {m : Mm} {H : Hp} {S : Sto} {d : D} {v : V} {T : String} {Q : VK} (hT : T ∈ ["tuple", "int", "bool", "str", "list"]) (hx : VR K m H d v) (hr : HR K m H S) (p : Post K mg E (VR K) m H (isF T d S) Q) : rIsi K [v, .ty T] H Q := by
  unfold isF at p
  cases e : tyName S d with
  | none => rw [e] at p; exact (show False from p).elim
  | some t =>
    rw [e] at p
    exact ⟨v, .ty T, _, _, _, rfl, .ty T, ty_of hx hr e, kit_ty (kit_all t T (tyName_mem e) hT), Post.ok (d := D.bl (t == T || (T == "int" && t == "bool"))) p rfl hr⟩
end
end Mp
namespace Mp
open PySem L2
/-! ### is this term that expression? -/
structure Bk where
  N : List Str
  fns : List (Str × Nat)
  cons : List Str
  exn : List Str
def visB (sc : Scope) (x : Str) : Bool := match sc.names.lookup x with
  | some .local => true
  | some .cell => true
  | some .free => true
  | _ => false
def locB (sc : Scope) (x : Str) : Bool := match sc.names.lookup x with
  | some .local => true
  | some .cell => true
  | _ => false
def glB (sc : Scope) (x : Str) : Bool := match sc.names.lookup x with
  | some .globalImplicit => true
  | _ => false
def okName (x : Str) : Bool := !(x == ("__debug__" : Str)) && !(x == ("__classdict__" : Str)) && !(x == ("__name__" : Str))
def plainX : Expr → Bool
  | .Starred _ _ => false
  | .Slice _ _ _ _ => false
  | .Set _ _ _ => false
  | .Call (.Name _ _) [] [] _ => false
  | _ => true
def conOk : D → Const → Bool
  | .non, .none => true
  | .bl b, .bool c => b == c
  | .int i, .int j => i == j
  | .str x, .str y => decide (x = y)
  | _, _ => false
def Bop.op : Bop → Operator
  | .add => .Add | .sub => .Sub | .mul => .Mult | .fdv => .FloorDiv | .mod => .Mod | .pow => .Pow
def Cop.op : Cop → CmpOp
  | .eq => .Eq | .ne => .NotEq | .lt => .Lt | .le => .LtE | .gt => .Gt | .ge => .GtE | .is => .Is | .isnot => .IsNot
def Bi.nm : Bi → Str
  | .len => "len" | .abs => "abs" | .int => "int" | .str => "str" | .tuple => "tuple" | .list => "list" | .sum => "sum" | .max => "max" | .min => "min" | .all => "all" | .any => "any" | .sorted => "sorted"
def Bi.done : Bi → Bool
  | .any => false
  | _ => true
def biNames : List Str := ["len", "abs", "int", "str", "tuple", "list", "sum", "max", "min", "all", "any", "isinstance", "bool", "range", "zip", "enumerate", "reversed", "sorted", "dict"]
def ownOk (own : List (Str × Nat)) (sc : Scope) : Bool := own.all fun p => locB sc p.1
def plainT : Expr → Bool
  | .Name _ _ => true
  | .Call _ _ _ _ => true
  | .Subscript _ _ _ => true
  | .Constant _ _ _ => true
  | _ => false
def chkTg (B : Bk) (sc : Scope) (g : Tg) (e : Expr) : Bool := match g with
  | .nm i => match e with
    | .Name x _ => decide (B.N[i]? = some x) && locB sc x
    | _ => false
  | .tp l => match e with
    | .Tuple es _ _ => decide (l.length = es.length) && (l.zip es).all fun p => match p.2 with
      | .Name x _ => decide (B.N[p.1]? = some x) && locB sc x
      | _ => false
    | _ => false
def notComp : Expr → Bool
  | .ListComp _ _ _ _ => false
  | .SetComp _ _ _ _ => false
  | .DictComp _ _ _ _ _ => false
  | _ => true
def notTup : Expr → Bool
  | .Tuple _ _ _ => false
  | _ => true
def notSet : Expr → Bool
  | .Set _ _ _ => false
  | _ => true
def clsNm (B : Bk) (sc : Scope) (d : Str) : Expr → Bool
  | .Name x _ => decide (x = d) && glB sc x && okName x && (decide (d = ("ValueError" : Str)) || decide (d ∈ B.exn))
  | _ => false
def clsNms (B : Bk) (sc : Scope) : List Str → List Expr → Bool
  | [], [] => true
  | d :: ds, e :: es => plainX e && clsNm B sc d e && clsNms B sc ds es
  | _, _ => false
def isZ : Ie → Bool
  | .itz _ _ => true
  | _ => false
def isTupE : Expr → Bool
  | .Tuple _ _ _ => true
  | _ => false
mutual
def chkE (B : Bk) (sc : Scope) : Ie → Expr → Bool
  | .var i, e => match e with
    | .Name x _ => decide (B.N[i]? = some x) && visB sc x && okName x
    | _ => false
  | .con d, e => match e with
    | .Constant c _ _ => conOk d c
    | _ => false
  | .glob x, e => match e with
    | .Name y _ => decide (x = y) && glB sc x && decide (x ∈ B.cons) && okName x
    | _ => false
  | .tup a, e => match e with
    | .Tuple es _ _ => chkA B sc a es
    | _ => false
  | .lst a, e => match e with
    | .List es _ => chkA B sc a es
    | _ => false
  | .newK, e => match e with
    | .Dict [] [] _ => true
    | _ => false
  | .newT, e => match e with
    | .Dict [] [] _ => true
    | _ => false
  | .bin op a b, e => match e with
    | .BinOp x o y _ => decide (o = op.op) && chkE B sc a x && chkE B sc b y
    | _ => false
  | .cmp op a b, e => match e with
    | .Compare x [o] [y] _ => decide (o = op.op) && chkE B sc a x && chkE B sc b y && plainX y
    | _ => false
  | .chn op op' a b c, e => match e with
    | .Compare x [o, o'] [y, z] _ => decide (o = op.op) && decide (o' = op'.op) && chkE B sc a x && chkE B sc b y && chkE B sc c z && plainX y && plainX z
    | _ => false
  | .andV a b, e => match e with
    | .BoolOp .And [x, y] _ => chkE B sc a x && chkE B sc b y
    | .BoolOp .And (x :: y :: z :: r) p => chkE B sc a x && chkE B sc b (.BoolOp .And (y :: z :: r) p)
    | _ => false
  | .orV a b, e => match e with
    | .BoolOp .Or [x, y] _ => chkE B sc a x && chkE B sc b y
    | .BoolOp .Or (x :: y :: z :: r) p => chkE B sc a x && chkE B sc b (.BoolOp .Or (y :: z :: r) p)
    | _ => false
  | .notV a, e => match e with
    | .UnaryOp .Not x _ => chkE B sc a x
    | _ => false
  | .ife t a b, e => match e with
    | .IfExp c x y _ => chkT B sc t c && chkE B sc a x && chkE B sc b y
    | _ => false
  | .neg a, e => match e with
    | .UnaryOp .USub x _ => chkE B sc a x
    | _ => false
  | .ix a b, e => match e with
    | .Subscript x y _ => chkE B sc a x && chkE B sc b y && plainX y
    | _ => false
  | .sl a lo hi, e => match e with
    | .Subscript x (.Slice l h none _) _ => chkE B sc a x && chkO B sc lo l && chkO B sc hi h
    | _ => false
  | .call f a, e => match e with
    | .Call (.Name g _) (x :: xs) [] _ => decide (f = g) && glB sc g && okName g && decide ((g, xs.length + 1) ∈ B.fns) && chkA B sc a (x :: xs)
    | _ => false
  | .bi f a, e => match e with
    | .Call (.Name g _) (x :: xs) [] _ => decide (f.nm = g) && glB sc g && f.done && chkA B sc a (x :: xs)
    | _ => false
  | .isi T a, e => match e with
    | .Call (.Name g _) [x, .Name t _] [] _ => decide (g = ("isinstance" : Str)) && glB sc g && decide (t = Str.ofString T.nm) && glB sc t && plainX x && chkE B sc a x
    | _ => false
  | .isx l a, e => match e with
    | .Call (.Name g _) [x, t] [] _ => decide (g = ("isinstance" : Str)) && glB sc g && plainX x && chkE B sc a x && (match t with
      | .Tuple es _ _ => decide (es.length ≤ 1000) && clsNms B sc l es
      | t => (match l with
        | [d] => plainX t && clsNm B sc d t
        | _ => false))
    | _ => false
  | .comp own it tg t e, ex => match ex with
    | .ListComp elt [⟨tgx, iter, ifs, 0⟩] scope _ => blkC B.N sc scope own && (chkI B sc it iter && (!isZ it || isTupE tgx)) && chkTg B scope (tgOf tg) tgx && (tg.all fun i => decide (i ∈ own.map (·.2))) && (match ifs with
      | [] => (match t with
        | .yes => true
        | _ => false)
      | [c] => chkT B scope t c
      | _ => false) && chkE B scope e elt
    | _ => false
  | .compD own i tg t e, ex => match ex with
    | .ListComp elt [⟨tgx, .Name x _, ifs, 0⟩] scope _ => blkC B.N sc scope own && (decide (B.N[i]? = some x) && visB sc x && okName x) && chkTg B scope (tgOf tg) tgx && (tg.all fun i => decide (i ∈ own.map (·.2))) && (match ifs with
      | [] => (match t with
        | .yes => true
        | _ => false)
      | [c] => chkT B scope t c
      | _ => false) && chkE B scope e elt
    | _ => false
  | .maxd a d, e => match e with
    | .Call (.Name g _) [x] [⟨some k, y, _⟩] _ => decide (g = ("max" : Str)) && glB sc g && decide (k = ("default" : Str)) && plainX x && chkE B sc a x && chkE B sc d y
    | _ => false
  | .isin neg a b, e => match e with
    | .Compare x [o] [y] _ => decide (o = if neg then CmpOp.NotIn else CmpOp.In) && chkE B sc a x && chkE B sc b y && plainX y
    | _ => false
  | .app a b, e => match e with
    | .Call (.Attribute o m ap) [x] [] p => decide (m = ("append" : Str)) && plainX o && plainX x && (ap.endLine == p.line) && chkE B sc a o && chkE B sc b x
    | _ => false
  | .get2 d k x, e => match e with
    | .Call (.Attribute o m ap) [y, z] [] p => decide (m = ("get" : Str)) && plainX o && plainX y && plainX z && (ap.endLine == p.line) && chkE B sc d o && chkE B sc k y && chkE B sc x z
    | _ => false
  | .rev a, e => match e with
    | .Subscript x (.Slice none none (some (.UnaryOp .USub (.Constant (.int 1) _ _) _)) _) _ => chkE B sc a x
    | _ => false
  | .popK d k, e => match e with
    | .Call (.Attribute o m ap) [y] [] p => decide (m = ("pop" : Str)) && plainX o && plainX y && (ap.endLine == p.line) && chkE B sc d o && chkE B sc k y
    | _ => false
  | _, _ => false
def chkA (B : Bk) (sc : Scope) : Ie → List Expr → Bool
  | .nil, es => match es with
    | [] => true
    | _ => false
  | .cons a b, es => match es with
    | x :: xs => plainX x && chkE B sc a x && chkA B sc b xs
    | _ => false
  | _, _ => false
def chkO (B : Bk) (sc : Scope) : Ie → Option Expr → Bool
  | .nil, e => match e with
    | none => true
    | _ => false
  | .cons a b, e => match b, e with
    | .nil, some x => chkE B sc a x
    | _, _ => false
  | _, _ => false
def chkI (B : Bk) (sc : Scope) : Ie → Expr → Bool
  | .itv a, e => chkE B sc a e && notSet e
  | .itr a, e => match e with
    | .Call (.Name g _) (x :: xs) [] _ => decide (g = ("range" : Str)) && glB sc g && decide (xs.length ≤ 1) && chkA B sc a (x :: xs)
    | _ => false
  | .itz a b, e => match e with
    | .Call (.Name g _) [x, y] [] _ => decide (g = ("zip" : Str)) && glB sc g && plainX x && plainX y && chkE B sc a x && chkE B sc b y
    | _ => false
  | _, _ => false
def chkT (B : Bk) (sc : Scope) : Ie → Expr → Bool
  | .andV a b, e => match e with
    | .BoolOp .And [x, y] _ => chkT B sc a x && chkT B sc b y
    | .BoolOp .And (x :: y :: z :: r) p => chkT B sc a x && chkT B sc b (.BoolOp .And (y :: z :: r) p)
    | _ => false
  | .orV a b, e => match e with
    | .BoolOp .Or [x, y] _ => chkT B sc a x && chkT B sc b y
    | .BoolOp .Or (x :: y :: z :: r) p => chkT B sc a x && chkT B sc b (.BoolOp .Or (y :: z :: r) p)
    | _ => false
  | .notV a, e => match e with
    | .UnaryOp .Not x _ => chkT B sc a x
    | _ => false
  | .cons a b, e => match a, b with
    | .cmp op c d, .nil => match e with
      | .Compare x [o] [y] _ => decide (o = op.op) && chkE B sc c x && chkE B sc d y && plainX y
      | _ => false
    | .isin neg c d, .nil => match e with
      | .Compare x [o] [y] _ => decide (o = if neg then CmpOp.NotIn else CmpOp.In) && chkE B sc c x && chkE B sc d y && plainX y
      | _ => false
    | .chn op op' c d f, .nil => match e with
      | .Compare x [o, o'] [y, z] _ => decide (o = op.op) && decide (o' = op'.op) && chkE B sc c x && chkE B sc d y && chkE B sc f z && plainX y && plainX z
      | _ => false
    | a, .nil => plainT e && chkE B sc a e
    | _, _ => false
  | _, _ => false
end
/-! ### what is known of the context -/
structure ScR (sc : Scope) (X : Cx) : Prop where
  gl : ∀ x, glB sc x = true → Gl X x
  vis : ∀ x, visB sc x = true → Vis X.env.scope x
  loc : ∀ x, locB sc x = true → Loc X.env.scope x ∧ (X.fn x = true ∨ X.env.scope.names.lookup x = some .local)
  lo : ∀ x, sc.names.lookup x = some .local → X.env.scope.names.lookup x = some .local
  fr : ∀ x, (sc.names.lookup x = some .cell ∨ sc.names.lookup x = some .free) → X.env.scope.names.lookup x = some .cell ∨ X.env.scope.names.lookup x = some .free
def spOf (K : PySem.W.Frag) (mg : Str → Option Value) (F : List D → M D) (n : Nat) : Sp := fun vs H Q E => vs.length = n ∧ rDL K mg E F vs H Q
/-- what is known of the program's classes of error -/
structure ExT (K : PySem.W.Frag) (mg : Str → Option Value) (exn : List Str) : Prop where
  kn : ∀ c ∈ exnAll, ∀ C, mg c = some (.ref C) → PySem.W.nsIn K mainGlobals c = some (some (.ref C)) ∧ ExcC K C ∧ PySem.W.kitOne K (.ref C) (.type "ValueError") = some true ∧
    ∀ d ∈ exnAll, ∀ D, mg d = some (.ref D) → PySem.W.exmOne K (.ref C) (.ref D) = some (subE c d) ∧ PySem.W.kitOne K (.ref C) (.ref D) = some (subE c d)
  ki : ∀ c C, PySem.W.nsIn K mainGlobals c = some (some (.ref C)) → mg c = some (.ref C)
  kl : ∀ d ∈ exn, d ∈ exnAll ∧ ∃ D, mg d = some (.ref D)
  vn : mg ("ValueError" : Str) = none
structure MC (G : Gt) (B : Bk) (X : Cx) (E : XK) : Prop where
  n : X.N = B.N
  nd : X.N.Nodup
  calm : X.calm = true
  hu : X.A.units + 65 < cLine
  own : PassesOwn (model X.prog X.w) X.A X.env X.xe
  bi : ∀ x ∈ biNames, X.mg x = none
  con : ∀ x ∈ B.cons, ∃ d u v, G.con x = some d ∧ X.mg x = some u ∧ RelV v u ∧ ∀ m H, VR X.K m H d v
  fn : ∀ f n, (f, n) ∈ B.fns → ∃ a fd ps k, X.mg f = some (.ref a) ∧ PySem.W.keepIn X.K (.ref a) = true ∧ Binds X.K fd ps [] ∧ Room k X.A ∧ FnOk X.prog X.w X.K X.mg X.base (L2.CX X.prog X.w) k a fd ps (spOf X.K X.mg (G.fn f) n)
  pass : Passes (L2.CX X.prog X.w) X E
  kd : X.env.scope.kind = .function
  xt : ExT X.K X.mg B.exn
  rs : ∀ c ∈ B.exn, c ≠ ("NoRow" : Str) → ∀ (y : Str) (k : Nat) (p1 p2 p3 p4 : Pos), Gl X c → PS X (.Raise (some (.Call (.Name c p1) [.Constant (.str y) k p2] [] p3)) none p4) (fun _ _ H => ∀ C, X.mg c = some (.ref C) → E (.ref C) none H)
section
variable {X : Cx}
theorem PE.mono {e : Expr} {t t' : TE} (h : PE X e t) (k : ∀ σ H Q, t' σ H Q → t σ H Q) : PE X e t' := ⟨fun pins s σ H Q I q => h.run pins s σ H Q I (k _ _ _ q)⟩
theorem PT.mono {e : Expr} {t t' : TT} (h : PT X e t) (k : ∀ σ H Q, t' σ H Q → t σ H Q) : PT X e t' := ⟨fun pins s σ H Q I q => h.run pins s σ H Q I (k _ _ _ q)⟩
theorem PW.mono {e : Expr} {t t' : TT} (h : PW X e t) (k : ∀ σ H Q, t' σ H Q → t σ H Q) : PW X e t' := ⟨fun wh pins s σ H Q I q => h.run wh pins s σ H Q I (k _ _ _ q)⟩
theorem PA.mono {e : List Expr} {t t' : TA} (h : PA X e t) (k : ∀ σ H Q, t' σ H Q → t σ H Q) : PA X e t' := ⟨fun pos pins s σ H Q I q => h.run pos pins s σ H Q I (k _ _ _ q)⟩
theorem PO.mono {e : Option Expr} {t t' : TO} (h : PO X e t) (k : ∀ σ H Q, t' σ H Q → t σ H Q) : PO X e t' := ⟨fun pins s σ H Q I q => h.run pins s σ H Q I (k _ _ _ q)⟩
theorem PS.mono {e : Stmt} {t t' : TS} (h : PS X e t) (k : ∀ D σ H, t' D σ H → t D σ H) : PS X e t' := ⟨fun pins s σ H Q I q => h.run pins s σ H Q I (k _ _ _ q)⟩
theorem PSs.mono {e : List Stmt} {t t' : TS} (h : PSs X e t) (k : ∀ D σ H, t' D σ H → t D σ H) : PSs X e t' := ⟨fun pins s σ H Q I q => h.run pins s σ H Q I (k _ _ _ q)⟩
theorem PE.or {e : Expr} {t t' : TE} (h : PE X e t) (h' : PE X e t') : PE X e (fun σ H Q => t σ H Q ∨ t' σ H Q) := ⟨fun pins s σ H Q I q => q.elim (h.run pins s σ H Q I) (h'.run pins s σ H Q I)⟩
end
/-- a reading by what a term gives -/
def tR {α β : Type} (K : PySem.W.Frag) (mg : Str → Option Value) (E : XK) (R : Mm → Hp → α → β → Prop) (c : Env → M α) : L2.St → Hp → (β → Hp → Prop) → Prop := fun σ H Q => ∃ m δ S, SR K m H δ σ ∧ HR K m H S ∧ Post K mg E R m H (c δ S) Q
section
variable {K : PySem.W.Frag} {mg : Str → Option Value} {E : XK} {α β γ ε : Type} {R : Mm → Hp → α → β → Prop} {R2 : Mm → Hp → γ → ε → Prop} {σ : L2.St} {H : Hp}
theorem tR_bind {c : Env → M α} {f : Env → α → M γ} {Q : ε → Hp → Prop} (h : tR K mg E R2 (fun δ => mb (c δ) (f δ)) σ H Q) :
    tR K mg E R c σ H fun v H1 => ∃ m1 δ S1 d, SR K m1 H1 δ σ ∧ HR K m1 H1 S1 ∧ R m1 H1 d v ∧ Post K mg E R2 m1 H1 (f δ d S1) Q := by
  obtain ⟨m, δ, S, sr, hr, p⟩ := h
  refine ⟨m, δ, S, sr, hr, (Post.bind (R := R) p).imp ?_⟩
  rintro v H1 ⟨m1, d, S1, e, r, hr1, p1⟩
  exact ⟨m1, δ, S1, d, sr.mono e, hr1, r, p1⟩
theorem tR_next {m1 : Mm} {δ : Env} {S1 : Sto} {c : Env → M α} {f : α → M γ} {Q : ε → Hp → Prop} (sr : SR K m1 H δ σ) (hr : HR K m1 H S1) (p : Post K mg E R2 m1 H (mb (c δ) f S1) Q) :
    tR K mg E R c σ H fun v H2 => ∃ m2 S2 d, Ext m1 H m2 H2 ∧ HR K m2 H2 S2 ∧ R m2 H2 d v ∧ Post K mg E R2 m2 H2 (f d S2) Q := by
  refine ⟨m1, δ, S1, sr, hr, (Post.bind (R := R) p).imp ?_⟩
  rintro v H1 ⟨m2, d, S2, e, r, hr1, p1⟩
  exact ⟨m2, S2, d, e, hr1, r, p1⟩
theorem tR.imp {c : Env → M α} {Q Q' : β → Hp → Prop} (h : tR K mg E R c σ H Q) (k : ∀ v H, Q v H → Q' v H) : tR K mg E R c σ H Q' := by
  obtain ⟨m, δ, S, sr, hr, p⟩ := h
  exact ⟨m, δ, S, sr, hr, p.imp k⟩
end
def RO : Mm → Hp → Option Int → Option Int → Prop := fun _ _ a b => a = b
/-! ### the syntax's side conditions -/
theorem star_cons {e : Expr} {es : List Expr} {env : PySem.Env} (h : plainX e = true) : starEach (e :: es) env = (false, eval e env) :: starEach es env := by
  cases e <;> first | rfl | cases h
theorem plainIx_of {e : Expr} (h : plainX e = true) : PlainIx e := by
  intro o i
  cases e <;> first | rfl | cases h
theorem attr_of_plain {o : Expr} {f : Str} {env : PySem.Env} (h : plainX o = true) : attributeBase o f env (eval o env) = eval o env := by
  unfold attributeBase
  split
  · cases h
  · rfl
theorem marks_of {op : CmpOp} {e : Expr} (h : plainX e = true) : behindInMarks op e = false := by
  cases e <;> first | rfl | cases h
theorem truth_of {e : Expr} {env : PySem.Env} (h : plainT e = true) : ∀ whole, isTrue e env whole = (do let v ← whole; standAt e.pos; holding [v] (PySem.truthy v)) := by
  intro whole
  cases e <;> first | rfl | cases h
/-- what a walk's source gives -/
structure Wlk (K : PySem.W.Frag) (m0 : Mm) (H0 : Hp) (p : List D × Chk) (J : It) : Prop where
  go : ∀ (i : Nat) m H S, i < p.1.length → Ext m0 H0 m H → HR K m H S → okC p.2 S = true → J.go i H
  yld : ∀ (i : Nat) m H S x H', i < p.1.length → Ext m0 H0 m H → HR K m H S → okC p.2 S = true → J.yld i H x H' → ∃ d, p.1[i]? = some d ∧ Ext m H m H' ∧ HR K m H' S ∧ VR K m H' d x
  stop : ∀ m H S, Ext m0 H0 m H → HR K m H S → okC p.2 S = true → J.stop p.1.length H
end Mp
namespace Mp
open PySem L2
structure OkI (G : Gt) (B : Bk) (ir : Ie) : Prop where
  e : ∀ (X : Cx) (E : XK) (sc : Scope) (ex : Expr), MC G B X E → ScR sc X → chkE B sc ir ex = true → PE X ex (tR X.K X.mg E (VR X.K) (evE G ir))
  a : ∀ (X : Cx) (E : XK) (sc : Scope) (es : List Expr), MC G B X E → ScR sc X → chkA B sc ir es = true → PA X es (tR X.K X.mg E (VRs X.K) (evA G ir))
  o : ∀ (X : Cx) (E : XK) (sc : Scope) (ex : Option Expr), MC G B X E → ScR sc X → chkO B sc ir ex = true → PO X ex (tR X.K X.mg E RO (evO G ir))
  t : ∀ (X : Cx) (E : XK) (sc : Scope) (ex : Expr), MC G B X E → ScR sc X → chkT B sc ir ex = true → PT X ex (tR X.K X.mg E RB (evT G ir))
  w : ∀ (X : Cx) (E : XK) (sc : Scope) (op : BoolOp) (vs : List Expr) (p : Pos), MC G B X E → ScR sc X → chkT B sc ir (.BoolOp op vs p) = true → PW X (.BoolOp op vs p) (tR X.K X.mg E RB (evT G ir))
  i : ∀ (X : Cx) (E : XK) (sc : Scope) (tg ex : Expr), MC G B X E → ScR sc X → chkI B sc ir ex = true → (isZ ir = true → isTupE tg = true) → PI X tg ex (tR X.K X.mg E (Wlk X.K) (evI G ir)) ∧ ∀ x, foldedSetIterable ex X.env x = pure x
theorem okName_of {x : Str} (h : okName x = true) : (x == ("__debug__" : Str)) = false ∧ (x == ("__classdict__" : Str)) = false ∧ x ≠ ("__name__" : Str) := by
  unfold okName at h
  simp only [Bool.and_eq_true, Bool.not_eq_true'] at h
  refine ⟨h.1.1, h.1.2, fun e => ?_⟩
  have := h.2
  rw [e] at this
  simp at this
section
variable {G : Gt} {B : Bk} {X : Cx} {E : XK} {sc : Scope}
/-- an operation on two values -/
theorem op2 {a b : Ie} {f : D → D → M D} {e : Expr}
    (mk : PE X e (tOp (rD X.K X.mg E f) (tR X.K X.mg E (VR X.K) (evE G a)) (tR X.K X.mg E (VR X.K) (evE G b)))) :
    PE X e (tR X.K X.mg E (VR X.K) fun δ => mb (evE G a δ) fun x => mb (evE G b δ) fun y => f x y) := by
  refine PE.mono mk fun σ H Q h => ?_
  refine (tR_bind (R := VR X.K) h).imp ?_
  rintro v H1 ⟨m1, δ, S1, d, sr, hr, vr, p⟩
  refine (tR_next (R := VR X.K) sr hr p).imp ?_
  rintro u H2 ⟨m2, S2, d2, e2, hr2, vr2, p2⟩
  exact ⟨m2, S2, d, d2, VR.mono e2 _ _ vr, vr2, hr2, p2⟩
theorem Post.bindE {K : PySem.W.Frag} {mg : Str → Option Value} {α β γ ε : Type} {R : Mm → Hp → α → β → Prop} {R2 : Mm → Hp → γ → ε → Prop} {m : Mm} {H : Hp} {x : Ret α} {f : α → M γ} {Q : ε → Hp → Prop} (h : Post K mg E R2 m H (x.bind f) Q) :
    Post K mg E R m H x fun v H1 => ∃ m1 d S1, Ext m H m1 H1 ∧ R m1 H1 d v ∧ HR K m1 H1 S1 ∧ Post K mg E R2 m1 H1 (f d S1) Q ∧ x = .ok d S1 := by
  cases x with
  | ok d S => exact fun v m' H' a b c => ⟨m', d, S, a, b, c, Post.pre h a, rfl⟩
  | exc c S => exact h
  | bad => exact h
theorem op2T {a b : Ie} {f : D → D → M D} {e : Expr} (hb : ∀ x y S d S', f x y S = .ok d S' → ∃ k, d = .bl k)
    (mk : PT X e (tTest (tOp (rD X.K X.mg E f) (tR X.K X.mg E (VR X.K) (evE G a)) (tR X.K X.mg E (VR X.K) (evE G b))))) :
    PT X e (tR X.K X.mg E RB fun δ => mb (mb (evE G a δ) fun x => mb (evE G b δ) fun y => f x y) truthy) := by
  refine PT.mono mk fun σ H Q h => ?_
  have h : tR X.K X.mg E RB (fun δ => mb (evE G a δ) fun x => mb (evE G b δ) fun y => mb (f x y) truthy) σ H Q := by
    simpa only [mb_mb] using h
  refine (tR_bind (R := VR X.K) h).imp ?_
  rintro v H1 ⟨m1, δ, S1, d, sr, hr, vr, p⟩
  refine (tR_next (R := VR X.K) sr hr p).imp ?_
  rintro u H2 ⟨m2, S2, d2, e2, hr2, vr2, p2⟩
  refine ⟨m2, S2, d, d2, VR.mono e2 _ _ vr, vr2, hr2, (Post.bindE (R := VR X.K) p2).imp ?_⟩
  rintro w H3 ⟨m3, d3, S3, e3, vr3, hr3, p3, eq⟩
  obtain ⟨k, rfl⟩ := hb _ _ _ _ _ eq
  exact ⟨k, vr3, Post.ok (d := k) p3 rfl hr3⟩
end
theorem lk1 {X : Cx} (h : X.A.units + 65 < cLine) : X.A.units < cLine := by omega
theorem binOk {G : Gt} {B : Bk} {X : Cx} {E : XK} (M : MC G B X E) (op : Bop) : OpR X (binaryOp op.op) (rD X.K X.mg E (binF op)) := by
  cases op
  · exact add_ok
  · exact sub_ok
  · exact mul_ok
  · exact fdv_ok
  · exact mod_ok
  · exact pow_ok
theorem cmpOk {G : Gt} {B : Bk} {X : Cx} {E : XK} (M : MC G B X E) (op : Cop) : OpR X (compareOp op.op) (rD X.K X.mg E (cmpF op)) := by
  have hu := M.hu
  cases op
  · exact eq_ok (by omega)
  · exact ne_ok (by omega)
  · exact lt_ok (by omega)
  · exact le_ok (by omega)
  · exact gt_ok (by omega)
  · exact ge_ok (by omega)
  · exact is_ok
  · exact isnot_ok
theorem chk_ok {α : Type} {c : Bool} {x : M α} {S S' : Sto} {d : α} (h : chk c x S = .ok d S') : x S = .ok d S' := by
  unfold chk at h
  cases c with
  | true => exact h
  | false => cases h
theorem bind_okE {α β : Type} {x : Ret α} {f : α → M β} {b : β} {S' : Sto} (h : x.bind f = .ok b S') : ∃ a S, x = .ok a S ∧ f a S = .ok b S' := by
  cases x with
  | ok a S => exact ⟨a, S, rfl, h⟩
  | exc c S => cases h
  | bad => cases h
theorem cmp_bl (op : Cop) (x y : D) (S : Sto) (d : D) (S' : Sto) (h : cmpF op x y S = .ok d S') : ∃ k, d = .bl k := by
  cases op
  · obtain ⟨k, _, _, e⟩ := bind_okE (x := eqF x y S) h; cases e; exact ⟨_, rfl⟩
  · obtain ⟨k, _, _, e⟩ := bind_okE (x := eqF x y S) h; cases e; exact ⟨_, rfl⟩
  · obtain ⟨k, _, _, e⟩ := bind_okE (x := ltF x y S) h; cases e; exact ⟨_, rfl⟩
  · by_cases c : ∃ i j, x = .int i ∧ y = .int j
    · obtain ⟨i, j, rfl, rfl⟩ := c
      cases h; exact ⟨_, rfl⟩
    · rw [cmpF_le fun i j h1 h2 => c ⟨i, j, h1, h2⟩] at h
      obtain ⟨k, _, _, e⟩ := bind_okE (x := ltF y x S) h; cases e; exact ⟨_, rfl⟩
  · by_cases c : ∃ i j, x = .int i ∧ y = .int j
    · obtain ⟨i, j, rfl, rfl⟩ := c
      cases h; exact ⟨_, rfl⟩
    · rw [cmpF_gt fun i j h1 h2 => c ⟨i, j, h1, h2⟩] at h
      obtain ⟨k, _, _, e⟩ := bind_okE (x := ltF y x S) h; cases e; exact ⟨_, rfl⟩
  · by_cases c : ∃ i j, x = .int i ∧ y = .int j
    · obtain ⟨i, j, rfl, rfl⟩ := c
      cases h; exact ⟨_, rfl⟩
    · rw [cmpF_ge fun i j h1 h2 => c ⟨i, j, h1, h2⟩] at h
      obtain ⟨k, _, _, e⟩ := bind_okE (x := ltF x y S) h; cases e; exact ⟨_, rfl⟩
  · cases y <;> first | (cases h; exact ⟨_, rfl⟩) | cases h
  · cases y <;> first | (cases h; exact ⟨_, rfl⟩) | cases h
end Mp
namespace Mp
open PySem L2
theorem and2 {a b : Bool} (h : (a && b) = true) : a = true ∧ b = true := Bool.and_eq_true_iff.mp h
section
variable {G : Gt} {B : Bk} {X : Cx} {E : XK} {sc : Scope}
theorem s_var {i : Nat} {ex : Expr} (M : MC G B X E) (Z : ScR sc X) (h : chkE B sc (.var i) ex = true) : PE X ex (tR X.K X.mg E (VR X.K) (evE G (.var i))) := by
  unfold chkE at h
  split at h
  · rename_i x p
    obtain ⟨h, h3⟩ := and2 h
    obtain ⟨h1, h2⟩ := and2 h
    obtain ⟨n1, n2, n3⟩ := okName_of h3
    refine PE.mono (pe_var (i := i) (by rw [M.n]; exact of_decide_eq_true h1) (Z.vis x h2) n1 n2) fun σ H Q q => ?_
    obtain ⟨m, δ, S, sr, hr, q⟩ := q
    rw [evE] at q
    cases e : δ[i]? with
    | none => rw [e] at q; exact (show False from q).elim
    | some o =>
      cases o with
      | none => rw [e] at q; exact (show False from q).elim
      | some d =>
        rw [e] at q
        obtain ⟨v, e2, r⟩ := sr.get i d e
        exact ⟨v, e2, Post.ok (d := d) q r hr⟩
  · cases h
theorem s_con {d : D} {ex : Expr} (M : MC G B X E) (Z : ScR sc X) (h : chkE B sc (.con d) ex = true) : PE X ex (tR X.K X.mg E (VR X.K) (evE G (.con d))) := by
  unfold chkE at h
  split at h
  · rename_i c k p
    have fin : ∀ {v : V} {σ : L2.St} {H : Hp} {Q : VK}, (∀ m H, VR X.K m H d v) → tR X.K X.mg E (VR X.K) (evE G (.con d)) σ H Q → Q v H := fun {v σ H Q} r q => by
      obtain ⟨m, δ, S, sr, hr, q⟩ := q
      rw [evE] at q
      exact Post.ok (d := d) q (r _ _) hr
    cases d with
    | non =>
      cases c <;> first | cases h | skip
      exact PE.mono pe_non fun σ H Q q => fin (fun _ _ => rfl) q
    | bl b =>
      cases c <;> first | cases h | skip
      rename_i b'
      have e : b = b' := by simpa [conOk] using h
      subst e
      exact PE.mono pe_bl fun σ H Q q => fin (fun _ _ => rfl) q
    | int i =>
      cases c <;> first | cases h | skip
      rename_i b'
      have e : i = b' := by simpa [conOk] using h
      subst e
      exact PE.mono pe_int fun σ H Q q => fin (fun _ _ => rfl) q
    | str x =>
      cases c <;> first | cases h | skip
      rename_i b'
      have e : x = b' := by simpa [conOk] using h
      subst e
      exact PE.mono pe_str fun σ H Q q => fin (fun _ _ => rfl) q
    | _ => cases c <;> cases h
  · cases h
theorem s_glob {y : Str} {ex : Expr} (M : MC G B X E) (Z : ScR sc X) (h : chkE B sc (.glob y) ex = true) : PE X ex (tR X.K X.mg E (VR X.K) (evE G (.glob y))) := by
  unfold chkE at h
  split at h
  · rename_i x p
    obtain ⟨h, h4⟩ := and2 h
    obtain ⟨h, h3⟩ := and2 h
    obtain ⟨h1, h2⟩ := and2 h
    have e := of_decide_eq_true h1
    subst e
    obtain ⟨n1, n2, n3⟩ := okName_of h4
    obtain ⟨d, u, v, c1, c2, c3, c4⟩ := M.con y (of_decide_eq_true h3)
    refine PE.mono (pe_glob (Z.gl y h2) c2 c3 n1) fun σ H Q q => ?_
    obtain ⟨m, δ, S, sr, hr, q⟩ := q
    rw [evE, c1] at q
    exact Post.ok (d := d) q (c4 _ _) hr
  · cases h
theorem s_tup {a : Ie} {ex : Expr} (O : OkI G B a) (M : MC G B X E) (Z : ScR sc X) (h : chkE B sc (.tup a) ex = true) : PE X ex (tR X.K X.mg E (VR X.K) (evE G (.tup a))) := by
  unfold chkE at h
  split at h
  · rename_i es k p
    refine PE.mono (pe_tup (O.a X E sc es M Z h)) fun σ H Q q => ?_
    have q : tR X.K X.mg E (VR X.K) (fun δ => mb (evA G a δ) fun ds => chk (decide (ds.length ≤ sz)) (mp (.tup ds))) σ H Q := by
      obtain ⟨m, δ, S, sr, hr, q⟩ := q
      rw [evE] at q
      exact ⟨m, δ, S, sr, hr, q⟩
    refine (tR_bind (R := VRs X.K) q).imp ?_
    rintro vs H1 ⟨m1, δ, S1, ds, sr, hr, r, p⟩
    obtain ⟨c, p⟩ := Post.chk p
    exact ⟨by rw [r.len]; exact of_decide_eq_true c, Post.newT hr r p⟩
  · cases h
theorem s_lst {a : Ie} {ex : Expr} (O : OkI G B a) (M : MC G B X E) (Z : ScR sc X) (h : chkE B sc (.lst a) ex = true) : PE X ex (tR X.K X.mg E (VR X.K) (evE G (.lst a))) := by
  unfold chkE at h
  split at h
  · rename_i es p
    refine PE.mono (pe_lst (O.a X E sc es M Z h)) fun σ H Q q => ?_
    have q : tR X.K X.mg E (VR X.K) (fun δ => mb (evA G a δ) fun ds => chk (decide (ds.length ≤ sz)) (alloc (.lst ds))) σ H Q := by
      obtain ⟨m, δ, S, sr, hr, q⟩ := q
      rw [evE] at q
      exact ⟨m, δ, S, sr, hr, q⟩
    refine (tR_bind (R := VRs X.K) q).imp ?_
    rintro vs H1 ⟨m1, δ, S1, ds, sr, hr, r, p⟩
    obtain ⟨c, p⟩ := Post.chk p
    exact ⟨by rw [r.len]; exact of_decide_eq_true c, Post.newO hr (show OH X.K m1 H1 (.lst ds) _ from ⟨_, rfl, r⟩) p⟩
  · cases h
theorem s_newK {ex : Expr} (M : MC G B X E) (Z : ScR sc X) (h : chkE B sc .newK ex = true) : PE X ex (tR X.K X.mg E (VR X.K) (evE G .newK)) := by
  unfold chkE at h
  split at h
  · refine PE.mono pe_dnewK fun σ H Q q => ?_
    obtain ⟨m, δ, S, sr, hr, q⟩ := q
    rw [evE] at q
    exact fun p n => Post.newO hr (show OH X.K m H (.dK []) (.dK []) from ⟨[], rfl, rfl, rfl⟩) q p n
  · cases h
theorem s_newT {ex : Expr} (M : MC G B X E) (Z : ScR sc X) (h : chkE B sc .newT ex = true) : PE X ex (tR X.K X.mg E (VR X.K) (evE G .newT)) := by
  unfold chkE at h
  split at h
  · refine PE.mono pe_dnewT fun σ H Q q => ?_
    obtain ⟨m, δ, S, sr, hr, q⟩ := q
    rw [evE] at q
    exact fun p n => Post.newO hr (show OH X.K m H (.dT []) (.dT []) from ⟨[], rfl, rfl, rfl⟩) q p n
  · cases h
theorem s_bin {op : Bop} {a b : Ie} {ex : Expr} (Oa : OkI G B a) (Ob : OkI G B b) (M : MC G B X E) (Z : ScR sc X) (h : chkE B sc (.bin op a b) ex = true) : PE X ex (tR X.K X.mg E (VR X.K) (evE G (.bin op a b))) := by
  unfold chkE at h
  split at h
  · rename_i x o y p
    obtain ⟨h, h3⟩ := and2 h
    obtain ⟨h1, h2⟩ := and2 h
    have e := of_decide_eq_true h1
    subst e
    have ha := Oa.e X E sc x M Z h2
    have hb := Ob.e X E sc y M Z h3
    have := op2 (f := binF op) (pe_op (binOk M op) ha hb (pos := p))
    have e : evE G (.bin op a b) = fun δ => mb (evE G a δ) fun x => mb (evE G b δ) fun y => binF op x y := by
      funext δ
      rw [evE]
    rw [e]
    exact this
  · cases h
theorem s_cmp {op : Cop} {a b : Ie} {ex : Expr} (Oa : OkI G B a) (Ob : OkI G B b) (M : MC G B X E) (Z : ScR sc X) (h : chkE B sc (.cmp op a b) ex = true) : PE X ex (tR X.K X.mg E (VR X.K) (evE G (.cmp op a b))) := by
  unfold chkE at h
  split at h
  · rename_i x o y p
    obtain ⟨h, h4⟩ := and2 h
    obtain ⟨h, h3⟩ := and2 h
    obtain ⟨h1, h2⟩ := and2 h
    have e := of_decide_eq_true h1
    subst e
    have ha := Oa.e X E sc x M Z h2
    have hb := Ob.e X E sc y M Z h3
    have := op2 (f := cmpF op) (pe_cmpR (cmpOk M op) ha hb (marks_of h4) (pos := p))
    have e : evE G (.cmp op a b) = fun δ => mb (evE G a δ) fun x => mb (evE G b δ) fun y => cmpF op x y := by
      funext δ
      rw [evE]
    rw [e]
    exact this
  · cases h
theorem t_cmp {op : Cop} {a b : Ie} {x y : Expr} {o : CmpOp} {p : Pos} (Oa : OkI G B a) (Ob : OkI G B b) (M : MC G B X E) (Z : ScR sc X) (h : (decide (o = op.op) && chkE B sc a x && chkE B sc b y && plainX y) = true) :
    PT X (.Compare x [o] [y] p) (tR X.K X.mg E RB fun δ => mb (evE G (.cmp op a b) δ) truthy) := by
  obtain ⟨h, h4⟩ := and2 h
  obtain ⟨h, h3⟩ := and2 h
  obtain ⟨h1, h2⟩ := and2 h
  have e := of_decide_eq_true h1
  subst e
  have ha := Oa.e X E sc x M Z h2
  have hb := Ob.e X E sc y M Z h3
  have := op2T (f := cmpF op) (cmp_bl op) (pt_cmpR (cmpOk M op) ha hb (marks_of (op := op.op) h4) (pos := p))
  have e : (fun δ => mb (evE G (.cmp op a b) δ) truthy) = fun δ => mb (mb (evE G a δ) fun x => mb (evE G b δ) fun y => cmpF op x y) truthy := by
    funext δ
    rw [evE]
  rw [e]
  exact this
theorem chn_r {op op' : Cop} {a b c : Ie} {σ : L2.St} {H : Hp} {Q : VK} (q : tR X.K X.mg E (VR X.K) (evE G (.chn op op' a b c)) σ H Q) :
    tChain (rD X.K X.mg E (cmpF op)) (rD X.K X.mg E (cmpF op')) (tR X.K X.mg E (VR X.K) (evE G a)) (tR X.K X.mg E (VR X.K) (evE G b)) (tR X.K X.mg E (VR X.K) (evE G c)) σ H Q := by
  have q : tR X.K X.mg E (VR X.K) (fun δ => mb (evE G a δ) fun x => mb (evE G b δ) fun y => mb (cmpF op x y) fun r => match r with
    | .bl true => mb (evE G c δ) fun z => cmpF op' y z
    | .bl false => mp (.bl false)
    | _ => mbad) σ H Q := by
    obtain ⟨m, δ, S, sr, hr, q⟩ := q
    rw [evE] at q
    exact ⟨m, δ, S, sr, hr, q⟩
  refine (tR_bind (R := VR X.K) q).imp ?_
  rintro v H1 ⟨m1, δ, S1, d1, sr1, hr1, r1, p1⟩
  refine (tR_next (R := VR X.K) sr1 hr1 p1).imp ?_
  rintro u H2 ⟨m2, S2, d2, e2, hr2, r2, p2⟩
  refine ⟨m2, S2, d1, d2, VR.mono e2 _ _ r1, r2, hr2, (Post.bindE (R := VR X.K) p2).imp ?_⟩
  rintro w H3 ⟨m3, d3, S3, e3, r3, hr3, p3, eq⟩
  obtain ⟨k, rfl⟩ := cmp_bl _ _ _ _ _ _ eq
  refine ⟨k, r3, ?_⟩
  cases k with
  | false => exact iteF (Post.ok (d := D.bl false) p3 rfl hr3)
  | true =>
    refine iteT ?_
    have sr3 := (sr1.mono e2).mono e3
    refine (tR_next (R := VR X.K) (c := evE G c) (f := fun z => cmpF op' d2 z) sr3 hr3 p3).imp ?_
    rintro z H4 ⟨m4, S4, d4, e4, hr4, r4, p4⟩
    exact ⟨m4, S4, d2, d4, VR.mono (e3.trans e4) _ _ r2, r4, hr4, p4⟩
theorem s_chn {op op' : Cop} {a b c : Ie} {ex : Expr} (Oa : OkI G B a) (Ob : OkI G B b) (Oc : OkI G B c) (M : MC G B X E) (Z : ScR sc X) (h : chkE B sc (.chn op op' a b c) ex = true) : PE X ex (tR X.K X.mg E (VR X.K) (evE G (.chn op op' a b c))) := by
  unfold chkE at h
  split at h
  · rename_i x o o' y z p
    obtain ⟨h, h7⟩ := and2 h
    obtain ⟨h, h6⟩ := and2 h
    obtain ⟨h, h5⟩ := and2 h
    obtain ⟨h, h4⟩ := and2 h
    obtain ⟨h, h3⟩ := and2 h
    obtain ⟨h1, h2⟩ := and2 h
    have e := of_decide_eq_true h1
    have e' := of_decide_eq_true h2
    subst e e'
    refine PE.mono (pe_chain (cmpOk M op) (cmpOk M op') (Oa.e X E sc x M Z h3) (Ob.e X E sc y M Z h4) (Oc.e X E sc z M Z h5) ?_) fun σ H Q q => chn_r q
    show behindInMarks op'.op z = false
    exact marks_of h7
  · cases h
theorem chn_bl {op op' : Cop} {a b c : Ie} {δ : Env} {S S' : Sto} {d : D} (h : evE G (.chn op op' a b c) δ S = .ok d S') : ∃ k, d = .bl k := by
  rw [evE] at h
  obtain ⟨x, S1, _, h⟩ := bind_okE (x := evE G a δ S) h
  obtain ⟨y, S2, _, h⟩ := bind_okE (x := evE G b δ S1) h
  obtain ⟨r, S3, _, h⟩ := bind_okE (x := cmpF op x y S2) h
  match r, h with
  | .bl false, h => exact ⟨false, by cases h; rfl⟩
  | .bl true, h =>
    obtain ⟨z, S4, _, h⟩ := bind_okE (x := evE G c δ S3) h
    exact cmp_bl _ _ _ _ _ _ h
/-- a test by a value that is a truth -/
theorem test_bl {c : Env → M D} {t : TE} {σ : L2.St} {H : Hp} {Q : Bool → Hp → Prop} (hb : ∀ δ S d S', c δ S = .ok d S' → ∃ k, d = .bl k)
    (k : ∀ Q, tR X.K X.mg E (VR X.K) c σ H Q → t σ H Q) (q : tR X.K X.mg E RB (fun δ => mb (c δ) truthy) σ H Q) : t σ H fun x H' => ∃ k, x = .bl k ∧ Q k H' := by
  refine k _ ?_
  obtain ⟨m, δ, S, sr, hr, q⟩ := q
  refine ⟨m, δ, S, sr, hr, (Post.bindE (R := VR X.K) (x := c δ S) (f := truthy) q).imp ?_⟩
  rintro v H1 ⟨m1, d1, S1, e1, r1, hr1, p1, eq⟩
  obtain ⟨b, rfl⟩ := hb _ _ _ _ eq
  exact ⟨b, r1, Post.ok (d := b) p1 rfl hr1⟩
theorem t_chn {op op' : Cop} {a b c : Ie} {x y z : Expr} {o o' : CmpOp} {p : Pos} (Oa : OkI G B a) (Ob : OkI G B b) (Oc : OkI G B c) (M : MC G B X E) (Z : ScR sc X)
    (h : (decide (o = op.op) && decide (o' = op'.op) && chkE B sc a x && chkE B sc b y && chkE B sc c z && plainX y && plainX z) = true) :
    PT X (.Compare x [o, o'] [y, z] p) (tR X.K X.mg E RB fun δ => mb (evE G (.chn op op' a b c) δ) truthy) := by
  obtain ⟨h, h7⟩ := and2 h
  obtain ⟨h, h6⟩ := and2 h
  obtain ⟨h, h5⟩ := and2 h
  obtain ⟨h, h4⟩ := and2 h
  obtain ⟨h, h3⟩ := and2 h
  obtain ⟨h1, h2⟩ := and2 h
  have e := of_decide_eq_true h1
  have e' := of_decide_eq_true h2
  subst e e'
  refine PT.mono (pt_chain (cmpOk M op) (cmpOk M op') (Oa.e X E sc x M Z h3) (Ob.e X E sc y M Z h4) (Oc.e X E sc z M Z h5) ?_) fun σ H Q q => ?_
  · show behindInMarks op'.op z = false
    exact marks_of h7
  · exact test_bl (c := evE G (.chn op op' a b c)) (fun _ _ _ _ h => chn_bl h) (fun Q q => chn_r q) q
/-! ### and, or, not, if else, - -/
theorem and_r {a b : Ie} {σ : L2.St} {H : Hp} {Q : VK} (q : tR X.K X.mg E (VR X.K) (evE G (.andV a b)) σ H Q) : tAndV (tR X.K X.mg E (VR X.K) (evE G a)) (tR X.K X.mg E (VR X.K) (evE G b)) σ H Q := by
  obtain ⟨m, δ, S, sr, hr, q⟩ := q
  rw [evE] at q
  refine (tR_next (R := VR X.K) (c := evE G a) sr hr q).imp ?_
  rintro v H1 ⟨m1, S1, d1, e1, hr1, r1, p1⟩
  cases d1 <;> first | exact (show False from p1).elim | skip
  rename_i k
  cases k with
  | false => exact ⟨false, r1, iteF (Post.ok (d := D.bl false) p1 rfl hr1)⟩
  | true => exact ⟨true, r1, iteT ⟨m1, δ, S1, sr.mono e1, hr1, p1⟩⟩
theorem or_r {a b : Ie} {σ : L2.St} {H : Hp} {Q : VK} (q : tR X.K X.mg E (VR X.K) (evE G (.orV a b)) σ H Q) : tOrV (tR X.K X.mg E (VR X.K) (evE G a)) (tR X.K X.mg E (VR X.K) (evE G b)) σ H Q := by
  obtain ⟨m, δ, S, sr, hr, q⟩ := q
  rw [evE] at q
  refine (tR_next (R := VR X.K) (c := evE G a) sr hr q).imp ?_
  rintro v H1 ⟨m1, S1, d1, e1, hr1, r1, p1⟩
  cases d1 <;> first | exact (show False from p1).elim | skip
  rename_i k
  cases k with
  | true => exact ⟨true, r1, iteT (Post.ok (d := D.bl true) p1 rfl hr1)⟩
  | false => exact ⟨false, r1, iteF ⟨m1, δ, S1, sr.mono e1, hr1, p1⟩⟩
theorem s_and {a b : Ie} {ex : Expr} (Oa : OkI G B a) (Ob : OkI G B b) (M : MC G B X E) (Z : ScR sc X) (h : chkE B sc (.andV a b) ex = true) : PE X ex (tR X.K X.mg E (VR X.K) (evE G (.andV a b))) := by
  unfold chkE at h
  split at h
  · obtain ⟨h1, h2⟩ := and2 h
    exact PE.mono (pe_and (Oa.e X E sc _ M Z h1) (pe_one (Ob.e X E sc _ M Z h2))) fun σ H Q q => and_r q
  · obtain ⟨h1, h2⟩ := and2 h
    exact PE.mono (pe_and (Oa.e X E sc _ M Z h1) (Ob.e X E sc _ M Z h2)) fun σ H Q q => and_r q
  · cases h
theorem s_or {a b : Ie} {ex : Expr} (Oa : OkI G B a) (Ob : OkI G B b) (M : MC G B X E) (Z : ScR sc X) (h : chkE B sc (.orV a b) ex = true) : PE X ex (tR X.K X.mg E (VR X.K) (evE G (.orV a b))) := by
  unfold chkE at h
  split at h
  · obtain ⟨h1, h2⟩ := and2 h
    exact PE.mono (pe_or (Oa.e X E sc _ M Z h1) (pe_one (Ob.e X E sc _ M Z h2))) fun σ H Q q => or_r q
  · obtain ⟨h1, h2⟩ := and2 h
    exact PE.mono (pe_or (Oa.e X E sc _ M Z h1) (Ob.e X E sc _ M Z h2)) fun σ H Q q => or_r q
  · cases h
theorem s_not {a : Ie} {ex : Expr} (Oa : OkI G B a) (M : MC G B X E) (Z : ScR sc X) (h : chkE B sc (.notV a) ex = true) : PE X ex (tR X.K X.mg E (VR X.K) (evE G (.notV a))) := by
  unfold chkE at h
  split at h
  · refine PE.mono (pe_not (Oa.e X E sc _ M Z h)) fun σ H Q q => ?_
    obtain ⟨m, δ, S, sr, hr, q⟩ := q
    rw [evE] at q
    refine (tR_next (R := VR X.K) (c := evE G a) sr hr q).imp ?_
    rintro v H1 ⟨m1, S1, d1, e1, hr1, r1, p1⟩
    cases d1 <;> first | exact (show False from p1).elim | skip
    rename_i k
    exact ⟨k, r1, Post.ok (d := D.bl (!k)) p1 rfl hr1⟩
  · cases h
theorem s_neg {a : Ie} {ex : Expr} (Oa : OkI G B a) (M : MC G B X E) (Z : ScR sc X) (h : chkE B sc (.neg a) ex = true) : PE X ex (tR X.K X.mg E (VR X.K) (evE G (.neg a))) := by
  unfold chkE at h
  split at h
  · refine PE.mono (pe_un un_neg (Oa.e X E sc _ M Z h)) fun σ H Q q => ?_
    obtain ⟨m, δ, S, sr, hr, q⟩ := q
    rw [evE] at q
    refine (tR_next (R := VR X.K) (c := evE G a) sr hr q).imp ?_
    rintro v H1 ⟨m1, S1, d1, e1, hr1, r1, p1⟩
    cases d1 <;> first | exact (show False from p1).elim | skip
    rename_i k
    exact ⟨k, r1, Post.ok (d := D.int (-k)) p1 rfl hr1⟩
  · cases h
theorem s_ife {t a b : Ie} {ex : Expr} (Ot : OkI G B t) (Oa : OkI G B a) (Ob : OkI G B b) (M : MC G B X E) (Z : ScR sc X) (h : chkE B sc (.ife t a b) ex = true) : PE X ex (tR X.K X.mg E (VR X.K) (evE G (.ife t a b))) := by
  unfold chkE at h
  split at h
  · obtain ⟨h, h3⟩ := and2 h
    obtain ⟨h1, h2⟩ := and2 h
    refine PE.mono (pe_ifExp (Ot.t X E sc _ M Z h1) (Oa.e X E sc _ M Z h2) (Ob.e X E sc _ M Z h3)) fun σ H Q q => ?_
    obtain ⟨m, δ, S, sr, hr, q⟩ := q
    rw [evE] at q
    refine (tR_next (R := RB) (c := evT G t) sr hr q).imp ?_
    rintro c H1 ⟨m1, S1, d1, e1, hr1, r1, p1⟩
    rw [← (show d1 = c from r1)]
    cases d1 with
    | true => exact iteT ⟨m1, δ, S1, sr.mono e1, hr1, p1⟩
    | false => exact iteF ⟨m1, δ, S1, sr.mono e1, hr1, p1⟩
  · cases h
/-! ### tests -/
theorem tand_r {a b : Ie} {σ : L2.St} {H : Hp} {Q : Bool → Hp → Prop} (q : tR X.K X.mg E RB (evT G (.andV a b)) σ H Q) : tAnd (tR X.K X.mg E RB (evT G a)) (tR X.K X.mg E RB (evT G b)) σ H Q := by
  obtain ⟨m, δ, S, sr, hr, q⟩ := q
  rw [evT] at q
  refine (tR_next (R := RB) (c := evT G a) sr hr q).imp ?_
  rintro c H1 ⟨m1, S1, d1, e1, hr1, r1, p1⟩
  rw [← (show d1 = c from r1)]
  cases d1 with
  | false => exact iteF (Post.ok (d := false) p1 rfl hr1)
  | true => exact iteT ⟨m1, δ, S1, sr.mono e1, hr1, p1⟩
theorem tor_r {a b : Ie} {σ : L2.St} {H : Hp} {Q : Bool → Hp → Prop} (q : tR X.K X.mg E RB (evT G (.orV a b)) σ H Q) : tOr (tR X.K X.mg E RB (evT G a)) (tR X.K X.mg E RB (evT G b)) σ H Q := by
  obtain ⟨m, δ, S, sr, hr, q⟩ := q
  rw [evT] at q
  refine (tR_next (R := RB) (c := evT G a) sr hr q).imp ?_
  rintro c H1 ⟨m1, S1, d1, e1, hr1, r1, p1⟩
  rw [← (show d1 = c from r1)]
  cases d1 with
  | true => exact iteT (Post.ok (d := true) p1 rfl hr1)
  | false => exact iteF ⟨m1, δ, S1, sr.mono e1, hr1, p1⟩
theorem t_not {a : Ie} {ex : Expr} (Oa : OkI G B a) (M : MC G B X E) (Z : ScR sc X) (h : chkT B sc (.notV a) ex = true) : PT X ex (tR X.K X.mg E RB (evT G (.notV a))) := by
  unfold chkT at h
  split at h
  · refine PT.mono (pt_not (Oa.t X E sc _ M Z h)) fun σ H Q q => ?_
    obtain ⟨m, δ, S, sr, hr, q⟩ := q
    rw [evT] at q
    refine (tR_next (R := RB) (c := evT G a) sr hr q).imp ?_
    rintro c H1 ⟨m1, S1, d1, e1, hr1, r1, p1⟩
    rw [← (show d1 = c from r1)]
    exact Post.ok (d := !d1) p1 rfl hr1
  · cases h
theorem w_and {a b : Ie} {op : BoolOp} {vs : List Expr} {p : Pos} (Oa : OkI G B a) (Ob : OkI G B b) (M : MC G B X E) (Z : ScR sc X) (h : chkT B sc (.andV a b) (.BoolOp op vs p) = true) : PW X (.BoolOp op vs p) (tR X.K X.mg E RB (evT G (.andV a b))) := by
  unfold chkT at h
  split at h
  · rename_i e
    cases e
    obtain ⟨h1, h2⟩ := and2 h
    exact PW.mono (pw_and (Oa.t X E sc _ M Z h1) (pw_and1 (Ob.t X E sc _ M Z h2))) fun σ H Q q => tand_r q
  · rename_i e
    cases e
    obtain ⟨h1, h2⟩ := and2 h
    exact PW.mono (pw_and (Oa.t X E sc _ M Z h1) (Ob.w X E sc _ _ _ M Z h2)) fun σ H Q q => tand_r q
  · cases h
theorem w_or {a b : Ie} {op : BoolOp} {vs : List Expr} {p : Pos} (Oa : OkI G B a) (Ob : OkI G B b) (M : MC G B X E) (Z : ScR sc X) (h : chkT B sc (.orV a b) (.BoolOp op vs p) = true) : PW X (.BoolOp op vs p) (tR X.K X.mg E RB (evT G (.orV a b))) := by
  unfold chkT at h
  split at h
  · rename_i e
    cases e
    obtain ⟨h1, h2⟩ := and2 h
    exact PW.mono (pw_or (Oa.t X E sc _ M Z h1) (pw_or1 (Ob.t X E sc _ M Z h2))) fun σ H Q q => tor_r q
  · rename_i e
    cases e
    obtain ⟨h1, h2⟩ := and2 h
    exact PW.mono (pw_or (Oa.t X E sc _ M Z h1) (Ob.w X E sc _ _ _ M Z h2)) fun σ H Q q => tor_r q
  · cases h
/-! ### parts of slices, arguments -/
theorem o_nil {ex : Option Expr} (h : chkO B sc .nil ex = true) : PO X ex (tR X.K X.mg E RO (evO G .nil)) := by
  unfold chkO at h
  split at h
  · refine PO.mono po_none fun σ H Q q => ?_
    obtain ⟨m, δ, S, sr, hr, q⟩ := q
    rw [evO] at q
    exact Post.ok (d := (none : Option Int)) q rfl hr
  · cases h
theorem o_cons {a b : Ie} {ex : Option Expr} (Oa : OkI G B a) (M : MC G B X E) (Z : ScR sc X) (h : chkO B sc (.cons a b) ex = true) : PO X ex (tR X.K X.mg E RO (evO G (.cons a b))) := by
  unfold chkO at h
  split at h
  · refine PO.mono (po_some (Oa.e X E sc _ M Z h)) fun σ H Q q => ?_
    obtain ⟨m, δ, S, sr, hr, q⟩ := q
    rw [evO] at q
    refine (tR_next (R := VR X.K) (c := evE G a) sr hr q).imp ?_
    rintro v H1 ⟨m1, S1, d1, e1, hr1, r1, p1⟩
    cases d1 <;> first | exact (show False from p1).elim | skip
    rename_i k
    exact ⟨k, r1, Post.ok (d := some k) p1 rfl hr1⟩
  · cases h
theorem a_nil {es : List Expr} (h : chkA B sc .nil es = true) : PA X es (tR X.K X.mg E (VRs X.K) (evA G .nil)) := by
  unfold chkA at h
  split at h
  · refine PA.mono pa_nil fun σ H Q q => ?_
    obtain ⟨m, δ, S, sr, hr, q⟩ := q
    rw [evA] at q
    exact Post.ok (d := ([] : List D)) q rfl hr
  · cases h
theorem a_cons {a b : Ie} {es : List Expr} (Oa : OkI G B a) (Ob : OkI G B b) (M : MC G B X E) (Z : ScR sc X) (h : chkA B sc (.cons a b) es = true) : PA X es (tR X.K X.mg E (VRs X.K) (evA G (.cons a b))) := by
  unfold chkA at h
  split at h
  · obtain ⟨h, h3⟩ := and2 h
    obtain ⟨h1, h2⟩ := and2 h
    refine PA.mono (pa_cons (Oa.e X E sc _ M Z h2) (Ob.a X E sc _ M Z h3) (star_cons h1)) fun σ H Q q => ?_
    obtain ⟨m, δ, S, sr, hr, q⟩ := q
    rw [evA] at q
    refine (tR_next (R := VR X.K) (c := evE G a) sr hr q).imp ?_
    rintro v H1 ⟨m1, S1, d1, e1, hr1, r1, p1⟩
    refine (tR_next (R := VRs X.K) (c := evA G b) (sr.mono e1) hr1 p1).imp ?_
    rintro vs H2 ⟨m2, S2, d2, e2, hr2, r2, p2⟩
    exact Post.ok (d := d1 :: d2) p2 ⟨v, vs, rfl, VR.mono e2 _ _ r1, r2⟩ hr2
  · cases h
/-! ### index, slice, call -/
theorem s_sl {a lo hi : Ie} {ex : Expr} (Oa : OkI G B a) (Ol : OkI G B lo) (Oh : OkI G B hi) (M : MC G B X E) (Z : ScR sc X) (h : chkE B sc (.sl a lo hi) ex = true) : PE X ex (tR X.K X.mg E (VR X.K) (evE G (.sl a lo hi))) := by
  unfold chkE at h
  split at h
  · obtain ⟨h, h3⟩ := and2 h
    obtain ⟨h1, h2⟩ := and2 h
    refine PE.mono (pe_slice (sl_ok (mg := X.mg) (E := E)) (Oa.e X E sc _ M Z h1) (Ol.o X E sc _ M Z h2) (Oh.o X E sc _ M Z h3)) fun σ H Q q => ?_
    obtain ⟨m, δ, S, sr, hr, q⟩ := q
    rw [evE] at q
    refine (tR_next (R := VR X.K) (c := evE G a) sr hr q).imp ?_
    rintro v H1 ⟨m1, S1, d1, e1, hr1, r1, p1⟩
    refine (tR_next (R := RO) (c := evO G lo) (sr.mono e1) hr1 p1).imp ?_
    rintro l H2 ⟨m2, S2, d2, e2, hr2, r2, p2⟩
    refine (tR_next (R := RO) (c := evO G hi) ((sr.mono e1).mono e2) hr2 p2).imp ?_
    rintro u H3 ⟨m3, S3, d3, e3, hr3, r3, p3⟩
    rw [← (show d2 = l from r2), ← (show d3 = u from r3)]
    exact ⟨m3, S3, d1, VR.mono (e2.trans e3) _ _ r1, hr3, p3⟩
  · cases h
theorem plain_any {es : List Expr} {env : PySem.Env} {pos : Pos} : ∀ {b : Ie}, chkA B sc b es = true → (backTo pos (starEach es env)).any (·.1) = false := by
  induction es with
  | nil => intro b _; rfl
  | cons x xs ih =>
    intro b h
    cases b <;> first | (unfold chkA at h; cases h; done) | skip
    rename_i p q
    unfold chkA at h
    obtain ⟨h, h3⟩ := and2 h
    obtain ⟨h1, h2⟩ := and2 h
    rw [star_cons h1]
    show ((backTo pos ((false, eval x env) :: starEach xs env)).any (·.1)) = false
    have := ih h3
    unfold backTo at this ⊢
    simp only [List.map_cons, List.any_cons, this]
    rfl
theorem tR_nextE {K : PySem.W.Frag} {mg : Str → Option Value} {α β γ ε : Type} {R : Mm → Hp → α → β → Prop} {R2 : Mm → Hp → γ → ε → Prop} {σ : L2.St} {H : Hp} {m1 : Mm} {δ : Env} {S1 : Sto} {c : Env → M α} {f : α → M γ} {Q : ε → Hp → Prop} (sr : SR K m1 H δ σ) (hr : HR K m1 H S1) (p : Post K mg E R2 m1 H (mb (c δ) f S1) Q) :
    tR K mg E R c σ H fun v H2 => ∃ m2 S2 d, Ext m1 H m2 H2 ∧ HR K m2 H2 S2 ∧ R m2 H2 d v ∧ Post K mg E R2 m2 H2 (f d S2) Q ∧ c δ S1 = .ok d S2 := by
  refine ⟨m1, δ, S1, sr, hr, (Post.bindE (R := R) p).imp ?_⟩
  rintro v H1 ⟨m2, d, S2, e, r, hr1, p1, eq⟩
  exact ⟨m2, S2, d, e, hr1, r, p1, eq⟩
theorem evA_len : ∀ {a : Ie} {es : List Expr} {δ : Env} {S S' : Sto} {ds : List D}, chkA B sc a es = true → evA G a δ S = .ok ds S' → ds.length = es.length
  | .nil, es, δ, S, S', ds, h, e => by
    unfold chkA at h
    rw [evA] at e
    cases e
    split at h
    · rfl
    · cases h
  | .cons a b, es, δ, S, S', ds, h, e => by
    unfold chkA at h
    split at h
    · obtain ⟨h, h3⟩ := and2 h
      rw [evA] at e
      obtain ⟨x, S1, _, e⟩ := bind_okE (x := evE G a δ S) e
      obtain ⟨xs, S2, e2, e⟩ := bind_okE (x := evA G b δ S1) e
      cases e
      rw [List.length_cons, List.length_cons, evA_len h3 e2]
    · cases h
  | .var _, _, _, _, _, _, h, _ => by unfold chkA at h; cases h
  | .con _, _, _, _, _, _, h, _ => by unfold chkA at h; cases h
  | .glob _, _, _, _, _, _, h, _ => by unfold chkA at h; cases h
  | .tup _, _, _, _, _, _, h, _ => by unfold chkA at h; cases h
  | .lst _, _, _, _, _, _, h, _ => by unfold chkA at h; cases h
  | .newK, _, _, _, _, _, h, _ => by unfold chkA at h; cases h
  | .newT, _, _, _, _, _, h, _ => by unfold chkA at h; cases h
  | .bin _ _ _, _, _, _, _, _, h, _ => by unfold chkA at h; cases h
  | .cmp _ _ _, _, _, _, _, _, h, _ => by unfold chkA at h; cases h
  | .chn _ _ _ _ _, _, _, _, _, _, h, _ => by unfold chkA at h; cases h
  | .andV _ _, _, _, _, _, _, h, _ => by unfold chkA at h; cases h
  | .orV _ _, _, _, _, _, _, h, _ => by unfold chkA at h; cases h
  | .notV _, _, _, _, _, _, h, _ => by unfold chkA at h; cases h
  | .ife _ _ _, _, _, _, _, _, h, _ => by unfold chkA at h; cases h
  | .neg _, _, _, _, _, _, h, _ => by unfold chkA at h; cases h
  | .ix _ _, _, _, _, _, _, h, _ => by unfold chkA at h; cases h
  | .sl _ _ _, _, _, _, _, _, h, _ => by unfold chkA at h; cases h
  | .rev _, _, _, _, _, _, h, _ => by unfold chkA at h; cases h
  | .call _ _, _, _, _, _, _, h, _ => by unfold chkA at h; cases h
  | .bi _ _, _, _, _, _, _, h, _ => by unfold chkA at h; cases h
  | .isi _ _, _, _, _, _, _, h, _ => by unfold chkA at h; cases h
  | .isin _ _ _, _, _, _, _, _, h, _ => by unfold chkA at h; cases h
  | .app _ _, _, _, _, _, _, h, _ => by unfold chkA at h; cases h
  | .get2 _ _ _, _, _, _, _, _, h, _ => by unfold chkA at h; cases h
  | .popK _ _, _, _, _, _, _, h, _ => by unfold chkA at h; cases h
  | .comp _ _ _ _ _, _, _, _, _, _, h, _ => by unfold chkA at h; cases h
  | .itv _, _, _, _, _, _, h, _ => by unfold chkA at h; cases h
  | .itr _, _, _, _, _, _, h, _ => by unfold chkA at h; cases h
  | .itz _ _, _, _, _, _, _, h, _ => by unfold chkA at h; cases h
  | .yes, _, _, _, _, _, h, _ => by unfold chkA at h; cases h
  | .no, _, _, _, _, _, h, _ => by unfold chkA at h; cases h
theorem s_call {f : Str} {a : Ie} {ex : Expr} (Oa : OkI G B a) (M : MC G B X E) (Z : ScR sc X) (h : chkE B sc (.call f a) ex = true) : PE X ex (tR X.K X.mg E (VR X.K) (evE G (.call f a))) := by
  unfold chkE at h
  split at h
  · rename_i g p x xs pos
    obtain ⟨h, h5⟩ := and2 h
    obtain ⟨h, h4⟩ := and2 h
    obtain ⟨h, h3⟩ := and2 h
    obtain ⟨h1, h2⟩ := and2 h
    have e := of_decide_eq_true h1
    subst e
    obtain ⟨n1, n2, n3⟩ := okName_of h3
    obtain ⟨fa, fd, ps, k, c1, c2, c3, c4, c5⟩ := M.fn f _ (of_decide_eq_true h4)
    have pl : plainX x = true ∧ ∃ b, chkA B sc b xs = true := by
      cases a <;> first | (unfold chkA at h5; cases h5; done) | skip
      unfold chkA at h5
      obtain ⟨h5, h6⟩ := and2 h5
      exact ⟨(and2 h5).1, _, h6⟩
    obtain ⟨pl1, b, pl2⟩ := pl
    refine PE.mono (pe_call c5 c4 (Z.gl f h2) c1 c2 c3 .nil M.pass (Oa.a X E sc _ M Z h5) n1 (star_cons pl1) (plain_any pl2)) fun σ H Q q => ?_
    obtain ⟨m, δ, S, sr, hr, q⟩ := q
    rw [evE] at q
    refine (tR_nextE (R := VRs X.K) (c := evA G a) sr hr q).imp ?_
    rintro vs H1 ⟨m1, S1, d1, e1, hr1, r1, p1⟩
    obtain ⟨p1, eq⟩ := p1
    rw [List.append_nil]
    exact ⟨by rw [r1.len]; exact evA_len h5 eq, m1, S1, d1, r1, hr1, p1⟩
  · cases h
theorem biMem {f : Bi} (h : f.done = true) : f.nm ∈ biNames := by cases f <;> first | (cases h; done) | decide
theorem boot_bi : bootBuiltins "len" = some (.builtin "len") ∧ bootBuiltins "abs" = some (.builtin "abs") ∧ bootBuiltins "int" = some (.type "int") ∧ bootBuiltins "str" = some (.type "str") ∧ bootBuiltins "tuple" = some (.type "tuple") ∧ bootBuiltins "list" = some (.type "list") ∧ bootBuiltins "all" = some (.builtin "all") ∧ bootBuiltins "isinstance" = some (.builtin "isinstance") ∧ bootBuiltins "bool" = some (.type "bool") := by
  decide +kernel
theorem s_biP {f : Bi} {a : Ie} {x : Expr} {xs : List Expr} {p pos : Pos} (M : MC G B X E) (Z : ScR sc X) (hg : glB sc f.nm = true) (hd : f.done = true) (ha : PA X (x :: xs) (tR X.K X.mg E (VRs X.K) (evA G a)))
    (hs : starEach (x :: xs) X.env = (false, eval x X.env) :: starEach xs X.env) (hp : (backTo pos (starEach xs X.env)).any (·.1) = false) :
    PE X (.Call (.Name f.nm p) (x :: xs) [] pos) (tCB (rDL X.K X.mg E (biF f)) (tR X.K X.mg E (VRs X.K) (evA G a))) := by
  have hm := M.bi _ (biMem hd)
  have hg := Z.gl _ hg
  obtain ⟨b1, b2, b3, b4, b5, b6, b7, b8, b9⟩ := boot_bi
  cases f <;> first | (cases hd; done) | skip
  · exact pe_callB len_ok hg hm b1 ha (he := hs) (hpl := hp)
  · exact pe_callB abs_ok hg hm b2 ha (he := hs) (hpl := hp)
  · exact pe_callTy int_ok hg hm b3 ha (he := hs) (hpl := hp)
  · exact pe_callTy str_ok hg hm b4 ha (he := hs) (hpl := hp)
  · exact pe_callTy tuple_ok hg hm b5 ha (he := hs) (hpl := hp)
  · exact pe_callTy list_ok hg hm b6 ha (he := hs) (hpl := hp)
  · exact pe_callB (sum_ok M.calm) hg hm (show bootBuiltins ("sum" : Str) = some (.builtin "sum") by decide +kernel) ha (he := hs) (hpl := hp)
  · exact pe_callB (max_ok M.calm) hg hm (show bootBuiltins ("max" : Str) = some (.builtin "max") by decide +kernel) ha (he := hs) (hpl := hp)
  · exact pe_callB (min_ok M.calm) hg hm (show bootBuiltins ("min" : Str) = some (.builtin "min") by decide +kernel) ha (he := hs) (hpl := hp)
  · exact pe_callB (all_ok M.calm) hg hm b7 ha (he := hs) (hpl := hp)
  · exact pe_callB (sorted_ok M.calm) hg hm (show bootBuiltins ("sorted" : Str) = some (.builtin "sorted") by decide +kernel) ha (he := hs) (hpl := hp)
theorem ty_facts (T : Ty5) : T.nm ∈ ["tuple", "int", "bool", "str", "list"] ∧ Str.ofString T.nm ∈ biNames ∧ bootBuiltins (Str.ofString T.nm) = some (.type T.nm) ∧ Str.ofString T.nm ≠ ("__name__" : Str) ∧ (Str.ofString T.nm == ("__debug__" : Str)) = false := by
  obtain ⟨b1, b2, b3, b4, b5, b6, b7, b8, b9⟩ := boot_bi
  cases T
  · exact ⟨by decide, by decide, b5, by decide, by decide⟩
  · exact ⟨by decide, by decide, b3, by decide, by decide⟩
  · exact ⟨by decide, by decide, b9, by decide, by decide⟩
  · exact ⟨by decide, by decide, b4, by decide, by decide⟩
  · exact ⟨by decide, by decide, b6, by decide, by decide⟩
theorem s_bi {f : Bi} {a : Ie} {ex : Expr} (Oa : OkI G B a) (M : MC G B X E) (Z : ScR sc X) (h : chkE B sc (.bi f a) ex = true) : PE X ex (tR X.K X.mg E (VR X.K) (evE G (.bi f a))) := by
  unfold chkE at h
  split at h
  · rename_i g p x xs pos
    obtain ⟨h, h5⟩ := and2 h
    obtain ⟨h, h3⟩ := and2 h
    obtain ⟨h1, h2⟩ := and2 h
    have e := of_decide_eq_true h1
    subst e
    have pl : plainX x = true ∧ ∃ b, chkA B sc b xs = true := by
      cases a <;> first | (unfold chkA at h5; cases h5; done) | skip
      unfold chkA at h5
      obtain ⟨h5, h6⟩ := and2 h5
      exact ⟨(and2 h5).1, _, h6⟩
    obtain ⟨pl1, b, pl2⟩ := pl
    refine PE.mono (s_biP M Z h2 h3 (Oa.a X E sc _ M Z h5) (star_cons pl1) (plain_any pl2)) fun σ H Q q => ?_
    obtain ⟨m, δ, S, sr, hr, q⟩ := q
    rw [evE] at q
    refine (tR_next (R := VRs X.K) (c := evA G a) sr hr q).imp ?_
    rintro vs H1 ⟨m1, S1, d1, e1, hr1, r1, p1⟩
    exact ⟨m1, S1, d1, r1, hr1, p1⟩
  · cases h
theorem s_isi {T : Ty5} {a : Ie} {ex : Expr} (Oa : OkI G B a) (M : MC G B X E) (Z : ScR sc X) (h : chkE B sc (.isi T a) ex = true) : PE X ex (tR X.K X.mg E (VR X.K) (evE G (.isi T a))) := by
  unfold chkE at h
  split at h
  · rename_i g p x t tp pos
    obtain ⟨h, h6⟩ := and2 h
    obtain ⟨h, h5⟩ := and2 h
    obtain ⟨h, h4⟩ := and2 h
    obtain ⟨h, h3⟩ := and2 h
    obtain ⟨h1, h2⟩ := and2 h
    have e := of_decide_eq_true h1
    have e' := of_decide_eq_true h3
    subst e e'
    obtain ⟨t1, t2, t3, t4, t5⟩ := ty_facts T
    obtain ⟨b1, b2, b3, b4, b5, b6, b7, b8, b9⟩ := boot_bi
    have hm := M.bi ("isinstance" : Str) (by decide)
    refine PE.mono (pe_callB call_isi (Z.gl _ h2) hm b8 (pa_cons (Oa.e X E sc _ M Z h6) (pa_cons (pe_bltn (v := .ty T.nm) (Z.gl _ h4) (M.bi _ t2) t3 rfl t4 t5) pa_nil (star_cons rfl)) (star_cons h5)) (he := star_cons h5)) fun σ H Q q => ?_
    obtain ⟨m, δ, S, sr, hr, q⟩ := q
    rw [evE] at q
    refine (tR_next (R := VR X.K) (c := evE G a) sr hr q).imp ?_
    rintro v H1 ⟨m1, S1, d1, e1, hr1, r1, p1⟩
    exact isF_r t1 r1 hr1 p1
  · cases h
theorem t_gen {a : Ie} {x : Expr} (Oa : OkI G B a) (M : MC G B X E) (Z : ScR sc X) (h1 : plainT x = true) (h2 : chkE B sc a x = true) : PT X x (tR X.K X.mg E RB fun δ => mb (evE G a δ) truthy) := by
  refine PT.mono (pt_truth (Oa.e X E sc x M Z h2) (truth_of h1)) fun σ H Q q => ?_
  refine (tR_bind (R := VR X.K) q).imp ?_
  rintro v H1 ⟨m1, δ, S1, d1, sr, hr, r1, p1⟩
  exact tru_r ⟨m1, S1, d1, r1, hr, p1⟩
end
end Mp
namespace Mp
open PySem L2
section
variable {K : PySem.W.Frag} {mg : Str → Option Value} {m : Mm} {H : Hp} {S : Sto}
theorem key1_v {d : D} {v : V} {k : L2.Key} (h : VR K m H d v) (e : key1 d = some k) : v = kV k := by
  cases d <;> first | (cases e; done) | skip
  case int i => cases e; exact h
  case str i => cases e; exact h
theorem keys_vs : ∀ {ds : List D} {vs : List V} {ks : List L2.Key}, VRs K m H ds vs → ds.mapM key1 = some ks → vs = ks.map kV
  | [], vs, ks, h, e => by cases (show some [] = some ks from e); exact h
  | d :: ds, vs, ks, h, e => by
    obtain ⟨v, ws, rfl, h2, h3⟩ := h
    obtain ⟨k, qs, e1, e2, rfl⟩ := mapM_cons_some e
    rw [key1_v h2 e1, keys_vs h3 e2]
    rfl
theorem keyT_v {d : D} {v : V} {ks : List L2.Key} (h : VR K m H d v) (e : keyT d = some ks) : ∃ b, v = .ref b ∧ H b = some (.tup (ks.map kV)) := by
  cases d <;> first | (cases e; done) | skip
  case tup ds =>
    obtain ⟨a, vs, rfl, h2, h3⟩ := h.tup
    rw [keys_vs h3 e] at h2
    exact ⟨a, rfl, h2⟩
theorem KR.cons {κ : Type} {p : κ × D} {r : List (κ × D)} {us : List (κ × V)} (h : KR K m H (p :: r) us) : ∃ v ws, us = (p.1, v) :: ws ∧ VR K m H p.2 v ∧ KR K m H r ws := by
  obtain ⟨h1, h2⟩ := h
  cases us with
  | nil => cases h1
  | cons q us =>
    obtain ⟨v, ws, e, h3, h4⟩ := h2
    cases q with
    | mk a b =>
      simp only [List.map_cons, List.cons.injEq] at h1 e
      obtain ⟨h1, h5⟩ := h1
      obtain ⟨e1, e2⟩ := e
      subst e1 e2
      rw [h1]
      exact ⟨b, us, rfl, h3, h5, h4⟩
theorem KR.mk {κ : Type} {k : κ} {d : D} {v : V} {r : List (κ × D)} {ws : List (κ × V)} (h : VR K m H d v) (t : KR K m H r ws) : KR K m H ((k, d) :: r) ((k, v) :: ws) :=
  ⟨by simp only [List.map_cons, t.1], v, ws.map (·.2), rfl, h, t.2⟩
theorem KR.nil {κ : Type} {us : List (κ × V)} (h : KR K m H ([] : List (κ × D)) us) : us = [] := by
  cases us with
  | nil => rfl
  | cons q us => cases h.1
theorem KR.len {κ : Type} {kvs : List (κ × D)} {us : List (κ × V)} (h : KR K m H kvs us) : us.length = kvs.length := by
  have := congrArg List.length h.1
  simpa using this.symm
theorem KR.get {κ : Type} [DecidableEq κ] {k : κ} : ∀ {kvs : List (κ × D)} {us : List (κ × V)}, KR K m H kvs us → (getK kvs k = none ∧ valV us k = none) ∨ ∃ d v, getK kvs k = some d ∧ valV us k = some v ∧ VR K m H d v
  | [], us, h => by rw [h.nil]; exact .inl ⟨rfl, rfl⟩
  | (k', d') :: r, us, h => by
    obtain ⟨v, ws, rfl, h1, h2⟩ := h.cons
    by_cases e : k' = k
    · right
      refine ⟨d', v, ?_, valV_pos e, h1⟩
      simp [getK, List.find?_cons, e]
    · rw [valV_neg (p := (k', v)) e]
      have : getK ((k', d') :: r) k = getK r k := by simp [getK, List.find?_cons, e]
      rw [this]
      exact KR.get h2
theorem KR.any {κ : Type} [DecidableEq κ] {k : κ} {kvs : List (κ × D)} {us : List (κ × V)} (h : KR K m H kvs us) : (us.any fun kv => decide (kv.1 = k)) = kvs.any fun kv => decide (kv.1 = k) := by
  have e1 : (us.any fun kv => decide (kv.1 = k)) = (us.map (·.1)).any fun x => decide (x = k) := by simp [List.any_map]; rfl
  have e2 : (kvs.any fun kv => decide (kv.1 = k)) = (kvs.map (·.1)).any fun x => decide (x = k) := by simp [List.any_map]; rfl
  rw [e1, e2, h.1]
theorem KR.app {κ : Type} {k : κ} {d : D} {v : V} : ∀ {kvs : List (κ × D)} {us : List (κ × V)}, KR K m H kvs us → VR K m H d v → KR K m H (kvs ++ [(k, d)]) (us ++ [(k, v)])
  | [], us, h, r => by rw [h.nil]; exact .mk r ⟨rfl, rfl⟩
  | p :: q, us, h, r => by
    obtain ⟨w, ws, rfl, h1, h2⟩ := h.cons
    exact .mk h1 (KR.app h2 r)
theorem KR.mapP {κ : Type} [DecidableEq κ] {k : κ} {d : D} {v : V} (r : VR K m H d v) : ∀ {kvs : List (κ × D)} {us : List (κ × V)}, KR K m H kvs us → KR K m H (kvs.map fun kv => if kv.1 = k then (kv.1, d) else kv) (us.map fun kv => if kv.1 = k then (kv.1, v) else kv)
  | [], us, h => by rw [h.nil]; exact ⟨rfl, rfl⟩
  | (a, b) :: q, us, h => by
    obtain ⟨w, ws, rfl, h1, h2⟩ := h.cons
    simp only [List.map_cons]
    by_cases e : a = k
    · rw [if_pos e, if_pos e]
      exact .mk r (KR.mapP r h2)
    · rw [if_neg e, if_neg e]
      exact .mk h1 (KR.mapP r h2)
theorem KR.set {κ : Type} [DecidableEq κ] {k : κ} {d : D} {v : V} {kvs : List (κ × D)} {us : List (κ × V)} (h : KR K m H kvs us) (r : VR K m H d v) : KR K m H (setK kvs k d) (putK us k v) := by
  unfold setK putK
  rw [h.any]
  split
  · exact h.mapP r
  · exact h.app r
theorem KR.del {κ : Type} [DecidableEq κ] {k : κ} : ∀ {kvs : List (κ × D)} {us : List (κ × V)}, KR K m H kvs us → KR K m H (delK kvs k) (dropK us k)
  | [], us, h => by rw [h.nil]; exact ⟨rfl, rfl⟩
  | (a, b) :: q, us, h => by
    obtain ⟨w, ws, rfl, h1, h2⟩ := h.cons
    unfold delK dropK
    simp only [List.filter_cons]
    by_cases e : a = k
    · rw [if_neg (by simpa using e), if_neg (by simpa using e)]
      exact KR.del h2
    · rw [if_pos (by simpa using e), if_pos (by simpa using e)]
      exact .mk h1 (KR.del h2)
/-- a look into a dict -/
theorem HR.dget {n : Nat} {a : Addr} {o : Ob} {k : D} {y : V} (hr : HR K m H S) (h : m[n]? = some a) (e : (S[n]?).map rdOb = some o) (hk : VR K m H k y) :
    (∀ kvs ks, o = .dT kvs → keyT k = some ks → ∃ r, DGet H a y r ∧ ((getK kvs ks = none ∧ r = none) ∨ ∃ d v, getK kvs ks = some d ∧ r = some v ∧ VR K m H d v)) ∧
    (∀ kvs k1, o = .dK kvs → key1 k = some k1 → ∃ r, DGet H a y r ∧ ((getK kvs k1 = none ∧ r = none) ∨ ∃ d v, getK kvs k1 = some d ∧ r = some v ∧ VR K m H d v)) := by
  refine ⟨fun kvs ks e1 e2 => ?_, fun kvs k1 e1 e2 => ?_⟩
  · subst e1
    obtain ⟨u, h1, us, rfl, h2⟩ := hr.rd h e (fun q z => by cases z)
    obtain ⟨b, rfl, h3⟩ := keyT_v hk e2
    exact ⟨_, .inr ⟨us, ks, b, h1, rfl, h3, rfl⟩, h2.get⟩
  · subst e1
    obtain ⟨u, h1, us, rfl, h2⟩ := hr.rd h e (fun q z => by cases z)
    exact ⟨_, .inl ⟨us, k1, h1, key1_v hk e2, rfl⟩, h2.get⟩
end
section
variable {G : Gt} {B : Bk} {X : Cx} {E : XK} {sc : Scope}
theorem ix_dict {m : Mm} {H : Hp} {S : Sto} {x y : D} {v w : V} {Q : VK} (hx : VR X.K m H x v) (hy : VR X.K m H y w) (hr : HR X.K m H S) (ns : isSeq S x = false) (p : Post X.K X.mg E (VR X.K) m H (ixF x y S) Q) :
    ∃ a r, v = .ref a ∧ DGet H a w (some r) ∧ Q r H := by
  cases x <;> first | exact (show False from p).elim | (cases ns; done) | skip
  case loc n =>
    obtain ⟨a1, rfl, m1⟩ := hx.loc
    cases e : (S[n]?).map rdOb with
    | none =>
      simp only [ixF, e] at p
      exact (show False from p).elim
    | some o =>
      obtain ⟨g1, g2⟩ := hr.dget m1 e hy
      cases o with
      | dT kvs =>
        have p : Post X.K X.mg E (VR X.K) m H (match (keyT y).bind (getK kvs) with
          | some v => .ok v S
          | none => .bad) Q := by
          simp only [ixF, e] at p
          exact p
        cases e2 : keyT y with
        | none => rw [e2] at p; exact (show False from p).elim
        | some ks =>
          rw [e2] at p
          obtain ⟨r, d1, d2⟩ := g1 kvs ks rfl e2
          rcases d2 with ⟨d2, _⟩ | ⟨d, v, d2, rfl, d3⟩
          · rw [show (some ks).bind (getK kvs) = none from d2] at p; exact (show False from p).elim
          · rw [show (some ks).bind (getK kvs) = some d from d2] at p
            exact ⟨a1, v, rfl, d1, Post.ok (d := d) p d3 hr⟩
      | dK kvs =>
        have p : Post X.K X.mg E (VR X.K) m H (match (key1 y).bind (getK kvs) with
          | some v => .ok v S
          | none => .bad) Q := by
          simp only [ixF, e] at p
          exact p
        cases e2 : key1 y with
        | none => rw [e2] at p; exact (show False from p).elim
        | some ks =>
          rw [e2] at p
          obtain ⟨r, d1, d2⟩ := g2 kvs ks rfl e2
          rcases d2 with ⟨d2, _⟩ | ⟨d, v, d2, rfl, d3⟩
          · rw [show (some ks).bind (getK kvs) = none from d2] at p; exact (show False from p).elim
          · rw [show (some ks).bind (getK kvs) = some d from d2] at p
            exact ⟨a1, v, rfl, d1, Post.ok (d := d) p d3 hr⟩
      | lst ds => simp only [isSeq, e] at ns; cases ns
      | lk o => simp only [ixF, e] at p; exact (show False from p).elim
theorem s_ix {a b : Ie} {ex : Expr} (Oa : OkI G B a) (Ob : OkI G B b) (M : MC G B X E) (Z : ScR sc X) (h : chkE B sc (.ix a b) ex = true) : PE X ex (tR X.K X.mg E (VR X.K) (evE G (.ix a b))) := by
  unfold chkE at h
  split at h
  · rename_i x y pos
    obtain ⟨h, h3⟩ := and2 h
    obtain ⟨h1, h2⟩ := and2 h
    have hu := M.hu
    have pa := Oa.e X E sc _ M Z h1
    have pb := Ob.e X E sc _ M Z h2
    refine PE.mono (PE.or (pe_ix (ix_ok (mg := X.mg) (E := E)) pa pb (plainIx_of h3) (pos := pos)) (pe_dget (by omega) pa pb (plainIx_of h3))) fun σ H Q q => ?_
    obtain ⟨m, δ, S, sr, hr, q⟩ := q
    rw [evE] at q
    by_cases c : ∃ x S1 y S2, evE G a δ S = .ok x S1 ∧ evE G b δ S1 = .ok y S2 ∧ isSeq S2 x = false
    · obtain ⟨x, S1, y, S2, c1, c2, c3⟩ := c
      right
      refine (tR_nextE (R := VR X.K) (c := evE G a) sr hr q).imp ?_
      rintro v H1 ⟨m1, S1', d1, e1, hr1, r1, p1, q1⟩
      rw [c1] at q1
      cases q1
      refine (tR_nextE (R := VR X.K) (c := evE G b) (sr.mono e1) hr1 p1).imp ?_
      rintro w H2 ⟨m2, S2', d2, e2, hr2, r2, p2, q2⟩
      rw [c2] at q2
      cases q2
      exact ix_dict (VR.mono e2 _ _ r1) r2 hr2 c3 p2
    · left
      refine (tR_nextE (R := VR X.K) (c := evE G a) sr hr q).imp ?_
      rintro v H1 ⟨m1, S1, d1, e1, hr1, r1, p1, q1⟩
      refine (tR_nextE (R := VR X.K) (c := evE G b) (sr.mono e1) hr1 p1).imp ?_
      rintro w H2 ⟨m2, S2, d2, e2, hr2, r2, p2, q2⟩
      refine ⟨m2, S2, d1, d2, ?_, VR.mono e2 _ _ r1, r2, hr2, p2⟩
      cases c3 : isSeq S2 d1 with
      | true => rfl
      | false => exact (c ⟨d1, S1, d2, S2, q1, q2, c3⟩).elim
  · cases h
theorem in_r {m : Mm} {H : Hp} {S : Sto} {x y : D} {v w : V} {Q : Bool → Hp → Prop} (hx : VR X.K m H x v) (hy : VR X.K m H y w) (hr : HR X.K m H S) (p : Post X.K X.mg E RB m H (inF x y S) Q) :
    ∃ a o, w = .ref a ∧ DGet H a v o ∧ Q o.isSome H := by
  cases y <;> first | exact (show False from p).elim | skip
  case loc n =>
    obtain ⟨a1, rfl, m1⟩ := hy.loc
    cases e : (S[n]?).map rdOb with
    | none =>
      simp only [inF, e] at p
      exact (show False from p).elim
    | some o =>
      obtain ⟨g1, g2⟩ := hr.dget m1 e hx
      cases o with
      | dT kvs =>
        have p : Post X.K X.mg E RB m H (match keyT x with
          | some k => .ok (getK kvs k).isSome S
          | none => .bad) Q := by
          simp only [inF, e] at p
          exact p
        cases e2 : keyT x with
        | none => rw [e2] at p; exact (show False from p).elim
        | some ks =>
          rw [e2] at p
          obtain ⟨r, d1, d2⟩ := g1 kvs ks rfl e2
          refine ⟨a1, r, rfl, d1, ?_⟩
          rcases d2 with ⟨d2, rfl⟩ | ⟨d, v, d2, rfl, d3⟩
          · have p : Post X.K X.mg E RB m H (.ok (getK kvs ks).isSome S) Q := p
            rw [d2] at p
            exact Post.ok (d := false) p rfl hr
          · have p : Post X.K X.mg E RB m H (.ok (getK kvs ks).isSome S) Q := p
            rw [d2] at p
            exact Post.ok (d := true) p rfl hr
      | dK kvs =>
        have p : Post X.K X.mg E RB m H (match key1 x with
          | some k => .ok (getK kvs k).isSome S
          | none => .bad) Q := by
          simp only [inF, e] at p
          exact p
        cases e2 : key1 x with
        | none => rw [e2] at p; exact (show False from p).elim
        | some ks =>
          rw [e2] at p
          obtain ⟨r, d1, d2⟩ := g2 kvs ks rfl e2
          refine ⟨a1, r, rfl, d1, ?_⟩
          rcases d2 with ⟨d2, rfl⟩ | ⟨d, v, d2, rfl, d3⟩
          · have p : Post X.K X.mg E RB m H (.ok (getK kvs ks).isSome S) Q := p
            rw [d2] at p
            exact Post.ok (d := false) p rfl hr
          · have p : Post X.K X.mg E RB m H (.ok (getK kvs ks).isSome S) Q := p
            rw [d2] at p
            exact Post.ok (d := true) p rfl hr
      | lst ds => simp only [inF, e] at p; exact (show False from p).elim
      | lk o => simp only [inF, e] at p; exact (show False from p).elim
theorem pc_in {neg : Bool} {a b : Ie} {x y : Expr} {o : CmpOp} (Oa : OkI G B a) (Ob : OkI G B b) (M : MC G B X E) (Z : ScR sc X) (h : (decide (o = if neg then CmpOp.NotIn else CmpOp.In) && chkE B sc a x && chkE B sc b y && plainX y) = true) :
    (∃ t, PC X o x y t ∧ ∀ σ H Q, tR X.K X.mg E (VR X.K) (evE G (.isin neg a b)) σ H Q → t σ H Q) ∧ behindInMarks o y = false := by
  obtain ⟨h, h4⟩ := and2 h
  obtain ⟨h, h3⟩ := and2 h
  obtain ⟨h1, h2⟩ := and2 h
  have e := of_decide_eq_true h1
  subst e
  have hu := M.hu
  have pa := Oa.e X E sc _ M Z h2
  have pb := Ob.e X E sc _ M Z h3
  refine ⟨?_, marks_of h4⟩
  have go : ∀ σ H Q, tR X.K X.mg E (VR X.K) (evE G (.isin neg a b)) σ H Q → tR X.K X.mg E (VR X.K) (evE G a) σ H fun v H1 => tR X.K X.mg E (VR X.K) (evE G b) σ H1 fun w H2 => ∃ a o, w = .ref a ∧ DGet H2 a v o ∧ Q (.bl (if neg then !o.isSome else o.isSome)) H2 := fun σ H Q q => by
    obtain ⟨m, δ, S, sr, hr, q⟩ := q
    rw [evE] at q
    refine (tR_next (R := VR X.K) (c := evE G a) sr hr q).imp ?_
    rintro v H1 ⟨m1, S1, d1, e1, hr1, r1, p1⟩
    refine (tR_next (R := VR X.K) (c := evE G b) (sr.mono e1) hr1 p1).imp ?_
    rintro w H2 ⟨m2, S2, d2, e2, hr2, r2, p2⟩
    obtain ⟨a, o, e3, g, m3, d3, S3, e4, r3, hr3, p3⟩ := in_r (E := E) (VR.mono e2 _ _ r1) r2 hr2 (Post.bind (R := RB) (x := inF d1 d2 S2) p2)
    rw [show d3 = o.isSome from r3] at p3
    exact ⟨a, o, e3, g, Post.ok (d := D.bl (if neg then !o.isSome else o.isSome)) p3 rfl hr3⟩
  cases neg with
  | true => exact ⟨_, pc_dnotin (by omega) pa pb, go⟩
  | false => exact ⟨_, pc_din (by omega) pa pb, go⟩
theorem s_isin {neg : Bool} {a b : Ie} {ex : Expr} (Oa : OkI G B a) (Ob : OkI G B b) (M : MC G B X E) (Z : ScR sc X) (h : chkE B sc (.isin neg a b) ex = true) : PE X ex (tR X.K X.mg E (VR X.K) (evE G (.isin neg a b))) := by
  unfold chkE at h
  split at h
  · obtain ⟨⟨t, h1, h2⟩, h3⟩ := pc_in Oa Ob M Z h
    exact PE.mono (pe_cmp h1 h3) h2
  · cases h
theorem isin_bl {neg : Bool} {a b : Ie} {δ : Env} {S S' : Sto} {d : D} (h : evE G (.isin neg a b) δ S = .ok d S') : ∃ k, d = .bl k := by
  rw [evE] at h
  obtain ⟨x, S1, _, h⟩ := bind_okE (x := evE G a δ S) h
  obtain ⟨y, S2, _, h⟩ := bind_okE (x := evE G b δ S1) h
  obtain ⟨r, S3, _, h⟩ := bind_okE (x := inF x y S2) h
  cases h
  exact ⟨_, rfl⟩
theorem t_isin {neg : Bool} {a b : Ie} {x y : Expr} {o : CmpOp} {p : Pos} (Oa : OkI G B a) (Ob : OkI G B b) (M : MC G B X E) (Z : ScR sc X) (h : (decide (o = if neg then CmpOp.NotIn else CmpOp.In) && chkE B sc a x && chkE B sc b y && plainX y) = true) :
    PT X (.Compare x [o] [y] p) (tR X.K X.mg E RB fun δ => mb (evE G (.isin neg a b) δ) truthy) := by
  obtain ⟨⟨t, h1, h2⟩, h3⟩ := pc_in Oa Ob M Z h
  exact PT.mono (pt_cmp h1 h3) fun σ H Q q => test_bl (c := evE G (.isin neg a b)) (fun _ _ _ _ h => isin_bl h) (fun Q q => h2 σ H Q q) q
theorem few1 {e : Expr} {env : PySem.Env} {pos : Pos} (h : plainX e = true) : ((backTo pos (starEach [e] env)).all (fun x => !x.1) && (backToKw pos (keywordEach [] env)).all (fun x => x.1.isSome)
      && decide ((e :: ([] : List Expr)).length + ([] : List Keyword).length + (if ([] : List Keyword).isEmpty then 0 else 1) < 30)) = true := by
  rw [star_cons h]
  rfl
theorem s_app {a b : Ie} {ex : Expr} (Oa : OkI G B a) (Ob : OkI G B b) (M : MC G B X E) (Z : ScR sc X) (h : chkE B sc (.app a b) ex = true) : PE X ex (tR X.K X.mg E (VR X.K) (evE G (.app a b))) := by
  unfold chkE at h
  split at h
  · obtain ⟨h, h6⟩ := and2 h
    obtain ⟨h, h5⟩ := and2 h
    obtain ⟨h, h4⟩ := and2 h
    obtain ⟨h, h3⟩ := and2 h
    obtain ⟨h1, h2⟩ := and2 h
    have e := of_decide_eq_true h1
    subst e
    refine PE.mono (pe_bm PySem.F.plainAttrs_list PySem.F.slot_list_append PySem.F.type_list_append mt_append (Oa.e X E sc _ M Z h5) (pa_cons (Ob.e X E sc _ M Z h6) pa_nil (star_cons h3)) (attr_of_plain h2) (few1 h3) h4 (star_cons h3)) fun σ H Q q => ?_
    obtain ⟨m, δ, S, sr, hr, q⟩ := q
    rw [evE] at q
    refine (tR_next (R := VR X.K) (c := evE G a) sr hr q).imp ?_
    rintro v H1 ⟨m1, S1, d1, e1, hr1, r1, p1⟩
    cases d1 <;> first | exact (show False from p1).elim | skip
    rename_i n
    obtain ⟨l, rfl, m2⟩ := r1.loc
    cases eS : S1[n]? with
    | none =>
      have p1 : Post X.K X.mg E (VR X.K) m1 H1 ((isLst (.loc n) S1).bind _) Q := p1
      simp only [isLst, eS] at p1
      exact (show False from p1).elim
    | some o =>
      cases o with
      | lst ds =>
        obtain ⟨vs, h7, h8⟩ := hr1.lst m2 eS
        refine ⟨.inl ⟨rfl, vs, sql h7⟩, ?_⟩
        have p1 : Post X.K X.mg E (VR X.K) m1 H1 ((isLst (.loc n) S1).bind _) Q := p1
        simp only [isLst, eS, bind_ok] at p1
        refine (tR_next (R := VR X.K) (c := evE G b) (sr.mono e1) hr1 p1).imp ?_
        rintro w H2 ⟨m3, S3, d3, e3, hr3, r3, p3⟩
        have m4 := e3.at m2
        have p3 : Post X.K X.mg E (VR X.K) m3 H2 (match S3[n]? with
          | some (.lst ds) => if ds.length < sz then .ok .non (S3.set n (.lst (ds ++ [d3]))) else .bad
          | _ => .bad) Q := p3
        cases e5 : S3[n]? with
        | none => rw [e5] at p3; exact (show False from p3).elim
        | some o =>
          rw [e5] at p3
          cases o with
          | lst es =>
            obtain ⟨us, h9, h10⟩ := hr3.lst m4 e5
            have p3 : Post X.K X.mg E (VR X.K) m3 H2 (if es.length < sz then .ok .non (S3.set n (.lst (es ++ [d3]))) else .bad) Q := p3
            by_cases c : es.length < sz
            · rw [if_pos c] at p3
              refine ⟨l, us, w, rfl, rfl, h9, by rw [h10.len]; exact c, ?_⟩
              obtain ⟨x1, x2⟩ := hr3.write (o' := .lst (es ++ [d3])) (u := .lst (us ++ [w])) m4 h9 (fun _ z => by cases z) ⟨_, rfl, h10.app ⟨w, [], rfl, r3, rfl⟩⟩
              exact p3 _ _ _ x1 rfl x2
            · rw [if_neg c] at p3
              exact (show False from p3).elim
          | _ => exact (show False from p3).elim
      | _ =>
        have p1 : Post X.K X.mg E (VR X.K) m1 H1 ((isLst (.loc n) S1).bind _) Q := p1
        simp only [isLst, eS] at p1
        exact (show False from p1).elim
  · cases h
end
end Mp
namespace Mp
open PySem L2
/-! ### walks -/
open Classical in
theorem okC_at {c : Chk} {S : Sto} {n : Nat} {o : Ob} (h : okC c S = true) (e : (n, o) ∈ c) : S[n]? = some o := by
  unfold okC at h
  exact (of_decide_eq_true h : ∀ p ∈ c, S[p.1]? = some p.2) (n, o) e
section
variable {K : PySem.W.Frag} {m : Mm} {H : Hp}
theorem wlk_list {n : Nat} {a : Addr} {o : Ob} {ds : List D} (hn : m[n]? = some a) (ho : rdOb o = .lst ds) : Wlk K m H (ds, [(n, o)]) (Itl K a) := by
  have key : ∀ {m' H' S}, Ext m H m' H' → HR K m' H' S → okC [(n, o)] S = true → ∃ vs, SqL K H' a vs ∧ VRs K m' H' ds vs := fun {m' H' S} e hr c =>
    hr.rdl (e.at hn) (by rw [okC_at c (List.mem_singleton.mpr rfl)]; exact congrArg some ho)
  refine ⟨fun i m' H' S hi e hr c => ?_, fun i m' H' S x H2 hi e hr c y => ?_, fun m' H' S e hr c => ?_⟩
  · obtain ⟨vs, h1, h2⟩ := key e hr c
    have : i < vs.length := by rw [h2.len]; exact hi
    exact ⟨vs, vs[i], h1, List.getElem?_eq_getElem this⟩
  · obtain ⟨vs, h1, h2⟩ := key e hr c
    obtain ⟨rfl, y⟩ := y
    have e1 := y vs h1
    obtain ⟨h3, h4⟩ := List.getElem?_eq_some_iff.mp e1
    have h5 : i < ds.length := by rw [← h2.len]; exact h3
    obtain ⟨v, h6, h7⟩ := h2.get (List.getElem?_eq_getElem h5)
    rw [e1] at h6
    cases h6
    exact ⟨ds[i], List.getElem?_eq_getElem h5, Ext.refl _ _, hr, h7⟩
  · obtain ⟨vs, h1, h2⟩ := key e hr c
    exact ⟨vs, h1, by rw [h2.len]; exact Nat.le_refl _⟩
theorem wlk_tup {a : Addr} {ds : List D} {vs : List V} (h1 : WT K H a vs) (h2 : VRs K m H ds vs) : Wlk K m H (ds, []) (Itt K a) := by
  refine ⟨fun i m' H' S hi e hr c => ?_, fun i m' H' S x H2 hi e hr c y => ?_, fun m' H' S e hr c => ?_⟩
  · have : i < vs.length := by rw [h2.len]; exact hi
    exact ⟨vs, vs[i], (e.wt h1).sq, List.getElem?_eq_getElem this⟩
  · obtain ⟨rfl, y⟩ := y
    have e1 := y vs (e.wt h1).sq
    obtain ⟨h3, h4⟩ := List.getElem?_eq_some_iff.mp e1
    have h5 : i < ds.length := by rw [← h2.len]; exact h3
    obtain ⟨v, h6, h7⟩ := h2.get (List.getElem?_eq_getElem h5)
    rw [e1] at h6
    cases h6
    exact ⟨ds[i], List.getElem?_eq_getElem h5, Ext.refl _ _, hr, VR.mono e _ _ h7⟩
  · exact ⟨vs, (e.wt h1).sq, by rw [h2.len]; exact Nat.le_refl _⟩
theorem wlk_rng {lo : Int} {n : Nat} : Wlk K m H ((List.range n).map fun (k : Nat) => D.int (lo + (k : Int)), []) (Itr lo n) := by
  refine ⟨fun i m' H' S hi e hr c => ?_, fun i m' H' S x H2 hi e hr c y => ?_, fun m' H' S e hr c => ?_⟩
  · show i < n
    simpa using hi
  · obtain ⟨rfl, rfl⟩ := y
    have hi : i < n := by simpa using hi
    exact ⟨.int (lo + (i : Int)), by simp [hi], Ext.refl _ _, hr, rfl⟩
  · show n ≤ _
    simp
theorem zip_at {α β : Type} : ∀ {l : List α} {r : List β} {i : Nat} {a : α} {b : β}, l[i]? = some a → r[i]? = some b → (l.zip r)[i]? = some (a, b)
  | [], _, _, _, _, h, _ => by simp at h
  | _ :: _, [], _, _, _, _, h => by simp at h
  | x :: l, y :: r, 0, a, b, h, k => by
    cases (show some x = some a from h)
    cases (show some y = some b from k)
    rfl
  | x :: l, y :: r, i + 1, a, b, h, k => zip_at (l := l) (r := r) (i := i) h k
theorem wlk_zipT {a b : Addr} {ds es : List D} {vs ws : List V} (h1 : WT K H a vs) (h2 : VRs K m H ds vs) (k1 : WT K H b ws) (k2 : VRs K m H es ws) : Wlk K m H ((ds.zip es).map fun r => .tup [r.1, r.2], []) (RZ.ItzT K a b) := by
  have len : ((ds.zip es).map fun r => D.tup [r.1, r.2]).length = min ds.length es.length := by rw [List.length_map, List.length_zip]
  refine ⟨fun i m' H' S hi e hr c => ?_, fun i m' H' S x H2 hi e hr c y => ?_, fun m' H' S e hr c => ?_⟩
  · rw [len] at hi
    have i1 : i < vs.length := by rw [h2.len]; omega
    have i2 : i < ws.length := by rw [k2.len]; omega
    exact ⟨vs, ws, vs[i], ws[i], (e.wt h1).sq, (e.wt k1).sq, List.getElem?_eq_getElem i1, List.getElem?_eq_getElem i2⟩
  · rw [len] at hi
    obtain ⟨T, u, w, rfl, nT, rfl, y1, y2⟩ := y
    have e1 := y1 vs (e.wt h1).sq
    have e2 := y2 ws (e.wt k1).sq
    obtain ⟨u', q1, q2⟩ := h2.get (List.getElem?_eq_getElem (show i < ds.length by omega))
    obtain ⟨w', q3, q4⟩ := k2.get (List.getElem?_eq_getElem (show i < es.length by omega))
    rw [e1] at q1
    rw [e2] at q3
    cases q1
    cases q3
    have x1 : Ext m' H' m' (upd H' T (.tup [u, w])) := Ext.new nT
    refine ⟨.tup [ds[i], es[i]], ?_, x1, hr.new nT, ⟨T, [u, w], rfl, upd_same, u, [w], rfl, VR.mono (e.trans x1) _ _ q2, w, [], rfl, VR.mono (e.trans x1) _ _ q4, rfl⟩⟩
    rw [List.getElem?_map, zip_at (List.getElem?_eq_getElem (show i < ds.length by omega)) (List.getElem?_eq_getElem (show i < es.length by omega))]
    rfl
  · refine ⟨vs, ws, (e.wt h1).sq, (e.wt k1).sq, ?_⟩
    rw [len, h2.len, k2.len]
    omega
theorem wlk_zipL {n n' : Nat} {a b : Addr} {o o' : Ob} {ds es : List D} (hn : m[n]? = some a) (ho : rdOb o = .lst ds) (hn' : m[n']? = some b) (ho' : rdOb o' = .lst es) : Wlk K m H ((ds.zip es).map fun r => .tup [r.1, r.2], [(n, o)] ++ [(n', o')]) (Itz K a b) := by
  have len : ((ds.zip es).map fun r => D.tup [r.1, r.2]).length = min ds.length es.length := by rw [List.length_map, List.length_zip]
  have key : ∀ {m' H' S}, Ext m H m' H' → HR K m' H' S → okC ([(n, o)] ++ [(n', o')]) S = true → ∃ vs ws, SqL K H' a vs ∧ VRs K m' H' ds vs ∧ SqL K H' b ws ∧ VRs K m' H' es ws := fun {m' H' S} e hr c => by
    obtain ⟨vs, h1, h2⟩ := hr.rdl (e.at hn) (by rw [okC_at c (List.mem_append_left _ (List.mem_singleton.mpr rfl))]; exact congrArg some ho)
    obtain ⟨ws, k1, k2⟩ := hr.rdl (e.at hn') (by rw [okC_at c (List.mem_append_right _ (List.mem_singleton.mpr rfl))]; exact congrArg some ho')
    exact ⟨vs, ws, h1, h2, k1, k2⟩
  refine ⟨fun i m' H' S hi e hr c => ?_, fun i m' H' S x H2 hi e hr c y => ?_, fun m' H' S e hr c => ?_⟩
  · obtain ⟨vs, ws, h1, h2, k1, k2⟩ := key e hr c
    rw [len] at hi
    have i1 : i < vs.length := by rw [h2.len]; omega
    have i2 : i < ws.length := by rw [k2.len]; omega
    exact ⟨vs, ws, vs[i], ws[i], h1, k1, List.getElem?_eq_getElem i1, List.getElem?_eq_getElem i2⟩
  · obtain ⟨vs, ws, h1, h2, k1, k2⟩ := key e hr c
    rw [len] at hi
    obtain ⟨T, u, w, rfl, nT, rfl, y1, y2⟩ := y
    have e1 := y1 vs h1
    have e2 := y2 ws k1
    obtain ⟨u', q1, q2⟩ := h2.get (List.getElem?_eq_getElem (show i < ds.length by omega))
    obtain ⟨w', q3, q4⟩ := k2.get (List.getElem?_eq_getElem (show i < es.length by omega))
    rw [e1] at q1
    rw [e2] at q3
    cases q1
    cases q3
    have x1 : Ext m' H' m' (upd H' T (.tup [u, w])) := Ext.new nT
    refine ⟨.tup [ds[i], es[i]], ?_, x1, hr.new nT, ⟨T, [u, w], rfl, upd_same, u, [w], rfl, VR.mono x1 _ _ q2, w, [], rfl, VR.mono x1 _ _ q4, rfl⟩⟩
    rw [List.getElem?_map, zip_at (List.getElem?_eq_getElem (show i < ds.length by omega)) (List.getElem?_eq_getElem (show i < es.length by omega))]
    rfl
  · obtain ⟨vs, ws, h1, h2, k1, k2⟩ := key e hr c
    refine ⟨vs, ws, h1, k1, ?_⟩
    rw [len, h2.len, k2.len]
    omega
theorem vr_key (k : L2.Key) : VR K m H (unkey1 k) (kV k) := by cases k <;> rfl
theorem vrs_keys : ∀ ks : List L2.Key, VRs K m H (ks.map unkey1) (ks.map kV)
  | [] => rfl
  | k :: ks => ⟨_, _, rfl, vr_key k, vrs_keys ks⟩
theorem wlk_keysT {a : Addr} {od : Obj} {kvs : List (List L2.Key × D)} {us : List (List L2.Key × V)} {c : Chk} (h : H a = some (.frz od (.dT us))) (r : kvs.map (·.1) = us.map (·.1)) : Wlk K m H (kvs.map fun p => unkeyT p.1, c) (Itkt a od us) := by
  have len : (kvs.map fun p => unkeyT p.1).length = us.length := by
    have := congrArg List.length r
    rw [List.length_map, List.length_map] at this
    rw [List.length_map, this]
  refine ⟨fun i m' H' S hi e hr c => ⟨e.frz _ _ _ h, by rw [← len]; exact hi⟩, fun i m' H' S x H2 hi e hr c y => ?_, fun m' H' S e hr c => ⟨e.frz _ _ _ h, by rw [← len]; exact Nat.le_refl _⟩⟩
  obtain ⟨rfl, k, v, q, e1, rfl, hq⟩ := y
  refine ⟨unkeyT k, ?_, Ext.refl _ _, hr, ⟨q, k.map kV, rfl, hq, vrs_keys k⟩⟩
  have e2 : (us.map (·.1))[i]? = some k := by rw [List.getElem?_map, e1]; rfl
  rw [← r] at e2
  have e3 : (kvs.map fun p => unkeyT p.1) = (kvs.map (·.1)).map unkeyT := by rw [List.map_map]; rfl
  show (kvs.map fun p => unkeyT p.1)[i]? = _
  rw [e3, List.getElem?_map, e2]
  rfl
theorem wlk_keysK {a : Addr} {od : Obj} {kvs : List (L2.Key × D)} {us : List (L2.Key × V)} {c : Chk} (h : H a = some (.frz od (.dK us))) (r : kvs.map (·.1) = us.map (·.1)) : Wlk K m H (kvs.map fun p => unkey1 p.1, c) (Itk a od us) := by
  have len : (kvs.map fun p => unkey1 p.1).length = us.length := by
    have := congrArg List.length r
    rw [List.length_map, List.length_map] at this
    rw [List.length_map, this]
  refine ⟨fun i m' H' S hi e hr c => ⟨e.frz _ _ _ h, by rw [← len]; exact hi⟩, fun i m' H' S x H2 hi e hr c y => ?_, fun m' H' S e hr c => ⟨e.frz _ _ _ h, by rw [← len]; exact Nat.le_refl _⟩⟩
  obtain ⟨rfl, k, v, e1, rfl⟩ := y
  refine ⟨unkey1 k, ?_, Ext.refl _ _, hr, vr_key k⟩
  have e2 : (us.map (·.1))[i]? = some k := by rw [List.getElem?_map, e1]; rfl
  rw [← r] at e2
  have e3 : (kvs.map fun p => unkey1 p.1) = (kvs.map (·.1)).map unkey1 := by rw [List.map_map]; rfl
  show (kvs.map fun p => unkey1 p.1)[i]? = _
  rw [e3, List.getElem?_map, e2]
  rfl
/-! ### a lock taken away -/
def isDc : HO → Prop
  | .dK _ => True
  | .dT _ => True
  | _ => False
theorem Ext0.unlock {a : Addr} {od : Obj} {u : HO} (hf : H a = some (.frz od u)) (hu : isDc u) : Ext0 m H m (upd H a u) := by
  have ne : ∀ {b : Addr} {w : HO}, H b = some w → (∀ u', w = .frz od u' → isDc u' → False) → b ≠ a := fun {b w} h k z => by
    rw [z, hf] at h
    exact k u (Option.some.inj h).symm hu
  refine ⟨⟨[], by simp⟩, fun b vs h => ?_, fun b o vs h => ?_, fun b c h => ?_⟩
  · rw [upd_ne (ne h fun u' z _ => by cases z)]; exact h
  · rw [upd_ne (ne h fun u' z k => by cases z; exact k)]; exact h
  · rw [upd_ne (ne h fun u' z _ => by cases z)]; exact h
theorem HR.unlock {S : Sto} {n : Nat} {a : Addr} {od : Obj} {u : HO} {o : Ob} (h : HR K m H S) (hn : m[n]? = some a) (hf : H a = some (.frz od u)) (hu : isDc u) (hS : S[n]? = some (.lk o)) : HR K m (upd H a u) (S.set n o) := by
  have e := Ext0.unlock (m := m) hf hu
  refine ⟨by simp [h.len], h.inj, fun i b ob hi ho => ?_⟩
  by_cases q : n = i
  · subst q
    rw [hn] at hi
    cases hi
    rw [List.getElem?_set_self (h.lt hn)] at ho
    cases ho
    obtain ⟨w, h1, h2⟩ := h.ob n a _ hn hS
    obtain ⟨ob, u', rfl, h3⟩ := h2
    rw [hf] at h1
    cases h1
    exact ⟨u, upd_same, h3.mono0 e⟩
  · rw [List.getElem?_set_ne q] at ho
    obtain ⟨w, h1, h2⟩ := h.ob i b ob hi ho
    have ne : b ≠ a := fun z => q (h.inj n i a hn (by rw [← z]; exact hi))
    exact ⟨w, by rw [upd_ne ne]; exact h1, h2.mono0 e⟩
/-- what is said of a run under a lock -/
theorem Post.unlk {mg : Str → Option Value} {E : XK} {α β : Type} {R : Mm → Hp → α → β → Prop} {x : Ret α} {Q : β → Hp → Prop} {n : Nat} {a : Addr} {od : Obj} {u : HO} {m' : Mm} {H' : Hp} (hR : ∀ {m H H'} {d : α} {v : β}, Ext0 m H m H' → R m H d v → R m H' d v)
    (q : Post K mg E R m H (Mp.unlk n x) Q) (hn : m[n]? = some a) (ha : H a = some u) (hu : isDc u) (e0 : Ext m (upd H a (.frz od u)) m' H') : Post K mg E R m' H' x fun v H2 => H2 a = some (.frz od u) ∧ Q v (upd H2 a u) := by
  cases x with
  | bad => exact (show False from q).elim
  | exc c S => exact (show False from q).elim
  | ok d S =>
    intro v m2 H2 e r hr
    have hf : H2 a = some (.frz od u) := e.frz _ _ _ (e0.frz _ _ _ upd_same)
    have hn2 : m2[n]? = some a := (e0.trans e).at hn
    refine ⟨hf, ?_⟩
    have q : Post K mg E R m H (match S[n]? with
      | some (.lk o) => .ok d (S.set n o)
      | _ => .bad) Q := q
    cases eS : S[n]? with
    | none => rw [eS] at q; exact (show False from q).elim
    | some o =>
      rw [eS] at q
      cases o with
      | lst _ => exact (show False from q).elim
      | dK _ => exact (show False from q).elim
      | dT _ => exact (show False from q).elim
      | lk o =>
        have et := e0.trans e
        have nf : ∀ {b : Addr} {w : HO}, H b = some w → (isDc w → False) → b ≠ a := fun {b w} h k z => by
          rw [z, ha] at h
          cases h
          exact k hu
        have x1 : Ext m H m2 (upd H2 a u) := by
          refine ⟨et.pre, fun b vs h => ?_, fun b o w h => ?_, fun b c h => ?_⟩
          · have ne := nf h fun z => z
            rw [upd_ne ne]; exact et.tup b vs (by rw [upd_ne ne]; exact h)
          · have ne := nf h fun z => z
            rw [upd_ne ne]; exact et.frz b o w (by rw [upd_ne ne]; exact h)
          · have ne := nf h fun z => z
            rw [upd_ne ne]; exact et.kex b c (by rw [upd_ne ne]; exact h)
        exact q v m2 (upd H2 a u) x1 (hR (Ext0.unlock hf hu) r) (hr.unlock hn2 hf hu eS)
/-- the lock laid -/
theorem HR.lockD {S : Sto} {n : Nat} {a : Addr} {o : Ob} {ks : List D} (h : HR K m H S) (hn : m[n]? = some a) (hS : S[n]? = some o) (hk : dkeys o = some ks) : ∃ u, H a = some u ∧ isDc u ∧ ∀ od, Ext m H m (upd H a (.frz od u)) ∧ HR K m (upd H a (.frz od u)) (S.set n (.lk o)) ∧
    ((∃ us, u = .dT us ∧ ∀ (m' : Mm) (H' : Hp) (c : Chk), H' a = some (.frz od u) → Wlk K m' H' (ks, c) (Itkt a od us)) ∨ ∃ us, u = .dK us ∧ ∀ (m' : Mm) (H' : Hp) (c : Chk), H' a = some (.frz od u) → Wlk K m' H' (ks, c) (Itk a od us)) := by
  obtain ⟨u, h1, h2⟩ := h.ob n a o hn hS
  cases o with
  | lst _ => cases hk
  | lk _ => cases hk
  | dT kvs =>
    cases hk
    obtain ⟨us, rfl, r⟩ := h2
    refine ⟨.dT us, h1, trivial, fun od => ?_⟩
    obtain ⟨e, hr⟩ := h.write (u := .frz od (.dT us)) (o' := .lk (.dT kvs)) hn h1 (fun _ z => by cases z) ⟨od, _, rfl, us, rfl, r⟩
    exact ⟨e, hr, .inl ⟨us, rfl, fun m' H' c h => wlk_keysT h r.1⟩⟩
  | dK kvs =>
    cases hk
    obtain ⟨us, rfl, r⟩ := h2
    refine ⟨.dK us, h1, trivial, fun od => ?_⟩
    obtain ⟨e, hr⟩ := h.write (u := .frz od (.dK us)) (o' := .lk (.dK kvs)) hn h1 (fun _ z => by cases z) ⟨od, _, rfl, us, rfl, r⟩
    exact ⟨e, hr, .inr ⟨us, rfl, fun m' H' c h => wlk_keysK h r.1⟩⟩
end
section
variable {G : Gt} {B : Bk} {X : Cx} {E : XK} {sc : Scope}
theorem PI.mono {tg it : Expr} {t t' : TI} (h : PI X tg it t) (k : ∀ σ H R, t' σ H R → t σ H R) : PI X tg it t' := ⟨fun pins s σ H R I q => h.run pins s σ H R I (k _ _ _ q)⟩
theorem PI.or {tg it : Expr} {t t' : TI} (h : PI X tg it t) (h' : PI X tg it t') : PI X tg it (fun σ H Q => t σ H Q ∨ t' σ H Q) := ⟨fun pins s σ H Q I q => q.elim (h.run pins s σ H Q I) (h'.run pins s σ H Q I)⟩
def isTp : D → Bool
  | .tup _ => true
  | .wtup _ => true
  | _ => false
theorem i_val {a : Ie} {tg e : Expr} (Oa : OkI G B a) (M : MC G B X E) (Z : ScR sc X) (h : chkE B sc a e = true) : PI X tg e (tR X.K X.mg E (Wlk X.K) (evI G (.itv a))) := by
  have pa := Oa.e X E sc _ M Z h
  refine PI.mono (PI.or (pi_list pa) (pi_tup pa)) fun σ H Q q => ?_
  obtain ⟨m, δ, S, sr, hr, q⟩ := q
  rw [evI] at q
  by_cases c : ∃ x S1, evE G a δ S = .ok x S1 ∧ isTp x = true
  · obtain ⟨x, S1, c1, c2⟩ := c
    right
    refine (tR_nextE (R := VR X.K) (c := evE G a) sr hr q).imp ?_
    rintro v H1 ⟨m1, S1', d1, e1, hr1, r1, p1, q1⟩
    rw [c1] at q1
    cases q1
    cases x <;> first | (cases c2; done) | skip
    case tup ds =>
      obtain ⟨a, vs, rfl, h1, h2⟩ := VR.tp r1 rfl
      exact ⟨a, rfl, ⟨vs, h1.sq⟩, Post.ok (d := (ds, ([] : Chk))) p1 (wlk_tup h1 h2) hr1⟩
    case wtup ds =>
      obtain ⟨a, vs, rfl, h1, h2⟩ := VR.tp r1 rfl
      exact ⟨a, rfl, ⟨vs, h1.sq⟩, Post.ok (d := (ds, ([] : Chk))) p1 (wlk_tup h1 h2) hr1⟩
  · left
    refine (tR_nextE (R := VR X.K) (c := evE G a) sr hr q).imp ?_
    rintro v H1 ⟨m1, S1, d1, e1, hr1, r1, p1, q1⟩
    cases d1 <;> first | exact (show False from p1).elim | exact (c ⟨_, _, q1, rfl⟩).elim | skip
    case loc n =>
      obtain ⟨l, rfl, hl⟩ := r1.loc
      have p1 : Post X.K X.mg E (Wlk X.K) m1 H1 (match S1[n]? with
        | some o => match rdOb o with
          | .lst ds => .ok (ds, [(n, o)]) S1
          | _ => .bad
        | none => .bad) Q := p1
      cases e2 : S1[n]? with
      | none => rw [e2] at p1; exact (show False from p1).elim
      | some o =>
        rw [e2] at p1
        have p1 : Post X.K X.mg E (Wlk X.K) m1 H1 (match rdOb o with
          | .lst ds => .ok (ds, [(n, o)]) S1
          | _ => .bad) Q := p1
        cases e3 : rdOb o with
        | lst ds =>
          rw [e3] at p1
          obtain ⟨vs, h3, h4⟩ := hr1.rdl hl (by rw [e2]; exact congrArg some e3)
          exact ⟨l, rfl, ⟨vs, h3⟩, Post.ok (d := (ds, [(n, o)])) p1 (wlk_list hl e3) hr1⟩
        | _ => rw [e3] at p1; exact (show False from p1).elim
theorem smallI_of {i : Int} (h : smallI i = true) : -(2 ^ 62) ≤ i ∧ i < 2 ^ 62 := of_decide_eq_true h
theorem i_rng {a : Ie} {tg x : Expr} {xs : List Expr} {p pos : Pos} (Oa : OkI G B a) (M : MC G B X E) (Z : ScR sc X) (hg : glB sc ("range" : Str) = true) (h : chkA B sc a (x :: xs) = true) (hl : xs.length ≤ 1) :
    PI X tg (.Call (.Name "range" p) (x :: xs) [] pos) (tR X.K X.mg E (Wlk X.K) (evI G (.itr a))) := by
  have pa := Oa.a X E sc _ M Z h
  have hm := M.bi ("range" : Str) (by decide)
  have pl : plainX x = true ∧ ∃ b, chkA B sc b xs = true := by
    cases a <;> first | (unfold chkA at h; cases h; done) | skip
    unfold chkA at h
    obtain ⟨h5, h6⟩ := and2 h
    exact ⟨(and2 h5).1, _, h6⟩
  obtain ⟨pl1, b, pl2⟩ := pl
  match xs, hl, pa, h, pl2 with
  | [], _, pa, h, _ =>
    refine PI.mono (pi_range1 (Z.gl _ hg) hm pa (star_cons pl1)) fun σ H Q q => ?_
    obtain ⟨m, δ, S, sr, hr, q⟩ := q
    rw [evI] at q
    refine (tR_nextE (R := VRs X.K) (c := evA G a) sr hr q).imp ?_
    rintro vs H1 ⟨m1, S1, d1, e1, hr1, r1, p1, q1⟩
    have hl := evA_len h q1
    match d1, hl, r1, p1 with
    | [d], _, r1, p1 =>
      obtain ⟨v, rfl, r2⟩ := one_of r1
      cases d <;> first | exact (show False from p1).elim | skip
      case int =>
        rename_i n _
        cases (show v = _ from r2)
        obtain ⟨c, p1⟩ := Post.chk p1
        obtain ⟨c1, c2⟩ := smallI_of c
        exact ⟨n, rfl, c1, c2, Post.ok (d := ((List.range n.toNat).map fun (k : Nat) => D.int (0 + (k : Int)), ([] : Chk))) p1 wlk_rng hr1⟩
  | [y], _, pa, h, pl2 =>
    have py : plainX y = true := by
      cases b <;> first | (unfold chkA at pl2; cases pl2; done) | skip
      unfold chkA at pl2
      exact (and2 (and2 pl2).1).1
    refine PI.mono (pi_range2 (Z.gl _ hg) hm pa (by rw [star_cons pl1, star_cons py]; rfl) (star_cons py)) fun σ H Q q => ?_
    obtain ⟨m, δ, S, sr, hr, q⟩ := q
    rw [evI] at q
    refine (tR_nextE (R := VRs X.K) (c := evA G a) sr hr q).imp ?_
    rintro vs H1 ⟨m1, S1, d1, e1, hr1, r1, p1, q1⟩
    have hl := evA_len h q1
    match d1, hl, r1, p1 with
    | [d, d'], _, r1, p1 =>
      obtain ⟨v, ws, rfl, r2, r3⟩ := vrs1 r1
      obtain ⟨v', rfl, r4⟩ := one_of r3
      cases d <;> first | exact (show False from p1).elim | skip
      case int =>
        rename_i i _
        cases d' <;> first | exact (show False from p1).elim | skip
        case int =>
          rename_i n _
          cases (show v = _ from r2)
          cases (show v' = _ from r4)
          obtain ⟨c, p1⟩ := Post.chk p1
          obtain ⟨c, c'⟩ := and2 c
          obtain ⟨c1, c2⟩ := smallI_of c
          obtain ⟨c3, c4⟩ := smallI_of c'
          exact ⟨i, n, rfl, ⟨c1, c2, c3, c4⟩, Post.ok (d := ((List.range (n - i).toNat).map fun (k : Nat) => D.int (i + (k : Int)), ([] : Chk))) p1 wlk_rng hr1⟩
theorem i_zip {a b : Ie} {elts : List Expr} {kk : Nat} {tpos p pos : Pos} {x y : Expr} (Oa : OkI G B a) (Ob : OkI G B b) (M : MC G B X E) (Z : ScR sc X) (hg : glB sc ("zip" : Str) = true) (h1 : plainX x = true) (h2 : plainX y = true) (h3 : chkE B sc a x = true) (h4 : chkE B sc b y = true) :
    PI X (.Tuple elts kk tpos) (.Call (.Name "zip" p) [x, y] [] pos) (tR X.K X.mg E (Wlk X.K) (evI G (.itz a b))) := by
  have hm := M.bi ("zip" : Str) (by decide)
  refine PI.mono (RZ.pi_zipA (Z.gl _ hg) hm (pa_cons (Oa.e X E sc _ M Z h3) (pa_cons (Ob.e X E sc _ M Z h4) pa_nil (star_cons h2)) (star_cons h1)) (star_cons h1) (by rw [star_cons h2]; rfl)) fun σ H Q q => ?_
  obtain ⟨m, δ, S, sr, hr, q⟩ := q
  rw [evI] at q
  refine (tR_next (R := VR X.K) (c := evE G a) sr hr q).imp ?_
  rintro v H1 ⟨m1, S1, d1, e1, hr1, r1, p1⟩
  refine (tR_next (R := VR X.K) (c := evE G b) (sr.mono e1) hr1 p1).imp ?_
  rintro w H2 ⟨m2, S2, d2, e2, hr2, r2, p2⟩
  replace r1 := VR.mono e2 _ _ r1
  show ∃ a b xs ys, [v, w] = [V.ref a, V.ref b] ∧ _
  replace p2 : Post X.K X.mg E (Wlk X.K) m2 H2 (zipF d1 d2 S2) Q := p2
  unfold zipF at p2
  cases t1 : tp? d1 with
  | some xs =>
    rw [t1] at p2
    cases t2 : tp? d2 with
    | none => rw [t2] at p2; exact (show False from p2).elim
    | some ys =>
      rw [t2] at p2
      obtain ⟨a1, vs, rfl, s1, q1⟩ := VR.tp r1 t1
      obtain ⟨b1, ws, rfl, s2, q2⟩ := VR.tp r2 t2
      exact ⟨a1, b1, vs, ws, rfl, .inr ⟨s1.sq, s2.sq, Post.ok (d := ((xs.zip ys).map fun r => D.tup [r.1, r.2], ([] : Chk))) p2 (wlk_zipT s1 q1 s2 q2) hr2⟩⟩
  | none =>
    rw [t1] at p2
    cases t2 : tp? d2 with
    | some ys => rw [t2] at p2; exact (show False from p2).elim
    | none =>
      rw [t2] at p2
      replace p2 : Post X.K X.mg E (Wlk X.K) m2 H2 ((iterF d1 S2).bind fun p => mb (iterF d2) fun q => mp ((p.1.zip q.1).map fun r => D.tup [r.1, r.2], p.2 ++ q.2)) Q := p2
      cases d1 <;> first | (cases t1; done) | exact (show False from p2).elim | skip
      case loc n =>
        obtain ⟨a1, rfl, l1⟩ := r1.loc
        cases eo : S2[n]? with
        | none =>
          simp only [iterF, eo] at p2
          exact (show False from p2).elim
        | some o =>
          cases ro : rdOb o with
          | lst ds =>
            simp only [iterF, eo, ro, bind_ok] at p2
            replace p2 : Post X.K X.mg E (Wlk X.K) m2 H2 ((iterF d2 S2).bind fun q => mp ((ds.zip q.1).map fun r => D.tup [r.1, r.2], [(n, o)] ++ q.2)) Q := p2
            cases d2 <;> first | (cases t2; done) | exact (show False from p2).elim | skip
            case loc n' =>
              obtain ⟨b1, rfl, l2⟩ := r2.loc
              cases eo' : S2[n']? with
              | none =>
                simp only [iterF, eo'] at p2
                exact (show False from p2).elim
              | some o' =>
                cases ro' : rdOb o' with
                | lst es =>
                  simp only [iterF, eo', ro', bind_ok] at p2
                  obtain ⟨vs, h5, h6⟩ := hr2.rdl l1 (by rw [eo]; exact congrArg some ro)
                  obtain ⟨ws, h7, h8⟩ := hr2.rdl l2 (by rw [eo']; exact congrArg some ro')
                  exact ⟨a1, b1, vs, ws, rfl, .inl ⟨h5, h7, Post.ok (d := ((ds.zip es).map fun r => D.tup [r.1, r.2], [(n, o)] ++ [(n', o')])) p2 (wlk_zipL l1 ro l2 ro') hr2⟩⟩
                | _ =>
                  simp only [iterF, eo', ro'] at p2
                  exact (show False from p2).elim
          | _ =>
            simp only [iterF, eo, ro] at p2
            exact (show False from p2).elim
end
end Mp
namespace Mp
open PySem L2
/-! ### targets -/
section
variable {G : Gt} {B : Bk} {X : Cx} {E : XK} {sc : Scope}
/-- the slots that a target stores into -/
def Tg.sl : Tg → List Nat
  | .nm i => [i]
  | .tp l => l
/-- but for these slots alike -/
def Off (l : List Nat) (σ σ' : L2.St) : Prop := σ'.length = σ.length ∧ ∀ k : Nat, k ∉ l → σ'[k]? = σ[k]?
theorem Off.refl (l : List Nat) (σ : L2.St) : Off l σ σ := ⟨rfl, fun _ _ => rfl⟩
theorem Off.set {l : List Nat} {i : Nat} {σ σ' : L2.St} {x : Option V} (h : Off l (σ.set i x) σ') : Off (i :: l) σ σ' := ⟨by rw [h.1, List.length_set], fun k hk => by
  rw [h.2 k (fun z => hk (List.mem_cons_of_mem _ z)), List.getElem?_set_ne (fun z => hk (by rw [z]; exact List.mem_cons_self))]⟩
/-- a target's reading -/
def tG (K : PySem.W.Frag) (g : Tg) : TG := fun v σ H Q => ∃ m δ S d δ', SR K m H δ σ ∧ HR K m H S ∧ VR K m H d v ∧ g.put d δ = some δ' ∧ ∀ σ', SR K m H δ' σ' → Off g.sl σ σ' → Q σ' H
theorem name_tg {i : Nat} {x : Str} {p : Pos} (M : MC G B X E) (Z : ScR sc X) (h1 : B.N[i]? = some x) (h2 : locB sc x = true) : PG X (.Name x p) (gName i) := by
  obtain ⟨l1, l2⟩ := Z.loc x h2
  exact pg_name M.nd (by rw [M.n]; exact h1) l1 l2
theorem asgEach_names {l : List Nat} {es : List Expr} {env : PySem.Env} (h : ((l.zip es).all fun p => match p.2 with
      | .Name x _ => decide (B.N[p.1]? = some x) && locB sc x
      | _ => false) = true) (hl : l.length = es.length) : (assignEach es env).length = es.length ∧ (assignEach es env).findIdx? (·.1) = none := by
  induction es generalizing l with
  | nil => exact ⟨rfl, rfl⟩
  | cons e es ih =>
    cases l with
    | nil => cases hl
    | cons i l =>
      simp only [List.zip_cons_cons, List.all_cons] at h
      obtain ⟨h1, h2⟩ := and2 h
      obtain ⟨i1, i2⟩ := ih h2 (by simpa using hl)
      cases e <;> first | (cases h1; done) | skip
      refine ⟨?_, ?_⟩
      · show (assignEach es env).length + 1 = es.length + 1
        rw [i1]
      · show List.findIdx? (·.1) ((false, _) :: assignEach es env) = none
        rw [List.findIdx?_cons, i2]
        rfl
theorem tp_tgs {l : List Nat} {es : List Expr} (M : MC G B X E) (Z : ScR sc X) (h : ((l.zip es).all fun p => match p.2 with
      | .Name x _ => decide (B.N[p.1]? = some x) && locB sc x
      | _ => false) = true) (hl : l.length = es.length) : ∃ t, PGs X es t ∧ ∀ m δ S ds δ' vs σ H Q, SR X.K m H δ σ → HR X.K m H S → VRs X.K m H ds vs → setAll l ds δ = some δ' → (∀ σ', SR X.K m H δ' σ' → Off l σ σ' → Q σ' H) → t vs σ H Q := by
  induction es generalizing l with
  | nil =>
    cases l with
    | cons i l => cases hl
    | nil =>
      refine ⟨_, pgs_nil, fun m δ S ds δ' vs σ H Q sr hr r e k => ?_⟩
      cases ds with
      | cons d ds => cases e
      | nil =>
        cases (show some δ = some δ' from e)
        exact ⟨r, k σ sr (Off.refl _ _)⟩
  | cons e es ih =>
    cases l with
    | nil => cases hl
    | cons i l =>
      simp only [List.zip_cons_cons, List.all_cons] at h
      obtain ⟨h1, h2⟩ := and2 h
      obtain ⟨t, i1, i2⟩ := ih h2 (by simpa using hl)
      cases e <;> first | (cases h1; done) | skip
      rename_i x p
      obtain ⟨h3, h4⟩ := and2 h1
      refine ⟨_, pgs_cons (name_tg M Z (of_decide_eq_true h3) h4) i1, fun m δ S ds δ' vs σ H Q sr hr r e k => ?_⟩
      cases ds with
      | nil => cases e
      | cons d ds =>
        obtain ⟨v, ws, rfl, r1, r2⟩ := vrs1 r
        exact ⟨v, ws, rfl, i2 m (δ.set i (some d)) S ds δ' ws _ H Q (sr.set i r1) hr r2 e fun σ' s o => k σ' s o.set⟩
theorem tg_ok {g : Tg} {e : Expr} (M : MC G B X E) (Z : ScR sc X) (h : chkTg B sc g e = true) : ∃ t, PG X e t ∧ ∀ v σ H Q, tG X.K g v σ H Q → t v σ H Q := by
  cases g with
  | nm i =>
    unfold chkTg at h
    cases e <;> first | (cases h; done) | skip
    rename_i x p
    obtain ⟨h1, h2⟩ := and2 h
    refine ⟨_, name_tg M Z (of_decide_eq_true h1) h2, fun v σ H Q q => ?_⟩
    obtain ⟨m, δ, S, d, δ', sr, hr, r, e, k⟩ := q
    cases (show some (δ.set i (some d)) = some δ' from e)
    exact k _ (sr.set i r) (Off.refl [] _).set
  | tp l =>
    unfold chkTg at h
    cases e <;> first | (cases h; done) | skip
    rename_i es kk p
    obtain ⟨h1, h2⟩ := and2 h
    have h1 := of_decide_eq_true h1
    obtain ⟨t, p1, p2⟩ := tp_tgs M Z h2 h1
    obtain ⟨a1, a2⟩ := asgEach_names (env := X.env) h2 h1
    refine ⟨_, pg_tup M.calm p1 a1 a2, fun v σ H Q q => ?_⟩
    obtain ⟨m, δ, S, d, δ', sr, hr, r, e, k⟩ := q
    have go : ∀ ds, tp? d = some ds → (if l.length = ds.length then setAll l ds δ else none) = some δ' → gTup X.K es.length t v σ H Q := fun ds e1 e2 => by
      obtain ⟨a, vs, rfl, w1, w2⟩ := VR.tp r e1
      by_cases c : l.length = ds.length
      · rw [if_pos c] at e2
        exact ⟨a, vs, rfl, w1.sq, by rw [w2.len, ← c, h1], p2 m δ S ds δ' vs σ H Q sr hr w2 e2 k⟩
      · rw [if_neg c] at e2
        cases e2
    cases d <;> first | (cases e; done) | exact go _ rfl e
/-! ### statements -/
def RF (K : PySem.W.Frag) : Mm → Hp → Fl → Sum L2.St V → Prop := fun m H f x => match f, x with
  | .nx δ, .inl σ => SR K m H δ σ
  | .rt d, .inr v => VR K m H d v
  | _, _ => False
def endsQ (D : Ends) : Sum L2.St V → Hp → Prop := fun x H => match x with
  | .inl σ => D.nx σ H
  | .inr v => D.rt v H
def tS (K : PySem.W.Frag) (mg : Str → Option Value) (E : XK) (c : Env → M Fl) : TS := fun D σ H => tR K mg E (RF K) c σ H (endsQ D)
theorem Post.nx {K : PySem.W.Frag} {mg : Str → Option Value} {m : Mm} {H : Hp} {δ : Env} {S : Sto} {σ : L2.St} {D : Ends} (p : Post K mg E (RF K) m H (.ok (.nx δ) S) (endsQ D)) (sr : SR K m H δ σ) (hr : HR K m H S) : D.nx σ H :=
  Post.ok (v := Sum.inl σ) p sr hr
theorem Post.rt {K : PySem.W.Frag} {mg : Str → Option Value} {m : Mm} {H : Hp} {d : D} {S : Sto} {v : V} {D : Ends} (p : Post K mg E (RF K) m H (.ok (.rt d) S) (endsQ D)) (r : VR K m H d v) (hr : HR K m H S) : D.rt v H :=
  Post.ok (v := Sum.inr v) p r hr
/-- one statement, then others -/
theorem seq_r {a : Env → M Fl} {b : Env → M Fl} {D : Ends} {σ : L2.St} {H : Hp} {K : PySem.W.Frag} {mg : Str → Option Value}
    (q : tS K mg E (fun δ => mb (a δ) fun f => match f with
    | .nx δ1 => b δ1
    | .rt v => mp (.rt v)) D σ H) : tSeq (tS K mg E a) (tS K mg E b) D σ H := by
  obtain ⟨m, δ, S, sr, hr, q⟩ := q
  refine (tR_next (R := RF K) (c := a) sr hr q).imp ?_
  rintro x H1 ⟨m1, S1, f, e1, hr1, r1, p1⟩
  cases f with
  | nx δ1 =>
    cases x with
    | inl σ1 => exact ⟨m1, δ1, S1, r1, hr1, p1⟩
    | inr v => exact (show False from r1).elim
  | rt d =>
    cases x with
    | inl σ1 => exact (show False from r1).elim
    | inr v =>
      show D.rt v H1
      exact Post.rt (D := D) p1 r1 hr1
theorem forL_ok {p : List D × Chk} {J : It} {g : Tg} {tg : TG} {body : Env → M Fl} {tb : TS} {D : Ends} {K : PySem.W.Frag} {mg : Str → Option Value} {m : Mm} {H : Hp} {δ : Env} {S : Sto} {σ : L2.St}
    (hg : ∀ v σ H Q, tG K g v σ H Q → tg v σ H Q) (hb : ∀ D σ H, tS K mg E body D σ H → tb D σ H) (W : Wlk K m H p J) (sr : SR K m H δ σ) (hr : HR K m H S)
    (q : Post K mg E (RF K) m H (forL p.2 g body p.1 δ S) (endsQ D)) :
    ∃ W : Nat → Nat → L2.St → Hp → Prop, (∃ m, W 0 m σ H) ∧ ∀ i m σ H, W i m σ H →
      (J.stop i H ∧ D.nx σ H) ∨ (J.go i H ∧ ∃ N : L2.St → Hp → Prop, (∀ σ' H', N σ' H' → ∃ m', m' < m ∧ W (i + 1) m' σ' H') ∧ ∀ x H', J.yld i H x H' → tg x σ H' fun σ2 H2 => tb { D with nx := N, ct := N, bk := D.nx } σ2 H2) := by
  let Wi : Nat → Nat → L2.St → Hp → Prop := fun i n σ' H' => n = p.1.length - i ∧ i ≤ p.1.length ∧ ∃ m' δ' S', Ext m H m' H' ∧ SR K m' H' δ' σ' ∧ HR K m' H' S' ∧ Post K mg E (RF K) m' H' (forL p.2 g body (p.1.drop i) δ' S') (endsQ D)
  refine ⟨Wi, ⟨p.1.length, rfl, Nat.zero_le _, m, δ, S, Ext.refl m H, sr, hr, q⟩, ?_⟩
  rintro i n σ' H' ⟨rfl, hi, m', δ', S', e', sr', hr', q'⟩
  by_cases hlt : i < p.1.length
  · right
    rw [List.drop_eq_getElem_cons hlt] at q'
    rw [forL] at q'
    dsimp only at q'
    by_cases c : okC p.2 S' = true
    · rw [if_pos c] at q'
      cases e2 : g.put p.1[i] δ' with
      | none => rw [e2] at q'; exact (show False from q').elim
      | some δ1 =>
        rw [e2] at q'
        refine ⟨W.go i m' H' S' hlt e' hr' c, fun σ2 H2 => ∃ n', n' < p.1.length - i ∧ Wi (i + 1) n' σ2 H2, fun _ _ h => h, fun x H2 y => ?_⟩
        obtain ⟨d, d1, e3, hr2, r2⟩ := W.yld i m' H' S' x H2 hlt e' hr' c y
        rw [List.getElem?_eq_getElem hlt] at d1
        cases d1
        refine hg _ _ _ _ ⟨m', δ', S', _, δ1, sr'.mono e3, hr2, r2, e2, fun σ3 sr3 _ => hb _ _ _ ?_⟩
        have q2 : Post K mg E (RF K) m' H2 ((body δ1 S').bind fun f => match f with
          | .nx δ2 => forL p.2 g body (p.1.drop (i + 1)) δ2
          | .rt v => mp (.rt v)) (endsQ D) := Post.pre q' e3
        refine ⟨m', δ1, S', sr3, hr2, (Post.bind (R := RF K) q2).imp ?_⟩
        rintro z H3 ⟨m3, f, S3, e4, r3, hr3, p3⟩
        cases f with
        | nx δ2 =>
          cases z with
          | inl σ4 => exact ⟨p.1.length - (i + 1), by omega, rfl, hlt, m3, δ2, S3, (e'.trans e3).trans e4, r3, hr3, p3⟩
          | inr v => exact (show False from r3).elim
        | rt d =>
          cases z with
          | inl σ4 => exact (show False from r3).elim
          | inr v =>
            show D.rt v H3
            exact Post.rt (D := D) p3 r3 hr3
    · rw [if_neg c] at q'
      exact (show False from q').elim
  · left
    have e2 : p.1.drop i = [] := List.drop_eq_nil_of_le (by omega)
    rw [e2, forL] at q'
    dsimp only at q'
    by_cases c : okC p.2 S' = true
    · rw [if_pos c] at q'
      have e3 : i = p.1.length := by omega
      refine ⟨?_, Post.nx q' sr' hr'⟩
      rw [e3]
      exact W.stop m' H' S' e' hr' c
    · rw [if_neg c] at q'
      exact (show False from q').elim
theorem whl_ok {t : Env → M Bool} {body : Env → M Fl} {tt : TT} {tb : TS} {D : Ends} {K : PySem.W.Frag} {mg : Str → Option Value} {m : Mm} {H : Hp} {δ : Env} {S : Sto} {σ : L2.St} {n : Nat}
    (ht : ∀ σ H Q, tR K mg E RB t σ H Q → tt σ H Q) (hb : ∀ D σ H, tS K mg E body D σ H → tb D σ H) (sr : SR K m H δ σ) (hr : HR K m H S)
    (q : Post K mg E (RF K) m H (whlL t body n δ S) (endsQ D)) : tWhile tt tb D σ H := by
  refine ⟨fun n σ' H' => ∃ m' δ' S', SR K m' H' δ' σ' ∧ HR K m' H' S' ∧ Post K mg E (RF K) m' H' (whlL t body n δ' S') (endsQ D), ⟨n, m, δ, S, sr, hr, q⟩, ?_⟩
  rintro n σ' H' ⟨m', δ', S', sr', hr', q'⟩
  cases n with
  | zero => exact (show False from q').elim
  | succ n =>
    rw [whlL] at q'
    refine ht _ _ _ ((tR_next (R := RB) (c := t) sr' hr' q').imp ?_)
    rintro b H1 ⟨m1, S1, d1, e1, hr1, r1, p1⟩
    rw [← (show d1 = b from r1)]
    cases d1 with
    | true =>
      refine iteT ⟨fun σ2 H2 => ∃ n', n' < n + 1 ∧ ∃ m' δ' S', SR K m' H2 δ' σ2 ∧ HR K m' H2 S' ∧ Post K mg E (RF K) m' H2 (whlL t body n' δ' S') (endsQ D), fun _ _ h => h, hb _ _ _ ?_⟩
      have p1 : Post K mg E (RF K) m1 H1 (mb (body δ') (fun f => match f with
        | .nx δ2 => whlL t body n δ2
        | .rt v => mp (.rt v)) S1) (endsQ D) := p1
      refine (tR_next (R := RF K) (c := body) (sr'.mono e1) hr1 p1).imp ?_
      rintro z H3 ⟨m3, S3, f, e4, hr3, r3, p3⟩
      cases f with
      | nx δ2 =>
        cases z with
        | inl σ4 => exact ⟨n, by omega, m3, δ2, S3, r3, hr3, p3⟩
        | inr v => exact (show False from r3).elim
      | rt d =>
        cases z with
        | inl σ4 => exact (show False from r3).elim
        | inr v =>
          show D.rt v H3
          exact Post.rt (D := D) p3 r3 hr3
    | false => exact iteF (Post.nx (D := D) p1 (sr'.mono e1) hr1)
end
end Mp
namespace Mp
open PySem L2
theorem swaps_no {v : Expr} {t : Option Expr} {l : Nat} {env : PySem.Env} (h : notComp v = true) : swapsWith v t l env = pure false := by
  cases v <;> first | rfl | cases h
theorem sole_no {v t : Expr} {l : Nat} {env : PySem.Env} (h : notComp v = true) : swapsWithSole [t] v l env = pure false := swaps_no (t := some t) h
theorem stores_no {ts : List Expr} {v : Expr} {env : PySem.Env} (h : notTup v = true) : swappedStores ts v env = pure none := by
  cases v <;> first | (unfold swappedStores; rcases ts with _ | ⟨t, _ | ⟨t2, r⟩⟩ <;> first | rfl | (cases t <;> rfl)) | cases h
theorem folded_no {e : Expr} {env : PySem.Env} (h : notSet e = true) : ∀ x, foldedSetIterable e env x = pure x := by
  intro x
  cases e <;> first | rfl | cases h
mutual
def chkS (B : Bk) (sc : Scope) : Is → Stmt → Bool
  | .pass, s => match s with
    | .Pass _ => true
    | .Expr (.Constant (.str _) _ _) _ => true
    | _ => false
  | .asg i e, s => match s with
    | .Assign [.Name x _] v _ => decide (B.N[i]? = some x) && locB sc x && notComp v && chkE B sc e v
    | _ => false
  | .par i j a b, s => match s with
    | .Assign [.Tuple [.Name x px, .Name y py] _ _] (.Tuple [u, v] _ _) _ => decide (B.N[i]? = some x) && decide (B.N[j]? = some y) && decide (i ≠ j) && decide (sc.names.lookup x = some .local) && decide (sc.names.lookup y = some .local) && decide (x ≠ y) &&
        (px.line == py.line) && !(foldedForSure 8 u && foldedForSure 8 v) && !(constantsAlone 8 u && constantsAlone 8 v) && plainX u && plainX v && chkE B sc a u && chkE B sc b v
    | _ => false
  | .unp l e, s => match s with
    | .Assign [.Tuple es k p] v _ => chkTg B sc (.tp l) (.Tuple es k p) && notComp v && notTup v && chkE B sc e v
    | _ => false
  | .sub o i e, s => match s with
    | .Assign [.Subscript x y _] v _ => chkE B sc o x && chkE B sc i y && chkE B sc e v && notComp v && notTup v && plainX y
    | _ => false
  | .ex e, s => match s with
    | .Expr v _ => notComp v && chkE B sc e v
    | _ => false
  | .ifs t a b, s => match s with
    | .If c x y _ => chkT B sc t c && chkB B sc a x && chkB B sc b y
    | _ => false
  | .for_ g it b, s => match s with
    | .For tg x y [] _ => chkTg B sc g tg && (chkI B sc it x && (!isZ it || isTupE tg)) && chkB B sc b y
    | _ => false
  | .forD g i b, s => match s with
    | .For tg (.Name x _) y [] _ => chkTg B sc g tg && (decide (B.N[i]? = some x) && visB sc x && okName x) && chkB B sc b y
    | _ => false
  | .whl t b, s => match s with
    | .While c x [] _ => chkT B sc t c && chkB B sc b x
    | _ => false
  | .ret e, s => match s with
    | .Return (some v) _ => chkE B sc e v
    | _ => false
  | .retN, s => match s with
    | .Return none _ => true
    | _ => false
  | .rse c e, s => match s with
    | .Raise (some (.Call (.Name x _) [.Constant (.str y) _ _] [] _)) none _ => decide (x = c) && glB sc x && (decide (c ∈ B.exn) && decide (c ≠ ("NoRow" : Str))) && (match e with
      | .con (.str z) => true
      | _ => false)
    | _ => false
  | .tri c i j t f a, s => match s with
    | .Try [b] [.ExceptHandler (some (.Name x _)) (some n) [.Assign [.Name k _] (.Name n' _) _] _] [] [] _ =>
      decide (x = c) && decide (n' = n) && glB sc x && okName x && decide (x ∈ B.exn) && decide (B.N[i]? = some n) && decide (B.N[j]? = some k) && decide (sc.names.lookup n = some .local) && locB sc k && okName n && (match t, b with
        | none, .Expr v _ => chkE B sc (.call f a) v
        | some q, .Assign [.Name y _] v _ => decide (B.N[q]? = some y) && locB sc y && chkE B sc (.call f a) v
        | _, _ => false)
    | _ => false
  | _, _ => false
def chkB (B : Bk) (sc : Scope) : Is → List Stmt → Bool
  | .nil, l => match l with
    | [] => true
    | _ => false
  | .cons a b, l => match l with
    | s :: r => chkS B sc a s && chkB B sc b r
    | _ => false
  | _, _ => false
end
section
variable {G : Gt} {B : Bk} {X : Cx} {E : XK} {sc : Scope} {N : Nat}
theorem PS.or {st : Stmt} {t t' : TS} (h : PS X st t) (h' : PS X st t') : PS X st (fun D σ H => t D σ H ∨ t' D σ H) := ⟨fun pins s σ H D I q => q.elim (h.run pins s σ H D I) (h'.run pins s σ H D I)⟩
structure OkS (G : Gt) (B : Bk) (N : Nat) (X : Cx) (E : XK) (sc : Scope) (is : Is) : Prop where
  s : ∀ st, chkS B sc is st = true → PS X st (tS X.K X.mg E (evS G N is))
  b : ∀ l, chkB B sc is l = true → PSs X l (tS X.K X.mg E (evS G N is))
theorem i_itv {a : Ie} {tg e : Expr} (Oa : OkI G B a) (M : MC G B X E) (Z : ScR sc X) (h : chkI B sc (.itv a) e = true) : PI X tg e (tR X.K X.mg E (Wlk X.K) (evI G (.itv a))) ∧ ∀ x, foldedSetIterable e X.env x = pure x := by
  unfold chkI at h
  obtain ⟨h1, h2⟩ := and2 h
  exact ⟨i_val Oa M Z h1, folded_no h2⟩
theorem i_itz {a b : Ie} {tg e : Expr} (Oa : OkI G B a) (Ob : OkI G B b) (M : MC G B X E) (Z : ScR sc X) (h : chkI B sc (.itz a b) e = true) (ht : isZ (.itz a b) = true → isTupE tg = true) : PI X tg e (tR X.K X.mg E (Wlk X.K) (evI G (.itz a b))) ∧ ∀ x, foldedSetIterable e X.env x = pure x := by
  unfold chkI at h
  split at h
  · obtain ⟨h, h6⟩ := and2 h
    obtain ⟨h, h5⟩ := and2 h
    obtain ⟨h, h4⟩ := and2 h
    obtain ⟨h, h3⟩ := and2 h
    obtain ⟨h1, h2⟩ := and2 h
    have e := of_decide_eq_true h1
    subst e
    have ht := ht rfl
    cases tg <;> first | (cases ht; done) | skip
    exact ⟨i_zip Oa Ob M Z h2 h3 h4 h5 h6, folded_no rfl⟩
  · cases h
theorem i_itr {a : Ie} {tg e : Expr} (Oa : OkI G B a) (M : MC G B X E) (Z : ScR sc X) (h : chkI B sc (.itr a) e = true) : PI X tg e (tR X.K X.mg E (Wlk X.K) (evI G (.itr a))) ∧ ∀ x, foldedSetIterable e X.env x = pure x := by
  unfold chkI at h
  split at h
  · obtain ⟨h, h4⟩ := and2 h
    obtain ⟨h, h3⟩ := and2 h
    obtain ⟨h1, h2⟩ := and2 h
    have e := of_decide_eq_true h1
    subst e
    exact ⟨i_rng Oa M Z h2 h4 (of_decide_eq_true h3), folded_no rfl⟩
  · cases h
theorem not_star {e : Expr} (h : plainX e = true) : (match e with | .Starred .. => true | _ => false) = false := by cases e <;> first | rfl | cases h
theorem swapped_two {x y : Str} {px py p1 p2 : Pos} {k1 k2 : Nat} {u v : Expr} (hk : X.env.scope.kind = .function) (hx : X.env.scope.names.lookup x = some .local) (hy : X.env.scope.names.lookup y = some .local) (hn : x ≠ y) (hl : (px.line == py.line) = true)
    (h1 : (foldedForSure 8 u && foldedForSure 8 v) = false) (h2 : (constantsAlone 8 u && constantsAlone 8 v) = false) (hu : plainX u = true) (hv : plainX v = true) :
    swappedStores [.Tuple [.Name x px, .Name y py] k1 p1] (.Tuple [u, v] k2 p2) X.env = pure (some [x, y]) := by
  have hb : X.env.blockKind = .function := by unfold Env.blockKind; rw [hk]; rfl
  have kx : X.env.kindOf x = some .local := hx
  have ky : X.env.kindOf y = some .local := hy
  have nu := not_star hu
  have nv := not_star hv
  have hl : py.line = px.line := by
    have : px.line = py.line := by simpa using hl
    exact this.symm
  have hd : ([x, y] : List Str).eraseDups = [x, y] := by
    have : ¬ y = x := fun e => hn e.symm
    simp [List.eraseDups_cons, this]
  have h1' : ¬ (foldedForSure 8 u = true ∧ foldedForSure 8 v = true) := fun z => by rw [z.1, z.2] at h1; cases h1
  have h2' : ¬ (constantsAlone 8 u = true ∧ constantsAlone 8 v = true) := fun z => by rw [z.1, z.2] at h2; cases h2
  unfold swappedStores
  simp [hb, kx, ky, nu, nv, hn, hl, hd, Expr.pos, List.filterMap_cons, List.filterMap_nil, h1', h2']
  intro z
  exfalso
  rcases z with z | z
  · cases u <;> first | (cases z; done) | cases hu
  · cases v <;> first | (cases z; done) | cases hv
theorem put_r {o i : D} {ov iv : V} {d : D} {v : V} {K : PySem.W.Frag} {mg : Str → Option Value} {m : Mm} {H : Hp} {S : Sto} {δ : Env} {σ : L2.St} {D : Ends} (ho : VR K m H o ov) (hi : VR K m H i iv) (hd : VR K m H d v) (sr : SR K m H δ σ) (hr : HR K m H S)
    (p : Post K mg E (RF K) m H (mb (putF o i d) (fun _ => mp (.nx δ)) S) (endsQ D)) :
    (∀ n ds, o = .loc n → S[n]? = some (.lst ds) → rSetL ov iv v H fun H3 => D.nx σ H3) ∧ ((∀ n ds, o = .loc n → S[n]? ≠ some (.lst ds)) → ∃ a H4, ov = .ref a ∧ DPut H a iv v H4 ∧ D.nx σ H4) := by
  have p : Post K mg E (RF K) m H ((putF o i d S).bind (fun _ => mp (.nx δ))) (endsQ D) := p
  refine ⟨fun n ds e1 e2 => ?_, fun no => ?_⟩
  · subst e1
    obtain ⟨a, rfl, hn⟩ := ho.loc
    obtain ⟨vs, h1, h2⟩ := hr.lst hn e2
    cases i <;> first | (simp only [putF, e2] at p; exact (show False from p).elim) | skip
    rename_i k _
    cases (show iv = _ from hi)
    have p : Post K mg E (RF K) m H ((match L2.ixN ds.length k with
      | some k => .ok () (S.set n (.lst (ds.set k d)))
      | none => .bad : Ret Unit).bind (fun _ => mp (.nx δ))) (endsQ D) := by
      simp only [putF, e2] at p
      exact p
    cases e3 : L2.ixN ds.length k with
    | none => rw [e3] at p; exact (show False from p).elim
    | some j =>
      rw [e3] at p
      refine ⟨a, vs, k, j, rfl, rfl, h1, by rw [h2.len]; exact e3, ?_⟩
      obtain ⟨x1, x2⟩ := hr.write (o' := .lst (ds.set j d)) (u := .lst (vs.set j v)) hn h1 (fun _ z => by cases z) ⟨_, rfl, h2.set j hd⟩
      exact Post.nx (Post.pre p x1) (sr.mono x1) x2
  · cases o <;> first | exact (show False from p).elim | skip
    rename_i n _
    obtain ⟨a, rfl, hn⟩ := ho.loc
    cases e2 : S[n]? with
    | none => simp only [putF, e2] at p; exact (show False from p).elim
    | some ob =>
      cases ob with
      | lst ds => exact (no n ds rfl e2).elim
      | lk ob => simp only [putF, e2] at p; exact (show False from p).elim
      | dT kvs =>
        obtain ⟨u, h1, us, rfl, h2⟩ := hr.ob n a _ hn e2
        cases e3 : keyT i with
        | none => simp only [putF, e2, e3] at p; exact (show False from p).elim
        | some k =>
          simp only [putF, e2, e3] at p
          obtain ⟨b, rfl, h3⟩ := keyT_v hi e3
          by_cases c : kvs.length < sz
          · rw [if_pos c] at p
            refine ⟨a, _, rfl, .inr ⟨us, k, b, h1, rfl, h3, by rw [h2.len]; exact c, rfl⟩, ?_⟩
            obtain ⟨x1, x2⟩ := hr.write (o' := .dT (setK kvs k d)) (u := .dT (putK us k v)) hn h1 (fun _ z => by cases z) ⟨_, rfl, h2.set hd⟩
            exact Post.nx (Post.pre p x1) (sr.mono x1) x2
          · rw [if_neg c] at p
            exact (show False from p).elim
      | dK kvs =>
        obtain ⟨u, h1, us, rfl, h2⟩ := hr.ob n a _ hn e2
        cases e3 : key1 i with
        | none => simp only [putF, e2, e3] at p; exact (show False from p).elim
        | some k =>
          simp only [putF, e2, e3] at p
          have h3 := key1_v hi e3
          by_cases c : kvs.length < sz
          · rw [if_pos c] at p
            refine ⟨a, _, rfl, .inl ⟨us, k, h1, h3, by rw [h2.len]; exact c, rfl⟩, ?_⟩
            obtain ⟨x1, x2⟩ := hr.write (o' := .dK (setK kvs k d)) (u := .dK (putK us k v)) hn h1 (fun _ z => by cases z) ⟨_, rfl, h2.set hd⟩
            exact Post.nx (Post.pre p x1) (sr.mono x1) x2
          · rw [if_neg c] at p
            exact (show False from p).elim
theorem asg_sub {x y : Expr} {p : Pos} {env : PySem.Env} (h : plainX y = true) : ∀ v, assign (.Subscript x y p) env v = (do
      let ov ← holding [v] (eval x env)
      let iv ← holding [v, ov] (eval y env)
      standAt p
      holding [v, ov, iv] (setItem ov iv v)
      release [v, ov, iv] []) := by
  intro v
  cases y <;> first | rfl | cases h
theorem s_sub {o i e : Ie} {x y v : Expr} {p pos : Pos} (O : ∀ ir, OkI G B ir) (M : MC G B X E) (Z : ScR sc X) (h1 : chkE B sc o x = true) (h2 : chkE B sc i y = true) (h3 : chkE B sc e v = true) (h4 : notComp v = true) (h5 : notTup v = true) (h6 : plainX y = true) :
    PS X (.Assign [.Subscript x y p] v pos) (tS X.K X.mg E (evS G N (.sub o i e))) := by
  have hu := M.hu
  have po := (O o).e X E sc x M Z h1
  have pi := (O i).e X E sc y M Z h2
  have pe := (O e).e X E sc v M Z h3
  refine PS.mono (PS.or (ps_asg pe (pg_sub po pi set_list (asg_sub h6)) (sole_no h4) (stores_no h5) rfl) (ps_dput (by omega) po pi pe (swaps_no h4))) fun D σ H q => ?_
  obtain ⟨m, δ, S, sr, hr, q⟩ := q
  rw [evS] at q
  by_cases c : ∃ dv S1 n S2 di S3 ds, evE G e δ S = .ok dv S1 ∧ evE G o δ S1 = .ok (.loc n) S2 ∧ evE G i δ S2 = .ok di S3 ∧ S3[n]? = some (.lst ds)
  · obtain ⟨dv, S1, n, S2, di, S3, ds, c1, c2, c3, c4⟩ := c
    left
    refine (tR_nextE (R := VR X.K) (c := evE G e) sr hr q).imp ?_
    rintro w H1 ⟨m1, S1', d1, e1, hr1, r1, p1, q1⟩
    rw [c1] at q1
    cases q1
    refine (tR_nextE (R := VR X.K) (c := evE G o) (sr.mono e1) hr1 p1).imp ?_
    rintro w2 H2 ⟨m2, S2', d2, e2, hr2, r2, p2, q2⟩
    rw [c2] at q2
    cases q2
    refine (tR_nextE (R := VR X.K) (c := evE G i) ((sr.mono e1).mono e2) hr2 p2).imp ?_
    rintro w3 H3 ⟨m3, S3', d3, e3, hr3, r3, p3, q3⟩
    rw [c3] at q3
    cases q3
    exact (put_r (VR.mono e3 _ _ r2) r3 (VR.mono (e2.trans e3) _ _ r1) (((sr.mono e1).mono e2).mono e3) hr3 p3).1 n ds rfl c4
  · right
    refine (tR_nextE (R := VR X.K) (c := evE G e) sr hr q).imp ?_
    rintro w H1 ⟨m1, S1, d1, e1, hr1, r1, p1, q1⟩
    refine (tR_nextE (R := VR X.K) (c := evE G o) (sr.mono e1) hr1 p1).imp ?_
    rintro w2 H2 ⟨m2, S2, d2, e2, hr2, r2, p2, q2⟩
    refine (tR_nextE (R := VR X.K) (c := evE G i) ((sr.mono e1).mono e2) hr2 p2).imp ?_
    rintro w3 H3 ⟨m3, S3, d3, e3, hr3, r3, p3, q3⟩
    exact (put_r (VR.mono e3 _ _ r2) r3 (VR.mono (e2.trans e3) _ _ r1) (((sr.mono e1).mono e2).mono e3) hr3 p3).2 fun n ds z1 z2 => c ⟨d1, S1, n, S2, d3, S3, ds, q1, by rw [q2, z1], q3, z2⟩
/-- where a def's body runs -/
structure TC (X : Cx) : Prop where
  s : X.stack = X.env :: X.outer
  f : X.env.frame = some X.env.locals
  x : X.ex = []
def E0 : XK := fun _ _ _ => False
theorem noCX {P : Program} {w : World} {outer : List PySem.Env} {H : Hp} {s s' : Shared} {u : Value} (h : L2.CX P w outer H s E0 u s') : False := by
  obtain ⟨_, _, _, _, _, _, _, _, _, _, _, _, h⟩ := h
  exact h
theorem MC.tr (M : MC G B X E) {qs : List (Addr × Obj)} {xe : Value → Shared → Prop} (own : PassesOwn (model X.prog X.w) X.A X.env xe) : MC G B (X.tr qs xe) E0 :=
  { n := M.n
    nd := M.nd
    calm := M.calm
    hu := M.hu
    own := own
    bi := M.bi
    con := M.con
    fn := M.fn
    pass := fun _ _ _ _ _ _ _ h => (noCX h).elim
    kd := M.kd
    xt := M.xt
    rs := fun c hc _ y k p1 p2 p3 p4 hg => ⟨fun pins s σ H D I h => by
      obtain ⟨C, hC⟩ := (M.xt.kl c hc).2
      exact (h C hC).elim⟩ }
theorem ScR.tr (Z : ScR sc X) {qs : List (Addr × Obj)} {xe : Value → Shared → Prop} : ScR sc (X.tr qs xe) := ⟨Z.gl, Z.vis, Z.loc, Z.lo, Z.fr⟩
/-- a call inside a try, what leaves it as the clause wishes -/
theorem try_call {f : Str} {a : Ie} {v : Expr} (Oa : OkI G B a) (M : MC G B X E) (Z : ScR sc X) (h : chkE B sc (.call f a) v = true) : ∃ (g : Str) (p : Pos) (es : List Expr) (pos : Pos), v = .Call (.Name g p) es [] pos ∧
    ∀ (W : WX) (qs : List (Addr × Obj)) (xe : Value → Shared → Prop), Takes (X.tr qs xe) W → PassesOwn (model X.prog X.w) X.A X.env xe →
      PE (X.tr qs xe) v (fun σ H Q => ∃ m δ S, SR X.K m H δ σ ∧ HR X.K m H S ∧ Post X.K X.mg E0 (VRs X.K) m H (evA G a δ S) fun vs H1 => ∃ m1 S1 ds, Ext m H m1 H1 ∧ VRs X.K m1 H1 ds vs ∧ HR X.K m1 H1 S1 ∧ evA G a δ S = .ok ds S1 ∧
        Post X.K X.mg (WE W σ) (VR X.K) m1 H1 (G.fn f ds S1) Q) := by
  unfold chkE at h
  split at h
  · rename_i g p x xs pos
    obtain ⟨h, h5⟩ := and2 h
    obtain ⟨h, h4⟩ := and2 h
    obtain ⟨h, h3⟩ := and2 h
    obtain ⟨h1, h2⟩ := and2 h
    have e := of_decide_eq_true h1
    subst e
    obtain ⟨n1, n2, n3⟩ := okName_of h3
    obtain ⟨fa, fd, ps, k, c1, c2, c3, c4, c5⟩ := M.fn f _ (of_decide_eq_true h4)
    have pl : plainX x = true ∧ ∃ b, chkA B sc b xs = true := by
      cases a <;> first | (unfold chkA at h5; cases h5; done) | skip
      unfold chkA at h5
      obtain ⟨h5, h6⟩ := and2 h5
      exact ⟨(and2 h5).1, _, h6⟩
    obtain ⟨pl1, b, pl2⟩ := pl
    refine ⟨_, _, _, _, rfl, fun W qs xe tk own => ?_⟩
    have pa := Oa.a (X.tr qs xe) E0 sc _ (M.tr own) Z.tr h5
    refine PE.mono (pe_callS (X := X.tr qs xe) (E := WE W) c5 c4 (Z.gl f h2) c1 c2 c3 (passAt tk) pa n1 (star_cons pl1) (plain_any pl2)) fun σ H Q q => ?_
    obtain ⟨m, δ, S, sr, hr, q⟩ := q
    refine ⟨m, δ, S, sr, hr, q.imp ?_⟩
    rintro vs H1 ⟨m1, S1, ds, e1, r1, hr1, ea, p⟩
    exact ⟨by rw [r1.len]; exact evA_len h5 ea, m1, S1, ds, r1, hr1, p⟩
  · cases h
theorem Post.okE {K : PySem.W.Frag} {mg : Str → Option Value} {α β : Type} {R : Mm → Hp → α → β → Prop} {m : Mm} {H : Hp} {d : α} {S : Sto} {Q : β → Hp → Prop} (k : ∀ v m' H', Ext m H m' H' → R m' H' d v → HR K m' H' S → Q v H') : Post K mg E R m H (.ok d S) Q := k
theorem s_tri {c : Str} {i j : Nat} {t : Option Nat} {f : Str} {a : Ie} {st : Stmt} (T : TC X) (Oa : OkI G B a) (M : MC G B X E) (Z : ScR sc X) (h : chkS B sc (.tri c i j t f a) st = true) : PS X st (tS X.K X.mg E (evS G N (.tri c i j t f a))) := by
  unfold chkS at h
  split at h
  case h_2 => cases h
  rename_i b x p0 n k p1 n' p2 p3 pos' pos
  obtain ⟨h, hv⟩ := and2 h
  obtain ⟨h, h10⟩ := and2 h
  obtain ⟨h, h9⟩ := and2 h
  obtain ⟨h, h8⟩ := and2 h
  obtain ⟨h, h7⟩ := and2 h
  obtain ⟨h, h6⟩ := and2 h
  obtain ⟨h, h5⟩ := and2 h
  obtain ⟨h, h4⟩ := and2 h
  obtain ⟨h, h3⟩ := and2 h
  obtain ⟨h1, h2⟩ := and2 h
  have e1 := of_decide_eq_true h1
  have e2 := of_decide_eq_true h2
  subst e1 e2
  obtain ⟨n1, n2, n3⟩ := okName_of h4
  obtain ⟨n4, n5, n6⟩ := okName_of h10
  obtain ⟨hall, C, hC⟩ := M.xt.kl _ (of_decide_eq_true h5)
  have ln := Z.lo _ (of_decide_eq_true h8)
  obtain ⟨l1, l2⟩ := Z.loc k h9
  have hi : X.N[i]? = some n' := by rw [M.n]; exact of_decide_eq_true h6
  have hj : X.N[j]? = some k := by rw [M.n]; exact of_decide_eq_true h7
  -- what the clause keeps
  have key : ∀ (D : Ends) (σ : L2.St) (H : Hp) (Q : V → Hp → Prop) (δ : Env) (m : Mm) (S : Sto), SR X.K m H δ σ → HR X.K m H S →
      Post X.K X.mg E (RF X.K) m H (evS G N (.tri x i j t f a) δ S) (endsQ D) →
      (∀ d v m1 H1 S1, SR X.K m1 H1 δ σ → HR X.K m1 H1 S1 → VR X.K m1 H1 d v → Post X.K X.mg E (RF X.K) m1 H1 (.ok (.nx (putT t d δ)) S1) (endsQ D) → Q v H1) →
      ∃ m δ S, SR X.K m H δ σ ∧ HR X.K m H S ∧ Post X.K X.mg E0 (VRs X.K) m H (evA G a δ S) fun vs H1 => ∃ m1 S1 ds, Ext m H m1 H1 ∧ VRs X.K m1 H1 ds vs ∧ HR X.K m1 H1 S1 ∧ evA G a δ S = .ok ds S1 ∧
        Post X.K X.mg (WE (wKeep X.K (.ref C) i j D) σ) (VR X.K) m1 H1 (G.fn f ds S1) Q := by
    intro D σ H Q δ m S sr hr q hq
    refine ⟨m, δ, S, sr, hr, ?_⟩
    rw [evS] at q
    dsimp only at q
    cases ea : evA G a δ S with
    | bad => simp only [quiet, ea] at q; exact (show False from q).elim
    | exc c' S' => simp only [quiet, ea] at q; exact (show False from q).elim
    | ok ds S1 =>
      simp only [quiet, ea] at q
      refine Post.okE fun vs m1 H1 x1 r1 hr1 => ⟨m1, S1, ds, x1, r1, hr1, rfl, ?_⟩
      cases ef : G.fn f ds S1 with
      | bad => rw [ef] at q; exact (show False from q).elim
      | ok d S2 =>
        rw [ef] at q
        exact Post.okE fun v m2 H2 x2 r2 hr2 => hq d v m2 H2 S2 ((sr.mono x1).mono x2) hr2 r2 (Post.pre q (x1.trans x2))
      | exc c' S2 =>
        rw [ef] at q
        dsimp only at q
        intro C' m2 H2 hC' x2 hr2
        by_cases hc : (decide (c' ∈ exnAll) && subE c' x) = true
        · rw [if_pos hc] at q
          obtain ⟨g1, g2⟩ := and2 hc
          obtain ⟨k1, k2, k3, k4⟩ := M.xt.kn c' (of_decide_eq_true g1) C' hC'
          refine ⟨?_, rfl, fun ad na => ?_⟩
          · rw [(k4 x hall C hC).1, g2]
          · have x3 : Ext m2 H2 m2 (upd H2 ad (KEx (.ref C') ad)) := Ext.new na
            have r3 : VR X.K m2 (upd H2 ad (KEx (.ref C') ad)) (.exc c') (.ref ad) := ⟨ad, C', rfl, k1, upd_same⟩
            have sr3 := (((sr.mono x1).mono x2).mono x3)
            exact Post.nx (Post.pre q ((x1.trans x2).trans x3)) (((sr3.set i r3).set j r3).unset i none) (hr2.new na)
        · rw [if_neg hc] at q
          exact (show False from q).elim
  cases t with
  | none =>
    cases b <;> first | (cases hv; done) | skip
    rename_i v pv
    obtain ⟨g, p, es, pos2, ev, tc⟩ := try_call Oa M Z hv
    subst ev
    refine PS.mono (ps_try_keep (c := .ref C) T.s T.f T.x M.nd hi hj ln (.inl ln) l1 l2 n4 n5 ⟨Z.gl _ h3, n1, .inl hC⟩ (fun W qs xe tk own => pss_one (ps_expr (tc W qs xe tk own) (swaps_no rfl)))) fun D σ H q => ?_
    obtain ⟨m, δ, S, sr, hr, q⟩ := q
    exact key D σ H _ δ m S sr hr q fun d v m1 H1 S1 sr1 hr1 r1 q1 => Post.nx q1 sr1 hr1
  | some q0 =>
    cases b <;> first | (cases hv; done) | skip
    rename_i ts v pv
    match ts, hv with
    | [.Name y py], hv =>
      obtain ⟨hv, hv3⟩ := and2 hv
      obtain ⟨hv1, hv2⟩ := and2 hv
      obtain ⟨l3, l4⟩ := Z.loc y hv2
      obtain ⟨g, p, es, pos2, ev, tc⟩ := try_call Oa M Z hv3
      subst ev
      refine PS.mono (ps_try_keep (c := .ref C) T.s T.f T.x M.nd hi hj ln (.inl ln) l1 l2 n4 n5 ⟨Z.gl _ h3, n1, .inl hC⟩ (fun W qs xe tk own => pss_one (ps_set (i := q0) M.nd (by rw [M.n]; exact of_decide_eq_true hv1) l3 (tc W qs xe tk own) (swaps_no rfl) l4))) fun D σ H q => ?_
      obtain ⟨m, δ, S, sr, hr, q⟩ := q
      exact key D σ H _ δ m S sr hr q fun d v m1 H1 S1 sr1 hr1 r1 q1 => Post.nx q1 (sr1.set q0 r1) hr1
theorem soundS (T : TC X) (O : ∀ ir, OkI G B ir) (M : MC G B X E) (Z : ScR sc X) : ∀ is, OkS G B N X E sc is := by
  intro is
  have nob : ∀ {is : Is} {l : List Stmt}, chkB B sc is l = false → chkB B sc is l = true → PSs X l (tS X.K X.mg E (evS G N is)) := fun a b => by rw [a] at b; cases b
  induction is with
  | nil =>
    refine ⟨fun st h => (by unfold chkS at h; cases h), fun l h => ?_⟩
    unfold chkB at h
    split at h
    · refine PSs.mono pss_nil fun D σ H q => ?_
      obtain ⟨m, δ, S, sr, hr, q⟩ := q
      rw [evS] at q
      exact Post.nx (δ := δ) q sr hr
    · cases h
  | cons a b iha ihb =>
    refine ⟨fun st h => (by unfold chkS at h; cases h), fun l h => ?_⟩
    unfold chkB at h
    split at h
    · obtain ⟨h1, h2⟩ := and2 h
      refine PSs.mono (pss_cons (iha.s _ h1) (ihb.b _ h2)) fun D σ H q => seq_r ?_
      obtain ⟨m, δ, S, sr, hr, q⟩ := q
      rw [evS] at q
      exact ⟨m, δ, S, sr, hr, q⟩
    · cases h
  | pass =>
    refine ⟨fun st h => ?_, fun l h => by unfold chkB at h; cases h⟩
    have fin : ∀ D σ H, tS X.K X.mg E (evS G N .pass) D σ H → D.nx σ H := fun D σ H q => by
      obtain ⟨m, δ, S, sr, hr, q⟩ := q
      rw [evS] at q
      exact Post.nx (δ := δ) q sr hr
    unfold chkS at h
    split at h
    · exact PS.mono ps_pass fin
    · exact PS.mono ps_doc fin
    · cases h
  | asg i e =>
    refine ⟨fun st h => ?_, fun l h => by unfold chkB at h; cases h⟩
    unfold chkS at h
    split at h
    · obtain ⟨h, h4⟩ := and2 h
      obtain ⟨h, h3⟩ := and2 h
      obtain ⟨h1, h2⟩ := and2 h
      obtain ⟨l1, l2⟩ := Z.loc _ h2
      refine PS.mono (ps_set M.nd (by rw [M.n]; exact of_decide_eq_true h1) l1 ((O e).e X E sc _ M Z h4) (swaps_no h3) l2) fun D σ H q => ?_
      obtain ⟨m, δ, S, sr, hr, q⟩ := q
      rw [evS] at q
      refine (tR_next (R := VR X.K) (c := evE G e) sr hr q).imp ?_
      rintro w H1 ⟨m1, S1, d1, e1, hr1, r1, p1⟩
      exact Post.nx (δ := δ.set i (some d1)) p1 ((sr.mono e1).set i r1) hr1
    · cases h
  | par i j a b =>
    refine ⟨fun st h => ?_, fun l h => by unfold chkB at h; cases h⟩
    unfold chkS at h
    split at h
    · obtain ⟨h, g13⟩ := and2 h
      obtain ⟨h, g12⟩ := and2 h
      obtain ⟨h, g11⟩ := and2 h
      obtain ⟨h, g10⟩ := and2 h
      obtain ⟨h, g9⟩ := and2 h
      obtain ⟨h, g8⟩ := and2 h
      obtain ⟨h, g7⟩ := and2 h
      obtain ⟨h, g6⟩ := and2 h
      obtain ⟨h, g5⟩ := and2 h
      obtain ⟨h, g4⟩ := and2 h
      obtain ⟨h, g3⟩ := and2 h
      obtain ⟨g1, g2⟩ := and2 h
      have lx := Z.lo _ (of_decide_eq_true g4)
      have ly := Z.lo _ (of_decide_eq_true g5)
      have pa := (O a).e X E sc _ M Z g12
      have pb := (O b).e X E sc _ M Z g13
      refine PS.mono (ps_par M.calm M.nd (by rw [M.n]; exact of_decide_eq_true g1) (by rw [M.n]; exact of_decide_eq_true g2) (of_decide_eq_true g3) lx ly (pa_cons pa (pa_cons pb pa_nil (star_cons g11)) (star_cons g10))
        (swapped_two M.kd lx ly (of_decide_eq_true g6) g7 (by rw [Bool.not_eq_true'] at g8; exact g8) (by rw [Bool.not_eq_true'] at g9; exact g9) g10 g11) rfl) fun D σ H q => ?_
      obtain ⟨m, δ, S, sr, hr, q⟩ := q
      rw [evS] at q
      refine (tR_next (R := VR X.K) (c := evE G a) sr hr q).imp ?_
      rintro w H1 ⟨m1, S1, d1, e1, hr1, r1, p1⟩
      refine (tR_next (R := VR X.K) (c := evE G b) (sr.mono e1) hr1 p1).imp ?_
      rintro w2 H2 ⟨m2, S2, d2, e2, hr2, r2, p2⟩
      exact ⟨w, w2, rfl, Post.nx (δ := (δ.set i (some d1)).set j (some d2)) p2 ((((sr.mono e1).mono e2).set i (VR.mono e2 _ _ r1)).set j r2) hr2⟩
    · cases h
  | unp l e =>
    refine ⟨fun st h => ?_, fun l h => by unfold chkB at h; cases h⟩
    unfold chkS at h
    split at h
    · obtain ⟨h, h4⟩ := and2 h
      obtain ⟨h, h3⟩ := and2 h
      obtain ⟨h1, h2⟩ := and2 h
      obtain ⟨t, t1, t2⟩ := tg_ok M Z h1
      refine PS.mono (ps_asg ((O e).e X E sc _ M Z h4) t1 (sole_no h2) (stores_no h3) rfl) fun D σ H q => ?_
      obtain ⟨m, δ, S, sr, hr, q⟩ := q
      rw [evS] at q
      refine (tR_next (R := VR X.K) (c := evE G e) sr hr q).imp ?_
      rintro w H1 ⟨m1, S1, d1, e1, hr1, r1, p1⟩
      cases e2 : (Tg.tp l).put d1 δ with
      | none => rw [e2] at p1; exact (show False from p1).elim
      | some δ1 =>
        rw [e2] at p1
        exact t2 _ _ _ _ ⟨m1, δ, S1, d1, δ1, sr.mono e1, hr1, r1, e2, fun σ' sr' _ => Post.nx (δ := δ1) p1 sr' hr1⟩
    · cases h
  | sub o i e =>
    refine ⟨fun st h => ?_, fun l h => by unfold chkB at h; cases h⟩
    unfold chkS at h
    split at h
    · obtain ⟨h, h6⟩ := and2 h
      obtain ⟨h, h5⟩ := and2 h
      obtain ⟨h, h4⟩ := and2 h
      obtain ⟨h, h3⟩ := and2 h
      obtain ⟨h1, h2⟩ := and2 h
      exact s_sub O M Z h1 h2 h3 h4 h5 h6
    · cases h
  | ex e =>
    refine ⟨fun st h => ?_, fun l h => by unfold chkB at h; cases h⟩
    unfold chkS at h
    split at h
    · obtain ⟨h1, h2⟩ := and2 h
      refine PS.mono (ps_expr ((O e).e X E sc _ M Z h2) (swaps_no h1)) fun D σ H q => ?_
      obtain ⟨m, δ, S, sr, hr, q⟩ := q
      rw [evS] at q
      refine (tR_next (R := VR X.K) (c := evE G e) sr hr q).imp ?_
      rintro w H1 ⟨m1, S1, d1, e1, hr1, r1, p1⟩
      exact Post.nx (δ := δ) p1 (sr.mono e1) hr1
    · cases h
  | ifs t a b iha ihb =>
    refine ⟨fun st h => ?_, fun l h => by unfold chkB at h; cases h⟩
    unfold chkS at h
    split at h
    · obtain ⟨h, h3⟩ := and2 h
      obtain ⟨h1, h2⟩ := and2 h
      refine PS.mono (ps_if ((O t).t X E sc _ M Z h1) (iha.b _ h2) (ihb.b _ h3)) fun D σ H q => ?_
      obtain ⟨m, δ, S, sr, hr, q⟩ := q
      rw [evS] at q
      refine (tR_next (R := RB) (c := evT G t) sr hr q).imp ?_
      rintro w H1 ⟨m1, S1, d1, e1, hr1, r1, p1⟩
      rw [← (show d1 = w from r1)]
      cases d1 with
      | true => exact iteT ⟨m1, δ, S1, sr.mono e1, hr1, p1⟩
      | false => exact iteF ⟨m1, δ, S1, sr.mono e1, hr1, p1⟩
    · cases h
  | for_ g it b ihb =>
    refine ⟨fun st h => ?_, fun l h => by unfold chkB at h; cases h⟩
    unfold chkS at h
    split at h
    · obtain ⟨h, h3⟩ := and2 h
      obtain ⟨h1, h2⟩ := and2 h
      obtain ⟨t, t1, t2⟩ := tg_ok M Z h1
      obtain ⟨h2, hz⟩ := and2 h2
      obtain ⟨i1, i2⟩ := (O it).i X E sc _ _ M Z h2 (fun z => by rw [z] at hz; exact hz)
      refine PS.mono (ps_for M.own M.calm i1 t1 (ihb.b _ h3) i2) fun D σ H q => ?_
      obtain ⟨m, δ, S, sr, hr, q⟩ := q
      rw [evS] at q
      refine (tR_next (R := Wlk X.K) (c := evI G it) sr hr q).imp ?_
      rintro J H1 ⟨m1, S1, d1, e1, hr1, r1, p1⟩
      exact forL_ok t2 (fun _ _ _ h => h) r1 (sr.mono e1) hr1 p1
    · cases h
  | forD g i b ihb =>
    refine ⟨fun st h => ?_, fun l h => by unfold chkB at h; cases h⟩
    unfold chkS at h
    split at h
    · rename_i tg x px y pos
      obtain ⟨h, h3⟩ := and2 h
      obtain ⟨h1, h2⟩ := and2 h
      obtain ⟨t, t1, t2⟩ := tg_ok M Z h1
      have ev : chkE B sc (.var i) (.Name x px) = true := by unfold chkE; exact h2
      refine PS.mono (ps_lock (ps_for M.own M.calm (pi_keys ((O (.var i)).e X E sc _ M Z ev)) t1 (ihb.b _ h3) (folded_no rfl))) fun D σ H q => ?_
      obtain ⟨m, δ, S, sr, hr, q⟩ := q
      rw [evS] at q
      dsimp only at q
      cases e1 : δ[i]? with
      | none => rw [e1] at q; exact (show False from q).elim
      | some d0 =>
        rw [e1] at q
        cases d0 with
        | none => exact (show False from q).elim
        | some d0 =>
          cases d0 with
          | loc n =>
            dsimp only at q
            cases e2 : S[n]? with
            | none => rw [e2] at q; exact (show False from q).elim
            | some o =>
              rw [e2] at q
              dsimp only at q
              cases e3 : dkeys o with
              | none => rw [e3] at q; exact (show False from q).elim
              | some ks =>
                rw [e3] at q
                dsimp only at q
                obtain ⟨v0, _, a, rfl, hn⟩ := sr.get i _ e1
                obtain ⟨u, ha, hu, hl⟩ := hr.lockD hn e2 e3
                refine ⟨a, u, ha, (by cases u <;> first | exact trivial | exact hu.elim), fun od => ?_⟩
                obtain ⟨x0, hr0, W⟩ := hl od
                refine ⟨m, δ, S.set n (.lk o), sr.mono x0, hr0, ?_⟩
                rw [evE, e1]
                intro v m' H' e r hr'
                obtain ⟨a2, rfl, hn2⟩ := r.loc
                have ea : a2 = a := Option.some.inj (hn2.symm.trans (e.at hn))
                subst ea
                have hf : H' a2 = some (.frz od u) := e.frz _ _ _ upd_same
                have q2 := (Post.unlk (x := forL [(n, .lk o)] g (evS G N b) ks δ (S.set n (.lk o))) (R := RF X.K) (fun {m H H' d v} e0 r => by
                  cases d <;> cases v <;> first | exact r.elim | skip
                  · exact ⟨r.len, fun i d q => let ⟨v, a, b⟩ := r.get i d q; ⟨v, a, VR.mono0 e0 _ _ b⟩⟩
                  · exact VR.mono0 e0 _ _ r) q hn ha hu (x0.trans e |> fun _ => e))
                rcases W with ⟨us, rfl, W⟩ | ⟨us, rfl, W⟩
                · exact ⟨a2, od, rfl, .inr ⟨us, hf, forL_ok (p := (ks, [(n, .lk o)])) t2 (fun _ _ _ h => h) (W m' H' _ hf) ((sr.mono x0).mono e) hr' (q2.imp fun v H2 z => (by cases v <;> exact z))⟩⟩
                · exact ⟨a2, od, rfl, .inl ⟨us, hf, forL_ok (p := (ks, [(n, .lk o)])) t2 (fun _ _ _ h => h) (W m' H' _ hf) ((sr.mono x0).mono e) hr' (q2.imp fun v H2 z => (by cases v <;> exact z))⟩⟩
          | _ => exact (show False from q).elim
    · cases h
  | whl t b ihb =>
    refine ⟨fun st h => ?_, fun l h => by unfold chkB at h; cases h⟩
    unfold chkS at h
    split at h
    · obtain ⟨h1, h2⟩ := and2 h
      refine PS.mono (ps_while M.own ((O t).t X E sc _ M Z h1) (ihb.b _ h2)) fun D σ H q => ?_
      obtain ⟨m, δ, S, sr, hr, q⟩ := q
      rw [evS] at q
      exact whl_ok (fun _ _ _ h => h) (fun _ _ _ h => h) sr hr q
    · cases h
  | ret e =>
    refine ⟨fun st h => ?_, fun l h => by unfold chkB at h; cases h⟩
    unfold chkS at h
    split at h
    · refine PS.mono (ps_ret ((O e).e X E sc _ M Z h)) fun D σ H q => ?_
      obtain ⟨m, δ, S, sr, hr, q⟩ := q
      rw [evS] at q
      refine (tR_next (R := VR X.K) (c := evE G e) sr hr q).imp ?_
      rintro w H1 ⟨m1, S1, d1, e1, hr1, r1, p1⟩
      exact Post.rt (d := d1) p1 r1 hr1
    · cases h
  | retN =>
    refine ⟨fun st h => ?_, fun l h => by unfold chkB at h; cases h⟩
    unfold chkS at h
    split at h
    · refine PS.mono ps_retN fun D σ H q => ?_
      obtain ⟨m, δ, S, sr, hr, q⟩ := q
      rw [evS] at q
      exact Post.rt (d := Mp.D.non) q rfl hr
    · cases h
  | rse c e =>
    refine ⟨fun st h => ?_, fun l h => by unfold chkB at h; cases h⟩
    unfold chkS at h
    split at h
    · obtain ⟨h, h4⟩ := and2 h
      obtain ⟨h, h3⟩ := and2 h
      obtain ⟨h1, h2⟩ := and2 h
      have e := of_decide_eq_true h1
      subst e
      refine PS.mono (M.rs _ (of_decide_eq_true (and2 h3).1) (of_decide_eq_true (and2 h3).2) _ _ _ _ _ _ (Z.gl _ h2)) fun D σ H q => ?_
      obtain ⟨m, δ, S, sr, hr, q⟩ := q
      rw [evS] at q
      split at h4
      · intro C hC
        have q : Post X.K X.mg E (RF X.K) m H ((evE G (.con _) δ S).bind fun _ S => .exc _ S) (endsQ D) := q
        rw [evE] at q
        exact q C m H hC (Ext.refl _ _) hr
      · cases h4
    · cases h
  | tri c i j t f a => exact ⟨fun st h => s_tri T (O a) M Z h, fun l h => (by unfold chkB at h; cases h)⟩
end
end Mp
namespace Mp
open PySem L2
section
variable {G : Gt} {B : Bk} {X : Cx} {E : XK} {sc : Scope}
theorem boot_VE : bootBuiltins ("ValueError" : Str) = some (.type "ValueError") := by decide +kernel
theorem star2 {x y : Expr} {env : PySem.Env} (h : plainX y = true) : starEach [x, y] env = starEach [x, y] env := rfl
/-- a class named -/
theorem cls_pe {d : Str} {t : Expr} (M : MC G B X E) (Z : ScR sc X) (h : clsNm B sc d t = true) : ∃ v cv, PE X t (tC v) ∧ ClsV v cv ∧ ∀ c ∈ exnAll, ∀ C, X.mg c = some (.ref C) → PySem.W.kitOne X.K (.ref C) cv = some (subE c d) := by
  cases t <;> first | (cases h; done) | skip
  rename_i x p
  obtain ⟨h, h4⟩ := and2 h
  obtain ⟨h, h3⟩ := and2 h
  obtain ⟨h1, h2⟩ := and2 h
  have e := of_decide_eq_true h1
  subst e
  obtain ⟨n1, n2, n3⟩ := okName_of h3
  by_cases c : x = ("ValueError" : Str)
  · subst c
    refine ⟨_, .type "ValueError", pe_bltn (v := .ty "ValueError") (Z.gl _ h2) M.xt.vn boot_VE rfl n3 n1, fun u r => ?_, fun c hc C hC => ?_⟩
    · cases r; rfl
    · rw [(M.xt.kn c hc C hC).2.2.1]
      rfl
  · have h5 : x ∈ B.exn := by
      rcases Bool.or_eq_true_iff.mp h4 with z | z
      · exact (c (of_decide_eq_true z)).elim
      · exact of_decide_eq_true z
    obtain ⟨h6, D, hD⟩ := M.xt.kl x h5
    refine ⟨.ref D, .ref D, pe_glob (Z.gl _ h2) hD rfl n1, fun u r => ?_, fun c hc C hC => ?_⟩
    · cases r; rfl
    · exact ((M.xt.kn c hc C hC).2.2.2 x h6 D hD).2
theorem cls_pes : ∀ {l : List Str} {es : List Expr}, MC G B X E → ScR sc X → clsNms B sc l es = true → ∃ vs cs, PA X es (fun σ H Q => Q vs H) ∧ ClsVs vs cs ∧ vs.length = es.length ∧ ∀ c ∈ exnAll, ∀ C, X.mg c = some (.ref C) → PySem.W.kitAny X.K (.ref C) cs = some (l.any (subE c))
  | [], [], M, Z, h => ⟨[], [], pa_nil, rfl, rfl, fun _ _ _ _ => rfl⟩
  | d :: ds, e :: es, M, Z, h => by
    obtain ⟨h, h3⟩ := and2 h
    obtain ⟨h1, h2⟩ := and2 h
    obtain ⟨v, cv, p1, q1, r1⟩ := cls_pe M Z h2
    obtain ⟨vs, cs, p2, q2, l2, r2⟩ := cls_pes M Z h3
    refine ⟨v :: vs, cv :: cs, PA.mono (pa_cons p1 p2 (star_cons h1)) fun σ H Q q => q, ⟨cv, cs, rfl, q1, q2⟩, by rw [List.length_cons, List.length_cons, l2], fun c hc C hC => ?_⟩
    show (match PySem.W.kitOne X.K (.ref C) cv with
      | some true => some true
      | some false => PySem.W.kitAny X.K (.ref C) cs
      | none => none) = _
    rw [r1 c hc C hC]
    cases e2 : subE c d with
    | true => simp [e2]
    | false => simp [e2, r2 c hc C hC]
  | [], _ :: _, _, _, h => by cases h
  | _ :: _, [], _, _, h => by cases h
theorem s_isx {l : List Str} {a : Ie} {ex : Expr} (Oa : OkI G B a) (M : MC G B X E) (Z : ScR sc X) (h : chkE B sc (.isx l a) ex = true) : PE X ex (tR X.K X.mg E (VR X.K) (evE G (.isx l a))) := by
  unfold chkE at h
  split at h
  case h_2 => cases h
  rename_i g p x t pos
  obtain ⟨h, ht⟩ := and2 h
  obtain ⟨h, h4⟩ := and2 h
  obtain ⟨h, h3⟩ := and2 h
  obtain ⟨h1, h2⟩ := and2 h
  have e := of_decide_eq_true h1
  subst e
  have hm := M.bi ("isinstance" : Str) (by decide)
  have b8 := boot_bi.2.2.2.2.2.2.2.1
  have fin : ∀ (σ : L2.St) (H : Hp) (Q : V → Hp → Prop) (R : V → Hp → Prop), tR X.K X.mg E (VR X.K) (evE G (.isx l a)) σ H Q →
      (∀ (ad C : Addr) (c : Str) (H1 : Hp) (m1 : Mm) (S1 : Sto), HR X.K m1 H1 S1 → c ∈ exnAll → X.mg c = some (.ref C) → H1 ad = some (KEx (.ref C) ad) → ExcC X.K C → Post X.K X.mg E (VR X.K) m1 H1 (.ok (.bl (l.any (subE c))) S1) Q → R (.ref ad) H1) →
      tR X.K X.mg E (VR X.K) (evE G a) σ H R := by
    intro σ H Q R q k
    obtain ⟨m, δ, S, sr, hr, q⟩ := q
    rw [evE] at q
    refine (tR_next (R := VR X.K) (c := evE G a) sr hr q).imp ?_
    rintro v H1 ⟨m1, S1, d1, e1, hr1, r1, p1⟩
    cases d1 <;> first | exact (show False from p1).elim | skip
    case exc =>
      rename_i c
      obtain ⟨hc, p1⟩ := Post.chk p1
      obtain ⟨ad, C, rfl, hn, hk⟩ := r1
      have hC := M.xt.ki c C hn
      exact k ad C c H1 m1 S1 hr1 (of_decide_eq_true hc) hC hk (M.xt.kn c (of_decide_eq_true hc) C hC).2.1 p1
  split at ht
  · rename_i es kk tp
    obtain ⟨hl, ht⟩ := and2 ht
    obtain ⟨vs, cs, p2, q2, l2, r2⟩ := cls_pes M Z ht
    refine PE.mono (pe_callB call_isX (Z.gl _ h2) hm b8 (pa_cons (Oa.e X E sc _ M Z h4) (pa_cons (pe_tup p2) pa_nil (star_cons rfl)) (star_cons h3)) (he := star_cons h3)) fun σ H Q q => ?_
    refine fin σ H Q _ q fun ad C c H1 m1 S1 hr1 hc hC hk hx p1 => ?_
    refine ⟨?_, fun T hT => ?_⟩
    · rw [l2]; exact Nat.le_trans (of_decide_eq_true hl) (show 1000 ≤ PySem.sizeLine by decide)
    · exact ⟨ad, C, .ref T, _, rfl, by rw [upd_ne (ne_of_none hk hT)]; exact hk, hx, .inr ⟨T, vs, cs, rfl, upd_same, q2, r2 c hc C hC⟩, Post.ok (Post.pre p1 (Ext.new hT)) rfl (hr1.new hT)⟩
  · split at ht
    · rename_i d
      obtain ⟨ht1, ht2⟩ := and2 ht
      obtain ⟨v, cv, p1, q1, r1⟩ := cls_pe M Z ht2
      obtain ⟨y, py, rfl⟩ : ∃ y py, t = .Name y py := by cases t <;> first | (cases ht2; done) | exact ⟨_, _, rfl⟩
      refine PE.mono (pe_callB call_isX (Z.gl _ h2) hm b8 (pa_cons (Oa.e X E sc _ M Z h4) (pa_cons p1 pa_nil (star_cons ht1)) (star_cons h3)) (he := star_cons h3)) fun σ H Q q => ?_
      refine fin σ H Q _ q fun ad C c H1 m1 S1 hr1 hc hC hk hx p1 => ?_
      refine ⟨ad, C, v, _, rfl, hk, hx, .inl ⟨cv, q1, r1 c hc C hC⟩, ?_⟩
      have := Post.ok p1 (v := V.bl (subE c d)) (by show _ = V.bl _; simp) hr1
      exact this
    · cases ht
end
end Mp
namespace Mp
open PySem L2
/-! ### comprehensions -/
theorem wipe_get (σ : L2.St) : ∀ (vs : List Nat) (k : Nat), (wipe σ vs)[k]? = if k ∈ vs then (if k < σ.length then some none else none) else σ[k]?
  | [], k => by simp [wipe]
  | v :: vs, k => by
    have ih := wipe_get σ vs k
    show ((wipe σ vs).set v none)[k]? = _
    by_cases e : v = k
    · subst e
      rw [if_pos List.mem_cons_self]
      by_cases h : v < σ.length
      · rw [if_pos h, List.getElem?_set_self (by rw [wipe_length]; exact h)]
      · rw [if_neg h, List.getElem?_eq_none (by rw [List.length_set, wipe_length]; omega)]
    · rw [List.getElem?_set_ne e, ih]
      by_cases h : k ∈ vs
      · rw [if_pos h, if_pos (List.mem_cons_of_mem _ h)]
      · rw [if_neg h, if_neg (fun z => by rcases List.mem_cons.mp z with z | z; exact e z.symm; exact h z)]
theorem wipe_off {l vs : List Nat} {σ σ2 : L2.St} (h : Off l (wipe σ vs) σ2) (hl : ∀ i ∈ l, i ∈ vs) : wipe σ2 vs = wipe σ vs := by
  refine List.ext_getElem? fun k => ?_
  rw [wipe_get σ2, wipe_get σ]
  by_cases c : k ∈ vs
  · rw [if_pos c, if_pos c, h.1, wipe_length]
  · rw [if_neg c, if_neg c, h.2 k (fun z => c (hl k z)), wipe_get, if_neg c]
theorem SR.wipe {K : PySem.W.Frag} {m : Mm} {H : Hp} {δ : Env} {σ : L2.St} (h : SR K m H δ σ) : ∀ vs : List Nat, SR K m H (wipeD δ vs) (L2.wipe σ vs)
  | [] => h
  | v :: vs => (SR.wipe h vs).unset v none
theorem lookup_rel (env : PySem.Env) (x : Str) : ∀ l : List (Str × NameKind), ((l.map fun (n, k) => if (k == NameKind.free && env.scope.kind == .function && env.kindOf n == some .cell) then (n, NameKind.cell) else (n, k)).lookup x) =
    (l.lookup x).map fun k => if (k == NameKind.free && env.scope.kind == .function && env.kindOf x == some .cell) then NameKind.cell else k
  | [] => rfl
  | (n, k) :: r => by
    have ih := lookup_rel env x r
    have hf : ∀ (n : Str) (k : NameKind), (if (k == NameKind.free && env.scope.kind == .function && env.kindOf n == some .cell) = true then (n, NameKind.cell) else (n, k)) = (n, if (k == NameKind.free && env.scope.kind == .function && env.kindOf n == some .cell) = true then NameKind.cell else k) := fun n k => by split <;> rfl
    rw [List.map_cons]
    show List.lookup x ((if (k == NameKind.free && env.scope.kind == .function && env.kindOf n == some .cell) = true then (n, NameKind.cell) else (n, k)) :: _) = _
    rw [hf, List.lookup_cons, List.lookup_cons]
    cases hx : x == n with
    | true =>
      have e : x = n := by simpa using hx
      subst e
      rfl
    | false => exact ih
section
variable {G : Gt} {B : Bk} {X : Cx} {E : XK} {sc : Scope}
theorem ScR.blk {scope : Scope} {s : Shared} {H : Hp} {C : Addr} {cl : List (Str × Addr)} {fp : List Addr} : ScR scope (X.blk s H scope (compEnvC scope cl C X.env) fp) := by
  have key : ∀ x k, scope.names.lookup x = some k → (relabel scope X.env).names.lookup x = some (if (k == NameKind.free && X.env.scope.kind == .function && X.env.kindOf x == some .cell) then NameKind.cell else k) := fun x k e => by
    show (scope.names.map _).lookup x = _
    rw [lookup_rel, e]
    rfl
  refine ⟨fun x h => ?_, fun x h => ?_, fun x h => ?_, fun x h => ?_, fun x h => ?_⟩
  · unfold glB at h
    split at h
    · rename_i e
      show (relabel scope X.env).names.lookup x = _
      rw [key x _ e]; rfl
    · cases h
  · show Vis (relabel scope X.env) x
    unfold visB at h
    unfold Vis
    split at h
    · rename_i e; left; rw [key x _ e]; rfl
    · rename_i e; right; left; rw [key x _ e]; rfl
    · rename_i e
      right
      rw [key x _ e]
      by_cases c : (NameKind.free == NameKind.free && X.env.scope.kind == .function && X.env.kindOf x == some .cell) = true
      · left; rw [if_pos c]
      · right; rw [if_neg c]
    · cases h
  · show L2.Loc (relabel scope X.env) x ∧ ((scope.names.lookup x == some .cell) = true ∨ (relabel scope X.env).names.lookup x = some .local)
    unfold locB at h
    unfold L2.Loc
    split at h
    · rename_i e
      have : (relabel scope X.env).names.lookup x = some .local := by rw [key x _ e]; rfl
      exact ⟨.inl this, .inr this⟩
    · rename_i e
      have : (relabel scope X.env).names.lookup x = some .cell := by rw [key x _ e]; rfl
      exact ⟨.inr this, .inl (by rw [e]; rfl)⟩
    · cases h
  · show (relabel scope X.env).names.lookup x = _
    rw [key x _ h]; rfl
  · show (relabel scope X.env).names.lookup x = _ ∨ (relabel scope X.env).names.lookup x = _
    rcases h with h | h
    · left; rw [key x _ h]; rfl
    · rw [key x _ h]
      by_cases c : (NameKind.free == NameKind.free && X.env.scope.kind == .function && X.env.kindOf x == some .cell) = true
      · left; rw [if_pos c]
      · right; rw [if_neg c]
theorem MC.blk (M : MC G B X E) {scope : Scope} (hk : scope.kind = .function) {s : Shared} {H : Hp} {C : Addr} {cl : List (Str × Addr)} {fp : List Addr} : MC G B (X.blk s H scope (compEnvC scope cl C X.env) fp) E0 :=
  { n := M.n
    nd := M.nd
    calm := M.calm
    hu := M.hu
    own := PassesOwn.never
    bi := M.bi
    con := M.con
    fn := M.fn
    pass := fun _ _ _ _ _ _ _ h => (noCX h).elim
    kd := hk
    xt := M.xt
    rs := fun c hc _ y k p1 p2 p3 p4 hg => ⟨fun pins s σ H D I h => by
      obtain ⟨C, hC⟩ := (M.xt.kl c hc).2
      exact (h C hC).elim⟩ }
theorem Post.quiet {K : PySem.W.Frag} {mg : Str → Option Value} {α β γ ε : Type} {R : Mm → Hp → α → β → Prop} {R2 : Mm → Hp → γ → ε → Prop} {m : Mm} {H : Hp} {x : M α} {S : Sto} {f : α → M γ} {Q : ε → Hp → Prop} (h : Post K mg E R2 m H ((Mp.quiet x S).bind f) Q) :
    Post K mg E0 R m H (x S) fun v H1 => ∃ m1 d S1, Ext m H m1 H1 ∧ R m1 H1 d v ∧ HR K m1 H1 S1 ∧ Post K mg E R2 m1 H1 (f d S1) Q := by
  unfold Mp.quiet at h
  cases e : x S with
  | bad => rw [e] at h; exact h
  | exc c S' => rw [e] at h; exact (show False from h).elim
  | ok d S' =>
    rw [e] at h
    exact fun v m' H' a b c => ⟨m', d, S', a, b, c, Post.pre h a⟩
theorem PG.mono {X : Cx} {e : Expr} {t t' : TG} (h : PG X e t) (k : ∀ v σ H Q, t' v σ H Q → t v σ H Q) : PG X e t' := ⟨fun pins s σ H v u Q I r q => h.run pins s σ H v u Q I r (k _ _ _ _ q)⟩
theorem tgOf_sl (l : List Nat) : (tgOf l).sl = l := by
  match l with
  | [] => rfl
  | [i] => rfl
  | _ :: _ :: _ => rfl
theorem lc_ok {p : List D × Chk} {J : It} {g : Tg} {tg : TG} {c : Env → M Bool} {f : Env → M D} {tt : TT} {te : TE} {K : PySem.W.Frag} {mg : Str → Option Value} {m : Mm} {H1 : Hp} {S1 : Sto} {δ : Env} {σ : L2.St} {vs : List Nat} {Q : V → Hp → Prop} {Da : Addr}
    (hg : ∀ v σ H Q, tG K g v σ H Q → tg v σ H Q) (ht : ∀ σ H Q, tR K mg E0 RB c σ H Q → tt σ H Q) (he : ∀ σ H Q, tR K mg E0 (VR K) f σ H Q → te σ H Q) (hsl : ∀ i ∈ g.sl, i ∈ vs)
    (W : Wlk K m H1 p J) (sr : SR K m H1 δ σ) (hr : HR K m H1 S1) (nD : H1 Da = none)
    (q : Post K mg E (VR K) m H1 (lcL p.2 S1.length vs g (fun δ' => Mp.quiet (c δ')) (fun δ' => Mp.quiet (f δ')) p.1 δ (S1 ++ [.lst []])) Q) :
    ∃ W : Nat → Nat → Hp → Prop, (∃ m, W 0 m (upd H1 Da (.lst []))) ∧ ∀ i m H, W i m H →
      (J.stop i H ∧ Q (.ref Da) H) ∨ (J.go i H ∧ ∃ Nx : Hp → Prop, (∀ H', Nx H' → ∃ m', m' < m ∧ W (i + 1) m' H') ∧ ∀ x H', J.yld i H x H' → tg x (L2.wipe σ vs) H' fun σ2 H2 => L2.wipe σ2 vs = L2.wipe σ vs ∧ tt σ2 H2 fun b H3 =>
        if b = true then te σ2 H3 fun y H4 => ∃ acc, H4 Da = some (.lst acc) ∧ acc.length < sizeLine ∧ Nx (upd H4 Da (.lst (acc ++ [y]))) else Nx H3) := by
  have x0 : ∀ {m' : Mm} {H' : Hp}, Ext m H1 m' H' → m'[S1.length]? = some Da → ∀ {m2 : Mm} {H2 : Hp}, Ext m' H' m2 H2 → m2[S1.length]? = some Da := fun _ h _ _ e => e.at h
  let Wi : Nat → Nat → Hp → Prop := fun i n H' => n = p.1.length - i ∧ i ≤ p.1.length ∧ ∃ m' S', Ext m H1 m' H' ∧ HR K m' H' S' ∧ m'[S1.length]? = some Da ∧
    Post K mg E (VR K) m' H' (lcL p.2 S1.length vs g (fun δ' => Mp.quiet (c δ')) (fun δ' => Mp.quiet (f δ')) (p.1.drop i) δ S') Q
  obtain ⟨e1, hr2⟩ := hr.push (u := .lst []) (o := .lst []) nD ⟨[], rfl, rfl⟩
  have at0 : (m ++ [Da])[S1.length]? = some Da := by rw [← hr.len]; simp
  refine ⟨Wi, ⟨p.1.length, rfl, Nat.zero_le _, m ++ [Da], S1 ++ [.lst []], e1, hr2, at0, Post.pre q e1⟩, ?_⟩
  rintro i n H' ⟨rfl, hi, m', S', e', hr', hat, q'⟩
  by_cases hlt : i < p.1.length
  · right
    rw [List.drop_eq_getElem_cons hlt] at q'
    rw [lcL] at q'
    dsimp only at q'
    by_cases cc : okC p.2 S' = true
    · rw [if_pos cc] at q'
      cases e2 : g.put p.1[i] (wipeD δ vs) with
      | none => rw [e2] at q'; exact (show False from q').elim
      | some δ1 =>
        rw [e2] at q'
        refine ⟨W.go i m' H' S' hlt e' hr' cc, fun H2 => ∃ n', n' < p.1.length - i ∧ Wi (i + 1) n' H2, fun _ h => h, fun x H2 y => ?_⟩
        obtain ⟨d, d1, e3, hr2, r2⟩ := W.yld i m' H' S' x H2 hlt e' hr' cc y
        rw [List.getElem?_eq_getElem hlt] at d1
        cases d1
        refine hg _ _ _ _ ⟨m', wipeD δ vs, S', _, δ1, ((sr.mono e').mono e3).wipe vs, hr2, r2, e2, fun σ3 sr3 off => ⟨wipe_off off hsl, ht _ _ _ ?_⟩⟩
        refine ⟨m', δ1, S', sr3, hr2, (Post.quiet (R := RB) (Post.pre q' e3)).imp ?_⟩
        rintro b H3 ⟨m3, b', S3, e4, r3, hr3, p3⟩
        have eb : b' = b := r3
        subst eb
        cases b' with
        | false =>
          exact ⟨p.1.length - (i + 1), by omega, rfl, hlt, m3, S3, (e'.trans e3).trans e4, hr3, (e3.trans e4).at hat, p3⟩
        | true =>
          refine he _ _ _ ⟨m3, δ1, S3, sr3.mono e4, hr3, (Post.quiet (R := VR K) p3).imp ?_⟩
          rintro y H4 ⟨m4, dy, S4, e5, r4, hr4, p4⟩
          have hat4 : m4[S1.length]? = some Da := ((e3.trans e4).trans e5).at hat
          cases ea : S4[S1.length]? with
          | none => rw [ea] at p4; exact (show False from p4).elim
          | some o =>
            rw [ea] at p4
            cases o <;> first | exact (show False from p4).elim | skip
            rename_i acc
            obtain ⟨u, h1, us, rfl, h2⟩ := hr4.ob _ _ _ hat4 ea
            dsimp only at p4
            by_cases hl : acc.length < sz
            · rw [if_pos hl] at p4
              obtain ⟨e6, hr6⟩ := hr4.write (o' := .lst (acc ++ [dy])) (u := .lst (us ++ [y])) hat4 h1 (fun _ z => by cases z) ⟨_, rfl, h2.app ⟨y, [], rfl, r4, rfl⟩⟩
              exact ⟨us, h1, by rw [h2.len]; exact hl, p.1.length - (i + 1), by omega, rfl, hlt, m4, _, (((e'.trans e3).trans e4).trans e5).trans e6, hr6, hat4, Post.pre p4 e6⟩
            · rw [if_neg hl] at p4
              exact (show False from p4).elim
    · rw [if_neg cc] at q'
      exact (show False from q').elim
  · left
    have e2 : p.1.drop i = [] := List.drop_eq_nil_of_le (by omega)
    rw [e2, lcL] at q'
    dsimp only at q'
    by_cases cc : okC p.2 S' = true
    · rw [if_pos cc] at q'
      have e3 : i = p.1.length := by omega
      refine ⟨?_, Post.ok (d := D.loc S1.length) q' ⟨Da, rfl, hat⟩ hr'⟩
      rw [e3]
      exact W.stop m' H' S' e' hr' cc
    · rw [if_neg cc] at q'
      exact (show False from q').elim
theorem s_comp {own : List (Str × Nat)} {it : Ie} {tg : List Nat} {t e : Ie} {ex : Expr} (Oi : OkI G B it) (Ot : OkI G B t) (Oe : OkI G B e) (M : MC G B X E) (Z : ScR sc X) (h : chkE B sc (.comp own it tg t e) ex = true) :
    PE X ex (tR X.K X.mg E (VR X.K) (evE G (.comp own it tg t e))) := by
  unfold chkE at h
  split at h
  case h_2 => cases h
  rename_i elt tgx iter ifs scope pos
  obtain ⟨h, h6⟩ := and2 h
  obtain ⟨h, h5⟩ := and2 h
  obtain ⟨h, h4⟩ := and2 h
  obtain ⟨h, h3⟩ := and2 h
  obtain ⟨h1, h2⟩ := and2 h
  have bk := blkOk_by h1
  have bk2 : BlkOk X.N X.env.scope scope own := ⟨bk.kind, bk.uniq, by rw [M.n]; exact bk.ix, fun y hy e => Z.fr _ (bk.free y hy e), by rw [M.n]; exact bk.own⟩
  obtain ⟨h2, hz⟩ := and2 h2
  obtain ⟨i1, i2⟩ := Oi.i X E sc tgx iter M Z h2 (fun z => by rw [z] at hz; exact hz)
  have hsl : ∀ i ∈ (tgOf tg).sl, i ∈ own.map (·.2) := by
    rw [tgOf_sl]
    intro i hi
    exact of_decide_eq_true (List.all_eq_true.mp h4 i hi)
  have g1 : ∀ (s : Shared) (H : Hp) (C : Addr) (cl : List (Str × Addr)) (fp : List Addr), PG (X.blk s H scope (compEnvC scope cl C X.env) fp) tgx (tG X.K (tgOf tg)) := fun s H C cl fp => by
    obtain ⟨tr, q1, q2⟩ := tg_ok (X := X.blk s H scope (compEnvC scope cl C X.env) fp) (M.blk bk.kind) ScR.blk h3
    exact PG.mono q1 q2
  have htx : ∃ tt : TT, (∀ (s : Shared) (H : Hp) (C : Addr) (cl : List (Str × Addr)) (fp : List Addr), PTs (X.blk s H scope (compEnvC scope cl C X.env) fp) ifs tt) ∧ ∀ σ H Q, tR X.K X.mg E0 RB (evT G t) σ H Q → tt σ H Q := by
    split at h5
    · split at h5
      · refine ⟨_, fun s H C cl fp => pts_nil, fun σ H Q q => ?_⟩
        obtain ⟨m, δ, S, sr, hr, q⟩ := q
        rw [evT] at q
        exact Post.ok (v := true) q rfl hr
      · cases h5
    · exact ⟨_, fun s H C cl fp => pts_one (Ot.t (X.blk s H scope (compEnvC scope cl C X.env) fp) E0 scope _ (M.blk bk.kind) ScR.blk h5), fun σ H Q q => q⟩
    · cases h5
  obtain ⟨tt, t1, t2⟩ := htx
  refine PE.mono (pe_lc M.calm M.nd i1 bk2 g1 t1 (te := tR X.K X.mg E0 (VR X.K) (evE G e)) (fun s H C cl fp => Oe.e (X.blk s H scope (compEnvC scope cl C X.env) fp) E0 scope _ (M.blk bk.kind) ScR.blk h6) i2) fun σ H Q q => ?_
  obtain ⟨m, δ, S, sr, hr, q⟩ := q
  rw [evE] at q
  refine (tR_next (R := Wlk X.K) (c := evI G it) sr hr q).imp ?_
  rintro J H1 ⟨m1, S1, p, e1, hr1, W, p1⟩
  intro Da nD
  exact lc_ok (fun _ _ _ _ h => h) t2 (fun _ _ _ h => h) hsl W (sr.mono e1) hr1 nD p1
end
end Mp
namespace Mp
open PySem L2
section
variable {G : Gt} {B : Bk} {X : Cx} {E : XK} {sc : Scope}
theorem few2 {e f : Expr} {env : PySem.Env} {pos : Pos} (h : plainX e = true) (h' : plainX f = true) : ((backTo pos (starEach [e, f] env)).all (fun x => !x.1) && (backToKw pos (keywordEach [] env)).all (fun x => x.1.isSome)
      && decide ((e :: [f]).length + ([] : List Keyword).length + (if ([] : List Keyword).isEmpty then 0 else 1) < 30)) = true := by
  rw [star_cons h, star_cons h']
  rfl
theorem isDic_of {n : Nat} {S S' : Sto} {u : Unit} (h : isDic (.loc n) S = .ok u S') : S' = S ∧ ((∃ kvs, (S[n]?).map rdOb = some (.dK kvs)) ∨ ∃ kvs, (S[n]?).map rdOb = some (.dT kvs)) := by
  cases e : (S[n]?).map rdOb with
  | none => simp only [isDic, e] at h; cases h
  | some o =>
    cases o with
    | dK kvs => simp only [isDic, e] at h; cases h; exact ⟨rfl, .inl ⟨kvs, rfl⟩⟩
    | dT kvs => simp only [isDic, e] at h; cases h; exact ⟨rfl, .inr ⟨kvs, rfl⟩⟩
    | lst ds => simp only [isDic, e] at h; cases h
    | lk o => simp only [isDic, e] at h; cases h
theorem isD_of {K : PySem.W.Frag} {m : Mm} {H : Hp} {S : Sto} {n : Nat} {a : Addr} (hr : HR K m H S) (h : m[n]? = some a) (e : (∃ kvs, (S[n]?).map rdOb = some (.dK kvs)) ∨ ∃ kvs, (S[n]?).map rdOb = some (.dT kvs)) : IsD H a := by
  rcases e with ⟨kvs, e⟩ | ⟨kvs, e⟩
  · obtain ⟨u, h1, us, rfl, _⟩ := hr.rd h e (fun q z => by cases z)
    exact .inl ⟨us, h1⟩
  · obtain ⟨u, h1, us, rfl, _⟩ := hr.rd h e (fun q z => by cases z)
    exact .inr ⟨us, h1⟩
theorem isDic_loc {x : D} {S S' : Sto} {u : Unit} (h : isDic x S = .ok u S') : ∃ n, x = .loc n := by
  cases x <;> first | exact ⟨_, rfl⟩ | cases h
theorem get_r {m : Mm} {H : Hp} {S : Sto} {n : Nat} {a : Addr} {k x : D} {y z : V} {Q : VK} (hr : HR X.K m H S) (hn : m[n]? = some a) (hk : VR X.K m H k y) (hx : VR X.K m H x z) (p : Post X.K X.mg E (VR X.K) m H (getF (.loc n) k x S) Q) :
    ∃ o, DGet H a y o ∧ Q (o.getD z) H := by
  cases e : (S[n]?).map rdOb with
  | none => simp only [getF, e] at p; exact (show False from p).elim
  | some o =>
    obtain ⟨g1, g2⟩ := hr.dget hn e hk
    cases o with
    | lst ds => simp only [getF, e] at p; exact (show False from p).elim
    | lk o => simp only [getF, e] at p; exact (show False from p).elim
    | dT kvs =>
      cases e2 : keyT k with
      | none => simp only [getF, e, e2] at p; exact (show False from p).elim
      | some ks =>
        obtain ⟨r, d1, d2⟩ := g1 kvs ks rfl e2
        simp only [getF, e, e2] at p
        refine ⟨r, d1, ?_⟩
        rcases d2 with ⟨d2, rfl⟩ | ⟨d, v, d2, rfl, d3⟩
        · rw [d2] at p; exact Post.ok p hx hr
        · rw [d2] at p; exact Post.ok p d3 hr
    | dK kvs =>
      cases e2 : key1 k with
      | none => simp only [getF, e, e2] at p; exact (show False from p).elim
      | some ks =>
        obtain ⟨r, d1, d2⟩ := g2 kvs ks rfl e2
        simp only [getF, e, e2] at p
        refine ⟨r, d1, ?_⟩
        rcases d2 with ⟨d2, rfl⟩ | ⟨d, v, d2, rfl, d3⟩
        · rw [d2] at p; exact Post.ok p hx hr
        · rw [d2] at p; exact Post.ok p d3 hr
theorem s_get2 {d k x : Ie} {ex : Expr} (Od : OkI G B d) (Ok : OkI G B k) (Ox : OkI G B x) (M : MC G B X E) (Z : ScR sc X) (h : chkE B sc (.get2 d k x) ex = true) : PE X ex (tR X.K X.mg E (VR X.K) (evE G (.get2 d k x))) := by
  unfold chkE at h
  split at h
  case h_2 => cases h
  rename_i o m ap y z p
  obtain ⟨h, h8⟩ := and2 h
  obtain ⟨h, h7⟩ := and2 h
  obtain ⟨h, h6⟩ := and2 h
  obtain ⟨h, h5⟩ := and2 h
  obtain ⟨h, h4⟩ := and2 h
  obtain ⟨h, h3⟩ := and2 h
  obtain ⟨h1, h2⟩ := and2 h
  have e := of_decide_eq_true h1
  subst e
  have hu := M.hu
  refine PE.mono (pe_dget2 (by omega) (Od.e X E sc _ M Z h6) (Ok.e X E sc _ M Z h7) (Ox.e X E sc _ M Z h8) ⟨attr_of_plain h2, few2 h3 h4, h5, by rw [star_cons h3, star_cons h4]; rfl⟩) fun σ H Q q => ?_
  obtain ⟨m, δ, S, sr, hr, q⟩ := q
  rw [evE] at q
  refine (tR_next (R := VR X.K) (c := evE G d) sr hr q).imp ?_
  rintro v H1 ⟨m1, S1, d1, e1, hr1, r1, p1⟩
  cases hd : isDic d1 S1 with
  | bad => simp only [mb, hd] at p1; exact (show False from p1).elim
  | exc c S' => cases d1 <;> first | (cases hd; done) | (simp only [isDic] at hd; split at hd <;> cases hd)
  | ok u S' =>
    obtain ⟨n, rfl⟩ := isDic_loc hd
    obtain ⟨rfl, hD⟩ := isDic_of hd
    obtain ⟨a, rfl, ha⟩ := r1.loc
    have p1 : Post X.K X.mg E (VR X.K) m1 H1 ((isDic (.loc n) S').bind fun _ => mb (evE G k δ) fun y => mb (evE G x δ) fun z => getF (.loc n) y z) Q := p1
    rw [hd] at p1
    refine ⟨a, rfl, isD_of hr1 ha hD, ?_⟩
    refine (tR_next (R := VR X.K) (c := evE G k) (sr.mono e1) hr1 p1).imp ?_
    rintro w H2 ⟨m2, S2, d2, e2, hr2, r2, p2⟩
    refine (tR_next (R := VR X.K) (c := evE G x) ((sr.mono e1).mono e2) hr2 p2).imp ?_
    rintro w2 H3 ⟨m3, S3, d3, e3, hr3, r3, p3⟩
    exact get_r hr3 (e3.at (e2.at ha)) (VR.mono e3 _ _ r2) r3 p3
theorem pop_r {m : Mm} {H : Hp} {S : Sto} {n : Nat} {a : Addr} {k : D} {y : V} {Q : VK} (hr : HR X.K m H S) (hn : m[n]? = some a) (hk : VR X.K m H k y) (p : Post X.K X.mg E (VR X.K) m H (popF (.loc n) k S) Q) :
    rPopX (.ref a) [y] H Q := by
  cases e : S[n]? with
  | none => simp only [popF, e] at p; exact (show False from p).elim
  | some o =>
    cases o with
    | lst ds => simp only [popF, e] at p; exact (show False from p).elim
    | lk o => simp only [popF, e] at p; exact (show False from p).elim
    | dT kvs =>
      cases e2 : keyT k with
      | none => simp only [popF, e, e2] at p; exact (show False from p).elim
      | some ks =>
        cases e3 : getK kvs ks with
        | none => simp only [popF, e, e2, e3] at p; exact (show False from p).elim
        | some d =>
          simp only [popF, e, e2, e3] at p
          obtain ⟨u, h1, us, rfl, h2⟩ := hr.ob n a _ hn e
          obtain ⟨b, rfl, hb⟩ := keyT_v hk e2
          rcases h2.get (k := ks) with ⟨z, _⟩ | ⟨d', v, g1, g2, g3⟩
          · rw [e3] at z; cases z
          · rw [e3] at g1
            cases g1
            obtain ⟨x1, hr2⟩ := hr.write (o' := .dT (delK kvs ks)) (u := .dT (dropK us ks)) hn h1 (fun _ z => by cases z) ⟨_, rfl, h2.del⟩
            exact .inr ⟨a, us, ks, b, v, rfl, rfl, h1, hb, g2, Post.ok (Post.pre p x1) (VR.mono x1 _ _ g3) hr2⟩
    | dK kvs =>
      cases e2 : key1 k with
      | none => simp only [popF, e, e2] at p; exact (show False from p).elim
      | some ks =>
        cases e3 : getK kvs ks with
        | none => simp only [popF, e, e2, e3] at p; exact (show False from p).elim
        | some d =>
          simp only [popF, e, e2, e3] at p
          obtain ⟨u, h1, us, rfl, h2⟩ := hr.ob n a _ hn e
          have ey := key1_v hk e2
          subst ey
          rcases h2.get (k := ks) with ⟨z, _⟩ | ⟨d', v, g1, g2, g3⟩
          · rw [e3] at z; cases z
          · rw [e3] at g1
            cases g1
            obtain ⟨x1, hr2⟩ := hr.write (o' := .dK (delK kvs ks)) (u := .dK (dropK us ks)) hn h1 (fun _ z => by cases z) ⟨_, rfl, h2.del⟩
            exact .inl ⟨a, us, ks, v, rfl, rfl, h1, g2, Post.ok (Post.pre p x1) (VR.mono x1 _ _ g3) hr2⟩
theorem isDcu_of {x : D} {S S' : Sto} {u : Unit} (h : isDcu x S = .ok u S') : S' = S ∧ ∃ n, x = .loc n ∧ ((∃ kvs, S[n]? = some (.dK kvs)) ∨ ∃ kvs, S[n]? = some (.dT kvs)) := by
  cases x <;> first | (cases h; done) | skip
  rename_i n
  cases e : S[n]? with
  | none => simp only [isDcu, e] at h; cases h
  | some o =>
    cases o with
    | dK kvs => simp only [isDcu, e] at h; cases h; exact ⟨rfl, n, rfl, .inl ⟨kvs, e⟩⟩
    | dT kvs => simp only [isDcu, e] at h; cases h; exact ⟨rfl, n, rfl, .inr ⟨kvs, e⟩⟩
    | lst ds => simp only [isDcu, e] at h; cases h
    | lk o => simp only [isDcu, e] at h; cases h
theorem s_popK {d k : Ie} {ex : Expr} (Od : OkI G B d) (Ok : OkI G B k) (M : MC G B X E) (Z : ScR sc X) (h : chkE B sc (.popK d k) ex = true) : PE X ex (tR X.K X.mg E (VR X.K) (evE G (.popK d k))) := by
  unfold chkE at h
  split at h
  case h_2 => cases h
  rename_i o m ap y p
  obtain ⟨h, h6⟩ := and2 h
  obtain ⟨h, h5⟩ := and2 h
  obtain ⟨h, h4⟩ := and2 h
  obtain ⟨h, h3⟩ := and2 h
  obtain ⟨h1, h2⟩ := and2 h
  have e := of_decide_eq_true h1
  subst e
  have hu := M.hu
  refine PE.mono (pe_bm PySem.F.plainAttrs_dict PySem.F.slot_dict_pop PySem.F.type_dict_pop (mt_popX (by omega)) (Od.e X E sc _ M Z h5) (pa_cons (Ok.e X E sc _ M Z h6) pa_nil (star_cons h3)) (attr_of_plain h2) (few1 h3) h4 (star_cons h3)) fun σ H Q q => ?_
  obtain ⟨m, δ, S, sr, hr, q⟩ := q
  rw [evE] at q
  refine (tR_next (R := VR X.K) (c := evE G d) sr hr q).imp ?_
  rintro v H1 ⟨m1, S1, d1, e1, hr1, r1, p1⟩
  have p1 : Post X.K X.mg E (VR X.K) m1 H1 ((isDcu d1 S1).bind fun _ => mb (evE G k δ) fun y => popF d1 y) Q := p1
  cases hd : isDcu d1 S1 with
  | bad => rw [hd] at p1; exact (show False from p1).elim
  | exc c S' => cases d1 <;> first | (cases hd; done) | (simp only [isDcu] at hd; split at hd <;> cases hd)
  | ok u S' =>
    obtain ⟨rfl, n, rfl, hD⟩ := isDcu_of hd
    obtain ⟨a, rfl, ha⟩ := r1.loc
    rw [hd] at p1
    refine ⟨.inr (.inr (.inl ⟨rfl, ?_⟩)), ?_⟩
    · rcases hD with ⟨kvs, e⟩ | ⟨kvs, e⟩
      · obtain ⟨u, h1, us, rfl, _⟩ := hr1.ob n a _ ha e
        exact .inl ⟨us, h1⟩
      · obtain ⟨u, h1, us, rfl, _⟩ := hr1.ob n a _ ha e
        exact .inr ⟨us, h1⟩
    · refine (tR_next (R := VR X.K) (c := evE G k) (sr.mono e1) hr1 p1).imp ?_
      rintro w H2 ⟨m2, S2, d2, e2, hr2, r2, p2⟩
      exact pop_r hr2 (e2.at ha) r2 p2
theorem VRs.rev {K : PySem.W.Frag} {m : Mm} {H : Hp} : ∀ {ds : List D} {vs : List V}, VRs K m H ds vs → VRs K m H ds.reverse vs.reverse
  | [], _, h => by rw [show _ = [] from h]; rfl
  | d :: ds, vs, h => by
    obtain ⟨v, ws, rfl, h2, h3⟩ := h
    rw [List.reverse_cons, List.reverse_cons]
    exact (VRs.rev h3).app ⟨v, [], rfl, h2, rfl⟩
theorem s_rev {a : Ie} {ex : Expr} (Oa : OkI G B a) (M : MC G B X E) (Z : ScR sc X) (h : chkE B sc (.rev a) ex = true) : PE X ex (tR X.K X.mg E (VR X.K) (evE G (.rev a))) := by
  unfold chkE at h
  split at h
  case h_2 => cases h
  refine PE.mono (pe_rev (Oa.e X E sc _ M Z h)) fun σ H Q q => ?_
  obtain ⟨m, δ, S, sr, hr, q⟩ := q
  rw [evE] at q
  refine (tR_next (R := VR X.K) (c := evE G a) sr hr q).imp ?_
  rintro v H1 ⟨m1, S1, d1, e1, hr1, r1, p1⟩
  have tp : ∀ {ad : Addr} {vs : List V} {ds : List D}, VRs X.K m1 H1 ds vs → Post X.K X.mg E (VR X.K) m1 H1 (.ok (.tup ds.reverse) S1) Q → ∀ p, H1 p = none → Q (.ref p) (upd H1 p (.tup vs.reverse)) := fun {ad vs ds} r pp p n => by
    have x1 : Ext m1 H1 m1 (upd H1 p (.tup vs.reverse)) := Ext.new n
    exact Post.ok (Post.pre pp x1) ⟨p, _, rfl, upd_same, VRs.mono x1 _ _ r.rev⟩ (hr1.new n)
  cases d1 <;> first | exact (show False from p1).elim | skip
  case tup ds =>
    obtain ⟨ad, vs, rfl, h2, h3⟩ := r1.tup
    exact ⟨ad, vs, rfl, .inr ⟨.inl (.inl h2), tp (ad := ad) h3 p1⟩⟩
  case wtup ds =>
    obtain ⟨ad, vs, rfl, h2, h3⟩ := r1.wtup
    exact ⟨ad, vs, rfl, .inr ⟨h2.sq, tp (ad := ad) h3 p1⟩⟩
  case loc n =>
    obtain ⟨ad, rfl, ha⟩ := r1.loc
    cases e : (S1[n]?).map rdOb with
    | none => simp only [revF, e] at p1; exact (show False from p1).elim
    | some o =>
      cases o <;> first | (simp only [revF, e] at p1; exact (show False from p1).elim) | skip
      rename_i ds
      obtain ⟨vs, h2, h3⟩ := hr1.rdl ha e
      simp only [revF, e] at p1
      refine ⟨ad, vs, rfl, .inl ⟨h2, fun p n => ?_⟩⟩
      obtain ⟨x1, hr2⟩ := hr1.push (u := .lst vs.reverse) (o := .lst ds.reverse) n ⟨_, rfl, h3.rev⟩
      have p2 : Post X.K X.mg E (VR X.K) m1 H1 (.ok (.loc S1.length) (S1 ++ [.lst ds.reverse])) Q := p1
      refine Post.ok (Post.pre p2 x1) ⟨p, rfl, ?_⟩ hr2
      rw [← hr1.len]
      simp
end
end Mp
namespace Mp
open PySem L2
section
variable {G : Gt} {B : Bk} {X : Cx} {E : XK} {sc : Scope}
/-! ### a comprehension over a dict; max with default -/
theorem s_compD {own : List (Str × Nat)} {i : Nat} {tg : List Nat} {t e : Ie} {ex : Expr} (Ov : OkI G B (.var i)) (Ot : OkI G B t) (Oe : OkI G B e) (M : MC G B X E) (Z : ScR sc X) (h : chkE B sc (.compD own i tg t e) ex = true) :
    PE X ex (tR X.K X.mg E (VR X.K) (evE G (.compD own i tg t e))) := by
  unfold chkE at h
  split at h
  case h_2 => cases h
  rename_i elt tgx x px ifs scope pos
  obtain ⟨h, h6⟩ := and2 h
  obtain ⟨h, h5⟩ := and2 h
  obtain ⟨h, h4⟩ := and2 h
  obtain ⟨h, h3⟩ := and2 h
  obtain ⟨h1, h2⟩ := and2 h
  have bk := blkOk_by h1
  have bk2 : BlkOk X.N X.env.scope scope own := ⟨bk.kind, bk.uniq, by rw [M.n]; exact bk.ix, fun y hy e => Z.fr _ (bk.free y hy e), by rw [M.n]; exact bk.own⟩
  have ev : chkE B sc (.var i) (.Name x px) = true := by unfold chkE; exact h2
  have hsl : ∀ i ∈ (tgOf tg).sl, i ∈ own.map (·.2) := by
    rw [tgOf_sl]
    intro i hi
    exact of_decide_eq_true (List.all_eq_true.mp h4 i hi)
  have g1 : ∀ (s : Shared) (H : Hp) (C : Addr) (cl : List (Str × Addr)) (fp : List Addr), PG (X.blk s H scope (compEnvC scope cl C X.env) fp) tgx (tG X.K (tgOf tg)) := fun s H C cl fp => by
    obtain ⟨tr, q1, q2⟩ := tg_ok (X := X.blk s H scope (compEnvC scope cl C X.env) fp) (M.blk bk.kind) ScR.blk h3
    exact PG.mono q1 q2
  have htx : ∃ tt : TT, (∀ (s : Shared) (H : Hp) (C : Addr) (cl : List (Str × Addr)) (fp : List Addr), PTs (X.blk s H scope (compEnvC scope cl C X.env) fp) ifs tt) ∧ ∀ σ H Q, tR X.K X.mg E0 RB (evT G t) σ H Q → tt σ H Q := by
    split at h5
    · split at h5
      · refine ⟨_, fun s H C cl fp => pts_nil, fun σ H Q q => ?_⟩
        obtain ⟨m, δ, S, sr, hr, q⟩ := q
        rw [evT] at q
        exact Post.ok (v := true) q rfl hr
      · cases h5
    · exact ⟨_, fun s H C cl fp => pts_one (Ot.t (X.blk s H scope (compEnvC scope cl C X.env) fp) E0 scope _ (M.blk bk.kind) ScR.blk h5), fun σ H Q q => q⟩
    · cases h5
  obtain ⟨tt, t1, t2⟩ := htx
  refine PE.mono (pe_lock (pe_lc M.calm M.nd (pi_keys (Ov.e X E sc _ M Z ev)) bk2 g1 t1 (te := tR X.K X.mg E0 (VR X.K) (evE G e)) (fun s H C cl fp => Oe.e (X.blk s H scope (compEnvC scope cl C X.env) fp) E0 scope _ (M.blk bk.kind) ScR.blk h6) (folded_no rfl))) fun σ H Q q => ?_
  obtain ⟨m, δ, S, sr, hr, q⟩ := q
  rw [evE] at q
  dsimp only at q
  cases e1 : δ[i]? with
  | none => rw [e1] at q; exact (show False from q).elim
  | some d0 =>
    rw [e1] at q
    cases d0 with
    | none => exact (show False from q).elim
    | some d0 =>
      cases d0 with
      | loc n =>
        dsimp only at q
        cases e2 : S[n]? with
        | none => rw [e2] at q; exact (show False from q).elim
        | some o =>
          rw [e2] at q
          dsimp only at q
          cases e3 : dkeys o with
          | none => rw [e3] at q; exact (show False from q).elim
          | some ks =>
            rw [e3] at q
            dsimp only at q
            obtain ⟨v0, _, a, rfl, hn⟩ := sr.get i _ e1
            obtain ⟨u, ha, hu, hl⟩ := hr.lockD hn e2 e3
            refine ⟨a, u, ha, (by cases u <;> first | exact trivial | exact hu.elim), fun od => ?_⟩
            obtain ⟨x0, hr0, W⟩ := hl od
            refine ⟨m, δ, S.set n (.lk o), sr.mono x0, hr0, ?_⟩
            rw [evE, e1]
            intro v m' H' e r hr'
            obtain ⟨a2, rfl, hn2⟩ := r.loc
            have ea : a2 = a := Option.some.inj (hn2.symm.trans (e.at hn))
            subst ea
            have hf : H' a2 = some (.frz od u) := e.frz _ _ _ upd_same
            have q2 := Post.unlk (R := VR X.K) (fun {m H H' d v} e0 r => VR.mono0 e0 _ _ r) q hn ha hu e
            rcases W with ⟨us, rfl, W⟩ | ⟨us, rfl, W⟩
            · exact ⟨a2, od, rfl, .inr ⟨us, hf, fun Da nD => lc_ok (p := (ks, [(n, .lk o)])) (fun _ _ _ _ h => h) t2 (fun _ _ _ h => h) hsl (W m' H' _ hf) ((sr.mono x0).mono e) hr' nD q2⟩⟩
            · exact ⟨a2, od, rfl, .inl ⟨us, hf, fun Da nD => lc_ok (p := (ks, [(n, .lk o)])) (fun _ _ _ _ h => h) t2 (fun _ _ _ h => h) hsl (W m' H' _ hf) ((sr.mono x0).mono e) hr' nD q2⟩⟩
      | _ => exact (show False from q).elim
theorem s_maxd {a d : Ie} {ex : Expr} (Oa : OkI G B a) (Od : OkI G B d) (M : MC G B X E) (Z : ScR sc X) (h : chkE B sc (.maxd a d) ex = true) : PE X ex (tR X.K X.mg E (VR X.K) (evE G (.maxd a d))) := by
  unfold chkE at h
  split at h
  case h_2 => cases h
  rename_i g pg x k y kpos pos
  obtain ⟨h, h6⟩ := and2 h
  obtain ⟨h, h5⟩ := and2 h
  obtain ⟨h, h4⟩ := and2 h
  obtain ⟨h, h3⟩ := and2 h
  obtain ⟨h1, h2⟩ := and2 h
  have e := of_decide_eq_true h1
  subst e
  have e := of_decide_eq_true h3
  subst e
  have hm := M.bi ("max" : Str) (by decide)
  refine PE.mono (pe_callBK (crk_max M.calm) (Z.gl _ h2) hm (show bootBuiltins ("max" : Str) = some (.builtin "max") by decide +kernel) (pa_cons (Oa.e X E sc _ M Z h5) pa_nil (star_cons h4)) (pk_cons (Od.e X E sc _ M Z h6) pk_nil) (he := by rw [star_cons h4]; rfl) (hpl := by rw [star_cons h4]; rfl)) fun σ H Q q => ?_
  obtain ⟨m, δ, S, sr, hr, q⟩ := q
  rw [evE] at q
  refine (tR_next (R := VR X.K) (c := evE G a) sr hr q).imp ?_
  rintro v H1 ⟨m1, S1, d1, e1, hr1, r1, p1⟩
  refine (tR_next (R := VR X.K) (c := evE G d) (sr.mono e1) hr1 p1).imp ?_
  rintro w H2 ⟨m2, S2, d2, e2, hr2, r2, p2⟩
  replace r1 := VR.mono e2 _ _ r1
  replace p2 : Post X.K X.mg E (VR X.K) m2 H2 (maxdF d1 d2 S2) Q := p2
  cases d1 <;> first | exact (show False from p2).elim | skip
  case loc n =>
    obtain ⟨a1, rfl, l1⟩ := r1.loc
    cases eo : (S2[n]?).map rdOb with
    | none =>
      simp only [maxdF, eo] at p2
      exact (show False from p2).elim
    | some o =>
      cases o with
      | lst ds =>
        obtain ⟨ws, h5, h6⟩ := hr2.rdl l1 eo
        cases e2 : dInts ds with
        | none =>
          simp only [maxdF, eo, e2] at p2
          exact (show False from p2).elim
        | some ns =>
          rw [ints_vs h6 e2] at h5
          cases ns with
          | nil =>
            simp only [maxdF, eo, e2] at p2
            exact ⟨a1, [], w, rfl, rfl, h5, fun _ => Post.ok p2 r2 hr2, fun m hm _ => by cases hm⟩
          | cons x r =>
            simp only [maxdF, eo, e2] at p2
            obtain ⟨k1, k2⟩ := maxL_ok r x
            refine ⟨a1, x :: r, w, rfl, rfl, h5, (fun z => by cases z), fun z hz hm => ?_⟩
            have e5 : z = maxL x r := by
              have q1 := k2 z hz
              have q2 := hm _ k1
              omega
            rw [e5]
            exact Post.ok (d := D.int (maxL x r)) p2 rfl hr2
      | _ =>
        simp only [maxdF, eo] at p2
        exact (show False from p2).elim
end
end Mp
namespace Mp
open PySem L2
def isBo : Expr → Bool
  | .BoolOp _ _ _ => true
  | _ => false
theorem tb {G : Gt} {B : Bk} {X : Cx} {E : XK} {sc : Scope} {ir : Ie} {es : Expr} (M : MC G B X E) (Z : ScR sc X) (w : ∀ (op : BoolOp) (vs : List Expr) (p : Pos), chkT B sc ir (.BoolOp op vs p) = true → PW X (.BoolOp op vs p) (tR X.K X.mg E RB (evT G ir)))
    (nb : isBo es = false → False) (h : chkT B sc ir es = true) : PT X es (tR X.K X.mg E RB (evT G ir)) := by
  cases es with
  | BoolOp op vs p => exact (w op vs p h).pt
  | _ => exact (nb rfl).elim
section
variable {G : Gt} {B : Bk}
def SubOk (G : Gt) (B : Bk) : Ie → Prop
  | .cmp _ c d => OkI G B c ∧ OkI G B d
  | .isin _ c d => OkI G B c ∧ OkI G B d
  | .chn _ _ c d e => OkI G B c ∧ OkI G B d ∧ OkI G B e
  | _ => True
theorem cons_ok {a b : Ie} (ha : OkI G B a) (hb : OkI G B b) (all : SubOk G B a) : OkI G B (.cons a b) := by
  refine ⟨fun X E sc es M Z h => (by unfold chkE at h; cases h), fun X E sc es M Z h => a_cons ha hb M Z h, fun X E sc es M Z h => o_cons ha M Z h, ?_, ?_, fun X E sc tg ex M Z h _ => (by unfold chkI at h; cases h)⟩
  · intro X E sc es M Z h
    cases b <;> first | (unfold chkT at h; cases a <;> (first | cases h | skip); done) | skip
    have gen : plainT es = true → chkE B sc a es = true → PT X es (tR X.K X.mg E RB (evT G (.cons a .nil))) := fun h1 h2 => by
      have := t_gen ha M Z h1 h2
      have e : evT G (.cons a .nil) = fun δ => mb (evE G a δ) truthy := by funext δ; rw [evT]
      rw [e]
      exact this
    have e : evT G (.cons a .nil) = fun δ => mb (evE G a δ) truthy := by funext δ; rw [evT]
    unfold chkT at h
    cases a with
    | cmp op c d =>
      obtain ⟨hc, hd⟩ := all
      rw [e]
      cases es <;> first | (cases h; done) | skip
      rename_i x ops ys p
      match ops, ys, h with
      | [o], [y], h => exact t_cmp hc hd M Z h
    | isin op c d =>
      obtain ⟨hc, hd⟩ := all
      rw [e]
      cases es <;> first | (cases h; done) | skip
      rename_i x ops ys p
      match ops, ys, h with
      | [o], [y], h => exact t_isin hc hd M Z h
    | chn op op' c d f =>
      obtain ⟨hc, hd, hf⟩ := all
      rw [e]
      cases es <;> first | (cases h; done) | skip
      rename_i x ops ys p
      match ops, ys, h with
      | [o, o'], [y, z], h => exact t_chn hc hd hf M Z h
    | _ =>
      obtain ⟨h1, h2⟩ := and2 h
      exact gen h1 h2
  · intro X E sc op vs p M Z h
    cases b <;> (unfold chkT at h; cases a <;> cases h)
theorem ov (i : Nat) : OkI G B (.var i) := ⟨(fun X E sc es M Z h => s_var M Z h),
    (fun X E sc es M Z h => by unfold chkA at h; cases h),
    (fun X E sc es M Z h => by unfold chkO at h; cases h),
    (fun X E sc es M Z h => by unfold chkT at h; cases h),
    (fun X E sc op vs p M Z h => by unfold chkT at h; cases h),
    (fun X E sc tg ex M Z h _ => by unfold chkI at h; cases h)⟩
theorem soundE0 : ∀ ir : Ie, OkI G B ir ∧ SubOk G B ir := by
  intro ir
  induction ir with
  | var i => exact ⟨⟨(fun X E sc es M Z h => s_var M Z h),
    (fun X E sc es M Z h => by unfold chkA at h; cases h),
    (fun X E sc es M Z h => by unfold chkO at h; cases h),
    (fun X E sc es M Z h => by unfold chkT at h; cases h),
    (fun X E sc op vs p M Z h => by unfold chkT at h; cases h),
    (fun X E sc tg ex M Z h _ => by unfold chkI at h; cases h)⟩, trivial⟩
  | con d => exact ⟨⟨(fun X E sc es M Z h => s_con M Z h),
    (fun X E sc es M Z h => by unfold chkA at h; cases h),
    (fun X E sc es M Z h => by unfold chkO at h; cases h),
    (fun X E sc es M Z h => by unfold chkT at h; cases h),
    (fun X E sc op vs p M Z h => by unfold chkT at h; cases h),
    (fun X E sc tg ex M Z h _ => by unfold chkI at h; cases h)⟩, trivial⟩
  | glob x => exact ⟨⟨(fun X E sc es M Z h => s_glob M Z h),
    (fun X E sc es M Z h => by unfold chkA at h; cases h),
    (fun X E sc es M Z h => by unfold chkO at h; cases h),
    (fun X E sc es M Z h => by unfold chkT at h; cases h),
    (fun X E sc op vs p M Z h => by unfold chkT at h; cases h),
    (fun X E sc tg ex M Z h _ => by unfold chkI at h; cases h)⟩, trivial⟩
  | tup a ha => exact ⟨⟨(fun X E sc es M Z h => s_tup ha.1 M Z h),
    (fun X E sc es M Z h => by unfold chkA at h; cases h),
    (fun X E sc es M Z h => by unfold chkO at h; cases h),
    (fun X E sc es M Z h => by unfold chkT at h; cases h),
    (fun X E sc op vs p M Z h => by unfold chkT at h; cases h),
    (fun X E sc tg ex M Z h _ => by unfold chkI at h; cases h)⟩, trivial⟩
  | lst a ha => exact ⟨⟨(fun X E sc es M Z h => s_lst ha.1 M Z h),
    (fun X E sc es M Z h => by unfold chkA at h; cases h),
    (fun X E sc es M Z h => by unfold chkO at h; cases h),
    (fun X E sc es M Z h => by unfold chkT at h; cases h),
    (fun X E sc op vs p M Z h => by unfold chkT at h; cases h),
    (fun X E sc tg ex M Z h _ => by unfold chkI at h; cases h)⟩, trivial⟩
  | newK => exact ⟨⟨(fun X E sc es M Z h => s_newK M Z h),
    (fun X E sc es M Z h => by unfold chkA at h; cases h),
    (fun X E sc es M Z h => by unfold chkO at h; cases h),
    (fun X E sc es M Z h => by unfold chkT at h; cases h),
    (fun X E sc op vs p M Z h => by unfold chkT at h; cases h),
    (fun X E sc tg ex M Z h _ => by unfold chkI at h; cases h)⟩, trivial⟩
  | newT => exact ⟨⟨(fun X E sc es M Z h => s_newT M Z h),
    (fun X E sc es M Z h => by unfold chkA at h; cases h),
    (fun X E sc es M Z h => by unfold chkO at h; cases h),
    (fun X E sc es M Z h => by unfold chkT at h; cases h),
    (fun X E sc op vs p M Z h => by unfold chkT at h; cases h),
    (fun X E sc tg ex M Z h _ => by unfold chkI at h; cases h)⟩, trivial⟩
  | bin op a b ha hb => exact ⟨⟨(fun X E sc es M Z h => s_bin ha.1 hb.1 M Z h),
    (fun X E sc es M Z h => by unfold chkA at h; cases h),
    (fun X E sc es M Z h => by unfold chkO at h; cases h),
    (fun X E sc es M Z h => by unfold chkT at h; cases h),
    (fun X E sc op vs p M Z h => by unfold chkT at h; cases h),
    (fun X E sc tg ex M Z h _ => by unfold chkI at h; cases h)⟩, trivial⟩
  | cmp op a b ha hb => exact ⟨⟨(fun X E sc es M Z h => s_cmp ha.1 hb.1 M Z h),
    (fun X E sc es M Z h => by unfold chkA at h; cases h),
    (fun X E sc es M Z h => by unfold chkO at h; cases h),
    (fun X E sc es M Z h => by unfold chkT at h; cases h),
    (fun X E sc op vs p M Z h => by unfold chkT at h; cases h),
    (fun X E sc tg ex M Z h _ => by unfold chkI at h; cases h)⟩, ⟨ha.1, hb.1⟩⟩
  | chn op op' a b c ha hb hc => exact ⟨⟨(fun X E sc es M Z h => s_chn ha.1 hb.1 hc.1 M Z h),
    (fun X E sc es M Z h => by unfold chkA at h; cases h),
    (fun X E sc es M Z h => by unfold chkO at h; cases h),
    (fun X E sc es M Z h => by unfold chkT at h; cases h),
    (fun X E sc op vs p M Z h => by unfold chkT at h; cases h),
    (fun X E sc tg ex M Z h _ => by unfold chkI at h; cases h)⟩, ⟨ha.1, hb.1, hc.1⟩⟩
  | andV a b ha hb => exact ⟨⟨(fun X E sc es M Z h => s_and ha.1 hb.1 M Z h),
    (fun X E sc es M Z h => by unfold chkA at h; cases h),
    (fun X E sc es M Z h => by unfold chkO at h; cases h),
    (fun X E sc es M Z h => tb M Z (fun op vs p h => w_and ha.1 hb.1 M Z h) (fun z => by unfold chkT at h; revert h z; cases es <;> simp [isBo]) h),
    (fun X E sc op vs p M Z h => w_and ha.1 hb.1 M Z h),
    (fun X E sc tg ex M Z h _ => by unfold chkI at h; cases h)⟩, trivial⟩
  | orV a b ha hb => exact ⟨⟨(fun X E sc es M Z h => s_or ha.1 hb.1 M Z h),
    (fun X E sc es M Z h => by unfold chkA at h; cases h),
    (fun X E sc es M Z h => by unfold chkO at h; cases h),
    (fun X E sc es M Z h => tb M Z (fun op vs p h => w_or ha.1 hb.1 M Z h) (fun z => by unfold chkT at h; revert h z; cases es <;> simp [isBo]) h),
    (fun X E sc op vs p M Z h => w_or ha.1 hb.1 M Z h),
    (fun X E sc tg ex M Z h _ => by unfold chkI at h; cases h)⟩, trivial⟩
  | notV a ha => exact ⟨⟨(fun X E sc es M Z h => s_not ha.1 M Z h),
    (fun X E sc es M Z h => by unfold chkA at h; cases h),
    (fun X E sc es M Z h => by unfold chkO at h; cases h),
    (fun X E sc es M Z h => t_not ha.1 M Z h),
    (fun X E sc op vs p M Z h => by unfold chkT at h; cases h),
    (fun X E sc tg ex M Z h _ => by unfold chkI at h; cases h)⟩, trivial⟩
  | ife t a b ht ha hb => exact ⟨⟨(fun X E sc es M Z h => s_ife ht.1 ha.1 hb.1 M Z h),
    (fun X E sc es M Z h => by unfold chkA at h; cases h),
    (fun X E sc es M Z h => by unfold chkO at h; cases h),
    (fun X E sc es M Z h => by unfold chkT at h; cases h),
    (fun X E sc op vs p M Z h => by unfold chkT at h; cases h),
    (fun X E sc tg ex M Z h _ => by unfold chkI at h; cases h)⟩, trivial⟩
  | neg a ha => exact ⟨⟨(fun X E sc es M Z h => s_neg ha.1 M Z h),
    (fun X E sc es M Z h => by unfold chkA at h; cases h),
    (fun X E sc es M Z h => by unfold chkO at h; cases h),
    (fun X E sc es M Z h => by unfold chkT at h; cases h),
    (fun X E sc op vs p M Z h => by unfold chkT at h; cases h),
    (fun X E sc tg ex M Z h _ => by unfold chkI at h; cases h)⟩, trivial⟩
  | ix a b ha hb => exact ⟨⟨(fun X E sc es M Z h => s_ix ha.1 hb.1 M Z h),
    (fun X E sc es M Z h => by unfold chkA at h; cases h),
    (fun X E sc es M Z h => by unfold chkO at h; cases h),
    (fun X E sc es M Z h => by unfold chkT at h; cases h),
    (fun X E sc op vs p M Z h => by unfold chkT at h; cases h),
    (fun X E sc tg ex M Z h _ => by unfold chkI at h; cases h)⟩, trivial⟩
  | sl a lo hi ha hl hh => exact ⟨⟨(fun X E sc es M Z h => s_sl ha.1 hl.1 hh.1 M Z h),
    (fun X E sc es M Z h => by unfold chkA at h; cases h),
    (fun X E sc es M Z h => by unfold chkO at h; cases h),
    (fun X E sc es M Z h => by unfold chkT at h; cases h),
    (fun X E sc op vs p M Z h => by unfold chkT at h; cases h),
    (fun X E sc tg ex M Z h _ => by unfold chkI at h; cases h)⟩, trivial⟩
  | rev a ha => exact ⟨⟨(fun X E sc es M Z h => s_rev ha.1 M Z h),
    (fun X E sc es M Z h => by unfold chkA at h; cases h),
    (fun X E sc es M Z h => by unfold chkO at h; cases h),
    (fun X E sc es M Z h => by unfold chkT at h; cases h),
    (fun X E sc op vs p M Z h => by unfold chkT at h; cases h),
    (fun X E sc tg ex M Z h _ => by unfold chkI at h; cases h)⟩, trivial⟩
  | call f a ha => exact ⟨⟨(fun X E sc es M Z h => s_call ha.1 M Z h),
    (fun X E sc es M Z h => by unfold chkA at h; cases h),
    (fun X E sc es M Z h => by unfold chkO at h; cases h),
    (fun X E sc es M Z h => by unfold chkT at h; cases h),
    (fun X E sc op vs p M Z h => by unfold chkT at h; cases h),
    (fun X E sc tg ex M Z h _ => by unfold chkI at h; cases h)⟩, trivial⟩
  | bi f a ha => exact ⟨⟨(fun X E sc es M Z h => s_bi ha.1 M Z h),
    (fun X E sc es M Z h => by unfold chkA at h; cases h),
    (fun X E sc es M Z h => by unfold chkO at h; cases h),
    (fun X E sc es M Z h => by unfold chkT at h; cases h),
    (fun X E sc op vs p M Z h => by unfold chkT at h; cases h),
    (fun X E sc tg ex M Z h _ => by unfold chkI at h; cases h)⟩, trivial⟩
  | isi T a ha => exact ⟨⟨(fun X E sc es M Z h => s_isi ha.1 M Z h),
    (fun X E sc es M Z h => by unfold chkA at h; cases h),
    (fun X E sc es M Z h => by unfold chkO at h; cases h),
    (fun X E sc es M Z h => by unfold chkT at h; cases h),
    (fun X E sc op vs p M Z h => by unfold chkT at h; cases h),
    (fun X E sc tg ex M Z h _ => by unfold chkI at h; cases h)⟩, trivial⟩
  | isx l a ha => exact ⟨⟨(fun X E sc es M Z h => s_isx ha.1 M Z h),
    (fun X E sc es M Z h => by unfold chkA at h; cases h),
    (fun X E sc es M Z h => by unfold chkO at h; cases h),
    (fun X E sc es M Z h => by unfold chkT at h; cases h),
    (fun X E sc op vs p M Z h => by unfold chkT at h; cases h),
    (fun X E sc tg ex M Z h _ => by unfold chkI at h; cases h)⟩, trivial⟩
  | isin n a b ha hb => exact ⟨⟨(fun X E sc es M Z h => s_isin ha.1 hb.1 M Z h),
    (fun X E sc es M Z h => by unfold chkA at h; cases h),
    (fun X E sc es M Z h => by unfold chkO at h; cases h),
    (fun X E sc es M Z h => by unfold chkT at h; cases h),
    (fun X E sc op vs p M Z h => by unfold chkT at h; cases h),
    (fun X E sc tg ex M Z h _ => by unfold chkI at h; cases h)⟩, ⟨ha.1, hb.1⟩⟩
  | app a b ha hb => exact ⟨⟨(fun X E sc es M Z h => s_app ha.1 hb.1 M Z h),
    (fun X E sc es M Z h => by unfold chkA at h; cases h),
    (fun X E sc es M Z h => by unfold chkO at h; cases h),
    (fun X E sc es M Z h => by unfold chkT at h; cases h),
    (fun X E sc op vs p M Z h => by unfold chkT at h; cases h),
    (fun X E sc tg ex M Z h _ => by unfold chkI at h; cases h)⟩, trivial⟩
  | get2 a b c ha hb hc => exact ⟨⟨(fun X E sc es M Z h => s_get2 ha.1 hb.1 hc.1 M Z h),
    (fun X E sc es M Z h => by unfold chkA at h; cases h),
    (fun X E sc es M Z h => by unfold chkO at h; cases h),
    (fun X E sc es M Z h => by unfold chkT at h; cases h),
    (fun X E sc op vs p M Z h => by unfold chkT at h; cases h),
    (fun X E sc tg ex M Z h _ => by unfold chkI at h; cases h)⟩, trivial⟩
  | popK a b ha hb => exact ⟨⟨(fun X E sc es M Z h => s_popK ha.1 hb.1 M Z h),
    (fun X E sc es M Z h => by unfold chkA at h; cases h),
    (fun X E sc es M Z h => by unfold chkO at h; cases h),
    (fun X E sc es M Z h => by unfold chkT at h; cases h),
    (fun X E sc op vs p M Z h => by unfold chkT at h; cases h),
    (fun X E sc tg ex M Z h _ => by unfold chkI at h; cases h)⟩, trivial⟩
  | comp own it tg t e hi ht he => exact ⟨⟨(fun X E sc es M Z h => s_comp hi.1 ht.1 he.1 M Z h),
    (fun X E sc es M Z h => by unfold chkA at h; cases h),
    (fun X E sc es M Z h => by unfold chkO at h; cases h),
    (fun X E sc es M Z h => by unfold chkT at h; cases h),
    (fun X E sc op vs p M Z h => by unfold chkT at h; cases h),
    (fun X E sc tg ex M Z h _ => by unfold chkI at h; cases h)⟩, trivial⟩
  | itv a ha => exact ⟨⟨(fun X E sc es M Z h => by unfold chkE at h; cases h),
    (fun X E sc es M Z h => by unfold chkA at h; cases h),
    (fun X E sc es M Z h => by unfold chkO at h; cases h),
    (fun X E sc es M Z h => by unfold chkT at h; cases h),
    (fun X E sc op vs p M Z h => by unfold chkT at h; cases h),
    (fun X E sc tg ex M Z h _ => i_itv ha.1 M Z h)⟩, trivial⟩
  | itr a ha => exact ⟨⟨(fun X E sc es M Z h => by unfold chkE at h; cases h),
    (fun X E sc es M Z h => by unfold chkA at h; cases h),
    (fun X E sc es M Z h => by unfold chkO at h; cases h),
    (fun X E sc es M Z h => by unfold chkT at h; cases h),
    (fun X E sc op vs p M Z h => by unfold chkT at h; cases h),
    (fun X E sc tg ex M Z h _ => i_itr ha.1 M Z h)⟩, trivial⟩
  | itz a b ha hb => exact ⟨⟨(fun X E sc es M Z h => by unfold chkE at h; cases h),
    (fun X E sc es M Z h => by unfold chkA at h; cases h),
    (fun X E sc es M Z h => by unfold chkO at h; cases h),
    (fun X E sc es M Z h => by unfold chkT at h; cases h),
    (fun X E sc op vs p M Z h => by unfold chkT at h; cases h),
    (fun X E sc tg ex M Z h ht => i_itz ha.1 hb.1 M Z h ht)⟩, trivial⟩
  | compD own i tg t e ht he => exact ⟨⟨(fun X E sc es M Z h => s_compD (ov i) ht.1 he.1 M Z h),
    (fun X E sc es M Z h => by unfold chkA at h; cases h),
    (fun X E sc es M Z h => by unfold chkO at h; cases h),
    (fun X E sc es M Z h => by unfold chkT at h; cases h),
    (fun X E sc op vs p M Z h => by unfold chkT at h; cases h),
    (fun X E sc tg ex M Z h _ => by unfold chkI at h; cases h)⟩, trivial⟩
  | maxd a d ha hd => exact ⟨⟨(fun X E sc es M Z h => s_maxd ha.1 hd.1 M Z h),
    (fun X E sc es M Z h => by unfold chkA at h; cases h),
    (fun X E sc es M Z h => by unfold chkO at h; cases h),
    (fun X E sc es M Z h => by unfold chkT at h; cases h),
    (fun X E sc op vs p M Z h => by unfold chkT at h; cases h),
    (fun X E sc tg ex M Z h _ => by unfold chkI at h; cases h)⟩, trivial⟩
  | yes => exact ⟨⟨(fun X E sc es M Z h => by unfold chkE at h; cases h),
    (fun X E sc es M Z h => by unfold chkA at h; cases h),
    (fun X E sc es M Z h => by unfold chkO at h; cases h),
    (fun X E sc es M Z h => by unfold chkT at h; cases h),
    (fun X E sc op vs p M Z h => by unfold chkT at h; cases h),
    (fun X E sc tg ex M Z h _ => by unfold chkI at h; cases h)⟩, trivial⟩
  | no => exact ⟨⟨(fun X E sc es M Z h => by unfold chkE at h; cases h),
    (fun X E sc es M Z h => by unfold chkA at h; cases h),
    (fun X E sc es M Z h => by unfold chkO at h; cases h),
    (fun X E sc es M Z h => by unfold chkT at h; cases h),
    (fun X E sc op vs p M Z h => by unfold chkT at h; cases h),
    (fun X E sc tg ex M Z h _ => by unfold chkI at h; cases h)⟩, trivial⟩
  | nil => exact ⟨⟨(fun X E sc es M Z h => by unfold chkE at h; cases h),
    (fun X E sc es M Z h => a_nil h),
    (fun X E sc es M Z h => o_nil h),
    (fun X E sc es M Z h => by unfold chkT at h; cases h),
    (fun X E sc op vs p M Z h => by unfold chkT at h; cases h),
    (fun X E sc tg ex M Z h _ => by unfold chkI at h; cases h)⟩, trivial⟩
  | cons a b ha hb => exact ⟨cons_ok ha.1 hb.1 ha.2, trivial⟩
theorem soundE (ir : Ie) : OkI G B ir := (soundE0 ir).1
end
end Mp
namespace Mp
open PySem L2
/-! ### a result that does as another one: more garbage, other places, less said -/
mutual
def simD (L : Nat) (ρ : Nat → Nat) : D → D → Prop
  | .tup es, d => ∃ ds, d = .tup ds ∧ simDs L ρ es ds
  | .wtup es, d => ∃ ds, (d = .tup ds ∨ d = .wtup ds) ∧ simDs L ρ es ds
  | .loc n, d => n < L ∧ d = .loc (ρ n)
  | .non, d => d = .non
  | .bl b, d => d = .bl b
  | .int i, d => d = .int i
  | .str x, d => d = .str x
  | .exc c, d => d = .exc c
  | .scr ns, d => d = .scr ns
def simDs (L : Nat) (ρ : Nat → Nat) : List D → List D → Prop
  | [], ds => ds = []
  | e :: es, ds => ∃ d r, ds = d :: r ∧ simD L ρ e d ∧ simDs L ρ es r
end
def simO (L : Nat) (ρ : Nat → Nat) : Ob → Ob → Prop
  | .lst es, o => ∃ ds, o = .lst ds ∧ simDs L ρ es ds
  | .dK kvs, o => ∃ kws, o = .dK kws ∧ kvs.map (·.1) = kws.map (·.1) ∧ simDs L ρ (kvs.map (·.2)) (kws.map (·.2))
  | .dT kvs, o => ∃ kws, o = .dT kws ∧ kvs.map (·.1) = kws.map (·.1) ∧ simDs L ρ (kvs.map (·.2)) (kws.map (·.2))
  | .lk o', o => ∃ o'', o = .lk o'' ∧ simO L ρ o' o''
/-- stores: S0 at the entry, S2 what is said, S1 what is -/
structure simS (S0 S2 S1 : Sto) (ρ : Nat → Nat) : Prop where
  old : ∀ k, k < S0.length → ρ k = k
  le : S0.length ≤ S2.length
  inj : ∀ i j, i < S2.length → j < S2.length → ρ i = ρ j → i = j
  at_ : ∀ k, k < S2.length → ρ k < S1.length ∧ ((k < S0.length ∧ S2[k]? = S0[k]? ∧ S1[k]? = S0[k]?) ∨ ∀ o2 o1, S2[k]? = some o2 → S1[ρ k]? = some o1 → simO S2.length ρ o2 o1)
def simR (S0 : Sto) : Ret D → Ret D → Prop
  | .ok d2 S2, r => ∃ d1 S1 ρ, r = .ok d1 S1 ∧ simS S0 S2 S1 ρ ∧ simD S2.length ρ d2 d1
  | .exc c S2, r => ∃ S1 ρ, r = .exc c S1 ∧ simS S0 S2 S1 ρ
  | .bad, _ => True
section
variable {K : PySem.W.Frag} {H : Hp} {m1 m2 : Mm} {L : Nat} {ρ : Nat → Nat}
mutual
theorem VR.sim (k : ∀ (n : Nat) (a : Addr), n < L → m1[ρ n]? = some a → m2[n]? = some a) : ∀ (d2 d1 : D) (v : V), simD L ρ d2 d1 → VR K m1 H d1 v → VR K m2 H d2 v
  | .tup es, d1, v, s, h => by
    obtain ⟨ds, rfl, s⟩ := s
    obtain ⟨a, vs, h1, h2, h3⟩ := h
    exact ⟨a, vs, h1, h2, VRs.sim k es ds vs s h3⟩
  | .wtup es, d1, v, s, h => by
    obtain ⟨ds, e, s⟩ := s
    rcases e with rfl | rfl
    · obtain ⟨a, vs, h1, h2, h3⟩ := h
      exact ⟨a, vs, h1, .inl h2, VRs.sim k es ds vs s h3⟩
    · obtain ⟨a, vs, h1, h2, h3⟩ := h
      exact ⟨a, vs, h1, h2, VRs.sim k es ds vs s h3⟩
  | .loc n, d1, v, s, h => by
    obtain ⟨hn, rfl⟩ := s
    obtain ⟨a, h1, h2⟩ := h
    exact ⟨a, h1, k n a hn h2⟩
  | .non, _, _, s, h => by cases (show _ = _ from s); exact h
  | .bl _, _, _, s, h => by cases (show _ = _ from s); exact h
  | .int _, _, _, s, h => by cases (show _ = _ from s); exact h
  | .str _, _, _, s, h => by cases (show _ = _ from s); exact h
  | .exc _, _, _, s, h => by cases (show _ = _ from s); exact h
  | .scr _, _, _, s, h => by cases (show _ = _ from s); exact h
theorem VRs.sim (k : ∀ (n : Nat) (a : Addr), n < L → m1[ρ n]? = some a → m2[n]? = some a) : ∀ (es ds : List D) (vs : List V), simDs L ρ es ds → VRs K m1 H ds vs → VRs K m2 H es vs
  | [], ds, vs, s, h => by rw [show ds = [] from s] at h; exact h
  | e :: es, ds, vs, s, h => by
    obtain ⟨d, r, rfl, s1, s2⟩ := s
    obtain ⟨v, ws, h1, h2, h3⟩ := h
    exact ⟨v, ws, h1, VR.sim k e d v s1 h2, VRs.sim k es r ws s2 h3⟩
end
theorem OH.sim (k : ∀ (n : Nat) (a : Addr), n < L → m1[ρ n]? = some a → m2[n]? = some a) : ∀ {o2 o1 : Ob} {u : HO}, simO L ρ o2 o1 → OH K m1 H o1 u → OH K m2 H o2 u
  | .lst es, o1, u, s, h => by
    obtain ⟨ds, rfl, s⟩ := s
    obtain ⟨vs, h1, h2⟩ := h
    exact ⟨vs, h1, VRs.sim k _ _ _ s h2⟩
  | .dK es, o1, u, s, h => by
    obtain ⟨ds, rfl, s0, s⟩ := s
    obtain ⟨vs, h1, h2, h3⟩ := h
    exact ⟨vs, h1, s0.trans h2, VRs.sim k _ _ _ s h3⟩
  | .dT es, o1, u, s, h => by
    obtain ⟨ds, rfl, s0, s⟩ := s
    obtain ⟨vs, h1, h2, h3⟩ := h
    exact ⟨vs, h1, s0.trans h2, VRs.sim k _ _ _ s h3⟩
  | .lk o, o1, u, s, h => by
    obtain ⟨o', rfl, s⟩ := s
    obtain ⟨ob, u', h1, h2⟩ := h
    exact ⟨ob, u', h1, OH.sim k s h2⟩
end
section
variable {K : PySem.W.Frag} {H0 H : Hp} {m0 m1 m2 : Mm}
mutual
theorem VR.old (k : ∀ (n : Nat) (a : Addr), n < m0.length → m1[n]? = some a → m2[n]? = some a) : ∀ (d : D) (v0 v : V), VR K m0 H0 d v0 → VR K m1 H d v → VR K m2 H d v
  | .tup es, v0, v, s, h => by
    obtain ⟨_, ws, _, _, s⟩ := s
    obtain ⟨a, vs, h1, h2, h3⟩ := h
    exact ⟨a, vs, h1, h2, VRs.old k es ws vs s h3⟩
  | .wtup es, v0, v, s, h => by
    obtain ⟨_, ws, _, _, s⟩ := s
    obtain ⟨a, vs, h1, h2, h3⟩ := h
    exact ⟨a, vs, h1, h2, VRs.old k es ws vs s h3⟩
  | .loc n, v0, v, s, h => by
    obtain ⟨b, s1, s2⟩ := s
    obtain ⟨a, h1, h2⟩ := h
    exact ⟨a, h1, k n a (List.getElem?_eq_some_iff.mp s2).1 h2⟩
  | .non, _, _, s, h => h
  | .bl _, _, _, s, h => h
  | .int _, _, _, s, h => h
  | .str _, _, _, s, h => h
  | .exc _, _, _, s, h => h
  | .scr _, _, _, s, h => h
theorem VRs.old (k : ∀ (n : Nat) (a : Addr), n < m0.length → m1[n]? = some a → m2[n]? = some a) : ∀ (ds : List D) (vs0 vs : List V), VRs K m0 H0 ds vs0 → VRs K m1 H ds vs → VRs K m2 H ds vs
  | [], _, _, s, h => h
  | e :: es, vs0, vs, s, h => by
    obtain ⟨v0, w0, rfl, s1, s2⟩ := s
    obtain ⟨v, ws, h1, h2, h3⟩ := h
    exact ⟨v, ws, h1, VR.old k e v0 v s1 h2, VRs.old k es w0 ws s2 h3⟩
end
theorem OH.old (k : ∀ (n : Nat) (a : Addr), n < m0.length → m1[n]? = some a → m2[n]? = some a) : ∀ {o : Ob} {u0 u : HO}, OH K m0 H0 o u0 → OH K m1 H o u → OH K m2 H o u
  | .lst es, u0, u, s, h => by
    obtain ⟨_, _, s⟩ := s
    obtain ⟨vs, h1, h2⟩ := h
    exact ⟨vs, h1, VRs.old k _ _ _ s h2⟩
  | .dK es, u0, u, s, h => by
    obtain ⟨_, _, _, s⟩ := s
    obtain ⟨vs, h1, h2, h3⟩ := h
    exact ⟨vs, h1, h2, VRs.old k _ _ _ s h3⟩
  | .dT es, u0, u, s, h => by
    obtain ⟨_, _, _, s⟩ := s
    obtain ⟨vs, h1, h2, h3⟩ := h
    exact ⟨vs, h1, h2, VRs.old k _ _ _ s h3⟩
  | .lk o, u0, u, s, h => by
    obtain ⟨_, _, _, s⟩ := s
    obtain ⟨ob, u', h1, h2⟩ := h
    exact ⟨ob, u', h1, OH.old k s h2⟩
end
/-- the addresses as the said store has them -/
theorem sim_map {K : PySem.W.Frag} {H0 H : Hp} {m0 m1 : Mm} {S0 S2 S1 : Sto} {ρ : Nat → Nat} (hr0 : HR K m0 H0 S0) (e : Ext m0 H0 m1 H) (hr1 : HR K m1 H S1) (s : simS S0 S2 S1 ρ) :
    ∃ m2, Ext m0 H0 m2 H ∧ (∀ (n : Nat) (a : Addr), n < S2.length → m1[ρ n]? = some a → m2[n]? = some a) ∧ HR K m2 H S2 := by
  obtain ⟨t, rfl⟩ := e.pre
  let m2 : Mm := (List.range S2.length).map fun k => ((m0 ++ t)[ρ k]?).getD 0
  have at2 : ∀ n, n < S2.length → m2[n]? = some (((m0 ++ t)[ρ n]?).getD 0) := fun n hn => by simp [m2, hn]
  have len2 : m2.length = S2.length := by simp [m2]
  have lt1 : ∀ n, n < S2.length → ∃ a, (m0 ++ t)[ρ n]? = some a := fun n hn => by
    have := (s.at_ n hn).1
    rw [← hr1.len] at this
    exact ⟨_, List.getElem?_eq_getElem this⟩
  have key : ∀ (n : Nat) (a : Addr), n < S2.length → (m0 ++ t)[ρ n]? = some a → m2[n]? = some a := fun n a hn h => by rw [at2 n hn, h]; rfl
  have back : ∀ (n : Nat) (a : Addr), m2[n]? = some a → n < S2.length ∧ (m0 ++ t)[ρ n]? = some a := fun n a h => by
    have hn : n < S2.length := by rw [← len2]; exact (List.getElem?_eq_some_iff.mp h).1
    obtain ⟨b, hb⟩ := lt1 n hn
    rw [key n b hn hb] at h
    cases h
    exact ⟨hn, hb⟩
  refine ⟨m2, ⟨⟨m2.drop m0.length, ?_⟩, e.tup, e.frz, e.kex⟩, key, len2, fun i j a hi hj => ?_, fun n a o hn ho => ?_⟩
  · have : m2.take m0.length = m0 := by
      apply List.ext_getElem?
      intro n
      rw [List.getElem?_take]
      by_cases hn : n < m0.length
      · rw [if_pos hn]
        have h1 : n < S0.length := by rw [← hr0.len]; exact hn
        have h2 : n < S2.length := Nat.lt_of_lt_of_le h1 s.le
        rw [at2 n h2, s.old n h1, List.getElem?_append_left hn, List.getElem?_eq_getElem hn]
        rfl
      · rw [if_neg hn, List.getElem?_eq_none (by omega)]
    rw [← this, List.length_take]
    have : min m0.length m2.length = m0.length := by
      have := s.le
      rw [← hr0.len, ← len2] at this
      omega
    rw [this, List.take_append_drop]
  · obtain ⟨i1, i2⟩ := back i a hi
    obtain ⟨j1, j2⟩ := back j a hj
    exact s.inj i j i1 j1 (hr1.inj _ _ a i2 j2)
  · obtain ⟨n1, n2⟩ := back n a hn
    obtain ⟨c0, c⟩ := s.at_ n n1
    rcases c with ⟨c1, c2, c3⟩ | c
    · rw [s.old n c1] at n2
      obtain ⟨u, h1, h2⟩ := hr1.ob n a o n2 (by rw [c3, ← c2]; exact ho)
      have hn0 : n < m0.length := by rw [hr0.len]; exact c1
      obtain ⟨u0, h3, h4⟩ := hr0.ob n m0[n] o (List.getElem?_eq_getElem hn0) (by rw [← c2]; exact ho)
      refine ⟨u, h1, OH.old (fun k b hk hb => ?_) h4 h2⟩
      have h5 : k < S0.length := by rw [← hr0.len]; exact hk
      exact key k b (Nat.lt_of_lt_of_le h5 s.le) (by rw [s.old k h5]; exact hb)
    · obtain ⟨o1, ho1⟩ : ∃ o1, S1[ρ n]? = some o1 := ⟨_, List.getElem?_eq_getElem c0⟩
      obtain ⟨u, h1, h2⟩ := hr1.ob _ a o1 n2 ho1
      exact ⟨u, h1, OH.sim key (c o o1 ho ho1) h2⟩
theorem Post.sim {K : PySem.W.Frag} {mg : Str → Option Value} {E : XK} {m : Mm} {H : Hp} {S0 : Sto} {r2 r1 : Ret D} {Q : VK} (hr0 : HR K m H S0) (s : simR S0 r2 r1) (p : Post K mg E (VR K) m H r2 Q) : Post K mg E (VR K) m H r1 Q := by
  cases r2 with
  | bad => exact (show False from p).elim
  | ok d2 S2 =>
    obtain ⟨d1, S1, ρ, rfl, s1, s2⟩ := s
    intro v m1 H1 e r hr
    obtain ⟨m2, e2, k, hr2⟩ := sim_map hr0 e hr s1
    exact p v m2 H1 e2 (VR.sim k _ _ _ s2 r) hr2
  | exc c S2 =>
    obtain ⟨S1, ρ, rfl, s1⟩ := s
    intro C m1 H1 hc e hr
    obtain ⟨m2, e2, k, hr2⟩ := sim_map hr0 e hr s1
    exact p C m2 H1 hc e2 hr2
end Mp
namespace Mp
open PySem L2
/-- what is known of the program's names; calls by at most level k -/
structure Glob (P : Program) (w : World) (K : PySem.W.Frag) (mg : Str → Option Value) (base : Heap) (G : Gt) (fns : List (Str × Nat)) (cons exn : List Str) (k : Nat) : Prop where
  bi : ∀ x ∈ biNames, mg x = none
  con : ∀ x ∈ cons, ∃ d u v, G.con x = some d ∧ mg x = some u ∧ RelV v u ∧ ∀ m H, VR K m H d v
  fn : ∀ f n, (f, n) ∈ fns → ∃ a fd ps k', k' ≤ k ∧ mg f = some (.ref a) ∧ PySem.W.keepIn K (.ref a) = true ∧ Binds K fd ps [] ∧ FnOk P w K mg base (L2.CX P w) k' a fd ps (spOf K mg (G.fn f) n)
  xt : ExT K mg exn
  rs : ∀ c ∈ exn, c ≠ ("NoRow" : Str) → ∀ (X : Cx) (E : XK), X.prog = P → X.w = w → X.K = K → X.mg = mg → X.calm = true → Takes X (fun cls d _ H => E cls d H) → ∀ (y : Str) (k : Nat) (p1 p2 p3 p4 : Pos), Gl X c → PS X (.Raise (some (.Call (.Name c p1) [.Constant (.str y) k p2] [] p3)) none p4) (fun _ _ H => ∀ C, X.mg c = some (.ref C) → E (.ref C) none H)
theorem Glob.mono {P : Program} {w : World} {K : PySem.W.Frag} {mg : Str → Option Value} {base : Heap} {G : Gt} {fns : List (Str × Nat)} {cons exn : List Str} {k k' : Nat} (g : Glob P w K mg base G fns cons exn k) (h : k ≤ k') : Glob P w K mg base G fns cons exn k' :=
  ⟨g.bi, g.con, fun f n e => let ⟨a, fd, ps, j, h1, r⟩ := g.fn f n e; ⟨a, fd, ps, j, Nat.le_trans h1 h, r⟩, g.xt, g.rs⟩
/-- one def more -/
theorem Glob.add {P : Program} {w : World} {K : PySem.W.Frag} {mg : Str → Option Value} {base : Heap} {G : Gt} {fns : List (Str × Nat)} {cons exn : List Str} {k k' : Nat} {f : Str} {n : Nat} {a : Addr} {fd : FuncData} {ps : List Str}
    (g : Glob P w K mg base G fns cons exn k) (h1 : mg f = some (.ref a)) (h2 : PySem.W.keepIn K (.ref a) = true) (h3 : Binds K fd ps []) (h4 : FnOk P w K mg base (L2.CX P w) k' a fd ps (spOf K mg (G.fn f) n)) (h : k ≤ k') : Glob P w K mg base G ((f, n) :: fns) cons exn k' :=
  ⟨g.bi, g.con, fun f' n' e => by
    rcases List.mem_cons.mp e with e | e
    · cases e
      exact ⟨a, fd, ps, k', Nat.le_refl _, h1, h2, h3, h4⟩
    · exact (g.mono h).fn f' n' e, g.xt, g.rs⟩
def noneNames (mg : Str → Option Value) : Prop := ∀ x ∈ biNames, mg x = none
section
variable {P : Program} {w : World} {K : PySem.W.Frag} {mg : Str → Option Value} {base : Heap} {G : Gt} {fns : List (Str × Nat)} {cons exn : List Str} {k : Nat}
/-- THE RULE for a def -/
theorem def_ok {x qual : Str} {st : Stmt} {f : Addr} {fd : FuncData} {N ps : List Str} {is : Is} {spec : List D → M D} (F : Fun K x qual st f fd) (Sc : FnScope N ps (defScope st)) (g : Glob P w K mg base G fns cons exn k)
    (hc : chkB ⟨N, fns, cons, exn⟩ (defScope st) is (defBody st) = true)
    (hs : ∀ ds S, ds.length = ps.length → spec ds S ≠ .bad → ∃ n, simR S (spec ds S) (evF G n N.length is ds S) ∨ spec ds S = evF G n N.length is ds S) :
    FnOk P w K mg base (L2.CX P w) (k + 1) f fd ps (spOf K mg spec ps.length) := by
  refine F.okX Sc (fun vs H Q E h => h.1) fun cdv A outer s H vs Q E hr h => ?_
  have tk : Takes (cxOf (L2.CX P w) P w K mg base N qual (defScope st) f cdv A outer s H E) (fun cls d _ H => E cls d H) := takes_of rfl rfl rfl rfl
  have M : MC G ⟨N, fns, cons, exn⟩ (cxOf (L2.CX P w) P w K mg base N qual (defScope st) f cdv A outer s H E) E :=
    { n := rfl
      nd := Sc.nd
      calm := rfl
      hu := by have := hr.un; show (A.deeper _).units + 65 < cLine; omega
      own := passes_of rfl
      bi := g.bi
      con := g.con
      fn := fun f n e => let ⟨a, fd, ps, j, h1, h2, h3, h4, h5⟩ := g.fn f n e; ⟨a, fd, ps, j, h2, h3, h4, hr.mono h1, h5⟩
      pass := passes_call tk fun _ _ _ _ z => z
      kd := Sc.kind
      xt := g.xt
      rs := fun c hc hn y k p1 p2 p3 p4 hg => g.rs c hc hn _ E rfl rfl rfl rfl rfl tk y k p1 p2 p3 p4 hg }
  have Z : ScR (defScope st) (cxOf (L2.CX P w) P w K mg base N qual (defScope st) f cdv A outer s H E) :=
    { gl := fun x h => by
        unfold glB at h
        split at h
        · assumption
        · cases h
      vis := fun x h => by
        unfold visB at h
        split at h
        · exact .inl (by assumption)
        · exact .inr (.inl (by assumption))
        · exact .inr (.inr (by assumption))
        · cases h
      loc := fun x h => by
        refine ⟨?_, .inl rfl⟩
        unfold locB at h
        split at h
        · exact .inl (by assumption)
        · exact .inr (by assumption)
        · cases h
      lo := fun x h => h
      fr := fun x h => h }
  obtain ⟨hl, m, S, ds, hv, hrH, p⟩ := h
  have hlen : ds.length = ps.length := by rw [← hv.len]; exact hl
  have nb : spec ds S ≠ .bad := fun e => by rw [e] at p; exact p
  obtain ⟨n, hsim⟩ := hs ds S hlen nb
  have p1 : Post K mg E (VR K) m H (evF G n N.length is ds S) Q := by
    rcases hsim with hsim | hsim
    · exact Post.sim hrH hsim p
    · rw [← hsim]; exact p
  have OS := soundS (N := n) (⟨rfl, rfl, rfl⟩ : TC (cxOf (L2.CX P w) P w K mg base N qual (defScope st) f cdv A outer s H E)) (fun ir => soundE ir) M Z is
  refine ⟨_, OS.b _ hc, m, ds.map some ++ List.replicate (N.length - ds.length) none, S, ⟨?_, ?_⟩, hrH, ?_⟩
  · show _ = (L2.start N vs).length
    unfold L2.start
    simp [hv.len]
  · intro i d e
    have hi : i < ds.length := by
      by_cases c : i < ds.length
      · exact c
      · rw [List.getElem?_append_right (by simpa using c), List.getElem?_replicate] at e
        split at e <;> cases e
    rw [List.getElem?_append_left (by simpa using hi), List.getElem?_map] at e
    have e2 : ds[i]? = some d := by
      cases q : ds[i]? with
      | none => rw [q] at e; cases e
      | some a => rw [q] at e; cases e; rfl
    obtain ⟨v, h1, h2⟩ := hv.get e2
    refine ⟨v, ?_, h2⟩
    unfold L2.start
    have hi' : i < vs.length := by rw [hv.len]; exact hi
    rw [List.getElem?_append_left (by simpa using hi'), List.getElem?_map, h1]
    rfl
  · have p2 : Post K mg E (VR K) m H ((evS G n is (ds.map some ++ List.replicate (N.length - ds.length) none) S).bind fun f => match f with
      | .nx _ => mp .non
      | .rt d => mp d) Q := p1
    refine (Post.bind (R := RF K) p2).imp ?_
    rintro z H1 ⟨m1, fl, S1, e1, r1, hr1, q1⟩
    cases fl with
    | nx δ =>
      cases z with
      | inl σ =>
        show Q V.non H1
        exact Post.ok (d := Mp.D.non) q1 rfl hr1
      | inr v => exact (show False from r1).elim
    | rt d =>
      cases z with
      | inl σ => exact (show False from r1).elim
      | inr v =>
        show Q v H1
        exact Post.ok (d := d) q1 r1 hr1
/-- the law's def: True of every script -/
theorem law_sp {spec : List D → M D} (h : ∀ ns : List Int, ns.length ≤ 63 → ∃ S, spec [.scr ns] [] = .ok (.bl true) S) (H : Hp) (a : Addr) (ns : List Int) (hl : ns.length ≤ 63) (ho : Only H) (hs : SqL K H a (ns.map V.int)) :
    spOf K mg spec 1 [.ref a] H (fun v _ => v = .bl true) fun _ _ _ => False := by
  obtain ⟨S, e⟩ := h ns hl
  refine ⟨rfl, [], [], [.scr ns], ⟨_, _, rfl, ⟨a, rfl, ?_⟩, rfl⟩, ⟨rfl, fun i j a h => by simp at h, fun n a o h => by simp at h⟩, ?_⟩
  · rcases hs with (hs | ⟨o, hs⟩) | hs
    · rcases ho a with q | ⟨o, xs, q⟩
      · rw [q] at hs; cases hs
      · rw [q] at hs; cases hs
    · exact .inl ⟨o, hs⟩
    · exact .inr hs
  · rw [e]
    exact fun v m' H' _ r _ => r
end
end Mp
namespace Mp
open PySem L2
/-! ### running a block -/
def isApp : Is → Is → Is
  | .cons a b, r => .cons a (isApp b r)
  | _, r => r
def isBlk : Is → Bool
  | .cons _ b => isBlk b
  | .nil => true
  | _ => false
section
variable {G : Gt} {N : Nat} {δ δ1 : Env} {S S1 S2 : Sto} {r : Ret Fl}
theorem app_run : ∀ {a b : Is}, isBlk a = true → evS G N (isApp a b) δ S = (evS G N a δ S).bind fun f => match f with
    | .nx δ1 => evS G N b δ1
    | .rt v => mp (.rt v) := by
  intro a
  induction a generalizing δ S with
  | cons x y ihx ihy =>
    intro b h
    have h : isBlk y = true := h
    rw [isApp, evS, evS]
    show (evS G N x δ S).bind _ = ((evS G N x δ S).bind _).bind _
    cases e : evS G N x δ S with
    | bad => rfl
    | exc c S => rfl
    | ok f S' =>
      cases f with
      | nx δ' => exact ihy h
      | rt d => rfl
  | nil =>
    intro b _
    rw [show isApp .nil b = b from rfl, evS]
    rfl
  | _ => intro b h; cases h
theorem r_nil : evS G N .nil δ S = .ok (.nx δ) S := by rw [evS]; rfl
theorem r_pass {b : Is} (k : evS G N b δ S = r) : evS G N (.cons .pass b) δ S = r := by
  rw [evS, evS, ← k]; rfl
theorem r_asg {i : Nat} {e : Ie} {b : Is} {d : D} (h : evE G e δ S = .ok d S1) (k : evS G N b (δ.set i (some d)) S1 = r) : evS G N (.cons (.asg i e) b) δ S = r := by
  rw [evS, evS]
  show (((evE G e δ S).bind _).bind _) = r
  rw [h, ← k]
  rfl
theorem r_par {i j : Nat} {e e' : Ie} {b : Is} {d d' : D} (h : evE G e δ S = .ok d S1) (h' : evE G e' δ S1 = .ok d' S2) (k : evS G N b ((δ.set i (some d)).set j (some d')) S2 = r) : evS G N (.cons (.par i j e e') b) δ S = r := by
  rw [evS, evS]
  show (((evE G e δ S).bind _).bind _) = r
  rw [h]
  show (((evE G e' δ S1).bind _).bind _) = r
  rw [h', ← k]
  rfl
theorem r_unp {l : List Nat} {e : Ie} {b : Is} {d : D} (h : evE G e δ S = .ok d S1) (p : (Tg.tp l).put d δ = some δ1) (k : evS G N b δ1 S1 = r) : evS G N (.cons (.unp l e) b) δ S = r := by
  rw [evS, evS]
  show (((evE G e δ S).bind _).bind _) = r
  rw [h]
  show ((match (Tg.tp l).put d δ with
    | some δ1 => mp (.nx δ1)
    | none => mbad : M Fl) S1).bind _ = r
  rw [p, ← k]
  rfl
theorem r_sub {o i e : Ie} {b : Is} {dv dw di : D} {S3 S4 : Sto} (h1 : evE G e δ S = .ok dv S1) (h2 : evE G o δ S1 = .ok dw S2) (h3 : evE G i δ S2 = .ok di S3) (h4 : putF dw di dv S3 = .ok () S4) (k : evS G N b δ S4 = r) : evS G N (.cons (.sub o i e) b) δ S = r := by
  rw [evS, evS]
  show (((evE G e δ S).bind _).bind _) = r
  rw [h1]
  show (((evE G o δ S1).bind _).bind _) = r
  rw [h2]
  show (((evE G i δ S2).bind _).bind _) = r
  rw [h3]
  show (((putF dw di dv S3).bind _).bind _) = r
  rw [h4, ← k]
  rfl
theorem r_ex {e : Ie} {b : Is} {d : D} (h : evE G e δ S = .ok d S1) (k : evS G N b δ S1 = r) : evS G N (.cons (.ex e) b) δ S = r := by
  rw [evS, evS]
  show (((evE G e δ S).bind _).bind _) = r
  rw [h, ← k]
  rfl
theorem r_ret {e : Ie} {b : Is} {d : D} (h : evE G e δ S = .ok d S1) : evS G N (.cons (.ret e) b) δ S = .ok (.rt d) S1 := by
  rw [evS, evS]
  show (((evE G e δ S).bind _).bind _) = _
  rw [h]
  rfl
theorem r_retN {b : Is} : evS G N (.cons .retN b) δ S = .ok (.rt .non) S := by
  rw [evS, evS]
  rfl
theorem r_ift {t : Ie} {x y b : Is} (h : evT G t δ S = .ok true S1) (k : evS G N (isApp x b) δ S1 = r) (hx : isBlk x = true := by rfl) : evS G N (.cons (.ifs t x y) b) δ S = r := by
  rw [evS, evS]
  show (((evT G t δ S).bind _).bind _) = r
  rw [h, ← k, app_run hx]
  rfl
theorem r_iff {t : Ie} {x y b : Is} (h : evT G t δ S = .ok false S1) (k : evS G N (isApp y b) δ S1 = r) (hx : isBlk y = true := by rfl) : evS G N (.cons (.ifs t x y) b) δ S = r := by
  rw [evS, evS]
  show (((evT G t δ S).bind _).bind _) = r
  rw [h, ← k, app_run hx]
  rfl
theorem r_if {t : Ie} {x y b : Is} {c : Bool} (h : evT G t δ S = .ok c S1) (k1 : c = true → evS G N (isApp x b) δ S1 = r) (k2 : c = false → evS G N (isApp y b) δ S1 = r) (hx : isBlk x = true := by rfl) (hy : isBlk y = true := by rfl) : evS G N (.cons (.ifs t x y) b) δ S = r := by
  cases c with
  | true => exact r_ift h (k1 rfl) hx
  | false => exact r_iff h (k2 rfl) hy
theorem r_ifj {t : Ie} {x y b : Is} {c : Bool} (δ1 : Env) (S2 : Sto) (h : evT G t δ S = .ok c S1) (k1 : c = true → evS G N x δ S1 = .ok (.nx δ1) S2) (k2 : c = false → evS G N y δ S1 = .ok (.nx δ1) S2) (k : evS G N b δ1 S2 = r) : evS G N (.cons (.ifs t x y) b) δ S = r := by
  rw [evS, evS]
  show (((evT G t δ S).bind _).bind _) = r
  rw [h]
  cases c with
  | true =>
    show ((evS G N x δ S1).bind _) = r
    rw [k1 rfl]
    exact k
  | false =>
    show ((evS G N y δ S1).bind _) = r
    rw [k2 rfl]
    exact k
theorem r_whl {t : Ie} {x b : Is} (h : whlL (evT G t) (evS G N x) N δ S = .ok (.nx δ1) S1) (k : evS G N b δ1 S1 = r) : evS G N (.cons (.whl t x) b) δ S = r := by
  rw [evS, evS]
  show ((whlL (evT G t) (evS G N x) N δ S).bind _) = r
  rw [h, ← k]
  rfl
theorem r_whlr {t : Ie} {x b : Is} {d : D} (h : whlL (evT G t) (evS G N x) N δ S = .ok (.rt d) S1) : evS G N (.cons (.whl t x) b) δ S = .ok (.rt d) S1 := by
  rw [evS, evS]
  show ((whlL (evT G t) (evS G N x) N δ S).bind _) = _
  rw [h]
  rfl
theorem r_for {g : Tg} {it : Ie} {x b : Is} {p : List D × Chk} (h : evI G it δ S = .ok p S1) (h2 : forL p.2 g (evS G N x) p.1 δ S1 = .ok (.nx δ1) S2) (k : evS G N b δ1 S2 = r) : evS G N (.cons (.for_ g it x) b) δ S = r := by
  rw [evS, evS]
  show (((evI G it δ S).bind _).bind _) = r
  rw [h]
  show ((forL p.2 g (evS G N x) p.1 δ S1).bind _) = r
  rw [h2, ← k]
  rfl
theorem r_forr {g : Tg} {it : Ie} {x b : Is} {p : List D × Chk} {d : D} (h : evI G it δ S = .ok p S1) (h2 : forL p.2 g (evS G N x) p.1 δ S1 = .ok (.rt d) S2) : evS G N (.cons (.for_ g it x) b) δ S = .ok (.rt d) S2 := by
  rw [evS, evS]
  show (((evI G it δ S).bind _).bind _) = _
  rw [h]
  show ((forL p.2 g (evS G N x) p.1 δ S1).bind _) = _
  rw [h2]
  rfl
theorem r_rse {c : Str} {e : Ie} {b : Is} {d : D} (h : evE G e δ S = .ok d S1) : evS G N (.cons (.rse c e) b) δ S = .exc c S1 := by
  rw [evS, evS]
  show (((evE G e δ S).bind _).bind _) = _
  rw [h]
  rfl
theorem w_true {t : Env → M Bool} {body : Env → M Fl} {n : Nat} {r : Ret Fl} (h : t δ S = .ok true S1) (h2 : body δ S1 = .ok (.nx δ1) S2) (k : whlL t body n δ1 S2 = r) : whlL t body (n + 1) δ S = r := by
  rw [whlL]
  show (t δ S).bind _ = r
  rw [h]
  show (body δ S1).bind _ = r
  rw [h2]
  exact k
theorem w_false {t : Env → M Bool} {body : Env → M Fl} {n : Nat} (h : t δ S = .ok false S1) : whlL t body (n + 1) δ S = .ok (.nx δ) S1 := by
  rw [whlL]
  show (t δ S).bind _ = _
  rw [h]
  rfl
open Classical in
theorem okC_nil : okC [] S = true := by
  unfold okC
  exact decide_eq_true fun p hp => by cases hp
open Classical in
theorem okC_one {n : Nat} {o : Ob} (h : S[n]? = some o) : okC [(n, o)] S = true := by
  unfold okC
  exact decide_eq_true fun p hp => by
    rw [List.mem_singleton.mp hp]
    exact h
theorem f_nil {c : Chk} {g : Tg} {body : Env → M Fl} (h : okC c S = true) : forL c g body [] δ S = .ok (.nx δ) S := by
  rw [forL]
  show (if okC c S = true then _ else _) = _
  rw [if_pos h]
theorem f_cons {c : Chk} {g : Tg} {body : Env → M Fl} {d : D} {ds : List D} {δ2 : Env} {r : Ret Fl} (h : okC c S = true) (p : g.put d δ = some δ1) (h2 : body δ1 S = .ok (.nx δ2) S1) (k : forL c g body ds δ2 S1 = r) : forL c g body (d :: ds) δ S = r := by
  rw [forL]
  show (if okC c S = true then _ else _) = _
  rw [if_pos h, p]
  show (body δ1 S).bind _ = r
  rw [h2]
  exact k
theorem f_ret {c : Chk} {g : Tg} {body : Env → M Fl} {d v : D} {ds : List D} (h : okC c S = true) (p : g.put d δ = some δ1) (h2 : body δ1 S = .ok (.rt v) S1) : forL c g body (d :: ds) δ S = .ok (.rt v) S1 := by
  rw [forL]
  show (if okC c S = true then _ else _) = _
  rw [if_pos h, p]
  show (body δ1 S).bind _ = _
  rw [h2]
  rfl
theorem r_fun {b : Is} {ds : List D} {slots : Nat} {d : D} (h : evS G N b (ds.map some ++ List.replicate (slots - ds.length) none) S = .ok (.rt d) S1) : evF G N slots b ds S = .ok d S1 := by
  unfold evF
  show (evS G N b _ S).bind _ = _
  rw [h]
  rfl
theorem r_funN {b : Is} {ds : List D} {slots : Nat} (h : evS G N b (ds.map some ++ List.replicate (slots - ds.length) none) S = .ok (.nx δ) S1) : evF G N slots b ds S = .ok .non S1 := by
  unfold evF
  show (evS G N b _ S).bind _ = _
  rw [h]
  rfl
/-! ### expressions, applied -/
variable {a b c e : Ie} {op op' : Cop} {bop : Bop}
theorem e_var {i : Nat} {d : D} (h : δ[i]? = some (some d)) : evE G (.var i) δ S = .ok d S := by rw [evE, h]; rfl
theorem e_con {d : D} : evE G (.con d) δ S = .ok d S := by rw [evE]; rfl
theorem e_glob {x : Str} {d : D} (h : G.con x = some d) : evE G (.glob x) δ S = .ok d S := by rw [evE, h]; rfl
theorem e_bin {x y : D} {z : Ret D} (h1 : evE G a δ S = .ok x S1) (h2 : evE G b δ S1 = .ok y S2) (h3 : binF bop x y S2 = z) : evE G (.bin bop a b) δ S = z := by
  rw [evE]; show (evE G a δ S).bind _ = z; rw [h1]; show (evE G b δ S1).bind _ = z; rw [h2]; exact h3
theorem e_cmp {x y : D} {z : Ret D} (h1 : evE G a δ S = .ok x S1) (h2 : evE G b δ S1 = .ok y S2) (h3 : cmpF op x y S2 = z) : evE G (.cmp op a b) δ S = z := by
  rw [evE]; show (evE G a δ S).bind _ = z; rw [h1]; show (evE G b δ S1).bind _ = z; rw [h2]; exact h3
theorem e_ix {x y : D} {z : Ret D} (h1 : evE G a δ S = .ok x S1) (h2 : evE G b δ S1 = .ok y S2) (h3 : ixF x y S2 = z) : evE G (.ix a b) δ S = z := by
  rw [evE]; show (evE G a δ S).bind _ = z; rw [h1]; show (evE G b δ S1).bind _ = z; rw [h2]; exact h3
theorem e_call {f : Str} {ds : List D} {z : Ret D} (h1 : evA G a δ S = .ok ds S1) (h3 : G.fn f ds S1 = z) : evE G (.call f a) δ S = z := by
  rw [evE]; show (evA G a δ S).bind _ = z; rw [h1]; exact h3
theorem e_bi {f : Bi} {ds : List D} {z : Ret D} (h1 : evA G a δ S = .ok ds S1) (h3 : biF f ds S1 = z) : evE G (.bi f a) δ S = z := by
  rw [evE]; show (evA G a δ S).bind _ = z; rw [h1]; exact h3
theorem e_isi {T : Ty5} {x : D} {z : Ret D} (h1 : evE G a δ S = .ok x S1) (h3 : isF T.nm x S1 = z) : evE G (.isi T a) δ S = z := by
  rw [evE]; show (evE G a δ S).bind _ = z; rw [h1]; exact h3
theorem e_tup {ds : List D} (h1 : evA G a δ S = .ok ds S1) (h2 : ds.length ≤ sz) : evE G (.tup a) δ S = .ok (.tup ds) S1 := by
  rw [evE]; show (evA G a δ S).bind _ = _; rw [h1]; show Mp.chk (decide (ds.length ≤ sz)) _ S1 = _; rw [decide_eq_true h2]; rfl
theorem e_lst {ds : List D} (h1 : evA G a δ S = .ok ds S1) (h2 : ds.length ≤ sz) : evE G (.lst a) δ S = .ok (.loc S1.length) (S1 ++ [.lst ds]) := by
  rw [evE]; show (evA G a δ S).bind _ = _; rw [h1]; show Mp.chk (decide (ds.length ≤ sz)) _ S1 = _; rw [decide_eq_true h2]; rfl
theorem e_andt {z : Ret D} (h1 : evE G a δ S = .ok (.bl true) S1) (h2 : evE G b δ S1 = z) : evE G (.andV a b) δ S = z := by
  rw [evE]; show (evE G a δ S).bind _ = _; rw [h1]; exact h2
theorem e_andf (h1 : evE G a δ S = .ok (.bl false) S1) : evE G (.andV a b) δ S = .ok (.bl false) S1 := by
  rw [evE]; show (evE G a δ S).bind _ = _; rw [h1]; rfl
theorem e_ort (h1 : evE G a δ S = .ok (.bl true) S1) : evE G (.orV a b) δ S = .ok (.bl true) S1 := by
  rw [evE]; show (evE G a δ S).bind _ = _; rw [h1]; rfl
theorem e_orf {z : Ret D} (h1 : evE G a δ S = .ok (.bl false) S1) (h2 : evE G b δ S1 = z) : evE G (.orV a b) δ S = z := by
  rw [evE]; show (evE G a δ S).bind _ = _; rw [h1]; exact h2
theorem e_not {x : Bool} (h1 : evE G a δ S = .ok (.bl x) S1) : evE G (.notV a) δ S = .ok (.bl (!x)) S1 := by
  rw [evE]; show (evE G a δ S).bind _ = _; rw [h1]; rfl
theorem e_neg {x : Int} (h1 : evE G a δ S = .ok (.int x) S1) : evE G (.neg a) δ S = .ok (.int (-x)) S1 := by
  rw [evE]; show (evE G a δ S).bind _ = _; rw [h1]; rfl
theorem e_sl {x : D} {l h : Option Int} {S3 : Sto} {lo hi : Ie} {z : Ret D} (h1 : evE G a δ S = .ok x S1) (h2 : evO G lo δ S1 = .ok l S2) (h3 : evO G hi δ S2 = .ok h S3) (h4 : slF x l h S3 = z) : evE G (.sl a lo hi) δ S = z := by
  rw [evE]; show (evE G a δ S).bind _ = _; rw [h1]; show (evO G lo δ S1).bind _ = _; rw [h2]; show (evO G hi δ S2).bind _ = _; rw [h3]; exact h4
theorem e_ifet {t : Ie} {z : Ret D} (h : evT G t δ S = .ok true S1) (k : evE G a δ S1 = z) : evE G (.ife t a b) δ S = z := by
  rw [evE]; show (evT G t δ S).bind _ = _; rw [h]; exact k
theorem e_ifef {t : Ie} {z : Ret D} (h : evT G t δ S = .ok false S1) (k : evE G b δ S1 = z) : evE G (.ife t a b) δ S = z := by
  rw [evE]; show (evT G t δ S).bind _ = _; rw [h]; exact k
theorem a_nl : evA G .nil δ S = .ok [] S := by rw [evA]; rfl
theorem a_cn {x : D} {xs : List D} (h1 : evE G a δ S = .ok x S1) (h2 : evA G b δ S1 = .ok xs S2) : evA G (.cons a b) δ S = .ok (x :: xs) S2 := by
  rw [evA]; show (evE G a δ S).bind _ = _; rw [h1]; show (evA G b δ S1).bind _ = _; rw [h2]; rfl
theorem o_nl : evO G .nil δ S = .ok none S := by rw [evO]; rfl
theorem o_cn {i : Int} (h1 : evE G a δ S = .ok (.int i) S1) : evO G (.cons a .nil) δ S = .ok (some i) S1 := by
  rw [evO]; show (evE G a δ S).bind _ = _; rw [h1]; rfl
theorem t_yes : evT G .yes δ S = .ok true S := by rw [evT]; rfl
theorem t_of {d : D} {z : Ret Bool} (h1 : evE G a δ S = .ok d S1) (h2 : truthy d S1 = z) : evT G (.cons a .nil) δ S = z := by
  rw [evT]; show (evE G a δ S).bind _ = _; rw [h1]; exact h2
theorem t_andt {z : Ret Bool} (h1 : evT G a δ S = .ok true S1) (h2 : evT G b δ S1 = z) : evT G (.andV a b) δ S = z := by
  rw [evT]; show (evT G a δ S).bind _ = _; rw [h1]; exact h2
theorem t_andf (h1 : evT G a δ S = .ok false S1) : evT G (.andV a b) δ S = .ok false S1 := by
  rw [evT]; show (evT G a δ S).bind _ = _; rw [h1]; rfl
theorem t_ort (h1 : evT G a δ S = .ok true S1) : evT G (.orV a b) δ S = .ok true S1 := by
  rw [evT]; show (evT G a δ S).bind _ = _; rw [h1]; rfl
theorem t_orf {z : Ret Bool} (h1 : evT G a δ S = .ok false S1) (h2 : evT G b δ S1 = z) : evT G (.orV a b) δ S = z := by
  rw [evT]; show (evT G a δ S).bind _ = _; rw [h1]; exact h2
theorem t_nt {x : Bool} (h1 : evT G a δ S = .ok x S1) : evT G (.notV a) δ S = .ok (!x) S1 := by
  rw [evT]; show (evT G a δ S).bind _ = _; rw [h1]; rfl
/-- and, or of two that are known -/
theorem t_and2 {x y : Bool} (h1 : evT G a δ S = .ok x S) (h2 : x = true → evT G b δ S = .ok y S) : evT G (.andV a b) δ S = .ok (x && y) S := by
  cases x with
  | true => exact t_andt h1 (h2 rfl)
  | false => exact t_andf h1
theorem t_or2 {x y : Bool} (h1 : evT G a δ S = .ok x S) (h2 : x = false → evT G b δ S = .ok y S) : evT G (.orV a b) δ S = .ok (x || y) S := by
  cases x with
  | true => exact t_ort h1
  | false => exact t_orf h1 (h2 rfl)
theorem i_v {d : D} {z : Ret (List D × Chk)} (h1 : evE G a δ S = .ok d S1) (h2 : iterF d S1 = z) : evI G (.itv a) δ S = z := by
  rw [evI]; show (evE G a δ S).bind _ = _; rw [h1]; exact h2
theorem i_r {ds : List D} {z : Ret (List D × Chk)} (h1 : evA G a δ S = .ok ds S1) (h2 : rngF ds S1 = z) : evI G (.itr a) δ S = z := by
  rw [evI]; show (evA G a δ S).bind _ = _; rw [h1]; exact h2
/-! ### operations, applied -/
theorem o_mul {i j : Int} (h : L2.CMulX i j) : binF .mul (.int i) (.int j) S = .ok (.int (i * j)) S := by
  show mulI i j S = _
  unfold mulI
  rw [if_pos h]
  rfl
theorem mulx64 {i j : Int} (h1 : -18446744073709551616 < i ∧ i < 18446744073709551616) (h2 : -18446744073709551616 < j ∧ j < 18446744073709551616) : L2.CMulX i j :=
  L2.mulx_ok (a := 64) (b := 64) (by omega) (by omega) (by omega)
theorem o_mul64 {i j : Int} (h1 : -18446744073709551616 < i ∧ i < 18446744073709551616) (h2 : -18446744073709551616 < j ∧ j < 18446744073709551616) : binF .mul (.int i) (.int j) S = .ok (.int (i * j)) S := o_mul (mulx64 h1 h2)
theorem o_mod {i j : Int} (h : 0 < j) : binF .mod (.int i) (.int j) S = .ok (.int (i % j)) S := by
  show Mp.chk (decide (j ≠ 0)) (mp (D.int (i.fmod j))) S = _
  rw [decide_eq_true (show j ≠ 0 by omega), Int.fmod_eq_emod_of_nonneg i (by omega)]
  rfl
theorem o_fdv {i j : Int} (h : 0 < j) (h2 : PySem.Builtin.divisionGoesByPylong i j = false) : binF .fdv (.int i) (.int j) S = .ok (.int (i / j)) S := by
  show Mp.chk (decide (j ≠ 0) && !PySem.Builtin.divisionGoesByPylong i j) (mp (D.int (i.fdiv j))) S = _
  rw [decide_eq_true (show j ≠ 0 by omega), h2, Int.fdiv_eq_ediv_of_nonneg i (by omega)]
  rfl
theorem o_fdv_s {i j : Int} (h : 0 < j) (h2 : j < 2 ^ 9000) : binF .fdv (.int i) (.int j) S = .ok (.int (i / j)) S :=
  o_fdv h (PyProof.noPylong_of_log2 (by
    have : j.natAbs < 2 ^ 9000 := by
      have e : ((j.natAbs : Nat) : Int) = j := Int.natAbs_of_nonneg (by omega)
      have : ((j.natAbs : Nat) : Int) < ((2 ^ 9000 : Nat) : Int) := by rw [e]; exact_mod_cast h2
      exact_mod_cast this
    exact PySem.Flt.log2_lt_of (by omega) this))
theorem eqF_of {x y : D} {d e : PyData} (h1 : D.py S 12 x = some d) (h2 : D.py S 12 y = some e) (s1 : SeqAt.shaped d = true) (s2 : SeqAt.shaped e = true) : eqF x y S = .ok (PyData.eqv d e) S := by
  unfold eqF
  rw [h1, h2]
  show (if (SeqAt.shaped d && SeqAt.shaped e) = true then _ else _) = _
  rw [s1, s2]
  rfl
theorem shaped_int {i : Int} : SeqAt.shaped (.int i) = true := by simp [SeqAt.shaped, PyData.canLay0, PyData.depth]
theorem eqF_int {i j : Int} : eqF (.int i) (.int j) S = .ok (decide (i = j)) S := by
  rw [eqF_of (d := .int i) (e := .int j) (by simp [D.py]) (by simp [D.py]) shaped_int shaped_int]
  simp [PyData.eqv]
  rfl
theorem o_eq {x y : D} {b : Bool} (h : eqF x y S = .ok b S) : cmpF .eq x y S = .ok (.bl b) S := by
  show (eqF x y S).bind _ = _
  rw [h]
  rfl
theorem o_ne {x y : D} {b : Bool} (h : eqF x y S = .ok b S) : cmpF .ne x y S = .ok (.bl (!b)) S := by
  show (eqF x y S).bind _ = _
  rw [h]
  rfl
theorem o_eq_int {i j : Int} : cmpF .eq (.int i) (.int j) S = .ok (.bl (decide (i = j))) S := o_eq eqF_int
theorem o_ne_int {i j : Int} : cmpF .ne (.int i) (.int j) S = .ok (.bl (!decide (i = j))) S := o_ne eqF_int
theorem o_ix {n : Nat} {ds : List D} {i : Int} {d : D} (h : (S[n]?).map rdOb = some (.lst ds)) (h2 : L2.atI ds i = some d) : ixF (.loc n) (.int i) S = .ok d S := by
  simp only [ixF, h, nth, h2]
  rfl
theorem o_ixl {n : Nat} {ds : List D} {i : Int} {d : D} (h : S[n]? = some (.lst ds)) (h2 : L2.atI ds i = some d) : ixF (.loc n) (.int i) S = .ok d S := o_ix (by rw [h]; rfl) h2
theorem o_ixt {ds : List D} {i : Int} {d : D} (h2 : L2.atI ds i = some d) : ixF (.tup ds) (.int i) S = .ok d S := by
  simp only [ixF, nth, h2]
  rfl
theorem o_ixw {ds : List D} {i : Int} {d : D} (h2 : L2.atI ds i = some d) : ixF (.wtup ds) (.int i) S = .ok d S := by
  simp only [ixF, nth, h2]
  rfl
theorem o_putl {n k : Nat} {ds : List D} {i : Int} {v : D} (h : S[n]? = some (.lst ds)) (h2 : L2.ixN ds.length i = some k) : putF (.loc n) (.int i) v S = .ok () (S.set n (.lst (ds.set k v))) := by
  simp only [putF, h, h2]
theorem o_len_l {n : Nat} {ds : List D} (h : S[n]? = some (.lst ds)) : biF .len [.loc n] S = .ok (.int ds.length) S := by
  show (itemsOf (.loc n) S).bind _ = _
  simp only [itemsOf, h]
  rfl
theorem o_len_t {ds : List D} : biF .len [.tup ds] S = .ok (.int ds.length) S := rfl
theorem o_len_w {ds : List D} : biF .len [.wtup ds] S = .ok (.int ds.length) S := rfl
theorem o_pow18 : binF .pow (.int 10) (.int 18) S = .ok (.int 1000000000000000000) S := by
  show Mp.chk (decide _) _ S = _
  rw [decide_eq_true (by decide)]
  rfl
end
end Mp
namespace Mp
open PySem
/-! ### results that do as others: the plain cases -/
mutual
/-- no place of the store in it -/
def flatD : D → Bool
  | .tup ds => flatDs ds
  | .wtup ds => flatDs ds
  | .loc _ => false
  | .exc _ => true
  | .scr _ => true
  | .non => true
  | .bl _ => true
  | .int _ => true
  | .str _ => true
def flatDs : List D → Bool
  | [] => true
  | d :: ds => flatD d && flatDs ds
end
mutual
theorem simD_flat {L : Nat} {ρ : Nat → Nat} : ∀ d : D, flatD d = true → simD L ρ d d
  | .tup ds, h => ⟨ds, rfl, simDs_flat ds h⟩
  | .wtup ds, h => ⟨ds, .inr rfl, simDs_flat ds h⟩
  | .loc _, h => by cases h
  | .exc _, _ => rfl
  | .scr _, _ => rfl
  | .non, _ => rfl
  | .bl _, _ => rfl
  | .int _, _ => rfl
  | .str _, _ => rfl
theorem simDs_flat {L : Nat} {ρ : Nat → Nat} : ∀ ds : List D, flatDs ds = true → simDs L ρ ds ds
  | [], _ => rfl
  | d :: ds, h => by
    have h : (flatD d && flatDs ds) = true := h
    obtain ⟨h1, h2⟩ := Bool.and_eq_true_iff.mp h
    exact ⟨d, ds, rfl, simD_flat d h1, simDs_flat ds h2⟩
end
theorem simS_refl (S g : Sto) : simS S S (S ++ g) id :=
  ⟨fun _ _ => rfl, Nat.le_refl _, fun _ _ _ _ h => h, fun k hk => ⟨by simp; omega, .inl ⟨hk, rfl, by rw [List.getElem?_append_left hk]⟩⟩⟩
theorem sim_pure {S g : Sto} {d d' : D} {r : Ret D} (h : r = .ok d' (S ++ g)) (s : simD S.length id d d') : simR S (.ok d S) r := ⟨d', S ++ g, id, h, simS_refl S g, s⟩
theorem sim_pure0 {S : Sto} {d : D} {r : Ret D} (h : r = .ok d S) (s : flatD d = true) : simR S (.ok d S) r := sim_pure (g := []) (by rw [List.append_nil]; exact h) (simD_flat d s)
theorem sim_exc {S g : Sto} {c : Str} {r : Ret D} (h : r = .exc c (S ++ g)) : simR S (.exc c S) r := ⟨S ++ g, id, h, simS_refl S g⟩
/-- the store with objects changed, and more behind; what is said is what is -/
theorem sim_same {S S2 g : Sto} {d d' : D} {r : Ret D} (h : r = .ok d' (S2 ++ g)) (hl : S.length ≤ S2.length) (ho : ∀ k o, S2[k]? = some o → (k < S.length ∧ S2[k]? = S[k]?) ∨ simO S2.length id o o) (s : simD S2.length id d d') : simR S (.ok d S2) r := by
  refine ⟨d', S2 ++ g, id, h, ⟨fun _ _ => rfl, hl, fun _ _ _ _ h => h, fun k hk => ⟨by simp; omega, ?_⟩⟩, s⟩
  have e : S2[k]? = some S2[k] := List.getElem?_eq_getElem hk
  rcases ho k _ e with ⟨h1, h2⟩ | h1
  · exact .inl ⟨h1, h2, by rw [List.getElem?_append_left hk, h2]⟩
  · right
    intro o2 o1 e2 e1
    rw [e] at e2
    cases e2
    rw [show id k = k from rfl, List.getElem?_append_left hk, e] at e1
    cases e1
    exact h1
end Mp
namespace Mp
open PySem
/-! ### more fuel, the same answer -/
def Ret.le {α : Type} (a b : Ret α) : Prop := a ≠ .bad → b = a
theorem Ret.le_refl {α : Type} (a : Ret α) : Ret.le a a := fun _ => rfl
theorem Ret.le_bind {α β : Type} {a b : Ret α} {f g : α → M β} (h : Ret.le a b) (k : ∀ x S, Ret.le (f x S) (g x S)) : Ret.le (a.bind f) (b.bind g) := by
  intro nb
  cases a with
  | bad => exact (nb rfl).elim
  | exc c S => rw [h (by intro e; cases e)]; rfl
  | ok x S => rw [h (by intro e; cases e)]; exact k x S nb
theorem forL_le {c : Chk} {g : Tg} {b1 b2 : Env → M Fl} (h : ∀ δ S, Ret.le (b1 δ S) (b2 δ S)) : ∀ (ds : List D) (δ : Env) (S : Sto), Ret.le (forL c g b1 ds δ S) (forL c g b2 ds δ S)
  | [], δ, S => by rw [forL, forL]; exact Ret.le_refl _
  | d :: ds, δ, S => by
    rw [forL, forL]
    show Ret.le (if okC c S = true then _ else _) (if okC c S = true then _ else _)
    by_cases q : okC c S = true
    · rw [if_pos q, if_pos q]
      cases g.put d δ with
      | none => exact Ret.le_refl _
      | some δ1 =>
        refine Ret.le_bind (h δ1 S) fun f S' => ?_
        cases f with
        | nx δ2 => exact forL_le h ds δ2 S'
        | rt v => exact Ret.le_refl _
    · rw [if_neg q, if_neg q]
      exact Ret.le_refl _
theorem whlL_le {t : Env → M Bool} {b1 b2 : Env → M Fl} (h : ∀ δ S, Ret.le (b1 δ S) (b2 δ S)) : ∀ (n m : Nat) (δ : Env) (S : Sto), n ≤ m → Ret.le (whlL t b1 n δ S) (whlL t b2 m δ S)
  | 0, m, δ, S, _ => fun nb => (nb rfl).elim
  | n + 1, 0, δ, S, hm => by omega
  | n + 1, m + 1, δ, S, hm => by
    rw [whlL, whlL]
    refine Ret.le_bind (Ret.le_refl _) fun x S' => ?_
    cases x with
    | false => exact Ret.le_refl _
    | true =>
      refine Ret.le_bind (h δ S') fun f S2 => ?_
      cases f with
      | nx δ2 => exact whlL_le h n m δ2 S2 (by omega)
      | rt v => exact Ret.le_refl _
theorem unlk_le {α : Type} {n : Nat} {a b : Ret α} (h : Ret.le a b) : Ret.le (unlk n a) (unlk n b) := by
  intro nb
  cases a with
  | bad => exact (nb rfl).elim
  | exc c S => exact (nb rfl).elim
  | ok x S => rw [h (by intro e; cases e)]
theorem evS_le (G : Gt) {n m : Nat} (hm : n ≤ m) : ∀ (is : Is) (δ : Env) (S : Sto), Ret.le (evS G n is δ S) (evS G m is δ S)
  | .cons a b, δ, S => by
    rw [evS, evS]
    refine Ret.le_bind (evS_le G hm a δ S) fun f S' => ?_
    cases f with
    | nx δ2 => exact evS_le G hm b δ2 S'
    | rt v => exact Ret.le_refl _
  | .ifs t a b, δ, S => by
    rw [evS, evS]
    refine Ret.le_bind (Ret.le_refl _) fun f S' => ?_
    cases f with
    | true => exact evS_le G hm a δ S'
    | false => exact evS_le G hm b δ S'
  | .for_ g it b, δ, S => by
    rw [evS, evS]
    exact Ret.le_bind (Ret.le_refl _) fun f S' => forL_le (evS_le G hm b) _ _ _
  | .forD g i b, δ, S => by
    rw [evS, evS]
    dsimp only
    cases δ[i]? with
    | none => exact Ret.le_refl _
    | some d =>
      cases d with
      | none => exact Ret.le_refl _
      | some d =>
        cases d with
        | loc k =>
          dsimp only
          cases S[k]? with
          | none => exact Ret.le_refl _
          | some o =>
            dsimp only
            cases dkeys o with
            | none => exact Ret.le_refl _
            | some ks => exact unlk_le (forL_le (evS_le G hm b) _ _ _)
        | _ => exact Ret.le_refl _
  | .whl t b, δ, S => by
    rw [evS, evS]
    exact whlL_le (evS_le G hm b) _ _ _ _ hm
  | .nil, δ, S => by rw [evS, evS]; exact Ret.le_refl _
  | .pass, δ, S => by rw [evS, evS]; exact Ret.le_refl _
  | .asg _ _, δ, S => by rw [evS, evS]; exact Ret.le_refl _
  | .par _ _ _ _, δ, S => by rw [evS, evS]; exact Ret.le_refl _
  | .unp _ _, δ, S => by rw [evS, evS]; exact Ret.le_refl _
  | .sub _ _ _, δ, S => by rw [evS, evS]; exact Ret.le_refl _
  | .ex _, δ, S => by rw [evS, evS]; exact Ret.le_refl _
  | .ret _, δ, S => by rw [evS, evS]; exact Ret.le_refl _
  | .retN, δ, S => by rw [evS, evS]; exact Ret.le_refl _
  | .rse _ _, δ, S => by rw [evS, evS]; exact Ret.le_refl _
  | .tri _ _ _ _ _ _, δ, S => by rw [evS, evS]; exact Ret.le_refl _
theorem evF_le (G : Gt) {n m : Nat} (hm : n ≤ m) (slots : Nat) (is : Is) (ds : List D) (S : Sto) : Ret.le (evF G n slots is ds S) (evF G m slots is ds S) := by
  unfold evF
  exact Ret.le_bind (evS_le G hm is _ S) fun f S' => by cases f <;> exact Ret.le_refl _
/-! ### what a def computes: its own run -/
open Classical in
noncomputable def specOf (G : Gt) (slots : Nat) (is : Is) (ds : List D) : M D := fun S =>
  if h : ∃ n, evF G n slots is ds S ≠ .bad then evF G h.choose slots is ds S else .bad
theorem specOf_run (G : Gt) (slots : Nat) (is : Is) (ds : List D) (S : Sto) (nb : specOf G slots is ds S ≠ .bad) : ∃ n, specOf G slots is ds S = evF G n slots is ds S := by
  unfold specOf at nb ⊢
  split
  · exact ⟨_, rfl⟩
  · rename_i h
    rw [dif_neg h] at nb
    exact (nb rfl).elim
theorem specOf_of {G : Gt} {slots : Nat} {is : Is} {ds : List D} {S : Sto} {r : Ret D} {n : Nat} (e : evF G n slots is ds S = r) (nb : r ≠ .bad) : specOf G slots is ds S = r := by
  have h : ∃ n, evF G n slots is ds S ≠ .bad := ⟨n, by rw [e]; exact nb⟩
  unfold specOf
  rw [dif_pos h]
  rcases Nat.le_total n h.choose with q | q
  · rw [evF_le G q slots is ds S (by rw [e]; exact nb), e]
  · rw [← evF_le G q slots is ds S h.choose_spec, e]
theorem specOf_ok {G : Gt} {slots : Nat} {is : Is} {ds : List D} {S S' : Sto} {d : D} {n : Nat} (e : evF G n slots is ds S = .ok d S') : specOf G slots is ds S = .ok d S' := specOf_of e (by intro h; cases h)
theorem specOf_exc {G : Gt} {slots : Nat} {is : Is} {ds : List D} {S S' : Sto} {c : Str} {n : Nat} (e : evF G n slots is ds S = .exc c S') : specOf G slots is ds S = .exc c S' := specOf_of e (by intro h; cases h)
/-- one def more in the table -/
noncomputable def Gt.add (G : Gt) (x : Str) (slots : Nat) (is : Is) : Gt := { G with fn := fun f => if f = x then specOf G slots is else G.fn f }
theorem Gt.add_eq {G : Gt} {x : Str} {slots : Nat} {is : Is} : (G.add x slots is).fn x = specOf G slots is := by
  show (if x = x then _ else _) = _
  rw [if_pos rfl]
theorem Gt.add_ne {G : Gt} {x y : Str} {slots : Nat} {is : Is} (h : (y == x) = false) : (G.add x slots is).fn y = G.fn y := by
  show (if y = x then _ else _) = _
  rw [if_neg (by intro e; rw [e] at h; simp at h)]
section
variable {P : Program} {w : World} {K : PySem.W.Frag} {mg : Str → Option Value} {base : Heap} {G : Gt} {fns : List (Str × Nat)} {cons exn : List Str} {k : Nat}
theorem Glob.ext {G' : Gt} (g : Glob P w K mg base G fns cons exn k) (hc : G'.con = G.con) (hf : ∀ f n, (f, n) ∈ fns → G'.fn f = G.fn f) : Glob P w K mg base G' fns cons exn k :=
  ⟨g.bi, by rw [hc]; exact g.con, fun f n e => by rw [hf f n e]; exact g.fn f n e, g.xt, g.rs⟩
/-- one def more, by its own run -/
theorem Glob.def_ {x qual : Str} {st : Stmt} {f : Addr} {fd : FuncData} {N ps : List Str} {is : Is} {a : Nat}
    (g : Glob P w K mg base G fns cons exn k) (F : L2.Fun K x qual st f fd) (Sc : L2.FnScope N ps (L2.defScope st)) (h1 : mg x = some (.ref f)) (h2 : PySem.W.keepIn K (.ref f) = true) (h3 : L2.Binds K fd ps [])
    (hc : chkB ⟨N, fns, cons, exn⟩ (L2.defScope st) is (L2.defBody st) = true) (hn : N.length = a) (hnew : (fns.all fun p => !(p.1 == x)) = true) :
    Glob P w K mg base (G.add x a is) ((x, ps.length) :: fns) cons exn (k + 1) := by
  subst hn
  have hne : ∀ f n, (f, n) ∈ fns → (f == x) = false := fun f n e => by
    have := List.all_eq_true.mp hnew _ e
    simpa using this
  have g2 : Glob P w K mg base (G.add x N.length is) fns cons exn k := g.ext rfl fun f n e => Gt.add_ne (hne f n e)
  refine g2.add h1 h2 h3 ?_ (Nat.le_succ k)
  rw [Gt.add_eq]
  exact def_ok F Sc g hc fun ds S _ nb => let ⟨n, e⟩ := specOf_run G N.length is ds S nb; ⟨n, .inr e⟩
end
end Mp
namespace Mp
open PySem PySem.Spec PyProof.Rows L2
/-! ### the program's classes of error, from facts of the written part -/
structure ClsF (K : PySem.W.Frag) (mg : Str → Option Value) (c : Str) (C : Addr) : Prop where
  ns : PySem.W.nsIn K mainGlobals c = some (some (.ref C))
  gm : mg c = some (.ref C)
  ty : PySem.W.typeIn K (.ref C) = some (.type "type")
  ve : PySem.W.subIn K (.ref C) (.type "ValueError") = some true
  xc : ExcC K C
theorem kit_ref {K : PySem.W.Frag} {C D : Addr} {b : Bool} (hd : PySem.W.hasDictIn K D = true) (ht : PySem.W.typeIn K (.ref D) = some (.type "type")) (h : PySem.W.subIn K (.ref C) (.ref D) = some b) (hs : PySem.W.subIn K (.ref C) (.ref C) = some true) : PySem.W.kitOne K (.ref C) (.ref D) = some b := by
  obtain ⟨cd, hc, _⟩ := PySem.W.any_some hd
  have e2 : ((PySem.W.clsIn K D).isSome && PySem.W.typeIn K (.ref D) == some (.type "type")) = true := by rw [hc, ht] <;> rfl
  show (if (Value.ref C == Value.ref D) = true then some true else if ((PySem.W.clsIn K D).isSome && PySem.W.typeIn K (.ref D) == some (.type "type")) = true then PySem.W.subIn K (.ref C) (.ref D) else none) = some b
  rw [if_pos e2]
  by_cases e : (Value.ref C == Value.ref D) = true
  · rw [if_pos e]
    have e3 : Value.ref C = Value.ref D := by simpa using e
    rw [← e3, hs] at h
    exact h
  · rw [if_neg e]
    exact h
theorem kit_VE {K : PySem.W.Frag} {C : Addr} (h : PySem.W.subIn K (.ref C) (.type "ValueError") = some true) : PySem.W.kitOne K (.ref C) (.type "ValueError") = some true := by
  show (if (Value.ref C == Value.type "ValueError") = true then some true else if PySem.W.kitMeta "ValueError" = true then PySem.W.subIn K (.ref C) (.type "ValueError") else none) = some true
  rw [if_pos (show PySem.W.kitMeta "ValueError" = true by decide +kernel), h]
  split <;> rfl
theorem ext_of {K : PySem.W.Frag} {mg : Str → Option Value} (l : List (Str × Addr)) (hl : l.map (·.1) = exnAll) (hc : ∀ p ∈ l, ClsF K mg p.1 p.2)
    (hs : ∀ p ∈ l, ∀ q ∈ l, PySem.W.subIn K (.ref p.2) (.ref q.2) = some (subE p.1 q.1)) (hr : ∀ c, subE c c = true) (ki : ∀ c C, PySem.W.nsIn K mainGlobals c = some (some (.ref C)) → mg c = some (.ref C)) (vn : mg ("ValueError" : Str) = none) : ExT K mg exnAll := by
  have get : ∀ c ∈ exnAll, ∃ p ∈ l, p.1 = c := fun c hc => by
    rw [← hl] at hc
    obtain ⟨p, h1, h2⟩ := List.mem_map.mp hc
    exact ⟨p, h1, h2⟩
  refine ⟨fun c h C hC => ?_, ki, fun d hd => ⟨hd, ?_⟩, vn⟩
  · obtain ⟨p, hp, rfl⟩ := get c h
    have F := hc p hp
    have e := F.gm.symm.trans hC
    cases e
    refine ⟨F.ns, F.xc, kit_VE F.ve, fun d hd D hD => ?_⟩
    obtain ⟨q, hq, rfl⟩ := get d hd
    have F2 := hc q hq
    have e := F2.gm.symm.trans hD
    cases e
    exact ⟨PySem.W.exm_ref F2.xc.hs F2.xc.hd F2.ty (hs p hp q hq), kit_ref F2.xc.hd F2.ty (hs p hp q hq) (by rw [hs p hp p hp, hr])⟩
  · obtain ⟨p, hp, rfl⟩ := get d hd
    exact ⟨p.2, (hc p hp).gm⟩
theorem ext_none {K : PySem.W.Frag} {mg : Str → Option Value} (h : ∀ c ∈ exnAll, mg c = none) (ki : ∀ c C, PySem.W.nsIn K mainGlobals c = some (some (.ref C)) → mg c = some (.ref C)) (vn : mg ("ValueError" : Str) = none) : ExT K mg [] :=
  ⟨fun c hc C hC => (by rw [h c hc] at hC; cases hC), ki, fun d hd => (by cases hd), vn⟩
theorem subE_refl (c : Str) : subE c c = true := by unfold subE; simp
/-- raise c('..') of such a class -/
theorem rs_of {P : Program} {w : World} {K : PySem.W.Frag} {mg : Str → Option Value} {c : Str} {C : Addr} (F : ClsF K mg c C) (kC : PySem.W.keepIn K (.ref C) = true)
    (q : PySem.W.excIn K C [.type "ValueError", .type "Exception", .type "BaseException", .type "object"] "ValueError.__new__" = true) (hdb : (c == ("__debug__" : Str)) = false) :
    ∀ (X : Cx) (E : XK), X.prog = P → X.w = w → X.K = K → X.mg = mg → X.calm = true → Takes X (fun cls d _ H => E cls d H) → ∀ (y : Str) (k : Nat) (p1 p2 p3 p4 : Pos), Gl X c → PS X (.Raise (some (.Call (.Name c p1) [.Constant (.str y) k p2] [] p3)) none p4) (fun _ _ H => ∀ C, X.mg c = some (.ref C) → E (.ref C) none H) := by
  intro X E hP hw hK hm calm tk y k p1 p2 p3 p4 gl
  subst hP hw hK hm
  exact PS.mono (ps_raise calm tk (pmk_own (j := k) PySem.F.excBase_ValueError q F.gm kC (raises_own F.xc.hs F.ty) gl hdb)) fun D σ H h => h C F.gm
end Mp
namespace Lib
open PySem Mp
theorem set_at {S : Sto} {t : Nat} {o o' : Ob} (h : S[t]? = some o) : (S.set t o')[t]? = some o' := by
  rw [List.getElem?_set_self (List.getElem?_eq_some_iff.mp h).1]
theorem set_ne {S : Sto} {t s : Nat} {o' : Ob} (h : s ≠ t) : (S.set t o')[s]? = S[s]? := by
  rw [List.getElem?_set_ne (Ne.symm h)]
theorem push_at {S : Sto} {o : Ob} : (S ++ [o])[S.length]? = some o := by simp
theorem push_old {S : Sto} {n : Nat} {o : Ob} {l : Sto} (h : S[n]? = some o) : (S ++ l)[n]? = some o := by
  rw [List.getElem?_append_left (List.getElem?_eq_some_iff.mp h).1]
  exact h
theorem le_sz {n : Nat} (h : n ≤ 1000) : n ≤ sz := Nat.le_trans h (by show 1000 ≤ PySem.sizeLine; decide)
theorem o_fdv64 {S : Sto} {i j : Int} (h : 0 < j) (h2 : j < 18446744073709551616) : binF .fdv (.int i) (.int j) S = .ok (.int (i / j)) S :=
  o_fdv h (PyProof.noPylong_of_log2 (Nat.lt_of_lt_of_le (PySem.Flt.log2_lt_of (show 0 < 64 by decide) (show j.natAbs < 2 ^ 64 by omega)) (by decide)))
local macro_rules | `(tactic| walk_at "mpl") => `(tactic| first
  | assumption | exact set_at (by (walk_at "mpl")) | (refine (set_ne (by assumption)).trans ?_; (walk_at "mpl")) | exact push_at | (refine push_old ?_; (walk_at "mpl")))
local macro_rules | `(tactic| walk_at "mpo") => `(tactic| first
  | exact o_eq_int | exact o_ne_int | exact o_pow18
  | (apply o_ixl; (walk_at "mpl"); exact rfl) | exact o_ixt rfl | exact o_ixw rfl
  | exact o_len_t | exact o_len_w | (apply o_len_l; (walk_at "mpl"))
  | exact o_mod (by omega) | exact o_fdv64 (by omega) (by omega) | exact o_mul64 (by omega) (by omega) | exact o_mul (by assumption)
  | exact rfl)
local macro_rules | `(tactic| walk_at "mpa") => `(tactic| first
  | exact a_nl
  | (apply a_cn; (walk_at "mpe"); (walk_at "mpa")))
local macro_rules | `(tactic| walk_at "mpp") => `(tactic| first
  | exact o_nl
  | (apply o_cn; (walk_at "mpe")))
local macro_rules | `(tactic| walk_at "mpe") => `(tactic| first
  | exact e_con | exact e_var rfl | exact e_glob rfl
  | (apply e_ix; (walk_at "mpe"); (walk_at "mpe"); (walk_at "mpo"))
  | (apply e_bin; (walk_at "mpe"); (walk_at "mpe"); (walk_at "mpo"))
  | (apply e_cmp; (walk_at "mpe"); (walk_at "mpe"); (walk_at "mpo"))
  | (apply e_bi; (walk_at "mpa"); (walk_at "mpo"))
  | (apply e_isi; (walk_at "mpe"); (walk_at "mpo"))
  | (apply e_tup; (walk_at "mpa"); exact le_sz (by simp))
  | (apply e_lst; (walk_at "mpa"); exact le_sz (by simp))
  | (apply e_call; (walk_at "mpa"); (walk_at "mpc"))
  | (apply e_sl; (walk_at "mpe"); (walk_at "mpp"); (walk_at "mpp"); (walk_at "mpo"))
  | (apply e_not; (walk_at "mpe"))
  | (apply e_neg; (walk_at "mpe")))
local macro_rules | `(tactic| walk_at "mpt") => `(tactic| first
  | exact t_yes
  | (apply t_of; (walk_at "mpe"); exact rfl)
  | (apply t_nt; (walk_at "mpt"))
  | (apply t_and2; (walk_at "mpt"); (intro _; (walk_at "mpt")))
  | (apply t_or2; (walk_at "mpt"); (intro _; (walk_at "mpt"))))
local macro_rules | `(tactic| walk_at "mps") => `(tactic| first
  | (apply r_asg; (walk_at "mpe"); (try dsimp only [List.set]))
  | (apply r_par; (walk_at "mpe"); (walk_at "mpe"); (try dsimp only [List.set]))
  | (apply Eq.trans; (apply r_ret; (walk_at "mpe")))
  | (apply r_sub; (walk_at "mpe"); (walk_at "mpe"); (walk_at "mpe"); apply o_putl; (walk_at "mpl"); exact rfl; (try dsimp only [List.set]))
  | (apply r_ex; (walk_at "mpe"))
  | (apply r_if (hx := rfl) (hy := rfl); (walk_at "mpt"); dsimp only [isApp])
  | exact r_nil)
def ir_law_draw : Is :=
  (.cons (.ifs (.cons (.cmp .eq (.ix (.var 0) (.con (.int 3))) (.con (.int 0))) .nil)
  (.cons (.asg 2 (.ix (.var 0) (.con (.int 1))))
  (.cons (.sub (.var 0) (.con (.int 1)) (.bin .add (.var 2) (.con (.int 1))))
  (.cons (.asg 3 (.con (.int 0)))
  (.cons (.ifs (.cons (.cmp .gt (.bi .len (.cons (.ix (.var 0) (.con (.int 0))) .nil)) (.con (.int 0))) .nil)
  (.cons (.asg 3 (.ix (.ix (.var 0) (.con (.int 0))) (.bin .mod (.var 2) (.bi .len (.cons (.ix (.var 0) (.con (.int 0))) .nil)))))
  .nil)
  .nil)
  (.cons (.ifs (.orV (.cons (.cmp .ge (.var 2) (.bi .len (.cons (.ix (.var 0) (.con (.int 0))) .nil))) .nil) (.cons (.cmp .lt (.var 3) (.bin .pow (.con (.int 10)) (.con (.int 18)))) .nil))
  (.cons (.asg 4 (.bin .add (.bin .add (.bin .mod (.bin .mul (.var 2) (.var 2)) (.con (.int 10007))) (.bin .mul (.con (.int 61)) (.var 2))) (.con (.int 7))))
  (.cons (.asg 4 (.bin .mod (.bin .mul (.bin .add (.bin .mod (.var 3) (.con (.int 999983))) (.con (.int 3))) (.var 4)) (.con (.int 1000003))))
  (.cons (.ret (.bin .mod (.bin .mod (.bin .add (.bin .fdv (.bin .mod (.bin .mul (.var 4) (.var 4)) (.con (.int 999979))) (.con (.int 3))) (.bin .mul (.con (.int 131)) (.var 2))) (.con (.int 99991))) (.var 1)))
  .nil)))
  .nil)
  (.cons (.sub (.var 0) (.con (.int 2)) (.bin .sub (.var 3) (.bin .pow (.con (.int 10)) (.con (.int 18)))))
  (.cons (.sub (.var 0) (.con (.int 3)) (.con (.int 40)))
  .nil)))))))
  .nil)
  (.cons (.sub (.var 0) (.con (.int 3)) (.bin .sub (.ix (.var 0) (.con (.int 3))) (.con (.int 1))))
  (.cons (.asg 5 (.ix (.var 0) (.con (.int 2))))
  (.cons (.sub (.var 0) (.con (.int 2)) (.bin .fdv (.var 5) (.var 1)))
  (.cons (.ret (.bin .mod (.var 5) (.var 1)))
  .nil)))))
def ir_law_low : Is :=
  (.cons (.ifs (.cons (.cmp .lt (.var 1) (.con (.int 0))) .nil)
  (.cons (.par 0 1 (.bin .sub (.con (.int 0)) (.var 0)) (.bin .sub (.con (.int 0)) (.var 1)))
  .nil)
  .nil)
  (.cons (.asg 2 (.bi .abs (.cons (.var 0) .nil)))
  (.cons (.asg 3 (.var 1))
  (.cons (.whl (.cons (.cmp .gt (.var 2) (.con (.int 0))) .nil)
  (.cons (.par 2 3 (.bin .mod (.var 3) (.var 2)) (.var 2))
  .nil))
  (.cons (.ret (.tup (.cons (.bin .fdv (.var 0) (.var 3)) (.cons (.bin .fdv (.var 1) (.var 3)) .nil))))
  .nil)))))
structure Tape where
  cells : List Int
  spot : Int
  rest : Int
  left : Int
def encT (s : Nat) (T : Tape) : Ob := .lst [.loc s, .int T.spot, .int T.rest, .int T.left]
def cellAt (T : Tape) : Int := if 0 < T.cells.length then T.cells.getD (T.spot % T.cells.length).toNat 0 else 0
def drawF (T : Tape) (many : Int) : Int × Tape :=
  if T.left = 0 then
    if (T.cells.length : Int) ≤ T.spot ∨ cellAt T < 1000000000000000000 then
      (((cellAt T % 999983 + 3) * (T.spot * T.spot % 10007 + 61 * T.spot + 7) % 1000003 * ((cellAt T % 999983 + 3) * (T.spot * T.spot % 10007 + 61 * T.spot + 7) % 1000003) % 999979 / 3 + 131 * T.spot) % 99991 % many, { T with spot := T.spot + 1 })
    else ((cellAt T - 1000000000000000000) % many, ⟨T.cells, T.spot + 1, (cellAt T - 1000000000000000000) / many, 39⟩)
  else (T.rest % many, ⟨T.cells, T.spot, T.rest / many, T.left - 1⟩)
structure AtT (S : Sto) (t s : Nat) (T : Tape) : Prop where
  tp : S[t]? = some (encT s T)
  cs : S[s]? = some (.lst (T.cells.map D.int))
  ne : s ≠ t
theorem AtT.set {S : Sto} {t s : Nat} {T T' : Tape} (h : AtT S t s T) (e : T'.cells = T.cells) : AtT (S.set t (encT s T')) t s T' :=
  ⟨set_at h.tp, by rw [set_ne h.ne, h.cs, e], h.ne⟩
theorem cell_at (T : Tape) (h : 0 < T.cells.length) : L2.atI (T.cells.map D.int) (T.spot % (T.cells.length : Int)) = some (.int (cellAt T)) := by
  have h1 := Int.emod_nonneg T.spot (show ((T.cells.length : Nat) : Int) ≠ 0 by omega)
  have h2 := Int.emod_lt_of_pos T.spot (show (0 : Int) < (T.cells.length : Nat) by omega)
  obtain ⟨n, hn⟩ := Int.eq_ofNat_of_zero_le h1
  have hlt : n < T.cells.length := by omega
  unfold cellAt
  rw [if_pos h, hn]
  exact L2.atI_nat (xs := T.cells.map D.int) (j := n) (v := .int (T.cells.getD n 0)) (by simp [List.getElem?_eq_getElem hlt, List.getD])
theorem cell_at' (T : Tape) (h : 0 < T.cells.length) : L2.atI (T.cells.map D.int) (T.spot % ((T.cells.map D.int).length : Int)) = some (.int (cellAt T)) := by
  rw [List.length_map]
  exact cell_at T h
theorem draw_run (G : Gt) (N : Nat) (S : Sto) (t s : Nat) (T : Tape) (many : Int) (h : AtT S t s T) (h0 : 0 ≤ T.spot) (h1 : T.spot < 1000000000) (h2 : 0 < many) (h3 : many < 18446744073709551616) :
    evF G N 6 ir_law_draw [.loc t, .int many] S = .ok (.int (drawF T many).1) (S.set t (encT s (drawF T many).2)) := by
  apply r_fun
  show evS G N ir_law_draw [some (.loc t), some (.int many), none, none, none, none] S = _
  dsimp only [ir_law_draw]
  have htp : S[t]? = some (.lst [.loc s, .int T.spot, .int T.rest, .int T.left]) := h.tp
  have hcs := h.cs
  have ne := h.ne
  walk_at "mps"
  · intro c
    have c := of_decide_eq_true c
    walk_at "mps"
    walk_at "mps"
    walk_at "mps"
    have hlm : (T.cells.map D.int).length = T.cells.length := List.length_map ..
    apply r_ifj [some (.loc t), some (.int many), some (.int T.spot), some (.int (cellAt T)), none, none] (S.set t (encT s { T with spot := T.spot + 1 }))
    · walk_at "mpt"
    · intro c1
      have c1 : 0 < T.cells.length := by have := of_decide_eq_true c1; simpa using this
      apply r_asg
      · apply e_ix
        · walk_at "mpe"
        · walk_at "mpe"
        · apply o_ixl
          · walk_at "mpl"
          · exact cell_at' T c1
      · exact r_nil
    · intro c1
      have c1 : ¬ 0 < T.cells.length := by have := of_decide_eq_false c1; simpa using this
      have e : cellAt T = 0 := by unfold cellAt; rw [if_neg c1]
      rw [e]
      exact r_nil
    have hA := h.set (T' := { T with spot := T.spot + 1 }) rfl
    have htp : (S.set t (encT s { T with spot := T.spot + 1 }))[t]? = some (.lst [.loc s, .int (T.spot + 1), .int T.rest, .int T.left]) := hA.tp
    have hcs := hA.cs
    generalize hS : S.set t (encT s { T with spot := T.spot + 1 }) = S' at hA htp hcs ⊢
    have cpos := Int.emod_nonneg (cellAt T) (show (999983 : Int) ≠ 0 by decide)
    have cpos2 := Int.emod_lt_of_pos (cellAt T) (show (0 : Int) < 999983 by decide)
    have spos := Int.emod_nonneg (T.spot * T.spot) (show (10007 : Int) ≠ 0 by decide)
    have spos2 := Int.emod_lt_of_pos (T.spot * T.spot) (show (0 : Int) < 10007 by decide)
    apply r_if (hx := rfl) (hy := rfl)
    · walk_at "mpt"
    · intro c2
      dsimp only [isApp]
      walk_at "mps"
      walk_at "mps"
      generalize hso : (cellAt T % 999983 + 3) * (T.spot * T.spot % 10007 + 61 * T.spot + 7) % 1000003 = so
      have so1 := Int.emod_nonneg ((cellAt T % 999983 + 3) * (T.spot * T.spot % 10007 + 61 * T.spot + 7)) (show (1000003 : Int) ≠ 0 by decide)
      have so2 := Int.emod_lt_of_pos ((cellAt T % 999983 + 3) * (T.spot * T.spot % 10007 + 61 * T.spot + 7)) (show (0 : Int) < 1000003 by decide)
      rw [hso] at so1 so2
      walk_at "mps"
      have e : drawF T many = ((so * so % 999979 / 3 + 131 * T.spot) % 99991 % many, { T with spot := T.spot + 1 }) := by
        unfold drawF
        rw [if_pos c, if_pos (by simpa using c2), hso]
      rw [e, ← hS]
    · intro c2
      dsimp only [isApp]
      walk_at "mps"
      walk_at "mps"
      walk_at "mps"
      walk_at "mps"
      walk_at "mps"
      walk_at "mps"
      have e : drawF T many = ((cellAt T - 1000000000000000000) % many, ⟨T.cells, T.spot + 1, (cellAt T - 1000000000000000000) / many, 39⟩) := by
        unfold drawF
        rw [if_pos c, if_neg (by simpa using c2)]
      rw [e, ← hS, List.set_set, List.set_set, List.set_set, List.set_set, List.set_set]
      rfl
  · intro c
    walk_at "mps"
    walk_at "mps"
    walk_at "mps"
    walk_at "mps"
    have e : drawF T many = (T.rest % many, ⟨T.cells, T.spot, T.rest / many, T.left - 1⟩) := by
      unfold drawF
      rw [if_neg (of_decide_eq_false c)]
    rw [e, List.set_set]
    rfl
end Lib
namespace Lib
open PySem Mp
local macro_rules | `(tactic| walk_at "mpl") => `(tactic| first
  | assumption | exact set_at (by (walk_at "mpl")) | (refine (set_ne (by assumption)).trans ?_; (walk_at "mpl")) | exact push_at | (refine push_old ?_; (walk_at "mpl")))
local macro_rules | `(tactic| walk_at "mpo") => `(tactic| first
  | exact o_eq_int | exact o_ne_int | exact o_pow18
  | (apply o_ixl; (walk_at "mpl"); exact rfl) | exact o_ixt rfl | exact o_ixw rfl
  | exact o_len_t | exact o_len_w | (apply o_len_l; (walk_at "mpl"))
  | exact o_mod (by omega) | exact o_fdv64 (by omega) (by omega) | exact o_mul64 (by omega) (by omega) | exact o_mul (by assumption)
  | exact rfl)
local macro_rules | `(tactic| walk_at "mpa") => `(tactic| first
  | exact a_nl
  | (apply a_cn; (walk_at "mpe"); (walk_at "mpa")))
local macro_rules | `(tactic| walk_at "mpp") => `(tactic| first
  | exact o_nl
  | (apply o_cn; (walk_at "mpe")))
local macro_rules | `(tactic| walk_at "mpe") => `(tactic| first
  | exact e_con | exact e_var rfl | exact e_glob rfl
  | (apply e_ix; (walk_at "mpe"); (walk_at "mpe"); (walk_at "mpo"))
  | (apply e_bin; (walk_at "mpe"); (walk_at "mpe"); (walk_at "mpo"))
  | (apply e_cmp; (walk_at "mpe"); (walk_at "mpe"); (walk_at "mpo"))
  | (apply e_bi; (walk_at "mpa"); (walk_at "mpo"))
  | (apply e_isi; (walk_at "mpe"); (walk_at "mpo"))
  | (apply e_tup; (walk_at "mpa"); exact le_sz (by simp))
  | (apply e_lst; (walk_at "mpa"); exact le_sz (by simp))
  | (apply e_call; (walk_at "mpa"); (walk_at "mpc"))
  | (apply e_sl; (walk_at "mpe"); (walk_at "mpp"); (walk_at "mpp"); (walk_at "mpo"))
  | (apply e_not; (walk_at "mpe"))
  | (apply e_neg; (walk_at "mpe")))
local macro_rules | `(tactic| walk_at "mpt") => `(tactic| first
  | exact t_yes
  | (apply t_of; (walk_at "mpe"); exact rfl)
  | (apply t_nt; (walk_at "mpt"))
  | (apply t_and2; (walk_at "mpt"); (intro _; (walk_at "mpt")))
  | (apply t_or2; (walk_at "mpt"); (intro _; (walk_at "mpt"))))
local macro_rules | `(tactic| walk_at "mps") => `(tactic| first
  | (apply r_asg; (walk_at "mpe"); (try dsimp only [List.set]))
  | (apply r_par; (walk_at "mpe"); (walk_at "mpe"); (try dsimp only [List.set]))
  | (apply Eq.trans; (apply r_ret; (walk_at "mpe")))
  | (apply r_sub; (walk_at "mpe"); (walk_at "mpe"); (walk_at "mpe"); apply o_putl; (walk_at "mpl"); exact rfl; (try dsimp only [List.set]))
  | (apply r_ex; (walk_at "mpe"))
  | (apply r_if (hx := rfl) (hy := rfl); (walk_at "mpt"); dsimp only [isApp])
  | exact r_nil)
def ir_is_whole : Is :=
  (.cons (.ret (.andV (.isi .int (.var 0)) (.notV (.isi .bool (.var 0)))))
  .nil)
def ir_common_measure : Is :=
  (.cons (.whl (.cons (.cmp .ne (.var 1) (.con (.int 0))) .nil)
  (.cons (.par 0 1 (.var 1) (.bin .mod (.var 0) (.var 1)))
  .nil))
  (.cons (.ret (.var 0))
  .nil))
def ir_is_fraction : Is :=
  (.cons (.ifs (.orV (.notV (.cons (.isi .tup (.var 0)) .nil)) (.orV (.cons (.cmp .ne (.bi .len (.cons (.var 0) .nil)) (.con (.int 2))) .nil) (.orV (.notV (.cons (.call "is_whole" (.cons (.ix (.var 0) (.con (.int 0))) .nil)) .nil)) (.notV (.cons (.call "is_whole" (.cons (.ix (.var 0) (.con (.int 1))) .nil)) .nil)))))
  (.cons (.ret (.con (.bl false)))
  .nil)
  .nil)
  (.cons (.ret (.andV (.cmp .gt (.ix (.var 0) (.con (.int 1))) (.con (.int 0))) (.cmp .eq (.call "common_measure" (.cons (.bi .abs (.cons (.ix (.var 0) (.con (.int 0))) .nil)) (.cons (.ix (.var 0) (.con (.int 1))) .nil))) (.con (.int 1)))))
  .nil))
def ir_law_is_number : Is :=
  (.cons (.ifs (.orV (.notV (.cons (.isi .tup (.var 0)) .nil)) (.cons (.cmp .ne (.bi .len (.cons (.var 0) .nil)) (.con (.int 2))) .nil))
  (.cons (.ret (.con (.bl false)))
  .nil)
  .nil)
  (.cons (.for_ (.nm 1) (.itv (.var 0))
  (.cons (.ifs (.orV (.notV (.cons (.isi .int (.var 1)) .nil)) (.cons (.isi .bool (.var 1)) .nil))
  (.cons (.ret (.con (.bl false)))
  .nil)
  .nil)
  .nil))
  (.cons (.ret (.andV (.cmp .gt (.ix (.var 0) (.con (.int 1))) (.con (.int 0))) (.cmp .eq (.call "_law_low" (.cons (.ix (.var 0) (.con (.int 0))) (.cons (.ix (.var 0) (.con (.int 1))) .nil))) (.var 0))))
  .nil)))
def ir_law_whole_number : Is :=
  (.cons (.asg 1 (.call "_law_draw" (.cons (.var 0) (.cons (.con (.int 6)) .nil))))
  (.cons (.asg 2 (.call "_law_draw" (.cons (.var 0) (.cons (.con (.int 10)) .nil))))
  (.cons (.ifs (.cons (.cmp .eq (.var 1) (.con (.int 4))) .nil)
  (.cons (.asg 2 (.call "_law_draw" (.cons (.var 0) (.cons (.bin .pow (.con (.int 10)) (.con (.int 12))) .nil))))
  .nil)
  .nil)
  (.cons (.ifs (.cons (.cmp .eq (.var 1) (.con (.int 5))) .nil)
  (.cons (.asg 2 (.bin .add (.bin .mul (.call "_law_draw" (.cons (.var 0) (.cons (.bin .pow (.con (.int 10)) (.con (.int 18))) .nil))) (.bin .pow (.bin .pow (.con (.int 10)) (.con (.int 60))) (.con (.int 4)))) (.call "_law_draw" (.cons (.var 0) (.cons (.bin .pow (.con (.int 10)) (.con (.int 18))) .nil)))))
  .nil)
  .nil)
  (.cons (.ret (.bin .mul (.var 2) (.bin .sub (.con (.int 1)) (.bin .mul (.con (.int 2)) (.call "_law_draw" (.cons (.var 0) (.cons (.con (.int 2)) .nil)))))))
  .nil)))))
def ir_law_things : Is :=
  (.cons (.asg 1 (.call "_law_whole_number" (.cons (.var 0) .nil)))
  (.cons (.asg 2 (.call "_law_whole_number" (.cons (.var 0) .nil)))
  (.cons (.asg 3 (.tup (.cons (.var 1) (.cons (.con (.int 1)) .nil))))
  (.cons (.ifs (.cons (.cmp .ne (.var 2) (.con (.int 0))) .nil)
  (.cons (.asg 3 (.call "_law_low" (.cons (.var 1) (.cons (.var 2) .nil))))
  .nil)
  .nil)
  (.cons (.asg 4 (.bin .add (.con (.int 2)) (.call "_law_draw" (.cons (.var 0) (.cons (.con (.int 9)) .nil)))))
  (.cons (.asg 5 (.lst (.cons (.tup (.cons (.var 1) (.cons (.var 2) .nil))) (.cons (.var 3) (.cons (.tup (.cons (.bin .mul (.ix (.var 3) (.con (.int 0))) (.var 4)) (.cons (.bin .mul (.ix (.var 3) (.con (.int 1))) (.var 4)) .nil))) (.cons (.tup (.cons (.ix (.var 3) (.con (.int 0))) (.cons (.bin .sub (.con (.int 0)) (.ix (.var 3) (.con (.int 1)))) .nil))) (.cons (.tup (.cons (.ix (.var 3) (.con (.int 0))) (.cons (.con (.int 0)) .nil))) (.cons (.tup (.cons (.con (.int 0)) (.cons (.var 4) .nil))) (.cons (.tup (.cons (.var 4) (.cons (.var 4) .nil))) .nil)))))))))
  (.cons (.asg 5 (.bin .add (.var 5) (.lst (.cons (.bi .list (.cons (.var 3) .nil)) (.cons (.bin .add (.var 3) (.tup (.cons (.con (.int 1)) .nil))) (.cons (.sl (.var 3) .nil (.cons (.con (.int 1)) .nil)) (.cons (.tup .nil) (.cons (.tup (.cons (.cmp .gt (.ix (.var 3) (.con (.int 0))) (.con (.int 0))) (.cons (.ix (.var 3) (.con (.int 1))) .nil))) (.cons (.tup (.cons (.ix (.var 3) (.con (.int 0))) (.cons (.cmp .eq (.ix (.var 3) (.con (.int 1))) (.con (.int 1))) .nil))) (.cons (.tup (.cons (.var 3) (.cons (.var 3) .nil))) .nil))))))))))
  (.cons (.ret (.bin .add (.var 5) (.lst (.cons (.tup (.cons (.bi .str (.cons (.var 4) .nil)) (.cons (.ix (.var 3) (.con (.int 1))) .nil))) (.cons (.tup (.cons (.ix (.var 3) (.con (.int 0))) (.cons (.con .non) .nil))) (.cons (.lst (.cons (.var 3) .nil)) (.cons (.ix (.var 3) (.con (.int 0))) (.cons (.con .non) (.cons (.con (.str "1/2")) (.cons (.con (.bl true)) (.cons (.tup (.cons (.bin .add (.ix (.var 3) (.con (.int 0))) (.con (.int 1))) (.cons (.ix (.var 3) (.con (.int 1))) .nil))) .nil)))))))))))
  .nil))))))))
/-! ### gcd -/
theorem gcd_step {a b : Int} (ha : 0 ≤ a) (hb : 0 < b) : Int.gcd b (a % b) = Int.gcd a b := by
  rw [Int.gcd_comm a b]
  obtain ⟨x, rfl⟩ := Int.eq_ofNat_of_zero_le ha
  obtain ⟨y, rfl⟩ := Int.eq_ofNat_of_zero_le (Int.le_of_lt hb)
  show Nat.gcd _ _ = Nat.gcd _ _
  rw [← Int.natCast_emod]
  simp only [Int.natAbs_natCast]
  rw [Nat.gcd_comm y (x % y), ← Nat.gcd_rec, Nat.gcd_comm]
theorem low_loop (G : Gt) (N : Nat) (d0 d1 : D) : ∀ (n : Nat) (a b : Int) (S : Sto), 0 ≤ a → 0 ≤ b → a.toNat < n →
    whlL (evT G (.cons (.cmp .gt (.var 2) (.con (.int 0))) .nil)) (evS G N (.cons (.par 2 3 (.bin .mod (.var 3) (.var 2)) (.var 2)) .nil)) n [some d0, some d1, some (.int a), some (.int b)] S
      = .ok (.nx [some d0, some d1, some (.int 0), some (.int (Int.gcd a b))]) S := by
  intro n
  induction n with
  | zero => intro a b S _ _ h; omega
  | succ n ih =>
    intro a b S ha hb h
    by_cases c : 0 < a
    · apply w_true (S1 := S)
      · apply t_of
        · walk_at "mpe"
        · show Ret.ok (decide (0 < a)) S = _
          rw [decide_eq_true c]
      · walk_at "mps"
        exact r_nil
      · have h1 := Int.emod_nonneg b (show a ≠ 0 by omega)
        have h2 := Int.emod_lt_of_pos b c
        rw [ih (b % a) a S h1 ha (by omega)]
        rw [Int.gcd_comm (b % a) a, gcd_step hb c, Int.gcd_comm b a]
    · have : a = 0 := by omega
      subst this
      rw [w_false (S1 := S)]
      · have : ((Int.gcd 0 b : Nat) : Int) = b := by simp; omega
        rw [this]
      · apply t_of
        · walk_at "mpe"
        · exact rfl
def lowF (a b : Int) : Int × Int := if b < 0 then (-a / Int.gcd a b, -b / Int.gcd a b) else (a / Int.gcd a b, b / Int.gcd a b)
def encI (p : Int × Int) : D := .tup [.int p.1, .int p.2]
theorem gcd_bits {a b : Int} {n : Nat} (hb : b ≠ 0) (h : b.natAbs < 2 ^ n) : ((Int.gcd a b : Nat) : Int).natAbs < 2 ^ n := by
  have h1 : Int.gcd a b ≤ b.natAbs := Nat.le_of_dvd (by omega) (Int.gcd_dvd_natAbs_right a b)
  rw [Int.natAbs_natCast]
  omega
theorem gcd_pos {a b : Int} (hb : b ≠ 0) : (0 : Int) < (Int.gcd a b : Nat) := by
  have := Int.gcd_pos_of_ne_zero_right a hb
  omega
theorem o_fdvg {S : Sto} {i j : Int} (h : 0 < j) (h2 : j.natAbs < 2 ^ 8000) : binF .fdv (.int i) (.int j) S = .ok (.int (i / j)) S :=
  o_fdv h (PyProof.noPylong_of_log2 (Nat.lt_of_lt_of_le (PySem.Flt.log2_lt_of (show 0 < 8000 by decide) h2) (by decide)))
theorem abs_eq (a : Int) : (if a < 0 then -a else a) = (a.natAbs : Int) := by split <;> omega
theorem low_run (G : Gt) (S : Sto) (a b : Int) (hb : b ≠ 0) (h : b.natAbs < 2 ^ 8000) : ∃ n, evF G n 4 ir_law_low [.int a, .int b] S = .ok (encI (lowF a b)) S := by
  refine ⟨a.natAbs + 1, ?_⟩
  have key : ∀ a' b' : Int, 0 < b' → b'.natAbs < 2 ^ 8000 → a'.natAbs < a.natAbs + 1 → evS G (a.natAbs + 1) (isApp .nil (.cons (.asg 2 (.bi .abs (.cons (.var 0) .nil)))
  (.cons (.asg 3 (.var 1))
  (.cons (.whl (.cons (.cmp .gt (.var 2) (.con (.int 0))) .nil)
  (.cons (.par 2 3 (.bin .mod (.var 3) (.var 2)) (.var 2))
  .nil))
  (.cons (.ret (.tup (.cons (.bin .fdv (.var 0) (.var 3)) (.cons (.bin .fdv (.var 1) (.var 3)) .nil))))
  .nil))))) [some (.int a'), some (.int b'), none, none] S = .ok (.rt (encI (a' / Int.gcd a' b', b' / Int.gcd a' b'))) S := fun a' b' h1 h2 h3 => by
    dsimp only [isApp]
    walk_at "mps"
    walk_at "mps"
    apply r_whl
    · rw [abs_eq]
      exact low_loop G _ _ _ _ _ _ _ (by omega) (by omega) (by omega)
    · have e : Int.gcd ((a'.natAbs : Nat) : Int) b' = Int.gcd a' b' := by show Nat.gcd _ _ = Nat.gcd _ _; rw [Int.natAbs_natCast]
      rw [e]
      have g1 := gcd_pos (a := a') (show b' ≠ 0 by omega)
      have g2 := gcd_bits (a := a') (show b' ≠ 0 by omega) h2
      apply r_ret
      apply e_tup
      · apply a_cn
        · apply e_bin
          · walk_at "mpe"
          · walk_at "mpe"
          · exact o_fdvg g1 g2
        · apply a_cn
          · apply e_bin
            · walk_at "mpe"
            · walk_at "mpe"
            · exact o_fdvg g1 g2
          · exact a_nl
      · exact le_sz (by simp)
  apply r_fun
  show evS G _ ir_law_low [some (.int a), some (.int b), none, none] S = _
  dsimp only [ir_law_low]
  apply r_if (hx := rfl) (hy := rfl)
  · walk_at "mpt"
  · intro c
    have c : b < 0 := of_decide_eq_true c
    dsimp only [isApp]
    walk_at "mps"
    have := key (0 - a) (0 - b) (by omega) (by omega) (by omega)
    dsimp only [isApp] at this
    rw [this]
    unfold lowF
    rw [if_pos c]
    have e : Int.gcd (0 - a) (0 - b) = Int.gcd a b := by
      show Nat.gcd _ _ = Nat.gcd _ _
      rw [show (0 - a).natAbs = a.natAbs by omega, show (0 - b).natAbs = b.natAbs by omega]
    rw [e, show 0 - a = -a by omega, show 0 - b = -b by omega]
  · intro c
    have c : ¬ b < 0 := of_decide_eq_false c
    have := key a b (by omega) h (by omega)
    rw [this]
    unfold lowF
    rw [if_neg c]
/-! ### which things are fractions -/
def fracB (d : D) : Bool := match tp? d with
  | some [.int a, .int b] => decide (0 < b) && decide (Int.gcd a b = 1)
  | _ => false
/-- a thing that may be looked at: kinds known, the lower number not huge -/
def okD (S : Sto) (d : D) : Prop := (tyName S d).isSome = true ∧ ∀ ds, tp? d = some ds → ∀ x ∈ ds, (tyName S x).isSome = true ∧ ∀ b, x = .int b → b.natAbs < 2 ^ 8000
def wholeB : D → Bool
  | .int _ => true
  | _ => false
theorem isF_ok {S : Sto} {d : D} {T : String} {t : String} (h : tyName S d = some t) : isF T d S = .ok (.bl (t == T || (T == "int" && t == "bool"))) S := by
  unfold isF
  rw [h]
theorem whole_run (G : Gt) (N : Nat) (S : Sto) (d : D) (h : (tyName S d).isSome = true) : evF G N 1 ir_is_whole [d] S = .ok (.bl (wholeB d)) S := by
  apply r_fun
  show evS G N ir_is_whole [some d] S = _
  dsimp only [ir_is_whole]
  apply r_ret
  obtain ⟨t, ht⟩ := Option.isSome_iff_exists.mp h
  cases d with
  | int i =>
    apply e_andt
    · apply e_isi
      · exact e_var rfl
      · exact rfl
    · refine (e_not (x := false) ?_)
      apply e_isi
      · exact e_var rfl
      · exact rfl
  | bl i =>
    apply e_andt
    · apply e_isi
      · exact e_var rfl
      · exact rfl
    · refine (e_not (x := true) ?_)
      apply e_isi
      · exact e_var rfl
      · exact rfl
  | exc c => cases ht
  | scr c => cases ht
  | loc n =>
    apply e_andf
    apply e_isi
    · exact e_var rfl
    · rw [isF_ok ht]
      have h2 : t ≠ "int" ∧ t ≠ "bool" := by
        cases q : S[n]? with
        | none => simp only [tyName, q] at ht; cases ht
        | some o =>
          cases o <;> (try rename_i o; cases o) <;> simp only [tyName, q] at ht <;> first | (cases ht; done) | (cases ht; exact ⟨by decide, by decide⟩)
      simp [Ty5.nm, h2.1, h2.2]
  | _ =>
    apply e_andf
    apply e_isi
    · exact e_var rfl
    · exact rfl
theorem cm_loop (G : Gt) (N : Nat) : ∀ (n : Nat) (a b : Int) (S : Sto), 0 ≤ a → 0 ≤ b → b.toNat < n →
    whlL (evT G (.cons (.cmp .ne (.var 1) (.con (.int 0))) .nil)) (evS G N (.cons (.par 0 1 (.var 1) (.bin .mod (.var 0) (.var 1))) .nil)) n [some (.int a), some (.int b)] S
      = .ok (.nx [some (.int (Int.gcd a b)), some (.int 0)]) S := by
  intro n
  induction n with
  | zero => intro a b S _ _ h; omega
  | succ n ih =>
    intro a b S ha hb h
    by_cases c : b = 0
    · subst c
      rw [w_false (S1 := S)]
      · have : ((Int.gcd a 0 : Nat) : Int) = a := by simp; omega
        rw [this]
      · apply t_of
        · walk_at "mpe"
        · exact rfl
    · apply w_true (S1 := S)
      · apply t_of
        · walk_at "mpe"
        · show Ret.ok (!decide (b = 0)) S = _
          rw [decide_eq_false c]
          rfl
      · have hb' : 0 < b := by omega
        walk_at "mps"
        exact r_nil
      · have h1 := Int.emod_nonneg a c
        have h2 := Int.emod_lt_of_pos a (show 0 < b by omega)
        rw [ih b (a % b) S hb h1 (by omega), gcd_step ha (by omega)]
theorem cm_run (G : Gt) (S : Sto) (a b : Int) (ha : 0 ≤ a) (hb : 0 ≤ b) : ∃ n, evF G n 2 ir_common_measure [.int a, .int b] S = .ok (.int (Int.gcd a b)) S := by
  refine ⟨b.toNat + 1, ?_⟩
  apply r_fun
  show evS G _ ir_common_measure [some (.int a), some (.int b)] S = _
  dsimp only [ir_common_measure]
  apply r_whl
  · exact cm_loop G _ _ _ _ _ ha hb (by omega)
  · walk_at "mps"
    rfl
theorem tp_cases (d : D) : (∃ ds, d = .tup ds) ∨ (∃ ds, d = .wtup ds) ∨ tp? d = none := by
  cases d <;> first | exact .inl ⟨_, rfl⟩ | exact .inr (.inl ⟨_, rfl⟩) | exact .inr (.inr rfl)
theorem tyName_tp {S : Sto} {d : D} {ds : List D} (h : tp? d = some ds) : tyName S d = some "tuple" := by
  cases d <;> first | cases h; done | rfl
theorem tyName_ntp {S : Sto} {d : D} {t : String} (h : tp? d = none) (e : tyName S d = some t) : t ≠ "tuple" := by
  cases d <;> first | (cases h; done) | (cases e; done) | (cases e; decide) | skip
  rename_i n
  cases q : S[n]? with
  | none => simp only [tyName, q] at e; cases e
  | some o =>
    cases o <;> (try rename_i o; cases o) <;> simp only [tyName, q] at e <;> first | (cases e; done) | (cases e; decide)
theorem len_tp {S : Sto} {d : D} {ds : List D} (h : tp? d = some ds) : biF .len [d] S = .ok (.int ds.length) S := by
  cases d <;> first | (cases h; done) | (cases h; rfl)
theorem ix_tp {S : Sto} {d x : D} {ds : List D} {i : Int} (h : tp? d = some ds) (e : L2.atI ds i = some x) : ixF d (.int i) S = .ok x S := by
  cases d <;> first | (cases h; done) | skip
  · cases h; exact o_ixt e
  · cases h; exact o_ixw e
theorem isfrac_run (G : Gt) (N : Nat) (S : Sto) (d : D) (h : okD S d)
    (hw : ∀ x S, (tyName S x).isSome = true → G.fn "is_whole" [x] S = .ok (.bl (wholeB x)) S) (hc : ∀ a b S, 0 ≤ a → 0 ≤ b → G.fn "common_measure" [.int a, .int b] S = .ok (.int (Int.gcd a b)) S) :
    evF G N 1 ir_is_fraction [d] S = .ok (.bl (fracB d)) S := by
  apply r_fun
  show evS G N ir_is_fraction [some d] S = _
  dsimp only [ir_is_fraction]
  obtain ⟨t, ht⟩ := Option.isSome_iff_exists.mp h.1
  cases hd : tp? d with
  | none =>
    have e : fracB d = false := by unfold fracB; rw [hd]
    rw [e]
    apply r_ift
    · apply t_ort
      apply t_nt (S1 := S) (x := false)
      apply t_of
      · apply e_isi
        · exact e_var rfl
        · exact isF_ok ht
      · have := tyName_ntp hd ht
        have : (t == "tuple") = false := by simp [this]
        simp only [Ty5.nm, this]
        rfl
    · dsimp only [isApp]
      walk_at "mps"
      rfl
    · rfl
  | some ds =>
    have h2 := h.2 ds hd
    have e0 : tyName S d = some "tuple" := tyName_tp hd
    have hl : evT G (.cons (.cmp .ne (.bi .len (.cons (.var 0) .nil)) (.con (.int 2))) .nil) [some d] S = .ok (!decide ((ds.length : Int) = 2)) S := by
      apply t_of
      · apply e_cmp
        · apply e_bi
          · walk_at "mpa"
          · exact len_tp hd
        · exact e_con
        · exact o_ne_int
      · rfl
    have h1 : evT G (.notV (.cons (.isi .tup (.var 0)) .nil)) [some d] S = .ok false S := by
      apply t_nt (S1 := S) (x := true)
      apply t_of
      · apply e_isi
        · exact e_var rfl
        · exact isF_ok e0
      · rfl
    by_cases c : ds.length = 2
    · match ds, c, hd, h2, hl with
      | [x, y], _, hd, h2, hl =>
        have hx := (h2 x (by simp)).1
        have hy := (h2 y (by simp)).1
        have ix0 : evE G (.ix (.var 0) (.con (.int 0))) [some d] S = .ok x S := by
          apply e_ix
          · exact e_var rfl
          · exact e_con
          · exact ix_tp hd rfl
        have ix1 : evE G (.ix (.var 0) (.con (.int 1))) [some d] S = .ok y S := by
          apply e_ix
          · exact e_var rfl
          · exact e_con
          · exact ix_tp hd rfl
        have w0 : evT G (.notV (.cons (.call "is_whole" (.cons (.ix (.var 0) (.con (.int 0))) .nil)) .nil)) [some d] S = .ok (!wholeB x) S := by
          apply t_nt (S1 := S)
          apply t_of
          · apply e_call
            · exact a_cn ix0 a_nl
            · exact hw x S hx
          · rfl
        have w1 : evT G (.notV (.cons (.call "is_whole" (.cons (.ix (.var 0) (.con (.int 1))) .nil)) .nil)) [some d] S = .ok (!wholeB y) S := by
          apply t_nt (S1 := S)
          apply t_of
          · apply e_call
            · exact a_cn ix1 a_nl
            · exact hw y S hy
          · rfl
        apply r_if (hx := rfl) (hy := rfl)
        · exact t_orf h1 (t_orf hl (t_or2 w0 fun _ => w1))
        · intro c
          dsimp only [isApp]
          walk_at "mps"
          have e : fracB d = false := by
            unfold fracB
            rw [hd]
            cases x <;> cases y <;> first | rfl | cases c
          rw [e]
        · intro c
          dsimp only [isApp]
          cases x <;> first | (cases c; done) | skip
          rename_i a _
          cases y <;> first | (cases c; done) | skip
          rename_i b _
          have e : fracB d = (decide (0 < b) && decide (Int.gcd a b = 1)) := by
            unfold fracB
            rw [hd]
          rw [e]
          apply r_ret
          have hgt : evE G (.cmp .gt (.ix (.var 0) (.con (.int 1))) (.con (.int 0))) [some d] S = .ok (.bl (decide (0 < b))) S := by
            apply e_cmp
            · exact ix1
            · exact e_con
            · rfl
          by_cases hb : 0 < b
          · rw [decide_eq_true hb] at hgt ⊢
            apply e_andt hgt
            apply e_cmp
            · apply e_call
              · apply a_cn
                · apply e_bi
                  · exact a_cn ix0 a_nl
                  · rfl
                · exact a_cn ix1 a_nl
              · rw [abs_eq]
                exact hc _ _ S (by omega) (by omega)
            · exact e_con
            · rw [o_eq_int]
              have e2 : Int.gcd ((a.natAbs : Nat) : Int) b = Int.gcd a b := by show Nat.gcd _ _ = Nat.gcd _ _; rw [Int.natAbs_natCast]
              rw [e2, Bool.true_and]
              have : decide (((Int.gcd a b : Nat) : Int) = 1) = decide (Int.gcd a b = 1) := by
                by_cases q : Int.gcd a b = 1
                · rw [q]; rfl
                · rw [decide_eq_false q, decide_eq_false (by omega)]
              rw [this]
          · rw [decide_eq_false hb] at hgt ⊢
            exact e_andf hgt
    · have e : fracB d = false := by
        unfold fracB
        rw [hd]
        match ds, c with
        | [], _ => rfl
        | [a], _ => cases a <;> rfl
        | a :: b :: _ :: _, _ => cases a <;> cases b <;> rfl
        | [_, _], c => exact (c rfl).elim
      rw [e]
      apply r_ift
      · apply t_orf h1
        apply t_ort
        rw [hl, decide_eq_false (by omega)]
        rfl
      · dsimp only [isApp]
        walk_at "mps"
        rfl
      · rfl
end Lib
set_option exponentiation.threshold 10000
namespace Lib
open PySem Mp
local macro_rules | `(tactic| walk_at "mpc") => `(tactic| assumption)
local macro_rules | `(tactic| walk_at "mpl") => `(tactic| first
  | assumption | exact set_at (by (walk_at "mpl")) | (refine (set_ne (by assumption)).trans ?_; (walk_at "mpl")) | exact push_at | (refine push_old ?_; (walk_at "mpl")))
local macro_rules | `(tactic| walk_at "mpo") => `(tactic| first
  | exact o_eq_int | exact o_ne_int | exact o_pow18
  | (apply o_ixl; (walk_at "mpl"); exact rfl) | exact o_ixt rfl | exact o_ixw rfl
  | exact o_len_t | exact o_len_w | (apply o_len_l; (walk_at "mpl"))
  | exact o_mod (by omega) | exact o_fdv64 (by omega) (by omega) | exact o_mul64 (by omega) (by omega) | exact o_mul (by assumption)
  | exact rfl)
local macro_rules | `(tactic| walk_at "mpa") => `(tactic| first
  | exact a_nl
  | (apply a_cn; (walk_at "mpe"); (walk_at "mpa")))
local macro_rules | `(tactic| walk_at "mpp") => `(tactic| first
  | exact o_nl
  | (apply o_cn; (walk_at "mpe")))
local macro_rules | `(tactic| walk_at "mpe") => `(tactic| first
  | exact e_con | exact e_var rfl | exact e_glob rfl
  | (apply e_ix; (walk_at "mpe"); (walk_at "mpe"); (walk_at "mpo"))
  | (apply e_bin; (walk_at "mpe"); (walk_at "mpe"); (walk_at "mpo"))
  | (apply e_cmp; (walk_at "mpe"); (walk_at "mpe"); (walk_at "mpo"))
  | (apply e_bi; (walk_at "mpa"); (walk_at "mpo"))
  | (apply e_isi; (walk_at "mpe"); (walk_at "mpo"))
  | (apply e_tup; (walk_at "mpa"); exact le_sz (by simp))
  | (apply e_lst; (walk_at "mpa"); exact le_sz (by simp))
  | (apply e_call; (walk_at "mpa"); (walk_at "mpc"))
  | (apply e_sl; (walk_at "mpe"); (walk_at "mpp"); (walk_at "mpp"); (walk_at "mpo"))
  | (apply e_not; (walk_at "mpe"))
  | (apply e_neg; (walk_at "mpe")))
local macro_rules | `(tactic| walk_at "mpt") => `(tactic| first
  | exact t_yes
  | (apply t_of; (walk_at "mpe"); exact rfl)
  | (apply t_nt; (walk_at "mpt"))
  | (apply t_and2; (walk_at "mpt"); (intro _; (walk_at "mpt")))
  | (apply t_or2; (walk_at "mpt"); (intro _; (walk_at "mpt"))))
local macro_rules | `(tactic| walk_at "mps") => `(tactic| first
  | (apply r_asg; (walk_at "mpe"); (try dsimp only [List.set]))
  | (apply r_par; (walk_at "mpe"); (walk_at "mpe"); (try dsimp only [List.set]))
  | (apply Eq.trans; (apply r_ret; (walk_at "mpe")))
  | (apply r_sub; (walk_at "mpe"); (walk_at "mpe"); (walk_at "mpe"); apply o_putl; (walk_at "mpl"); exact rfl; (try dsimp only [List.set]))
  | (apply r_ex; (walk_at "mpe"))
  | (apply r_if (hx := rfl) (hy := rfl); (walk_at "mpt"); dsimp only [isApp])
  | exact r_nil)
/-! ### stores that grow, but for the tape -/
structure Up (t : Nat) (S S' : Sto) : Prop where
  len : S.length ≤ S'.length
  old : ∀ n o, n ≠ t → S[n]? = some o → S'[n]? = some o
theorem Up.refl {t : Nat} {S : Sto} : Up t S S := ⟨Nat.le_refl _, fun _ _ _ h => h⟩
theorem Up.trans {t : Nat} {S S' S2 : Sto} (a : Up t S S') (b : Up t S' S2) : Up t S S2 := ⟨Nat.le_trans a.len b.len, fun n o h e => b.old n o h (a.old n o h e)⟩
theorem Up.push {t : Nat} {S S' l : Sto} (a : Up t S S') : Up t S (S' ++ l) := ⟨by have := a.len; simp; omega, fun n o h e => push_old (a.old n o h e)⟩
/-- the tape stands at t, spot at most k -/
def St (S : Sto) (t : Nat) (k : Int) : Prop := ∃ s T, AtT S t s T ∧ 0 ≤ T.spot ∧ T.spot ≤ k
theorem St.lt {S : Sto} {t : Nat} {k : Int} (h : St S t k) : t < S.length := by
  obtain ⟨s, T, a, _⟩ := h
  exact (List.getElem?_eq_some_iff.mp a.tp).1
theorem St.push {S l : Sto} {t : Nat} {k : Int} (h : St S t k) : St (S ++ l) t k := by
  obtain ⟨s, T, a, b, c⟩ := h
  exact ⟨s, T, ⟨push_old a.tp, push_old a.cs, a.ne⟩, b, c⟩
theorem St.le {S : Sto} {t : Nat} {k k' : Int} (h : St S t k) (e : k ≤ k') : St S t k' := by
  obtain ⟨s, T, a, b, c⟩ := h
  exact ⟨s, T, a, b, by omega⟩
theorem drawF_b (T : Tape) (m : Int) (h : 0 < m) : 0 ≤ (drawF T m).1 ∧ (drawF T m).1 < m := by
  unfold drawF
  split
  · split <;> exact ⟨Int.emod_nonneg _ (by omega), Int.emod_lt_of_pos _ h⟩
  · exact ⟨Int.emod_nonneg _ (by omega), Int.emod_lt_of_pos _ h⟩
theorem drawF_s (T : Tape) (m : Int) : (drawF T m).2.cells = T.cells ∧ (T.spot ≤ (drawF T m).2.spot ∧ (drawF T m).2.spot ≤ T.spot + 1) := by
  unfold drawF
  split
  · split
    · refine ⟨rfl, ?_⟩
      show T.spot ≤ T.spot + 1 ∧ T.spot + 1 ≤ T.spot + 1
      omega
    · refine ⟨rfl, ?_⟩
      show T.spot ≤ T.spot + 1 ∧ T.spot + 1 ≤ T.spot + 1
      omega
  · refine ⟨rfl, ?_⟩
    show T.spot ≤ T.spot ∧ T.spot ≤ T.spot + 1
    omega
/-- what a draw promises -/
def DrawOk (f : List D → M D) : Prop := ∀ (S : Sto) (t : Nat) (k m : Int), St S t k → k < 1000000000 → 0 < m → m < 18446744073709551616 →
  ∃ r S', f [.loc t, .int m] S = .ok (.int r) S' ∧ 0 ≤ r ∧ r < m ∧ St S' t (k + 1) ∧ Up t S S'
theorem drawOk (G : Gt) : DrawOk (specOf G 6 ir_law_draw) := by
  intro S t k m h hk h1 h2
  obtain ⟨s, T, a, b, c⟩ := h
  obtain ⟨d1, d2, d3⟩ := drawF_s T m
  obtain ⟨b1, b2⟩ := drawF_b T m h1
  refine ⟨_, _, specOf_ok (draw_run G 0 S t s T m a b (by omega) h1 h2), b1, b2, ⟨s, _, a.set d1, by omega, by omega⟩, ⟨by simp, fun n o hn e => ?_⟩⟩
  rw [set_ne hn]
  exact e
/-! ### a for, by its places -/
theorem forL_inv {c : Chk} {g : Tg} {body : Mp.Env → M Fl} (I : Nat → Mp.Env → Sto → Prop) : ∀ (ds : List D) (i : Nat) (δ : Mp.Env) (S : Sto),
    (∀ j δ S, I j δ S → okC c S = true) →
    (∀ j d δ S, ds[j]? = some d → I (i + j) δ S → ∃ δ1 δ2 S', g.put d δ = some δ1 ∧ body δ1 S = .ok (.nx δ2) S' ∧ I (i + j + 1) δ2 S') → I i δ S →
    ∃ δ' S', forL c g body ds δ S = .ok (.nx δ') S' ∧ I (i + ds.length) δ' S'
  | [], i, δ, S, hc, _, h => ⟨δ, S, f_nil (hc _ _ _ h), h⟩
  | d :: ds, i, δ, S, hc, hb, h => by
    obtain ⟨δ1, δ2, S', e1, e2, h'⟩ := hb 0 d δ S rfl h
    obtain ⟨δ3, S3, e3, h3⟩ := forL_inv I ds (i + 1) δ2 S' hc (fun j d δ S e q => by
      have := hb (j + 1) d δ S e (by rw [show i + (j + 1) = i + 1 + j by omega]; exact q)
      rw [show i + (j + 1) + 1 = i + 1 + j + 1 by omega] at this
      exact this) h'
    refine ⟨δ3, S3, f_cons (hc _ _ _ h) e1 e2 e3, ?_⟩
    rw [show i + (d :: ds).length = i + 1 + ds.length by rw [List.length_cons]; omega]
    exact h3
/-! ### whole numbers drawn -/
theorem o_powc {S : Sto} {i j : Int} (h : decide (0 ≤ j ∧ (PySem.Builtin.Int.intBits i : Int) * j ≤ 2 ^ 27) = true) : binF .pow (.int i) (.int j) S = .ok (.int (i ^ j.toNat)) S := by
  show Mp.chk (decide _) _ S = _
  rw [h]
  rfl
theorem o_pow12 {S : Sto} : binF .pow (.int 10) (.int 12) S = .ok (.int 1000000000000) S := o_powc (by decide)
theorem o_pow60 {S : Sto} : binF .pow (.int 10) (.int 60) S = .ok (.int (10 ^ 60)) S := o_powc (by decide)
theorem o_pow240 {S : Sto} : binF .pow (.int (10 ^ 60)) (.int 4) S = .ok (.int ((10 ^ 60) ^ 4)) S := o_powc (by decide)
theorem mulb {i j : Int} {a b : Nat} (h1 : i.natAbs < 2 ^ a) (h2 : j.natAbs < 2 ^ b) (h3 : a + b ≤ 100000 := by decide) : L2.CMulX i j :=
  L2.mulx_ok (a := a) (b := b) h1 h2 (by omega)
def WholeOk (f : List D → M D) : Prop := ∀ (S : Sto) (t : Nat) (k : Int), St S t k → k < 900000000 →
  ∃ r S', f [.loc t] S = .ok (.int r) S' ∧ r.natAbs < 2 ^ 900 ∧ St S' t (k + 5) ∧ Up t S S'
end Lib
set_option exponentiation.threshold 10000
namespace Lib
open PySem Mp
local macro_rules | `(tactic| walk_at "mpc") => `(tactic| assumption)
local macro_rules | `(tactic| walk_at "mpl") => `(tactic| first
  | assumption | exact set_at (by (walk_at "mpl")) | (refine (set_ne (by assumption)).trans ?_; (walk_at "mpl")) | exact push_at | (refine push_old ?_; (walk_at "mpl")))
local macro_rules | `(tactic| walk_at "mpo") => `(tactic| first
  | exact o_eq_int | exact o_ne_int | exact o_pow18
  | (apply o_ixl; (walk_at "mpl"); exact rfl) | exact o_ixt rfl | exact o_ixw rfl
  | exact o_len_t | exact o_len_w | (apply o_len_l; (walk_at "mpl"))
  | exact o_mod (by omega) | exact o_fdv64 (by omega) (by omega) | exact o_mul64 (by omega) (by omega) | exact o_mul (by assumption)
  | exact rfl)
local macro_rules | `(tactic| walk_at "mpa") => `(tactic| first
  | exact a_nl
  | (apply a_cn; (walk_at "mpe"); (walk_at "mpa")))
local macro_rules | `(tactic| walk_at "mpp") => `(tactic| first
  | exact o_nl
  | (apply o_cn; (walk_at "mpe")))
local macro_rules | `(tactic| walk_at "mpe") => `(tactic| first
  | exact e_con | exact e_var rfl | exact e_glob rfl
  | (apply e_ix; (walk_at "mpe"); (walk_at "mpe"); (walk_at "mpo"))
  | (apply e_bin; (walk_at "mpe"); (walk_at "mpe"); (walk_at "mpo"))
  | (apply e_cmp; (walk_at "mpe"); (walk_at "mpe"); (walk_at "mpo"))
  | (apply e_bi; (walk_at "mpa"); (walk_at "mpo"))
  | (apply e_isi; (walk_at "mpe"); (walk_at "mpo"))
  | (apply e_tup; (walk_at "mpa"); exact le_sz (by simp))
  | (apply e_lst; (walk_at "mpa"); exact le_sz (by simp))
  | (apply e_call; (walk_at "mpa"); (walk_at "mpc"))
  | (apply e_sl; (walk_at "mpe"); (walk_at "mpp"); (walk_at "mpp"); (walk_at "mpo"))
  | (apply e_not; (walk_at "mpe"))
  | (apply e_neg; (walk_at "mpe")))
local macro_rules | `(tactic| walk_at "mpt") => `(tactic| first
  | exact t_yes
  | (apply t_of; (walk_at "mpe"); exact rfl)
  | (apply t_nt; (walk_at "mpt"))
  | (apply t_and2; (walk_at "mpt"); (intro _; (walk_at "mpt")))
  | (apply t_or2; (walk_at "mpt"); (intro _; (walk_at "mpt"))))
local macro_rules | `(tactic| walk_at "mps") => `(tactic| first
  | (apply r_asg; (walk_at "mpe"); (try dsimp only [List.set]))
  | (apply r_par; (walk_at "mpe"); (walk_at "mpe"); (try dsimp only [List.set]))
  | (apply Eq.trans; (apply r_ret; (walk_at "mpe")))
  | (apply r_sub; (walk_at "mpe"); (walk_at "mpe"); (walk_at "mpe"); apply o_putl; (walk_at "mpl"); exact rfl; (try dsimp only [List.set]))
  | (apply r_ex; (walk_at "mpe"))
  | (apply r_if (hx := rfl) (hy := rfl); (walk_at "mpt"); dsimp only [isApp])
  | exact r_nil)
theorem whole_number_run (G : Gt) (hd : DrawOk (G.fn "_law_draw")) : WholeOk (specOf G 3 ir_law_whole_number) := by
  intro S t k h hk
  obtain ⟨r1, S1, e1, a1, b1, s1, u1⟩ := hd S t k 6 h (by omega) (by omega) (by omega)
  obtain ⟨r2, S2, e2, a2, b2, s2, u2⟩ := hd S1 t (k + 1) 10 s1 (by omega) (by omega) (by omega)
  have fin : ∀ (m : Int) (S' : Sto) (w : D), m.natAbs < 2 ^ 890 → St S' t (k + 4) → Up t S S' →
      ∃ r S2, evS G 0 (.cons (.ret (.bin .mul (.var 2) (.bin .sub (.con (.int 1)) (.bin .mul (.con (.int 2)) (.call "_law_draw" (.cons (.var 0) (.cons (.con (.int 2)) .nil))))))) .nil) [some (.loc t), some w, some (.int m)] S' = .ok (.rt (.int r)) S2 ∧ r.natAbs < 2 ^ 900 ∧ St S2 t (k + 5) ∧ Up t S S2 := by
    intro m S' w hm hs hu
    obtain ⟨r3, S3, e3, a3, b3, s3, u3⟩ := hd S' t (k + 4) 2 hs (by omega) (by omega) (by omega)
    refine ⟨m * (1 - 2 * r3), S3, ?_, ?_, s3.le (by omega), hu.trans u3⟩
    · apply r_ret
      apply e_bin
      · walk_at "mpe"
      · apply e_bin
        · walk_at "mpe"
        · apply e_bin
          · walk_at "mpe"
          · walk_at "mpe"
          · exact o_mul64 (by omega) (by omega)
        · exact rfl
      · exact o_mul (mulb (a := 890) (b := 64) hm (by omega))
    · have : r3 = 0 ∨ r3 = 1 := by omega
      rcases this with rfl | rfl
      · rw [show m * (1 - 2 * 0) = m by omega]
        exact Nat.lt_of_lt_of_le hm (Nat.pow_le_pow_right (by decide) (by decide))
      · rw [show (m * (1 - 2 * 1)).natAbs = m.natAbs by omega]
        exact Nat.lt_of_lt_of_le hm (Nat.pow_le_pow_right (by decide) (by decide))
  have run : ∀ {r : Int} {S' : Sto}, evS G 0 ir_law_whole_number [some (.loc t), none, none] S = .ok (.rt (.int r)) S' → specOf G 3 ir_law_whole_number [.loc t] S = .ok (.int r) S' := fun e => specOf_ok (n := 0) (r_fun e)
  by_cases c4 : r1 = 4
  · obtain ⟨r3, S3, e3, a3, b3, s3, u3⟩ := hd S2 t (k + 1 + 1) 1000000000000 s2 (by omega) (by omega) (by omega)
    obtain ⟨r, S', ee, hb, hs, hu⟩ := fin r3 S3 (.int r1) (Nat.lt_of_lt_of_le (show r3.natAbs < 2 ^ 60 by omega) (Nat.pow_le_pow_right (by decide) (by decide))) (s3.le (by omega)) ((u1.trans u2).trans u3)
    refine ⟨r, S', run ?_, hb, hs, hu⟩
    dsimp only [ir_law_whole_number]
    walk_at "mps"
    walk_at "mps"
    apply r_if (hx := rfl) (hy := rfl)
    · walk_at "mpt"
    · intro _
      dsimp only [isApp]
      apply r_asg
      · apply e_call
        · apply a_cn
          · walk_at "mpe"
          · apply a_cn
            · apply e_bin
              · walk_at "mpe"
              · walk_at "mpe"
              · exact o_pow12
            · exact a_nl
        · exact e3
      dsimp only [List.set]
      apply r_if (hx := rfl) (hy := rfl)
      · walk_at "mpt"
      · intro c
        have := of_decide_eq_true c
        omega
      · intro _
        exact ee
    · intro c
      exact absurd c4 (of_decide_eq_false c)
  by_cases c5 : r1 = 5
  · obtain ⟨r3, S3, e3, a3, b3, s3, u3⟩ := hd S2 t (k + 1 + 1) 1000000000000000000 s2 (by omega) (by omega) (by omega)
    obtain ⟨r4, S4, e4, a4, b4, s4, u4⟩ := hd S3 t (k + 1 + 1 + 1) 1000000000000000000 s3 (by omega) (by omega) (by omega)
    obtain ⟨r, S', ee, hb, hs, hu⟩ := fin (r3 * (10 ^ 60) ^ 4 + r4) S4 (.int r1) (by
        have h1 : (r3 * (10 ^ 60) ^ 4).natAbs < 2 ^ 880 := by
          rw [Int.natAbs_mul]
          calc r3.natAbs * ((10 ^ 60 : Int) ^ 4).natAbs ≤ 2 ^ 60 * 2 ^ 800 := Nat.mul_le_mul (by omega) (by decide)
            _ < 2 ^ 880 := by decide
        have h2 : r4.natAbs < 2 ^ 880 := Nat.lt_of_lt_of_le (show r4.natAbs < 2 ^ 60 by omega) (Nat.pow_le_pow_right (by decide) (by decide))
        have h3 := Int.natAbs_add_le (r3 * (10 ^ 60) ^ 4) r4
        have h4 : 2 ^ 880 + 2 ^ 880 ≤ 2 ^ 890 := by decide
        exact Nat.lt_of_le_of_lt h3 (Nat.lt_of_lt_of_le (Nat.add_lt_add h1 h2) h4)) (s4.le (by omega)) (((u1.trans u2).trans u3).trans u4)
    refine ⟨r, S', run ?_, hb, hs, hu⟩
    dsimp only [ir_law_whole_number]
    walk_at "mps"
    walk_at "mps"
    apply r_if (hx := rfl) (hy := rfl)
    · walk_at "mpt"
    · intro c
      exact absurd (of_decide_eq_true c) c4
    · intro _
      dsimp only [isApp]
      apply r_if (hx := rfl) (hy := rfl)
      · walk_at "mpt"
      · intro _
        dsimp only [isApp]
        have hp : ∀ S : Sto, evE G (.bin .pow (.con (.int 10)) (.con (.int 18))) [some (.loc t), some (.int r1), some (.int r2)] S = .ok (.int 1000000000000000000) S := fun S => by walk_at "mpe"
        apply r_asg
        · apply e_bin
          · apply e_bin
            · apply e_call
              · apply a_cn
                · walk_at "mpe"
                · apply a_cn
                  · exact hp _
                  · exact a_nl
              · exact e3
            · apply e_bin
              · apply e_bin
                · walk_at "mpe"
                · walk_at "mpe"
                · exact o_pow60
              · walk_at "mpe"
              · exact o_pow240
            · exact o_mul (mulb (a := 64) (b := 800) (by omega) (by decide))
          · apply e_call
            · apply a_cn
              · walk_at "mpe"
              · apply a_cn
                · exact hp _
                · exact a_nl
            · exact e4
          · exact rfl
        exact ee
      · intro c
        exact absurd c5 (of_decide_eq_false c)
  · obtain ⟨r, S', ee, hb, hs, hu⟩ := fin r2 S2 (.int r1) (Nat.lt_of_lt_of_le (show r2.natAbs < 2 ^ 60 by omega) (Nat.pow_le_pow_right (by decide) (by decide))) (s2.le (by omega)) (u1.trans u2)
    refine ⟨r, S', run ?_, hb, hs, hu⟩
    dsimp only [ir_law_whole_number]
    walk_at "mps"
    walk_at "mps"
    apply r_if (hx := rfl) (hy := rfl)
    · walk_at "mpt"
    · intro c
      exact absurd (of_decide_eq_true c) c4
    · intro _
      dsimp only [isApp]
      apply r_if (hx := rfl) (hy := rfl)
      · walk_at "mpt"
      · intro c
        exact absurd (of_decide_eq_true c) c5
      · intro _
        exact ee
end Lib
set_option exponentiation.threshold 10000
namespace Lib
open PySem Mp
local macro_rules | `(tactic| walk_at "mpc") => `(tactic| assumption)
local macro_rules | `(tactic| walk_at "mpl") => `(tactic| first
  | assumption | exact set_at (by (walk_at "mpl")) | (refine (set_ne (by assumption)).trans ?_; (walk_at "mpl")) | exact push_at | (refine push_old ?_; (walk_at "mpl")))
local macro_rules | `(tactic| walk_at "mpo") => `(tactic| first
  | exact o_eq_int | exact o_ne_int | exact o_pow18
  | (apply o_ixl; (walk_at "mpl"); exact rfl) | exact o_ixt rfl | exact o_ixw rfl
  | exact o_len_t | exact o_len_w | (apply o_len_l; (walk_at "mpl"))
  | exact o_mod (by omega) | exact o_fdv64 (by omega) (by omega) | exact o_mul64 (by omega) (by omega) | exact o_mul (by assumption)
  | exact rfl)
local macro_rules | `(tactic| walk_at "mpa") => `(tactic| first
  | exact a_nl
  | (apply a_cn; (walk_at "mpe"); (walk_at "mpa")))
local macro_rules | `(tactic| walk_at "mpp") => `(tactic| first
  | exact o_nl
  | (apply o_cn; (walk_at "mpe")))
local macro_rules | `(tactic| walk_at "mpe") => `(tactic| first
  | exact e_con | exact e_var rfl | exact e_glob rfl
  | (apply e_ix; (walk_at "mpe"); (walk_at "mpe"); (walk_at "mpo"))
  | (apply e_bin; (walk_at "mpe"); (walk_at "mpe"); (walk_at "mpo"))
  | (apply e_cmp; (walk_at "mpe"); (walk_at "mpe"); (walk_at "mpo"))
  | (apply e_bi; (walk_at "mpa"); (walk_at "mpo"))
  | (apply e_isi; (walk_at "mpe"); (walk_at "mpo"))
  | (apply e_tup; (walk_at "mpa"); exact le_sz (by simp))
  | (apply e_lst; (walk_at "mpa"); exact le_sz (by simp))
  | (apply e_call; (walk_at "mpa"); (walk_at "mpc"))
  | (apply e_sl; (walk_at "mpe"); (walk_at "mpp"); (walk_at "mpp"); (walk_at "mpo"))
  | (apply e_not; (walk_at "mpe"))
  | (apply e_neg; (walk_at "mpe")))
local macro_rules | `(tactic| walk_at "mpt") => `(tactic| first
  | exact t_yes
  | (apply t_of; (walk_at "mpe"); exact rfl)
  | (apply t_nt; (walk_at "mpt"))
  | (apply t_and2; (walk_at "mpt"); (intro _; (walk_at "mpt")))
  | (apply t_or2; (walk_at "mpt"); (intro _; (walk_at "mpt"))))
local macro_rules | `(tactic| walk_at "mps") => `(tactic| first
  | (apply r_asg; (walk_at "mpe"); (try dsimp only [List.set]))
  | (apply r_par; (walk_at "mpe"); (walk_at "mpe"); (try dsimp only [List.set]))
  | (apply Eq.trans; (apply r_ret; (walk_at "mpe")))
  | (apply r_sub; (walk_at "mpe"); (walk_at "mpe"); (walk_at "mpe"); apply o_putl; (walk_at "mpl"); exact rfl; (try dsimp only [List.set]))
  | (apply r_ex; (walk_at "mpe"))
  | (apply r_if (hx := rfl) (hy := rfl); (walk_at "mpt"); dsimp only [isApp])
  | exact r_nil)
def LowOk (f : List D → M D) : Prop := ∀ (S : Sto) (a b : Int), b ≠ 0 → b.natAbs < 2 ^ 8000 → f [.int a, .int b] S = .ok (encI (lowF a b)) S
theorem lowOk (G : Gt) : LowOk (specOf G 4 ir_law_low) := fun S a b h1 h2 => let ⟨_, e⟩ := low_run G S a b h1 h2; specOf_ok e
theorem wholeOk (G : Gt) (x : D) (S : Sto) (h : (tyName S x).isSome = true) : specOf G 1 ir_is_whole [x] S = .ok (.bl (wholeB x)) S := specOf_ok (n := 0) (whole_run G 0 S x h)
theorem cmOk (G : Gt) (a b : Int) (S : Sto) (ha : 0 ≤ a) (hb : 0 ≤ b) : specOf G 2 ir_common_measure [.int a, .int b] S = .ok (.int (Int.gcd a b)) S := let ⟨_, e⟩ := cm_run G S a b ha hb; specOf_ok e
def FracOk (f : List D → M D) : Prop := ∀ (S : Sto) (d : D), okD S d → f [d] S = .ok (.bl (fracB d)) S
theorem isfracOk (G : Gt) (hw : ∀ x S, (tyName S x).isSome = true → G.fn "is_whole" [x] S = .ok (.bl (wholeB x)) S) (hc : ∀ a b S, 0 ≤ a → 0 ≤ b → G.fn "common_measure" [.int a, .int b] S = .ok (.int (Int.gcd a b)) S) :
    FracOk (specOf G 1 ir_is_fraction) := fun S d h => specOf_ok (n := 0) (isfrac_run G 0 S d h hw hc)
theorem low_eq {a b : Int} (h : 0 < b) : decide (lowF a b = (a, b)) = decide (Int.gcd a b = 1) := by
  unfold lowF
  rw [if_neg (by omega)]
  have g1 := gcd_pos (a := a) (show b ≠ 0 by omega)
  by_cases c : Int.gcd a b = 1
  · rw [c, decide_eq_true (by simp), decide_eq_true rfl]
  · rw [decide_eq_false c]
    refine decide_eq_false fun e => c ?_
    have e2 : b / (Int.gcd a b : Nat) = b := (Prod.mk.inj e).2
    have h2 : (1 : Int) < (Int.gcd a b : Nat) := by omega
    have := Int.ediv_lt_self_of_pos_of_ne_one h (by omega : ((Int.gcd a b : Nat) : Int) ≠ 1)
    omega
theorem eqF_pair {S : Sto} {x y : D} {a b c d : Int} (hx : tp? x = some [.int a, .int b]) (hy : tp? y = some [.int c, .int d]) : eqF x y S = .ok (decide ((a, b) = (c, d))) S := by
  have e : ∀ (z : D) (p q : Int), tp? z = some [.int p, .int q] → D.py S 12 z = some (.tuple [.int p, .int q]) := by
    intro z p q h
    cases z <;> first | (cases h; done) | skip
    · cases h; simp [D.py]
    · cases h; simp [D.py]
  have sh : ∀ p q : Int, SeqAt.shaped (.tuple [.int p, .int q]) = true := by
    intro p q
    simp [SeqAt.shaped, PyData.canLay0, PyData.canLayAll0, PyData.depth, PyData.depthAll]
  rw [eqF_of (e _ _ _ hx) (e _ _ _ hy) (sh _ _) (sh _ _)]
  congr 1
  simp [PyData.eqv, PyData.eqvAll]
  rfl
theorem iter_tp {S : Sto} {d : D} {ds : List D} (h : tp? d = some ds) : iterF d S = .ok (ds, []) S := by
  cases d <;> first | (cases h; done) | (cases h; rfl)
theorem isnum_run (G : Gt) (N : Nat) (S : Sto) (d : D) (h : okD S d) (hl : LowOk (G.fn "_law_low")) : evF G N 2 ir_law_is_number [d] S = .ok (.bl (fracB d)) S := by
  apply r_fun
  show evS G N ir_law_is_number [some d, none] S = _
  dsimp only [ir_law_is_number]
  obtain ⟨t, ht⟩ := Option.isSome_iff_exists.mp h.1
  cases hd : tp? d with
  | none =>
    have e : fracB d = false := by unfold fracB; rw [hd]
    rw [e]
    apply r_ift
    · apply t_ort
      apply t_nt (S1 := S) (x := false)
      apply t_of
      · apply e_isi
        · exact e_var rfl
        · exact isF_ok ht
      · have := tyName_ntp hd ht
        have : (t == "tuple") = false := by simp [this]
        simp only [Ty5.nm, this]
        rfl
    · dsimp only [isApp]
      walk_at "mps"
      rfl
    · rfl
  | some ds =>
    have h2 := h.2 ds hd
    have e0 : tyName S d = some "tuple" := tyName_tp hd
    have hl2 : evT G (.cons (.cmp .ne (.bi .len (.cons (.var 0) .nil)) (.con (.int 2))) .nil) [some d, none] S = .ok (!decide ((ds.length : Int) = 2)) S := by
      apply t_of
      · apply e_cmp
        · apply e_bi
          · walk_at "mpa"
          · exact len_tp hd
        · exact e_con
        · exact o_ne_int
      · rfl
    have h1 : evT G (.notV (.cons (.isi .tup (.var 0)) .nil)) [some d, none] S = .ok false S := by
      apply t_nt (S1 := S) (x := true)
      apply t_of
      · apply e_isi
        · exact e_var rfl
        · exact isF_ok e0
      · rfl
    by_cases c : ds.length = 2
    · match ds, c, hd, h2, hl2 with
      | [x, y], _, hd, h2, hl2 =>
        have hx := (h2 x (by simp)).1
        have hy := (h2 y (by simp)).1
        apply r_iff
        · exact t_orf h1 hl2
        · dsimp only [isApp]
          -- the walk over the two
          have one : ∀ (z : D) (o : Option D), (tyName S z).isSome = true → wholeB z = true → evS G N (.cons (.ifs (.orV (.notV (.cons (.isi .int (.var 1)) .nil)) (.cons (.isi .bool (.var 1)) .nil)) (.cons (.ret (.con (.bl false))) .nil) .nil) .nil) [some d, some z] S = .ok (.nx [some d, some z]) S := by
            intro z o hz hw
            cases z <;> first | (cases hw; done) | skip
            apply r_iff
            · apply t_orf
              · apply t_nt (S1 := S) (x := true)
                apply t_of
                · apply e_isi
                  · exact e_var rfl
                  · exact rfl
                · rfl
              · apply t_of
                · apply e_isi
                  · exact e_var rfl
                  · exact rfl
                · rfl
            · exact r_nil
            · rfl
          have oneF : ∀ (z : D), (tyName S z).isSome = true → wholeB z = false → evS G N (.cons (.ifs (.orV (.notV (.cons (.isi .int (.var 1)) .nil)) (.cons (.isi .bool (.var 1)) .nil)) (.cons (.ret (.con (.bl false))) .nil) .nil) .nil) [some d, some z] S = .ok (.rt (.bl false)) S := by
            intro z hz hw
            obtain ⟨tz, htz⟩ := Option.isSome_iff_exists.mp hz
            have hint : tz ≠ "int" := by
              cases z with
              | int i => cases hw
              | loc n =>
                cases q : S[n]? with
                | none => simp only [tyName, q] at htz; cases htz
                | some o => cases o <;> (try rename_i o; cases o) <;> simp only [tyName, q] at htz <;> first | (cases htz; done) | (cases htz; decide)
              | exc _ => cases htz
              | scr _ => cases htz
              | _ => cases htz; decide
            apply r_ift
            · refine (t_or2 (x := !((tz == "int") || (tz == "bool"))) (y := tz == "bool") ?_ (fun _ => ?_)).trans ?_
              · apply t_nt (S1 := S)
                apply t_of
                · apply e_isi
                  · exact e_var rfl
                  · exact isF_ok htz
                · rfl
              · apply t_of
                · apply e_isi
                  · exact e_var rfl
                  · exact isF_ok htz
                · show Ret.ok (tz == "bool" || (("bool" == "int") && tz == "bool")) S = _
                  rw [show (("bool" : String) == "int") = false by decide, Bool.false_and, Bool.or_false]
              · rw [show (tz == "int") = false by simp [hint]]
                cases tz == "bool" <;> rfl
            · dsimp only [isApp]
              exact r_ret e_con
            · rfl
          by_cases wx : wholeB x = true
          · by_cases wy : wholeB y = true
            · cases x <;> first | (cases wx; done) | skip
              rename_i a _
              cases y <;> first | (cases wy; done) | skip
              rename_i b _
              apply r_for (δ1 := [some d, some (.int b)]) (S2 := S)
              · apply i_v
                · exact e_var rfl
                · exact iter_tp hd
              · apply f_cons okC_nil (δ1 := [some d, some (.int a)]) rfl
                · exact one _ none hx rfl
                · apply f_cons okC_nil (δ1 := [some d, some (.int b)]) rfl
                  · exact one _ none hy rfl
                  · exact f_nil okC_nil
              · have e : fracB d = (decide (0 < b) && decide (Int.gcd a b = 1)) := by
                  unfold fracB
                  rw [hd]
                rw [e]
                apply r_ret
                have ix0 : evE G (.ix (.var 0) (.con (.int 0))) [some d, some (.int b)] S = .ok (.int a) S := by
                  apply e_ix
                  · exact e_var rfl
                  · exact e_con
                  · exact ix_tp hd rfl
                have ix1 : evE G (.ix (.var 0) (.con (.int 1))) [some d, some (.int b)] S = .ok (.int b) S := by
                  apply e_ix
                  · exact e_var rfl
                  · exact e_con
                  · exact ix_tp hd rfl
                have hgt : evE G (.cmp .gt (.ix (.var 0) (.con (.int 1))) (.con (.int 0))) [some d, some (.int b)] S = .ok (.bl (decide (0 < b))) S := by
                  apply e_cmp
                  · exact ix1
                  · exact e_con
                  · rfl
                by_cases hb : 0 < b
                · rw [decide_eq_true hb] at hgt ⊢
                  apply e_andt hgt
                  apply e_cmp
                  · apply e_call
                    · exact a_cn ix0 (a_cn ix1 a_nl)
                    · exact hl S a b (by omega) ((h2 (.int b) (by simp)).2 b rfl)
                  · exact e_var rfl
                  · apply o_eq
                    rw [Bool.true_and, ← low_eq hb]
                    exact eqF_pair (a := (lowF a b).1) (b := (lowF a b).2) rfl hd
                · rw [decide_eq_false hb] at hgt ⊢
                  exact e_andf hgt
            · have wy : wholeB y = false := by simpa using wy
              have e : fracB d = false := by
                unfold fracB
                rw [hd]
                cases x <;> cases y <;> first | rfl | cases wy
              rw [e]
              apply r_forr
              · apply i_v
                · exact e_var rfl
                · exact iter_tp hd
              · apply f_cons okC_nil (δ1 := [some d, some x]) rfl
                · exact one _ none hx wx
                · exact f_ret okC_nil (δ1 := [some d, some y]) rfl (oneF y hy wy)
          · have wx : wholeB x = false := by simpa using wx
            have e : fracB d = false := by
              unfold fracB
              rw [hd]
              cases x <;> cases y <;> first | rfl | cases wx
            rw [e]
            apply r_forr
            · apply i_v
              · exact e_var rfl
              · exact iter_tp hd
            · exact f_ret okC_nil (δ1 := [some d, some x]) rfl (oneF x hx wx)
        · rfl
    · have e : fracB d = false := by
        unfold fracB
        rw [hd]
        match ds, c with
        | [], _ => rfl
        | [a], _ => cases a <;> rfl
        | a :: b :: _ :: _, _ => cases a <;> cases b <;> rfl
        | [_, _], c => exact (c rfl).elim
      rw [e]
      apply r_ift
      · apply t_orf h1
        rw [hl2, decide_eq_false (by omega)]
        rfl
      · dsimp only [isApp]
        walk_at "mps"
        rfl
      · rfl
theorem isnumOk (G : Gt) (hl : LowOk (G.fn "_law_low")) : FracOk (specOf G 2 ir_law_is_number) := fun S d h => specOf_ok (n := 0) (isnum_run G 0 S d h hl)
end Lib
set_option exponentiation.threshold 10000
namespace Lib
open PySem Mp
theorem o_addl {S : Sto} {a b : Nat} {xs ys : List D} (h1 : S[a]? = some (.lst xs)) (h2 : S[b]? = some (.lst ys)) (h3 : xs.length + ys.length ≤ sz) : binF .add (.loc a) (.loc b) S = .ok (.loc S.length) (S ++ [.lst (xs ++ ys)]) := by
  simp only [binF, h1, h2]
  show Mp.chk (decide _) _ S = _
  rw [decide_eq_true h3]
  rfl
theorem o_addt {S : Sto} {xs ys : List D} (h3 : xs.length + ys.length ≤ sz) : binF .add (.tup xs) (.tup ys) S = .ok (.tup (xs ++ ys)) S := by
  show Mp.chk (decide _) _ S = _
  rw [decide_eq_true h3]
  rfl
theorem o_listt {S : Sto} {xs : List D} : biF .list [.tup xs] S = .ok (.loc S.length) (S ++ [.lst xs]) := rfl
theorem o_str {S : Sto} {i : Int} (h : i.natAbs < 2 ^ 1900) : biF .str [.int i] S = .ok (.str (toString i)) S := by
  show Mp.chk (decide _) _ S = _
  rw [decide_eq_true (Nat.lt_of_lt_of_le (PySem.Flt.log2_lt_of (show 0 < 1900 by decide) h) (by decide))]
  rfl
local macro_rules | `(tactic| walk_at "mpl") => `(tactic| first
  | assumption | exact set_at (by (walk_at "mpl")) | (refine (set_ne (by assumption)).trans ?_; (walk_at "mpl")) | exact push_at | (refine push_old ?_; (walk_at "mpl")))
local macro_rules | `(tactic| walk_at "mpo") => `(tactic| first
  | exact o_eq_int | exact o_ne_int | exact o_pow18
  | (apply o_ixl; (walk_at "mpl"); exact rfl) | exact o_ixt rfl | exact o_ixw rfl
  | exact o_len_t | exact o_len_w | (apply o_len_l; (walk_at "mpl"))
  | exact o_mod (by omega) | exact o_fdv64 (by omega) (by omega) | exact o_mul64 (by omega) (by omega) | exact o_mul (by assumption)
  | exact rfl)
local macro_rules | `(tactic| walk_at "mpa") => `(tactic| first
  | exact a_nl
  | (apply a_cn; (walk_at "mpe"); (walk_at "mpa")))
local macro_rules | `(tactic| walk_at "mpp") => `(tactic| first
  | exact o_nl
  | (apply o_cn; (walk_at "mpe")))
local macro_rules | `(tactic| walk_at "mpe") => `(tactic| first
  | exact e_con | exact e_var rfl | exact e_glob rfl
  | (apply e_ix; (walk_at "mpe"); (walk_at "mpe"); (walk_at "mpo"))
  | (apply e_bin; (walk_at "mpe"); (walk_at "mpe"); (walk_at "mpo"))
  | (apply e_cmp; (walk_at "mpe"); (walk_at "mpe"); (walk_at "mpo"))
  | (apply e_bi; (walk_at "mpa"); (walk_at "mpo"))
  | (apply e_isi; (walk_at "mpe"); (walk_at "mpo"))
  | (apply e_tup; (walk_at "mpa"); exact le_sz (by simp))
  | (apply e_lst; (walk_at "mpa"); exact le_sz (by simp))
  | (apply e_call; (walk_at "mpa"); (walk_at "mpc"))
  | (apply e_sl; (walk_at "mpe"); (walk_at "mpp"); (walk_at "mpp"); (walk_at "mpo"))
  | (apply e_not; (walk_at "mpe"))
  | (apply e_neg; (walk_at "mpe")))
local macro_rules | `(tactic| walk_at "mpt") => `(tactic| first
  | exact t_yes
  | (apply t_of; (walk_at "mpe"); exact rfl)
  | (apply t_nt; (walk_at "mpt"))
  | (apply t_and2; (walk_at "mpt"); (intro _; (walk_at "mpt")))
  | (apply t_or2; (walk_at "mpt"); (intro _; (walk_at "mpt"))))
local macro_rules | `(tactic| walk_at "mps") => `(tactic| first
  | (apply r_asg; (walk_at "mpe"); (try dsimp only [List.set]))
  | (apply r_par; (walk_at "mpe"); (walk_at "mpe"); (try dsimp only [List.set]))
  | (apply Eq.trans; (apply r_ret; (walk_at "mpe")))
  | (apply r_sub; (walk_at "mpe"); (walk_at "mpe"); (walk_at "mpe"); apply o_putl; (walk_at "mpl"); exact rfl; (try dsimp only [List.set]))
  | (apply r_ex; (walk_at "mpe"))
  | (apply r_if (hx := rfl) (hy := rfl); (walk_at "mpt"); dsimp only [isApp])
  | exact r_nil)
local macro_rules | `(tactic| walk_at "mpc") => `(tactic| assumption)
local macro_rules | `(tactic| walk_at "mpo") => `(tactic| first
  | exact o_addt (le_sz (by simp))
  | (apply o_addl; (walk_at "mpl"); (walk_at "mpl"); exact le_sz (by simp))
  | exact o_listt | exact o_str (by omega))
/-- one, as the program makes it -/
def oneF (a b : Int) : Int × Int := if b = 0 then (a, 1) else lowF a b
theorem gdiv_le (a : Int) {g : Nat} : (a / (g : Int)).natAbs ≤ a.natAbs + 1 := by
  rcases Nat.eq_zero_or_pos g with rfl | h
  · simp
  · have h1 := Int.ediv_mul_le a (show ((g : Nat) : Int) ≠ 0 by omega)
    have h2 := Int.lt_ediv_add_one_mul_self a (show (0 : Int) < (g : Nat) by omega)
    rcases Int.lt_or_le a 0 with c | c
    · have h3 : a / (g : Int) < 0 := Int.ediv_neg_of_neg_of_pos c (by omega)
      have h4 : a ≤ a / (g : Int) + 0 ∨ a / (g : Int) + 1 ≤ a ∨ True := by omega
      have h5 : a / (g : Int) ≥ a := by
        have : a / (g : Int) * g ≤ a / (g : Int) * 1 := Int.mul_le_mul_of_nonpos_left (by omega) (by omega)
        have h6 : (a / (g : Int) + 1) * g ≤ (a / (g : Int) + 1) * 1 ∨ 0 < a / (g : Int) + 1 := by
          rcases Int.lt_or_le 0 (a / (g : Int) + 1) with q | q
          · exact .inr q
          · exact .inl (Int.mul_le_mul_of_nonpos_left (by omega) (by omega))
        omega
      omega
    · have h3 := Int.ediv_nonneg c (show (0 : Int) ≤ (g : Nat) by omega)
      have h4 := Int.ediv_le_self (b := (g : Int)) c
      omega
theorem oneF_b {a b : Int} (ha : a.natAbs < 2 ^ 900) (hb : b.natAbs < 2 ^ 900) : (oneF a b).1.natAbs < 2 ^ 901 ∧ (oneF a b).2.natAbs < 2 ^ 901 := by
  have e : 2 ^ 900 + 1 ≤ 2 ^ 901 := by decide
  unfold oneF
  split
  · exact ⟨by show a.natAbs < _; omega, by show (1 : Int).natAbs < _; decide⟩
  · unfold lowF
    split
    · have h1 := gdiv_le (-a) (g := Int.gcd a b)
      have h2 := gdiv_le (-b) (g := Int.gcd a b)
      rw [Int.natAbs_neg] at h1 h2
      exact ⟨by show Int.natAbs (-a / _) < _; omega, by show Int.natAbs (-b / _) < _; omega⟩
    · have h1 := gdiv_le a (g := Int.gcd a b)
      have h2 := gdiv_le b (g := Int.gcd a b)
      exact ⟨by show Int.natAbs (a / _) < _; omega, by show Int.natAbs (b / _) < _; omega⟩
def ThingsOk (f : List D → M D) : Prop := ∀ (S : Sto) (t : Nat) (k : Int), St S t k → k < 800000000 →
  ∃ n items S', f [.loc t] S = .ok (.loc n) S' ∧ S'[n]? = some (.lst items) ∧ (∀ d ∈ items, okD S' d) ∧ St S' t (k + 11)
theorem okD_int {S : Sto} {i : Int} : okD S (.int i) := ⟨rfl, fun ds h => by cases h⟩
theorem okD_pair {S : Sto} {x y : D} (hx : (tyName S x).isSome = true) (hy : (tyName S y).isSome = true) (bx : ∀ b, x = .int b → b.natAbs < 2 ^ 8000) (by' : ∀ b, y = .int b → b.natAbs < 2 ^ 8000) : okD S (.tup [x, y]) :=
  ⟨rfl, fun ds h z hz => by
    cases h
    rcases List.mem_cons.mp hz with rfl | hz
    · exact ⟨hx, bx⟩
    · rcases List.mem_cons.mp hz with rfl | hz
      · exact ⟨hy, by'⟩
      · cases hz⟩
def boundD (d : D) : Prop := ∀ b, d = .int b → b.natAbs < 2 ^ 8000
theorem okD_of {S : Sto} {d : D} (h : (tyName S d).isSome = true) (h2 : ∀ ds, tp? d = some ds → ∀ x ∈ ds, (tyName S x).isSome = true ∧ boundD x) : okD S d := ⟨h, h2⟩
theorem okD_tup {S : Sto} {ds : List D} (h2 : ∀ x ∈ ds, (tyName S x).isSome = true ∧ boundD x) : okD S (.tup ds) := ⟨rfl, fun es h => by cases h; exact h2⟩
theorem all_nil {p : D → Prop} : ∀ x ∈ ([] : List D), p x := fun _ h => by cases h
theorem all_cons {p : D → Prop} {d : D} {ds : List D} (h : p d) (k : ∀ x ∈ ds, p x) : ∀ x ∈ d :: ds, p x := fun x hx => by
  rcases List.mem_cons.mp hx with rfl | hx
  · exact h
  · exact k x hx
theorem bd_int {i : Int} (h : i.natAbs < 2 ^ 2000) : boundD (.int i) := fun b e => by cases e; exact Nat.lt_of_lt_of_le h (Nat.pow_le_pow_right (by decide) (by decide))
theorem bd_bl {i : Bool} : boundD (.bl i) := fun b e => by cases e
theorem bd_tup {i : List D} : boundD (.tup i) := fun b e => by cases e
theorem bd_non : boundD .non := fun b e => by cases e
theorem bd_str {x : Str} : boundD (.str x) := fun b e => by cases e
theorem ty_lst {S : Sto} {n : Nat} {ds : List D} (h : S[n]? = some (.lst ds)) : (tyName S (.loc n)).isSome = true := by
  simp only [tyName, h]
  rfl
theorem okD_lst {S : Sto} {n : Nat} {ds : List D} (h : S[n]? = some (.lst ds)) : okD S (.loc n) := ⟨ty_lst h, fun _ e => by cases e⟩
theorem mul_b {p c : Int} (hp : p.natAbs < 2 ^ 901) (hc : c.natAbs < 2 ^ 64) : (p * c).natAbs < 2 ^ 2000 := by
  rw [Int.natAbs_mul]
  calc p.natAbs * c.natAbs ≤ 2 ^ 901 * 2 ^ 64 := Nat.mul_le_mul (by omega) (by omega)
    _ < 2 ^ 2000 := by decide
theorem new_l (S : Sto) (ds : List D) : ∃ n S', n = S.length ∧ S' = S ++ [.lst ds] ∧ S'[n]? = some (.lst ds) ∧ (∀ (m : Nat) o, S[m]? = some o → S'[m]? = some o) ∧ ∀ t k, St S t k → St S' t k :=
  ⟨_, _, rfl, rfl, push_at, fun _ _ h => push_old h, fun _ _ h => h.push⟩
theorem e_lstE {G : Gt} {a : Ie} {δ : Mp.Env} {S S1 S2 : Sto} {ds : List D} {n : Nat} (h1 : evA G a δ S = .ok ds S1) (h2 : ds.length ≤ sz) (hn : n = S1.length) (hS : S2 = S1 ++ [.lst ds]) : evE G (.lst a) δ S = .ok (.loc n) S2 := by
  subst hn hS
  exact e_lst h1 h2
theorem o_listE {S S2 : Sto} {xs : List D} {n : Nat} (hn : n = S.length) (hS : S2 = S ++ [.lst xs]) : biF .list [.tup xs] S = .ok (.loc n) S2 := by
  subst hn hS
  exact o_listt
theorem o_addE {S S2 : Sto} {a b n : Nat} {xs ys : List D} (h1 : S[a]? = some (.lst xs)) (h2 : S[b]? = some (.lst ys)) (h3 : xs.length + ys.length ≤ sz) (hn : n = S.length) (hS : S2 = S ++ [.lst (xs ++ ys)]) : binF .add (.loc a) (.loc b) S = .ok (.loc n) S2 := by
  subst hn hS
  exact o_addl h1 h2 h3
theorem things_run (G : Gt) (hd : DrawOk (G.fn "_law_draw")) (hw : WholeOk (G.fn "_law_whole_number")) (hl : LowOk (G.fn "_law_low")) : ThingsOk (specOf G 6 ir_law_things) := by
  intro S t k h hk
  obtain ⟨r1, S1, e1, b1, s1, u1⟩ := hw S t k h (by omega)
  obtain ⟨r2, S2, e2, b2, s2, u2⟩ := hw S1 t (k + 5) s1 (by omega)
  obtain ⟨r3, S3, e3, a3, c3, s3, u3⟩ := hd S2 t (k + 5 + 5) 9 s2 (by omega) (by omega) (by omega)
  obtain ⟨p, hp⟩ : ∃ p, p = (oneF r1 r2).1 := ⟨_, rfl⟩
  obtain ⟨q, hq⟩ : ∃ q, q = (oneF r1 r2).2 := ⟨_, rfl⟩
  obtain ⟨bp, bq⟩ := oneF_b b1 b2
  rw [← hp] at bp
  rw [← hq] at bq
  have b2' : r2.natAbs < 2 ^ 8000 := Nat.lt_of_lt_of_le b2 (Nat.pow_le_pow_right (by decide) (by decide))
  have mp' : L2.CMulX p (2 + r3) := mulb (a := 901) (b := 64) bp (by omega)
  have mq' : L2.CMulX q (2 + r3) := mulb (a := 901) (b := 64) bq (by omega)
  obtain ⟨n1, S4, n1e, S4e, h1, k1, t1⟩ := new_l S3 [.tup [.int r1, .int r2], .tup [.int p, .int q], .tup [.int (p * (2 + r3)), .int (q * (2 + r3))], .tup [.int p, .int (0 - q)], .tup [.int p, .int 0], .tup [.int 0, .int (2 + r3)], .tup [.int (2 + r3), .int (2 + r3)]]
  obtain ⟨n2, S5, n2e, S5e, h2, k2, t2⟩ := new_l S4 [.int p, .int q]
  obtain ⟨n3, S6, n3e, S6e, h3, k3, t3⟩ := new_l S5 [.loc n2, .tup [.int p, .int q, .int 1], .tup [.int p], .tup [], .tup [.bl (decide (0 < p)), .int q], .tup [.int p, .bl (decide (q = 1))], .tup [.tup [.int p, .int q], .tup [.int p, .int q]]]
  obtain ⟨n4, S7, n4e, S7e, h4, k4, t4⟩ := new_l S6 ([.tup [.int r1, .int r2], .tup [.int p, .int q], .tup [.int (p * (2 + r3)), .int (q * (2 + r3))], .tup [.int p, .int (0 - q)], .tup [.int p, .int 0], .tup [.int 0, .int (2 + r3)], .tup [.int (2 + r3), .int (2 + r3)]] ++ [.loc n2, .tup [.int p, .int q, .int 1], .tup [.int p], .tup [], .tup [.bl (decide (0 < p)), .int q], .tup [.int p, .bl (decide (q = 1))], .tup [.tup [.int p, .int q], .tup [.int p, .int q]]])
  obtain ⟨n5, S8, n5e, S8e, h5, k5, t5⟩ := new_l S7 [.tup [.int p, .int q]]
  obtain ⟨n6, S9, n6e, S9e, h6, k6, t6⟩ := new_l S8 [.tup [.str (toString (2 + r3)), .int q], .tup [.int p, .non], .loc n5, .int p, .non, .str "1/2", .bl true, .tup [.int (p + 1), .int q]]
  obtain ⟨n7, S10, n7e, S10e, h7, k7, t7⟩ := new_l S9 (([.tup [.int r1, .int r2], .tup [.int p, .int q], .tup [.int (p * (2 + r3)), .int (q * (2 + r3))], .tup [.int p, .int (0 - q)], .tup [.int p, .int 0], .tup [.int 0, .int (2 + r3)], .tup [.int (2 + r3), .int (2 + r3)]] ++ [.loc n2, .tup [.int p, .int q, .int 1], .tup [.int p], .tup [], .tup [.bl (decide (0 < p)), .int q], .tup [.int p, .bl (decide (q = 1))], .tup [.tup [.int p, .int q], .tup [.int p, .int q]]]) ++ [.tup [.str (toString (2 + r3)), .int q], .tup [.int p, .non], .loc n5, .int p, .non, .str "1/2", .bl true, .tup [.int (p + 1), .int q]])
  have q10 : S10[n2]? = some (.lst [.int p, .int q]) := k7 _ _ (k6 _ _ (k5 _ _ (k4 _ _ (k3 _ _ h2))))
  have q11 : S10[n5]? = some (.lst [.tup [.int p, .int q]]) := k7 _ _ (k6 _ _ h5)
  have h14 : S6[n1]? = _ := k3 _ _ (k2 _ _ h1)
  have h49 : S9[n4]? = _ := k6 _ _ (k5 _ _ h4)
  have s10 : St S10 t (k + 11) := t7 _ _ (t6 _ _ (t5 _ _ (t4 _ _ (t3 _ _ (t2 _ _ (t1 _ _ (s3.le (by omega))))))))
  have bp2 : p.natAbs < 2 ^ 2000 := Nat.lt_of_lt_of_le bp (Nat.pow_le_pow_right (by decide) (by decide))
  have bq2 : q.natAbs < 2 ^ 2000 := Nat.lt_of_lt_of_le bq (Nat.pow_le_pow_right (by decide) (by decide))
  have br1 : r1.natAbs < 2 ^ 2000 := Nat.lt_of_lt_of_le b1 (Nat.pow_le_pow_right (by decide) (by decide))
  have br2 : r2.natAbs < 2 ^ 2000 := Nat.lt_of_lt_of_le b2 (Nat.pow_le_pow_right (by decide) (by decide))
  have bn : (2 + r3).natAbs < 2 ^ 2000 := Nat.lt_of_lt_of_le (show (2 + r3).natAbs < 2 ^ 60 by omega) (Nat.pow_le_pow_right (by decide) (by decide))
  have bpm : (p * (2 + r3)).natAbs < 2 ^ 2000 := mul_b bp (by omega)
  have bqm : (q * (2 + r3)).natAbs < 2 ^ 2000 := mul_b bq (by omega)
  have bq0 : (0 - q).natAbs < 2 ^ 2000 := by rw [Int.zero_sub, Int.natAbs_neg]; exact bq2
  have bp1 : (p + 1).natAbs < 2 ^ 2000 := Nat.lt_of_le_of_lt (Int.natAbs_add_le p 1) (Nat.lt_of_lt_of_le (Nat.add_lt_add_of_lt_of_le bp (show (1 : Int).natAbs ≤ 2 ^ 901 by decide)) (by decide))
  have hall : ∀ d ∈ (([.tup [.int r1, .int r2], .tup [.int p, .int q], .tup [.int (p * (2 + r3)), .int (q * (2 + r3))], .tup [.int p, .int (0 - q)], .tup [.int p, .int 0], .tup [.int 0, .int (2 + r3)], .tup [.int (2 + r3), .int (2 + r3)]] ++ [.loc n2, .tup [.int p, .int q, .int 1], .tup [.int p], .tup [], .tup [.bl (decide (0 < p)), .int q], .tup [.int p, .bl (decide (q = 1))], .tup [.tup [.int p, .int q], .tup [.int p, .int q]]]) ++ [.tup [.str (toString (2 + r3)), .int q], .tup [.int p, .non], .loc n5, .int p, .non, .str "1/2", .bl true, .tup [.int (p + 1), .int q]] : List D), okD S10 d := by
    have b0 : boundD (.int 0) := bd_int (by decide)
    have bi1 : boundD (.int 1) := bd_int (by decide)
    refine all_cons (okD_tup (all_cons ⟨rfl, bd_int br1⟩ (all_cons ⟨rfl, bd_int br2⟩ all_nil))) ?_
    refine all_cons (okD_tup (all_cons ⟨rfl, bd_int bp2⟩ (all_cons ⟨rfl, bd_int bq2⟩ all_nil))) ?_
    refine all_cons (okD_tup (all_cons ⟨rfl, bd_int bpm⟩ (all_cons ⟨rfl, bd_int bqm⟩ all_nil))) ?_
    refine all_cons (okD_tup (all_cons ⟨rfl, bd_int bp2⟩ (all_cons ⟨rfl, bd_int bq0⟩ all_nil))) ?_
    refine all_cons (okD_tup (all_cons ⟨rfl, bd_int bp2⟩ (all_cons ⟨rfl, b0⟩ all_nil))) ?_
    refine all_cons (okD_tup (all_cons ⟨rfl, b0⟩ (all_cons ⟨rfl, bd_int bn⟩ all_nil))) ?_
    refine all_cons (okD_tup (all_cons ⟨rfl, bd_int bn⟩ (all_cons ⟨rfl, bd_int bn⟩ all_nil))) ?_
    refine all_cons (okD_lst q10) ?_
    refine all_cons (okD_tup (all_cons ⟨rfl, bd_int bp2⟩ (all_cons ⟨rfl, bd_int bq2⟩ (all_cons ⟨rfl, bi1⟩ all_nil)))) ?_
    refine all_cons (okD_tup (all_cons ⟨rfl, bd_int bp2⟩ all_nil)) ?_
    refine all_cons (okD_tup all_nil) ?_
    refine all_cons (okD_tup (all_cons ⟨rfl, bd_bl⟩ (all_cons ⟨rfl, bd_int bq2⟩ all_nil))) ?_
    refine all_cons (okD_tup (all_cons ⟨rfl, bd_int bp2⟩ (all_cons ⟨rfl, bd_bl⟩ all_nil))) ?_
    refine all_cons (okD_tup (all_cons ⟨rfl, bd_tup⟩ (all_cons ⟨rfl, bd_tup⟩ all_nil))) ?_
    refine all_cons (okD_tup (all_cons ⟨rfl, bd_str⟩ (all_cons ⟨rfl, bd_int bq2⟩ all_nil))) ?_
    refine all_cons (okD_tup (all_cons ⟨rfl, bd_int bp2⟩ (all_cons ⟨rfl, bd_non⟩ all_nil))) ?_
    refine all_cons (okD_lst q11) ?_
    refine all_cons okD_int ?_
    refine all_cons ⟨rfl, fun _ e => by cases e⟩ ?_
    refine all_cons ⟨rfl, fun _ e => by cases e⟩ ?_
    refine all_cons ⟨rfl, fun _ e => by cases e⟩ ?_
    exact all_cons (okD_tup (all_cons ⟨rfl, bd_int bp1⟩ (all_cons ⟨rfl, bd_int bq2⟩ all_nil))) all_nil
  refine ⟨n7, _, S10, specOf_ok (n := 0) (r_fun (show evS G 0 ir_law_things [some (.loc t), none, none, none, none, none] S = _ from ?run)), h7, hall, s10⟩
  clear hall h7 k7 t7 q10 q11 s10 bp2 bq2 br1 br2 bn bpm bqm bq0 bp1 b1 b2 bp bq
  dsimp only [ir_law_things]
  walk_at "mps"
  walk_at "mps"
  walk_at "mps"
  apply r_ifj [some (.loc t), some (.int r1), some (.int r2), some (.tup [.int p, .int q]), none, none] S2
  · walk_at "mpt"
  · intro c
    have c : r2 ≠ 0 := by simpa using c
    have el := hl S2 r1 r2 c b2'
    have e : encI (lowF r1 r2) = .tup [.int p, .int q] := by rw [hp, hq]; unfold oneF; rw [if_neg c]; rfl
    rw [e] at el
    walk_at "mps"
    exact r_nil
  · intro c
    have c : r2 = 0 := by simpa using c
    have e : (oneF r1 r2) = (r1, 1) := by unfold oneF; rw [if_pos c]
    rw [e] at hp hq
    rw [hp, hq]
    exact r_nil
  clear hp hq b2'
  walk_at "mps"
  apply r_asg
  · refine e_lstE ?_ ?_ n1e S4e
    · walk_at "mpa"
    · exact le_sz (by simp)
  dsimp only [List.set]
  apply r_asg
  · apply e_bin
    · exact e_var rfl
    · refine e_lstE (S1 := S5) ?_ ?_ n3e S6e
      · refine a_cn (S1 := S5) ?_ ?_
        · apply e_bi
          · walk_at "mpa"
          · exact o_listE n2e S5e
        · walk_at "mpa"
      · exact le_sz (by simp)
    · exact o_addE h14 h3 (le_sz (by simp)) n4e S7e
  dsimp only [List.set]
  apply r_ret
  apply e_bin
  · exact e_var rfl
  · refine e_lstE (S1 := S8) ?_ ?_ n6e S9e
    · refine a_cn (S1 := S7) ?_ ?_
      · walk_at "mpe"
      · refine a_cn (S1 := S7) ?_ ?_
        · walk_at "mpe"
        · refine a_cn (S1 := S8) ?_ ?_
          · refine e_lstE (S1 := S7) ?_ ?_ n5e S8e
            · walk_at "mpa"
            · exact le_sz (by simp)
          · walk_at "mpa"
    · exact le_sz (by simp)
  · exact o_addE h49 h6 (le_sz (by simp)) n7e S10e
end Lib
namespace Lib
open PySem Mp
local macro_rules | `(tactic| walk_at "mpc") => `(tactic| assumption)
local macro_rules | `(tactic| walk_at "mpl") => `(tactic| first
  | assumption | exact set_at (by (walk_at "mpl")) | (refine (set_ne (by assumption)).trans ?_; (walk_at "mpl")) | exact push_at | (refine push_old ?_; (walk_at "mpl")))
local macro_rules | `(tactic| walk_at "mpo") => `(tactic| first
  | exact o_eq_int | exact o_ne_int | exact o_pow18
  | (apply o_ixl; (walk_at "mpl"); exact rfl) | exact o_ixt rfl | exact o_ixw rfl
  | exact o_len_t | exact o_len_w | (apply o_len_l; (walk_at "mpl"))
  | exact o_mod (by omega) | exact o_fdv64 (by omega) (by omega) | exact o_mul64 (by omega) (by omega) | exact o_mul (by assumption)
  | exact rfl)
local macro_rules | `(tactic| walk_at "mpa") => `(tactic| first
  | exact a_nl
  | (apply a_cn; (walk_at "mpe"); (walk_at "mpa")))
local macro_rules | `(tactic| walk_at "mpp") => `(tactic| first
  | exact o_nl
  | (apply o_cn; (walk_at "mpe")))
local macro_rules | `(tactic| walk_at "mpe") => `(tactic| first
  | exact e_con | exact e_var rfl | exact e_glob rfl
  | (apply e_ix; (walk_at "mpe"); (walk_at "mpe"); (walk_at "mpo"))
  | (apply e_bin; (walk_at "mpe"); (walk_at "mpe"); (walk_at "mpo"))
  | (apply e_cmp; (walk_at "mpe"); (walk_at "mpe"); (walk_at "mpo"))
  | (apply e_bi; (walk_at "mpa"); (walk_at "mpo"))
  | (apply e_isi; (walk_at "mpe"); (walk_at "mpo"))
  | (apply e_tup; (walk_at "mpa"); exact le_sz (by simp))
  | (apply e_lst; (walk_at "mpa"); exact le_sz (by simp))
  | (apply e_call; (walk_at "mpa"); (walk_at "mpc"))
  | (apply e_sl; (walk_at "mpe"); (walk_at "mpp"); (walk_at "mpp"); (walk_at "mpo"))
  | (apply e_not; (walk_at "mpe"))
  | (apply e_neg; (walk_at "mpe")))
local macro_rules | `(tactic| walk_at "mpt") => `(tactic| first
  | exact t_yes
  | (apply t_of; (walk_at "mpe"); exact rfl)
  | (apply t_nt; (walk_at "mpt"))
  | (apply t_and2; (walk_at "mpt"); (intro _; (walk_at "mpt")))
  | (apply t_or2; (walk_at "mpt"); (intro _; (walk_at "mpt"))))
local macro_rules | `(tactic| walk_at "mps") => `(tactic| first
  | (apply r_asg; (walk_at "mpe"); (try dsimp only [List.set]))
  | (apply r_par; (walk_at "mpe"); (walk_at "mpe"); (try dsimp only [List.set]))
  | (apply Eq.trans; (apply r_ret; (walk_at "mpe")))
  | (apply r_sub; (walk_at "mpe"); (walk_at "mpe"); (walk_at "mpe"); apply o_putl; (walk_at "mpl"); exact rfl; (try dsimp only [List.set]))
  | (apply r_ex; (walk_at "mpe"))
  | (apply r_if (hx := rfl) (hy := rfl); (walk_at "mpt"); dsimp only [isApp])
  | exact r_nil)
def ir_law : Is :=
  (.cons (.asg 1 (.lst (.cons (.bi .list (.cons (.sl (.var 0) .nil (.cons (.con (.int 63)) .nil)) .nil)) (.cons (.con (.int 0)) (.cons (.con (.int 0)) (.cons (.con (.int 0)) .nil))))))
  (.cons (.for_ (.nm 2) (.itr (.cons (.con (.int 5)) .nil))
  (.cons (.for_ (.nm 3) (.itv (.call "_law_things" (.cons (.var 1) .nil)))
  (.cons (.asg 4 (.call "is_fraction" (.cons (.var 3) .nil)))
  (.cons (.ifs (.orV (.notV (.cons (.isi .bool (.var 4)) .nil)) (.cons (.cmp .ne (.var 4) (.call "_law_is_number" (.cons (.var 3) .nil))) .nil))
  (.cons (.ret (.con (.bl false)))
  .nil)
  .nil)
  .nil)))
  .nil))
  (.cons (.ret (.con (.bl true)))
  .nil)))
theorem cut_map (ns : List Int) (lo hi : Option Int) : Mp.cut (ns.map D.int) lo hi = (Mp.cut ns lo hi).map D.int := by
  unfold Mp.cut
  rw [List.map_take, List.map_drop, List.length_map]
/-- the tape, laid -/
theorem tape_run (G : Gt) (δ : Mp.Env) (i : Nat) (ns : List Int) (h : δ[i]? = some (some (.scr ns))) :
    evE G (.lst (.cons (.bi .list (.cons (.sl (.var i) .nil (.cons (.con (.int 63)) .nil)) .nil)) (.cons (.con (.int 0)) (.cons (.con (.int 0)) (.cons (.con (.int 0)) .nil))))) δ []
      = .ok (.loc 2) [.lst ((Mp.cut ns none (some 63)).map D.int), .lst ((Mp.cut ns none (some 63)).map D.int), .lst [.loc 1, .int 0, .int 0, .int 0]] := by
  rw [← cut_map]
  refine e_lst (S1 := [.lst (Mp.cut (ns.map D.int) none (some 63)), .lst (Mp.cut (ns.map D.int) none (some 63))]) ?_ (le_sz (by simp))
  refine a_cn ?_ (a_cn e_con (a_cn e_con (a_cn e_con a_nl)))
  refine e_bi (ds := [.loc 0]) (S1 := [.lst (Mp.cut (ns.map D.int) none (some 63))]) (a_cn ?_ a_nl) rfl
  refine e_sl (e_var h) o_nl (o_cn e_con) ?_
  rfl
theorem tape_St (ns : List Int) : St [.lst ((Mp.cut ns none (some 63)).map D.int), .lst ((Mp.cut ns none (some 63)).map D.int), .lst [.loc 1, .int 0, .int 0, .int 0]] 2 0 :=
  ⟨1, ⟨Mp.cut ns none (some 63), 0, 0, 0⟩, ⟨rfl, rfl, by decide⟩, Int.le_refl _, Int.le_refl _⟩
theorem eqF_bool {S : Sto} {a b : Bool} : eqF (.bl a) (.bl b) S = .ok (decide (a = b)) S := by
  have sh : ∀ p : Bool, SeqAt.shaped (.bool p) = true := fun p => by simp [SeqAt.shaped, PyData.canLay0, PyData.depth]
  rw [eqF_of (d := .bool a) (e := .bool b) (by simp [D.py]) (by simp [D.py]) (sh _) (sh _)]
  congr 1
theorem law_run (G : Gt) (ht : ThingsOk (G.fn "_law_things")) (hf : FracOk (G.fn "is_fraction")) (hn : FracOk (G.fn "_law_is_number")) (ns : List Int) : ∃ S, specOf G 5 ir_law [.scr ns] [] = .ok (.bl true) S := by
  have inner : ∀ (S : Sto) (d : D) (x : Option D) (y z : Option D), okD S d →
      evS G 0 (.cons (.asg 4 (.call "is_fraction" (.cons (.var 3) .nil))) (.cons (.ifs (.orV (.notV (.cons (.isi .bool (.var 4)) .nil)) (.cons (.cmp .ne (.var 4) (.call "_law_is_number" (.cons (.var 3) .nil))) .nil)) (.cons (.ret (.con (.bl false))) .nil) .nil) .nil)) [some (.scr ns), some (.loc 2), x, some d, z] S
        = .ok (.nx [some (.scr ns), some (.loc 2), x, some d, some (.bl (fracB d))]) S := by
    intro S d x y z hd
    have e1 := hf S d hd
    have e2 := hn S d hd
    walk_at "mps"
    apply r_iff
    · apply t_orf
      · apply t_nt (S1 := S) (x := true)
        apply t_of
        · apply e_isi
          · exact e_var rfl
          · exact rfl
        · rfl
      · apply t_of
        · apply e_cmp
          · exact e_var rfl
          · apply e_call
            · exact a_cn (e_var rfl) a_nl
            · exact e2
          · exact o_ne eqF_bool
        · rw [decide_eq_true rfl]
          rfl
    · exact r_nil
    · rfl
  obtain ⟨S0, hS0, st0⟩ : ∃ S0 : Sto, S0 = [.lst ((Mp.cut ns none (some 63)).map D.int), .lst ((Mp.cut ns none (some 63)).map D.int), .lst [.loc 1, .int 0, .int 0, .int 0]] ∧ St S0 2 0 := ⟨_, rfl, tape_St ns⟩
  have et := tape_run G [some (.scr ns), none, none, none, none] 0 ns rfl
  rw [← hS0] at et
  obtain ⟨δ1, S1, e1, x, y, z, hδ, st1⟩ := forL_inv (c := []) (g := .nm 2) (body := evS G 0 (.cons (.for_ (.nm 3) (.itv (.call "_law_things" (.cons (.var 1) .nil)))
      (.cons (.asg 4 (.call "is_fraction" (.cons (.var 3) .nil))) (.cons (.ifs (.orV (.notV (.cons (.isi .bool (.var 4)) .nil)) (.cons (.cmp .ne (.var 4) (.call "_law_is_number" (.cons (.var 3) .nil))) .nil)) (.cons (.ret (.con (.bl false))) .nil) .nil) .nil))) .nil))
    (fun j δ S => ∃ x y z, δ = [some (.scr ns), some (.loc 2), x, y, z] ∧ St S 2 (11 * j))
    ((List.range (5 : Int).toNat).map fun (k : Nat) => D.int (0 + (k : Int))) 0 [some (.scr ns), some (.loc 2), none, none, none] S0 (fun _ _ _ _ => okC_nil)
    (fun j d δ S hj hI => by
      have hj5 : j < 5 := by
        have := (List.getElem?_eq_some_iff.mp hj).1
        simpa using this
      obtain ⟨x, y, z, rfl, st⟩ := hI
      obtain ⟨n, items, S', e, hn', hall, st'⟩ := ht S 2 _ st (by omega)
      obtain ⟨δ2, S2, e2, ⟨y2, z2, rfl, rfl⟩⟩ := forL_inv (c := [(n, .lst items)]) (g := .nm 3) (body := evS G 0 (.cons (.asg 4 (.call "is_fraction" (.cons (.var 3) .nil))) (.cons (.ifs (.orV (.notV (.cons (.isi .bool (.var 4)) .nil)) (.cons (.cmp .ne (.var 4) (.call "_law_is_number" (.cons (.var 3) .nil))) .nil)) (.cons (.ret (.con (.bl false))) .nil) .nil) .nil)))
        (fun _ δ S => ∃ y z, δ = [some (.scr ns), some (.loc 2), some d, y, z] ∧ S = S') items 0 [some (.scr ns), some (.loc 2), some d, y, z] S'
        (fun j δ S ⟨_, _, _, e⟩ => by rw [e]; exact okC_one hn')
        (fun j d' δ S hj' hI' => by
          obtain ⟨y, z, rfl, rfl⟩ := hI'
          exact ⟨_, _, S, rfl, inner S d' (some d) y z (hall d' (List.mem_of_getElem? hj')), _, _, rfl, rfl⟩)
        ⟨_, _, rfl, rfl⟩
      refine ⟨_, [some (.scr ns), some (.loc 2), some d, y2, z2], S2, rfl, ?_, some d, y2, z2, rfl, st'.le (by omega)⟩
      apply r_for
      · apply i_v
        · apply e_call
          · exact a_cn (e_var rfl) a_nl
          · exact e
        · simp only [iterF, hn']
          rfl
      · exact e2
      · exact r_nil)
    ⟨_, _, _, rfl, st0⟩
  subst hδ
  refine ⟨S1, specOf_ok (n := 0) (r_fun (show evS G 0 ir_law [some (.scr ns), none, none, none, none] [] = _ from ?_))⟩
  dsimp only [ir_law]
  apply r_asg
  · exact et
  dsimp only [List.set]
  apply r_for
  · apply i_r
    · exact a_cn e_con a_nl
    · exact rfl
  · exact e1
  · exact r_ret e_con
end Lib
set_option exponentiation.threshold 10000
namespace Lk2
open PySem Mp Lib
/-! ### more step rules -/
theorem r_tri {G : Gt} {N : Nat} {δ : Mp.Env} {S S1 S2 : Sto} {b : Is} {r : Ret Fl} {c c' f : Str} {i j : Nat} {t : Option Nat} {a : Ie} {ds : List D} (h : evA G a δ S = .ok ds S1) (h2 : G.fn f ds S1 = .exc c' S2) (hc : (decide (c' ∈ exnAll) && subE c' c) = true)
    (k : evS G N b (((δ.set i (some (.exc c'))).set j (some (.exc c'))).set i none) S2 = r) : evS G N (.cons (.tri c i j t f a) b) δ S = r := by
  rw [evS, evS]
  show ((match quiet (evA G a δ) S with
    | .ok ds S1 => match G.fn f ds S1 with
      | .ok d S2 => .ok (.nx (putT t d δ)) S2
      | .exc c' S2 => if (decide (c' ∈ exnAll) && subE c' c) = true then .ok (.nx (((δ.set i (some (.exc c'))).set j (some (.exc c'))).set i none)) S2 else .bad
      | .bad => .bad
    | _ => .bad : Ret Fl)).bind _ = r
  simp only [quiet, h, h2, if_pos hc]
  exact k
theorem r_trin {G : Gt} {N : Nat} {δ : Mp.Env} {S S1 S2 : Sto} {b : Is} {r : Ret Fl} {c f : Str} {i j : Nat} {t : Option Nat} {a : Ie} {ds : List D} {d : D} (h : evA G a δ S = .ok ds S1) (h2 : G.fn f ds S1 = .ok d S2)
    (k : evS G N b (putT t d δ) S2 = r) : evS G N (.cons (.tri c i j t f a) b) δ S = r := by
  rw [evS, evS]
  show ((match quiet (evA G a δ) S with
    | .ok ds S1 => match G.fn f ds S1 with
      | .ok d S2 => .ok (.nx (putT t d δ)) S2
      | .exc c' S2 => if (decide (c' ∈ exnAll) && subE c' c) = true then .ok (.nx (((δ.set i (some (.exc c'))).set j (some (.exc c'))).set i none)) S2 else .bad
      | .bad => .bad
    | _ => .bad : Ret Fl)).bind _ = r
  simp only [quiet, h, h2]
  exact k
theorem e_isx {G : Gt} {δ : Mp.Env} {S S1 : Sto} {a : Ie} {l : List Str} {c : Str} (h : evE G a δ S = .ok (.exc c) S1) (hc : decide (c ∈ exnAll) = true) : evE G (.isx l a) δ S = .ok (.bl (l.any (subE c))) S1 := by
  rw [evE]
  show (evE G a δ S).bind _ = _
  rw [h]
  show Mp.chk (decide (c ∈ exnAll)) _ S1 = _
  rw [hc]
  rfl
theorem r_funx {G : Gt} {N : Nat} {b : Is} {ds : List D} {slots : Nat} {c : Str} {S S1 : Sto} (h : evS G N b (ds.map some ++ List.replicate (slots - ds.length) none) S = .exc c S1) : evF G N slots b ds S = .exc c S1 := by
  unfold evF
  show (evS G N b _ S).bind _ = _
  rw [h]
  rfl
/-- a comprehension that maps -/
theorem lcL_map {c : Chk} {n : Nat} {own : List Nat} {g : Tg} {t : Mp.Env → M Bool} {e : Mp.Env → M D} {δ : Mp.Env} (f : D → D) : ∀ (ds : List D) (acc : List D) (S : Sto), S[n]? = some (.lst acc) → acc.length + ds.length < sz →
    (∀ o, okC c (S.set n o) = true) → (∀ d ∈ ds, ∃ δ1, g.put d (wipeD δ own) = some δ1 ∧ (∀ o, t δ1 (S.set n o) = .ok true (S.set n o)) ∧ ∀ o, e δ1 (S.set n o) = .ok (f d) (S.set n o)) →
    lcL c n own g t e ds δ S = .ok (.loc n) (S.set n (.lst (acc ++ ds.map f)))
  | [], acc, S, h, hl, hc, hd => by
    have es : S.set n (.lst acc) = S := by
      apply List.ext_getElem?
      intro k
      by_cases q : n = k
      · subst q
        rw [set_at h, h]
      · rw [List.getElem?_set_ne q]
    rw [lcL, List.map_nil, List.append_nil, es]
    dsimp only
    have := hc (.lst acc)
    rw [es] at this
    rw [if_pos this]
  | d :: ds, acc, S, h, hl, hc, hd => by
    have es : S.set n (.lst acc) = S := by
      apply List.ext_getElem?
      intro k
      by_cases q : n = k
      · subst q
        rw [set_at h, h]
      · rw [List.getElem?_set_ne q]
    obtain ⟨δ1, h1, h2, h3⟩ := hd d List.mem_cons_self
    have hc0 := hc (.lst acc)
    have h20 := h2 (.lst acc)
    have h30 := h3 (.lst acc)
    rw [es] at hc0 h20 h30
    have hlen : acc.length < sz := by rw [List.length_cons] at hl; omega
    rw [lcL]
    dsimp only
    rw [if_pos hc0, h1]
    dsimp only
    rw [h20]
    show (if true = true then (e δ1 S).bind _ else lcL c n own g t e ds δ S) = _
    rw [if_pos rfl, h30]
    show (match S[n]? with
      | some (.lst acc) => if acc.length < sz then lcL c n own g t e ds δ (S.set n (.lst (acc ++ [f d]))) else .bad
      | _ => .bad) = _
    rw [h]
    dsimp only
    rw [if_pos hlen, lcL_map f ds (acc ++ [f d]) (S.set n (.lst (acc ++ [f d]))) (set_at h) (by rw [List.length_append, List.length_singleton]; rw [List.length_cons] at hl; omega)
      (fun o => by rw [List.set_set]; exact hc o) (fun d' hd' => by
        obtain ⟨δ2, q1, q2, q3⟩ := hd d' (List.mem_cons_of_mem _ hd')
        exact ⟨δ2, q1, fun o => by rw [List.set_set]; exact q2 o, fun o => by rw [List.set_set]; exact q3 o⟩)]
    rw [List.set_set, List.map_cons, List.append_assoc]
    rfl
theorem e_comp {G : Gt} {δ : Mp.Env} {S S1 : Sto} {own : List (Str × Nat)} {it : Ie} {tg : List Nat} {t e : Ie} {p : List D × Chk} {z : Ret D} (h : evI G it δ S = .ok p S1)
    (h2 : lcL p.2 S1.length (own.map (·.2)) (tgOf tg) (fun δ' => quiet (evT G t δ')) (fun δ' => quiet (evE G e δ')) p.1 δ (S1 ++ [.lst []]) = z) : evE G (.comp own it tg t e) δ S = z := by
  rw [evE]
  show (evI G it δ S).bind _ = z
  rw [h]
  exact h2
theorem quiet_ok {α : Type} {x : M α} {S S1 : Sto} {d : α} (h : x S = .ok d S1) : quiet x S = .ok d S1 := by
  unfold quiet
  rw [h]
local macro_rules | `(tactic| walk_at "mpl") => `(tactic| first
  | assumption | exact set_at (by (walk_at "mpl")) | (refine (set_ne (by assumption)).trans ?_; (walk_at "mpl")) | exact push_at | (refine push_old ?_; (walk_at "mpl")))
local macro_rules | `(tactic| walk_at "mpo") => `(tactic| first
  | exact o_eq_int | exact o_ne_int | exact o_pow18
  | (apply o_ixl; (walk_at "mpl"); exact rfl) | exact o_ixt rfl | exact o_ixw rfl
  | exact o_len_t | exact o_len_w | (apply o_len_l; (walk_at "mpl"))
  | exact o_mod (by omega) | exact o_fdv64 (by omega) (by omega) | exact o_mul64 (by omega) (by omega) | exact o_mul (by assumption)
  | exact rfl)
local macro_rules | `(tactic| walk_at "mpa") => `(tactic| first
  | exact a_nl
  | (apply a_cn; (walk_at "mpe"); (walk_at "mpa")))
local macro_rules | `(tactic| walk_at "mpp") => `(tactic| first
  | exact o_nl
  | (apply o_cn; (walk_at "mpe")))
local macro_rules | `(tactic| walk_at "mpe") => `(tactic| first
  | exact e_con | exact e_var rfl | exact e_glob rfl
  | (apply e_ix; (walk_at "mpe"); (walk_at "mpe"); (walk_at "mpo"))
  | (apply e_bin; (walk_at "mpe"); (walk_at "mpe"); (walk_at "mpo"))
  | (apply e_cmp; (walk_at "mpe"); (walk_at "mpe"); (walk_at "mpo"))
  | (apply e_bi; (walk_at "mpa"); (walk_at "mpo"))
  | (apply e_isi; (walk_at "mpe"); (walk_at "mpo"))
  | (apply e_tup; (walk_at "mpa"); exact le_sz (by simp))
  | (apply e_lst; (walk_at "mpa"); exact le_sz (by simp))
  | (apply e_call; (walk_at "mpa"); (walk_at "mpc"))
  | (apply e_sl; (walk_at "mpe"); (walk_at "mpp"); (walk_at "mpp"); (walk_at "mpo"))
  | (apply e_not; (walk_at "mpe"))
  | (apply e_neg; (walk_at "mpe")))
local macro_rules | `(tactic| walk_at "mpt") => `(tactic| first
  | exact t_yes
  | (apply t_of; (walk_at "mpe"); exact rfl)
  | (apply t_nt; (walk_at "mpt"))
  | (apply t_and2; (walk_at "mpt"); (intro _; (walk_at "mpt")))
  | (apply t_or2; (walk_at "mpt"); (intro _; (walk_at "mpt"))))
local macro_rules | `(tactic| walk_at "mps") => `(tactic| first
  | (apply r_asg; (walk_at "mpe"); (try dsimp only [List.set]))
  | (apply r_par; (walk_at "mpe"); (walk_at "mpe"); (try dsimp only [List.set]))
  | (apply Eq.trans; (apply r_ret; (walk_at "mpe")))
  | (apply r_sub; (walk_at "mpe"); (walk_at "mpe"); (walk_at "mpe"); apply o_putl; (walk_at "mpl"); exact rfl; (try dsimp only [List.set]))
  | (apply r_ex; (walk_at "mpe"))
  | (apply r_if (hx := rfl) (hy := rfl); (walk_at "mpt"); dsimp only [isApp])
  | exact r_nil)
def ir_lowest_terms : Is :=
  (.cons (.ifs (.cons (.cmp .lt (.var 1) (.con (.int 0))) .nil)
  (.cons (.par 0 1 (.bin .sub (.con (.int 0)) (.var 0)) (.bin .sub (.con (.int 0)) (.var 1)))
  .nil)
  .nil)
  (.cons (.asg 2 (.call "common_measure" (.cons (.bi .abs (.cons (.var 0) .nil)) (.cons (.var 1) .nil))))
  (.cons (.ret (.tup (.cons (.bin .fdv (.var 0) (.var 2)) (.cons (.bin .fdv (.var 1) (.var 2)) .nil))))
  .nil)))
def ir_added : Is :=
  (.cons (.ret (.call "lowest_terms" (.cons (.bin .add (.bin .mul (.ix (.var 0) (.con (.int 0))) (.ix (.var 1) (.con (.int 1)))) (.bin .mul (.ix (.var 1) (.con (.int 0))) (.ix (.var 0) (.con (.int 1))))) (.cons (.bin .mul (.ix (.var 0) (.con (.int 1))) (.ix (.var 1) (.con (.int 1)))) .nil))))
  .nil)
def ir_less : Is :=
  (.cons (.ret (.call "lowest_terms" (.cons (.bin .sub (.bin .mul (.ix (.var 0) (.con (.int 0))) (.ix (.var 1) (.con (.int 1)))) (.bin .mul (.ix (.var 1) (.con (.int 0))) (.ix (.var 0) (.con (.int 1))))) (.cons (.bin .mul (.ix (.var 0) (.con (.int 1))) (.ix (.var 1) (.con (.int 1)))) .nil))))
  .nil)
def ir_multiplied : Is :=
  (.cons (.ret (.call "lowest_terms" (.cons (.bin .mul (.ix (.var 0) (.con (.int 0))) (.ix (.var 1) (.con (.int 0)))) (.cons (.bin .mul (.ix (.var 0) (.con (.int 1))) (.ix (.var 1) (.con (.int 1)))) .nil))))
  .nil)
def ir_divided : Is :=
  (.cons (.ifs (.cons (.cmp .eq (.ix (.var 1) (.con (.int 0))) (.con (.int 0))) .nil)
  (.cons (.rse "NoQuotient" (.con (.str "a division by nought")))
  .nil)
  .nil)
  (.cons (.ret (.call "lowest_terms" (.cons (.bin .mul (.ix (.var 0) (.con (.int 0))) (.ix (.var 1) (.con (.int 1)))) (.cons (.bin .mul (.ix (.var 0) (.con (.int 1))) (.ix (.var 1) (.con (.int 0)))) .nil))))
  .nil))
def ir_beside : Is :=
  (.cons (.asg 2 (.bin .sub (.bin .mul (.ix (.var 0) (.con (.int 0))) (.ix (.var 1) (.con (.int 1)))) (.bin .mul (.ix (.var 1) (.con (.int 0))) (.ix (.var 0) (.con (.int 1))))))
  (.cons (.ret (.bin .sub (.bi .int (.cons (.cmp .gt (.var 2) (.con (.int 0))) .nil)) (.bi .int (.cons (.cmp .lt (.var 2) (.con (.int 0))) .nil))))
  .nil))
def ir_law_number : Is :=
  (.cons (.asg 1 (.call "_law_draw" (.cons (.var 0) (.cons (.con (.int 24)) .nil))))
  (.cons (.asg 2 (.bin .sub (.call "_law_draw" (.cons (.var 0) (.cons (.con (.int 13)) .nil))) (.con (.int 6))))
  (.cons (.ifs (.cons (.cmp .lt (.var 1) (.con (.int 16))) .nil)
  (.cons (.ret (.tup (.cons (.var 2) (.cons (.con (.int 1)) .nil))))
  .nil)
  .nil)
  (.cons (.ifs (.cons (.cmp .lt (.var 1) (.con (.int 23))) .nil)
  (.cons (.ret (.call "_law_low" (.cons (.var 2) (.cons (.bin .add (.con (.int 1)) (.call "_law_draw" (.cons (.var 0) (.cons (.con (.int 7)) .nil)))) .nil))))
  .nil)
  .nil)
  (.cons (.asg 3 (.bin .mul (.call "_law_draw" (.cons (.var 0) (.cons (.bin .pow (.con (.int 10)) (.con (.int 12))) .nil))) (.bin .sub (.con (.int 1)) (.bin .mul (.con (.int 2)) (.call "_law_draw" (.cons (.var 0) (.cons (.con (.int 2)) .nil)))))))
  (.cons (.ret (.call "_law_low" (.cons (.var 3) (.cons (.bin .add (.con (.int 1)) (.call "_law_draw" (.cons (.var 0) (.cons (.bin .pow (.con (.int 10)) (.con (.int 4))) .nil)))) .nil))))
  .nil))))))
def ir_law_fraction : Is :=
  (.cons (.ifs (.cons (.cmp .gt (.call "_law_draw" (.cons (.var 0) (.cons (.con (.int 4)) .nil))) (.con (.int 0))) .nil)
  (.cons (.ret (.call "_law_number" (.cons (.var 0) .nil)))
  .nil)
  .nil)
  (.cons (.asg 1 (.bin .add (.bin .mul (.call "_law_draw" (.cons (.var 0) (.cons (.bin .pow (.con (.int 10)) (.con (.int 15))) .nil))) (.bin .pow (.con (.int 10)) (.con (.int 15)))) (.call "_law_draw" (.cons (.var 0) (.cons (.bin .pow (.con (.int 10)) (.con (.int 15))) .nil)))))
  (.cons (.asg 2 (.bin .add (.bin .add (.con (.int 1)) (.bin .mul (.call "_law_draw" (.cons (.var 0) (.cons (.bin .pow (.con (.int 10)) (.con (.int 15))) .nil))) (.bin .pow (.con (.int 10)) (.con (.int 14))))) (.call "_law_draw" (.cons (.var 0) (.cons (.bin .pow (.con (.int 10)) (.con (.int 14))) .nil)))))
  (.cons (.ret (.call "_law_low" (.cons (.bin .mul (.var 1) (.bin .sub (.con (.int 1)) (.bin .mul (.con (.int 2)) (.call "_law_draw" (.cons (.var 0) (.cons (.con (.int 2)) .nil)))))) (.cons (.var 2) .nil))))
  .nil))))
def ir_law_refused : Is :=
  (.cons (.asg 2 (.con .non))
  (.cons (.tri "LowwaterError" 3 2 none "divided" (.cons (.var 0) (.cons (.var 1) .nil)))
  (.cons (.ifs (.cons (.isx ["NoLine", "NoRow", "NoText", "NotSecond", "NotStraight", "TooGreat", "TooMany"] (.var 2)) .nil)
  (.cons (.ret (.con (.bl false)))
  .nil)
  .nil)
  (.cons (.ret (.andV (.isx ["NoQuotient"] (.var 2)) (.isx ["ValueError"] (.var 2))))
  .nil))))
def ir_law_right : Is :=
  (.cons (.unp [2, 3] (.var 0))
  (.cons (.unp [4, 5] (.var 1))
  (.cons (.asg 6 (.lst (.cons (.call "added" (.cons (.var 0) (.cons (.var 1) .nil))) (.cons (.call "less" (.cons (.var 0) (.cons (.var 1) .nil))) (.cons (.call "multiplied" (.cons (.var 0) (.cons (.var 1) .nil))) .nil)))))
  (.cons (.asg 7 (.lst (.cons (.call "_law_low" (.cons (.bin .add (.bin .mul (.var 2) (.var 5)) (.bin .mul (.var 4) (.var 3))) (.cons (.bin .mul (.var 3) (.var 5)) .nil))) .nil)))
  (.cons (.asg 7 (.bin .add (.var 7) (.lst (.cons (.call "_law_low" (.cons (.bin .sub (.bin .mul (.var 2) (.var 5)) (.bin .mul (.var 4) (.var 3))) (.cons (.bin .mul (.var 3) (.var 5)) .nil))) (.cons (.call "_law_low" (.cons (.bin .mul (.var 2) (.var 4)) (.cons (.bin .mul (.var 3) (.var 5)) .nil))) .nil)))))
  (.cons (.ifs (.andV (.cons (.cmp .eq (.var 4) (.con (.int 0))) .nil) (.notV (.cons (.call "_law_refused" (.cons (.var 0) (.cons (.var 1) .nil))) .nil)))
  (.cons (.ret (.con (.bl false)))
  .nil)
  .nil)
  (.cons (.ifs (.cons (.cmp .ne (.var 4) (.con (.int 0))) .nil)
  (.cons (.ex (.app (.var 6) (.call "divided" (.cons (.var 0) (.cons (.var 1) .nil)))))
  (.cons (.ex (.app (.var 7) (.call "_law_low" (.cons (.bin .mul (.var 2) (.var 5)) (.cons (.bin .mul (.var 3) (.var 4)) .nil)))))
  .nil))
  .nil)
  (.cons (.ifs (.orV (.cons (.cmp .ne (.var 6) (.var 7)) .nil) (.notV (.cons (.bi .all (.cons (.comp [("number", 8)] (.itv (.var 6)) [8] .yes (.call "_law_is_number" (.cons (.var 8) .nil))) .nil)) .nil)))
  (.cons (.ret (.con (.bl false)))
  .nil)
  .nil)
  (.cons (.asg 9 (.call "beside" (.cons (.var 0) (.cons (.var 1) .nil))))
  (.cons (.asg 10 (.bin .sub (.bin .mul (.var 2) (.var 5)) (.bin .mul (.var 4) (.var 3))))
  (.cons (.ifs (.orV (.notV (.cons (.isi .int (.var 9)) .nil)) (.cons (.isi .bool (.var 9)) .nil))
  (.cons (.ret (.con (.bl false)))
  .nil)
  .nil)
  (.cons (.ret (.cmp .eq (.var 9) (.bin .sub (.bi .int (.cons (.cmp .gt (.var 10) (.con (.int 0))) .nil)) (.bi .int (.cons (.cmp .lt (.var 10) (.con (.int 0))) .nil)))))
  .nil))))))))))))
def ir_law : Is :=
  (.cons (.asg 1 (.lst (.cons (.bi .list (.cons (.sl (.var 0) .nil (.cons (.con (.int 63)) .nil)) .nil)) (.cons (.con (.int 0)) (.cons (.con (.int 0)) (.cons (.con (.int 0)) .nil))))))
  (.cons (.for_ (.nm 2) (.itr (.cons (.con (.int 6)) .nil))
  (.cons (.asg 3 (.call "_law_fraction" (.cons (.var 1) .nil)))
  (.cons (.asg 4 (.call "_law_fraction" (.cons (.var 1) .nil)))
  (.cons (.ifs (.cons (.cmp .eq (.call "_law_draw" (.cons (.var 1) (.cons (.con (.int 6)) .nil))) (.con (.int 0))) .nil)
  (.cons (.asg 4 (.var 3))
  .nil)
  .nil)
  (.cons (.for_ (.tp [5, 6]) (.itv (.lst (.cons (.tup (.cons (.var 3) (.cons (.var 4) .nil))) (.cons (.tup (.cons (.var 4) (.cons (.var 3) .nil))) (.cons (.tup (.cons (.var 3) (.cons (.tup (.cons (.con (.int 0)) (.cons (.con (.int 1)) .nil))) .nil))) (.cons (.tup (.cons (.tup (.cons (.con (.int 0)) (.cons (.con (.int 1)) .nil))) (.cons (.var 4) .nil))) .nil))))))
  (.cons (.ifs (.notV (.cons (.call "_law_right" (.cons (.var 5) (.cons (.var 6) .nil))) .nil))
  (.cons (.ret (.con (.bl false)))
  .nil)
  .nil)
  .nil))
  .nil)))))
  (.cons (.ret (.con (.bl true)))
  .nil)))
local macro_rules | `(tactic| walk_at "mpc") => `(tactic| assumption)
/-! ### lowest terms as the program has them -/
def CmOk (f : List D → M D) : Prop := ∀ (a b : Int) (S : Sto), 0 ≤ a → 0 ≤ b → f [.int a, .int b] S = .ok (.int (Int.gcd a b)) S
theorem lt_run (G : Gt) (hc : CmOk (G.fn "common_measure")) : LowOk (specOf G 3 ir_lowest_terms) := by
  intro S a b hb h
  refine specOf_ok (n := 0) (r_fun ?_)
  show evS G 0 ir_lowest_terms [some (.int a), some (.int b), none] S = _
  have key : ∀ a' b' : Int, 0 < b' → b'.natAbs < 2 ^ 8000 → evS G 0 (.cons (.asg 2 (.call "common_measure" (.cons (.bi .abs (.cons (.var 0) .nil)) (.cons (.var 1) .nil))))
  (.cons (.ret (.tup (.cons (.bin .fdv (.var 0) (.var 2)) (.cons (.bin .fdv (.var 1) (.var 2)) .nil))))
  .nil)) [some (.int a'), some (.int b'), none] S = .ok (.rt (encI (a' / Int.gcd a' b', b' / Int.gcd a' b'))) S := fun a' b' h1 h2 => by
    have e := hc (a'.natAbs : Nat) b' S (by omega) (by omega)
    have e2 : Int.gcd ((a'.natAbs : Nat) : Int) b' = Int.gcd a' b' := by show Nat.gcd _ _ = Nat.gcd _ _; rw [Int.natAbs_natCast]
    rw [e2] at e
    have g1 := gcd_pos (a := a') (show b' ≠ 0 by omega)
    have g2 := gcd_bits (a := a') (show b' ≠ 0 by omega) h2
    apply r_asg
    · apply e_call
      · apply a_cn
        · apply e_bi
          · walk_at "mpa"
          · rfl
        · walk_at "mpa"
      · rw [abs_eq]
        exact e
    dsimp only [List.set]
    apply r_ret
    apply e_tup
    · apply a_cn
      · apply e_bin
        · walk_at "mpe"
        · walk_at "mpe"
        · exact o_fdvg g1 g2
      · apply a_cn
        · apply e_bin
          · walk_at "mpe"
          · walk_at "mpe"
          · exact o_fdvg g1 g2
        · exact a_nl
    · exact le_sz (by simp)
  dsimp only [ir_lowest_terms]
  apply r_if (hx := rfl) (hy := rfl)
  · walk_at "mpt"
  · intro c
    have c : b < 0 := of_decide_eq_true c
    dsimp only [isApp]
    walk_at "mps"
    rw [key (0 - a) (0 - b) (by omega) (by omega)]
    unfold lowF
    rw [if_pos c]
    have e : Int.gcd (0 - a) (0 - b) = Int.gcd a b := by
      show Nat.gcd _ _ = Nat.gcd _ _
      rw [show (0 - a).natAbs = a.natAbs by omega, show (0 - b).natAbs = b.natAbs by omega]
    rw [e, show 0 - a = -a by omega, show 0 - b = -b by omega]
  · intro c
    have c : ¬ b < 0 := of_decide_eq_false c
    dsimp only [isApp]
    rw [key a b (by omega) h]
    unfold lowF
    rw [if_neg c]
theorem lowF_ok {a b : Int} (h : b ≠ 0) : 0 < (lowF a b).2 ∧ Int.gcd (lowF a b).1 (lowF a b).2 = 1 := by
  have g1 : 0 < Int.gcd a b := Int.gcd_pos_of_ne_zero_right a h
  unfold lowF
  split
  · rename_i c
    have e : Int.gcd (-a) (-b) = Int.gcd a b := by rw [Int.gcd_neg, Int.neg_gcd]
    refine ⟨?_, ?_⟩
    · have hd : ((Int.gcd a b : Nat) : Int) ∣ -b := Int.dvd_neg.mpr (Int.gcd_dvd_right a b)
      exact Int.ediv_pos_of_pos_of_dvd (by omega) (by omega) hd
    · rw [← e]
      exact Int.gcd_ediv_gcd_ediv_gcd (by rw [e]; exact g1)
  · refine ⟨?_, Int.gcd_ediv_gcd_ediv_gcd g1⟩
    exact Int.ediv_pos_of_pos_of_dvd (by omega) (by omega) (Int.gcd_dvd_right a b)
theorem lowF_b {a b : Int} {n : Nat} (ha : a.natAbs < 2 ^ n) (hb : b.natAbs < 2 ^ n) : (lowF a b).1.natAbs < 2 ^ (n + 1) ∧ (lowF a b).2.natAbs < 2 ^ (n + 1) := by
  have e : 2 ^ n + 1 ≤ 2 ^ (n + 1) := by rw [Nat.pow_succ]; have := Nat.one_le_two_pow (n := n); omega
  unfold lowF
  split
  · have h1 := gdiv_le (-a) (g := Int.gcd a b)
    have h2 := gdiv_le (-b) (g := Int.gcd a b)
    rw [Int.natAbs_neg] at h1 h2
    exact ⟨by show Int.natAbs (-a / _) < _; omega, by show Int.natAbs (-b / _) < _; omega⟩
  · have h1 := gdiv_le a (g := Int.gcd a b)
    have h2 := gdiv_le b (g := Int.gcd a b)
    exact ⟨by show Int.natAbs (a / _) < _; omega, by show Int.natAbs (b / _) < _; omega⟩
/-! ### fractions -/
/-- a pair of whole numbers, the lower one above 0, both of at most 150 bits -/
def Fr (p q : Int) : Prop := 0 < q ∧ p.natAbs < 2 ^ 150 ∧ q.natAbs < 2 ^ 150
abbrev fD (p q : Int) : D := .tup [.int p, .int q]
theorem Fr.mul {a b : Int} (ha : a.natAbs < 2 ^ 150) (hb : b.natAbs < 2 ^ 150) : L2.CMulX a b := mulb (a := 150) (b := 150) ha hb
theorem mul300 {a b : Int} (ha : a.natAbs < 2 ^ 150) (hb : b.natAbs < 2 ^ 150) : (a * b).natAbs < 2 ^ 300 := by
  rw [Int.natAbs_mul]
  calc a.natAbs * b.natAbs < 2 ^ 150 * 2 ^ 150 := Nat.mul_lt_mul'' ha hb
    _ = 2 ^ 300 := by decide
/-- what the four of them are -/
def BinOk (f : List D → M D) (u : Int → Int → Int → Int → Int) (d : Int → Int → Int → Int → Int) : Prop := ∀ (S : Sto) (p q p' q' : Int), Fr p q → Fr p' q' → f [fD p q, fD p' q'] S = .ok (encI (lowF (u p q p' q') (d p q p' q'))) S
theorem big {n : Nat} {x : Int} (h : x.natAbs < 2 ^ n) (hn : n ≤ 8000 := by decide) : x.natAbs < 2 ^ 8000 := Nat.lt_of_lt_of_le h (Nat.pow_le_pow_right (by decide) hn)
theorem mul_ne {q q' : Int} (h : 0 < q) (h' : 0 < q') : q * q' ≠ 0 := by
  have := Int.mul_pos h h'
  omega
theorem added_run (G : Gt) (hl : LowOk (G.fn "lowest_terms")) : BinOk (specOf G 2 ir_added) (fun p q p' q' => p * q' + p' * q) (fun _ q _ q' => q * q') := by
  intro S p q p' q' ⟨h1, h2, h3⟩ ⟨k1, k2, k3⟩
  have e := hl S (p * q' + p' * q) (q * q') (mul_ne h1 k1) (big (mul300 h3 k3))
  have m1 := Fr.mul h2 k3
  have m2 := Fr.mul k2 h3
  have m3 := Fr.mul h3 k3
  clear h2 h3 k2 k3
  refine specOf_ok (n := 0) (r_fun ?_)
  show evS G 0 ir_added [some (fD p q), some (fD p' q')] S = _
  dsimp only [ir_added]
  walk_at "mps"
  exact rfl
theorem less_run (G : Gt) (hl : LowOk (G.fn "lowest_terms")) : BinOk (specOf G 2 ir_less) (fun p q p' q' => p * q' - p' * q) (fun _ q _ q' => q * q') := by
  intro S p q p' q' ⟨h1, h2, h3⟩ ⟨k1, k2, k3⟩
  have e := hl S (p * q' - p' * q) (q * q') (mul_ne h1 k1) (big (mul300 h3 k3))
  have m1 := Fr.mul h2 k3
  have m2 := Fr.mul k2 h3
  have m3 := Fr.mul h3 k3
  clear h2 h3 k2 k3
  refine specOf_ok (n := 0) (r_fun ?_)
  show evS G 0 ir_less [some (fD p q), some (fD p' q')] S = _
  dsimp only [ir_less]
  walk_at "mps"
  exact rfl
theorem mult_run (G : Gt) (hl : LowOk (G.fn "lowest_terms")) : BinOk (specOf G 2 ir_multiplied) (fun p q p' q' => p * p') (fun _ q _ q' => q * q') := by
  intro S p q p' q' ⟨h1, h2, h3⟩ ⟨k1, k2, k3⟩
  have e := hl S (p * p') (q * q') (mul_ne h1 k1) (big (mul300 h3 k3))
  have m1 := Fr.mul h2 k2
  have m3 := Fr.mul h3 k3
  clear h2 h3 k2 k3
  refine specOf_ok (n := 0) (r_fun ?_)
  show evS G 0 ir_multiplied [some (fD p q), some (fD p' q')] S = _
  dsimp only [ir_multiplied]
  walk_at "mps"
  exact rfl
theorem div_run (G : Gt) (hl : LowOk (G.fn "lowest_terms")) (S : Sto) (p q p' q' : Int) (h : Fr p q) (k : Fr p' q') (hp : p' ≠ 0) : specOf G 2 ir_divided [fD p q, fD p' q'] S = .ok (encI (lowF (p * q') (q * p'))) S := by
  obtain ⟨h1, h2, h3⟩ := h
  obtain ⟨k1, k2, k3⟩ := k
  have e := hl S (p * q') (q * p') (Int.mul_ne_zero (by omega) hp) (big (mul300 h3 k2))
  have m1 := Fr.mul h2 k3
  have m3 := Fr.mul h3 k2
  clear h2 h3 k2 k3
  refine specOf_ok (n := 0) (r_fun ?_)
  show evS G 0 ir_divided [some (fD p q), some (fD p' q')] S = _
  dsimp only [ir_divided]
  walk_at "mps"
  · intro c
    exact absurd (of_decide_eq_true c) hp
  · intro c
    walk_at "mps"
    exact rfl
theorem div0_run (G : Gt) (S : Sto) (p q q' : Int) : specOf G 2 ir_divided [fD p q, fD 0 q'] S = .exc "NoQuotient" S := by
  refine specOf_exc (n := 0) (r_funx ?_)
  show evS G 0 ir_divided [some (fD p q), some (fD 0 q')] S = _
  dsimp only [ir_divided]
  apply r_ift
  · walk_at "mpt"
  · dsimp only [isApp]
    exact r_rse e_con
  · rfl
theorem refused_run (G : Gt) (hd : ∀ S p q q', G.fn "divided" [fD p q, fD 0 q'] S = .exc "NoQuotient" S) (S : Sto) (p q q' : Int) : specOf G 4 ir_law_refused [fD p q, fD 0 q'] S = .ok (.bl true) S := by
  have e := hd S p q q'
  refine specOf_ok (n := 0) (r_fun ?_)
  show evS G 0 ir_law_refused [some (fD p q), some (fD 0 q'), none, none] S = _
  dsimp only [ir_law_refused]
  walk_at "mps"
  apply r_tri
  · walk_at "mpa"
  · exact e
  · decide
  dsimp only [List.set]
  apply r_iff
  · apply t_of
    · exact e_isx (c := "NoQuotient") (e_var rfl) (by decide)
    · rfl
  · dsimp only [isApp]
    apply r_ret
    apply e_andt
    · exact e_isx (c := "NoQuotient") (e_var rfl) (by decide)
    · exact e_isx (c := "NoQuotient") (e_var rfl) (by decide)
  · rfl
end Lk2
set_option exponentiation.threshold 10000
namespace Lk2
open PySem Mp Lib
theorem o_pow15 {S : Sto} : binF .pow (.int 10) (.int 15) S = .ok (.int 1000000000000000) S := o_powc (by decide)
theorem o_pow14 {S : Sto} : binF .pow (.int 10) (.int 14) S = .ok (.int 100000000000000) S := o_powc (by decide)
theorem o_pow4 {S : Sto} : binF .pow (.int 10) (.int 4) S = .ok (.int 10000) S := o_powc (by decide)
local macro_rules | `(tactic| walk_at "mpl") => `(tactic| first
  | assumption | exact set_at (by (walk_at "mpl")) | (refine (set_ne (by assumption)).trans ?_; (walk_at "mpl")) | exact push_at | (refine push_old ?_; (walk_at "mpl")))
local macro_rules | `(tactic| walk_at "mpo") => `(tactic| first
  | exact o_eq_int | exact o_ne_int | exact o_pow18
  | (apply o_ixl; (walk_at "mpl"); exact rfl) | exact o_ixt rfl | exact o_ixw rfl
  | exact o_len_t | exact o_len_w | (apply o_len_l; (walk_at "mpl"))
  | exact o_mod (by omega) | exact o_fdv64 (by omega) (by omega) | exact o_mul64 (by omega) (by omega) | exact o_mul (by assumption)
  | exact rfl)
local macro_rules | `(tactic| walk_at "mpa") => `(tactic| first
  | exact a_nl
  | (apply a_cn; (walk_at "mpe"); (walk_at "mpa")))
local macro_rules | `(tactic| walk_at "mpp") => `(tactic| first
  | exact o_nl
  | (apply o_cn; (walk_at "mpe")))
local macro_rules | `(tactic| walk_at "mpe") => `(tactic| first
  | exact e_con | exact e_var rfl | exact e_glob rfl
  | (apply e_ix; (walk_at "mpe"); (walk_at "mpe"); (walk_at "mpo"))
  | (apply e_bin; (walk_at "mpe"); (walk_at "mpe"); (walk_at "mpo"))
  | (apply e_cmp; (walk_at "mpe"); (walk_at "mpe"); (walk_at "mpo"))
  | (apply e_bi; (walk_at "mpa"); (walk_at "mpo"))
  | (apply e_isi; (walk_at "mpe"); (walk_at "mpo"))
  | (apply e_tup; (walk_at "mpa"); exact le_sz (by simp))
  | (apply e_lst; (walk_at "mpa"); exact le_sz (by simp))
  | (apply e_call; (walk_at "mpa"); (walk_at "mpc"))
  | (apply e_sl; (walk_at "mpe"); (walk_at "mpp"); (walk_at "mpp"); (walk_at "mpo"))
  | (apply e_not; (walk_at "mpe"))
  | (apply e_neg; (walk_at "mpe")))
local macro_rules | `(tactic| walk_at "mpt") => `(tactic| first
  | exact t_yes
  | (apply t_of; (walk_at "mpe"); exact rfl)
  | (apply t_nt; (walk_at "mpt"))
  | (apply t_and2; (walk_at "mpt"); (intro _; (walk_at "mpt")))
  | (apply t_or2; (walk_at "mpt"); (intro _; (walk_at "mpt"))))
local macro_rules | `(tactic| walk_at "mps") => `(tactic| first
  | (apply r_asg; (walk_at "mpe"); (try dsimp only [List.set]))
  | (apply r_par; (walk_at "mpe"); (walk_at "mpe"); (try dsimp only [List.set]))
  | (apply Eq.trans; (apply r_ret; (walk_at "mpe")))
  | (apply r_sub; (walk_at "mpe"); (walk_at "mpe"); (walk_at "mpe"); apply o_putl; (walk_at "mpl"); exact rfl; (try dsimp only [List.set]))
  | (apply r_ex; (walk_at "mpe"))
  | (apply r_if (hx := rfl) (hy := rfl); (walk_at "mpt"); dsimp only [isApp])
  | exact r_nil)
local macro_rules | `(tactic| walk_at "mpc") => `(tactic| assumption)
local macro_rules | `(tactic| walk_at "mpo") => `(tactic| first
  | exact o_pow15 | exact o_pow14 | exact o_pow4 | exact o_pow12)
def besF (p q p' q' : Int) : Int := (if decide (0 < p * q' - p' * q) = true then 1 else 0) - (if decide (p * q' - p' * q < 0) = true then 1 else 0)
theorem beside_run (G : Gt) (S : Sto) (p q p' q' : Int) (h : Fr p q) (k : Fr p' q') : specOf G 3 ir_beside [fD p q, fD p' q'] S = .ok (.int (besF p q p' q')) S := by
  obtain ⟨h1, h2, h3⟩ := h
  obtain ⟨k1, k2, k3⟩ := k
  have m1 := Fr.mul h2 k3
  have m2 := Fr.mul k2 h3
  clear h2 h3 k2 k3
  refine specOf_ok (n := 0) (r_fun ?_)
  show evS G 0 ir_beside [some (fD p q), some (fD p' q'), none] S = _
  dsimp only [ir_beside]
  walk_at "mps"
  walk_at "mps"
  exact rfl
def FrOk (f : List D → M D) (n m : Int) : Prop := ∀ (S : Sto) (t : Nat) (k : Int), St S t k → k < m →
  ∃ p q S', f [.loc t] S = .ok (fD p q) S' ∧ Fr p q ∧ St S' t (k + n) ∧ Up t S S'
theorem Fr.low {a b : Int} (ha : a.natAbs < 2 ^ 149) (hb : 0 < b) (hb2 : b.natAbs < 2 ^ 149) : Fr (lowF a b).1 (lowF a b).2 :=
  ⟨(lowF_ok (by omega)).1, (lowF_b ha hb2).1, (lowF_b ha hb2).2⟩
theorem le149 {x : Nat} {n : Nat} (h : x < 2 ^ n) (hn : n ≤ 149 := by decide) : x < 2 ^ 149 := Nat.lt_of_lt_of_le h (Nat.pow_le_pow_right (by decide) hn)
theorem number_run (G : Gt) (hd : DrawOk (G.fn "_law_draw")) (hl : LowOk (G.fn "_law_low")) : FrOk (specOf G 4 ir_law_number) 5 850000000 := by
  intro S t k h hk
  obtain ⟨r1, S1, e1, a1, b1, s1, u1⟩ := hd S t k 24 h (by omega) (by omega) (by omega)
  obtain ⟨r2, S2, e2, a2, b2, s2, u2⟩ := hd S1 t (k + 1) 13 s1 (by omega) (by omega) (by omega)
  have run : ∀ {r : D} {S' : Sto}, evS G 0 ir_law_number [some (.loc t), none, none, none] S = .ok (.rt r) S' → specOf G 4 ir_law_number [.loc t] S = .ok r S' := fun e => specOf_ok (n := 0) (r_fun e)
  by_cases c1 : r1 < 16
  · refine ⟨r2 - 6, 1, S2, run ?_, ⟨by omega, le149 (n := 10) (by omega) |> fun h => Nat.lt_of_lt_of_le h (by decide), by decide⟩, s2.le (by omega), u1.trans u2⟩
    dsimp only [ir_law_number]
    walk_at "mps"
    walk_at "mps"
    walk_at "mps"
    · intro _
      walk_at "mps"
      rfl
    · intro c
      exact absurd c1 (of_decide_eq_false c)
  by_cases c2 : r1 < 23
  · obtain ⟨r3, S3, e3, a3, b3, s3, u3⟩ := hd S2 t (k + 1 + 1) 7 s2 (by omega) (by omega) (by omega)
    have el := hl S3 (r2 - 6) (1 + r3) (by omega) (big (n := 10) (by omega))
    refine ⟨(lowF (r2 - 6) (1 + r3)).1, (lowF (r2 - 6) (1 + r3)).2, S3, run ?_, Fr.low (le149 (n := 10) (by omega)) (by omega) (le149 (n := 10) (by omega)), s3.le (by omega), (u1.trans u2).trans u3⟩
    dsimp only [ir_law_number]
    walk_at "mps"
    walk_at "mps"
    walk_at "mps"
    · intro c
      exact absurd (of_decide_eq_true c) c1
    · intro _
      walk_at "mps"
      · intro _
        apply r_ret
        walk_at "mpe"
      · intro c
        exact absurd c2 (of_decide_eq_false c)
  · obtain ⟨r3, S3, e3, a3, b3, s3, u3⟩ := hd S2 t (k + 1 + 1) 1000000000000 s2 (by omega) (by omega) (by omega)
    obtain ⟨r4, S4, e4, a4, b4, s4, u4⟩ := hd S3 t (k + 1 + 1 + 1) 2 s3 (by omega) (by omega) (by omega)
    obtain ⟨r5, S5, e5, a5, b5, s5, u5⟩ := hd S4 t (k + 1 + 1 + 1 + 1) 10000 s4 (by omega) (by omega) (by omega)
    have hg : (r3 * (1 - 2 * r4)).natAbs < 2 ^ 100 := by
      rw [Int.natAbs_mul]
      calc r3.natAbs * (1 - 2 * r4).natAbs ≤ 2 ^ 60 * 2 := Nat.mul_le_mul (by omega) (by omega)
        _ < 2 ^ 100 := by decide
    have el := hl S5 (r3 * (1 - 2 * r4)) (1 + r5) (by omega) (big (n := 60) (by omega))
    refine ⟨(lowF (r3 * (1 - 2 * r4)) (1 + r5)).1, (lowF (r3 * (1 - 2 * r4)) (1 + r5)).2, S5, run ?_, Fr.low (le149 hg) (by omega) (le149 (n := 60) (by omega)), s5.le (by omega), (((u1.trans u2).trans u3).trans u4).trans u5⟩
    dsimp only [ir_law_number]
    walk_at "mps"
    walk_at "mps"
    walk_at "mps"
    · intro c
      exact absurd (of_decide_eq_true c) c1
    · intro _
      walk_at "mps"
      · intro c
        exact absurd (of_decide_eq_true c) c2
      · intro _
        walk_at "mps"
        apply r_ret
        walk_at "mpe"
theorem fraction_run (G : Gt) (hd : DrawOk (G.fn "_law_draw")) (hl : LowOk (G.fn "_law_low")) (hn : FrOk (G.fn "_law_number") 5 850000000) : FrOk (specOf G 3 ir_law_fraction) 6 800000000 := by
  intro S t k h hk
  obtain ⟨r1, S1, e1, a1, b1, s1, u1⟩ := hd S t k 4 h (by omega) (by omega) (by omega)
  have run : ∀ {r : D} {S' : Sto}, evS G 0 ir_law_fraction [some (.loc t), none, none] S = .ok (.rt r) S' → specOf G 3 ir_law_fraction [.loc t] S = .ok r S' := fun e => specOf_ok (n := 0) (r_fun e)
  by_cases c1 : 0 < r1
  · obtain ⟨p, q, S2, e2, f2, s2, u2⟩ := hn S1 t (k + 1) s1 (by omega)
    refine ⟨p, q, S2, run ?_, f2, s2.le (by omega), u1.trans u2⟩
    dsimp only [ir_law_fraction]
    walk_at "mps"
    · intro _
      apply r_ret
      walk_at "mpe"
    · intro c
      exact absurd c1 (of_decide_eq_false c)
  · obtain ⟨r2, S2, e2, a2, b2, s2, u2⟩ := hd S1 t (k + 1) 1000000000000000 s1 (by omega) (by omega) (by omega)
    obtain ⟨r3, S3, e3, a3, b3, s3, u3⟩ := hd S2 t (k + 1 + 1) 1000000000000000 s2 (by omega) (by omega) (by omega)
    obtain ⟨r4, S4, e4, a4, b4, s4, u4⟩ := hd S3 t (k + 1 + 1 + 1) 1000000000000000 s3 (by omega) (by omega) (by omega)
    obtain ⟨r5, S5, e5, a5, b5, s5, u5⟩ := hd S4 t (k + 1 + 1 + 1 + 1) 100000000000000 s4 (by omega) (by omega) (by omega)
    obtain ⟨r6, S6, e6, a6, b6, s6, u6⟩ := hd S5 t (k + 1 + 1 + 1 + 1 + 1) 2 s5 (by omega) (by omega) (by omega)
    have b1' : (r2 * 1000000000000000 + r3).natAbs < 2 ^ 110 := by omega
    have mm : L2.CMulX (r2 * 1000000000000000 + r3) (1 - 2 * r6) := mulb (a := 110) (b := 64) b1' (by omega)
    have hg : ((r2 * 1000000000000000 + r3) * (1 - 2 * r6)).natAbs < 2 ^ 120 := by
      rw [Int.natAbs_mul]
      calc (r2 * 1000000000000000 + r3).natAbs * (1 - 2 * r6).natAbs ≤ 2 ^ 110 * 2 := Nat.mul_le_mul (by omega) (by omega)
        _ < 2 ^ 120 := by decide
    have hb : (1 + r4 * 100000000000000 + r5).natAbs < 2 ^ 120 := by omega
    have hb0 : 0 < 1 + r4 * 100000000000000 + r5 := by omega
    have el := hl S6 ((r2 * 1000000000000000 + r3) * (1 - 2 * r6)) (1 + r4 * 100000000000000 + r5) (by omega) (big hb)
    refine ⟨(lowF ((r2 * 1000000000000000 + r3) * (1 - 2 * r6)) (1 + r4 * 100000000000000 + r5)).1, (lowF ((r2 * 1000000000000000 + r3) * (1 - 2 * r6)) (1 + r4 * 100000000000000 + r5)).2, S6, run ?_, Fr.low (le149 hg) hb0 (le149 hb), s6.le (by omega), ((((u1.trans u2).trans u3).trans u4).trans u5).trans u6⟩
    clear hg hb hb0 b1'
    dsimp only [ir_law_fraction]
    walk_at "mps"
    · intro c
      exact absurd (of_decide_eq_true c) c1
    · intro _
      walk_at "mps"
      walk_at "mps"
      apply r_ret
      walk_at "mpe"
end Lk2
set_option exponentiation.threshold 10000
namespace Lk2
open PySem Mp Lib
local macro_rules | `(tactic| walk_at "mpl") => `(tactic| first
  | assumption | exact set_at (by (walk_at "mpl")) | (refine (set_ne (by assumption)).trans ?_; (walk_at "mpl")) | exact push_at | (refine push_old ?_; (walk_at "mpl")))
local macro_rules | `(tactic| walk_at "mpo") => `(tactic| first
  | exact o_eq_int | exact o_ne_int | exact o_pow18
  | (apply o_ixl; (walk_at "mpl"); exact rfl) | exact o_ixt rfl | exact o_ixw rfl
  | exact o_len_t | exact o_len_w | (apply o_len_l; (walk_at "mpl"))
  | exact o_mod (by omega) | exact o_fdv64 (by omega) (by omega) | exact o_mul64 (by omega) (by omega) | exact o_mul (by assumption)
  | exact rfl)
local macro_rules | `(tactic| walk_at "mpa") => `(tactic| first
  | exact a_nl
  | (apply a_cn; (walk_at "mpe"); (walk_at "mpa")))
local macro_rules | `(tactic| walk_at "mpp") => `(tactic| first
  | exact o_nl
  | (apply o_cn; (walk_at "mpe")))
local macro_rules | `(tactic| walk_at "mpe") => `(tactic| first
  | exact e_con | exact e_var rfl | exact e_glob rfl
  | (apply e_ix; (walk_at "mpe"); (walk_at "mpe"); (walk_at "mpo"))
  | (apply e_bin; (walk_at "mpe"); (walk_at "mpe"); (walk_at "mpo"))
  | (apply e_cmp; (walk_at "mpe"); (walk_at "mpe"); (walk_at "mpo"))
  | (apply e_bi; (walk_at "mpa"); (walk_at "mpo"))
  | (apply e_isi; (walk_at "mpe"); (walk_at "mpo"))
  | (apply e_tup; (walk_at "mpa"); exact le_sz (by simp))
  | (apply e_lst; (walk_at "mpa"); exact le_sz (by simp))
  | (apply e_call; (walk_at "mpa"); (walk_at "mpc"))
  | (apply e_sl; (walk_at "mpe"); (walk_at "mpp"); (walk_at "mpp"); (walk_at "mpo"))
  | (apply e_not; (walk_at "mpe"))
  | (apply e_neg; (walk_at "mpe")))
local macro_rules | `(tactic| walk_at "mpt") => `(tactic| first
  | exact t_yes
  | (apply t_of; (walk_at "mpe"); exact rfl)
  | (apply t_nt; (walk_at "mpt"))
  | (apply t_and2; (walk_at "mpt"); (intro _; (walk_at "mpt")))
  | (apply t_or2; (walk_at "mpt"); (intro _; (walk_at "mpt"))))
local macro_rules | `(tactic| walk_at "mps") => `(tactic| first
  | (apply r_asg; (walk_at "mpe"); (try dsimp only [List.set]))
  | (apply r_par; (walk_at "mpe"); (walk_at "mpe"); (try dsimp only [List.set]))
  | (apply Eq.trans; (apply r_ret; (walk_at "mpe")))
  | (apply r_sub; (walk_at "mpe"); (walk_at "mpe"); (walk_at "mpe"); apply o_putl; (walk_at "mpl"); exact rfl; (try dsimp only [List.set]))
  | (apply r_ex; (walk_at "mpe"))
  | (apply r_if (hx := rfl) (hy := rfl); (walk_at "mpt"); dsimp only [isApp])
  | exact r_nil)
local macro_rules | `(tactic| walk_at "mpc") => `(tactic| assumption)
local macro_rules | `(tactic| walk_at "mpo") => `(tactic| first
  | (apply o_addl; (walk_at "mpl"); (walk_at "mpl"); exact le_sz (by simp)))
/-! ### the look at two fractions -/
def PairD (d : D) : Prop := ∃ a b : Int, d = fD a b ∧ 0 < b ∧ Int.gcd a b = 1 ∧ a.natAbs < 2 ^ 8000 ∧ b.natAbs < 2 ^ 8000
theorem PairD.ok {d : D} (h : PairD d) (S : Sto) : okD S d ∧ fracB d = true := by
  obtain ⟨a, b, rfl, h1, h2, h4, h3⟩ := h
  refine ⟨okD_pair rfl rfl (fun c e => by cases e; exact h4) (fun c e => by cases e; exact h3), ?_⟩
  · show (decide (0 < b) && decide (Int.gcd a b = 1)) = true
    rw [decide_eq_true h1, decide_eq_true h2]
    rfl
theorem dBools_map {ds : List D} (f : D → Bool) : dBools (ds.map fun d => D.bl (f d)) = some (ds.map f) := by
  induction ds with
  | nil => rfl
  | cons d ds ih => show (dBools _).map _ = _; rw [ih]; rfl
theorem all_true {ds : List D} {f : D → Bool} (h : ∀ d ∈ ds, f d = true) : (ds.map f).all id = true := by
  rw [List.all_eq_true]
  intro b hb
  obtain ⟨d, hd, rfl⟩ := List.mem_map.mp hb
  exact h d hd
theorem fin_run (G : Gt) (hn : FracOk (G.fn "_law_is_number")) (hb : ∀ S p q p' q', Fr p q → Fr p' q' → G.fn "beside" [fD p q, fD p' q'] S = .ok (.int (besF p q p' q')) S) (S : Sto) (p q p' q' : Int) (h : Fr p q) (k : Fr p' q') (nf nd : Nat) (items : List D)
    (hf : S[nf]? = some (.lst items)) (heq : eqF (.loc nf) (.loc nd) S = .ok true S) (hl : items.length ≤ 100) (hi : ∀ d ∈ items, PairD d) :
    ∃ S', evS G 0 (.cons (.ifs (.orV (.cons (.cmp .ne (.var 6) (.var 7)) .nil) (.notV (.cons (.bi .all (.cons (.comp [("number", 8)] (.itv (.var 6)) [8] .yes (.call "_law_is_number" (.cons (.var 8) .nil))) .nil)) .nil)))
  (.cons (.ret (.con (.bl false)))
  .nil)
  .nil)
  (.cons (.asg 9 (.call "beside" (.cons (.var 0) (.cons (.var 1) .nil))))
  (.cons (.asg 10 (.bin .sub (.bin .mul (.var 2) (.var 5)) (.bin .mul (.var 4) (.var 3))))
  (.cons (.ifs (.orV (.notV (.cons (.isi .int (.var 9)) .nil)) (.cons (.isi .bool (.var 9)) .nil))
  (.cons (.ret (.con (.bl false)))
  .nil)
  .nil)
  (.cons (.ret (.cmp .eq (.var 9) (.bin .sub (.bi .int (.cons (.cmp .gt (.var 10) (.con (.int 0))) .nil)) (.bi .int (.cons (.cmp .lt (.var 10) (.con (.int 0))) .nil)))))
  .nil))))) [some (fD p q), some (fD p' q'), some (.int p), some (.int q), some (.int p'), some (.int q'), some (.loc nf), some (.loc nd), none, none, none] S = .ok (.rt (.bl true)) S' ∧ ∀ (m : Nat) o, S[m]? = some o → S'[m]? = some o := by
  have hlt : nf < S.length := (List.getElem?_eq_some_iff.mp hf).1
  obtain ⟨S2, hS2⟩ : ∃ S2, S2 = (S ++ [Ob.lst []]).set S.length (Ob.lst (items.map fun d => D.bl (fracB d))) := ⟨_, rfl⟩
  have n2 : S2[S.length]? = some (.lst (items.map fun d => D.bl (fracB d))) := by rw [hS2]; exact set_at push_at
  have old : ∀ (m : Nat) o, S[m]? = some o → S2[m]? = some o := fun m o e => by
    have : m < S.length := (List.getElem?_eq_some_iff.mp e).1
    rw [hS2, set_ne (by omega)]
    exact push_old e
  have e9 := hb S2 p q p' q' h k
  obtain ⟨h1, h2, h3⟩ := h
  obtain ⟨k1, k2, k3⟩ := k
  have m1 := Fr.mul h2 k3
  have m2 := Fr.mul k2 h3
  clear h2 h3 k2 k3
  refine ⟨S2, ?_, old⟩
  apply r_iff
  · apply t_orf
    · apply t_of
      · apply e_cmp
        · exact e_var rfl
        · exact e_var rfl
        · exact o_ne heq
      · rfl
    · apply t_nt (x := true)
      apply t_of
      · apply e_bi
        · apply a_cn
          · apply e_comp
            · apply i_v
              · exact e_var rfl
              · show iterF (.loc nf) S = .ok (items, [(nf, .lst items)]) S
                simp only [iterF, hf]
                rfl
            · refine (lcL_map (fun d => D.bl (fracB d)) items [] (S ++ [Ob.lst []]) push_at ?_ (fun o => ?_) (fun d hd => ?_)).trans ?_
              · exact Nat.lt_of_le_of_lt (show [].length + items.length ≤ 100 by simpa using hl) (show 100 < PySem.sizeLine by decide)
              · exact okC_one (by rw [set_ne (by omega)]; exact push_old hf)
              · refine ⟨_, rfl, fun o => quiet_ok (by rw [evT]; rfl), fun o => quiet_ok ?_⟩
                have e := hn ((S ++ [Ob.lst []]).set S.length o) d ((hi d hd).ok _).1
                apply e_call
                · exact a_cn (e_var rfl) a_nl
                · exact e
              · rw [List.nil_append, ← hS2]
          · exact a_nl
        · show biF .all [.loc S.length] S2 = .ok (.bl true) S2
          have : biF .all [.loc S.length] S2 = .ok (.bl ((items.map fracB).all id)) S2 := by
            simp only [biF, n2, Option.map_some, rdOb, dBools_map]
          rw [this, all_true fun d hd => ((hi d hd).ok S).2]
      · rfl
  · dsimp only [isApp]
    walk_at "mps"
    walk_at "mps"
    apply r_iff
    · apply t_orf
      · apply t_nt (S1 := S2) (x := true)
        apply t_of
        · apply e_isi
          · exact e_var rfl
          · exact rfl
        · rfl
      · apply t_of
        · apply e_isi
          · exact e_var rfl
          · exact rfl
        · rfl
    · dsimp only [isApp]
      apply r_ret
      apply e_cmp
      · exact e_var rfl
      · walk_at "mpe"
      · rw [o_eq_int]
        unfold besF
        rw [decide_eq_true rfl]
    · rfl
  · rfl
end Lk2
set_option exponentiation.threshold 10000
namespace Lk2
open PySem Mp Lib
local macro_rules | `(tactic| walk_at "mpl") => `(tactic| first
  | assumption | exact set_at (by (walk_at "mpl")) | (refine (set_ne (by assumption)).trans ?_; (walk_at "mpl")) | exact push_at | (refine push_old ?_; (walk_at "mpl")))
local macro_rules | `(tactic| walk_at "mpo") => `(tactic| first
  | exact o_eq_int | exact o_ne_int | exact o_pow18
  | (apply o_ixl; (walk_at "mpl"); exact rfl) | exact o_ixt rfl | exact o_ixw rfl
  | exact o_len_t | exact o_len_w | (apply o_len_l; (walk_at "mpl"))
  | exact o_mod (by omega) | exact o_fdv64 (by omega) (by omega) | exact o_mul64 (by omega) (by omega) | exact o_mul (by assumption)
  | exact rfl)
local macro_rules | `(tactic| walk_at "mpa") => `(tactic| first
  | exact a_nl
  | (apply a_cn; (walk_at "mpe"); (walk_at "mpa")))
local macro_rules | `(tactic| walk_at "mpp") => `(tactic| first
  | exact o_nl
  | (apply o_cn; (walk_at "mpe")))
local macro_rules | `(tactic| walk_at "mpe") => `(tactic| first
  | exact e_con | exact e_var rfl | exact e_glob rfl
  | (apply e_ix; (walk_at "mpe"); (walk_at "mpe"); (walk_at "mpo"))
  | (apply e_bin; (walk_at "mpe"); (walk_at "mpe"); (walk_at "mpo"))
  | (apply e_cmp; (walk_at "mpe"); (walk_at "mpe"); (walk_at "mpo"))
  | (apply e_bi; (walk_at "mpa"); (walk_at "mpo"))
  | (apply e_isi; (walk_at "mpe"); (walk_at "mpo"))
  | (apply e_tup; (walk_at "mpa"); exact le_sz (by simp))
  | (apply e_lst; (walk_at "mpa"); exact le_sz (by simp))
  | (apply e_call; (walk_at "mpa"); (walk_at "mpc"))
  | (apply e_sl; (walk_at "mpe"); (walk_at "mpp"); (walk_at "mpp"); (walk_at "mpo"))
  | (apply e_not; (walk_at "mpe"))
  | (apply e_neg; (walk_at "mpe")))
local macro_rules | `(tactic| walk_at "mpt") => `(tactic| first
  | exact t_yes
  | (apply t_of; (walk_at "mpe"); exact rfl)
  | (apply t_nt; (walk_at "mpt"))
  | (apply t_and2; (walk_at "mpt"); (intro _; (walk_at "mpt")))
  | (apply t_or2; (walk_at "mpt"); (intro _; (walk_at "mpt"))))
local macro_rules | `(tactic| walk_at "mps") => `(tactic| first
  | (apply r_asg; (walk_at "mpe"); (try dsimp only [List.set]))
  | (apply r_par; (walk_at "mpe"); (walk_at "mpe"); (try dsimp only [List.set]))
  | (apply Eq.trans; (apply r_ret; (walk_at "mpe")))
  | (apply r_sub; (walk_at "mpe"); (walk_at "mpe"); (walk_at "mpe"); apply o_putl; (walk_at "mpl"); exact rfl; (try dsimp only [List.set]))
  | (apply r_ex; (walk_at "mpe"))
  | (apply r_if (hx := rfl) (hy := rfl); (walk_at "mpt"); dsimp only [isApp])
  | exact r_nil)
local macro_rules | `(tactic| walk_at "mpc") => `(tactic| assumption)
theorem e_app {G : Gt} {δ : Mp.Env} {S S1 S2 : Sto} {a b : Ie} {n : Nat} {l ds : List D} {y : D} (h1 : evE G a δ S = .ok (.loc n) S1) (h2 : S1[n]? = some (.lst l)) (h3 : evE G b δ S1 = .ok y S2) (h4 : S2[n]? = some (.lst ds)) (h5 : ds.length < sz) :
    evE G (.app a b) δ S = .ok .non (S2.set n (.lst (ds ++ [y]))) := by
  rw [evE]
  show (evE G a δ S).bind _ = _
  rw [h1]
  show (isLst (.loc n) S1).bind _ = _
  have : isLst (.loc n) S1 = .ok () S1 := by simp only [isLst, h2]
  rw [this]
  show (evE G b δ S1).bind _ = _
  rw [h3]
  show (match S2[n]? with
    | some (.lst ds) => if ds.length < sz then .ok .non (S2.set n (.lst (ds ++ [y]))) else .bad
    | _ => .bad : Ret D) = _
  rw [h4]
  dsimp only
  rw [if_pos h5]
theorem eq3 {S : Sto} {nf nd : Nat} {a b c d e f : Int} (h1 : S[nf]? = some (.lst [fD a b, fD c d, fD e f])) (h2 : S[nd]? = some (.lst [fD a b, fD c d, fD e f])) : eqF (.loc nf) (.loc nd) S = .ok true S := by
  have py : ∀ n, S[n]? = some (.lst [fD a b, fD c d, fD e f]) → D.py S 12 (.loc n) = some (.list [.tuple [.int a, .int b], .tuple [.int c, .int d], .tuple [.int e, .int f]]) := fun n h => by simp [D.py, h, rdOb]
  have sh : SeqAt.shaped (.list [.tuple [.int a, .int b], .tuple [.int c, .int d], .tuple [.int e, .int f]]) = true := by simp [SeqAt.shaped, PyData.canLay0, PyData.canLayAll0, PyData.depth, PyData.depthAll]
  rw [eqF_of (py nf h1) (py nd h2) sh sh]
  congr 1
  simp [PyData.eqv, PyData.eqvAll]
theorem eq4 {S : Sto} {nf nd : Nat} {a b c d e f g i : Int} (h1 : S[nf]? = some (.lst [fD a b, fD c d, fD e f, fD g i])) (h2 : S[nd]? = some (.lst [fD a b, fD c d, fD e f, fD g i])) : eqF (.loc nf) (.loc nd) S = .ok true S := by
  have py : ∀ n, S[n]? = some (.lst [fD a b, fD c d, fD e f, fD g i]) → D.py S 12 (.loc n) = some (.list [.tuple [.int a, .int b], .tuple [.int c, .int d], .tuple [.int e, .int f], .tuple [.int g, .int i]]) := fun n h => by simp [D.py, h, rdOb]
  have sh : SeqAt.shaped (.list [.tuple [.int a, .int b], .tuple [.int c, .int d], .tuple [.int e, .int f], .tuple [.int g, .int i]]) = true := by simp [SeqAt.shaped, PyData.canLay0, PyData.canLayAll0, PyData.depth, PyData.depthAll]
  rw [eqF_of (py nf h1) (py nd h2) sh sh]
  congr 1
  simp [PyData.eqv, PyData.eqvAll]
theorem pair_low {a b : Int} (h : b ≠ 0) (ha : a.natAbs < 2 ^ 302) (hb : b.natAbs < 2 ^ 302) : PairD (fD (lowF a b).1 (lowF a b).2) :=
  ⟨_, _, rfl, (lowF_ok h).1, (lowF_ok h).2, big (lowF_b ha hb).1, big (lowF_b ha hb).2⟩
theorem add302 {a b : Int} (ha : a.natAbs < 2 ^ 300) (hb : b.natAbs < 2 ^ 300) : (a + b).natAbs < 2 ^ 302 ∧ (a - b).natAbs < 2 ^ 302 := by
  have e : 2 ^ 300 + 2 ^ 300 ≤ 2 ^ 302 := by decide
  omega
structure Tools (G : Gt) : Prop where
  ad : BinOk (G.fn "added") (fun p q p' q' => p * q' + p' * q) (fun _ q _ q' => q * q')
  le : BinOk (G.fn "less") (fun p q p' q' => p * q' - p' * q) (fun _ q _ q' => q * q')
  mu : BinOk (G.fn "multiplied") (fun p q p' q' => p * p') (fun _ q _ q' => q * q')
  dv : ∀ (S : Sto) (p q p' q' : Int), Fr p q → Fr p' q' → p' ≠ 0 → G.fn "divided" [fD p q, fD p' q'] S = .ok (encI (lowF (p * q') (q * p'))) S
  rf : ∀ (S : Sto) (p q q' : Int), G.fn "_law_refused" [fD p q, fD 0 q'] S = .ok (.bl true) S
  lo : LowOk (G.fn "_law_low")
  nu : FracOk (G.fn "_law_is_number")
  be : ∀ S p q p' q', Fr p q → Fr p' q' → G.fn "beside" [fD p q, fD p' q'] S = .ok (.int (besF p q p' q')) S
def RightOk (f : List D → M D) : Prop := ∀ (S : Sto) (p q p' q' : Int), Fr p q → Fr p' q' → ∃ S', f [fD p q, fD p' q'] S = .ok (.bl true) S' ∧ ∀ (m : Nat) o, S[m]? = some o → S'[m]? = some o
theorem right_run (G : Gt) (T : Tools G) : RightOk (specOf G 11 ir_law_right) := by
  intro S p q p' q' h k
  obtain ⟨h1, h2, h3⟩ := id h
  obtain ⟨k1, k2, k3⟩ := id k
  have m1 := Fr.mul h2 k3
  have m2 := Fr.mul k2 h3
  have m3 := Fr.mul h3 k3
  have m4 := Fr.mul h2 k2
  have m5 := Fr.mul h3 k2
  have n0 := mul_ne h1 k1
  have b3 := mul300 h3 k3
  have b1 := add302 (mul300 h2 k3) (mul300 k2 h3)
  have w : ∀ {x : Nat}, x < 2 ^ 300 → x < 2 ^ 302 := fun h => Nat.lt_of_lt_of_le h (by decide)
  obtain ⟨a1, hA1⟩ : ∃ a, a = (lowF (p * q' + p' * q) (q * q')).1 := ⟨_, rfl⟩
  obtain ⟨a2, hA2⟩ : ∃ a, a = (lowF (p * q' + p' * q) (q * q')).2 := ⟨_, rfl⟩
  obtain ⟨l1, hL1⟩ : ∃ a, a = (lowF (p * q' - p' * q) (q * q')).1 := ⟨_, rfl⟩
  obtain ⟨l2, hL2⟩ : ∃ a, a = (lowF (p * q' - p' * q) (q * q')).2 := ⟨_, rfl⟩
  obtain ⟨u1, hU1⟩ : ∃ a, a = (lowF (p * p') (q * q')).1 := ⟨_, rfl⟩
  obtain ⟨u2, hU2⟩ : ∃ a, a = (lowF (p * p') (q * q')).2 := ⟨_, rfl⟩
  have pA : PairD (fD a1 a2) := by rw [hA1, hA2]; exact pair_low n0 b1.1 (w b3)
  have pL : PairD (fD l1 l2) := by rw [hL1, hL2]; exact pair_low n0 b1.2 (w b3)
  have pU : PairD (fD u1 u2) := by rw [hU1, hU2]; exact pair_low n0 (w (mul300 h2 k2)) (w b3)
  have eA : ∀ S, G.fn "added" [fD p q, fD p' q'] S = .ok (fD a1 a2) S := fun S => by rw [hA1, hA2]; exact T.ad S p q p' q' h k
  have eL : ∀ S, G.fn "less" [fD p q, fD p' q'] S = .ok (fD l1 l2) S := fun S => by rw [hL1, hL2]; exact T.le S p q p' q' h k
  have eU : ∀ S, G.fn "multiplied" [fD p q, fD p' q'] S = .ok (fD u1 u2) S := fun S => by rw [hU1, hU2]; exact T.mu S p q p' q' h k
  have dA : ∀ S, G.fn "_law_low" [.int (p * q' + p' * q), .int (q * q')] S = .ok (fD a1 a2) S := fun S => by rw [hA1, hA2]; exact T.lo S _ _ n0 (big b3)
  have dL : ∀ S, G.fn "_law_low" [.int (p * q' - p' * q), .int (q * q')] S = .ok (fD l1 l2) S := fun S => by rw [hL1, hL2]; exact T.lo S _ _ n0 (big b3)
  have dU : ∀ S, G.fn "_law_low" [.int (p * p'), .int (q * q')] S = .ok (fD u1 u2) S := fun S => by rw [hU1, hU2]; exact T.lo S _ _ n0 (big b3)
  clear hA1 hA2 hL1 hL2 hU1 hU2
  obtain ⟨n6, S1, n6e, S1e, g1, k1', t1⟩ := new_l S [fD a1 a2, fD l1 l2, fD u1 u2]
  obtain ⟨n7, S2, n7e, S2e, g2, k2', t2⟩ := new_l S1 [fD a1 a2]
  obtain ⟨n8, S3, n8e, S3e, g3, k3', t3⟩ := new_l S2 [fD l1 l2, fD u1 u2]
  obtain ⟨n9, S4, n9e, S4e, g4, k4', t4⟩ := new_l S3 ([fD a1 a2] ++ [fD l1 l2, fD u1 u2])
  have g6 : S4[n6]? = _ := k4' _ _ (k3' _ _ (k2' _ _ g1))
  have old4 : ∀ (m : Nat) o, S[m]? = some o → S4[m]? = some o := fun m o e => k4' _ _ (k3' _ _ (k2' _ _ (k1' _ _ e)))
  have ne69 : n6 ≠ n9 := by
    have e1 := congrArg List.length S1e
    have e2 := congrArg List.length S2e
    have e3 := congrArg List.length S3e
    rw [List.length_append] at e1 e2 e3
    simp at e1 e2 e3
    omega
  have lt6 : ∀ (m : Nat) o, S[m]? = some o → m ≠ n6 ∧ m ≠ n9 := fun m o e => by
    have hm := (List.getElem?_eq_some_iff.mp e).1
    have e1 := congrArg List.length S1e
    have e2 := congrArg List.length S2e
    have e3 := congrArg List.length S3e
    rw [List.length_append] at e1 e2 e3
    simp at e1 e2 e3
    omega
  have run : ∀ {S' : Sto}, evS G 0 ir_law_right [some (fD p q), some (fD p' q'), none, none, none, none, none, none, none, none, none] S = .ok (.rt (.bl true)) S' → specOf G 11 ir_law_right [fD p q, fD p' q'] S = .ok (.bl true) S' := fun e => specOf_ok (n := 0) (r_fun e)
  have upto : ∀ {r : Ret Fl}, evS G 0 (.cons (.ifs (.andV (.cons (.cmp .eq (.var 4) (.con (.int 0))) .nil) (.notV (.cons (.call "_law_refused" (.cons (.var 0) (.cons (.var 1) .nil))) .nil)))
  (.cons (.ret (.con (.bl false)))
  .nil)
  .nil)
  (.cons (.ifs (.cons (.cmp .ne (.var 4) (.con (.int 0))) .nil)
  (.cons (.ex (.app (.var 6) (.call "divided" (.cons (.var 0) (.cons (.var 1) .nil)))))
  (.cons (.ex (.app (.var 7) (.call "_law_low" (.cons (.bin .mul (.var 2) (.var 5)) (.cons (.bin .mul (.var 3) (.var 4)) .nil)))))
  .nil))
  .nil)
  (.cons (.ifs (.orV (.cons (.cmp .ne (.var 6) (.var 7)) .nil) (.notV (.cons (.bi .all (.cons (.comp [("number", 8)] (.itv (.var 6)) [8] .yes (.call "_law_is_number" (.cons (.var 8) .nil))) .nil)) .nil)))
  (.cons (.ret (.con (.bl false)))
  .nil)
  .nil)
  (.cons (.asg 9 (.call "beside" (.cons (.var 0) (.cons (.var 1) .nil))))
  (.cons (.asg 10 (.bin .sub (.bin .mul (.var 2) (.var 5)) (.bin .mul (.var 4) (.var 3))))
  (.cons (.ifs (.orV (.notV (.cons (.isi .int (.var 9)) .nil)) (.cons (.isi .bool (.var 9)) .nil))
  (.cons (.ret (.con (.bl false)))
  .nil)
  .nil)
  (.cons (.ret (.cmp .eq (.var 9) (.bin .sub (.bi .int (.cons (.cmp .gt (.var 10) (.con (.int 0))) .nil)) (.bi .int (.cons (.cmp .lt (.var 10) (.con (.int 0))) .nil)))))
  .nil))))))) [some (fD p q), some (fD p' q'), some (.int p), some (.int q), some (.int p'), some (.int q'), some (.loc n6), some (.loc n9), none, none, none] S4 = r →
      evS G 0 ir_law_right [some (fD p q), some (fD p' q'), none, none, none, none, none, none, none, none, none] S = r := by
    intro r hr
    have x1 := eA S
    have x2 := eL S
    have x3 := eU S
    have x4 := dA S1
    have x5 := dL S2
    have x6 := dU S2
    dsimp only [ir_law_right]
    apply r_unp (e_var rfl) rfl
    apply r_unp (e_var rfl) rfl
    dsimp only [List.set]
    apply r_asg
    · refine e_lstE (S1 := S) ?_ (le_sz (by simp)) n6e S1e
      walk_at "mpa"
    dsimp only [List.set]
    apply r_asg
    · refine e_lstE (S1 := S1) ?_ (le_sz (by simp)) n7e S2e
      walk_at "mpa"
    dsimp only [List.set]
    apply r_asg
    · apply e_bin
      · exact e_var rfl
      · refine e_lstE (S1 := S2) ?_ (le_sz (by simp)) n8e S3e
        walk_at "mpa"
      · exact o_addE (k3' _ _ g2) g3 (le_sz (by simp)) n9e S4e
    exact hr
  by_cases c : p' = 0
  · subst c
    obtain ⟨S', ef, hk⟩ := fin_run G T.nu T.be S4 p q 0 q' h k n6 n9 _ g6 (eq3 g6 g4) (by simp) (by
      intro d hd
      rcases List.mem_cons.mp hd with rfl | hd
      · exact pA
      rcases List.mem_cons.mp hd with rfl | hd
      · exact pL
      rcases List.mem_cons.mp hd with rfl | hd
      · exact pU
      · cases hd)
    refine ⟨S', run (upto ?_), fun m o e => hk m o (old4 m o e)⟩
    have xr := T.rf S4 p q q'
    apply r_iff
    · apply t_andt
      · apply t_of
        · walk_at "mpe"
        · rfl
      · apply t_nt (x := true)
        apply t_of
        · walk_at "mpe"
        · rfl
    · dsimp only [isApp]
      apply r_iff
      · apply t_of
        · walk_at "mpe"
        · rfl
      · dsimp only [isApp]
        exact ef
      · rfl
    · rfl
  · obtain ⟨d1, hd1⟩ : ∃ a, a = (lowF (p * q') (q * p')).1 := ⟨_, rfl⟩
    obtain ⟨d2, hd2⟩ : ∃ a, a = (lowF (p * q') (q * p')).2 := ⟨_, rfl⟩
    have nz : q * p' ≠ 0 := Int.mul_ne_zero (by omega) c
    have pD : PairD (fD d1 d2) := by rw [hd1, hd2]; exact pair_low nz (w (mul300 h2 k3)) (w (mul300 h3 k2))
    have eD : ∀ S, G.fn "divided" [fD p q, fD p' q'] S = .ok (fD d1 d2) S := fun S => by rw [hd1, hd2]; exact T.dv S p q p' q' h k c
    have dD : ∀ S, G.fn "_law_low" [.int (p * q'), .int (q * p')] S = .ok (fD d1 d2) S := fun S => by rw [hd1, hd2]; exact T.lo S _ _ nz (big (mul300 h3 k2))
    clear hd1 hd2
    obtain ⟨S5, hS5⟩ : ∃ S5, S5 = S4.set n6 (Ob.lst ([fD a1 a2, fD l1 l2, fD u1 u2] ++ [fD d1 d2])) := ⟨_, rfl⟩
    obtain ⟨S6, hS6⟩ : ∃ S6, S6 = S5.set n9 (Ob.lst (([fD a1 a2] ++ [fD l1 l2, fD u1 u2]) ++ [fD d1 d2])) := ⟨_, rfl⟩
    have q6 : S5[n6]? = some (.lst ([fD a1 a2, fD l1 l2, fD u1 u2] ++ [fD d1 d2])) := by rw [hS5]; exact set_at g6
    have q9 : S5[n9]? = some (.lst ([fD a1 a2] ++ [fD l1 l2, fD u1 u2])) := by rw [hS5, set_ne ne69.symm]; exact g4
    have r9 : S6[n9]? = some (.lst (([fD a1 a2] ++ [fD l1 l2, fD u1 u2]) ++ [fD d1 d2])) := by rw [hS6]; exact set_at q9
    have r6 : S6[n6]? = some (.lst ([fD a1 a2, fD l1 l2, fD u1 u2] ++ [fD d1 d2])) := by rw [hS6, set_ne ne69]; exact q6
    obtain ⟨S', ef, hk⟩ := fin_run G T.nu T.be S6 p q p' q' h k n6 n9 _ r6 (eq4 r6 r9) (by simp) (by
      intro d hd
      rcases List.mem_cons.mp hd with rfl | hd
      · exact pA
      rcases List.mem_cons.mp hd with rfl | hd
      · exact pL
      rcases List.mem_cons.mp hd with rfl | hd
      · exact pU
      rcases List.mem_cons.mp hd with rfl | hd
      · exact pD
      · cases hd)
    refine ⟨S', run (upto ?_), fun m o e => hk m o ?_⟩
    · apply r_iff
      · apply t_andf
        apply t_of
        · walk_at "mpe"
        · rw [decide_eq_false c]
          rfl
      · dsimp only [isApp]
        apply r_ift
        · apply t_of
          · walk_at "mpe"
          · rw [decide_eq_false c]
            rfl
        · dsimp only [isApp]
          have x1 := eD S4
          have x2 := dD S5
          apply r_ex
          · refine (e_app (e_var rfl) g6 (y := fD d1 d2) (S2 := S4) ?_ g6 (Nat.lt_of_lt_of_le (by simp) (show 4 ≤ PySem.sizeLine by decide))).trans ?_
            · walk_at "mpe"
            · rw [← hS5]
          apply r_ex
          · refine (e_app (e_var rfl) q9 (y := fD d1 d2) (S2 := S5) ?_ q9 (Nat.lt_of_lt_of_le (by simp) (show 4 ≤ PySem.sizeLine by decide))).trans ?_
            · walk_at "mpe"
            · rw [← hS6]
          exact ef
        · rfl
      · rfl
    · rw [hS6, set_ne (lt6 m o e).2, hS5, set_ne (lt6 m o e).1]
      exact old4 m o e
end Lk2
namespace Lk2
open PySem Mp Lib
local macro_rules | `(tactic| walk_at "mpl") => `(tactic| first
  | assumption | exact set_at (by (walk_at "mpl")) | (refine (set_ne (by assumption)).trans ?_; (walk_at "mpl")) | exact push_at | (refine push_old ?_; (walk_at "mpl")))
local macro_rules | `(tactic| walk_at "mpo") => `(tactic| first
  | exact o_eq_int | exact o_ne_int | exact o_pow18
  | (apply o_ixl; (walk_at "mpl"); exact rfl) | exact o_ixt rfl | exact o_ixw rfl
  | exact o_len_t | exact o_len_w | (apply o_len_l; (walk_at "mpl"))
  | exact o_mod (by omega) | exact o_fdv64 (by omega) (by omega) | exact o_mul64 (by omega) (by omega) | exact o_mul (by assumption)
  | exact rfl)
local macro_rules | `(tactic| walk_at "mpa") => `(tactic| first
  | exact a_nl
  | (apply a_cn; (walk_at "mpe"); (walk_at "mpa")))
local macro_rules | `(tactic| walk_at "mpp") => `(tactic| first
  | exact o_nl
  | (apply o_cn; (walk_at "mpe")))
local macro_rules | `(tactic| walk_at "mpe") => `(tactic| first
  | exact e_con | exact e_var rfl | exact e_glob rfl
  | (apply e_ix; (walk_at "mpe"); (walk_at "mpe"); (walk_at "mpo"))
  | (apply e_bin; (walk_at "mpe"); (walk_at "mpe"); (walk_at "mpo"))
  | (apply e_cmp; (walk_at "mpe"); (walk_at "mpe"); (walk_at "mpo"))
  | (apply e_bi; (walk_at "mpa"); (walk_at "mpo"))
  | (apply e_isi; (walk_at "mpe"); (walk_at "mpo"))
  | (apply e_tup; (walk_at "mpa"); exact le_sz (by simp))
  | (apply e_lst; (walk_at "mpa"); exact le_sz (by simp))
  | (apply e_call; (walk_at "mpa"); (walk_at "mpc"))
  | (apply e_sl; (walk_at "mpe"); (walk_at "mpp"); (walk_at "mpp"); (walk_at "mpo"))
  | (apply e_not; (walk_at "mpe"))
  | (apply e_neg; (walk_at "mpe")))
local macro_rules | `(tactic| walk_at "mpt") => `(tactic| first
  | exact t_yes
  | (apply t_of; (walk_at "mpe"); exact rfl)
  | (apply t_nt; (walk_at "mpt"))
  | (apply t_and2; (walk_at "mpt"); (intro _; (walk_at "mpt")))
  | (apply t_or2; (walk_at "mpt"); (intro _; (walk_at "mpt"))))
local macro_rules | `(tactic| walk_at "mps") => `(tactic| first
  | (apply r_asg; (walk_at "mpe"); (try dsimp only [List.set]))
  | (apply r_par; (walk_at "mpe"); (walk_at "mpe"); (try dsimp only [List.set]))
  | (apply Eq.trans; (apply r_ret; (walk_at "mpe")))
  | (apply r_sub; (walk_at "mpe"); (walk_at "mpe"); (walk_at "mpe"); apply o_putl; (walk_at "mpl"); exact rfl; (try dsimp only [List.set]))
  | (apply r_ex; (walk_at "mpe"))
  | (apply r_if (hx := rfl) (hy := rfl); (walk_at "mpt"); dsimp only [isApp])
  | exact r_nil)
local macro_rules | `(tactic| walk_at "mpc") => `(tactic| assumption)
theorem St.grow {S S' : Sto} {t : Nat} {k : Int} (h : St S t k) (g : ∀ (m : Nat) o, S[m]? = some o → S'[m]? = some o) : St S' t k := by
  obtain ⟨s, T, a, b, c⟩ := h
  exact ⟨s, T, ⟨g _ _ a.tp, g _ _ a.cs, a.ne⟩, b, c⟩
def PPD (d : D) : Prop := ∃ p q p' q', d = .tup [fD p q, fD p' q'] ∧ Fr p q ∧ Fr p' q'
theorem turn_run (G : Gt) (hd : DrawOk (G.fn "_law_draw")) (hf : FrOk (G.fn "_law_fraction") 6 800000000) (hr : RightOk (G.fn "_law_right")) (sc : D) (x2 x3 x4 x5 x6 : Option D) (S : Sto) (k : Int) (st : St S 2 k) (hk : k < 700000000) :
    ∃ y3 y4 y5 y6 S', evS G 0 (.cons (.asg 3 (.call "_law_fraction" (.cons (.var 1) .nil)))
  (.cons (.asg 4 (.call "_law_fraction" (.cons (.var 1) .nil)))
  (.cons (.ifs (.cons (.cmp .eq (.call "_law_draw" (.cons (.var 1) (.cons (.con (.int 6)) .nil))) (.con (.int 0))) .nil)
  (.cons (.asg 4 (.var 3))
  .nil)
  .nil)
  (.cons (.for_ (.tp [5, 6]) (.itv (.lst (.cons (.tup (.cons (.var 3) (.cons (.var 4) .nil))) (.cons (.tup (.cons (.var 4) (.cons (.var 3) .nil))) (.cons (.tup (.cons (.var 3) (.cons (.tup (.cons (.con (.int 0)) (.cons (.con (.int 1)) .nil))) .nil))) (.cons (.tup (.cons (.tup (.cons (.con (.int 0)) (.cons (.con (.int 1)) .nil))) (.cons (.var 4) .nil))) .nil))))))
  (.cons (.ifs (.notV (.cons (.call "_law_right" (.cons (.var 5) (.cons (.var 6) .nil))) .nil))
  (.cons (.ret (.con (.bl false)))
  .nil)
  .nil)
  .nil))
  .nil)))) [some sc, some (.loc 2), x2, x3, x4, x5, x6] S = .ok (.nx [some sc, some (.loc 2), x2, y3, y4, y5, y6]) S' ∧ St S' 2 (k + 13) := by
  obtain ⟨p, q, S1, e1, f1, s1, u1⟩ := hf S 2 k st (by omega)
  obtain ⟨p', q', S2, e2, f2, s2, u2⟩ := hf S1 2 (k + 6) s1 (by omega)
  obtain ⟨r, S3, e3, a3, b3, s3, u3⟩ := hd S2 2 (k + 6 + 6) 6 s2 (by omega) (by omega) (by omega)
  have z01 : Fr 0 1 := ⟨by decide, by decide, by decide⟩
  -- the rest, whatever the second is
  have rest : ∀ (a b : Int), Fr a b → ∃ y5 y6 S', evS G 0 (.cons (.for_ (.tp [5, 6]) (.itv (.lst (.cons (.tup (.cons (.var 3) (.cons (.var 4) .nil))) (.cons (.tup (.cons (.var 4) (.cons (.var 3) .nil))) (.cons (.tup (.cons (.var 3) (.cons (.tup (.cons (.con (.int 0)) (.cons (.con (.int 1)) .nil))) .nil))) (.cons (.tup (.cons (.tup (.cons (.con (.int 0)) (.cons (.con (.int 1)) .nil))) (.cons (.var 4) .nil))) .nil))))))
      (.cons (.ifs (.notV (.cons (.call "_law_right" (.cons (.var 5) (.cons (.var 6) .nil))) .nil))
  (.cons (.ret (.con (.bl false)))
  .nil)
  .nil)
  .nil)) .nil) [some sc, some (.loc 2), x2, some (fD p q), some (fD a b), x5, x6] S3 = .ok (.nx [some sc, some (.loc 2), x2, some (fD p q), some (fD a b), y5, y6]) S' ∧ St S' 2 (k + 13) := by
    intro a b fab
    obtain ⟨n, S4, ne, Se, g4, k4, t4⟩ := new_l S3 [.tup [fD p q, fD a b], .tup [fD a b, fD p q], .tup [fD p q, fD 0 1], .tup [fD 0 1, fD a b]]
    have s4 : St S4 2 (k + 13) := t4 _ _ (s3.le (by omega))
    have hall : ∀ d ∈ ([.tup [fD p q, fD a b], .tup [fD a b, fD p q], .tup [fD p q, fD 0 1], .tup [fD 0 1, fD a b]] : List D), PPD d :=
      all_cons ⟨_, _, _, _, rfl, f1, fab⟩ (all_cons ⟨_, _, _, _, rfl, fab, f1⟩ (all_cons ⟨_, _, _, _, rfl, f1, z01⟩ (all_cons ⟨_, _, _, _, rfl, z01, fab⟩ all_nil)))
    obtain ⟨items, hit⟩ : ∃ items : List D, items = [.tup [fD p q, fD a b], .tup [fD a b, fD p q], .tup [fD p q, fD 0 1], .tup [fD 0 1, fD a b]] := ⟨_, rfl⟩
    rw [← hit] at hall g4 Se
    obtain ⟨δ2, S5, e5, y5, y6, hδ, g5, s5⟩ := forL_inv (c := [(n, .lst items)]) (g := .tp [5, 6]) (body := evS G 0 (.cons (.ifs (.notV (.cons (.call "_law_right" (.cons (.var 5) (.cons (.var 6) .nil))) .nil))
  (.cons (.ret (.con (.bl false)))
  .nil)
  .nil)
  .nil))
      (fun _ δ S => ∃ y5 y6, δ = [some sc, some (.loc 2), x2, some (fD p q), some (fD a b), y5, y6] ∧ S[n]? = some (.lst items) ∧ St S 2 (k + 13)) items 0 [some sc, some (.loc 2), x2, some (fD p q), some (fD a b), x5, x6] S4
      (fun _ _ S ⟨_, _, _, e, _⟩ => okC_one e)
      (fun j d δ S hj hI => by
        obtain ⟨y5, y6, rfl, g, s⟩ := hI
        obtain ⟨c1, c2, c3, c4, rfl, fa, fb⟩ := hall d (List.mem_of_getElem? hj)
        obtain ⟨S', er, hg⟩ := hr S c1 c2 c3 c4 fa fb
        refine ⟨[some sc, some (.loc 2), x2, some (fD p q), some (fD a b), some (fD c1 c2), some (fD c3 c4)], [some sc, some (.loc 2), x2, some (fD p q), some (fD a b), some (fD c1 c2), some (fD c3 c4)], S', rfl, ?_, _, _, rfl, hg _ _ g, St.grow s hg⟩
        apply r_iff
        · apply t_nt (x := true)
          apply t_of
          · walk_at "mpe"
          · rfl
        · exact r_nil
        · rfl) ⟨_, _, rfl, g4, s4⟩
    subst hδ
    refine ⟨y5, y6, S5, ?_, s5⟩
    apply r_for
    · apply i_v
      · refine e_lstE (S1 := S3) (S2 := S4) (ds := [.tup [fD p q, fD a b], .tup [fD a b, fD p q], .tup [fD p q, fD 0 1], .tup [fD 0 1, fD a b]]) ?_ (le_sz (by simp)) ne (by rw [Se, hit])
        walk_at "mpa"
      · show iterF (.loc n) S4 = .ok (items, [(n, .lst items)]) S4
        simp only [iterF, g4]
        rfl
    · exact e5
    · exact r_nil
  by_cases c : r = 0
  · obtain ⟨y5, y6, S', er, hs⟩ := rest p q f1
    refine ⟨some (fD p q), some (fD p q), y5, y6, S', ?_, hs⟩
    walk_at "mps"
    walk_at "mps"
    walk_at "mps"
    · intro _
      walk_at "mps"
      exact er
    · intro z
      exact absurd c (of_decide_eq_false z)
  · obtain ⟨y5, y6, S', er, hs⟩ := rest p' q' f2
    refine ⟨some (fD p q), some (fD p' q'), y5, y6, S', ?_, hs⟩
    walk_at "mps"
    walk_at "mps"
    walk_at "mps"
    · intro z
      exact absurd (of_decide_eq_true z) c
    · intro _
      exact er
theorem law2_run (G : Gt) (hd : DrawOk (G.fn "_law_draw")) (hf : FrOk (G.fn "_law_fraction") 6 800000000) (hr : RightOk (G.fn "_law_right")) (ns : List Int) : ∃ S, specOf G 7 ir_law [.scr ns] [] = .ok (.bl true) S := by
  obtain ⟨S0, hS0, st0⟩ : ∃ S0 : Sto, S0 = [.lst ((Mp.cut ns none (some 63)).map D.int), .lst ((Mp.cut ns none (some 63)).map D.int), .lst [.loc 1, .int 0, .int 0, .int 0]] ∧ St S0 2 0 := ⟨_, rfl, tape_St ns⟩
  have et := tape_run G [some (.scr ns), none, none, none, none, none, none] 0 ns rfl
  rw [← hS0] at et
  obtain ⟨δ1, S1, e1, y2, y3, y4, y5, y6, hδ, st1⟩ := forL_inv (c := []) (g := .nm 2) (body := evS G 0 (.cons (.asg 3 (.call "_law_fraction" (.cons (.var 1) .nil)))
  (.cons (.asg 4 (.call "_law_fraction" (.cons (.var 1) .nil)))
  (.cons (.ifs (.cons (.cmp .eq (.call "_law_draw" (.cons (.var 1) (.cons (.con (.int 6)) .nil))) (.con (.int 0))) .nil)
  (.cons (.asg 4 (.var 3))
  .nil)
  .nil)
  (.cons (.for_ (.tp [5, 6]) (.itv (.lst (.cons (.tup (.cons (.var 3) (.cons (.var 4) .nil))) (.cons (.tup (.cons (.var 4) (.cons (.var 3) .nil))) (.cons (.tup (.cons (.var 3) (.cons (.tup (.cons (.con (.int 0)) (.cons (.con (.int 1)) .nil))) .nil))) (.cons (.tup (.cons (.tup (.cons (.con (.int 0)) (.cons (.con (.int 1)) .nil))) (.cons (.var 4) .nil))) .nil))))))
  (.cons (.ifs (.notV (.cons (.call "_law_right" (.cons (.var 5) (.cons (.var 6) .nil))) .nil))
  (.cons (.ret (.con (.bl false)))
  .nil)
  .nil)
  .nil))
  .nil)))))
    (fun j δ S => ∃ y2 y3 y4 y5 y6, δ = [some (.scr ns), some (.loc 2), y2, y3, y4, y5, y6] ∧ St S 2 (13 * j))
    ((List.range (6 : Int).toNat).map fun (k : Nat) => D.int (0 + (k : Int))) 0 [some (.scr ns), some (.loc 2), none, none, none, none, none] S0 (fun _ _ _ _ => okC_nil)
    (fun j d δ S hj hI => by
      have hj5 : j < 6 := by
        have := (List.getElem?_eq_some_iff.mp hj).1
        simpa using this
      obtain ⟨y2, y3, y4, y5, y6, rfl, st⟩ := hI
      obtain ⟨z3, z4, z5, z6, S', e, hs⟩ := turn_run G hd hf hr (.scr ns) (some d) y3 y4 y5 y6 S _ st (by omega)
      exact ⟨_, _, S', rfl, e, _, _, _, _, _, rfl, hs.le (by omega)⟩)
    ⟨_, _, _, _, _, rfl, st0⟩
  subst hδ
  refine ⟨S1, specOf_ok (n := 0) (r_fun (show evS G 0 ir_law [some (.scr ns), none, none, none, none, none, none] [] = _ from ?_))⟩
  dsimp only [ir_law]
  apply r_asg
  · exact et
  dsimp only [List.set]
  apply r_for
  · apply i_r
    · exact a_cn e_con a_nl
    · exact rfl
  · exact e1
  · exact r_ret e_con
end Lk2
namespace Wp
open PySem Mp
abbrev Env := Mp.Env
/-! ### a run that ends well -/
def Ok {α : Type} (x : Ret α) (Q : α → Sto → Prop) : Prop := ∃ a S, x = .ok a S ∧ Q a S
theorem ok_mk {α : Type} {a : α} {S : Sto} {Q : α → Sto → Prop} (h : Q a S) : Ok (.ok a S) Q := ⟨a, S, rfl, h⟩
theorem ok_of {α : Type} {x : Ret α} {a : α} {S : Sto} {Q : α → Sto → Prop} (e : x = .ok a S) (h : Q a S) : Ok x Q := ⟨a, S, e, h⟩
theorem ok_bind {α β : Type} {x : Ret α} {f : α → M β} {Q : β → Sto → Prop} (h : Ok x fun a S => Ok (f a S) Q) : Ok (x.bind f) Q := by
  obtain ⟨a, S, rfl, h⟩ := h
  exact h
theorem Ok.imp {α : Type} {x : Ret α} {Q Q' : α → Sto → Prop} (h : Ok x Q) (k : ∀ a S, Q a S → Q' a S) : Ok x Q' := by
  obtain ⟨a, S, e, h⟩ := h
  exact ⟨a, S, e, k _ _ h⟩
/-- what comes of a block -/
def FlOn (P : Env → Sto → Prop) (R : D → Sto → Prop) : Fl → Sto → Prop
  | .nx δ, S => P δ S
  | .rt d, S => R d S
theorem fn_ok {G : Gt} {slots : Nat} {is : Is} {ds : List D} {S : Sto} {Q : D → Sto → Prop} (n : Nat) (h : Ok (evS G n is (ds.map some ++ List.replicate (slots - ds.length) none) S) (FlOn (fun _ S' => Q .non S') Q)) : Ok (specOf G slots is ds S) Q := by
  obtain ⟨f, S', e, h⟩ := h
  cases f with
  | nx δ => exact ⟨.non, S', specOf_ok (n := n) (r_funN e), h⟩
  | rt d => exact ⟨d, S', specOf_ok (n := n) (r_fun e), h⟩
section
variable {G : Gt} {N : Nat} {δ : Env} {S : Sto} {Q : Fl → Sto → Prop} {b : Is}
theorem w_nil (h : Q (.nx δ) S) : Ok (evS G N .nil δ S) Q := ⟨_, _, r_nil, h⟩
theorem w_pass (h : Ok (evS G N b δ S) Q) : Ok (evS G N (.cons .pass b) δ S) Q := by rw [r_pass rfl]; exact h
theorem w_asg {i : Nat} {e : Ie} (h : Ok (evE G e δ S) fun d S1 => Ok (evS G N b (δ.set i (some d)) S1) Q) : Ok (evS G N (.cons (.asg i e) b) δ S) Q := by
  obtain ⟨d, S1, e, h⟩ := h
  rw [r_asg e rfl]
  exact h
theorem w_par {i j : Nat} {e e' : Ie} (h : Ok (evE G e δ S) fun d S1 => Ok (evE G e' δ S1) fun d' S2 => Ok (evS G N b ((δ.set i (some d)).set j (some d')) S2) Q) : Ok (evS G N (.cons (.par i j e e') b) δ S) Q := by
  obtain ⟨d, S1, e, d', S2, e2, h⟩ := h
  rw [r_par e e2 rfl]
  exact h
theorem w_unp {l : List Nat} {e : Ie} (h : Ok (evE G e δ S) fun d S1 => ∃ δ1, (Tg.tp l).put d δ = some δ1 ∧ Ok (evS G N b δ1 S1) Q) : Ok (evS G N (.cons (.unp l e) b) δ S) Q := by
  obtain ⟨d, S1, e, δ1, p, h⟩ := h
  rw [r_unp e p rfl]
  exact h
theorem w_sub {o i e : Ie} (h : Ok (evE G e δ S) fun v S1 => Ok (evE G o δ S1) fun w S2 => Ok (evE G i δ S2) fun x S3 => Ok (putF w x v S3) fun _ S4 => Ok (evS G N b δ S4) Q) : Ok (evS G N (.cons (.sub o i e) b) δ S) Q := by
  obtain ⟨v, S1, e1, w, S2, e2, x, S3, e3, _, S4, e4, h⟩ := h
  rw [r_sub e1 e2 e3 e4 rfl]
  exact h
theorem w_ex {e : Ie} (h : Ok (evE G e δ S) fun _ S1 => Ok (evS G N b δ S1) Q) : Ok (evS G N (.cons (.ex e) b) δ S) Q := by
  obtain ⟨d, S1, e, h⟩ := h
  rw [r_ex e rfl]
  exact h
theorem w_ret {e : Ie} (h : Ok (evE G e δ S) fun d S1 => Q (.rt d) S1) : Ok (evS G N (.cons (.ret e) b) δ S) Q := by
  obtain ⟨d, S1, e, h⟩ := h
  exact ⟨_, _, r_ret e, h⟩
theorem w_retN (h : Q (.rt .non) S) : Ok (evS G N (.cons .retN b) δ S) Q := ⟨_, _, r_retN, h⟩
theorem w_if {t : Ie} {x y : Is} (h : Ok (evT G t δ S) fun c S1 => (c = true → Ok (evS G N (isApp x b) δ S1) Q) ∧ (c = false → Ok (evS G N (isApp y b) δ S1) Q)) (hx : isBlk x = true := by rfl) (hy : isBlk y = true := by rfl) : Ok (evS G N (.cons (.ifs t x y) b) δ S) Q := by
  obtain ⟨c, S1, e, h1, h2⟩ := h
  cases c with
  | true => rw [r_ift e rfl hx]; exact h1 rfl
  | false => rw [r_iff e rfl hy]; exact h2 rfl
theorem w_if' {t : Ie} {x y : Is} (hx : isBlk x = true) (hy : isBlk y = true) (h : Ok (evT G t δ S) fun c S1 => (c = true → Ok (evS G N (isApp x b) δ S1) Q) ∧ (c = false → Ok (evS G N (isApp y b) δ S1) Q)) : Ok (evS G N (.cons (.ifs t x y) b) δ S) Q := w_if h hx hy
theorem w_for {g : Tg} {it : Ie} {x : Is} (h : Ok (evI G it δ S) fun p S1 => Ok (forL p.2 g (evS G N x) p.1 δ S1) (FlOn (fun δ1 S2 => Ok (evS G N b δ1 S2) Q) fun v S2 => Q (.rt v) S2)) : Ok (evS G N (.cons (.for_ g it x) b) δ S) Q := by
  obtain ⟨p, S1, e1, f, S2, e2, h⟩ := h
  cases f with
  | nx δ1 => rw [r_for e1 e2 rfl]; exact h
  | rt v => exact ⟨_, _, r_forr e1 e2, h⟩
theorem w_forI {c : Chk} {g : Tg} {body : Env → M Fl} (I : Nat → Env → Sto → Prop) : ∀ (ds : List D) (i : Nat) (δ : Env) (S : Sto), (∀ j δ S, I j δ S → okC c S = true) →
    (∀ j d δ S, ds[j]? = some d → I (i + j) δ S → ∃ δ1, g.put d δ = some δ1 ∧ Ok (body δ1 S) (FlOn (I (i + j + 1)) fun v S' => Q (.rt v) S')) → I i δ S → (∀ δ S, I (i + ds.length) δ S → Q (.nx δ) S) → Ok (forL c g body ds δ S) Q
  | [], i, δ, S, hc, _, h, hq => ⟨_, _, f_nil (hc _ _ _ h), hq _ _ h⟩
  | d :: ds, i, δ, S, hc, hb, h, hq => by
    obtain ⟨δ1, e1, f, S', e2, h'⟩ := hb 0 d δ S rfl h
    cases f with
    | rt v => exact ⟨_, _, f_ret (hc _ _ _ h) e1 e2, h'⟩
    | nx δ2 =>
      obtain ⟨f3, S3, e3, h3⟩ := w_forI I ds (i + 1) δ2 S' hc (fun j d δ S e q => by
        have := hb (j + 1) d δ S e (by rw [show i + (j + 1) = i + 1 + j by omega]; exact q)
        rw [show i + (j + 1) + 1 = i + 1 + j + 1 by omega] at this
        exact this) h' (fun δ S q => hq δ S (by rw [show i + (d :: ds).length = i + 1 + ds.length by rw [List.length_cons]; omega]; exact q))
      exact ⟨f3, S3, f_cons (hc _ _ _ h) e1 e2 e3, h3⟩
/-- a for by an invariant of its places -/
theorem w_forN {c : Chk} {g : Tg} {body : Env → M Fl} {ds : List D} (I : Nat → Env → Sto → Prop) (h : I 0 δ S) (hc : ∀ j δ S, I j δ S → okC c S = true)
    (hb : ∀ j d δ S, ds[j]? = some d → I j δ S → ∃ δ1, g.put d δ = some δ1 ∧ Ok (body δ1 S) (FlOn (I (j + 1)) fun v S' => Q (.rt v) S')) (hq : ∀ δ S, I ds.length δ S → Q (.nx δ) S) : Ok (forL c g body ds δ S) Q :=
  w_forI I ds 0 δ S hc (fun j d δ S e q => by rw [Nat.zero_add] at q ⊢; exact hb j d δ S e q) h fun δ S q => hq δ S (by rw [Nat.zero_add] at q; exact q)
theorem w_fnil {c : Chk} {g : Tg} {body : Env → M Fl} (hc : okC c S = true) (h : Q (.nx δ) S) : Ok (forL c g body [] δ S) Q := ⟨_, _, f_nil hc, h⟩
theorem w_fcons {c : Chk} {g : Tg} {body : Env → M Fl} {d : D} {ds : List D} {δ1 : Env} (hc : okC c S = true) (p : g.put d δ = some δ1) (h : Ok (body δ1 S) (FlOn (fun δ2 S1 => Ok (forL c g body ds δ2 S1) Q) fun v S1 => Q (.rt v) S1)) : Ok (forL c g body (d :: ds) δ S) Q := by
  obtain ⟨f, S1, e, h⟩ := h
  cases f with
  | nx δ2 =>
    obtain ⟨f3, S3, e3, h3⟩ := h
    exact ⟨f3, S3, f_cons hc p e e3, h3⟩
  | rt v => exact ⟨_, _, f_ret hc p e, h⟩
end
section
variable {G : Gt} {N : Nat} {δ : Env} {S : Sto} {Q : D → Sto → Prop} {a b c : Ie}
theorem w_var {i : Nat} {d : D} (h : δ[i]? = some (some d)) (q : Q d S) : Ok (evE G (.var i) δ S) Q := ⟨_, _, e_var h, q⟩
theorem w_con {d : D} (q : Q d S) : Ok (evE G (.con d) δ S) Q := ⟨_, _, e_con, q⟩
theorem w_glob {x : Str} {d : D} (h : G.con x = some d) (q : Q d S) : Ok (evE G (.glob x) δ S) Q := ⟨_, _, e_glob h, q⟩
theorem w_bin {op : Bop} (h : Ok (evE G a δ S) fun x S1 => Ok (evE G b δ S1) fun y S2 => Ok (binF op x y S2) Q) : Ok (evE G (.bin op a b) δ S) Q := by
  obtain ⟨x, S1, e1, y, S2, e2, z, S3, e3, h⟩ := h
  exact ⟨z, S3, e_bin e1 e2 e3, h⟩
theorem w_cmp {op : Cop} (h : Ok (evE G a δ S) fun x S1 => Ok (evE G b δ S1) fun y S2 => Ok (cmpF op x y S2) Q) : Ok (evE G (.cmp op a b) δ S) Q := by
  obtain ⟨x, S1, e1, y, S2, e2, z, S3, e3, h⟩ := h
  exact ⟨z, S3, e_cmp e1 e2 e3, h⟩
theorem w_chn {op op' : Cop} (h : Ok (evE G a δ S) fun x S1 => Ok (evE G b δ S1) fun y S2 => Ok (cmpF op x y S2) fun r S3 => ∃ t, r = .bl t ∧ (t = true → Ok (evE G c δ S3) fun z S4 => Ok (cmpF op' y z S4) Q) ∧ (t = false → Q (.bl false) S3)) : Ok (evE G (.chn op op' a b c) δ S) Q := by
  obtain ⟨x, S1, e1, y, S2, e2, r, S3, e3, t, rfl, h1, h2⟩ := h
  rw [evE]
  show Ok ((evE G a δ S).bind _) Q
  rw [e1]
  show Ok ((evE G b δ S1).bind _) Q
  rw [e2]
  show Ok ((cmpF op x y S2).bind _) Q
  rw [e3]
  cases t with
  | true =>
    obtain ⟨z, S4, e4, r, S5, e5, h⟩ := h1 rfl
    show Ok ((evE G c δ S3).bind _) Q
    rw [e4]
    show Ok (cmpF op' y z S4) Q
    exact ⟨r, S5, e5, h⟩
  | false => exact ⟨_, _, rfl, h2 rfl⟩
theorem w_andV (h : Ok (evE G a δ S) fun x S1 => ∃ t, x = .bl t ∧ (t = true → Ok (evE G b δ S1) Q) ∧ (t = false → Q (.bl false) S1)) : Ok (evE G (.andV a b) δ S) Q := by
  obtain ⟨x, S1, e1, t, rfl, h1, h2⟩ := h
  cases t with
  | true => rw [e_andt e1 rfl]; exact h1 rfl
  | false => exact ⟨_, _, e_andf e1, h2 rfl⟩
theorem w_orV (h : Ok (evE G a δ S) fun x S1 => ∃ t, x = .bl t ∧ (t = true → Q (.bl true) S1) ∧ (t = false → Ok (evE G b δ S1) Q)) : Ok (evE G (.orV a b) δ S) Q := by
  obtain ⟨x, S1, e1, t, rfl, h1, h2⟩ := h
  cases t with
  | true => exact ⟨_, _, e_ort e1, h1 rfl⟩
  | false => rw [e_orf e1 rfl]; exact h2 rfl
theorem w_notV (h : Ok (evE G a δ S) fun x S1 => ∃ t, x = .bl t ∧ Q (.bl (!t)) S1) : Ok (evE G (.notV a) δ S) Q := by
  obtain ⟨x, S1, e1, t, rfl, h⟩ := h
  exact ⟨_, _, e_not e1, h⟩
theorem w_neg (h : Ok (evE G a δ S) fun x S1 => ∃ i, x = .int i ∧ Q (.int (-i)) S1) : Ok (evE G (.neg a) δ S) Q := by
  obtain ⟨x, S1, e1, t, rfl, h⟩ := h
  exact ⟨_, _, e_neg e1, h⟩
theorem w_ife {t : Ie} (h : Ok (evT G t δ S) fun x S1 => (x = true → Ok (evE G a δ S1) Q) ∧ (x = false → Ok (evE G b δ S1) Q)) : Ok (evE G (.ife t a b) δ S) Q := by
  obtain ⟨x, S1, e1, h1, h2⟩ := h
  cases x with
  | true => rw [e_ifet e1 rfl]; exact h1 rfl
  | false => rw [e_ifef e1 rfl]; exact h2 rfl
theorem w_ix (h : Ok (evE G a δ S) fun x S1 => Ok (evE G b δ S1) fun y S2 => Ok (ixF x y S2) Q) : Ok (evE G (.ix a b) δ S) Q := by
  obtain ⟨x, S1, e1, y, S2, e2, z, S3, e3, h⟩ := h
  exact ⟨z, S3, e_ix e1 e2 e3, h⟩
theorem w_sl {lo hi : Ie} (h : Ok (evE G a δ S) fun x S1 => Ok (evO G lo δ S1) fun l S2 => Ok (evO G hi δ S2) fun r S3 => Ok (slF x l r S3) Q) : Ok (evE G (.sl a lo hi) δ S) Q := by
  obtain ⟨x, S1, e1, y, S2, e2, z, S3, e3, u, S4, e4, h⟩ := h
  exact ⟨u, S4, e_sl e1 e2 e3 e4, h⟩
theorem w_rev (h : Ok (evE G a δ S) fun x S1 => Ok (revF x S1) Q) : Ok (evE G (.rev a) δ S) Q := by
  rw [evE]; exact ok_bind h
theorem w_call {f : Str} (h : Ok (evA G a δ S) fun ds S1 => Ok (G.fn f ds S1) Q) : Ok (evE G (.call f a) δ S) Q := by
  rw [evE]; exact ok_bind h
theorem w_bi {f : Bi} (h : Ok (evA G a δ S) fun ds S1 => Ok (biF f ds S1) Q) : Ok (evE G (.bi f a) δ S) Q := by
  rw [evE]; exact ok_bind h
theorem w_isi {T : Ty5} (h : Ok (evE G a δ S) fun x S1 => Ok (isF T.nm x S1) Q) : Ok (evE G (.isi T a) δ S) Q := by
  rw [evE]; exact ok_bind h
theorem w_isx {l : List Str} (h : Ok (evE G a δ S) fun x S1 => Ok (isxF l x S1) Q) : Ok (evE G (.isx l a) δ S) Q := by
  rw [evE]; exact ok_bind h
theorem w_isin {n : Bool} (h : Ok (evE G a δ S) fun x S1 => Ok (evE G b δ S1) fun y S2 => Ok (inF x y S2) fun r S3 => Q (.bl (if n then !r else r)) S3) : Ok (evE G (.isin n a b) δ S) Q := by
  obtain ⟨x, S1, e1, y, S2, e2, z, S3, e3, h⟩ := h
  refine ⟨_, S3, ?_, h⟩
  rw [evE]
  show (evE G a δ S).bind _ = _
  rw [e1]
  show (evE G b δ S1).bind _ = _
  rw [e2]
  show (inF x y S2).bind _ = _
  rw [e3]
  rfl
theorem w_isinF (h : Ok (evE G a δ S) fun x S1 => Ok (evE G b δ S1) fun y S2 => Ok (inF x y S2) fun r S3 => Q (.bl r) S3) : Ok (evE G (.isin false a b) δ S) Q := w_isin h
theorem w_isinT (h : Ok (evE G a δ S) fun x S1 => Ok (evE G b δ S1) fun y S2 => Ok (inF x y S2) fun r S3 => Q (.bl (!r)) S3) : Ok (evE G (.isin true a b) δ S) Q := w_isin h
theorem w_tup (h : Ok (evA G a δ S) fun ds S1 => ds.length ≤ sz ∧ Q (.tup ds) S1) : Ok (evE G (.tup a) δ S) Q := by
  obtain ⟨ds, S1, e, h1, h2⟩ := h
  exact ⟨_, _, e_tup e h1, h2⟩
/-- a new object at n -/
structure New (S S' : Sto) (n : Nat) (o : Ob) : Prop where
  pl : n = S.length
  len : S'.length = S.length + 1
  at_ : S'[n]? = some o
  old : ∀ (m : Nat) u, S[m]? = some u → S'[m]? = some u
theorem New.mk' (S : Sto) (o : Ob) : New S (S ++ [o]) S.length o := ⟨rfl, by simp, Lib.push_at, fun m u h => Lib.push_old h⟩
theorem ok_alloc {o : Ob} {Q : D → Sto → Prop} (h : ∀ n S', New S S' n o → Q (.loc n) S') : Ok (alloc o S) Q := ⟨_, _, rfl, h _ _ (New.mk' S o)⟩
theorem w_lst (h : Ok (evA G a δ S) fun ds S1 => ds.length ≤ sz ∧ ∀ n S', New S1 S' n (.lst ds) → Q (.loc n) S') : Ok (evE G (.lst a) δ S) Q := by
  obtain ⟨ds, S1, e, h1, h2⟩ := h
  exact ⟨_, _, e_lst e h1, h2 _ _ (New.mk' S1 _)⟩
theorem w_newT (h : ∀ n S', New S S' n (.dT []) → Q (.loc n) S') : Ok (evE G .newT δ S) Q := by
  rw [evE]
  exact ok_alloc h
/-- a write at n -/
structure Wr (S S' : Sto) (n : Nat) (o : Ob) : Prop where
  len : S'.length = S.length
  at_ : S'[n]? = some o
  old : ∀ (m : Nat) u, m ≠ n → S[m]? = some u → S'[m]? = some u
theorem Wr.mk' {S : Sto} {n : Nat} {o u : Ob} (h : S[n]? = some u) : Wr S (S.set n o) n o := ⟨by simp, Lib.set_at h, fun m v hm e => (Lib.set_ne hm).trans e⟩
theorem w_app (h : Ok (evE G a δ S) fun x S1 => ∃ n l, x = .loc n ∧ S1[n]? = some (.lst l) ∧ Ok (evE G b δ S1) fun y S2 => ∃ ds, S2[n]? = some (.lst ds) ∧ ds.length < sz ∧ ∀ S3, Wr S2 S3 n (.lst (ds ++ [y])) → Q .non S3) : Ok (evE G (.app a b) δ S) Q := by
  obtain ⟨x, S1, e1, n, l, rfl, h1, y, S2, e2, ds, h3, h4, h5⟩ := h
  exact ⟨_, _, Lk2.e_app e1 h1 e2 h3 h4, h5 _ (Wr.mk' h3)⟩
theorem w_get2 {d : Ie} (h : Ok (evE G d δ S) fun x S1 => Ok (isDic x S1) fun _ S2 => Ok (evE G a δ S2) fun y S3 => Ok (evE G b δ S3) fun z S4 => Ok (getF x y z S4) Q) : Ok (evE G (.get2 d a b) δ S) Q := by
  obtain ⟨x, S1, e1, _, S2, e2, y, S3, e3, z, S4, e4, r, S5, e5, h⟩ := h
  refine ⟨r, S5, ?_, h⟩
  rw [evE]
  show (evE G d δ S).bind _ = _
  rw [e1]
  show (isDic x S1).bind _ = _
  rw [e2]
  show (evE G a δ S2).bind _ = _
  rw [e3]
  show (evE G b δ S3).bind _ = _
  rw [e4]
  exact e5
theorem w_popK {d : Ie} (h : Ok (evE G d δ S) fun x S1 => Ok (isDcu x S1) fun _ S2 => Ok (evE G a δ S2) fun y S3 => Ok (popF x y S3) Q) : Ok (evE G (.popK d a) δ S) Q := by
  obtain ⟨x, S1, e1, _, S2, e2, y, S3, e3, r, S5, e5, h⟩ := h
  refine ⟨r, S5, ?_, h⟩
  rw [evE]
  show (evE G d δ S).bind _ = _
  rw [e1]
  show (isDcu x S1).bind _ = _
  rw [e2]
  show (evE G a δ S2).bind _ = _
  rw [e3]
  exact e5
theorem w_comp {own : List (Str × Nat)} {it : Ie} {tg : List Nat} {t e : Ie} (h : Ok (evI G it δ S) fun p S1 => ∀ n S2, New S1 S2 n (.lst []) → Ok (lcL p.2 n (own.map (·.2)) (tgOf tg) (fun δ' => quiet (evT G t δ')) (fun δ' => quiet (evE G e δ')) p.1 δ S2) Q) : Ok (evE G (.comp own it tg t e) δ S) Q := by
  obtain ⟨p, S1, e1, h⟩ := h
  rw [Lk2.e_comp e1 rfl]
  exact h _ _ (New.mk' S1 _)
theorem ok_quiet {α : Type} {x : M α} {S : Sto} {Q : α → Sto → Prop} (h : Ok (x S) Q) : Ok (quiet x S) Q := by
  obtain ⟨a, S1, e, h⟩ := h
  exact ⟨a, S1, Lk2.quiet_ok e, h⟩
theorem w_lcI {c : Chk} {n : Nat} {own : List Nat} {g : Tg} {t : Env → M Bool} {e : Env → M D} (J : Nat → List D → Sto → Prop) : ∀ (ds : List D) (i : Nat) (acc : List D) (S : Sto), (∀ j acc S, J j acc S → okC c S = true) →
    (∀ j d acc S, ds[j]? = some d → J (i + j) acc S → ∃ δ1, g.put d (wipeD δ own) = some δ1 ∧ Ok (t δ1 S) fun b S1 => (b = true → Ok (e δ1 S1) fun y S2 => S2[n]? = some (.lst acc) ∧ acc.length < sz ∧ ∀ S3, Wr S2 S3 n (.lst (acc ++ [y])) → J (i + j + 1) (acc ++ [y]) S3) ∧ (b = false → J (i + j + 1) acc S1)) →
    J i acc S → (∀ acc S, J (i + ds.length) acc S → Q (.loc n) S) → Ok (lcL c n own g t e ds δ S) Q
  | [], i, acc, S, hc, _, h, hq => by
    refine ⟨.loc n, S, ?_, hq _ _ h⟩
    rw [lcL]
    dsimp only
    rw [if_pos (hc _ _ _ h)]
  | d :: ds, i, acc, S, hc, hb, h, hq => by
    obtain ⟨δ1, e1, b, S1, e2, h1, h2⟩ := hb 0 d acc S rfl h
    have next : ∀ (acc' : List D) (S' : Sto), J (i + 0 + 1) acc' S' → Ok (lcL c n own g t e ds δ S') Q := fun acc' S' h' =>
      w_lcI J ds (i + 1) acc' S' hc (fun j d acc S e q => by
        have := hb (j + 1) d acc S e (by rw [show i + (j + 1) = i + 1 + j by omega]; exact q)
        rw [show i + (j + 1) + 1 = i + 1 + j + 1 by omega] at this
        exact this) h' (fun acc S q => hq acc S (by rw [show i + (d :: ds).length = i + 1 + ds.length by rw [List.length_cons]; omega]; exact q))
    rw [lcL]
    dsimp only
    rw [if_pos (hc _ _ _ h), e1]
    dsimp only
    rw [e2]
    show Ok (if b = true then _ else _) Q
    cases b with
    | false => exact next acc S1 (h2 rfl)
    | true =>
      rw [if_pos rfl]
      obtain ⟨y, S2, e3, h3, h4, h5⟩ := h1 rfl
      rw [e3]
      show Ok (match S2[n]? with
        | some (.lst acc) => if acc.length < sz then lcL c n own g t e ds δ (S2.set n (.lst (acc ++ [y]))) else .bad
        | _ => .bad) Q
      rw [h3]
      dsimp only
      rw [if_pos h4]
      exact next _ _ (h5 _ (Wr.mk' h3))
/-- a comprehension by an invariant of its places -/
theorem w_lcN {c : Chk} {n : Nat} {own : List Nat} {g : Tg} {t : Env → M Bool} {e : Env → M D} {ds : List D} (J : Nat → List D → Sto → Prop) (h : J 0 [] S) (hc : ∀ j acc S, J j acc S → okC c S = true)
    (hb : ∀ j d acc S, ds[j]? = some d → J j acc S → ∃ δ1, g.put d (wipeD δ own) = some δ1 ∧ Ok (t δ1 S) fun b S1 => (b = true → Ok (e δ1 S1) fun y S2 => S2[n]? = some (.lst acc) ∧ acc.length < sz ∧ ∀ S3, Wr S2 S3 n (.lst (acc ++ [y])) → J (j + 1) (acc ++ [y]) S3) ∧ (b = false → J (j + 1) acc S1))
    (hq : ∀ acc S, J ds.length acc S → Q (.loc n) S) : Ok (lcL c n own g t e ds δ S) Q :=
  w_lcI J ds 0 [] S hc (fun j d acc S e q => by rw [Nat.zero_add] at q ⊢; exact hb j d acc S e q) h fun acc S q => hq acc S (by rw [Nat.zero_add] at q; exact q)
end
section
variable {G : Gt} {N : Nat} {δ : Env} {S : Sto} {a b : Ie}
theorem w_anil {Q : List D → Sto → Prop} (h : Q [] S) : Ok (evA G .nil δ S) Q := ⟨_, _, a_nl, h⟩
theorem w_acons {Q : List D → Sto → Prop} (h : Ok (evE G a δ S) fun x S1 => Ok (evA G b δ S1) fun xs S2 => Q (x :: xs) S2) : Ok (evA G (.cons a b) δ S) Q := by
  obtain ⟨x, S1, e1, xs, S2, e2, h⟩ := h
  exact ⟨_, _, a_cn e1 e2, h⟩
theorem w_onil {Q : Option Int → Sto → Prop} (h : Q none S) : Ok (evO G .nil δ S) Q := ⟨_, _, o_nl, h⟩
theorem w_ocons {Q : Option Int → Sto → Prop} (h : Ok (evE G a δ S) fun x S1 => ∃ i, x = .int i ∧ Q (some i) S1) : Ok (evO G (.cons a .nil) δ S) Q := by
  obtain ⟨x, S1, e1, i, rfl, h⟩ := h
  exact ⟨_, _, o_cn e1, h⟩
theorem w_yes {Q : Bool → Sto → Prop} (h : Q true S) : Ok (evT G .yes δ S) Q := ⟨_, _, t_yes, h⟩
theorem w_tand {Q : Bool → Sto → Prop} (h : Ok (evT G a δ S) fun x S1 => (x = true → Ok (evT G b δ S1) Q) ∧ (x = false → Q false S1)) : Ok (evT G (.andV a b) δ S) Q := by
  obtain ⟨x, S1, e1, h1, h2⟩ := h
  cases x with
  | true => rw [t_andt e1 rfl]; exact h1 rfl
  | false => exact ⟨_, _, t_andf e1, h2 rfl⟩
theorem w_tor {Q : Bool → Sto → Prop} (h : Ok (evT G a δ S) fun x S1 => (x = true → Q true S1) ∧ (x = false → Ok (evT G b δ S1) Q)) : Ok (evT G (.orV a b) δ S) Q := by
  obtain ⟨x, S1, e1, h1, h2⟩ := h
  cases x with
  | true => exact ⟨_, _, t_ort e1, h1 rfl⟩
  | false => rw [t_orf e1 rfl]; exact h2 rfl
theorem w_tnot {Q : Bool → Sto → Prop} (h : Ok (evT G a δ S) fun x S1 => Q (!x) S1) : Ok (evT G (.notV a) δ S) Q := by
  obtain ⟨x, S1, e1, h⟩ := h
  exact ⟨_, _, t_nt e1, h⟩
theorem w_tof {Q : Bool → Sto → Prop} (h : Ok (evE G a δ S) fun d S1 => Ok (truthy d S1) Q) : Ok (evT G (.cons a .nil) δ S) Q := by
  obtain ⟨x, S1, e1, r, S2, e2, h⟩ := h
  exact ⟨r, S2, t_of e1 e2, h⟩
theorem w_itv {Q : List D × Chk → Sto → Prop} (h : Ok (evE G a δ S) fun d S1 => Ok (iterF d S1) Q) : Ok (evI G (.itv a) δ S) Q := by
  rw [evI]; exact ok_bind h
theorem w_itr {Q : List D × Chk → Sto → Prop} (h : Ok (evA G a δ S) fun d S1 => Ok (rngF d S1) Q) : Ok (evI G (.itr a) δ S) Q := by
  rw [evI]; exact ok_bind h
/-! ### operations -/
theorem q_truthb {x : Bool} {Q : Bool → Sto → Prop} (h : Q x S) : Ok (truthy (.bl x) S) Q := ⟨_, _, rfl, h⟩
theorem q_truthi {x : Int} {Q : Bool → Sto → Prop} (h : Q (x != 0) S) : Ok (truthy (.int x) S) Q := ⟨_, _, rfl, h⟩
theorem q_iterT {ds : List D} {Q : List D × Chk → Sto → Prop} (h : Q (ds, []) S) : Ok (iterF (.tup ds) S) Q := ⟨_, _, rfl, h⟩
theorem q_iterL {ds : List D} {n : Nat} {Q : List D × Chk → Sto → Prop} (e : S[n]? = some (.lst ds)) (h : Q (ds, [(n, .lst ds)]) S) : Ok (iterF (.loc n) S) Q := by
  refine ⟨_, _, ?_, h⟩
  simp only [iterF, e, rdOb]
theorem q_iterP {d : D} {ds : List D} {Q : List D × Chk → Sto → Prop} (e : tp? d = some ds) (h : Q (ds, []) S) : Ok (iterF d S) Q := ⟨_, _, Lib.iter_tp e, h⟩
/-- the ints from a on -/
def rngD (a : Int) (n : Nat) : List D := (List.range n).map fun (k : Nat) => D.int (a + (k : Int))
theorem q_rng1 {n : Int} {Q : List D × Chk → Sto → Prop} (e : -(2 ^ 62) ≤ n ∧ n < 2 ^ 62) (h : Q (rngD 0 n.toNat, []) S) : Ok (rngF [.int n] S) Q := by
  refine ⟨_, _, ?_, h⟩
  show Mp.chk (smallI n) _ S = _
  unfold smallI
  rw [decide_eq_true e]
  rfl
theorem q_rng2 {a n : Int} {Q : List D × Chk → Sto → Prop} (e : -(2 ^ 62) ≤ a ∧ a < 2 ^ 62) (e2 : -(2 ^ 62) ≤ n ∧ n < 2 ^ 62) (h : Q (rngD a (n - a).toNat, []) S) : Ok (rngF [.int a, .int n] S) Q := by
  refine ⟨_, _, ?_, h⟩
  show Mp.chk (smallI a && smallI n) _ S = _
  unfold smallI
  rw [decide_eq_true e, decide_eq_true e2]
  rfl
variable {Q : D → Sto → Prop}
theorem q_add {i j : Int} (h : Q (.int (i + j)) S) : Ok (binF .add (.int i) (.int j) S) Q := ⟨_, _, rfl, h⟩
theorem q_sub {i j : Int} (h : Q (.int (i - j)) S) : Ok (binF .sub (.int i) (.int j) S) Q := ⟨_, _, rfl, h⟩
theorem q_mul {i j : Int} (c : L2.CMulX i j) (h : Q (.int (i * j)) S) : Ok (binF .mul (.int i) (.int j) S) Q := ⟨_, _, o_mul c, h⟩
theorem q_mod {i j : Int} (c : 0 < j) (h : Q (.int (i % j)) S) : Ok (binF .mod (.int i) (.int j) S) Q := ⟨_, _, o_mod c, h⟩
theorem q_fdv {i j : Int} (c : 0 < j) (c2 : j.natAbs < 2 ^ 8000) (h : Q (.int (i / j)) S) : Ok (binF .fdv (.int i) (.int j) S) Q := ⟨_, _, Lib.o_fdvg c c2, h⟩
theorem q_pow {i j : Int} (c : decide (0 ≤ j ∧ (PySem.Builtin.Int.intBits i : Int) * j ≤ 2 ^ 27) = true) (h : Q (.int (i ^ j.toNat)) S) : Ok (binF .pow (.int i) (.int j) S) Q := ⟨_, _, Lib.o_powc c, h⟩
theorem q_catT {xs ys : List D} (c : xs.length + ys.length ≤ sz) (h : Q (.tup (xs ++ ys)) S) : Ok (binF .add (.tup xs) (.tup ys) S) Q := ⟨_, _, Lib.o_addt c, h⟩
theorem q_catL {m n : Nat} {xs ys : List D} (h1 : S[m]? = some (.lst xs)) (h2 : S[n]? = some (.lst ys)) (c : xs.length + ys.length ≤ sz) (h : ∀ k S', New S S' k (.lst (xs ++ ys)) → Q (.loc k) S') : Ok (binF .add (.loc m) (.loc n) S) Q := ⟨_, _, Lib.o_addl h1 h2 c, h _ _ (New.mk' S _)⟩
theorem q_repL {m : Nat} {xs : List D} {k : Int} (h1 : S[m]? = some (.lst xs)) (c : -(2 ^ 63) ≤ k ∧ k < 2 ^ 63 ∧ xs.length * k.toNat ≤ sz) (h : ∀ n S', New S S' n (.lst (List.replicate k.toNat xs).flatten) → Q (.loc n) S') : Ok (binF .mul (.loc m) (.int k) S) Q := by
  refine ⟨.loc S.length, _, ?_, h _ _ (New.mk' S _)⟩
  show (match S[m]? with
    | some (.lst xs) => Mp.chk (decide (-(2 ^ 63) ≤ k ∧ k < 2 ^ 63 ∧ xs.length * k.toNat ≤ sz)) (alloc (.lst (List.replicate k.toNat xs).flatten)) S
    | _ => .bad : Ret D) = _
  rw [h1]
  dsimp only
  rw [decide_eq_true c]
  rfl
theorem q_eqi {i j : Int} (h : Q (.bl (decide (i = j))) S) : Ok (cmpF .eq (.int i) (.int j) S) Q := ⟨_, _, o_eq_int, h⟩
theorem q_nei {i j : Int} (h : Q (.bl (!decide (i = j))) S) : Ok (cmpF .ne (.int i) (.int j) S) Q := ⟨_, _, o_ne_int, h⟩
theorem q_eqx {x y : D} {b : Bool} (e : eqF x y S = .ok b S) (h : Q (.bl b) S) : Ok (cmpF .eq x y S) Q := ⟨_, _, o_eq e, h⟩
theorem q_nex {x y : D} {b : Bool} (e : eqF x y S = .ok b S) (h : Q (.bl (!b)) S) : Ok (cmpF .ne x y S) Q := ⟨_, _, o_ne e, h⟩
theorem q_lti {i j : Int} (h : Q (.bl (decide (i < j))) S) : Ok (cmpF .lt (.int i) (.int j) S) Q := ⟨_, _, rfl, h⟩
theorem q_gti {i j : Int} (h : Q (.bl (decide (j < i))) S) : Ok (cmpF .gt (.int i) (.int j) S) Q := ⟨_, _, rfl, h⟩
theorem q_lei {i j : Int} (h : Q (.bl (decide (i ≤ j))) S) : Ok (cmpF .le (.int i) (.int j) S) Q := ⟨_, _, rfl, h⟩
theorem q_gei {i j : Int} (h : Q (.bl (decide (j ≤ i))) S) : Ok (cmpF .ge (.int i) (.int j) S) Q := ⟨_, _, rfl, h⟩
theorem q_is {x : D} (h : Q (.bl (isNone x)) S) : Ok (cmpF .is x .non S) Q := ⟨_, _, rfl, h⟩
theorem q_isnot {x : D} (h : Q (.bl (!isNone x)) S) : Ok (cmpF .isnot x .non S) Q := ⟨_, _, rfl, h⟩
theorem q_ixt {ds : List D} {i : Int} {d : D} (e : L2.atI ds i = some d) (h : Q d S) : Ok (ixF (.tup ds) (.int i) S) Q := ⟨_, _, o_ixt e, h⟩
theorem q_ixw {ds : List D} {i : Int} {d : D} (e : L2.atI ds i = some d) (h : Q d S) : Ok (ixF (.wtup ds) (.int i) S) Q := ⟨_, _, o_ixw e, h⟩
theorem q_ixl {n : Nat} {ds : List D} {i : Int} {d : D} (h1 : S[n]? = some (.lst ds)) (e : L2.atI ds i = some d) (h : Q d S) : Ok (ixF (.loc n) (.int i) S) Q := ⟨_, _, o_ixl h1 e, h⟩
theorem q_ixp {x d : D} {ds : List D} {i : Int} (h1 : tp? x = some ds) (e : L2.atI ds i = some d) (h : Q d S) : Ok (ixF x (.int i) S) Q := ⟨_, _, Lib.ix_tp h1 e, h⟩
theorem q_ixT {n : Nat} {kvs : List (List L2.Key × D)} {x v : D} {k : List L2.Key} (h1 : S[n]? = some (.dT kvs)) (hk : keyT x = some k) (e : getK kvs k = some v) (h : Q v S) : Ok (ixF (.loc n) x S) Q := by
  refine ⟨v, S, ?_, h⟩
  simp only [ixF, h1, Option.map_some, rdOb, hk, Option.bind_some, e]
theorem q_slT {ds : List D} {lo hi : Option Int} (h : Q (.tup (Mp.cut ds lo hi)) S) : Ok (slF (.tup ds) lo hi S) Q := ⟨_, _, rfl, h⟩
theorem q_slL {n : Nat} {ds : List D} {lo hi : Option Int} (h1 : S[n]? = some (.lst ds)) (h : ∀ m S', New S S' m (.lst (Mp.cut ds lo hi)) → Q (.loc m) S') : Ok (slF (.loc n) lo hi S) Q := by
  refine ⟨.loc S.length, _, ?_, h _ _ (New.mk' S _)⟩
  simp only [slF, h1, Option.map_some, rdOb]
  rfl
theorem q_lenT {ds : List D} (h : Q (.int ds.length) S) : Ok (biF .len [.tup ds] S) Q := ⟨_, _, rfl, h⟩
theorem q_lenL {n : Nat} {ds : List D} (h1 : S[n]? = some (.lst ds)) (h : Q (.int ds.length) S) : Ok (biF .len [.loc n] S) Q := ⟨_, _, o_len_l h1, h⟩
theorem q_lenP {x : D} {ds : List D} (h1 : tp? x = some ds) (h : Q (.int ds.length) S) : Ok (biF .len [x] S) Q := ⟨_, _, Lib.len_tp h1, h⟩
theorem q_abs {i : Int} (h : Q (.int i.natAbs) S) : Ok (biF .abs [.int i] S) Q := ⟨_, S, by show Ret.ok (D.int (if i < 0 then -i else i)) S = _; rw [Lib.abs_eq], h⟩
theorem q_str {i : Int} (c : i.natAbs < 2 ^ 1900) (h : Q (.str (toString i)) S) : Ok (biF .str [.int i] S) Q := ⟨_, _, Lib.o_str c, h⟩
theorem q_tupL {n : Nat} {ds : List D} (h1 : S[n]? = some (.lst ds)) (h : Q (.tup ds) S) : Ok (biF .tuple [.loc n] S) Q := by
  refine ⟨_, S, ?_, h⟩
  show (itemsOf (.loc n) S).bind _ = _
  simp only [itemsOf, h1, Option.map_some, rdOb]
  rfl
theorem q_listT {ds : List D} (h : ∀ n S', New S S' n (.lst ds) → Q (.loc n) S') : Ok (biF .list [.tup ds] S) Q := ⟨.loc S.length, _, rfl, h _ _ (New.mk' S _)⟩
theorem q_sumP {x : D} {ds : List D} {ns : List Int} (h1 : tp? x = some ds) (h2 : dInts ds = some ns) (h : Q (.int ns.sum) S) : Ok (biF .sum [x] S) Q := by
  refine ⟨_, S, ?_, h⟩
  have e1 : itemsOf x S = .ok ds S := by
    cases x <;> first | (cases h1; rfl) | cases h1
  show (itemsOf x S).bind _ = _
  rw [e1]
  show (match dInts ds with
    | some ns => mp (.int ns.sum)
    | none => mbad : M D) S = _
  rw [h2]
  rfl
theorem q_sumL {n : Nat} {ds : List D} {ns : List Int} (h1 : S[n]? = some (.lst ds)) (h2 : dInts ds = some ns) (h : Q (.int ns.sum) S) : Ok (biF .sum [.loc n] S) Q := by
  refine ⟨_, S, ?_, h⟩
  show (itemsOf (.loc n) S).bind _ = _
  simp only [itemsOf, h1, Option.map_some, rdOb]
  show (match dInts ds with
    | some ns => mp (.int ns.sum)
    | none => mbad : M D) S = _
  rw [h2]
  rfl
theorem q_all {n : Nat} {ds : List D} {bs : List Bool} (h1 : S[n]? = some (.lst ds)) (h2 : dBools ds = some bs) (h : Q (.bl (bs.all id)) S) : Ok (biF .all [.loc n] S) Q := by
  refine ⟨_, S, ?_, h⟩
  simp only [biF, h1, Option.map_some, rdOb, h2]
theorem q_sorted {n : Nat} {kvs : List (List L2.Key × D)} {L : List (List Int)} (h1 : S[n]? = some (.dT kvs)) (h2 : keysI (kvs.map (·.1)) = some L) (h : ∀ m S', New S S' m (.lst ((srtL L).map tupI)) → Q (.loc m) S') : Ok (biF .sorted [.loc n] S) Q := by
  refine ⟨.loc S.length, _, ?_, h _ _ (New.mk' S _)⟩
  simp only [biF, h1, Option.map_some, rdOb, h2]
  rfl
theorem q_isF {T t : String} {d : D} (e : tyName S d = some t) (h : Q (.bl (t == T || (T == "int" && t == "bool"))) S) : Ok (isF T d S) Q := ⟨_, _, Lib.isF_ok e, h⟩
theorem q_putL {n k : Nat} {ds : List D} {i : Int} {v : D} {Q : Unit → Sto → Prop} (h1 : S[n]? = some (.lst ds)) (h2 : L2.ixN ds.length i = some k) (h : ∀ S', Wr S S' n (.lst (ds.set k v)) → Q () S') : Ok (putF (.loc n) (.int i) v S) Q := ⟨(), _, o_putl h1 h2, h _ (Wr.mk' h1)⟩
theorem q_putT {n : Nat} {kvs : List (List L2.Key × D)} {x v : D} {k : List L2.Key} {Q : Unit → Sto → Prop} (h1 : S[n]? = some (.dT kvs)) (h2 : keyT x = some k) (h3 : kvs.length < sz) (h : ∀ S', Wr S S' n (.dT (setK kvs k v)) → Q () S') : Ok (putF (.loc n) x v S) Q := by
  refine ⟨(), _, ?_, h _ (Wr.mk' h1)⟩
  simp only [putF, h1, h2]
  rw [if_pos h3]
theorem q_isDic {n : Nat} {kvs : List (List L2.Key × D)} {Q : Unit → Sto → Prop} (h1 : S[n]? = some (.dT kvs)) (h : Q () S) : Ok (isDic (.loc n) S) Q := by
  refine ⟨(), S, ?_, h⟩
  simp only [isDic, h1, Option.map_some, rdOb]
theorem q_isDcu {n : Nat} {kvs : List (List L2.Key × D)} {Q : Unit → Sto → Prop} (h1 : S[n]? = some (.dT kvs)) (h : Q () S) : Ok (isDcu (.loc n) S) Q := by
  refine ⟨(), S, ?_, h⟩
  simp only [isDcu, h1]
theorem q_getT {n : Nat} {kvs : List (List L2.Key × D)} {x v : D} {k : List L2.Key} (h1 : S[n]? = some (.dT kvs)) (hk : keyT x = some k) (h : Q ((getK kvs k).getD v) S) : Ok (getF (.loc n) x v S) Q := by
  refine ⟨_, S, ?_, h⟩
  simp only [getF, h1, Option.map_some, rdOb, hk]
theorem q_popT {n : Nat} {kvs : List (List L2.Key × D)} {x v : D} {k : List L2.Key} (h1 : S[n]? = some (.dT kvs)) (hk : keyT x = some k) (e : getK kvs k = some v) (h : ∀ S', Wr S S' n (.dT (delK kvs k)) → Q v S') : Ok (popF (.loc n) x S) Q := by
  refine ⟨v, _, ?_, h _ (Wr.mk' h1)⟩
  simp only [popF, h1, hk, e]
theorem q_inT {n : Nat} {kvs : List (List L2.Key × D)} {x : D} {k : List L2.Key} {Q : Bool → Sto → Prop} (h1 : S[n]? = some (.dT kvs)) (hk : keyT x = some k) (h : Q (getK kvs k).isSome S) : Ok (inF x (.loc n) S) Q := by
  refine ⟨_, S, ?_, h⟩
  simp only [inF, h1, Option.map_some, rdOb, hk]
theorem q_rev {ds : List D} (h : Q (.tup ds.reverse) S) : Ok (revF (.tup ds) S) Q := ⟨_, _, rfl, h⟩
end
/-! ### stores that grow, but at some places -/
structure Gr (l : List Nat) (S S' : Sto) : Prop where
  len : S.length ≤ S'.length
  old : ∀ n o, n ∉ l → S[n]? = some o → S'[n]? = some o
theorem Gr.refl {l : List Nat} {S : Sto} : Gr l S S := ⟨Nat.le_refl _, fun _ _ _ h => h⟩
theorem Gr.trans {l : List Nat} {S S' S2 : Sto} (a : Gr l S S') (b : Gr l S' S2) : Gr l S S2 := ⟨Nat.le_trans a.len b.len, fun n o h e => b.old n o h (a.old n o h e)⟩
theorem Gr.sub {l l' : List Nat} {S S' : Sto} (a : Gr l S S') (h : ∀ n ∈ l, n ∈ l') : Gr l' S S' := ⟨a.len, fun n o hn e => a.old n o (fun z => hn (h n z)) e⟩
theorem New.gr {S S' : Sto} {n : Nat} {o : Ob} (h : New S S' n o) {l : List Nat} : Gr l S S' := ⟨by have := h.len; omega, fun m u _ e => h.old m u e⟩
theorem Wr.gr {S S' : Sto} {n : Nat} {o : Ob} (h : Wr S S' n o) {l : List Nat} (hn : n ∈ l) : Gr l S S' := ⟨by have := h.len; omega, fun m u hm e => h.old m u (fun z => hm (z ▸ hn)) e⟩
/-- written at a place that wasn't there -/
theorem Gr.wr {l : List Nat} {S S1 S' : Sto} {n : Nat} {o : Ob} (a : Gr l S S1) (h : Wr S1 S' n o) (hn : S.length ≤ n) : Gr l S S' := ⟨by have := h.len; have := a.len; omega, fun m u hm e => h.old m u (fun z => by
  have := (List.getElem?_eq_some_iff.mp e).1
  omega) (a.old m u hm e)⟩
theorem Gr.o0 {S S' : Sto} (a : Gr [] S S') {n : Nat} {o : Ob} (e : S[n]? = some o) : S'[n]? = some o := a.old n o (by simp) e
theorem Gr.o1 {S S' : Sto} {t : Nat} (a : Gr [t] S S') {n : Nat} {o : Ob} (hn : n ≠ t) (e : S[n]? = some o) : S'[n]? = some o := a.old n o (by simpa using hn) e
theorem Gr.o2 {S S' : Sto} {t u : Nat} (a : Gr [t, u] S S') {n : Nat} {o : Ob} (hn : n ≠ t) (hn' : n ≠ u) (e : S[n]? = some o) : S'[n]? = some o := a.old n o (by simp [hn, hn']) e
end Wp
namespace Wp
open PySem Mp
/-! ### the tape -/
def Tp (S : Sto) (t : Nat) (k : Int) : Prop := 1 ≤ t ∧ ∃ T, Lib.AtT S t (t - 1) T ∧ 0 ≤ T.spot ∧ T.spot ≤ k
theorem Tp.lt {S : Sto} {t : Nat} {k : Int} (h : Tp S t k) : t < S.length := by
  obtain ⟨_, T, a, _⟩ := h
  exact (List.getElem?_eq_some_iff.mp a.tp).1
theorem Tp.le {S : Sto} {t : Nat} {k k' : Int} (h : Tp S t k) (e : k ≤ k') : Tp S t k' := by
  obtain ⟨g, T, a, b, c⟩ := h
  exact ⟨g, T, a, b, by omega⟩
theorem Tp.grow {S S' : Sto} {t : Nat} {k : Int} (h : Tp S t k) (g : ∀ m o, (m = t ∨ m = t - 1) → S[m]? = some o → S'[m]? = some o) : Tp S' t k := by
  obtain ⟨g1, T, a, b, c⟩ := h
  exact ⟨g1, T, ⟨g _ _ (.inl rfl) a.tp, g _ _ (.inr rfl) a.cs, a.ne⟩, b, c⟩
theorem New.tp {S S' : Sto} {n t : Nat} {o : Ob} {k : Int} (h : New S S' n o) (st : Tp S t k) : Tp S' t k := st.grow fun m u _ e => h.old m u e
theorem New.lt {S S' : Sto} {n t : Nat} {o : Ob} {k : Int} (h : New S S' n o) (st : Tp S t k) : t < n := by
  rw [h.pl]
  exact st.lt
theorem Gr.tp0 {S S' : Sto} {t : Nat} {k : Int} (h : Gr [] S S') (st : Tp S t k) : Tp S' t k := st.grow fun m u _ e => h.o0 e
theorem Gr.tp1 {S S' : Sto} {t n : Nat} {k : Int} (h : Gr [n] S S') (hn : t < n) (st : Tp S t k) : Tp S' t k := st.grow fun m u hm e => h.o1 (by omega) e
theorem Wr.tp {S S' : Sto} {t n : Nat} {k : Int} {o : Ob} (h : Wr S S' n o) (hn : t < n) (st : Tp S t k) : Tp S' t k := st.grow fun m u hm e => h.old m u (by omega) e
theorem New.ne {S S' : Sto} {n m : Nat} {o u : Ob} (h : New S S' n o) (e : S[m]? = some u) : m ≠ n := by
  have := (List.getElem?_eq_some_iff.mp e).1
  have := h.pl
  omega
theorem New.ne2 {S S' : Sto} {n m : Nat} {o : Ob} (h : New S S' n o) (e : m < S.length) : m ≠ n := by
  have := h.pl
  omega
theorem lt_of_get {S : Sto} {m : Nat} {u : Ob} (e : S[m]? = some u) : m < S.length := (List.getElem?_eq_some_iff.mp e).1
theorem New.lt2 {S S' : Sto} {n m : Nat} {o : Ob} (h : New S S' n o) (e : m < S.length) : m < S'.length := by
  have := h.len
  omega
theorem Wr.lt2 {S S' : Sto} {n m : Nat} {o : Ob} (h : Wr S S' n o) (e : m < S.length) : m < S'.length := by
  have := h.len
  omega
theorem Gr.lt2 {S S' : Sto} {l : List Nat} {m : Nat} (h : Gr l S S') (e : m < S.length) : m < S'.length := Nat.lt_of_lt_of_le e h.len
def DrawW (f : List D → M D) : Prop := ∀ (S : Sto) (t : Nat) (k m : Int) (Q : D → Sto → Prop), Tp S t k → k < 1000000000 → 0 < m → m < 18446744073709551616 → (∀ r S', 0 ≤ r → r < m → Tp S' t (k + 1) → Gr [t] S S' → Q (.int r) S') → Ok (f [.loc t, .int m] S) Q
theorem drawW (G : Gt) : DrawW (specOf G 6 Lib.ir_law_draw) := by
  intro S t k m Q h hk h1 h2 q
  obtain ⟨g, T, a, b, c⟩ := h
  obtain ⟨d1, d2, d3⟩ := Lib.drawF_s T m
  obtain ⟨b1, b2⟩ := Lib.drawF_b T m h1
  refine ⟨_, _, specOf_ok (Lib.draw_run G 0 S t (t - 1) T m a b (by omega) h1 h2), q _ _ b1 b2 ⟨g, _, a.set d1, by omega, by omega⟩ ⟨by simp, fun n o hn e => ?_⟩⟩
  rw [Lib.set_ne (by simpa using hn)]
  exact e
theorem splitD {P : Prop} [Decidable P] {A B : Prop} (h1 : P → A) (h2 : ¬P → B) : (decide P = true → A) ∧ (decide P = false → B) := ⟨fun h => h1 (of_decide_eq_true h), fun h => h2 (of_decide_eq_false h)⟩
theorem splitND {P : Prop} [Decidable P] {A B : Prop} (h1 : ¬P → A) (h2 : P → B) : ((!decide P) = true → A) ∧ ((!decide P) = false → B) := ⟨fun h => h1 (of_decide_eq_false (by simpa using h)), fun h => h2 (of_decide_eq_true (by simpa using h))⟩
theorem splitN {x : Bool} {A B : Prop} (h1 : x = false → A) (h2 : x = true → B) : ((!x) = true → A) ∧ ((!x) = false → B) := ⟨fun h => h1 (by simpa using h), fun h => h2 (by simpa using h)⟩
theorem splitT {A B : Prop} (h : A) : (true = true → A) ∧ (true = false → B) := ⟨fun _ => h, fun z => by cases z⟩
theorem splitF {A B : Prop} (h : B) : (false = true → A) ∧ (false = false → B) := ⟨fun z => (by cases z), fun _ => h⟩
theorem splitNt {A B : Prop} (h : A) : ((!false) = true → A) ∧ ((!false) = false → B) := ⟨fun _ => h, fun z => by cases z⟩
theorem splitNf {A B : Prop} (h : B) : ((!true) = true → A) ∧ ((!true) = false → B) := ⟨fun z => (by cases z), fun _ => h⟩
section
variable {G : Gt} {N : Nat} {δ : Env} {S : Sto} {Q : D → Sto → Prop} {e : Ie}
theorem gE (h : Ok (evE G e δ S) Q) : Ok (evE G e δ S) Q := h
theorem gA {Q : List D → Sto → Prop} (h : Ok (evA G e δ S) Q) : Ok (evA G e δ S) Q := h
theorem gS {b : Is} {Q : Fl → Sto → Prop} (h : Ok (evS G N b δ S) Q) : Ok (evS G N b δ S) Q := h
theorem gT {Q : Bool → Sto → Prop} (h : Ok (evT G e δ S) Q) : Ok (evT G e δ S) Q := h
theorem gB {op : Bop} {x y : D} (h : Ok (binF op x y S) Q) : Ok (binF op x y S) Q := h
theorem gC {op : Cop} {x y : D} (h : Ok (cmpF op x y S) Q) : Ok (cmpF op x y S) Q := h
theorem gX {x y : D} (h : Ok (ixF x y S) Q) : Ok (ixF x y S) Q := h
theorem gF {f : Bi} {ds : List D} (h : Ok (biF f ds S) Q) : Ok (biF f ds S) Q := h
theorem fl_rt {P : Env → Sto → Prop} {d : D} (h : Q d S) : FlOn P Q (.rt d) S := h
theorem fl_nx {P : Env → Sto → Prop} (h : P δ S) : FlOn P Q (.nx δ) S := h
theorem ex_bl {x : Bool} {P : Bool → Prop} (h : P x) : ∃ t, D.bl x = .bl t ∧ P t := ⟨x, rfl, h⟩
theorem ex_int {x : Int} {P : Int → Prop} (h : P x) : ∃ t, D.int x = .int t ∧ P t := ⟨x, rfl, h⟩
theorem ex_put {l : List Nat} {d : D} {δ δ1 : Env} {P : Env → Prop} (e : (Tg.tp l).put d δ = some δ1) (h : P δ1) : ∃ δ1, (Tg.tp l).put d δ = some δ1 ∧ P δ1 := ⟨δ1, e, h⟩
theorem ex_app {n : Nat} {l : List D} {P : Nat → List D → Prop} {S : Sto} (e : S[n]? = some (.lst l)) (h : P n l) : ∃ m l, D.loc n = .loc m ∧ S[m]? = some (.lst l) ∧ P m l := ⟨n, l, rfl, e, h⟩
theorem ex_app2 {n : Nat} {l : List D} {P : List D → Prop} {S : Sto} (e : S[n]? = some (.lst l)) (c : l.length < sz) (h : P l) : ∃ l, S[n]? = some (.lst l) ∧ l.length < sz ∧ P l := ⟨l, e, c, h⟩
theorem le_sz2 {n : Nat} (h : n ≤ 100000) : n < sz := Nat.lt_of_le_of_lt h (by show 100000 < PySem.sizeLine; decide)
theorem len_cut {α : Type} (xs : List α) (lo hi : Option Int) : (Mp.cut xs lo hi).length ≤ xs.length := by
  unfold Mp.cut
  rw [List.length_take, List.length_drop]
  omega
theorem Wr.trans {S S1 S2 : Sto} {n : Nat} {o u : Ob} (a : Wr S S1 n o) (b : Wr S1 S2 n u) : Wr S S2 n u := ⟨b.len.trans a.len, b.at_, fun m v hm e => b.old m v hm (a.old m v hm e)⟩
theorem Wr.same {S : Sto} {n : Nat} {o : Ob} (h : S[n]? = some o) : Wr S S n o := ⟨rfl, h, fun _ _ _ e => e⟩
/-- a for that appends to one list -/
theorem w_fapp {c l i : Nat} {items acc : List D} {body : Env → M Fl} {δ : Env} {S : Sto} {Q : Fl → Sto → Prop} (f : D → D) (hc : S[c]? = some (.lst items)) (hl : S[l]? = some (.lst acc)) (ne : c ≠ l) (h0 : δ.set i none = δ) (hn : acc.length + items.length < sz)
    (hb : ∀ d S' a, d ∈ items → Wr S S' l (.lst a) → a.length < sz → Ok (body (δ.set i (some d)) S') (FlOn (fun δ2 S2 => δ2 = δ.set i (some d) ∧ Wr S' S2 l (.lst (a ++ [f d]))) fun _ _ => False))
    (hq : ∀ x S', Wr S S' l (.lst (acc ++ items.map f)) → Q (.nx (δ.set i x)) S') : Ok (forL [(c, .lst items)] (.nm i) body items δ S) Q := by
  refine w_forN (fun j δ' S' => (∃ x, δ' = δ.set i x) ∧ j ≤ items.length ∧ Wr S S' l (.lst (acc ++ (items.take j).map f))) ⟨⟨none, h0.symm⟩, Nat.zero_le _, by rw [List.take_zero, List.map_nil, List.append_nil]; exact Wr.same hl⟩ (fun j δ' S' h => okC_one (h.2.2.old _ _ ne hc)) (fun j d δ' S' hd h => ?_) (fun δ' S' h => ?_)
  · obtain ⟨⟨x, rfl⟩, h1, h2⟩ := h
    have hj := (List.getElem?_eq_some_iff.mp hd).1
    refine ⟨δ.set i (some d), by show some ((δ.set i x).set i (some d)) = _; rw [List.set_set], ?_⟩
    refine (hb d S' _ (List.mem_of_getElem? hd) h2 (by
      rw [List.length_append, List.length_map, List.length_take]
      omega)).imp fun fl S2 r => ?_
    cases fl with
    | rt v => exact r.elim
    | nx δ2 =>
      obtain ⟨rfl, r2⟩ := r
      refine ⟨⟨_, rfl⟩, hj, ?_⟩
      rw [List.take_add_one, hd, List.map_append, ← List.append_assoc]
      exact h2.trans r2
  · obtain ⟨⟨x, rfl⟩, h1, h2⟩ := h
    rw [List.take_length] at h2
    exact hq x S' h2
theorem and_le {n : Nat} {P : Prop} (h : n ≤ sz) (k : P) : n ≤ sz ∧ P := ⟨h, k⟩
theorem w_app1 {a b r : Is} {Q : Fl → Sto → Prop} (h : Ok (evS G N (.cons a (isApp b r)) δ S) Q) : Ok (evS G N (isApp (.cons a b) r) δ S) Q := h
theorem w_app0 {r : Is} {Q : Fl → Sto → Prop} (h : Ok (evS G N r δ S) Q) : Ok (evS G N (isApp .nil r) δ S) Q := h
end
/-- two of lowest_terms and its like -/
def LowW (f : List D → M D) : Prop := ∀ (S : Sto) (a b : Int) (Q : D → Sto → Prop), b ≠ 0 → b.natAbs < 2 ^ 8000 → Q (Lib.encI (Lib.lowF a b)) S → Ok (f [.int a, .int b] S) Q
theorem lowW {f : List D → M D} (h : Lib.LowOk f) : LowW f := fun S a b Q h1 h2 q => ⟨_, _, h S a b h1 h2, q⟩
end Wp
set_option exponentiation.threshold 10000
namespace Qd
open PySem Mp
/-! ### dicts whose keys are tuples of ints -/
def kOf (ns : List Int) : List L2.Key := ns.map Sum.inl
theorem kOf_inj : ∀ {a b : List Int}, kOf a = kOf b → a = b
  | [], [], _ => rfl
  | [], _ :: _, h => by cases h
  | _ :: _, [], h => by cases h
  | x :: a, y :: b, h => by
    obtain ⟨h1, h2⟩ := List.cons.inj h
    rw [Sum.inl.inj h1, kOf_inj h2]
section
variable {α : Type} (e : α → D)
def encM (m : List (List Int × α)) : List (List L2.Key × D) := m.map fun p => (kOf p.1, e p.2)
def lk (m : List (List Int × α)) (ns : List Int) : Option α := (m.find? fun p => decide (p.1 = ns)).map (·.2)
def st (m : List (List Int × α)) (ns : List Int) (v : α) : List (List Int × α) := if (m.any fun p => decide (p.1 = ns)) = true then m.map (fun p => if p.1 = ns then (p.1, v) else p) else m ++ [(ns, v)]
def dl (m : List (List Int × α)) (ns : List Int) : List (List Int × α) := m.filter fun p => decide (p.1 ≠ ns)
theorem dec_k (a b : List Int) : decide (kOf a = kOf b) = decide (a = b) := decide_eq_decide.mpr ⟨kOf_inj, fun h => by rw [h]⟩
theorem getK_enc (ns : List Int) : ∀ m : List (List Int × α), getK (encM e m) (kOf ns) = (lk m ns).map e
  | [] => rfl
  | p :: m => by
    have ih := getK_enc ns m
    unfold getK lk encM at ih ⊢
    rw [List.map_cons, List.find?_cons, List.find?_cons]
    dsimp only
    rw [dec_k]
    by_cases h : p.1 = ns
    · rw [decide_eq_true h]; rfl
    · rw [decide_eq_false h]; exact ih
theorem any_enc (ns : List Int) (m : List (List Int × α)) : (encM e m).any (fun kv => decide (kv.1 = kOf ns)) = m.any fun p => decide (p.1 = ns) := by
  unfold encM
  rw [List.any_map]
  congr 1
  funext p
  exact dec_k _ _
theorem setK_enc (m : List (List Int × α)) (ns : List Int) (v : α) : setK (encM e m) (kOf ns) (e v) = encM e (st m ns v) := by
  unfold setK st
  rw [any_enc]
  split
  · unfold encM
    rw [List.map_map, List.map_map]
    apply List.map_congr_left
    intro p _
    show (if kOf p.1 = kOf ns then (kOf p.1, e v) else (kOf p.1, e p.2)) = _
    dsimp only [Function.comp]
    by_cases h : p.1 = ns
    · rw [if_pos (by rw [h]), if_pos h]
    · rw [if_neg (fun z => h (kOf_inj z)), if_neg h]
  · unfold encM
    rw [List.map_append]
    rfl
theorem delK_enc (m : List (List Int × α)) (ns : List Int) : delK (encM e m) (kOf ns) = encM e (dl m ns) := by
  unfold delK dl encM
  rw [List.filter_map]
  congr 2
  funext p
  show decide (kOf p.1 ≠ kOf ns) = decide (p.1 ≠ ns)
  exact decide_eq_decide.mpr ⟨fun h z => h (by rw [z]), fun h z => h (kOf_inj z)⟩
theorem encM_len (m : List (List Int × α)) : (encM e m).length = m.length := by unfold encM; rw [List.length_map]
theorem key1_map : ∀ ns : List Int, (ns.map D.int).mapM key1 = some (kOf ns)
  | [] => rfl
  | n :: ns => by
    rw [List.map_cons, List.mapM_cons, key1_map ns]
    rfl
theorem keyT_tupI (ns : List Int) : keyT (tupI ns) = some (kOf ns) := key1_map ns
theorem keyIs_k : ∀ ns : List Int, keyIs (kOf ns) = some ns
  | [] => rfl
  | n :: ns => by
    show (keyIs (kOf ns)).map (n :: ·) = _
    rw [keyIs_k ns]
    rfl
theorem keysI_enc : ∀ m : List (List Int × α), (∀ p ∈ m, p.1 ≠ []) → keysI ((encM e m).map (·.1)) = some (m.map (·.1))
  | [], _ => rfl
  | p :: m, h => by
    show (if (kOf p.1).isEmpty then none else (keyIs (kOf p.1)).bind fun ns => (keysI ((encM e m).map (·.1))).map (ns :: ·)) = _
    have ne : p.1 ≠ [] := h p (List.mem_cons_self ..)
    have : (kOf p.1).isEmpty = false := by
      unfold kOf
      cases q : p.1 with
      | nil => exact (ne q).elim
      | cons a b => rfl
    rw [this, keyIs_k, keysI_enc m fun q hq => h q (List.mem_cons_of_mem _ hq)]
    rfl
variable {e}
theorem st_keys (m : List (List Int × α)) (ns : List Int) (v : α) : (st m ns v).map (·.1) = if (m.any fun p => decide (p.1 = ns)) = true then m.map (·.1) else m.map (·.1) ++ [ns] := by
  unfold st
  split
  · rw [List.map_map]
    apply List.map_congr_left
    intro p _
    dsimp only [Function.comp]
    split <;> rfl
  · rw [List.map_append]; rfl
theorem st_nodup {m : List (List Int × α)} {ns : List Int} {v : α} (h : (m.map (·.1)).Nodup) : ((st m ns v).map (·.1)).Nodup := by
  rw [st_keys]
  split
  · exact h
  · rename_i c
    refine List.nodup_append.mpr ⟨h, by simp, fun x hx y hy e => ?_⟩
    rw [List.mem_singleton.mp hy] at e
    subst e
    obtain ⟨p, hp, rfl⟩ := List.mem_map.mp hx
    exact c (List.any_eq_true.mpr ⟨p, hp, decide_eq_true rfl⟩)
theorem dl_nodup {m : List (List Int × α)} {ns : List Int} (h : (m.map (·.1)).Nodup) : ((dl m ns).map (·.1)).Nodup := h.sublist (List.filter_sublist.map _)
theorem st_len {m : List (List Int × α)} {ns : List Int} {v : α} : (st m ns v).length ≤ m.length + 1 := by
  unfold st
  split <;> simp
theorem dl_len {m : List (List Int × α)} {ns : List Int} : (dl m ns).length ≤ m.length := List.length_filter_le ..
theorem st_mem {m : List (List Int × α)} {ns : List Int} {v : α} {p : List Int × α} (h : p ∈ st m ns v) : p ∈ m ∨ p = (ns, v) := by
  unfold st at h
  split at h
  · obtain ⟨q, hq, rfl⟩ := List.mem_map.mp h
    split
    · rename_i c
      exact .inr (by rw [c])
    · exact .inl hq
  · rcases List.mem_append.mp h with h | h
    · exact .inl h
    · exact .inr (List.mem_singleton.mp h)
theorem dl_mem {m : List (List Int × α)} {ns : List Int} {p : List Int × α} (h : p ∈ dl m ns) : p ∈ m := (List.mem_filter.mp h).1
theorem lk_mem {m : List (List Int × α)} {ns : List Int} {v : α} (h : lk m ns = some v) : (ns, v) ∈ m := by
  unfold lk at h
  cases q : m.find? fun p => decide (p.1 = ns) with
  | none => rw [q] at h; cases h
  | some p =>
    rw [q] at h
    cases h
    have h1 := List.find?_some q
    have h1 := of_decide_eq_true h1
    rw [← h1]
    exact List.mem_of_find?_eq_some q
theorem lk_of_mem {m : List (List Int × α)} {ns : List Int} {v : α} (hn : (m.map (·.1)).Nodup) (h : (ns, v) ∈ m) : lk m ns = some v := by
  induction m with
  | nil => cases h
  | cons p m ih =>
    obtain ⟨h1, h2⟩ := List.nodup_cons.mp hn
    unfold lk
    rw [List.find?_cons]
    rcases List.mem_cons.mp h with rfl | h
    · rw [decide_eq_true rfl]; rfl
    · have ne : p.1 ≠ ns := fun z => h1 (by show p.1 ∈ _; rw [z]; exact List.mem_map.mpr ⟨(ns, v), h, rfl⟩)
      rw [decide_eq_false ne]
      exact ih h2 h
theorem lk_none {m : List (List Int × α)} {ns : List Int} (h : lk m ns = none) : ns ∉ m.map (·.1) := by
  intro hm
  obtain ⟨p, hp, rfl⟩ := List.mem_map.mp hm
  unfold lk at h
  cases q : m.find? fun r => decide (r.1 = p.1) with
  | none => exact absurd (List.find?_eq_none.mp q p hp) (by simp)
  | some p => rw [q] at h; cases h
end
/-! ### fractions as pairs -/
abbrev Q2 := Int × Int
abbrev DQ := List (List Int × Q2)
def plusQ (p q : Q2) : Q2 :=
  if p.2 % q.2 = 0 then (p.1 + q.1 * (p.2 / q.2), p.2)
  else if q.2 % p.2 = 0 then (q.1 + p.1 * (q.2 / p.2), q.2)
  else (p.1 * q.2 + q.1 * p.2, p.2 * q.2)
def putQ (m : DQ) (ns : List Int) (q : Q2) : DQ := if (plusQ ((lk m ns).getD (0, 1)) q).1 ≠ 0 then st m ns (plusQ ((lk m ns).getD (0, 1)) q) else if (lk m ns).isSome = true then dl m ns else m
def termQ (m : DQ) (ns : List Int) : Option (List Int × Q2) := match lk m ns with
  | some q => if q.1 ≠ 0 then some (ns, Lib.lowF q.1 q.2) else none
  | none => none
def sumQ (m : DQ) : List (List Int × Q2) := (srtL (m.map (·.1))).filterMap (termQ m)
def encTm (t : List Int × Q2) : D := .tup [tupI t.1, Lib.encI t.2]
def encS (many : Int) (ts : List (List Int × Q2)) : D := .tup [.int many, .tup (ts.map encTm)]
/-- a good fraction, of b bits -/
def GQ (b : Nat) (q : Q2) : Prop := 0 < q.2 ∧ q.1.natAbs < 2 ^ b ∧ q.2.natAbs < 2 ^ b
theorem GQ.le {b c : Nat} {q : Q2} (h : GQ b q) (e : b ≤ c) : GQ c q := ⟨h.1, Nat.lt_of_lt_of_le h.2.1 (Nat.pow_le_pow_right (by decide) e), Nat.lt_of_lt_of_le h.2.2 (Nat.pow_le_pow_right (by decide) e)⟩
theorem mul_lt {x y : Int} {a b : Nat} (hx : x.natAbs < 2 ^ a) (hy : y.natAbs < 2 ^ b) : (x * y).natAbs < 2 ^ (a + b) := by
  rw [Int.natAbs_mul, Nat.pow_add]
  exact Nat.mul_lt_mul'' hx hy
theorem add_lt {x y : Int} {a : Nat} (hx : x.natAbs < 2 ^ a) (hy : y.natAbs < 2 ^ a) : (x + y).natAbs < 2 ^ (a + 1) := by
  rw [Nat.pow_succ]
  omega
theorem div_lt {x y : Int} {a : Nat} (h : 0 < x) (h0 : 0 < y) (hx : x.natAbs < 2 ^ a) : (x / y).natAbs < 2 ^ a := by
  have h1 : x / y ≤ x := Int.ediv_le_self _ (by omega)
  have h2 : 0 ≤ x / y := Int.ediv_nonneg (by omega) (by omega)
  omega
theorem le_pow {x : Nat} {a b : Nat} (h : x < 2 ^ a) (e : a ≤ b) : x < 2 ^ b := Nat.lt_of_lt_of_le h (Nat.pow_le_pow_right (by decide) e)
theorem plusQ_good {b c : Nat} {p q : Q2} (hp : GQ b p) (hq : GQ c q) : GQ (b + c + 1) (plusQ p q) := by
  obtain ⟨p0, p1, p2⟩ := hp
  obtain ⟨q0, q1, q2⟩ := hq
  unfold plusQ
  split
  · refine ⟨p0, ?_, le_pow p2 (by omega)⟩
    have := mul_lt q1 (div_lt p0 q0 p2)
    exact add_lt (le_pow p1 (by omega)) (le_pow this (by omega))
  · split
    · refine ⟨q0, ?_, le_pow q2 (by omega)⟩
      have := mul_lt p1 (div_lt q0 p0 q2)
      exact add_lt (le_pow q1 (by omega)) (le_pow this (by omega))
    · refine ⟨Int.mul_pos p0 q0, ?_, le_pow (mul_lt p2 q2) (by omega)⟩
      exact add_lt (le_pow (mul_lt p1 q2) (by omega)) (le_pow (mul_lt q1 p2) (by omega))
theorem lowF_good {b : Nat} {q : Q2} (h : GQ b q) : GQ (b + 1) (Lib.lowF q.1 q.2) ∧ Int.gcd (Lib.lowF q.1 q.2).1 (Lib.lowF q.1 q.2).2 = 1 := by
  have h1 := Lk2.lowF_ok (a := q.1) (b := q.2) (by have := h.1; omega)
  have h2 := Lk2.lowF_b h.2.1 h.2.2
  exact ⟨⟨h1.1, h2.1, h2.2⟩, h1.2⟩
end Qd
namespace Qd
open PySem Mp
/-! ### things told by typed values: equal as these -/
structure EncP {α : Type} (e : α → D) (k : Nat) (p : α → PyData) : Prop where
  py : ∀ S n a, k ≤ n → D.py S n (e a) = some (p a)
  lay : ∀ a, PyData.canLay0 (p a) = true
  dep : ∀ a, PyData.depth (p a) ≤ k
  eq : ∀ a b, PyData.eqv (p a) (p b) = true ↔ a = b
def Enc {α : Type} (e : α → D) (k : Nat) : Prop := ∃ p, EncP e k p
theorem mapM_all {α β γ : Type} (e : α → β) (f : β → Option γ) (p : α → γ) : ∀ l : List α, (∀ a ∈ l, f (e a) = some (p a)) → (l.map e).mapM f = some (l.map p)
  | [], _ => rfl
  | a :: l, h => by
    rw [List.map_cons, List.mapM_cons, h a (List.mem_cons_self ..), mapM_all e f p l fun b hb => h b (List.mem_cons_of_mem _ hb)]
    rfl
theorem lay_all {l : List PyData} : (∀ x ∈ l, PyData.canLay0 x = true) → PyData.canLayAll0 l = true := by
  induction l with
  | nil => intro _; rfl
  | cons x l ih => intro h; simp only [PyData.canLayAll0, h x (List.mem_cons_self ..), ih fun y hy => h y (List.mem_cons_of_mem _ hy), Bool.and_self]
theorem dep_all {l : List PyData} {k : Nat} : (∀ x ∈ l, PyData.depth x ≤ k) → PyData.depthAll l ≤ k := by
  induction l with
  | nil => intro _; simp [PyData.depthAll]
  | cons x l ih =>
    intro h
    have h1 := h x (List.mem_cons_self ..)
    have h2 := ih fun y hy => h y (List.mem_cons_of_mem _ hy)
    simp only [PyData.depthAll]
    omega
theorem eqv_all {α : Type} (p : α → PyData) (h : ∀ a b, PyData.eqv (p a) (p b) = true ↔ a = b) : ∀ x y : List α, PyData.eqvAll (x.map p) (y.map p) = true ↔ x = y
  | [], [] => by simp [PyData.eqvAll]
  | [], _ :: _ => by simp [PyData.eqvAll]
  | _ :: _, [] => by simp [PyData.eqvAll]
  | a :: x, b :: y => by
    rw [List.map_cons, List.map_cons]
    simp only [PyData.eqvAll, Bool.and_eq_true, h a b, eqv_all p h x y, List.cons.injEq]
theorem Enc.int : Enc D.int 0 := ⟨PyData.int, fun S n a _ => by simp [D.py], fun a => by simp [PyData.canLay0], fun a => by simp [PyData.depth], fun a b => by simp [PyData.eqv]⟩
theorem Enc.bl : Enc D.bl 0 := ⟨PyData.bool, fun S n a _ => by simp [D.py], fun a => by simp [PyData.canLay0], fun a => by simp [PyData.depth], fun a b => by cases a <;> cases b <;> simp [PyData.eqv]⟩
theorem Enc.tup {α : Type} {e : α → D} {k : Nat} (h : Enc e k) : Enc (fun l : List α => .tup (l.map e)) (k + 1) := by
  obtain ⟨p, h⟩ := h
  refine ⟨fun l => .tuple (l.map p), fun S n l hn => ?_, fun l => ?_, fun l => ?_, fun a b => ?_⟩
  · obtain ⟨m, rfl⟩ : ∃ m, n = m + 1 := ⟨n - 1, by omega⟩
    show ((l.map e).mapM (D.py S m)).map PyData.tuple = _
    rw [mapM_all e _ p l fun a _ => h.py S m a (by omega)]
    rfl
  · simp only [PyData.canLay0]
    exact lay_all fun x hx => by
      obtain ⟨a, _, rfl⟩ := List.mem_map.mp hx
      exact h.lay a
  · have : PyData.depthAll (l.map p) ≤ k := dep_all fun x hx => by
      obtain ⟨a, _, rfl⟩ := List.mem_map.mp hx
      exact h.dep a
    simp only [PyData.depth]
    omega
  · have := eqv_all p h.eq a b
    simp only [PyData.eqv]
    exact this
theorem Enc.pair {α β : Type} {e : α → D} {f : β → D} {k l : Nat} (h : Enc e k) (h2 : Enc f l) : Enc (fun q : α × β => .tup [e q.1, f q.2]) (max k l + 1) := by
  obtain ⟨p, h⟩ := h
  obtain ⟨r, h2⟩ := h2
  refine ⟨fun q => .tuple [p q.1, r q.2], fun S n q hn => ?_, fun q => ?_, fun q => ?_, fun a b => ?_⟩
  · obtain ⟨m, rfl⟩ : ∃ m, n = m + 1 := ⟨n - 1, by omega⟩
    show ([e q.1, f q.2].mapM (D.py S m)).map PyData.tuple = _
    rw [List.mapM_cons, h.py S m q.1 (by omega), List.mapM_cons, h2.py S m q.2 (by omega)]
    rfl
  · simp [PyData.canLay0, PyData.canLayAll0, h.lay, h2.lay]
  · have := h.dep q.1
    have := h2.dep q.2
    simp only [PyData.depth, PyData.depthAll]
    omega
  · obtain ⟨a1, a2⟩ := a
    obtain ⟨b1, b2⟩ := b
    simp only [PyData.eqv, PyData.eqvAll, Bool.and_eq_true, h.eq, h2.eq, Prod.mk.injEq, and_true]
theorem Enc.eqF {α : Type} [DecidableEq α] {e : α → D} {k : Nat} (h : Enc e k) (hk : k ≤ 12) (a b : α) (S : Sto) : Mp.eqF (e a) (e b) S = .ok (decide (a = b)) S := by
  obtain ⟨p, h⟩ := h
  have sh : ∀ a, SeqAt.shaped (p a) = true := fun a => by
    unfold SeqAt.shaped
    rw [h.lay a, decide_eq_true (Nat.le_trans (h.dep a) (by omega))]
    rfl
  rw [eqF_of (h.py S 12 a hk) (h.py S 12 b hk) (sh a) (sh b)]
  congr 1
  rw [Bool.eq_iff_iff, h.eq, decide_eq_true_iff]
/-- two lists of such -/
theorem Enc.eqL {α : Type} [DecidableEq α] {e : α → D} {k : Nat} (h : Enc e k) (hk : k ≤ 11) {a b : List α} {S : Sto} {m n : Nat} (h1 : S[m]? = some (.lst (a.map e))) (h2 : S[n]? = some (.lst (b.map e))) : Mp.eqF (.loc m) (.loc n) S = .ok (decide (a = b)) S := by
  obtain ⟨p, h⟩ := h
  have py : ∀ (m : Nat) (a : List α), S[m]? = some (.lst (a.map e)) → D.py S 12 (.loc m) = some (.list (a.map p)) := fun m a hm => by
    show (match (S[m]?).map rdOb with
      | some (.lst ds) => (ds.mapM (D.py S 11)).map PyData.list
      | _ => none) = _
    rw [hm]
    show ((a.map e).mapM (D.py S 11)).map PyData.list = _
    rw [mapM_all e _ p a fun x _ => h.py S 11 x hk]
    rfl
  have sh : ∀ a : List α, SeqAt.shaped (.list (a.map p)) = true := fun a => by
    unfold SeqAt.shaped
    have h1 : PyData.canLay0 (.list (a.map p)) = true := by
      simp only [PyData.canLay0]
      exact lay_all fun x hx => by
        obtain ⟨a, _, rfl⟩ := List.mem_map.mp hx
        exact h.lay a
    have h2 : PyData.depthAll (a.map p) ≤ k := dep_all fun x hx => by
      obtain ⟨a, _, rfl⟩ := List.mem_map.mp hx
      exact h.dep a
    rw [h1, decide_eq_true (show PyData.depth (.list (a.map p)) ≤ 64 by simp only [PyData.depth]; omega)]
    rfl
  rw [eqF_of (py m a h1) (py n b h2) (sh a) (sh b)]
  congr 1
  rw [Bool.eq_iff_iff, decide_eq_true_iff]
  simp only [PyData.eqv]
  exact eqv_all p h.eq a b
theorem Enc.q2 : Enc Lib.encI 1 := Enc.pair Enc.int Enc.int
theorem Enc.ns : Enc tupI 1 := Enc.tup Enc.int
theorem Enc.tm : Enc encTm 2 := Enc.pair Enc.ns Enc.q2
theorem Enc.tms : Enc (fun ts : List (List Int × Q2) => .tup (ts.map encTm)) 3 := Enc.tup Enc.tm
theorem Enc.sum : Enc (fun s : Int × List (List Int × Q2) => encS s.1 s.2) 4 := Enc.pair Enc.int Enc.tms
end Qd
set_option exponentiation.threshold 20000
namespace Qd
open PySem Mp
/-! ### bounds that go by value and by the lower number -/
def VB (V F : Nat) (q : Q2) : Prop := 0 < q.2 ∧ q.2.natAbs ≤ F ∧ q.1.natAbs ≤ V * q.2.natAbs
theorem VB.le {V F V' F' : Nat} {q : Q2} (h : VB V F q) (h1 : V ≤ V') (h2 : F ≤ F') : VB V' F' q := ⟨h.1, Nat.le_trans h.2.1 h2, Nat.le_trans h.2.2 (Nat.mul_le_mul_right _ h1)⟩
theorem VB.one {V F : Nat} {q : Q2} (h : VB V F q) : 1 ≤ F := by
  have := h.1
  have := h.2.1
  omega
theorem VB.mul {V F V' F' : Nat} {p q : Q2} (h : VB V F p) (k : VB V' F' q) : VB (V * V') (F * F') (p.1 * q.1, p.2 * q.2) := by
  refine ⟨Int.mul_pos h.1 k.1, ?_, ?_⟩
  · show (p.2 * q.2).natAbs ≤ _
    rw [Int.natAbs_mul]
    exact Nat.mul_le_mul h.2.1 k.2.1
  · show (p.1 * q.1).natAbs ≤ _ * (p.2 * q.2).natAbs
    rw [Int.natAbs_mul, Int.natAbs_mul]
    have := Nat.mul_le_mul h.2.2 k.2.2
    calc p.1.natAbs * q.1.natAbs ≤ V * p.2.natAbs * (V' * q.2.natAbs) := this
      _ = V * V' * (p.2.natAbs * q.2.natAbs) := by grind
theorem abs_add_le (a b : Int) : (a + b).natAbs ≤ a.natAbs + b.natAbs := Int.natAbs_add_le a b
theorem VB.plus {V F V' F' : Nat} {p q : Q2} (h : VB V F p) (k : VB V' F' q) : VB (V + V') (F * F') (plusQ p q) := by
  have f1 := h.one
  have f2 := k.one
  obtain ⟨h1, h2, h3⟩ := h
  obtain ⟨k1, k2, k3⟩ := k
  unfold plusQ
  split
  · rename_i c
    refine ⟨h1, Nat.le_trans h2 (Nat.le_mul_of_pos_right _ f2), ?_⟩
    show (p.1 + q.1 * (p.2 / q.2)).natAbs ≤ (V + V') * p.2.natAbs
    have e : p.2 = q.2 * (p.2 / q.2) := by
      have := Int.mul_ediv_add_emod p.2 q.2
      omega
    have e2 : p.2.natAbs = q.2.natAbs * (p.2 / q.2).natAbs := by rw [← Int.natAbs_mul, ← e]
    have := abs_add_le p.1 (q.1 * (p.2 / q.2))
    rw [Int.natAbs_mul] at this
    have m := Nat.mul_le_mul_right (p.2 / q.2).natAbs k3
    rw [Nat.mul_assoc, ← e2] at m
    rw [Nat.add_mul]
    omega
  · split
    · rename_i c
      refine ⟨k1, Nat.le_trans k2 (Nat.le_mul_of_pos_left _ f1), ?_⟩
      show (q.1 + p.1 * (q.2 / p.2)).natAbs ≤ (V + V') * q.2.natAbs
      have e : q.2 = p.2 * (q.2 / p.2) := by
        have := Int.mul_ediv_add_emod q.2 p.2
        omega
      have e2 : q.2.natAbs = p.2.natAbs * (q.2 / p.2).natAbs := by rw [← Int.natAbs_mul, ← e]
      have := abs_add_le q.1 (p.1 * (q.2 / p.2))
      rw [Int.natAbs_mul] at this
      have m := Nat.mul_le_mul_right (q.2 / p.2).natAbs h3
      rw [Nat.mul_assoc, ← e2] at m
      rw [Nat.add_mul]
      omega
    · refine ⟨Int.mul_pos h1 k1, ?_, ?_⟩
      · show (p.2 * q.2).natAbs ≤ _
        rw [Int.natAbs_mul]
        exact Nat.mul_le_mul h2 k2
      · show (p.1 * q.2 + q.1 * p.2).natAbs ≤ (V + V') * (p.2 * q.2).natAbs
        have := abs_add_le (p.1 * q.2) (q.1 * p.2)
        rw [Int.natAbs_mul, Int.natAbs_mul] at this
        rw [Int.natAbs_mul]
        have m1 := Nat.mul_le_mul_right q.2.natAbs h3
        have m2 := Nat.mul_le_mul_right p.2.natAbs k3
        calc _ ≤ _ := this
          _ ≤ V * p.2.natAbs * q.2.natAbs + V' * q.2.natAbs * p.2.natAbs := Nat.add_le_add m1 m2
          _ = (V + V') * (p.2.natAbs * q.2.natAbs) := by grind
/-! ### lowest terms -/
theorem low_pos {a b : Int} (h : 0 < b) : Lib.lowF a b = (a / (Int.gcd a b : Int), b / (Int.gcd a b : Int)) := by
  unfold Lib.lowF
  rw [if_neg (by omega)]
theorem low_parts {a b : Int} (h : 0 < b) : ∃ g : Int, 0 < g ∧ a = g * (Lib.lowF a b).1 ∧ b = g * (Lib.lowF a b).2 := by
  refine ⟨(Int.gcd a b : Int), Lib.gcd_pos (by omega), ?_, ?_⟩
  · rw [low_pos h]
    exact (Int.mul_ediv_cancel' (Int.gcd_dvd_left _ _)).symm
  · rw [low_pos h]
    exact (Int.mul_ediv_cancel' (Int.gcd_dvd_right _ _)).symm
theorem VB.low {V F : Nat} {q : Q2} (h : VB V F q) : VB V F (Lib.lowF q.1 q.2) := by
  obtain ⟨h1, h2, h3⟩ := h
  obtain ⟨g, g0, e1, e2⟩ := low_parts (a := q.1) h1
  have p2 := (Lk2.lowF_ok (a := q.1) (b := q.2) (by omega)).1
  generalize Lib.lowF q.1 q.2 = r at e1 e2 p2 ⊢
  have a1 : q.1.natAbs = g.natAbs * r.1.natAbs := by rw [e1, Int.natAbs_mul]
  have a2 : q.2.natAbs = g.natAbs * r.2.natAbs := by rw [e2, Int.natAbs_mul]
  have gp : 0 < g.natAbs := by omega
  refine ⟨p2, ?_, ?_⟩
  · have : r.2.natAbs ≤ g.natAbs * r.2.natAbs := Nat.le_mul_of_pos_left _ gp
    omega
  · rw [a1, a2] at h3
    have : g.natAbs * r.1.natAbs ≤ g.natAbs * (V * r.2.natAbs) := by
      calc _ ≤ _ := h3
        _ = _ := by grind
    exact Nat.le_of_mul_le_mul_left this gp
/-! ### the number that is meant -/
def val (q : Q2) : Rat := (q.1 : Rat) / (q.2 : Rat)
theorem ne0 {a : Int} (h : 0 < a) : (a : Rat) ≠ 0 := by
  intro z
  have : a = 0 := Rat.intCast_inj.mp z
  omega
theorem val_plus {p q : Q2} (hp : 0 < p.2) (hq : 0 < q.2) : val (plusQ p q) = val p + val q := by
  have n1 := ne0 hp
  have n2 := ne0 hq
  unfold plusQ val
  split
  · rename_i c
    have e : p.2 = q.2 * (p.2 / q.2) := by
      have := Int.mul_ediv_add_emod p.2 q.2
      omega
    generalize p.2 / q.2 = k at e ⊢
    dsimp only
    rw [e, Rat.intCast_add, Rat.intCast_mul, Rat.intCast_mul]
    have n3 : (q.2 : Rat) * (k : Rat) ≠ 0 := by rw [← Rat.intCast_mul, ← e]; exact n1
    grind
  · split
    · rename_i c
      have e : q.2 = p.2 * (q.2 / p.2) := by
        have := Int.mul_ediv_add_emod q.2 p.2
        omega
      generalize q.2 / p.2 = k at e ⊢
      dsimp only
      rw [e, Rat.intCast_add, Rat.intCast_mul, Rat.intCast_mul]
      have n3 : (p.2 : Rat) * (k : Rat) ≠ 0 := by rw [← Rat.intCast_mul, ← e]; exact n2
      grind
    · dsimp only
      rw [Rat.intCast_add, Rat.intCast_mul, Rat.intCast_mul, Rat.intCast_mul]
      grind
theorem val_mul {p q : Q2} (hp : 0 < p.2) (hq : 0 < q.2) : val (p.1 * q.1, p.2 * q.2) = val p * val q := by
  have n1 := ne0 hp
  have n2 := ne0 hq
  unfold val
  dsimp only
  rw [Rat.intCast_mul, Rat.intCast_mul]
  grind
theorem val_add {p q : Q2} (hp : 0 < p.2) (hq : 0 < q.2) : val (p.1 * q.2 + q.1 * p.2, p.2 * q.2) = val p + val q := by
  have n1 := ne0 hp
  have n2 := ne0 hq
  unfold val
  dsimp only
  rw [Rat.intCast_add, Rat.intCast_mul, Rat.intCast_mul, Rat.intCast_mul]
  grind
theorem val_low {a b : Int} (h : 0 < b) : val (Lib.lowF a b) = val (a, b) := by
  obtain ⟨g, g0, e1, e2⟩ := low_parts (a := a) h
  have p2 := (Lk2.lowF_ok (a := a) (b := b) (by omega)).1
  have n0 := ne0 g0
  have n1 := ne0 p2
  unfold val
  dsimp only
  generalize Lib.lowF a b = r at e1 e2 p2 n1 ⊢
  rw [e1, e2, Rat.intCast_mul, Rat.intCast_mul]
  grind
theorem low_uniq {p q : Q2} (hp : 0 < p.2) (hq : 0 < q.2) (gp : Int.gcd p.1 p.2 = 1) (gq : Int.gcd q.1 q.2 = 1) (h : val p = val q) : p = q := by
  have n1 := ne0 hp
  have n2 := ne0 hq
  unfold val at h
  have e : (p.1 : Rat) * (q.2 : Rat) = (q.1 : Rat) * (p.2 : Rat) := by grind
  rw [← Rat.intCast_mul, ← Rat.intCast_mul] at e
  have e := Rat.intCast_inj.mp e
  obtain ⟨a, b⟩ := p
  obtain ⟨c, d⟩ := q
  dsimp only at e hp hq gp gq
  have en : a.natAbs * d.natAbs = c.natAbs * b.natAbs := by rw [← Int.natAbs_mul, ← Int.natAbs_mul, e]
  have g1 : Nat.Coprime b.natAbs a.natAbs := by
    show Nat.gcd b.natAbs a.natAbs = 1
    rw [Nat.gcd_comm]
    exact gp
  have g2 : Nat.Coprime d.natAbs c.natAbs := by
    show Nat.gcd d.natAbs c.natAbs = 1
    rw [Nat.gcd_comm]
    exact gq
  have d1 : b.natAbs ∣ d.natAbs := g1.dvd_of_dvd_mul_left ⟨c.natAbs, by rw [en, Nat.mul_comm]⟩
  have d2 : d.natAbs ∣ b.natAbs := g2.dvd_of_dvd_mul_left ⟨a.natAbs, by rw [← en, Nat.mul_comm]⟩
  have eb := Nat.dvd_antisymm d1 d2
  have eb : b = d := by omega
  subst eb
  have : a = c := Int.eq_of_mul_eq_mul_right (by omega) e
  rw [this]
theorem low_canon {a b c d : Int} (hb : 0 < b) (hd : 0 < d) (h : val (a, b) = val (c, d)) : Lib.lowF a b = Lib.lowF c d := by
  have k1 := Lk2.lowF_ok (a := a) (b := b) (by omega)
  have k2 := Lk2.lowF_ok (a := c) (b := d) (by omega)
  exact low_uniq k1.1 k2.1 k1.2 k2.2 (by rw [val_low hb, val_low hd, h])
theorem low_id {p : Q2} (hp : 0 < p.2) (g : Int.gcd p.1 p.2 = 1) : Lib.lowF p.1 p.2 = p := by
  have k1 := Lk2.lowF_ok (a := p.1) (b := p.2) (by omega)
  exact low_uniq k1.1 hp k1.2 g (val_low hp)
theorem val_zero {p : Q2} (hp : 0 < p.2) : val p = 0 ↔ p.1 = 0 := by
  have n1 := ne0 hp
  unfold val
  constructor
  · intro h
    have : (p.1 : Rat) = ((0 : Int) : Rat) := by
      have e : ((0 : Int) : Rat) = 0 := rfl
      rw [e]
      grind
    exact Rat.intCast_inj.mp this
  · intro h
    rw [h]
    have e : ((0 : Int) : Rat) = 0 := rfl
    rw [e]
    grind
theorem VB.bit {V F : Nat} {q : Q2} (h : VB V F q) {n : Nat} (e : V * F < 2 ^ n) (e2 : F < 2 ^ n) : q.1.natAbs < 2 ^ n ∧ q.2.natAbs < 2 ^ n := by
  refine ⟨?_, by have := h.2.1; omega⟩
  have := Nat.mul_le_mul_left V h.2.1
  have := h.2.2
  omega
end Qd
set_option exponentiation.threshold 20000
namespace Lk4
open PySem Mp Wp Qd
theorem noPyl {x y : Int} (h : x.natAbs < 2 ^ 13500) : PySem.Builtin.divisionGoesByPylong x y = false := by
  have k1 : (if x == 0 then 0 else x.natAbs.log2 / 30 + 1) ≤ 450 := by
    by_cases hx : (x == 0) = true
    · rw [if_pos hx]; exact Nat.zero_le _
    · rw [if_neg hx]
      have := PySem.Flt.log2_lt_of (show 0 < 13500 by decide) h
      omega
  show (decide ((if y == 0 then 0 else y.natAbs.log2 / 30 + 1) > 300) && decide ((if x == 0 then 0 else x.natAbs.log2 / 30 + 1) > (if y == 0 then 0 else y.natAbs.log2 / 30 + 1) + 150)) = false
  generalize (if y == 0 then 0 else y.natAbs.log2 / 30 + 1) = b at *
  generalize (if x == 0 then 0 else x.natAbs.log2 / 30 + 1) = a at *
  rw [Bool.and_eq_false_iff]
  by_cases c : b > 300
  · right
    exact decide_eq_false (by omega)
  · left
    exact decide_eq_false c
theorem q_fdvx {S : Sto} {i j : Int} {Q : D → Sto → Prop} (c : 0 < j) (h : i.natAbs < 2 ^ 13500) (q : Q (.int (i / j)) S) : Ok (binF .fdv (.int i) (.int j) S) Q := ⟨_, _, o_fdv c (noPyl h), q⟩
theorem w_whl {G : Gt} {N : Nat} {δ δ1 : Mp.Env} {S S1 : Sto} {t : Ie} {x b : Is} {Q : Fl → Sto → Prop} (h : whlL (evT G t) (evS G N x) N δ S = .ok (.nx δ1) S1) (k : Ok (evS G N b δ1 S1) Q) : Ok (evS G N (.cons (.whl t x) b) δ S) Q := by
  rw [r_whl h rfl]
  exact k
def LowX (f : List D → M D) : Prop := ∀ (S : Sto) (a b : Int) (Q : D → Sto → Prop), 0 < b → a.natAbs < 2 ^ 13500 → b.natAbs < 2 ^ 13500 → Q (Lib.encI (Lib.lowF a b)) S → Ok (f [.int a, .int b] S) Q
local macro_rules | `(tactic| walk_at "wd") => `(tactic| first
  | assumption | exact lt_of_get (by assumption) | exact lt_of_get (New.at_ (by assumption)) | exact lt_of_get (Wr.at_ (by assumption)) | exact Tp.lt (by assumption)
  | (refine New.lt2 (by assumption) ?_; (walk_at "wd"))
  | (refine Wr.lt2 (by assumption) ?_; (walk_at "wd"))
  | (refine Gr.lt2 (by assumption) ?_; (walk_at "wd")))
local macro_rules | `(tactic| walk_at "wn") => `(tactic| first | assumption | exact Ne.symm (by assumption) | exact New.ne2 (by assumption) (by (walk_at "wd")) | exact Ne.symm (New.ne2 (by assumption) (by (walk_at "wd"))) | omega)
local macro_rules | `(tactic| walk_at "wl") => `(tactic| first
  | assumption | exact New.at_ (by assumption) | exact Wr.at_ (by assumption)
  | (refine New.old (by assumption) _ _ ?_; (walk_at "wl"))
  | (refine Gr.o0 (by assumption) ?_; (walk_at "wl"))
  | (refine Gr.o1 (by assumption) (by (walk_at "wn")) ?_; (walk_at "wl"))
  | (refine Gr.o2 (by assumption) (by (walk_at "wn")) (by (walk_at "wn")) ?_; (walk_at "wl"))
  | (refine Wr.old (by assumption) _ _ (by (walk_at "wn")) ?_; (walk_at "wl")))
local macro_rules | `(tactic| walk_at "ws") => `(tactic| first
  | assumption
  | (refine New.tp (by assumption) ?_; (walk_at "ws"))
  | (refine Gr.tp0 (by assumption) ?_; (walk_at "ws"))
  | (refine Gr.tp1 (by assumption) (by omega) ?_; (walk_at "ws"))
  | (refine Wr.tp (by assumption) (by omega) ?_; (walk_at "ws")))
local macro_rules | `(tactic| walk_at "wz2") => `(tactic| first | assumption | exact le_sz2 (by first | omega | (simp only [List.length_append, List.length_map, List.length_cons, List.length_nil]; omega)))
local macro_rules | `(tactic| walk_at "wz") => `(tactic| first | assumption | exact Lib.le_sz (by first | omega | (simp only [List.length_append, List.length_map, List.length_cons, List.length_nil]; omega)))
local macro_rules | `(tactic| walk_at "wqb") => `(tactic| with_reducible first
  | (apply q_catT; (walk_at "wz")) | (apply q_catL; (walk_at "wl"); (walk_at "wl"); (walk_at "wz"); intro _ _ _)
  | refine q_add ?_ | refine q_sub ?_ | (apply q_mul; first | assumption | exact mulx64 (by omega) (by omega)) | (apply q_mod; first | assumption | omega) | (apply q_fdvx; (first | assumption | omega); assumption) | (apply q_pow; decide))
local macro_rules | `(tactic| walk_at "wqc") => `(tactic| with_reducible first
  | refine q_eqi ?_ | refine q_nei ?_ | refine q_lti ?_ | refine q_gti ?_ | refine q_lei ?_ | refine q_gei ?_ | refine q_is ?_ | refine q_isnot ?_)
local macro_rules | `(tactic| walk_at "wqf") => `(tactic| with_reducible first
  | refine q_lenT ?_ | (apply q_lenL; (walk_at "wl")) | refine q_abs ?_ | (apply q_tupL; (walk_at "wl")) | refine q_listT (fun _ _ _ => ?_) | (apply q_str; assumption))
local macro_rules | `(tactic| walk_at "wqx") => `(tactic| with_reducible first
  | refine q_ixt rfl ?_ | refine q_ixw rfl ?_ | (apply q_ixl; (walk_at "wl"); exact rfl))
local macro_rules | `(tactic| walk_at "wpE") => `(tactic| with_reducible first
  | refine w_var rfl ?_ | refine w_con ?_ | refine w_call ?_ | refine w_ix ?_ | refine w_bin ?_ | refine w_cmp ?_ | refine w_bi ?_
  | refine w_isi ?_ | refine w_tup ?_ | refine w_lst ?_ | refine w_newT (fun _ _ _ => ?_) | refine w_chn ?_ | refine w_andV ?_ | refine w_orV ?_ | refine w_notV ?_ | refine w_neg ?_ | refine w_ife ?_
  | refine w_sl ?_ | refine w_rev ?_ | refine w_isinF ?_ | refine w_isinT ?_ | refine w_app ?_ | refine w_get2 ?_ | refine w_popK ?_ | refine w_comp ?_ | refine w_glob rfl ?_
  | (dsimp only [List.set]; refine w_var rfl ?_))
local macro_rules | `(tactic| walk_at "wpS") => `(tactic| first
  | with_reducible first
    | refine w_asg ?_ | refine w_ret ?_ | refine w_ex ?_ | refine w_nil ?_ | refine w_app1 ?_ | refine w_app0 ?_ | refine w_par ?_ | refine w_sub ?_ | refine w_unp ?_ | refine w_for ?_ | refine w_retN ?_
  | ((with_reducible refine w_if' ?_ ?_ ?_); exact rfl; exact rfl))
local macro_rules | `(tactic| walk_at "wp") => `(tactic| first
  | ((with_reducible refine gE ?_); (walk_at "wpE"))
  | ((with_reducible refine gA ?_); with_reducible first | refine w_acons ?_ | refine w_anil ?_)
  | ((with_reducible refine gS ?_); (walk_at "wpS"))
  | ((with_reducible refine gT ?_); with_reducible first | refine w_tof ?_ | refine w_tand ?_ | refine w_tor ?_ | refine w_tnot ?_ | refine w_yes ?_)
  | ((with_reducible refine gB ?_); (walk_at "wqb"))
  | ((with_reducible refine gC ?_); (walk_at "wqc"))
  | ((with_reducible refine gX ?_); (walk_at "wqx"))
  | ((with_reducible refine gF ?_); (walk_at "wqf"))
  | with_reducible first
    | refine q_truthb ?_ | refine fl_rt ?_ | refine fl_nx ?_ | refine ex_bl ?_ | refine ex_int ?_ | (refine and_le ?_ ?_; exact Lib.le_sz (by simp))
    | refine splitNt ?_ | refine splitNf ?_ | refine splitT ?_ | refine splitF ?_ | refine splitD (fun _ => ?_) (fun _ => ?_) | refine splitND (fun _ => ?_) (fun _ => ?_)
    | refine w_onil ?_ | refine w_ocons ?_ | refine w_itv ?_ | refine w_itr ?_ | refine ok_quiet ?_
    | refine q_slT ?_ | refine q_rev ?_ | refine q_iterT ?_ | (apply q_iterL; (walk_at "wl")) | (apply q_rng1; omega) | (apply q_rng2; omega; omega)
    | (apply q_isDic; (walk_at "wl")) | (apply q_isDcu; (walk_at "wl")) | refine q_truthi ?_
    | (apply ex_app; (walk_at "wl")) | (apply ex_app2; (walk_at "wl"); (walk_at "wz2"); intro _ _)
    | refine splitN (fun _ => ?_) (fun _ => ?_)
  | ((with_reducible apply ex_put); exact rfl)
  | intro _)
def ir_lowest_terms : Is :=
  (.cons (.ifs (.cons (.cmp .lt (.var 1) (.con (.int 0))) .nil)
  (.cons (.par 0 1 (.bin .sub (.con (.int 0)) (.var 0)) (.bin .sub (.con (.int 0)) (.var 1)))
  .nil)
  .nil)
  (.cons (.asg 2 (.call "common_measure" (.cons (.bi .abs (.cons (.var 0) .nil)) (.cons (.var 1) .nil))))
  (.cons (.ret (.tup (.cons (.bin .fdv (.var 0) (.var 2)) (.cons (.bin .fdv (.var 1) (.var 2)) .nil))))
  .nil)))
def ir_added : Is :=
  (.cons (.ret (.call "lowest_terms" (.cons (.bin .add (.bin .mul (.ix (.var 0) (.con (.int 0))) (.ix (.var 1) (.con (.int 1)))) (.bin .mul (.ix (.var 1) (.con (.int 0))) (.ix (.var 0) (.con (.int 1))))) (.cons (.bin .mul (.ix (.var 0) (.con (.int 1))) (.ix (.var 1) (.con (.int 1)))) .nil))))
  .nil)
def ir_multiplied : Is :=
  (.cons (.ret (.call "lowest_terms" (.cons (.bin .mul (.ix (.var 0) (.con (.int 0))) (.ix (.var 1) (.con (.int 0)))) (.cons (.bin .mul (.ix (.var 0) (.con (.int 1))) (.ix (.var 1) (.con (.int 1)))) .nil))))
  .nil)
def ir_power_of : Is :=
  (.cons (.asg 2 (.glob "UNIT"))
  (.cons (.for_ (.nm 3) (.itr (.cons (.var 1) .nil))
  (.cons (.asg 2 (.call "multiplied" (.cons (.var 2) (.cons (.var 0) .nil))))
  .nil))
  (.cons (.ret (.var 2))
  .nil)))
def ir_law_plus : Is :=
  (.cons (.ifs (.cons (.cmp .eq (.bin .mod (.ix (.var 0) (.con (.int 1))) (.ix (.var 1) (.con (.int 1)))) (.con (.int 0))) .nil)
  (.cons (.ret (.tup (.cons (.bin .add (.ix (.var 0) (.con (.int 0))) (.bin .mul (.ix (.var 1) (.con (.int 0))) (.bin .fdv (.ix (.var 0) (.con (.int 1))) (.ix (.var 1) (.con (.int 1)))))) (.cons (.ix (.var 0) (.con (.int 1))) .nil))))
  .nil)
  .nil)
  (.cons (.ifs (.cons (.cmp .eq (.bin .mod (.ix (.var 1) (.con (.int 1))) (.ix (.var 0) (.con (.int 1)))) (.con (.int 0))) .nil)
  (.cons (.ret (.tup (.cons (.bin .add (.ix (.var 1) (.con (.int 0))) (.bin .mul (.ix (.var 0) (.con (.int 0))) (.bin .fdv (.ix (.var 1) (.con (.int 1))) (.ix (.var 0) (.con (.int 1)))))) (.cons (.ix (.var 1) (.con (.int 1))) .nil))))
  .nil)
  .nil)
  (.cons (.asg 2 (.bin .add (.bin .mul (.ix (.var 0) (.con (.int 0))) (.ix (.var 1) (.con (.int 1)))) (.bin .mul (.ix (.var 1) (.con (.int 0))) (.ix (.var 0) (.con (.int 1))))))
  (.cons (.ret (.tup (.cons (.var 2) (.cons (.bin .mul (.ix (.var 0) (.con (.int 1))) (.ix (.var 1) (.con (.int 1)))) .nil))))
  .nil))))
def ir_law_mul : Is :=
  (.cons (.ret (.tup (.cons (.bin .mul (.ix (.var 0) (.con (.int 0))) (.ix (.var 1) (.con (.int 0)))) (.cons (.bin .mul (.ix (.var 0) (.con (.int 1))) (.ix (.var 1) (.con (.int 1)))) .nil))))
  .nil)
def ir_law_put : Is :=
  (.cons (.asg 3 (.call "_law_plus" (.cons (.get2 (.var 0) (.var 1) (.tup (.cons (.con (.int 0)) (.cons (.con (.int 1)) .nil)))) (.cons (.var 2) .nil))))
  (.cons (.ifs (.cons (.cmp .ne (.ix (.var 3) (.con (.int 0))) (.con (.int 0))) .nil)
  (.cons (.sub (.var 0) (.var 1) (.var 3))
  .nil)
  (.cons (.ifs (.cons (.isin false (.var 1) (.var 0)) .nil)
  (.cons (.ex (.popK (.var 0) (.var 1)))
  .nil)
  .nil)
  .nil))
  .nil))
def ir_law_number : Is :=
  (.cons (.asg 1 (.call "_law_draw" (.cons (.var 0) (.cons (.con (.int 24)) .nil))))
  (.cons (.asg 2 (.bin .sub (.call "_law_draw" (.cons (.var 0) (.cons (.con (.int 13)) .nil))) (.con (.int 6))))
  (.cons (.ifs (.cons (.cmp .lt (.var 1) (.con (.int 16))) .nil)
  (.cons (.ret (.tup (.cons (.var 2) (.cons (.con (.int 1)) .nil))))
  .nil)
  .nil)
  (.cons (.ifs (.cons (.cmp .lt (.var 1) (.con (.int 23))) .nil)
  (.cons (.ret (.call "_law_low" (.cons (.var 2) (.cons (.bin .add (.con (.int 1)) (.call "_law_draw" (.cons (.var 0) (.cons (.con (.int 7)) .nil)))) .nil))))
  .nil)
  .nil)
  (.cons (.asg 3 (.bin .mul (.call "_law_draw" (.cons (.var 0) (.cons (.bin .pow (.con (.int 10)) (.con (.int 12))) .nil))) (.bin .sub (.con (.int 1)) (.bin .mul (.con (.int 2)) (.call "_law_draw" (.cons (.var 0) (.cons (.con (.int 2)) .nil)))))))
  (.cons (.ret (.call "_law_low" (.cons (.var 3) (.cons (.bin .add (.con (.int 1)) (.call "_law_draw" (.cons (.var 0) (.cons (.bin .pow (.con (.int 10)) (.con (.int 4))) .nil)))) .nil))))
  .nil))))))
def ir_law_fraction : Is :=
  (.cons (.ifs (.cons (.cmp .gt (.call "_law_draw" (.cons (.var 0) (.cons (.con (.int 4)) .nil))) (.con (.int 0))) .nil)
  (.cons (.ret (.call "_law_number" (.cons (.var 0) .nil)))
  .nil)
  .nil)
  (.cons (.asg 1 (.bin .add (.bin .mul (.call "_law_draw" (.cons (.var 0) (.cons (.bin .pow (.con (.int 10)) (.con (.int 15))) .nil))) (.bin .pow (.con (.int 10)) (.con (.int 15)))) (.call "_law_draw" (.cons (.var 0) (.cons (.bin .pow (.con (.int 10)) (.con (.int 15))) .nil)))))
  (.cons (.asg 2 (.bin .add (.bin .add (.con (.int 1)) (.bin .mul (.call "_law_draw" (.cons (.var 0) (.cons (.bin .pow (.con (.int 10)) (.con (.int 15))) .nil))) (.bin .pow (.con (.int 10)) (.con (.int 14))))) (.call "_law_draw" (.cons (.var 0) (.cons (.bin .pow (.con (.int 10)) (.con (.int 14))) .nil)))))
  (.cons (.ret (.call "_law_low" (.cons (.bin .mul (.var 1) (.bin .sub (.con (.int 1)) (.bin .mul (.con (.int 2)) (.call "_law_draw" (.cons (.var 0) (.cons (.con (.int 2)) .nil)))))) (.cons (.var 2) .nil))))
  .nil))))
def ir_law_drawn : Is :=
  (.cons (.asg 2 .newT)
  (.cons (.for_ (.nm 3) (.itr (.cons (.call "_law_draw" (.cons (.var 0) (.cons (.con (.int 8)) .nil))) .nil))
  (.cons (.asg 4 (.bin .mul (.lst (.cons (.con (.int 0)) .nil)) (.var 1)))
  (.cons (.for_ (.nm 5) (.itr (.cons (.call "_law_draw" (.cons (.var 0) (.cons (.ix (.lst (.cons (.con (.int 3)) (.cons (.con (.int 4)) (.cons (.con (.int 6)) (.cons (.con (.int 17)) .nil))))) (.call "_law_draw" (.cons (.var 0) (.cons (.con (.int 4)) .nil)))) .nil))) .nil))
  (.cons (.asg 6 (.call "_law_draw" (.cons (.var 0) (.cons (.var 1) .nil))))
  (.cons (.sub (.var 4) (.var 6) (.bin .add (.ix (.var 4) (.var 6)) (.con (.int 1))))
  .nil)))
  (.cons (.ex (.call "_law_put" (.cons (.var 2) (.cons (.bi .tuple (.cons (.var 4) .nil)) (.cons (.call "_law_fraction" (.cons (.var 0) .nil)) .nil)))))
  .nil))))
  (.cons (.ret (.var 2))
  .nil)))
theorem lawLowX (G : Gt) : LowX (specOf G 4 Lib.ir_law_low) := by
  intro S a b Q hb h1 h2 q
  refine fn_ok (a.natAbs + 1) ?_
  show Ok (evS G (a.natAbs + 1) Lib.ir_law_low [some (.int a), some (.int b), none, none] S) _
  have gp : (0 : Int) < (Int.gcd a b : Nat) := Lib.gcd_pos (by omega)
  rw [low_pos hb] at q
  unfold Lib.ir_law_low
  repeat' (walk_at "wp")
  · rename_i c
    omega
  · refine w_whl (Lib.low_loop G (a.natAbs + 1) (.int a) (.int b) (a.natAbs + 1) (a.natAbs) b S (by omega) (by omega) (by omega)) ?_
    have eg : Int.gcd (a.natAbs : Int) b = Int.gcd a b := by
      unfold Int.gcd
      rw [Int.natAbs_natCast]
    rw [eg]
    repeat' (walk_at "wp")
    exact q
theorem lowTermsX (G : Gt) (hc : Lk2.CmOk (G.fn "common_measure")) : LowX (specOf G 3 ir_lowest_terms) := by
  intro S a b Q hb h1 h2 q
  refine fn_ok 0 ?_
  show Ok (evS G 0 ir_lowest_terms [some (.int a), some (.int b), none] S) _
  have gp : (0 : Int) < (Int.gcd a b : Nat) := Lib.gcd_pos (by omega)
  rw [low_pos hb] at q
  unfold ir_lowest_terms
  repeat' (walk_at "wp")
  · rename_i c
    omega
  · refine ok_of (hc _ _ S (by omega) (by omega)) ?_
    have eg : Int.gcd (a.natAbs : Int) b = Int.gcd a b := by
      unfold Int.gcd
      rw [Int.natAbs_natCast]
    rw [eg]
    repeat' (walk_at "wp")
    exact q
/-! ### fractions reckoned, by bounds of value -/
def PairP (x : D) (p : Q2) : Prop := tp? x = some [.int p.1, .int p.2]
theorem PairP.enc (p : Q2) : PairP (Lib.encI p) p := rfl
theorem PairP.cases {x : D} {p : Q2} (h : PairP x p) : x = .tup [.int p.1, .int p.2] ∨ x = .wtup [.int p.1, .int p.2] := by
  unfold PairP at h
  cases x <;> first | (cases h; done) | skip
  · exact .inl (by rw [show _ = _ from Option.some.inj h])
  · exact .inr (by rw [show _ = _ from Option.some.inj h])
def mulQ (p q : Q2) : Q2 := (p.1 * q.1, p.2 * q.2)
def addQ (p q : Q2) : Q2 := (p.1 * q.2 + q.1 * p.2, p.2 * q.2)
theorem _root_.Qd.VB.addq {V F V' F' : Nat} {p q : Q2} (h : VB V F p) (k : VB V' F' q) : VB (V + V') (F * F') (addQ p q) := by
  obtain ⟨h1, h2, h3⟩ := h
  obtain ⟨k1, k2, k3⟩ := k
  refine ⟨Int.mul_pos h1 k1, ?_, ?_⟩
  · show (p.2 * q.2).natAbs ≤ _
    rw [Int.natAbs_mul]
    exact Nat.mul_le_mul h2 k2
  · show (p.1 * q.2 + q.1 * p.2).natAbs ≤ (V + V') * (p.2 * q.2).natAbs
    have := abs_add_le (p.1 * q.2) (q.1 * p.2)
    rw [Int.natAbs_mul, Int.natAbs_mul] at this
    rw [Int.natAbs_mul]
    have m1 := Nat.mul_le_mul_right q.2.natAbs h3
    have m2 := Nat.mul_le_mul_right p.2.natAbs k3
    calc _ ≤ _ := this
      _ ≤ V * p.2.natAbs * q.2.natAbs + V' * q.2.natAbs * p.2.natAbs := Nat.add_le_add m1 m2
      _ = (V + V') * (p.2.natAbs * q.2.natAbs) := by grind
def Fit (V F : Nat) : Prop := V * F < 2 ^ 13500 ∧ F < 2 ^ 13500
theorem _root_.Qd.VB.fit {V F : Nat} {q : Q2} (h : VB V F q) (e : Fit V F) : q.1.natAbs < 2 ^ 13500 ∧ q.2.natAbs < 2 ^ 13500 := h.bit e.1 e.2
theorem mulx {a b : Int} (h1 : a.natAbs < 2 ^ 13500) (h2 : b.natAbs < 2 ^ 13500) : L2.CMulX a b := Lib.mulb (a := 13500) (b := 13500) h1 h2
def AddX (f : List D → M D) : Prop := ∀ (S : Sto) (x y : D) (p q : Q2) (V F V' F' : Nat) (Q : D → Sto → Prop), PairP x p → PairP y q → VB V F p → VB V' F' q → Fit V F → Fit V' F' → Fit (V + V') (F * F') → Q (Lib.encI (Lib.lowF (addQ p q).1 (addQ p q).2)) S → Ok (f [x, y] S) Q
def MulX (f : List D → M D) : Prop := ∀ (S : Sto) (x y : D) (p q : Q2) (V F V' F' : Nat) (Q : D → Sto → Prop), PairP x p → PairP y q → VB V F p → VB V' F' q → Fit V F → Fit V' F' → Fit (V * V') (F * F') → Q (Lib.encI (Lib.lowF (mulQ p q).1 (mulQ p q).2)) S → Ok (f [x, y] S) Q
theorem addX (G : Gt) (hl : LowX (G.fn "lowest_terms")) : AddX (specOf G 2 ir_added) := by
  intro S x y p q V F V' F' Q hx hy hp hq f1 f2 f3 k
  obtain ⟨a1, a2⟩ := hp.fit f1
  obtain ⟨b1, b2⟩ := hq.fit f2
  have hs := hp.addq hq
  obtain ⟨c1, c2⟩ := hs.fit f3
  have m1 := mulx a1 b2
  have m2 := mulx b1 a2
  have m3 := mulx a2 b2
  have h0 := hs.1
  clear a1 a2 b1 b2 hp hq hs f1 f2 f3
  refine fn_ok 0 ?_
  show Ok (evS G 0 ir_added [some x, some y] S) _
  unfold ir_added
  rcases hx.cases with rfl | rfl <;> rcases hy.cases with rfl | rfl
  all_goals
    repeat' (walk_at "wp")
    exact hl S _ _ _ h0 c1 c2 k
theorem mulX (G : Gt) (hl : LowX (G.fn "lowest_terms")) : MulX (specOf G 2 ir_multiplied) := by
  intro S x y p q V F V' F' Q hx hy hp hq f1 f2 f3 k
  obtain ⟨a1, a2⟩ := hp.fit f1
  obtain ⟨b1, b2⟩ := hq.fit f2
  have hs : VB (V * V') (F * F') (mulQ p q) := hp.mul hq
  obtain ⟨c1, c2⟩ := hs.fit f3
  have m1 := mulx a1 b1
  have m3 := mulx a2 b2
  have h0 := hs.1
  clear a1 a2 b1 b2 hp hq hs f1 f2 f3
  refine fn_ok 0 ?_
  show Ok (evS G 0 ir_multiplied [some x, some y] S) _
  unfold ir_multiplied
  rcases hx.cases with rfl | rfl <;> rcases hy.cases with rfl | rfl
  all_goals
    repeat' (walk_at "wp")
    exact hl S _ _ _ h0 c1 c2 k
def PlusX (f : List D → M D) : Prop := ∀ (S : Sto) (p q : Q2) (V F V' F' : Nat) (Q : D → Sto → Prop), VB V F p → VB V' F' q → Fit V F → Fit V' F' → Q (Lib.encI (plusQ p q)) S → Ok (f [Lib.encI p, Lib.encI q] S) Q
theorem div_le {x y : Int} (h : 0 < x) (h0 : 0 < y) : (x / y).natAbs ≤ x.natAbs := by
  have h1 : x / y ≤ x := Int.ediv_le_self _ (by omega)
  have h2 : 0 ≤ x / y := Int.ediv_nonneg (by omega) (by omega)
  omega
theorem plusX (G : Gt) : PlusX (specOf G 3 ir_law_plus) := by
  intro S p q V F V' F' Q hp hq f1 f2 h
  obtain ⟨a1, a2⟩ := hp.fit f1
  obtain ⟨b1, b2⟩ := hq.fit f2
  have a0 := hp.1
  have b0 := hq.1
  obtain ⟨p1, p2⟩ := p
  obtain ⟨q1, q2⟩ := q
  dsimp only at a0 a1 a2 b0 b1 b2
  have c1 : L2.CMulX q1 (p2 / q2) := mulx b1 (Nat.lt_of_le_of_lt (div_le a0 b0) a2)
  have c2 : L2.CMulX p1 (q2 / p2) := mulx a1 (Nat.lt_of_le_of_lt (div_le b0 a0) b2)
  have c3 : L2.CMulX p1 q2 := mulx a1 b2
  have c4 : L2.CMulX q1 p2 := mulx b1 a2
  have c5 : L2.CMulX p2 q2 := mulx a2 b2
  clear a1 b1 hp hq f1 f2
  unfold plusQ at h
  dsimp only at h
  refine fn_ok 0 ?_
  show Ok (evS G 0 ir_law_plus [some (.tup [.int p1, .int p2]), some (.tup [.int q1, .int q2]), none] S) _
  unfold ir_law_plus
  repeat' (walk_at "wp")
  · rename_i c
    rw [if_pos c] at h
    exact h
  · rename_i c c2
    rw [if_neg c, if_pos c2] at h
    exact h
  · rename_i c c2
    rw [if_neg c, if_neg c2] at h
    exact h
def LawMulX (f : List D → M D) : Prop := ∀ (S : Sto) (p q : Q2) (V F V' F' : Nat) (Q : D → Sto → Prop), VB V F p → VB V' F' q → Fit V F → Fit V' F' → Q (Lib.encI (mulQ p q)) S → Ok (f [Lib.encI p, Lib.encI q] S) Q
theorem lawMulX (G : Gt) : LawMulX (specOf G 2 ir_law_mul) := by
  intro S p q V F V' F' Q hp hq f1 f2 h
  obtain ⟨a1, a2⟩ := hp.fit f1
  obtain ⟨b1, b2⟩ := hq.fit f2
  obtain ⟨p1, p2⟩ := p
  obtain ⟨q1, q2⟩ := q
  have c3 : L2.CMulX p1 q1 := mulx a1 b1
  have c5 : L2.CMulX p2 q2 := mulx a2 b2
  clear a1 b1 a2 b2 hp hq f1 f2
  refine fn_ok 0 ?_
  show Ok (evS G 0 ir_law_mul [some (.tup [.int p1, .int p2]), some (.tup [.int q1, .int q2])] S) _
  unfold ir_law_mul
  repeat' (walk_at "wp")
  exact h
end Lk4
set_option exponentiation.threshold 10000
namespace Lk3
open PySem Mp Wp Qd
abbrev Env := Mp.Env
local macro_rules | `(tactic| walk_at "wd") => `(tactic| first
  | assumption | exact lt_of_get (by assumption) | exact lt_of_get (New.at_ (by assumption)) | exact lt_of_get (Wr.at_ (by assumption)) | exact Tp.lt (by assumption)
  | (refine New.lt2 (by assumption) ?_; (walk_at "wd"))
  | (refine Wr.lt2 (by assumption) ?_; (walk_at "wd"))
  | (refine Gr.lt2 (by assumption) ?_; (walk_at "wd")))
local macro_rules | `(tactic| walk_at "wn") => `(tactic| first | assumption | exact Ne.symm (by assumption) | exact New.ne2 (by assumption) (by (walk_at "wd")) | exact Ne.symm (New.ne2 (by assumption) (by (walk_at "wd"))) | omega)
local macro_rules | `(tactic| walk_at "wl") => `(tactic| first
  | assumption | exact New.at_ (by assumption) | exact Wr.at_ (by assumption)
  | (refine New.old (by assumption) _ _ ?_; (walk_at "wl"))
  | (refine Gr.o0 (by assumption) ?_; (walk_at "wl"))
  | (refine Gr.o1 (by assumption) (by (walk_at "wn")) ?_; (walk_at "wl"))
  | (refine Gr.o2 (by assumption) (by (walk_at "wn")) (by (walk_at "wn")) ?_; (walk_at "wl"))
  | (refine Wr.old (by assumption) _ _ (by (walk_at "wn")) ?_; (walk_at "wl")))
local macro_rules | `(tactic| walk_at "ws") => `(tactic| first
  | assumption
  | (refine New.tp (by assumption) ?_; (walk_at "ws"))
  | (refine Gr.tp0 (by assumption) ?_; (walk_at "ws"))
  | (refine Gr.tp1 (by assumption) (by omega) ?_; (walk_at "ws"))
  | (refine Wr.tp (by assumption) (by omega) ?_; (walk_at "ws")))
local macro_rules | `(tactic| walk_at "wz2") => `(tactic| first | assumption | exact le_sz2 (by first | omega | (simp only [List.length_append, List.length_map, List.length_cons, List.length_nil]; omega)))
local macro_rules | `(tactic| walk_at "wz") => `(tactic| first | assumption | exact Lib.le_sz (by first | omega | (simp only [List.length_append, List.length_map, List.length_cons, List.length_nil]; omega)))
local macro_rules | `(tactic| walk_at "wqb") => `(tactic| with_reducible first
  | (apply q_catT; (walk_at "wz")) | (apply q_catL; (walk_at "wl"); (walk_at "wl"); (walk_at "wz"); intro _ _ _)
  | refine q_add ?_ | refine q_sub ?_ | (apply q_mul; first | assumption | exact mulx64 (by omega) (by omega)) | (apply q_mod; first | assumption | omega) | (apply q_fdv; (first | assumption | omega); (first | assumption | omega)) | (apply q_pow; decide))
local macro_rules | `(tactic| walk_at "wqc") => `(tactic| with_reducible first
  | refine q_eqi ?_ | refine q_nei ?_ | refine q_lti ?_ | refine q_gti ?_ | refine q_lei ?_ | refine q_gei ?_ | refine q_is ?_ | refine q_isnot ?_)
local macro_rules | `(tactic| walk_at "wqf") => `(tactic| with_reducible first
  | refine q_lenT ?_ | (apply q_lenL; (walk_at "wl")) | refine q_abs ?_ | (apply q_tupL; (walk_at "wl")) | refine q_listT (fun _ _ _ => ?_) | (apply q_str; assumption))
local macro_rules | `(tactic| walk_at "wqx") => `(tactic| with_reducible first
  | refine q_ixt rfl ?_ | refine q_ixw rfl ?_ | (apply q_ixl; (walk_at "wl"); exact rfl))
local macro_rules | `(tactic| walk_at "wpE") => `(tactic| with_reducible first
  | refine w_var rfl ?_ | refine w_con ?_ | refine w_call ?_ | refine w_ix ?_ | refine w_bin ?_ | refine w_cmp ?_ | refine w_bi ?_
  | refine w_isi ?_ | refine w_tup ?_ | refine w_lst ?_ | refine w_newT (fun _ _ _ => ?_) | refine w_chn ?_ | refine w_andV ?_ | refine w_orV ?_ | refine w_notV ?_ | refine w_neg ?_ | refine w_ife ?_
  | refine w_sl ?_ | refine w_rev ?_ | refine w_isinF ?_ | refine w_isinT ?_ | refine w_app ?_ | refine w_get2 ?_ | refine w_popK ?_ | refine w_comp ?_ | refine w_glob rfl ?_
  | (dsimp only [List.set]; refine w_var rfl ?_))
local macro_rules | `(tactic| walk_at "wpS") => `(tactic| first
  | with_reducible first
    | refine w_asg ?_ | refine w_ret ?_ | refine w_ex ?_ | refine w_nil ?_ | refine w_app1 ?_ | refine w_app0 ?_ | refine w_par ?_ | refine w_sub ?_ | refine w_unp ?_ | refine w_for ?_ | refine w_retN ?_
  | ((with_reducible refine w_if' ?_ ?_ ?_); exact rfl; exact rfl))
local macro_rules | `(tactic| walk_at "wp") => `(tactic| first
  | ((with_reducible refine gE ?_); (walk_at "wpE"))
  | ((with_reducible refine gA ?_); with_reducible first | refine w_acons ?_ | refine w_anil ?_)
  | ((with_reducible refine gS ?_); (walk_at "wpS"))
  | ((with_reducible refine gT ?_); with_reducible first | refine w_tof ?_ | refine w_tand ?_ | refine w_tor ?_ | refine w_tnot ?_ | refine w_yes ?_)
  | ((with_reducible refine gB ?_); (walk_at "wqb"))
  | ((with_reducible refine gC ?_); (walk_at "wqc"))
  | ((with_reducible refine gX ?_); (walk_at "wqx"))
  | ((with_reducible refine gF ?_); (walk_at "wqf"))
  | with_reducible first
    | refine q_truthb ?_ | refine fl_rt ?_ | refine fl_nx ?_ | refine ex_bl ?_ | refine ex_int ?_ | (refine and_le ?_ ?_; exact Lib.le_sz (by simp))
    | refine splitNt ?_ | refine splitNf ?_ | refine splitT ?_ | refine splitF ?_ | refine splitD (fun _ => ?_) (fun _ => ?_) | refine splitND (fun _ => ?_) (fun _ => ?_)
    | refine w_onil ?_ | refine w_ocons ?_ | refine w_itv ?_ | refine w_itr ?_ | refine ok_quiet ?_
    | refine q_slT ?_ | refine q_rev ?_ | refine q_iterT ?_ | (apply q_iterL; (walk_at "wl")) | (apply q_rng1; omega) | (apply q_rng2; omega; omega)
    | (apply q_isDic; (walk_at "wl")) | (apply q_isDcu; (walk_at "wl")) | refine q_truthi ?_
    | (apply ex_app; (walk_at "wl")) | (apply ex_app2; (walk_at "wl"); (walk_at "wz2"); intro _ _)
    | refine splitN (fun _ => ?_) (fun _ => ?_)
  | ((with_reducible apply ex_put); exact rfl)
  | intro _)
def ir_law_plus : Is :=
  (.cons (.ifs (.cons (.cmp .eq (.bin .mod (.ix (.var 0) (.con (.int 1))) (.ix (.var 1) (.con (.int 1)))) (.con (.int 0))) .nil)
  (.cons (.ret (.tup (.cons (.bin .add (.ix (.var 0) (.con (.int 0))) (.bin .mul (.ix (.var 1) (.con (.int 0))) (.bin .fdv (.ix (.var 0) (.con (.int 1))) (.ix (.var 1) (.con (.int 1)))))) (.cons (.ix (.var 0) (.con (.int 1))) .nil))))
  .nil)
  .nil)
  (.cons (.ifs (.cons (.cmp .eq (.bin .mod (.ix (.var 1) (.con (.int 1))) (.ix (.var 0) (.con (.int 1)))) (.con (.int 0))) .nil)
  (.cons (.ret (.tup (.cons (.bin .add (.ix (.var 1) (.con (.int 0))) (.bin .mul (.ix (.var 0) (.con (.int 0))) (.bin .fdv (.ix (.var 1) (.con (.int 1))) (.ix (.var 0) (.con (.int 1)))))) (.cons (.ix (.var 1) (.con (.int 1))) .nil))))
  .nil)
  .nil)
  (.cons (.asg 2 (.bin .add (.bin .mul (.ix (.var 0) (.con (.int 0))) (.ix (.var 1) (.con (.int 1)))) (.bin .mul (.ix (.var 1) (.con (.int 0))) (.ix (.var 0) (.con (.int 1))))))
  (.cons (.ret (.tup (.cons (.var 2) (.cons (.bin .mul (.ix (.var 0) (.con (.int 1))) (.ix (.var 1) (.con (.int 1)))) .nil))))
  .nil))))
def ir_law_put : Is :=
  (.cons (.asg 3 (.call "_law_plus" (.cons (.get2 (.var 0) (.var 1) (.tup (.cons (.con (.int 0)) (.cons (.con (.int 1)) .nil)))) (.cons (.var 2) .nil))))
  (.cons (.ifs (.cons (.cmp .ne (.ix (.var 3) (.con (.int 0))) (.con (.int 0))) .nil)
  (.cons (.sub (.var 0) (.var 1) (.var 3))
  .nil)
  (.cons (.ifs (.cons (.isin false (.var 1) (.var 0)) .nil)
  (.cons (.ex (.popK (.var 0) (.var 1)))
  .nil)
  .nil)
  .nil))
  .nil))
def ir_law_number : Is :=
  (.cons (.asg 1 (.call "_law_draw" (.cons (.var 0) (.cons (.con (.int 24)) .nil))))
  (.cons (.asg 2 (.bin .sub (.call "_law_draw" (.cons (.var 0) (.cons (.con (.int 13)) .nil))) (.con (.int 6))))
  (.cons (.ifs (.cons (.cmp .lt (.var 1) (.con (.int 16))) .nil)
  (.cons (.ret (.tup (.cons (.var 2) (.cons (.con (.int 1)) .nil))))
  .nil)
  .nil)
  (.cons (.ifs (.cons (.cmp .lt (.var 1) (.con (.int 23))) .nil)
  (.cons (.ret (.call "_law_low" (.cons (.var 2) (.cons (.bin .add (.con (.int 1)) (.call "_law_draw" (.cons (.var 0) (.cons (.con (.int 7)) .nil)))) .nil))))
  .nil)
  .nil)
  (.cons (.asg 3 (.bin .mul (.call "_law_draw" (.cons (.var 0) (.cons (.bin .pow (.con (.int 10)) (.con (.int 12))) .nil))) (.bin .sub (.con (.int 1)) (.bin .mul (.con (.int 2)) (.call "_law_draw" (.cons (.var 0) (.cons (.con (.int 2)) .nil)))))))
  (.cons (.ret (.call "_law_low" (.cons (.var 3) (.cons (.bin .add (.con (.int 1)) (.call "_law_draw" (.cons (.var 0) (.cons (.bin .pow (.con (.int 10)) (.con (.int 4))) .nil)))) .nil))))
  .nil))))))
def ir_law_fraction : Is :=
  (.cons (.ifs (.cons (.cmp .gt (.call "_law_draw" (.cons (.var 0) (.cons (.con (.int 4)) .nil))) (.con (.int 0))) .nil)
  (.cons (.ret (.call "_law_number" (.cons (.var 0) .nil)))
  .nil)
  .nil)
  (.cons (.asg 1 (.bin .add (.bin .mul (.call "_law_draw" (.cons (.var 0) (.cons (.bin .pow (.con (.int 10)) (.con (.int 15))) .nil))) (.bin .pow (.con (.int 10)) (.con (.int 15)))) (.call "_law_draw" (.cons (.var 0) (.cons (.bin .pow (.con (.int 10)) (.con (.int 15))) .nil)))))
  (.cons (.asg 2 (.bin .add (.bin .add (.con (.int 1)) (.bin .mul (.call "_law_draw" (.cons (.var 0) (.cons (.bin .pow (.con (.int 10)) (.con (.int 15))) .nil))) (.bin .pow (.con (.int 10)) (.con (.int 14))))) (.call "_law_draw" (.cons (.var 0) (.cons (.bin .pow (.con (.int 10)) (.con (.int 14))) .nil)))))
  (.cons (.ret (.call "_law_low" (.cons (.bin .mul (.var 1) (.bin .sub (.con (.int 1)) (.bin .mul (.con (.int 2)) (.call "_law_draw" (.cons (.var 0) (.cons (.con (.int 2)) .nil)))))) (.cons (.var 2) .nil))))
  .nil))))
def ir_law_sum : Is :=
  (.cons (.asg 2 (.lst .nil))
  (.cons (.for_ (.nm 3) (.itv (.bi .sorted (.cons (.var 1) .nil)))
  (.cons (.ifs (.cons (.cmp .ne (.ix (.ix (.var 1) (.var 3)) (.con (.int 0))) (.con (.int 0))) .nil)
  (.cons (.asg 4 (.call "_law_low" (.cons (.ix (.ix (.var 1) (.var 3)) (.con (.int 0))) (.cons (.ix (.ix (.var 1) (.var 3)) (.con (.int 1))) .nil))))
  (.cons (.ex (.app (.var 2) (.tup (.cons (.var 3) (.cons (.var 4) .nil)))))
  .nil))
  .nil)
  .nil))
  (.cons (.ret (.tup (.cons (.var 0) (.cons (.bi .tuple (.cons (.var 2) .nil)) .nil))))
  .nil)))
def PlusW (f : List D → M D) : Prop := ∀ (S : Sto) (p q : Q2) (Q : D → Sto → Prop), GQ 3900 p → GQ 3900 q → Q (Lib.encI (plusQ p q)) S → Ok (f [Lib.encI p, Lib.encI q] S) Q
theorem big8 {b : Nat} {x : Int} (h : x.natAbs < 2 ^ b) (e : b ≤ 8000 := by decide) : x.natAbs < 2 ^ 8000 := le_pow h e
theorem plusW (G : Gt) : PlusW (specOf G 3 ir_law_plus) := by
  intro S p q Q hp hq h
  obtain ⟨p1, p2⟩ := p
  obtain ⟨q1, q2⟩ := q
  obtain ⟨a0, a1, a2⟩ := hp
  obtain ⟨b0, b1, b2⟩ := hq
  dsimp only at a0 a1 a2 b0 b1 b2
  have c1 : L2.CMulX q1 (p2 / q2) := Lib.mulb (a := 3900) (b := 3900) b1 (div_lt a0 b0 a2)
  have c2 : L2.CMulX p1 (q2 / p2) := Lib.mulb (a := 3900) (b := 3900) a1 (div_lt b0 a0 b2)
  have c3 : L2.CMulX p1 q2 := Lib.mulb (a := 3900) (b := 3900) a1 b2
  have c4 : L2.CMulX q1 p2 := Lib.mulb (a := 3900) (b := 3900) b1 a2
  have c5 : L2.CMulX p2 q2 := Lib.mulb (a := 3900) (b := 3900) a2 b2
  have d1 := big8 a2
  have d2 := big8 b2
  clear a1 a2 b1 b2
  unfold plusQ at h
  dsimp only at h
  refine fn_ok 0 ?_
  show Ok (evS G 0 ir_law_plus [some (.tup [.int p1, .int p2]), some (.tup [.int q1, .int q2]), none] S) _
  unfold ir_law_plus
  repeat' (walk_at "wp")
  · rename_i c
    rw [if_pos c] at h
    exact h
  · rename_i c c2
    rw [if_neg c, if_pos c2] at h
    exact h
  · rename_i c c2
    rw [if_neg c, if_neg c2] at h
    exact h
def PutW (f : List D → M D) : Prop := ∀ (S : Sto) (n : Nat) (m : DQ) (ns : List Int) (q : Q2) (Q : D → Sto → Prop), S[n]? = some (.dT (encM Lib.encI m)) → GQ 3900 q → (∀ p ∈ m, GQ 3900 p.2) → m.length < sz →
  (∀ S', Wr S S' n (.dT (encM Lib.encI (putQ m ns q))) → Q .non S') → Ok (f [.loc n, tupI ns, Lib.encI q] S) Q
theorem ok_put {P : Q2 → Prop} {e : D} (p : Q2) (h : P p) : ∃ p, P p := ⟨p, h⟩
theorem same_wr {S : Sto} {n : Nat} {o : Ob} (h : S[n]? = some o) : Wr S S n o := ⟨rfl, h, fun _ _ _ e => e⟩
theorem good01 : GQ 3900 ((0, 1) : Q2) := ⟨by decide, Nat.pow_pos (by decide), Nat.one_lt_two_pow (by decide)⟩
theorem getD_enc (m : DQ) (ns : List Int) : ((lk m ns).map Lib.encI).getD (.tup [.int 0, .int 1]) = Lib.encI ((lk m ns).getD (0, 1)) := by
  cases lk m ns <;> rfl
theorem lk_good {m : DQ} {ns : List Int} {b : Nat} (h : ∀ p ∈ m, GQ b p.2) (h0 : GQ b ((0, 1) : Q2)) : GQ b ((lk m ns).getD (0, 1)) := by
  cases e : lk m ns with
  | none => exact h0
  | some q => exact h _ (lk_mem e)
theorem putW (G : Gt) (hp : PlusW (G.fn "_law_plus")) : PutW (specOf G 4 ir_law_put) := by
  intro S n m ns q Q hn hq hm hl k
  refine fn_ok 0 ?_
  show Ok (evS G 0 ir_law_put [some (.loc n), some (tupI ns), some (Lib.encI q), none] S) _
  unfold ir_law_put
  repeat' (walk_at "wp")
  refine q_getT hn (keyT_tupI ns) ?_
  rw [getK_enc, getD_enc]
  repeat' (walk_at "wp")
  refine hp S _ q _ (lk_good hm good01) hq ?_
  unfold putQ at k
  generalize plusQ ((lk m ns).getD (0, 1)) q = z at k ⊢
  obtain ⟨z1, z2⟩ := z
  dsimp only [Lib.encI] at k ⊢
  repeat' (walk_at "wp")
  · rename_i c
    rw [if_pos c] at k
    refine q_putT hn (keyT_tupI ns) (by rw [encM_len]; exact hl) ?_
    intro S' w
    rw [show D.tup [.int z1, .int z2] = Lib.encI (z1, z2) from rfl, setK_enc] at w
    repeat' (walk_at "wp")
    exact k _ w
  · rename_i c
    rw [if_neg (by simpa using c)] at k
    refine q_inT hn (keyT_tupI ns) ?_
    rw [getK_enc]
    cases e : lk m ns with
    | none =>
      rw [e] at k
      repeat' (walk_at "wp")
      refine splitF ?_
      repeat' (walk_at "wp")
      exact k _ (same_wr hn)
    | some v =>
      rw [e] at k
      repeat' (walk_at "wp")
      refine splitT ?_
      repeat' (walk_at "wp")
      refine q_popT (v := Lib.encI v) hn (keyT_tupI ns) (by rw [getK_enc, e]; rfl) fun S' w => ?_
      rw [delK_enc] at w
      repeat' (walk_at "wp")
      exact k _ w
def SumW (f : List D → M D) : Prop := ∀ (S : Sto) (n : Nat) (m : DQ) (many : Int) (Q : D → Sto → Prop), S[n]? = some (.dT (encM Lib.encI m)) → (∀ p ∈ m, p.1 ≠ []) → (∀ p ∈ m, GQ 7000 p.2) → m.length ≤ 10000 →
  (∀ S', Gr [] S S' → Q (encS many (sumQ m)) S') → Ok (f [.int many, .loc n] S) Q
theorem take_fm {α β : Type} (f : α → Option β) (l : List α) (j : Nat) (x : α) (h : l[j]? = some x) : (l.take (j + 1)).filterMap f = (l.take j).filterMap f ++ (f x).toList := by
  rw [List.take_add_one, h, List.filterMap_append]
  congr 1
theorem sumW (G : Gt) (hl : LowW (G.fn "_law_low")) : SumW (specOf G 5 ir_law_sum) := by
  intro S n m many Q hn hk hm hlen k
  refine fn_ok 0 ?_
  show Ok (evS G 0 ir_law_sum [some (.int many), some (.loc n), none, none, none] S) _
  unfold ir_law_sum
  repeat' (walk_at "wp")
  rename_i l S1 w1
  refine q_sorted (by (walk_at "wl")) (keysI_enc _ m hk) fun c S2 w2 => ?_
  repeat' (walk_at "wp")
  generalize hks : srtL (m.map (·.1)) = ks at w2 ⊢
  have hin : ∀ ns ∈ ks, ∃ q, lk m ns = some q := fun ns h => by
    rw [← hks] at h
    have h2 := (srtL_perm (m.map (·.1))).mem_iff.mp h
    cases e : lk m ns with
    | none => exact (lk_none e h2).elim
    | some q => exact ⟨q, rfl⟩
  have hle : ks.length ≤ 10000 := by rw [← hks, (srtL_perm _).length_eq, List.length_map]; exact hlen
  have lc : c ≠ n := by (walk_at "wn")
  have l1 : S2[l]? = some (.lst []) := by (walk_at "wl")
  have n1 : S2[n]? = some (.dT (encM Lib.encI m)) := by (walk_at "wl")
  have g1 : Gr [] S S2 := w1.gr.trans w2.gr
  have hnl : n ≠ l := by (walk_at "wn")
  have hcl : l ≠ c := by (walk_at "wn")
  have c1 := w2.at_
  have hSl : S.length ≤ l := by rw [w1.pl]; exact Nat.le_refl _
  clear w1 w2
  refine w_forN (fun j δ S' => ∃ x3 x4, δ = [some (.int many), some (.loc n), some (.loc l), x3, x4] ∧ S'[n]? = some (.dT (encM Lib.encI m)) ∧ S'[c]? = some (.lst (ks.map tupI)) ∧ S'[l]? = some (.lst (((ks.take j).filterMap (termQ m)).map encTm)) ∧ Gr [] S S')
    ⟨none, none, rfl, n1, c1, l1, g1⟩ (fun j δ S' h => ?_) (fun j d δ S' hd h => ?_) (fun δ S' h => ?_)
  · obtain ⟨_, _, _, _, h, _⟩ := h
    exact okC_one h
  · obtain ⟨x3, x4, rfl, h1, h2, h3, h4⟩ := h
    rw [List.getElem?_map] at hd
    cases e : ks[j]? with
    | none => rw [e] at hd; cases hd
    | some ns =>
      rw [e] at hd
      cases hd
      obtain ⟨q, hq⟩ := hin ns (List.mem_of_getElem? e)
      have hq2 := hm _ (lk_mem hq)
      have ht := take_fm (termQ m) ks j ns e
      have hg : getK (encM Lib.encI m) (kOf ns) = some (Lib.encI q) := by rw [getK_enc, hq]; rfl
      have hlt : (((ks.take j).filterMap (termQ m)).map encTm).length < sz := le_sz2 (by
        rw [List.length_map]
        have := List.length_filterMap_le (termQ m) (ks.take j)
        have := List.length_take_le j ks
        have := List.length_take (i := j) (l := ks)
        omega)
      refine ⟨_, rfl, ?_⟩
      obtain ⟨q1, q2⟩ := q
      repeat' (walk_at "wp")
      refine q_ixT h1 (keyT_tupI ns) hg ?_
      dsimp only [Lib.encI]
      repeat' (walk_at "wp")
      · rename_i c0
        refine q_ixT h1 (keyT_tupI ns) hg ?_
        dsimp only [Lib.encI]
        repeat' (walk_at "wp")
        refine q_ixT h1 (keyT_tupI ns) hg ?_
        dsimp only [Lib.encI]
        repeat' (walk_at "wp")
        refine hl S' q1 q2 _ (by have h0 : 0 < q2 := hq2.1; omega) (big8 hq2.2.2) ?_
        repeat' (walk_at "wp")
        rename_i S3 w
        have et : termQ m ns = some (ns, Lib.lowF q1 q2) := by
          unfold termQ
          rw [hq]
          dsimp only
          rw [if_pos c0]
        refine ⟨some (tupI ns), some (Lib.encI (Lib.lowF q1 q2)), rfl, w.old _ _ hnl h1, w.old _ _ (Ne.symm hcl) h2, ?_, h4.wr w hSl⟩
        rw [ht, et, List.map_append]
        exact w.at_
      · rename_i c0
        have et : termQ m ns = none := by
          unfold termQ
          rw [hq]
          dsimp only
          rw [if_neg (by simpa using c0)]
        refine ⟨some (tupI ns), x4, rfl, h1, h2, ?_, h4⟩
        rw [ht, et, List.map_append]
        simpa using h3
  · obtain ⟨x3, x4, rfl, h1, h2, h3, h4⟩ := h
    repeat' (walk_at "wp")
    have k := k S' h4
    unfold sumQ encS at k
    rw [hks] at k
    rw [List.length_map, List.take_length]
    exact k
/-- a fraction drawn: good, lowest -/
def FrW (f : List D → M D) (n m : Int) : Prop := ∀ (S : Sto) (t : Nat) (k : Int) (Q : D → Sto → Prop), Tp S t k → k < m → (∀ p S', GQ 150 p → Int.gcd p.1 p.2 = 1 → Tp S' t (k + n) → Gr [t] S S' → Q (Lib.encI p) S') → Ok (f [.loc t] S) Q
theorem low150 {a b : Int} {x : Nat} (ha : a.natAbs < 2 ^ 149) (hb : 0 < b) (hb2 : b.natAbs < 2 ^ 149) : GQ 150 (Lib.lowF a b) ∧ Int.gcd (Lib.lowF a b).1 (Lib.lowF a b).2 = 1 := lowF_good (b := 149) (q := (a, b)) ⟨hb, ha, hb2⟩
theorem numberW (G : Gt) (hd : DrawW (G.fn "_law_draw")) (hl : LowW (G.fn "_law_low")) : FrW (specOf G 4 ir_law_number) 5 850000000 := by
  intro S t k Q h hk q
  refine fn_ok 0 ?_
  show Ok (evS G 0 ir_law_number [some (.loc t), none, none, none] S) _
  unfold ir_law_number
  repeat' (walk_at "wp")
  refine hd S t k 24 _ h (by omega) (by omega) (by omega) fun r1 S1 a1 b1 s1 g1 => ?_
  repeat' (walk_at "wp")
  refine hd S1 t _ 13 _ s1 (by omega) (by omega) (by omega) fun r2 S2 a2 b2 s2 g2 => ?_
  repeat' (walk_at "wp")
  · refine q (r2 - 6, 1) S2 ⟨(show (0 : Int) < 1 by decide), ?_, Nat.one_lt_two_pow (by decide)⟩ (by simp) (s2.le (by omega)) (g1.trans g2)
    have : (r2 - 6).natAbs < 2 ^ 10 := by omega
    exact le_pow this (by omega)
  · refine hd S2 t _ 7 _ s2 (by omega) (by omega) (by omega) fun r3 S3 a3 b3 s3 g3 => ?_
    repeat' (walk_at "wp")
    have c1 : (r2 - 6).natAbs < 2 ^ 10 := by omega
    have c2 : (1 + r3).natAbs < 2 ^ 10 := by omega
    refine hl S3 _ _ _ (by omega) (big8 c2) ?_
    obtain ⟨l1, l2⟩ := low150 (x := 0) (le_pow c1 (by omega)) (show 0 < 1 + r3 by omega) (le_pow c2 (by omega))
    exact q _ S3 l1 l2 (s3.le (by omega)) ((g1.trans g2).trans g3)
  · rw [show ((10 : Int) ^ (12 : Int).toNat) = 1000000000000 by decide]
    refine hd S2 t _ 1000000000000 _ s2 (by omega) (by omega) (by omega) fun r3 S3 a3 b3 s3 g3 => ?_
    repeat' (walk_at "wp")
    refine hd S3 t _ 2 _ s3 (by omega) (by omega) (by omega) fun r4 S4 a4 b4 s4 g4 => ?_
    repeat' (walk_at "wp")
    rw [show ((10 : Int) ^ (4 : Int).toNat) = 10000 by decide]
    refine hd S4 t _ 10000 _ s4 (by omega) (by omega) (by omega) fun r5 S5 a5 b5 s5 g5 => ?_
    repeat' (walk_at "wp")
    have c1 : (r3 * (1 - 2 * r4)).natAbs < 2 ^ 100 := by
      rw [Int.natAbs_mul]
      calc r3.natAbs * (1 - 2 * r4).natAbs ≤ 2 ^ 60 * 2 := Nat.mul_le_mul (by omega) (by omega)
        _ < 2 ^ 100 := by decide
    have c2 : (1 + r5).natAbs < 2 ^ 100 := by omega
    refine hl S5 _ _ _ (by omega) (big8 c2) ?_
    obtain ⟨l1, l2⟩ := low150 (x := 0) (le_pow c1 (by omega)) (show 0 < 1 + r5 by omega) (le_pow c2 (by omega))
    exact q _ S5 l1 l2 (s5.le (by omega)) ((((g1.trans g2).trans g3).trans g4).trans g5)
theorem fractionW (G : Gt) (hd : DrawW (G.fn "_law_draw")) (hl : LowW (G.fn "_law_low")) (hn : FrW (G.fn "_law_number") 5 850000000) : FrW (specOf G 3 ir_law_fraction) 6 800000000 := by
  intro S t k Q h hk q
  refine fn_ok 0 ?_
  show Ok (evS G 0 ir_law_fraction [some (.loc t), none, none] S) _
  unfold ir_law_fraction
  repeat' (walk_at "wp")
  refine hd S t k 4 _ h (by omega) (by omega) (by omega) fun r1 S1 a1 b1 s1 g1 => ?_
  repeat' (walk_at "wp")
  · refine hn S1 t _ _ s1 (by omega) fun p S2 l1 l2 s2 g2 => ?_
    exact q _ S2 l1 l2 (s2.le (by omega)) (g1.trans g2)
  · rw [show ((10 : Int) ^ (15 : Int).toNat) = 1000000000000000 by decide]
    refine hd S1 t _ 1000000000000000 _ s1 (by omega) (by omega) (by omega) fun r2 S2 a2 b2 s2 g2 => ?_
    repeat' (walk_at "wp")
    rw [show ((10 : Int) ^ (15 : Int).toNat) = 1000000000000000 by decide]
    repeat' (walk_at "wp")
    refine hd S2 t _ 1000000000000000 _ s2 (by omega) (by omega) (by omega) fun r3 S3 a3 b3 s3 g3 => ?_
    repeat' (walk_at "wp")
    refine hd S3 t _ 1000000000000000 _ s3 (by omega) (by omega) (by omega) fun r4 S4 a4 b4 s4 g4 => ?_
    repeat' (walk_at "wp")
    rw [show ((10 : Int) ^ (14 : Int).toNat) = 100000000000000 by decide]
    repeat' (walk_at "wp")
    refine hd S4 t _ 100000000000000 _ s4 (by omega) (by omega) (by omega) fun r5 S5 a5 b5 s5 g5 => ?_
    repeat' (walk_at "wp")
    refine hd S5 t _ 2 _ s5 (by omega) (by omega) (by omega) fun r6 S6 a6 b6 s6 g6 => ?_
    repeat' (walk_at "wp")
    have b1' : (r2 * 1000000000000000 + r3).natAbs < 2 ^ 110 := by omega
    refine q_mul (Lib.mulb (a := 110) (b := 64) b1' (by omega)) ?_
    repeat' (walk_at "wp")
    have c1 : ((r2 * 1000000000000000 + r3) * (1 - 2 * r6)).natAbs < 2 ^ 120 := by
      rw [Int.natAbs_mul]
      calc (r2 * 1000000000000000 + r3).natAbs * (1 - 2 * r6).natAbs ≤ 2 ^ 110 * 2 := Nat.mul_le_mul (by omega) (by omega)
        _ < 2 ^ 120 := by decide
    have c2 : (1 + r4 * 100000000000000 + r5).natAbs < 2 ^ 120 := by omega
    refine hl S6 _ _ _ (by omega) (big8 c2) ?_
    obtain ⟨l1, l2⟩ := low150 (x := 0) (le_pow c1 (by omega)) (show 0 < 1 + r4 * 100000000000000 + r5 by omega) (le_pow c2 (by omega))
    exact q _ S6 l1 l2 (s6.le (by omega)) (((((g1.trans g2).trans g3).trans g4).trans g5).trans g6)
end Lk3
set_option exponentiation.threshold 20000
namespace Lk4
open PySem Mp Wp Qd
local macro_rules | `(tactic| walk_at "wd") => `(tactic| first
  | assumption | exact lt_of_get (by assumption) | exact lt_of_get (New.at_ (by assumption)) | exact lt_of_get (Wr.at_ (by assumption)) | exact Tp.lt (by assumption)
  | (refine New.lt2 (by assumption) ?_; (walk_at "wd"))
  | (refine Wr.lt2 (by assumption) ?_; (walk_at "wd"))
  | (refine Gr.lt2 (by assumption) ?_; (walk_at "wd")))
local macro_rules | `(tactic| walk_at "wn") => `(tactic| first | assumption | exact Ne.symm (by assumption) | exact New.ne2 (by assumption) (by (walk_at "wd")) | exact Ne.symm (New.ne2 (by assumption) (by (walk_at "wd"))) | omega)
local macro_rules | `(tactic| walk_at "wl") => `(tactic| first
  | assumption | exact New.at_ (by assumption) | exact Wr.at_ (by assumption)
  | (refine New.old (by assumption) _ _ ?_; (walk_at "wl"))
  | (refine Gr.o0 (by assumption) ?_; (walk_at "wl"))
  | (refine Gr.o1 (by assumption) (by (walk_at "wn")) ?_; (walk_at "wl"))
  | (refine Gr.o2 (by assumption) (by (walk_at "wn")) (by (walk_at "wn")) ?_; (walk_at "wl"))
  | (refine Wr.old (by assumption) _ _ (by (walk_at "wn")) ?_; (walk_at "wl")))
local macro_rules | `(tactic| walk_at "ws") => `(tactic| first
  | assumption
  | (refine New.tp (by assumption) ?_; (walk_at "ws"))
  | (refine Gr.tp0 (by assumption) ?_; (walk_at "ws"))
  | (refine Gr.tp1 (by assumption) (by omega) ?_; (walk_at "ws"))
  | (refine Wr.tp (by assumption) (by omega) ?_; (walk_at "ws")))
local macro_rules | `(tactic| walk_at "wz2") => `(tactic| first | assumption | exact le_sz2 (by first | omega | (simp only [List.length_append, List.length_map, List.length_cons, List.length_nil]; omega)))
local macro_rules | `(tactic| walk_at "wz") => `(tactic| first | assumption | exact Lib.le_sz (by first | omega | (simp only [List.length_append, List.length_map, List.length_cons, List.length_nil]; omega)))
local macro_rules | `(tactic| walk_at "wqb") => `(tactic| with_reducible first
  | (apply q_catT; (walk_at "wz")) | (apply q_catL; (walk_at "wl"); (walk_at "wl"); (walk_at "wz"); intro _ _ _)
  | refine q_add ?_ | refine q_sub ?_ | (apply q_mul; first | assumption | exact mulx64 (by omega) (by omega)) | (apply q_mod; first | assumption | omega) | (apply q_fdvx; (first | assumption | omega); assumption) | (apply q_pow; decide))
local macro_rules | `(tactic| walk_at "wqc") => `(tactic| with_reducible first
  | refine q_eqi ?_ | refine q_nei ?_ | refine q_lti ?_ | refine q_gti ?_ | refine q_lei ?_ | refine q_gei ?_ | refine q_is ?_ | refine q_isnot ?_)
local macro_rules | `(tactic| walk_at "wqf") => `(tactic| with_reducible first
  | refine q_lenT ?_ | (apply q_lenL; (walk_at "wl")) | refine q_abs ?_ | (apply q_tupL; (walk_at "wl")) | refine q_listT (fun _ _ _ => ?_) | (apply q_str; assumption))
local macro_rules | `(tactic| walk_at "wqx") => `(tactic| with_reducible first
  | refine q_ixt rfl ?_ | refine q_ixw rfl ?_ | (apply q_ixl; (walk_at "wl"); exact rfl))
local macro_rules | `(tactic| walk_at "wpE") => `(tactic| with_reducible first
  | refine w_var rfl ?_ | refine w_con ?_ | refine w_call ?_ | refine w_ix ?_ | refine w_bin ?_ | refine w_cmp ?_ | refine w_bi ?_
  | refine w_isi ?_ | refine w_tup ?_ | refine w_lst ?_ | refine w_newT (fun _ _ _ => ?_) | refine w_chn ?_ | refine w_andV ?_ | refine w_orV ?_ | refine w_notV ?_ | refine w_neg ?_ | refine w_ife ?_
  | refine w_sl ?_ | refine w_rev ?_ | refine w_isinF ?_ | refine w_isinT ?_ | refine w_app ?_ | refine w_get2 ?_ | refine w_popK ?_ | refine w_comp ?_ | refine w_glob rfl ?_
  | (dsimp only [List.set]; refine w_var rfl ?_))
local macro_rules | `(tactic| walk_at "wpS") => `(tactic| first
  | with_reducible first
    | refine w_asg ?_ | refine w_ret ?_ | refine w_ex ?_ | refine w_nil ?_ | refine w_app1 ?_ | refine w_app0 ?_ | refine w_par ?_ | refine w_sub ?_ | refine w_unp ?_ | refine w_for ?_ | refine w_retN ?_
  | ((with_reducible refine w_if' ?_ ?_ ?_); exact rfl; exact rfl))
local macro_rules | `(tactic| walk_at "wp") => `(tactic| first
  | ((with_reducible refine gE ?_); (walk_at "wpE"))
  | ((with_reducible refine gA ?_); with_reducible first | refine w_acons ?_ | refine w_anil ?_)
  | ((with_reducible refine gS ?_); (walk_at "wpS"))
  | ((with_reducible refine gT ?_); with_reducible first | refine w_tof ?_ | refine w_tand ?_ | refine w_tor ?_ | refine w_tnot ?_ | refine w_yes ?_)
  | ((with_reducible refine gB ?_); (walk_at "wqb"))
  | ((with_reducible refine gC ?_); (walk_at "wqc"))
  | ((with_reducible refine gX ?_); (walk_at "wqx"))
  | ((with_reducible refine gF ?_); (walk_at "wqf"))
  | with_reducible first
    | refine q_truthb ?_ | refine fl_rt ?_ | refine fl_nx ?_ | refine ex_bl ?_ | refine ex_int ?_ | (refine and_le ?_ ?_; exact Lib.le_sz (by simp))
    | refine splitNt ?_ | refine splitNf ?_ | refine splitT ?_ | refine splitF ?_ | refine splitD (fun _ => ?_) (fun _ => ?_) | refine splitND (fun _ => ?_) (fun _ => ?_)
    | refine w_onil ?_ | refine w_ocons ?_ | refine w_itv ?_ | refine w_itr ?_ | refine ok_quiet ?_
    | refine q_slT ?_ | refine q_rev ?_ | refine q_iterT ?_ | (apply q_iterL; (walk_at "wl")) | (apply q_rng1; omega) | (apply q_rng2; omega; omega)
    | (apply q_isDic; (walk_at "wl")) | (apply q_isDcu; (walk_at "wl")) | refine q_truthi ?_
    | (apply ex_app; (walk_at "wl")) | (apply ex_app2; (walk_at "wl"); (walk_at "wz2"); intro _ _)
    | refine splitN (fun _ => ?_) (fun _ => ?_)
  | ((with_reducible apply ex_put); exact rfl)
  | intro _)
def A100 : Nat := 2 ^ 100
def B97 : Nat := 2 ^ 97
/-- a fraction drawn: lowest, small by value -/
def FrX (f : List D → M D) (n m : Int) : Prop := ∀ (S : Sto) (t : Nat) (k : Int) (Q : D → Sto → Prop), Tp S t k → k < m → (∀ p S', VB A100 B97 p → Int.gcd p.1 p.2 = 1 → Tp S' t (k + n) → Gr [t] S S' → Q (Lib.encI p) S') → Ok (f [.loc t] S) Q
theorem vb_int {a b : Int} (hb : 0 < b) (h1 : a.natAbs ≤ 2 ^ 100) (h2 : b.natAbs ≤ 2 ^ 97) : VB A100 B97 (a, b) := by
  refine ⟨hb, h2, Nat.le_trans h1 ?_⟩
  have : 1 ≤ b.natAbs := by omega
  exact Nat.le_mul_of_pos_right _ this
theorem low_draw {f : List D → M D} (hl : LowX f) {S : Sto} {a b : Int} {Q : D → Sto → Prop} (hb : 0 < b) (h1 : a.natAbs ≤ 2 ^ 100) (h2 : b.natAbs ≤ 2 ^ 97) (k : ∀ p, VB A100 B97 p → Int.gcd p.1 p.2 = 1 → Q (Lib.encI p) S) : Ok (f [.int a, .int b] S) Q :=
  hl S a b Q hb (Nat.lt_of_le_of_lt h1 (Nat.pow_lt_pow_right (by decide) (by decide))) (Nat.lt_of_le_of_lt h2 (Nat.pow_lt_pow_right (by decide) (by decide))) (k _ (vb_int hb h1 h2).low (Lk2.lowF_ok (by omega)).2)
theorem numberX (G : Gt) (hd : DrawW (G.fn "_law_draw")) (hl : LowX (G.fn "_law_low")) : FrX (specOf G 4 ir_law_number) 5 850000000 := by
  intro S t k Q h hk q
  refine fn_ok 0 ?_
  show Ok (evS G 0 ir_law_number [some (.loc t), none, none, none] S) _
  unfold ir_law_number
  repeat' (walk_at "wp")
  refine hd S t k 24 _ h (by omega) (by omega) (by omega) fun r1 S1 a1 b1 s1 g1 => ?_
  repeat' (walk_at "wp")
  refine hd S1 t _ 13 _ s1 (by omega) (by omega) (by omega) fun r2 S2 a2 b2 s2 g2 => ?_
  repeat' (walk_at "wp")
  · exact q (r2 - 6, 1) S2 (vb_int (by decide) (by omega) (by decide)) (by simp) (s2.le (by omega)) (g1.trans g2)
  · refine hd S2 t _ 7 _ s2 (by omega) (by omega) (by omega) fun r3 S3 a3 b3 s3 g3 => ?_
    repeat' (walk_at "wp")
    exact low_draw hl (by omega) (by omega) (by omega) fun p l1 l2 => q _ S3 l1 l2 (s3.le (by omega)) ((g1.trans g2).trans g3)
  · rw [show ((10 : Int) ^ (12 : Int).toNat) = 1000000000000 by decide]
    refine hd S2 t _ 1000000000000 _ s2 (by omega) (by omega) (by omega) fun r3 S3 a3 b3 s3 g3 => ?_
    repeat' (walk_at "wp")
    refine hd S3 t _ 2 _ s3 (by omega) (by omega) (by omega) fun r4 S4 a4 b4 s4 g4 => ?_
    repeat' (walk_at "wp")
    rw [show ((10 : Int) ^ (4 : Int).toNat) = 10000 by decide]
    refine hd S4 t _ 10000 _ s4 (by omega) (by omega) (by omega) fun r5 S5 a5 b5 s5 g5 => ?_
    repeat' (walk_at "wp")
    have c1 : (r3 * (1 - 2 * r4)).natAbs ≤ 2 ^ 100 := by
      rw [Int.natAbs_mul]
      calc r3.natAbs * (1 - 2 * r4).natAbs ≤ 2 ^ 60 * 2 := Nat.mul_le_mul (by omega) (by omega)
        _ ≤ 2 ^ 100 := by decide
    exact low_draw hl (by omega) c1 (by omega) fun p l1 l2 => q _ S5 l1 l2 (s5.le (by omega)) ((((g1.trans g2).trans g3).trans g4).trans g5)
theorem fractionX (G : Gt) (hd : DrawW (G.fn "_law_draw")) (hl : LowX (G.fn "_law_low")) (hn : FrX (G.fn "_law_number") 5 850000000) : FrX (specOf G 3 ir_law_fraction) 6 800000000 := by
  intro S t k Q h hk q
  refine fn_ok 0 ?_
  show Ok (evS G 0 ir_law_fraction [some (.loc t), none, none] S) _
  unfold ir_law_fraction
  repeat' (walk_at "wp")
  refine hd S t k 4 _ h (by omega) (by omega) (by omega) fun r1 S1 a1 b1 s1 g1 => ?_
  repeat' (walk_at "wp")
  · refine hn S1 t _ _ s1 (by omega) fun p S2 l1 l2 s2 g2 => ?_
    exact q _ S2 l1 l2 (s2.le (by omega)) (g1.trans g2)
  · rw [show ((10 : Int) ^ (15 : Int).toNat) = 1000000000000000 by decide]
    refine hd S1 t _ 1000000000000000 _ s1 (by omega) (by omega) (by omega) fun r2 S2 a2 b2 s2 g2 => ?_
    repeat' (walk_at "wp")
    rw [show ((10 : Int) ^ (15 : Int).toNat) = 1000000000000000 by decide]
    repeat' (walk_at "wp")
    refine hd S2 t _ 1000000000000000 _ s2 (by omega) (by omega) (by omega) fun r3 S3 a3 b3 s3 g3 => ?_
    repeat' (walk_at "wp")
    refine hd S3 t _ 1000000000000000 _ s3 (by omega) (by omega) (by omega) fun r4 S4 a4 b4 s4 g4 => ?_
    repeat' (walk_at "wp")
    rw [show ((10 : Int) ^ (14 : Int).toNat) = 100000000000000 by decide]
    repeat' (walk_at "wp")
    refine hd S4 t _ 100000000000000 _ s4 (by omega) (by omega) (by omega) fun r5 S5 a5 b5 s5 g5 => ?_
    repeat' (walk_at "wp")
    refine hd S5 t _ 2 _ s5 (by omega) (by omega) (by omega) fun r6 S6 a6 b6 s6 g6 => ?_
    repeat' (walk_at "wp")
    have b1' : (r2 * 1000000000000000 + r3).natAbs < 2 ^ 110 := by omega
    refine q_mul (Lib.mulb (a := 110) (b := 64) b1' (by omega)) ?_
    repeat' (walk_at "wp")
    have b2' : (r2 * 1000000000000000 + r3).natAbs < 1000000000000000000000000000000 := by omega
    have c1 : ((r2 * 1000000000000000 + r3) * (1 - 2 * r6)).natAbs ≤ 2 ^ 100 := by
      rw [Int.natAbs_mul]
      have : (1 - 2 * r6).natAbs = 1 := by omega
      rw [this, Nat.mul_one]
      exact Nat.le_of_lt (Nat.lt_trans b2' (by decide))
    exact low_draw hl (by omega) c1 (by omega) fun p l1 l2 => q _ S6 l1 l2 (s6.le (by omega)) (((((g1.trans g2).trans g3).trans g4).trans g5).trans g6)
/-! ### dicts of them -/
def prodD : DQ → Nat
  | [] => 1
  | p :: m => p.2.2.natAbs * prodD m
theorem prodD_app : ∀ (m l : DQ), prodD (m ++ l) = prodD m * prodD l
  | [], l => by rw [List.nil_append]; exact (Nat.one_mul _).symm
  | p :: m, l => by
    show p.2.2.natAbs * prodD (m ++ l) = p.2.2.natAbs * prodD m * prodD l
    rw [prodD_app m l, Nat.mul_assoc]
theorem prodD_dl {ns : List Int} : ∀ {m : DQ}, (∀ p ∈ m, 0 < p.2.2) → prodD (dl m ns) ≤ prodD m
  | [], _ => Nat.le_refl _
  | p :: m, h => by
    have ih := prodD_dl (ns := ns) (m := m) fun q hq => h q (List.mem_cons_of_mem _ hq)
    have hp := h p (List.mem_cons_self ..)
    unfold dl at ih ⊢
    rw [List.filter_cons]
    split
    · exact Nat.mul_le_mul_left _ ih
    · exact Nat.le_trans ih (Nat.le_mul_of_pos_left _ (by omega))
theorem prodD_map {ns : List Int} {v : Q2} : ∀ {m : DQ} {o : Q2}, (m.map (·.1)).Nodup → (ns, o) ∈ m → prodD (m.map fun p => if p.1 = ns then (p.1, v) else p) * o.2.natAbs = prodD m * v.2.natAbs
  | [], o, _, h => by cases h
  | p :: m, o, hn, h => by
    obtain ⟨h1, h2⟩ := List.nodup_cons.mp hn
    rw [List.map_cons]
    rcases List.mem_cons.mp h with rfl | h
    · rw [if_pos rfl]
      have : m.map (fun p => if p.1 = ns then (p.1, v) else p) = m := by
        conv => rhs; rw [← List.map_id m]
        apply List.map_congr_left
        intro q hq
        rw [if_neg]
        · rfl
        · intro z
          exact h1 (List.mem_map.mpr ⟨q, hq, z⟩)
      rw [this]
      show v.2.natAbs * prodD m * o.2.natAbs = o.2.natAbs * prodD m * v.2.natAbs
      grind
    · have ne : p.1 ≠ ns := fun z => h1 (by show p.1 ∈ _; rw [z]; exact List.mem_map.mpr ⟨_, h, rfl⟩)
      rw [if_neg ne]
      have ih := prodD_map (v := v) h2 h
      show p.2.2.natAbs * prodD (m.map _) * o.2.natAbs = p.2.2.natAbs * prodD m * v.2.natAbs
      rw [Nat.mul_assoc, ih, Nat.mul_assoc]
theorem lk_any {m : DQ} {ns : List Int} : (m.any fun p => decide (p.1 = ns)) = (lk m ns).isSome := by
  unfold lk
  cases q : m.find? fun p => decide (p.1 = ns) with
  | none =>
    rw [List.any_eq_false.mpr fun p hp => List.find?_eq_none.mp q p hp]
    rfl
  | some p =>
    rw [List.any_eq_true.mpr ⟨p, List.mem_of_find?_eq_some q, by have := List.find?_some q; exact this⟩]
    rfl
def PwOk (many : Int) (ns : List Int) : Prop := (ns.length : Int) = many ∧ (∀ x ∈ ns, 0 ≤ x) ∧ ns.sum ≤ 16
structure DrX (many : Int) (j : Nat) (m : DQ) : Prop where
  len : m.length ≤ j
  nd : (m.map (·.1)).Nodup
  it : ∀ p ∈ m, PwOk many p.1 ∧ VB (j * A100) (2 ^ (97 * j)) p.2 ∧ p.2.1 ≠ 0
  pr : prodD m ≤ 2 ^ (97 * j)
theorem VB.own {V F : Nat} {q : Q2} (h : VB V F q) : VB V q.2.natAbs q := ⟨h.1, Nat.le_refl _, h.2.2⟩
theorem DrX.put {many : Int} {j : Nat} {m : DQ} {ns : List Int} {q : Q2} (h : DrX many j m) (hn : PwOk many ns) (hq : VB A100 B97 q) : DrX many (j + 1) (putQ m ns q) := by
  obtain ⟨h1, h2, h3, h4⟩ := h
  have pw : (2 : Nat) ^ (97 * (j + 1)) = 2 ^ (97 * j) * B97 := by
    rw [Nat.mul_add, Nat.pow_add]
    rfl
  have pp : (2 : Nat) ^ (97 * j) ≤ 2 ^ (97 * (j + 1)) := Nat.pow_le_pow_right (by decide) (by omega)
  have av : j * A100 ≤ (j + 1) * A100 := Nat.mul_le_mul_right _ (by omega)
  have old : ∀ p ∈ m, PwOk many p.1 ∧ VB ((j + 1) * A100) (2 ^ (97 * (j + 1))) p.2 ∧ p.2.1 ≠ 0 := fun p hp => ⟨(h3 p hp).1, (h3 p hp).2.1.le av pp, (h3 p hp).2.2⟩
  have z : VB (j * A100) (2 ^ (97 * j)) ((lk m ns).getD (0, 1)) := by
    cases e : lk m ns with
    | none => exact ⟨(show (0 : Int) < 1 by decide), Nat.pow_pos (by decide), Nat.zero_le _⟩
    | some v => exact (h3 _ (lk_mem e)).2.1
  have g := z.plus hq
  rw [← pw] at g
  have g : VB ((j + 1) * A100) (2 ^ (97 * (j + 1))) (plusQ ((lk m ns).getD (0, 1)) q) := g.le (by rw [Nat.add_mul, Nat.one_mul]; exact Nat.le_refl _) (Nat.le_refl _)
  have den := ((VB.own z).plus (VB.own hq)).2.1
  have qd := hq.2.1
  unfold putQ
  split
  · rename_i c
    refine ⟨Nat.le_trans st_len (by omega), st_nodup h2, fun p hp => ?_, ?_⟩
    · rcases st_mem hp with hp | rfl
      · exact old p hp
      · exact ⟨hn, g, c⟩
    · unfold st
      rw [lk_any]
      cases e : lk m ns with
      | none =>
        rw [e] at den
        have den : (plusQ ((none : Option Q2).getD (0, 1)) q).2.natAbs ≤ 1 * q.2.natAbs := den
        show prodD (m ++ [(ns, _)]) ≤ _
        rw [prodD_app, pw]
        refine Nat.mul_le_mul h4 ?_
        show (plusQ ((none : Option Q2).getD (0, 1)) q).2.natAbs * 1 ≤ _
        omega
      | some o =>
        rw [e] at den
        have den : (plusQ o q).2.natAbs ≤ o.2.natAbs * q.2.natAbs := den
        show prodD (m.map fun p => if p.1 = ns then (p.1, plusQ o q) else p) ≤ _
        have e1 := prodD_map (v := plusQ o q) h2 (lk_mem e)
        have o0 : 0 < o.2.natAbs := by
          have o1 : 0 < o.2 := (h3 _ (lk_mem e)).2.1.1
          omega
        have e2 : prodD (m.map fun p => if p.1 = ns then (p.1, plusQ o q) else p) * o.2.natAbs ≤ prodD m * q.2.natAbs * o.2.natAbs := by
          rw [e1]
          calc _ ≤ prodD m * (o.2.natAbs * q.2.natAbs) := Nat.mul_le_mul_left _ den
            _ = _ := by grind
        have e3 := Nat.le_of_mul_le_mul_right e2 o0
        rw [pw]
        exact Nat.le_trans e3 (Nat.mul_le_mul h4 qd)
  · split
    · exact ⟨Nat.le_trans dl_len (by omega), dl_nodup h2, fun p hp => old p (dl_mem hp), Nat.le_trans (prodD_dl fun p hp => (h3 p hp).2.1.1) (Nat.le_trans h4 pp)⟩
    · exact ⟨by omega, h2, old, Nat.le_trans h4 pp⟩
def PutX (f : List D → M D) : Prop := ∀ (S : Sto) (n : Nat) (m : DQ) (ns : List Int) (q : Q2) (V F V' F' : Nat) (Q : D → Sto → Prop), S[n]? = some (.dT (encM Lib.encI m)) → VB V F ((lk m ns).getD (0, 1)) → VB V' F' q → Fit V F → Fit V' F' → m.length < sz →
  (∀ S', Wr S S' n (.dT (encM Lib.encI (putQ m ns q))) → Q .non S') → Ok (f [.loc n, tupI ns, Lib.encI q] S) Q
theorem same_wr {S : Sto} {n : Nat} {o : Ob} (h : S[n]? = some o) : Wr S S n o := ⟨rfl, h, fun _ _ _ e => e⟩
theorem getD_enc (m : DQ) (ns : List Int) : ((lk m ns).map Lib.encI).getD (.tup [.int 0, .int 1]) = Lib.encI ((lk m ns).getD (0, 1)) := by
  cases lk m ns <;> rfl
theorem putX (G : Gt) (hp : PlusX (G.fn "_law_plus")) : PutX (specOf G 4 ir_law_put) := by
  intro S n m ns q V F V' F' Q hn z hq f1 f2 hl k
  refine fn_ok 0 ?_
  show Ok (evS G 0 ir_law_put [some (.loc n), some (tupI ns), some (Lib.encI q), none] S) _
  unfold ir_law_put
  repeat' (walk_at "wp")
  refine q_getT hn (keyT_tupI ns) ?_
  rw [getK_enc, getD_enc]
  repeat' (walk_at "wp")
  refine hp S _ q _ _ _ _ _ z hq f1 f2 ?_
  unfold putQ at k
  generalize plusQ ((lk m ns).getD (0, 1)) q = z at k ⊢
  obtain ⟨z1, z2⟩ := z
  dsimp only [Lib.encI] at k ⊢
  repeat' (walk_at "wp")
  · rename_i c
    rw [if_pos c] at k
    refine q_putT hn (keyT_tupI ns) (by rw [encM_len]; exact hl) ?_
    intro S' w
    rw [show D.tup [.int z1, .int z2] = Lib.encI (z1, z2) from rfl, setK_enc] at w
    repeat' (walk_at "wp")
    exact k _ w
  · rename_i c
    rw [if_neg (by simpa using c)] at k
    refine q_inT hn (keyT_tupI ns) ?_
    rw [getK_enc]
    cases e : lk m ns with
    | none =>
      rw [e] at k
      repeat' (walk_at "wp")
      refine splitF ?_
      repeat' (walk_at "wp")
      exact k _ (same_wr hn)
    | some v =>
      rw [e] at k
      repeat' (walk_at "wp")
      refine splitT ?_
      repeat' (walk_at "wp")
      refine q_popT (v := Lib.encI v) hn (keyT_tupI ns) (by rw [getK_enc, e]; rfl) fun S' w => ?_
      rw [delK_enc] at w
      repeat' (walk_at "wp")
      exact k _ w
def DrawnX (f : List D → M D) : Prop := ∀ (S : Sto) (t : Nat) (k many : Int) (Q : D → Sto → Prop), Tp S t k → k < 700000000 → 1 ≤ many → many ≤ 4 → (∀ n S' m, S'[n]? = some (.dT (encM Lib.encI m)) → S.length ≤ n → DrX many 7 m → Tp S' t (k + 200) → Gr [t] S S' → Q (.loc n) S') → Ok (f [.loc t, .int many] S) Q
theorem DrX.le {many : Int} {i j : Nat} {m : DQ} (h : DrX many i m) (e : i ≤ j) : DrX many j m := ⟨Nat.le_trans h.len e, h.nd, fun p hp => ⟨(h.it p hp).1, (h.it p hp).2.1.le (Nat.mul_le_mul_right _ e) (Nat.pow_le_pow_right (by decide) (by omega)), (h.it p hp).2.2⟩, Nat.le_trans h.pr (Nat.pow_le_pow_right (by decide) (by omega))⟩
theorem getD_vb {many : Int} {j : Nat} {m : DQ} (h : DrX many j m) (e : j ≤ 7) (ns : List Int) : VB (7 * A100) (2 ^ (97 * 7)) ((lk m ns).getD (0, 1)) := by
  have h := h.le e
  cases q : lk m ns with
  | none => exact ⟨(show (0 : Int) < 1 by decide), Nat.pow_pos (by decide), Nat.zero_le _⟩
  | some v => exact (h.it _ (lk_mem q)).2.1
theorem fit7 : Fit (7 * A100) (2 ^ (97 * 7)) := by
  have e1 : 7 * A100 * 2 ^ (97 * 7) ≤ 2 ^ 103 * 2 ^ (97 * 7) := Nat.mul_le_mul_right _ (by decide)
  rw [← Nat.pow_add] at e1
  exact ⟨Nat.lt_of_le_of_lt e1 (Nat.pow_lt_pow_right (by decide) (by decide)), Nat.pow_lt_pow_right (by decide) (by decide)⟩
theorem fitA : Fit A100 B97 := by
  have e1 : A100 * B97 = 2 ^ 197 := by
    show 2 ^ 100 * 2 ^ 97 = _
    rw [← Nat.pow_add]
  exact ⟨by rw [e1]; exact Nat.pow_lt_pow_right (by decide) (by decide), Nat.pow_lt_pow_right (by decide) (by decide)⟩
theorem at4 {r : Int} (h0 : 0 ≤ r) (h1 : r < 4) : ∃ v, 3 ≤ v ∧ v ≤ 17 ∧ L2.atI [D.int 3, D.int 4, D.int 6, D.int 17] r = some (.int v) := by
  have : r = 0 ∨ r = 1 ∨ r = 2 ∨ r = 3 := by omega
  rcases this with rfl | rfl | rfl | rfl
  · exact ⟨3, by decide, by decide, rfl⟩
  · exact ⟨4, by decide, by decide, rfl⟩
  · exact ⟨6, by decide, by decide, rfl⟩
  · exact ⟨17, by decide, by decide, rfl⟩
theorem rep0 (n : Nat) : (List.replicate n [D.int 0]).flatten = (List.replicate n (0 : Int)).map D.int := by
  induction n with
  | zero => rfl
  | succ n ih => rw [List.replicate_succ, List.flatten_cons, ih]; rfl
theorem atI_nat {α : Type} {l : List α} {r : Int} (h0 : 0 ≤ r) (h1 : r < l.length) : L2.atI l r = l[r.toNat]? ∧ L2.ixN l.length r = some r.toNat := by
  have e : L2.ixN l.length r = some r.toNat := by
    unfold L2.ixN
    rw [if_pos h0, if_pos (by omega)]
  refine ⟨?_, e⟩
  unfold L2.atI
  rw [e]
  rfl
theorem sum_set : ∀ (l : List Int) (i : Nat) (v x : Int), l[i]? = some x → (l.set i v).sum = l.sum - x + v
  | [], _, _, _, h => by simp at h
  | a :: l, 0, v, x, h => by
    cases (show some a = some x from h)
    show v + l.sum = a + l.sum - a + v
    omega
  | a :: l, i + 1, v, x, h => by
    have := sum_set l i v x h
    show a + (l.set i v).sum = a + l.sum - x + v
    omega
theorem rngD_get {a : Int} {n j : Nat} {d : D} (h : (rngD a n)[j]? = some d) : d = .int (a + j) ∧ j < n := by
  unfold rngD at h
  rw [List.getElem?_map] at h
  cases e : (List.range n)[j]? with
  | none => rw [e] at h; cases h
  | some i =>
    rw [e] at h
    cases h
    obtain ⟨h1, h2⟩ := List.getElem?_eq_some_iff.mp e
    rw [List.getElem_range] at h2
    subst h2
    exact ⟨rfl, by simpa using h1⟩
theorem rngD_len {a : Int} {n : Nat} : (rngD a n).length = n := by unfold rngD; simp
theorem drawnX (G : Gt) (hd : DrawW (G.fn "_law_draw")) (hf : FrX (G.fn "_law_fraction") 6 800000000) (hp : PutX (G.fn "_law_put")) : DrawnX (specOf G 7 ir_law_drawn) := by
  intro S t k many Q h hk hm1 hm2 q
  refine fn_ok 0 ?_
  show Ok (evS G 0 ir_law_drawn [some (.loc t), some (.int many), none, none, none, none, none] S) _
  unfold ir_law_drawn
  repeat' (walk_at "wp")
  rename_i n S1 w1
  have s1 : Tp S1 t k := w1.tp h
  have tn : t < n := w1.lt h
  have n1 := w1.at_
  have g1 : Gr [t] S S1 := w1.gr
  have hSn : S.length ≤ n := by rw [w1.pl]; exact Nat.le_refl _
  clear w1
  refine hd S1 t k 8 _ s1 (by omega) (by omega) (by omega) fun r1 S2 a1 b1 s2 g2 => ?_
  repeat' (walk_at "wp")
  have n2 : S2[n]? = some (.dT []) := by (walk_at "wl")
  refine w_forN (fun j δ S' => ∃ (x3 x4 x5 x6 : Option D) (m : DQ), δ = [some (.loc t), some (.int many), some (.loc n), x3, x4, x5, x6] ∧ S'[n]? = some (.dT (encM Lib.encI m)) ∧ j ≤ 7 ∧ DrX many j m ∧ Tp S' t (k + 1 + 24 * j) ∧ Gr [t] S S')
    ⟨none, none, none, none, [], rfl, n2, by omega, ⟨Nat.le_refl _, List.nodup_nil, (fun p hp => by cases hp), Nat.le_refl _⟩, s2.le (by omega), g1.trans g2⟩ (fun j δ S' h => okC_nil) (fun j d δ S' hdd h => ?_) (fun δ S' h => ?_)
  · obtain ⟨x3, x4, x5, x6, m, rfl, h1, h2, h3, h4, h5⟩ := h
    obtain ⟨rfl, hj⟩ := rngD_get hdd
    clear hdd n2 g2 s2 n1 g1 s1 h
    refine ⟨_, rfl, ?_⟩
    repeat' (walk_at "wp")
    rename_i c0 S3 w3
    refine q_repL (by (walk_at "wl")) ⟨by omega, by omega, Nat.le_trans (show [D.int 0].length * many.toNat ≤ 1000 by simp; omega) (Lib.le_sz (Nat.le_refl _))⟩ fun l S4 w4 => ?_
    rw [rep0] at w4
    repeat' (walk_at "wp")
    rename_i c1 S5 w5
    have s5 : Tp S5 t (k + 1 + 24 * j) := by (walk_at "ws")
    have tl : t < l := w4.lt (w3.tp h4)
    have l5 : S5[l]? = some (.lst ((List.replicate many.toNat (0 : Int)).map D.int)) := by (walk_at "wl")
    have n5 : S5[n]? = some (.dT (encM Lib.encI m)) := by (walk_at "wl")
    have c5 := w5.at_
    have g5 : Gr [t] S S5 := ((h5.trans w3.gr).trans w4.gr).trans w5.gr
    have nl : n ≠ l := by (walk_at "wn")
    have hSl : S.length ≤ l := by
      have := w4.pl
      have := w3.len
      have := h5.len
      omega
    have tc : c1 ≠ t := Nat.ne_of_gt (w5.lt (w4.tp (w3.tp h4)))
    clear w3 w4 w5
    refine hd S5 t _ 4 _ s5 (by omega) (by omega) (by omega) fun r2 S6 a2 b2 s6 g6 => ?_
    obtain ⟨v, v1, v2, hv⟩ := at4 a2 b2
    refine q_ixl (by (walk_at "wl")) hv ?_
    repeat' (walk_at "wp")
    refine hd S6 t _ v _ s6 (by omega) (by omega) (by omega) fun r3 S7 a3 b3 s7 g7 => ?_
    repeat' (walk_at "wp")
    have l7 : S7[l]? = some (.lst ((List.replicate many.toNat (0 : Int)).map D.int)) := by (walk_at "wl")
    have n7 : S7[n]? = some (.dT (encM Lib.encI m)) := by (walk_at "wl")
    have g7 : Gr [t] S S7 := (g5.trans g6).trans g7
    refine w_forN (fun i δ S' => ∃ (x3 x5 x6 : Option D) (ns : List Int), δ = [some (.loc t), some (.int many), some (.loc n), x3, some (.loc l), x5, x6] ∧ S'[n]? = some (.dT (encM Lib.encI m)) ∧ S'[l]? = some (.lst (ns.map D.int)) ∧ i ≤ 16 ∧ (ns.length : Int) = many ∧ (∀ x ∈ ns, 0 ≤ x) ∧ ns.sum ≤ i ∧ Tp S' t (k + 1 + 24 * j + 2 + i) ∧ Gr [t] S S')
      ⟨_, _, _, List.replicate many.toNat 0, rfl, n7, l7, by omega, by simp; omega, fun x hx => by rw [(List.mem_replicate.mp hx).2]; exact Int.le_refl _, by rw [List.sum_replicate_int]; simp, s7.le (by omega), g7⟩ (fun i δ S' h => okC_nil) (fun i d δ S' hdd h => ?_) (fun δ S' h => ?_)
    · obtain ⟨x3, x5, x6, ns, rfl, i1, i2, i3, i4, i5, i6, i7, i8⟩ := h
      obtain ⟨rfl, hi⟩ := rngD_get hdd
      clear hdd
      refine ⟨_, rfl, ?_⟩
      repeat' (walk_at "wp")
      refine hd S' t _ many _ i7 (by omega) (by omega) (by omega) fun r4 S8 a4 b4 s8 g8 => ?_
      have l8 : S8[l]? = some (.lst (ns.map D.int)) := g8.o1 (by omega) i2
      have n8 : S8[n]? = some (.dT (encM Lib.encI m)) := g8.o1 (by omega) i1
      obtain ⟨x, hx⟩ : ∃ x, ns[r4.toNat]? = some x := ⟨_, List.getElem?_eq_getElem (by omega)⟩
      obtain ⟨e1, e2⟩ := atI_nat (l := ns.map D.int) a4 (by rw [List.length_map]; omega)
      rw [List.getElem?_map, hx] at e1
      repeat' (walk_at "wp")
      refine q_ixl l8 e1 ?_
      repeat' (walk_at "wp")
      refine q_putL l8 e2 fun S9 w9 => ?_
      repeat' (walk_at "wp")
      refine ⟨_, _, _, ns.set r4.toNat (x + 1), rfl, w9.old _ _ nl n8, ?_, by omega, by rw [List.length_set]; exact i4, fun y hy => ?_, ?_, (w9.tp tl s8).le (by omega), ((i8.trans g8).wr w9 hSl)⟩
      · rw [w9.at_, List.map_set]
      · have hx0 := i5 x (List.mem_of_getElem? hx)
        rcases List.mem_or_eq_of_mem_set hy with hy | rfl
        · exact i5 y hy
        · omega
      · rw [sum_set ns _ _ x hx]
        omega
    · obtain ⟨x3, x5, x6, ns, rfl, i1, i2, i3, i4, i5, i6, i7, i8⟩ := h
      rw [rngD_len] at i3 i6 i7
      repeat' (walk_at "wp")
      refine hf S' t _ _ i7 (by omega) fun p S8 p1 p2 s8 g8 => ?_
      have n8 : S8[n]? = some (.dT (encM Lib.encI m)) := g8.o1 (by omega) i1
      repeat' (walk_at "wp")
      refine hp S8 n m ns p _ _ _ _ _ n8 (getD_vb h3 h2 ns) p1 fit7 fitA (le_sz2 (by have := h3.1; omega)) fun S9 w9 => ?_
      repeat' (walk_at "wp")
      refine ⟨_, _, _, _, putQ m ns p, rfl, w9.at_, by omega, h3.put ⟨i4, i5, by omega⟩ p1, (w9.tp tn s8).le (by omega), ((i8.trans g8).wr w9 hSn)⟩
  · obtain ⟨x3, x4, x5, x6, m, rfl, h1, h2, h3, h4, h5⟩ := h
    rw [rngD_len] at h2 h3 h4
    repeat' (walk_at "wp")
    exact q n S' m h1 hSn (h3.le h2) (h4.le (by omega)) h5
end Lk4
set_option exponentiation.threshold 20000
namespace Lk4
open PySem Mp Wp Qd
local macro_rules | `(tactic| walk_at "wd") => `(tactic| first
  | assumption | exact lt_of_get (by assumption) | exact lt_of_get (New.at_ (by assumption)) | exact lt_of_get (Wr.at_ (by assumption)) | exact Tp.lt (by assumption)
  | (refine New.lt2 (by assumption) ?_; (walk_at "wd"))
  | (refine Wr.lt2 (by assumption) ?_; (walk_at "wd"))
  | (refine Gr.lt2 (by assumption) ?_; (walk_at "wd")))
local macro_rules | `(tactic| walk_at "wn") => `(tactic| first | assumption | exact Ne.symm (by assumption) | exact New.ne2 (by assumption) (by (walk_at "wd")) | exact Ne.symm (New.ne2 (by assumption) (by (walk_at "wd"))) | omega)
local macro_rules | `(tactic| walk_at "wl") => `(tactic| first
  | assumption | exact New.at_ (by assumption) | exact Wr.at_ (by assumption)
  | (refine New.old (by assumption) _ _ ?_; (walk_at "wl"))
  | (refine Gr.o0 (by assumption) ?_; (walk_at "wl"))
  | (refine Gr.o1 (by assumption) (by (walk_at "wn")) ?_; (walk_at "wl"))
  | (refine Gr.o2 (by assumption) (by (walk_at "wn")) (by (walk_at "wn")) ?_; (walk_at "wl"))
  | (refine Wr.old (by assumption) _ _ (by (walk_at "wn")) ?_; (walk_at "wl")))
local macro_rules | `(tactic| walk_at "ws") => `(tactic| first
  | assumption
  | (refine New.tp (by assumption) ?_; (walk_at "ws"))
  | (refine Gr.tp0 (by assumption) ?_; (walk_at "ws"))
  | (refine Gr.tp1 (by assumption) (by omega) ?_; (walk_at "ws"))
  | (refine Wr.tp (by assumption) (by omega) ?_; (walk_at "ws")))
local macro_rules | `(tactic| walk_at "wz2") => `(tactic| first | assumption | exact le_sz2 (by first | omega | (simp only [List.length_append, List.length_map, List.length_cons, List.length_nil]; omega)))
local macro_rules | `(tactic| walk_at "wz") => `(tactic| first | assumption | exact Lib.le_sz (by first | omega | (simp only [List.length_append, List.length_map, List.length_cons, List.length_nil]; omega)))
local macro_rules | `(tactic| walk_at "wqb") => `(tactic| with_reducible first
  | (apply q_catT; (walk_at "wz")) | (apply q_catL; (walk_at "wl"); (walk_at "wl"); (walk_at "wz"); intro _ _ _)
  | refine q_add ?_ | refine q_sub ?_ | (apply q_mul; first | assumption | exact mulx64 (by omega) (by omega)) | (apply q_mod; first | assumption | omega) | (apply q_fdvx; (first | assumption | omega); assumption) | (apply q_pow; decide))
local macro_rules | `(tactic| walk_at "wqc") => `(tactic| with_reducible first
  | refine q_eqi ?_ | refine q_nei ?_ | refine q_lti ?_ | refine q_gti ?_ | refine q_lei ?_ | refine q_gei ?_ | refine q_is ?_ | refine q_isnot ?_)
local macro_rules | `(tactic| walk_at "wqf") => `(tactic| with_reducible first
  | refine q_lenT ?_ | (apply q_lenL; (walk_at "wl")) | refine q_abs ?_ | (apply q_tupL; (walk_at "wl")) | refine q_listT (fun _ _ _ => ?_) | (apply q_str; assumption))
local macro_rules | `(tactic| walk_at "wqx") => `(tactic| with_reducible first
  | refine q_ixt rfl ?_ | refine q_ixw rfl ?_ | (apply q_ixl; (walk_at "wl"); exact rfl))
local macro_rules | `(tactic| walk_at "wpE") => `(tactic| with_reducible first
  | refine w_var rfl ?_ | refine w_con ?_ | refine w_call ?_ | refine w_ix ?_ | refine w_bin ?_ | refine w_cmp ?_ | refine w_bi ?_
  | refine w_isi ?_ | refine w_tup ?_ | refine w_lst ?_ | refine w_newT (fun _ _ _ => ?_) | refine w_chn ?_ | refine w_andV ?_ | refine w_orV ?_ | refine w_notV ?_ | refine w_neg ?_ | refine w_ife ?_
  | refine w_sl ?_ | refine w_rev ?_ | refine w_isinF ?_ | refine w_isinT ?_ | refine w_app ?_ | refine w_get2 ?_ | refine w_popK ?_ | refine w_comp ?_ | refine w_glob rfl ?_
  | (dsimp only [List.set]; refine w_var rfl ?_))
local macro_rules | `(tactic| walk_at "wpS") => `(tactic| first
  | with_reducible first
    | refine w_asg ?_ | refine w_ret ?_ | refine w_ex ?_ | refine w_nil ?_ | refine w_app1 ?_ | refine w_app0 ?_ | refine w_par ?_ | refine w_sub ?_ | refine w_unp ?_ | refine w_for ?_ | refine w_retN ?_
  | ((with_reducible refine w_if' ?_ ?_ ?_); exact rfl; exact rfl))
local macro_rules | `(tactic| walk_at "wp") => `(tactic| first
  | ((with_reducible refine gE ?_); (walk_at "wpE"))
  | ((with_reducible refine gA ?_); with_reducible first | refine w_acons ?_ | refine w_anil ?_)
  | ((with_reducible refine gS ?_); (walk_at "wpS"))
  | ((with_reducible refine gT ?_); with_reducible first | refine w_tof ?_ | refine w_tand ?_ | refine w_tor ?_ | refine w_tnot ?_ | refine w_yes ?_)
  | ((with_reducible refine gB ?_); (walk_at "wqb"))
  | ((with_reducible refine gC ?_); (walk_at "wqc"))
  | ((with_reducible refine gX ?_); (walk_at "wqx"))
  | ((with_reducible refine gF ?_); (walk_at "wqf"))
  | with_reducible first
    | refine q_truthb ?_ | refine fl_rt ?_ | refine fl_nx ?_ | refine ex_bl ?_ | refine ex_int ?_ | (refine and_le ?_ ?_; exact Lib.le_sz (by simp))
    | refine splitNt ?_ | refine splitNf ?_ | refine splitT ?_ | refine splitF ?_ | refine splitD (fun _ => ?_) (fun _ => ?_) | refine splitND (fun _ => ?_) (fun _ => ?_)
    | refine w_onil ?_ | refine w_ocons ?_ | refine w_itv ?_ | refine w_itr ?_ | refine ok_quiet ?_
    | refine q_slT ?_ | refine q_rev ?_ | refine q_iterT ?_ | (apply q_iterL; (walk_at "wl")) | (apply q_rng1; omega) | (apply q_rng2; omega; omega)
    | (apply q_isDic; (walk_at "wl")) | (apply q_isDcu; (walk_at "wl")) | refine q_truthi ?_
    | (apply ex_app; (walk_at "wl")) | (apply ex_app2; (walk_at "wl"); (walk_at "wz2"); intro _ _)
    | refine splitN (fun _ => ?_) (fun _ => ?_)
  | ((with_reducible apply ex_put); exact rfl)
  | intro _)
def ir_degree : Is :=
  (.cons (.ret (.maxd (.comp [("powers", 1), ("number", 2)] (.itv (.ix (.var 0) (.con (.int 1)))) [1, 2] .yes (.bi .sum (.cons (.var 1) .nil))) (.con (.int 0))))
  .nil)
def ir_worth : Is :=
  (.cons (.asg 2 (.glob "NOUGHT"))
  (.cons (.for_ (.tp [3, 4]) (.itv (.ix (.var 0) (.con (.int 1))))
  (.cons (.for_ (.tp [5, 6]) (.itz (.var 3) (.var 1))
  (.cons (.asg 4 (.call "multiplied" (.cons (.var 4) (.cons (.call "power_of" (.cons (.var 6) (.cons (.var 5) .nil))) .nil))))
  .nil))
  (.cons (.asg 2 (.call "added" (.cons (.var 2) (.cons (.var 4) .nil))))
  .nil)))
  (.cons (.ret (.var 2))
  .nil)))
def ir_law_at : Is :=
  (.cons (.asg 2 (.tup (.cons (.con (.int 0)) (.cons (.con (.int 1)) .nil))))
  (.cons (.forD (.nm 3) 0
  (.cons (.asg 4 (.ix (.var 0) (.var 3)))
  (.cons (.for_ (.tp [5, 6]) (.itz (.var 3) (.var 1))
  (.cons (.for_ (.nm 7) (.itr (.cons (.var 5) .nil))
  (.cons (.asg 4 (.call "_law_mul" (.cons (.var 4) (.cons (.var 6) .nil))))
  .nil))
  .nil))
  (.cons (.asg 2 (.call "_law_plus" (.cons (.var 2) (.cons (.var 4) .nil))))
  .nil))))
  (.cons (.ret (.var 2))
  .nil)))
/-! ### walks over a dict -/
theorem w_forD {G : Gt} {N i n : Nat} {δ : Mp.Env} {S : Sto} {g : Tg} {b rest : Is} {kvs : List (List L2.Key × D)} {Q : Fl → Sto → Prop} (h : δ[i]? = some (some (.loc n))) (hS : S[n]? = some (.dT kvs))
    (k : ∀ S1, Wr S S1 n (.lk (.dT kvs)) → Ok (forL [(n, .lk (.dT kvs))] g (evS G N b) (kvs.map fun p => unkeyT p.1) δ S1) (FlOn (fun δ1 S2 => S2[n]? = some (.lk (.dT kvs)) ∧ ∀ S3, Wr S2 S3 n (.dT kvs) → Ok (evS G N rest δ1 S3) Q) fun v S2 => S2[n]? = some (.lk (.dT kvs)) ∧ ∀ S3, Wr S2 S3 n (.dT kvs) → Q (.rt v) S3)) : Ok (evS G N (.cons (.forD g i b) rest) δ S) Q := by
  obtain ⟨f, S2, e, r⟩ := k _ (Wr.mk' hS)
  rw [evS, evS]
  show Ok ((match δ[i]? with
    | some (some (.loc n)) => match S[n]? with
      | some o => match dkeys o with
        | some ks => unlk n (forL [(n, .lk o)] g (evS G N b) ks δ (S.set n (.lk o)))
        | none => .bad
      | none => .bad
    | _ => .bad : Ret Fl).bind _) Q
  rw [h]
  dsimp only
  rw [hS]
  dsimp only [dkeys]
  rw [e]
  cases f with
  | nx δ1 =>
    obtain ⟨r1, r2⟩ := r
    dsimp only [unlk]
    rw [r1]
    exact r2 _ (Wr.mk' r1)
  | rt v =>
    obtain ⟨r1, r2⟩ := r
    dsimp only [unlk]
    rw [r1]
    exact ⟨_, _, rfl, r2 _ (Wr.mk' r1)⟩
theorem w_compD {G : Gt} {i n : Nat} {δ : Mp.Env} {S : Sto} {own : List (Str × Nat)} {tg : List Nat} {t e : Ie} {kvs : List (List L2.Key × D)} {Q : D → Sto → Prop} (h : δ[i]? = some (some (.loc n))) (hS : S[n]? = some (.dT kvs))
    (k : ∀ S1, Wr S S1 n (.lk (.dT kvs)) → ∀ l S2, New S1 S2 l (.lst []) → Ok (lcL [(n, .lk (.dT kvs))] l (own.map (·.2)) (tgOf tg) (fun δ' => quiet (evT G t δ')) (fun δ' => quiet (evE G e δ')) (kvs.map fun p => unkeyT p.1) δ S2) (fun d S3 => S3[n]? = some (.lk (.dT kvs)) ∧ ∀ S4, Wr S3 S4 n (.dT kvs) → Q d S4)) : Ok (evE G (.compD own i tg t e) δ S) Q := by
  obtain ⟨d, S3, ee, r1, r2⟩ := k _ (Wr.mk' hS) _ _ (New.mk' _ _)
  rw [evE]
  dsimp only
  rw [h]
  dsimp only
  rw [hS]
  dsimp only [dkeys]
  rw [ee]
  dsimp only [unlk]
  rw [r1]
  exact ⟨_, _, rfl, r2 _ (Wr.mk' r1)⟩
theorem q_ixTl {S : Sto} {n : Nat} {kvs : List (List L2.Key × D)} {x v : D} {k : List L2.Key} {Q : D → Sto → Prop} (h1 : S[n]? = some (.lk (.dT kvs))) (hk : keyT x = some k) (e : getK kvs k = some v) (h : Q v S) : Ok (ixF (.loc n) x S) Q := by
  refine ⟨v, S, ?_, h⟩
  simp only [ixF, h1, Option.map_some, rdOb, hk, Option.bind_some, e]
theorem unkeyT_kOf (ns : List Int) : unkeyT (kOf ns) = tupI ns := by
  unfold unkeyT kOf tupI
  rw [List.map_map]
  rfl
theorem q_zipT {S : Sto} {G : Gt} {δ : Mp.Env} {a b : Ie} {Q : List D × Chk → Sto → Prop} (h : Ok (evE G a δ S) fun x S1 => Ok (evE G b δ S1) fun y S2 => ∃ xs ys, tp? x = some xs ∧ tp? y = some ys ∧ Q ((xs.zip ys).map fun r => .tup [r.1, r.2], []) S2) : Ok (evI G (.itz a b) δ S) Q := by
  obtain ⟨x, S1, e1, y, S2, e2, xs, ys, h1, h2, h3⟩ := h
  refine ⟨_, S2, ?_, h3⟩
  rw [evI]
  show (evE G a δ S).bind _ = _
  rw [e1]
  show (evE G b δ S1).bind _ = _
  rw [e2]
  show zipF x y S2 = _
  unfold zipF
  rw [h1, h2]
  rfl
/-! ### powers -/
theorem fitP {i : Nat} (h : i ≤ 60) : Fit (2 ^ (100 * i)) (2 ^ (97 * i)) := by
  refine ⟨?_, Nat.pow_lt_pow_right (by decide) (by omega)⟩
  rw [← Nat.pow_add]
  exact Nat.pow_lt_pow_right (by decide) (by omega)
theorem fitB {V F a b : Nat} (h1 : V ≤ 2 ^ a) (h2 : F ≤ 2 ^ b) (h : a + b < 13500) : Fit V F := by
  refine ⟨?_, Nat.lt_of_le_of_lt h2 (Nat.pow_lt_pow_right (by decide) (by omega))⟩
  have := Nat.mul_le_mul h1 h2
  rw [← Nat.pow_add] at this
  exact Nat.lt_of_le_of_lt this (Nat.pow_lt_pow_right (by decide) h)
def PowX (f : List D → M D) : Prop := ∀ (S : Sto) (x : D) (p : Q2) (k : Int) (Q : D → Sto → Prop), PairP x p → VB A100 B97 p → 0 ≤ k → k ≤ 16 → (∀ y r, PairP y r → VB (2 ^ (100 * k.toNat)) (2 ^ (97 * k.toNat)) r → val r = val p ^ k.toNat → Q y S) → Ok (f [x, .int k] S) Q
theorem val_one : val (1, 1) = 1 := by
  unfold val
  have e : ((1 : Int) : Rat) = 1 := rfl
  dsimp only
  rw [e]
  grind
theorem powX (G : Gt) (hm : MulX (G.fn "multiplied")) (hu : G.con "UNIT" = some (.wtup [.int 1, .int 1])) : PowX (specOf G 4 ir_power_of) := by
  intro S x p k Q hx hp h0 h1 q
  refine fn_ok 0 ?_
  show Ok (evS G 0 ir_power_of [some x, some (.int k), none, none] S) _
  unfold ir_power_of
  refine w_asg (w_glob hu ?_)
  repeat' (walk_at "wp")
  refine w_forN (fun i δ S' => ∃ (y : D) (r : Q2) (x3 : Option D), δ = [some x, some (.int k), some y, x3] ∧ S' = S ∧ PairP y r ∧ VB (2 ^ (100 * i)) (2 ^ (97 * i)) r ∧ val r = val p ^ i) ⟨_, (1, 1), none, rfl, rfl, rfl, ⟨(show (0 : Int) < 1 by decide), Nat.le_refl _, Nat.le_refl _⟩, by rw [val_one, Rat.pow_zero]⟩ (fun i δ S' h => okC_nil) (fun i d δ S' hd h => ?_) (fun δ S' h => ?_)
  · obtain ⟨y, r, x3, rfl, rfl, h2, h3, h4⟩ := h
    obtain ⟨rfl, hi⟩ := rngD_get hd
    have hi : i < 16 := by omega
    refine ⟨_, rfl, ?_⟩
    repeat' (walk_at "wp")
    have e1 : (2 : Nat) ^ (100 * (i + 1)) = 2 ^ (100 * i) * A100 := by rw [Nat.mul_add, Nat.pow_add]; rfl
    have e2 : (2 : Nat) ^ (97 * (i + 1)) = 2 ^ (97 * i) * B97 := by rw [Nat.mul_add, Nat.pow_add]; rfl
    refine hm S' y x r p _ _ _ _ _ h2 hx h3 hp (fitP (by omega)) fitA (by rw [← e1, ← e2]; exact fitP (by omega)) ?_
    have hv : VB _ _ (mulQ r p) := h3.mul hp
    repeat' (walk_at "wp")
    refine ⟨_, _, _, rfl, rfl, PairP.enc _, ?_, ?_⟩
    · rw [e1, e2]
      exact VB.low (q := mulQ r p) hv
    · rw [val_low hv.1]
      show val (r.1 * p.1, r.2 * p.2) = _
      rw [val_mul h3.1 hp.1, h4, Rat.pow_succ]
  · obtain ⟨y, r, x3, rfl, rfl, h2, h3, h4⟩ := h
    rw [rngD_len] at h3 h4
    repeat' (walk_at "wp")
    exact q y r h2 h3 h4
/-! ### the worth -/
def mono : List Int → List Q2 → Rat
  | k :: ks, q :: qs => val q ^ k.toNat * mono ks qs
  | _, _ => 1
def sumR : List Rat → Rat
  | [] => 0
  | x :: l => x + sumR l
def worthR (ts : DQ) (spot : List Q2) : Rat := sumR (ts.map fun t => val t.2 * mono t.1 spot)
theorem sumR_app : ∀ (a b : List Rat), sumR (a ++ b) = sumR a + sumR b
  | [], b => by show sumR b = 0 + sumR b; grind
  | x :: a, b => by
    show x + sumR (a ++ b) = x + sumR a + sumR b
    rw [sumR_app a b]
    grind
theorem sumR_perm {a b : List Rat} (h : a.Perm b) : sumR a = sumR b := by
  induction h with
  | nil => rfl
  | cons x h ih => show x + _ = x + _; rw [ih]
  | swap x y l => show y + (x + _) = x + (y + _); grind
  | trans h1 h2 ih1 ih2 => exact ih1.trans ih2
theorem mono_snoc : ∀ (ks : List Int) (qs : List Q2) (j : Nat) (k : Int) (q : Q2), ks[j]? = some k → qs[j]? = some q → mono (ks.take (j + 1)) (qs.take (j + 1)) = mono (ks.take j) (qs.take j) * val q ^ k.toNat
  | [], _, _, _, _, h, _ => by simp at h
  | _ :: _, [], _, _, _, _, h => by simp at h
  | k' :: ks, q' :: qs, 0, k, q, h, h2 => by
    have e1 : k' = k := Option.some.inj h
    have e2 : q' = q := Option.some.inj h2
    rw [← e1, ← e2]
    show val q' ^ k'.toNat * mono (ks.take 0) (qs.take 0) = 1 * val q' ^ k'.toNat
    rw [List.take_zero, List.take_zero]
    show val q' ^ k'.toNat * 1 = _
    grind
  | k' :: ks, q' :: qs, j + 1, k, q, h, h2 => by
    have ih := mono_snoc ks qs j k q h h2
    show val q' ^ k'.toNat * mono (ks.take (j + 1)) (qs.take (j + 1)) = val q' ^ k'.toNat * mono (ks.take j) (qs.take j) * val q ^ k.toNat
    rw [ih]
    grind
theorem sum_take : ∀ (l : List Int), (∀ x ∈ l, 0 ≤ x) → ∀ j, 0 ≤ (l.take j).sum ∧ (l.take j).sum ≤ l.sum
  | [], _, j => by rw [List.take_nil]; exact ⟨Int.le_refl _, Int.le_refl _⟩
  | x :: l, h, 0 => by
    have := sum_take l (fun y hy => h y (List.mem_cons_of_mem _ hy)) 0
    have := h x (List.mem_cons_self ..)
    rw [List.take_zero, List.sum_nil, List.sum_cons]
    rw [List.take_zero, List.sum_nil] at *
    omega
  | x :: l, h, j + 1 => by
    have := sum_take l (fun y hy => h y (List.mem_cons_of_mem _ hy)) j
    have := h x (List.mem_cons_self ..)
    rw [List.take_succ_cons, List.sum_cons, List.sum_cons]
    omega
theorem sum_take_succ {l : List Int} {j : Nat} {x : Int} (h : l[j]? = some x) : (l.take (j + 1)).sum = (l.take j).sum + x := by
  rw [List.take_add_one, h, List.sum_append]
  simp
theorem prodD_take : ∀ {m : DQ}, (∀ p ∈ m, 0 < p.2.2) → ∀ i, prodD (m.take i) ≤ prodD m
  | [], _, i => by rw [List.take_nil]; exact Nat.le_refl _
  | p :: m, h, 0 => by
    show 1 ≤ p.2.2.natAbs * prodD m
    have := prodD_take (m := m) (fun q hq => h q (List.mem_cons_of_mem _ hq)) 0
    have h1 : 1 ≤ prodD m := this
    have := h p (List.mem_cons_self ..)
    exact Nat.mul_le_mul (show 1 ≤ p.2.2.natAbs by omega) h1
  | p :: m, h, i + 1 => Nat.mul_le_mul_left _ (prodD_take (fun q hq => h q (List.mem_cons_of_mem _ hq)) i)
theorem prodD_snoc {m : DQ} {i : Nat} {p : List Int × Q2} (h : m[i]? = some p) : prodD (m.take (i + 1)) = prodD (m.take i) * p.2.2.natAbs := by
  rw [List.take_add_one, h, prodD_app]
  show _ * (p.2.2.natAbs * 1) = _
  rw [Nat.mul_one]
/-- terms at which a spot's worth may be asked -/
structure TmOk (spot : List Q2) (ts : DQ) : Prop where
  len : ts.length ≤ 7
  it : ∀ t ∈ ts, t.1.length = spot.length ∧ (∀ x ∈ t.1, 0 ≤ x) ∧ t.1.sum ≤ 16 ∧ VB (7 * A100) (2 ^ 679) t.2
  pr : prodD ts ≤ 2 ^ 679
def W1703 : Nat := 2 ^ 1703
theorem term_vb {t : List Int × Q2} {spot : List Q2} {s : Nat} {r : Q2} (hs : s ≤ 16) (h : VB (7 * A100 * 2 ^ (100 * s)) (t.2.2.natAbs * 2 ^ (97 * s)) r) : VB W1703 (t.2.2.natAbs * 2 ^ 1552) r := by
  refine h.le ?_ (Nat.mul_le_mul_left _ (Nat.pow_le_pow_right (by decide) (by omega)))
  have e1 : (2 : Nat) ^ (100 * s) ≤ 2 ^ 1600 := Nat.pow_le_pow_right (by decide) (by omega)
  have e2 : 7 * A100 ≤ 2 ^ 103 := by decide
  have := Nat.mul_le_mul e2 e1
  rw [← Nat.pow_add] at this
  exact this
theorem tot_fit {V F i : Nat} (hi : i ≤ 7) (hV : V ≤ i * W1703) (hF : F ≤ 2 ^ 679 * 2 ^ (1552 * i)) : Fit V F := by
  refine fitB (a := 1706) (b := 11543) (Nat.le_trans hV ?_) (Nat.le_trans hF ?_) (by decide)
  · have : i * W1703 ≤ 8 * W1703 := Nat.mul_le_mul_right _ (by omega)
    have e : 8 * W1703 = 2 ^ 1706 := by
      show 2 ^ 3 * 2 ^ 1703 = _
      rw [← Nat.pow_add]
    omega
  · rw [← Nat.pow_add]
    exact Nat.pow_le_pow_right (by decide) (by omega)
def WorthX (f : List D → M D) : Prop := ∀ (S : Sto) (many : Int) (ts : DQ) (spot : List Q2) (Q : D → Sto → Prop), TmOk spot ts → (∀ q ∈ spot, VB A100 B97 q) → (∀ y r, PairP y r → 0 < r.2 → Int.gcd r.1 r.2 = 1 → VB (7 * W1703) (2 ^ 679 * 2 ^ (1552 * 7)) r → val r = worthR ts spot → Q y S) → Ok (f [encS many ts, .tup (spot.map Lib.encI)] S) Q
theorem zip_get {α β : Type} : ∀ {l : List α} {r : List β} {i : Nat} {p : α × β}, (l.zip r)[i]? = some p → l[i]? = some p.1 ∧ r[i]? = some p.2
  | [], _, _, _, h => by simp at h
  | _ :: _, [], _, _, h => by simp at h
  | x :: l, y :: r, 0, p, h => by
    cases (show some (x, y) = some p from h)
    exact ⟨rfl, rfl⟩
  | x :: l, y :: r, i + 1, p, h => zip_get (l := l) (r := r) (i := i) h
theorem zip_pair {ns : List Int} {spot : List Q2} {j : Nat} {d : D} (h : (((ns.map D.int).zip (spot.map Lib.encI)).map fun r => D.tup [r.1, r.2])[j]? = some d) : ∃ k q, ns[j]? = some k ∧ spot[j]? = some q ∧ d = .tup [.int k, Lib.encI q] := by
  rw [List.getElem?_map] at h
  cases e : ((ns.map D.int).zip (spot.map Lib.encI))[j]? with
  | none => rw [e] at h; cases h
  | some p =>
    rw [e] at h
    cases h
    obtain ⟨h1, h2⟩ := zip_get e
    rw [List.getElem?_map] at h1 h2
    cases e1 : ns[j]? with
    | none => rw [e1] at h1; cases h1
    | some k =>
      cases e2 : spot[j]? with
      | none => rw [e2] at h2; cases h2
      | some q =>
        rw [e1] at h1
        rw [e2] at h2
        exact ⟨k, q, rfl, rfl, by show D.tup [p.1, p.2] = _; rw [← Option.some.inj h1, ← Option.some.inj h2]⟩
theorem zip_len {ns : List Int} {spot : List Q2} (h : ns.length = spot.length) : (((ns.map D.int).zip (spot.map Lib.encI)).map fun r => D.tup [r.1, r.2]).length = ns.length := by
  rw [List.length_map, List.length_zip, List.length_map, List.length_map]
  omega
theorem low_gcd {p : Q2} (h : 0 < p.2) : Int.gcd (Lib.lowF p.1 p.2).1 (Lib.lowF p.1 p.2).2 = 1 := (Lk2.lowF_ok (by omega)).2
theorem pow_add2 (a b : Nat) (k : Nat) : (2 : Nat) ^ (k * (a + b)) = 2 ^ (k * a) * 2 ^ (k * b) := by rw [Nat.mul_add, Nat.pow_add]
/-- what stands after so many of a term's powers -/
structure NumI (t : List Int × Q2) (spot : List Q2) (j : Nat) (r : Q2) : Prop where
  vb : VB (7 * A100 * 2 ^ (100 * (t.1.take j).sum.toNat)) (t.2.2.natAbs * 2 ^ (97 * (t.1.take j).sum.toNat)) r
  v : val r = val t.2 * mono (t.1.take j) (spot.take j)
theorem NumI.start {t : List Int × Q2} {spot : List Q2} (h : VB (7 * A100) (2 ^ 679) t.2) : NumI t spot 0 t.2 := by
  refine ⟨?_, ?_⟩
  · have e : (t.1.take 0).sum.toNat = 0 := rfl
    rw [e]
    exact (VB.own h).le (by rw [Nat.mul_zero, Nat.pow_zero, Nat.mul_one]; exact Nat.le_refl _) (by rw [Nat.mul_zero, Nat.pow_zero, Nat.mul_one]; exact Nat.le_refl _)
  · show val t.2 = val t.2 * 1
    grind
theorem NumI.fit {t : List Int × Q2} {spot : List Q2} {j : Nat} (hs : (t.1.take j).sum.toNat ≤ 16) (hd : t.2.2.natAbs ≤ 2 ^ 679) : Fit (7 * A100 * 2 ^ (100 * (t.1.take j).sum.toNat)) (t.2.2.natAbs * 2 ^ (97 * (t.1.take j).sum.toNat)) := by
  have e1 : (2 : Nat) ^ (100 * (t.1.take j).sum.toNat) ≤ 2 ^ 1600 := Nat.pow_le_pow_right (by decide) (by omega)
  have e2 : (2 : Nat) ^ (97 * (t.1.take j).sum.toNat) ≤ 2 ^ 1552 := Nat.pow_le_pow_right (by decide) (by omega)
  have e3 : 7 * A100 ≤ 2 ^ 103 := by decide
  have f1 := Nat.mul_le_mul e3 e1
  have f2 := Nat.mul_le_mul hd e2
  rw [← Nat.pow_add] at f1 f2
  exact fitB f1 f2 (by decide)
theorem NumI.step {t : List Int × Q2} {spot : List Q2} {j : Nat} {r u : Q2} {k : Int} {q : Q2} (h : NumI t spot j r) (h0 : ∀ x ∈ t.1, 0 ≤ x) (e1 : t.1[j]? = some k) (e2 : spot[j]? = some q) (hu : VB (2 ^ (100 * k.toNat)) (2 ^ (97 * k.toNat)) u) (hv : val u = val q ^ k.toNat) :
    VB (7 * A100 * 2 ^ (100 * (t.1.take (j + 1)).sum.toNat)) (t.2.2.natAbs * 2 ^ (97 * (t.1.take (j + 1)).sum.toNat)) (mulQ r u) ∧ val (mulQ r u) = val t.2 * mono (t.1.take (j + 1)) (spot.take (j + 1)) := by
  have hk : 0 ≤ k := h0 k (List.mem_of_getElem? e1)
  have s0 := (sum_take t.1 h0 j).1
  have es : (t.1.take (j + 1)).sum.toNat = (t.1.take j).sum.toNat + k.toNat := by
    rw [sum_take_succ e1]
    omega
  refine ⟨?_, ?_⟩
  · rw [es, pow_add2, pow_add2]
    have := h.vb.mul hu
    refine this.le (by rw [Nat.mul_assoc]; exact Nat.le_refl _) (by rw [Nat.mul_assoc]; exact Nat.le_refl _)
  · have := val_mul h.vb.1 hu.1
    show val (r.1 * u.1, r.2 * u.2) = _
    rw [this, h.v, hv, mono_snoc _ _ _ _ _ e1 e2]
    grind
theorem worthX (G : Gt) (ha : AddX (G.fn "added")) (hm : MulX (G.fn "multiplied")) (hp : PowX (G.fn "power_of")) (hu : G.con "NOUGHT" = some (.wtup [.int 0, .int 1])) : WorthX (specOf G 7 ir_worth) := by
  intro S many ts spot Q ht hs q
  refine fn_ok 0 ?_
  show Ok (evS G 0 ir_worth [some (.tup [.int many, .tup (ts.map encTm)]), some (.tup (spot.map Lib.encI)), none, none, none, none, none] S) _
  unfold ir_worth
  refine w_asg (w_glob hu ?_)
  repeat' (walk_at "wp")
  have dens : ∀ p ∈ ts, 0 < p.2.2 := fun p hp => (ht.it p hp).2.2.2.1
  refine w_forN (fun i δ S' => ∃ (y : D) (r : Q2) (x3 x4 x5 x6 : Option D), δ = [some (.tup [.int many, .tup (ts.map encTm)]), some (.tup (spot.map Lib.encI)), some y, x3, x4, x5, x6] ∧ S' = S ∧ PairP y r ∧ i ≤ ts.length ∧ VB (i * W1703) (prodD (ts.take i) * 2 ^ (1552 * i)) r ∧ Int.gcd r.1 r.2 = 1 ∧ val r = worthR (ts.take i) spot)
    ⟨_, (0, 1), _, _, _, _, rfl, rfl, rfl, Nat.zero_le _, ⟨(show (0 : Int) < 1 by decide), Nat.le_refl _, Nat.zero_le _⟩, rfl, (val_zero (p := (0, 1)) (by decide)).mpr rfl⟩ (fun i δ S' h => okC_nil) (fun i d δ S' hd h => ?_) (fun δ S' h => ?_)
  · obtain ⟨y, r, x3, x4, x5, x6, rfl, rfl, h2, h3, h4, h5, h6⟩ := h
    have hd : (ts.map encTm)[i]? = some d := hd
    rw [List.getElem?_map] at hd
    cases e : ts[i]? with
    | none => rw [e] at hd; cases hd
    | some t =>
      rw [e] at hd
      cases hd
      have hi := (List.getElem?_eq_some_iff.mp e).1
      obtain ⟨t1, t2, t3, t4⟩ := ht.it t (List.mem_of_getElem? e)
      have sm : ∀ j, (t.1.take j).sum.toNat ≤ 16 := fun j => by
        have := sum_take t.1 t2 j
        omega
      refine ⟨_, rfl, ?_⟩
      repeat' (walk_at "wp")
      refine q_zipT ?_
      repeat' (walk_at "wp")
      refine ⟨t.1.map D.int, spot.map Lib.encI, rfl, rfl, ?_⟩
      refine w_forN (fun j δ S2 => ∃ (z : D) (u : Q2) (x5 x6 : Option D), δ = [some (.tup [.int many, .tup (ts.map encTm)]), some (.tup (spot.map Lib.encI)), some y, some (tupI t.1), some z, x5, x6] ∧ S2 = S' ∧ PairP z u ∧ NumI t spot j u) ⟨_, _, _, _, rfl, rfl, PairP.enc _, NumI.start t4⟩ (fun j δ S2 h => okC_nil) (fun j d δ S2 hd h => ?_) (fun δ S2 h => ?_)
      · obtain ⟨z, u, x5, x6, rfl, rfl, k1, k2⟩ := h
        obtain ⟨k, qq, z1, z2, rfl⟩ := zip_pair hd
        have hk : 0 ≤ k := t2 k (List.mem_of_getElem? z1)
        have hk2 : k ≤ 16 := by
          have a1 := sum_take_succ z1
          have a2 := sum_take t.1 t2 j
          have a3 := sum_take t.1 t2 (j + 1)
          omega
        refine ⟨_, rfl, ?_⟩
        repeat' (walk_at "wp")
        refine hp S2 _ qq k _ (PairP.enc _) (hs qq (List.mem_of_getElem? z2)) hk hk2 fun w v w1 w2 w3 => ?_
        repeat' (walk_at "wp")
        obtain ⟨n1, n2⟩ := k2.step t2 z1 z2 w2 w3
        have es : (t.1.take (j + 1)).sum.toNat = (t.1.take j).sum.toNat + k.toNat := by
          have := (sum_take t.1 t2 j).1
          rw [sum_take_succ z1]
          omega
        have ff := NumI.fit (spot := spot) (sm (j + 1)) t4.2.1
        rw [es, pow_add2, pow_add2, ← Nat.mul_assoc, ← Nat.mul_assoc] at ff
        refine hm S2 z w u v _ _ _ _ _ k1 w1 k2.vb w2 (NumI.fit (spot := spot) (sm j) t4.2.1) (fitP (by omega)) ff ?_
        repeat' (walk_at "wp")
        exact ⟨_, _, _, _, rfl, rfl, PairP.enc _, ⟨VB.low n1, by rw [val_low n1.1]; exact n2⟩⟩
      · obtain ⟨z, u, x5, x6, rfl, rfl, k1, k2⟩ := h
        have el : (((t.1.map D.int).zip (spot.map Lib.encI)).map fun r => D.tup [r.1, r.2]).length = t.1.length := zip_len t1
        have k3 := k2.vb
        have k4 := k2.v
        dsimp only at k3 k4
        rw [el, List.take_length] at k3
        rw [el, List.take_length, t1, List.take_length] at k4
        have k3 := term_vb (spot := spot) (by have := sm t.1.length; rw [List.take_length] at this; exact this) k3
        have hs2 := h4.addq k3
        have pt := prodD_take dens (i + 1)
        rw [prodD_snoc e] at pt
        have fitT : prodD (ts.take i) * 2 ^ (1552 * i) * (t.2.2.natAbs * 2 ^ 1552) = prodD (ts.take i) * t.2.2.natAbs * 2 ^ (1552 * (i + 1)) := by
          rw [Nat.mul_add, Nat.pow_add, Nat.mul_one]
          grind
        have len7 := ht.len
        have pri := Nat.le_trans (prodD_take dens i) ht.pr
        repeat' (walk_at "wp")
        refine ha S2 y z r u _ _ _ _ _ h2 k1 h4 k3 (tot_fit (i := i) (by omega) (Nat.le_refl _) (Nat.mul_le_mul_right _ pri)) ?_ ?_ ?_
        · exact tot_fit (i := 1) (by omega) (by omega) (Nat.mul_le_mul t4.2.1 (Nat.le_refl _))
        · rw [fitT]
          exact tot_fit (i := i + 1) (by omega) (by rw [Nat.add_mul, Nat.one_mul]; exact Nat.le_refl _) (Nat.mul_le_mul_right _ (Nat.le_trans pt ht.pr))
        · repeat' (walk_at "wp")
          refine ⟨_, _, _, _, _, _, rfl, rfl, PairP.enc _, hi, ?_, low_gcd hs2.1, ?_⟩
          · rw [prodD_snoc e, ← fitT, Nat.add_mul, Nat.one_mul]
            exact VB.low hs2
          · rw [val_low hs2.1]
            show val (r.1 * u.2 + u.1 * r.2, r.2 * u.2) = _
            rw [val_add h4.1 k3.1, h6, k4]
            unfold worthR
            rw [List.take_add_one, e, List.map_append, sumR_app]
            show _ = _ + (_ + 0)
            grind
  · obtain ⟨y, r, x3, x4, x5, x6, rfl, rfl, h2, h3, h4, h5, h6⟩ := h
    have el : (ts.map encTm, ([] : Chk)).1.length = ts.length := by rw [List.length_map]
    rw [el, List.take_length] at h4 h6
    repeat' (walk_at "wp")
    have len7 := ht.len
    exact q y r h2 h4.1 h5 (h4.le (Nat.mul_le_mul_right _ len7) (Nat.mul_le_mul ht.pr (Nat.pow_le_pow_right (by decide) (by omega)))) h6
end Lk4
set_option exponentiation.threshold 20000
namespace Lk4
open PySem Mp Wp Qd
local macro_rules | `(tactic| walk_at "wd") => `(tactic| first
  | assumption | exact lt_of_get (by assumption) | exact lt_of_get (New.at_ (by assumption)) | exact lt_of_get (Wr.at_ (by assumption)) | exact Tp.lt (by assumption)
  | (refine New.lt2 (by assumption) ?_; (walk_at "wd"))
  | (refine Wr.lt2 (by assumption) ?_; (walk_at "wd"))
  | (refine Gr.lt2 (by assumption) ?_; (walk_at "wd")))
local macro_rules | `(tactic| walk_at "wn") => `(tactic| first | assumption | exact Ne.symm (by assumption) | exact New.ne2 (by assumption) (by (walk_at "wd")) | exact Ne.symm (New.ne2 (by assumption) (by (walk_at "wd"))) | omega)
local macro_rules | `(tactic| walk_at "wl") => `(tactic| first
  | assumption | exact New.at_ (by assumption) | exact Wr.at_ (by assumption)
  | (refine New.old (by assumption) _ _ ?_; (walk_at "wl"))
  | (refine Gr.o0 (by assumption) ?_; (walk_at "wl"))
  | (refine Gr.o1 (by assumption) (by (walk_at "wn")) ?_; (walk_at "wl"))
  | (refine Gr.o2 (by assumption) (by (walk_at "wn")) (by (walk_at "wn")) ?_; (walk_at "wl"))
  | (refine Wr.old (by assumption) _ _ (by (walk_at "wn")) ?_; (walk_at "wl")))
local macro_rules | `(tactic| walk_at "ws") => `(tactic| first
  | assumption
  | (refine New.tp (by assumption) ?_; (walk_at "ws"))
  | (refine Gr.tp0 (by assumption) ?_; (walk_at "ws"))
  | (refine Gr.tp1 (by assumption) (by omega) ?_; (walk_at "ws"))
  | (refine Wr.tp (by assumption) (by omega) ?_; (walk_at "ws")))
local macro_rules | `(tactic| walk_at "wz2") => `(tactic| first | assumption | exact le_sz2 (by first | omega | (simp only [List.length_append, List.length_map, List.length_cons, List.length_nil]; omega)))
local macro_rules | `(tactic| walk_at "wz") => `(tactic| first | assumption | exact Lib.le_sz (by first | omega | (simp only [List.length_append, List.length_map, List.length_cons, List.length_nil]; omega)))
local macro_rules | `(tactic| walk_at "wqb") => `(tactic| with_reducible first
  | (apply q_catT; (walk_at "wz")) | (apply q_catL; (walk_at "wl"); (walk_at "wl"); (walk_at "wz"); intro _ _ _)
  | refine q_add ?_ | refine q_sub ?_ | (apply q_mul; first | assumption | exact mulx64 (by omega) (by omega)) | (apply q_mod; first | assumption | omega) | (apply q_fdvx; (first | assumption | omega); assumption) | (apply q_pow; decide))
local macro_rules | `(tactic| walk_at "wqc") => `(tactic| with_reducible first
  | refine q_eqi ?_ | refine q_nei ?_ | refine q_lti ?_ | refine q_gti ?_ | refine q_lei ?_ | refine q_gei ?_ | refine q_is ?_ | refine q_isnot ?_)
local macro_rules | `(tactic| walk_at "wqf") => `(tactic| with_reducible first
  | refine q_lenT ?_ | (apply q_lenL; (walk_at "wl")) | refine q_abs ?_ | (apply q_tupL; (walk_at "wl")) | refine q_listT (fun _ _ _ => ?_) | (apply q_str; assumption))
local macro_rules | `(tactic| walk_at "wqx") => `(tactic| with_reducible first
  | refine q_ixt rfl ?_ | refine q_ixw rfl ?_ | (apply q_ixl; (walk_at "wl"); exact rfl))
local macro_rules | `(tactic| walk_at "wpE") => `(tactic| with_reducible first
  | refine w_var rfl ?_ | refine w_con ?_ | refine w_call ?_ | refine w_ix ?_ | refine w_bin ?_ | refine w_cmp ?_ | refine w_bi ?_
  | refine w_isi ?_ | refine w_tup ?_ | refine w_lst ?_ | refine w_newT (fun _ _ _ => ?_) | refine w_chn ?_ | refine w_andV ?_ | refine w_orV ?_ | refine w_notV ?_ | refine w_neg ?_ | refine w_ife ?_
  | refine w_sl ?_ | refine w_rev ?_ | refine w_isinF ?_ | refine w_isinT ?_ | refine w_app ?_ | refine w_get2 ?_ | refine w_popK ?_ | refine w_comp ?_ | refine w_glob rfl ?_
  | (dsimp only [List.set]; refine w_var rfl ?_))
local macro_rules | `(tactic| walk_at "wpS") => `(tactic| first
  | with_reducible first
    | refine w_asg ?_ | refine w_ret ?_ | refine w_ex ?_ | refine w_nil ?_ | refine w_app1 ?_ | refine w_app0 ?_ | refine w_par ?_ | refine w_sub ?_ | refine w_unp ?_ | refine w_for ?_ | refine w_retN ?_
  | ((with_reducible refine w_if' ?_ ?_ ?_); exact rfl; exact rfl))
local macro_rules | `(tactic| walk_at "wp") => `(tactic| first
  | ((with_reducible refine gE ?_); (walk_at "wpE"))
  | ((with_reducible refine gA ?_); with_reducible first | refine w_acons ?_ | refine w_anil ?_)
  | ((with_reducible refine gS ?_); (walk_at "wpS"))
  | ((with_reducible refine gT ?_); with_reducible first | refine w_tof ?_ | refine w_tand ?_ | refine w_tor ?_ | refine w_tnot ?_ | refine w_yes ?_)
  | ((with_reducible refine gB ?_); (walk_at "wqb"))
  | ((with_reducible refine gC ?_); (walk_at "wqc"))
  | ((with_reducible refine gX ?_); (walk_at "wqx"))
  | ((with_reducible refine gF ?_); (walk_at "wqf"))
  | with_reducible first
    | refine q_truthb ?_ | refine fl_rt ?_ | refine fl_nx ?_ | refine ex_bl ?_ | refine ex_int ?_ | (refine and_le ?_ ?_; exact Lib.le_sz (by simp))
    | refine splitNt ?_ | refine splitNf ?_ | refine splitT ?_ | refine splitF ?_ | refine splitD (fun _ => ?_) (fun _ => ?_) | refine splitND (fun _ => ?_) (fun _ => ?_)
    | refine w_onil ?_ | refine w_ocons ?_ | refine w_itv ?_ | refine w_itr ?_ | refine ok_quiet ?_
    | refine q_slT ?_ | refine q_rev ?_ | refine q_iterT ?_ | (apply q_iterL; (walk_at "wl")) | (apply q_rng1; omega) | (apply q_rng2; omega; omega)
    | (apply q_isDic; (walk_at "wl")) | (apply q_isDcu; (walk_at "wl")) | refine q_truthi ?_
    | (apply ex_app; (walk_at "wl")) | (apply ex_app2; (walk_at "wl"); (walk_at "wz2"); intro _ _)
    | refine splitN (fun _ => ?_) (fun _ => ?_)
  | ((with_reducible apply ex_put); exact rfl)
  | intro _)
def ir_law_is_number : Is :=
  (.cons (.ifs (.orV (.notV (.cons (.isi .tup (.var 0)) .nil)) (.cons (.cmp .ne (.bi .len (.cons (.var 0) .nil)) (.con (.int 2))) .nil))
  (.cons (.ret (.con (.bl false)))
  .nil)
  .nil)
  (.cons (.for_ (.nm 1) (.itv (.var 0))
  (.cons (.ifs (.orV (.notV (.cons (.isi .int (.var 1)) .nil)) (.cons (.isi .bool (.var 1)) .nil))
  (.cons (.ret (.con (.bl false)))
  .nil)
  .nil)
  .nil))
  (.cons (.ret (.andV (.cmp .gt (.ix (.var 0) (.con (.int 1))) (.con (.int 0))) (.cmp .eq (.call "_law_low" (.cons (.ix (.var 0) (.con (.int 0))) (.cons (.ix (.var 0) (.con (.int 1))) .nil))) (.var 0))))
  .nil)))
/-! ### the worth, told by the law -/
/-- what stands after c turns of a term's j-th power -/
structure NumJ (t : List Int × Q2) (spot : List Q2) (j : Nat) (q : Q2) (c : Nat) (r : Q2) : Prop where
  vb : VB (7 * A100 * 2 ^ (100 * ((t.1.take j).sum.toNat + c))) (t.2.2.natAbs * 2 ^ (97 * ((t.1.take j).sum.toNat + c))) r
  v : val r = val t.2 * mono (t.1.take j) (spot.take j) * val q ^ c
theorem fitS {s d : Nat} (hs : s ≤ 16) (hd : d ≤ 2 ^ 679) : Fit (7 * A100 * 2 ^ (100 * s)) (d * 2 ^ (97 * s)) := by
  have e1 : (2 : Nat) ^ (100 * s) ≤ 2 ^ 1600 := Nat.pow_le_pow_right (by decide) (by omega)
  have e2 : (2 : Nat) ^ (97 * s) ≤ 2 ^ 1552 := Nat.pow_le_pow_right (by decide) (by omega)
  have e3 : 7 * A100 ≤ 2 ^ 103 := by decide
  have f1 := Nat.mul_le_mul e3 e1
  have f2 := Nat.mul_le_mul hd e2
  rw [← Nat.pow_add] at f1 f2
  exact fitB f1 f2 (by decide)
theorem NumJ.of {t : List Int × Q2} {spot : List Q2} {j : Nat} {q r : Q2} (h : NumI t spot j r) : NumJ t spot j q 0 r := ⟨h.vb, by rw [h.v, Rat.pow_zero]; grind⟩
theorem NumJ.step {t : List Int × Q2} {spot : List Q2} {j c : Nat} {q r : Q2} (h : NumJ t spot j q c r) (hq : VB A100 B97 q) : NumJ t spot j q (c + 1) (mulQ r q) := by
  refine ⟨?_, ?_⟩
  · have := h.vb.mul hq
    refine this.le ?_ ?_
    · rw [← Nat.add_assoc, pow_add2 _ 1]
      rw [Nat.mul_assoc]
      exact Nat.le_refl _
    · rw [← Nat.add_assoc, pow_add2 _ 1]
      rw [Nat.mul_assoc]
      exact Nat.le_refl _
  · show val (r.1 * q.1, r.2 * q.2) = _
    rw [val_mul h.vb.1 hq.1, h.v, Rat.pow_succ]
    grind
theorem NumJ.done {t : List Int × Q2} {spot : List Q2} {j : Nat} {q r : Q2} {k : Int} (h : NumJ t spot j q k.toNat r) (h0 : ∀ x ∈ t.1, 0 ≤ x) (e1 : t.1[j]? = some k) (e2 : spot[j]? = some q) : NumI t spot (j + 1) r := by
  have hk : 0 ≤ k := h0 k (List.mem_of_getElem? e1)
  have s0 := (sum_take t.1 h0 j).1
  have es : (t.1.take (j + 1)).sum.toNat = (t.1.take j).sum.toNat + k.toNat := by
    rw [sum_take_succ e1]
    omega
  refine ⟨by rw [es]; exact h.vb, ?_⟩
  rw [h.v, mono_snoc _ _ _ _ _ e1 e2]
  grind
def LawAtX (f : List D → M D) : Prop := ∀ (S : Sto) (n : Nat) (m : DQ) (spot : List Q2) (Q : D → Sto → Prop), S[n]? = some (.dT (encM Lib.encI m)) → (m.map (·.1)).Nodup → TmOk spot m → (∀ q ∈ spot, VB A100 B97 q) →
  (∀ r S', Wr S S' n (.dT (encM Lib.encI m)) → VB (7 * W1703) (2 ^ 679 * 2 ^ (1552 * 7)) r → val r = worthR m spot → Q (Lib.encI r) S') → Ok (f [.loc n, .tup (spot.map Lib.encI)] S) Q
theorem keys_at {m : DQ} {i : Nat} {d : D} (h : ((encM Lib.encI m).map fun p => unkeyT p.1)[i]? = some d) : ∃ t, m[i]? = some t ∧ d = tupI t.1 := by
  unfold encM at h
  rw [List.map_map, List.getElem?_map] at h
  cases e : m[i]? with
  | none => rw [e] at h; cases h
  | some t =>
    rw [e] at h
    cases h
    exact ⟨t, rfl, unkeyT_kOf _⟩
theorem keys_len {m : DQ} : ((encM Lib.encI m).map fun p => unkeyT p.1).length = m.length := by
  rw [List.length_map, encM_len]
theorem lawAtX (G : Gt) (hm : LawMulX (G.fn "_law_mul")) (hp : PlusX (G.fn "_law_plus")) : LawAtX (specOf G 8 ir_law_at) := by
  intro S n m spot Q hn nd ht hs q
  refine fn_ok 0 ?_
  show Ok (evS G 0 ir_law_at [some (.loc n), some (.tup (spot.map Lib.encI)), none, none, none, none, none, none] S) _
  unfold ir_law_at
  repeat' (walk_at "wp")
  refine w_forD rfl hn fun S1 w1 => ?_
  have dens : ∀ p ∈ m, 0 < p.2.2 := fun p hp => (ht.it p hp).2.2.2.1
  have n1 := w1.at_
  refine w_forN (fun i δ S' => ∃ (r : Q2) (x3 x4 x5 x6 x7 : Option D), δ = [some (.loc n), some (.tup (spot.map Lib.encI)), some (Lib.encI r), x3, x4, x5, x6, x7] ∧ S' = S1 ∧ i ≤ m.length ∧ VB (i * W1703) (prodD (m.take i) * 2 ^ (1552 * i)) r ∧ val r = worthR (m.take i) spot)
    ⟨(0, 1), _, _, _, _, _, rfl, rfl, Nat.zero_le _, ⟨(show (0 : Int) < 1 by decide), Nat.le_refl _, Nat.zero_le _⟩, (val_zero (p := (0, 1)) (by decide)).mpr rfl⟩ (fun i δ S' h => ?_) (fun i d δ S' hd h => ?_) (fun δ S' h => ?_)
  · obtain ⟨_, _, _, _, _, _, _, rfl, _⟩ := h
    exact okC_one n1
  · obtain ⟨r, x3, x4, x5, x6, x7, rfl, rfl, h4, h5, h6⟩ := h
    obtain ⟨t, e, rfl⟩ := keys_at hd
    have hi := (List.getElem?_eq_some_iff.mp e).1
    obtain ⟨t1, t2, t3, t4⟩ := ht.it t (List.mem_of_getElem? e)
    have sm : ∀ j, (t.1.take j).sum.toNat ≤ 16 := fun j => by
      have := sum_take t.1 t2 j
      omega
    refine ⟨_, rfl, ?_⟩
    repeat' (walk_at "wp")
    refine q_ixTl n1 (keyT_tupI t.1) (by rw [getK_enc, lk_of_mem nd (List.mem_of_getElem? e)]; rfl) ?_
    repeat' (walk_at "wp")
    refine q_zipT ?_
    repeat' (walk_at "wp")
    refine ⟨t.1.map D.int, spot.map Lib.encI, rfl, rfl, ?_⟩
    refine w_forN (fun j δ S2 => ∃ (u : Q2) (x5 x6 x7 : Option D), δ = [some (.loc n), some (.tup (spot.map Lib.encI)), some (Lib.encI r), some (tupI t.1), some (Lib.encI u), x5, x6, x7] ∧ S2 = S' ∧ NumI t spot j u) ⟨_, _, _, _, rfl, rfl, NumI.start t4⟩ (fun j δ S2 h => okC_nil) (fun j d δ S2 hd h => ?_) (fun δ S2 h => ?_)
    · obtain ⟨u, x5, x6, x7, rfl, rfl, k2⟩ := h
      obtain ⟨k, qq, z1, z2, rfl⟩ := zip_pair hd
      have hk : 0 ≤ k := t2 k (List.mem_of_getElem? z1)
      have es : (t.1.take (j + 1)).sum.toNat = (t.1.take j).sum.toNat + k.toNat := by
        have := (sum_take t.1 t2 j).1
        rw [sum_take_succ z1]
        omega
      have sj := sm (j + 1)
      have hq := hs qq (List.mem_of_getElem? z2)
      refine ⟨_, rfl, ?_⟩
      repeat' (walk_at "wp")
      refine w_forN (fun c δ S3 => ∃ (w : Q2) (x7 : Option D), δ = [some (.loc n), some (.tup (spot.map Lib.encI)), some (Lib.encI r), some (tupI t.1), some (Lib.encI w), some (.int k), some (Lib.encI qq), x7] ∧ S3 = S2 ∧ NumJ t spot j qq c w) ⟨_, _, rfl, rfl, NumJ.of k2⟩ (fun j δ S2 h => okC_nil) (fun c d δ S3 hd h => ?_) (fun δ S3 h => ?_)
      · obtain ⟨w, x7, rfl, rfl, k3⟩ := h
        obtain ⟨rfl, hc⟩ := rngD_get hd
        have k4 := k3.step hq
        refine ⟨_, rfl, ?_⟩
        repeat' (walk_at "wp")
        refine hm S3 w qq _ _ _ _ _ k3.vb hq (fitS (by omega) t4.2.1) fitA ?_
        repeat' (walk_at "wp")
        exact ⟨_, _, rfl, rfl, k4⟩
      · obtain ⟨w, x7, rfl, rfl, k3⟩ := h
        rw [rngD_len] at k3
        repeat' (walk_at "wp")
        exact ⟨_, _, _, _, rfl, rfl, k3.done t2 z1 z2⟩
    · obtain ⟨u, x5, x6, x7, rfl, rfl, k2⟩ := h
      have el : (((t.1.map D.int).zip (spot.map Lib.encI)).map fun r => D.tup [r.1, r.2]).length = t.1.length := zip_len t1
      have k3 := k2.vb
      have k4 := k2.v
      dsimp only at k3 k4
      rw [el, List.take_length] at k3
      rw [el, List.take_length, t1, List.take_length] at k4
      have k3 := term_vb (spot := spot) (by have := sm t.1.length; rw [List.take_length] at this; exact this) k3
      have hs2 := h5.plus k3
      have pt := prodD_take dens (i + 1)
      rw [prodD_snoc e] at pt
      have fitT : prodD (m.take i) * 2 ^ (1552 * i) * (t.2.2.natAbs * 2 ^ 1552) = prodD (m.take i) * t.2.2.natAbs * 2 ^ (1552 * (i + 1)) := by
        rw [Nat.mul_add, Nat.pow_add, Nat.mul_one]
        grind
      have len7 := ht.len
      have pri := Nat.le_trans (prodD_take dens i) ht.pr
      repeat' (walk_at "wp")
      refine hp S2 r u _ _ _ _ _ h5 k3 (tot_fit (i := i) (by omega) (Nat.le_refl _) (Nat.mul_le_mul_right _ pri)) ?_ ?_
      · exact tot_fit (i := 1) (by omega) (by omega) (Nat.mul_le_mul t4.2.1 (Nat.le_refl _))
      · repeat' (walk_at "wp")
        refine ⟨_, _, _, _, _, _, rfl, rfl, hi, ?_, ?_⟩
        · rw [prodD_snoc e, ← fitT, Nat.add_mul, Nat.one_mul]
          exact hs2
        · rw [val_plus h5.1 k3.1, h6, k4]
          unfold worthR
          rw [List.take_add_one, e, List.map_append, sumR_app]
          show _ = _ + (_ + 0)
          grind
  · obtain ⟨r, x3, x4, x5, x6, x7, rfl, rfl, h4, h5, h6⟩ := h
    rw [keys_len, List.take_length] at h5 h6
    refine ⟨n1, fun S3 w3 => ?_⟩
    repeat' (walk_at "wp")
    have len7 := ht.len
    exact q r S3 (w1.trans w3) (h5.le (Nat.mul_le_mul_right _ len7) (Nat.mul_le_mul ht.pr (Nat.pow_le_pow_right (by decide) (by omega)))) h6
/-! ### the degree -/
def degI (ts : DQ) : Int := match ts.map fun t => t.1.sum with
  | [] => 0
  | x :: r => maxL x r
theorem q_maxdL {S : Sto} {n : Nat} {ds : List D} {ns : List Int} {z : D} {Q : D → Sto → Prop} (h1 : S[n]? = some (.lst ds)) (h2 : dInts ds = some ns) (h : Q (match ns with | [] => z | x :: r => .int (maxL x r)) S) : Ok (maxdF (.loc n) z S) Q := by
  refine ⟨_, S, ?_, h⟩
  simp only [maxdF, h1, Option.map_some, rdOb, h2]
  cases ns <;> rfl
theorem q_maxL {S : Sto} {n : Nat} {ds : List D} {x : Int} {r : List Int} {Q : D → Sto → Prop} (h1 : S[n]? = some (.lst ds)) (h2 : dInts ds = some (x :: r)) (h : Q (.int (maxL x r)) S) : Ok (biF .max [.loc n] S) Q := by
  refine ⟨_, S, ?_, h⟩
  simp only [biF, h1, Option.map_some, rdOb, h2]
theorem dInts_map : ∀ ns : List Int, dInts (ns.map D.int) = some ns
  | [] => rfl
  | n :: ns => by
    show (dInts (ns.map D.int)).map (n :: ·) = _
    rw [dInts_map ns]
    rfl
theorem w_maxd {G : Gt} {δ : Mp.Env} {S : Sto} {a d : Ie} {Q : D → Sto → Prop} (h : Ok (evE G a δ S) fun x S1 => Ok (evE G d δ S1) fun z S2 => Ok (maxdF x z S2) Q) : Ok (evE G (.maxd a d) δ S) Q := by
  obtain ⟨x, S1, e1, z, S2, e2, r, S3, e3, h⟩ := h
  refine ⟨r, S3, ?_, h⟩
  rw [evE]
  show (evE G a δ S).bind _ = _
  rw [e1]
  show (evE G d δ S1).bind _ = _
  rw [e2]
  exact e3
def DegX (f : List D → M D) : Prop := ∀ (S : Sto) (many : Int) (ts : DQ) (Q : D → Sto → Prop), ts.length ≤ 1000 → (∀ S', Gr [] S S' → Q (.int (degI ts)) S') → Ok (f [encS many ts] S) Q
theorem degX (G : Gt) : DegX (specOf G 3 ir_degree) := by
  intro S many ts Q hl q
  refine fn_ok 0 ?_
  show Ok (evS G 0 ir_degree [some (.tup [.int many, .tup (ts.map encTm)]), none, none] S) _
  unfold ir_degree
  refine w_ret (w_maxd ?_)
  repeat' (walk_at "wp")
  rename_i l S1 w1
  refine w_lcN (fun i acc S' => i ≤ ts.length ∧ acc = ((ts.take i).map fun t => t.1.sum).map D.int ∧ Wr S1 S' l (.lst acc)) ⟨Nat.zero_le _, rfl, Wr.same w1.at_⟩ (fun i acc S' h => okC_nil) (fun i d acc S' hd h => ?_) (fun acc S' h => ?_)
  · obtain ⟨h1, rfl, h2⟩ := h
    have hd : (ts.map encTm)[i]? = some d := hd
    rw [List.getElem?_map] at hd
    cases e : ts[i]? with
    | none => rw [e] at hd; cases hd
    | some t =>
      rw [e] at hd
      cases hd
      have hi := (List.getElem?_eq_some_iff.mp e).1
      refine ⟨_, rfl, ?_⟩
      repeat' (walk_at "wp")
      refine q_sumP (x := tupI t.1) rfl (dInts_map _) ?_
      refine ⟨h2.at_, le_sz2 (by rw [List.length_map, List.length_map, List.length_take]; omega), fun S3 w3 => ⟨hi, ?_, ?_⟩⟩
      · rw [List.take_add_one, e]
        simp only [List.map_append, Option.toList, List.map_cons, List.map_nil]
      · exact h2.trans w3
  · obtain ⟨h1, rfl, h2⟩ := h
    have el : (ts.map encTm, ([] : Chk)).1.length = ts.length := by rw [List.length_map]
    rw [el, List.take_length] at h2
    repeat' (walk_at "wp")
    refine q_maxdL h2.at_ (dInts_map _) ?_
    have g : Gr [] S S' := ⟨by have := h2.len; have := w1.len; omega, fun k u _ e => h2.old k u (w1.ne e) (w1.old k u e)⟩
    have := q S' g
    unfold degI at this
    revert this
    cases ts.map fun t => t.1.sum with
    | nil => exact id
    | cons x r => exact id
/-! ### the terms in order -/
theorem fm_congr {α β : Type} {f g : α → Option β} : ∀ {l : List α}, (∀ x ∈ l, f x = g x) → l.filterMap f = l.filterMap g
  | [], _ => rfl
  | x :: l, h => by
    rw [List.filterMap_cons, List.filterMap_cons, h x (List.mem_cons_self ..), fm_congr fun y hy => h y (List.mem_cons_of_mem _ hy)]
theorem sumQ_perm {m : DQ} (nd : (m.map (·.1)).Nodup) (nz : ∀ p ∈ m, p.2.1 ≠ 0) : (sumQ m).Perm (m.map fun p => (p.1, Lib.lowF p.2.1 p.2.2)) := by
  unfold sumQ
  refine ((srtL_perm _).filterMap _).trans ?_
  rw [List.filterMap_map]
  have e : m.filterMap (termQ m ∘ fun p => p.1) = m.filterMap (some ∘ fun p => (p.1, Lib.lowF p.2.1 p.2.2)) := by
    apply fm_congr
    intro p hp
    show termQ m p.1 = _
    unfold termQ
    rw [lk_of_mem nd hp]
    dsimp only
    rw [if_pos (nz p hp)]
    rfl
  rw [e, List.filterMap_eq_map]
theorem prodD_perm {a b : DQ} (h : a.Perm b) : prodD a = prodD b := by
  induction h with
  | nil => rfl
  | cons x h ih => show x.2.2.natAbs * _ = x.2.2.natAbs * _; rw [ih]
  | swap x y l => show y.2.2.natAbs * (x.2.2.natAbs * _) = x.2.2.natAbs * (y.2.2.natAbs * _); grind
  | trans h1 h2 ih1 ih2 => exact ih1.trans ih2
def lowM (m : DQ) : DQ := m.map fun p => (p.1, Lib.lowF p.2.1 p.2.2)
theorem prodD_low : ∀ {m : DQ}, (∀ p ∈ m, 0 < p.2.2) → prodD (lowM m) ≤ prodD m
  | [], _ => Nat.le_refl _
  | p :: m, h => by
    have h1 := prodD_low (m := m) fun q hq => h q (List.mem_cons_of_mem _ hq)
    have h0 := h p (List.mem_cons_self ..)
    have h2 : VB p.2.1.natAbs p.2.2.natAbs p.2 := ⟨h0, Nat.le_refl _, by
      have : 1 ≤ p.2.2.natAbs := by omega
      exact Nat.le_mul_of_pos_right _ this⟩
    exact Nat.mul_le_mul h2.low.2.1 h1
theorem worthR_low {m : DQ} {spot : List Q2} (h : ∀ p ∈ m, 0 < p.2.2) : worthR (lowM m) spot = worthR m spot := by
  unfold worthR lowM
  rw [List.map_map]
  congr 1
  apply List.map_congr_left
  intro p hp
  show val (Lib.lowF p.2.1 p.2.2) * _ = _
  rw [val_low (h p hp)]
theorem worthR_perm {a b : DQ} {spot : List Q2} (h : a.Perm b) : worthR a spot = worthR b spot := sumR_perm (h.map _)
theorem DrX.tm {many : Int} {m : DQ} {spot : List Q2} (h : DrX many 7 m) (hs : (spot.length : Int) = many) : TmOk spot m := by
  refine ⟨h.len, fun t ht => ?_, h.pr⟩
  obtain ⟨⟨h1, h2, h3⟩, h4, h5⟩ := h.it t ht
  exact ⟨by omega, h2, h3, h4⟩
theorem TmOk.sum {m : DQ} {spot : List Q2} (h : TmOk spot m) (nd : (m.map (·.1)).Nodup) (nz : ∀ p ∈ m, p.2.1 ≠ 0) : TmOk spot (sumQ m) := by
  have p := sumQ_perm nd nz
  refine ⟨?_, fun t ht => ?_, ?_⟩
  · rw [p.length_eq, List.length_map]
    exact h.len
  · obtain ⟨q, hq, rfl⟩ := List.mem_map.mp (p.mem_iff.mp ht)
    obtain ⟨h1, h2, h3, h4⟩ := h.it q hq
    exact ⟨h1, h2, h3, VB.low h4⟩
  · rw [prodD_perm p]
    exact Nat.le_trans (prodD_low fun p hp => (h.it p hp).2.2.2.1) h.pr
theorem worthR_sum {m : DQ} {spot : List Q2} (h : ∀ p ∈ m, 0 < p.2.2) (nd : (m.map (·.1)).Nodup) (nz : ∀ p ∈ m, p.2.1 ≠ 0) : worthR (sumQ m) spot = worthR m spot := by
  rw [worthR_perm (sumQ_perm nd nz)]
  exact worthR_low h
theorem max_eq {a b : Int} {l r : List Int} (h : ∀ x, x ∈ a :: l ↔ x ∈ b :: r) : maxL a l = maxL b r := by
  obtain ⟨h1, h2⟩ := maxL_ok l a
  obtain ⟨k1, k2⟩ := maxL_ok r b
  have := h2 _ ((h _).mpr k1)
  have := k2 _ ((h _).mp h1)
  omega
theorem degI_sum {many : Int} {m : DQ} (h : DrX many 7 m) : degI (sumQ m) = maxL 0 (m.map fun p => p.1.sum) := by
  have p := sumQ_perm h.nd fun p hp => (h.it p hp).2.2
  have e : ((sumQ m).map fun t => t.1.sum).Perm (m.map fun p => p.1.sum) := by
    have := p.map fun t => t.1.sum
    rw [List.map_map] at this
    exact this
  have pos : ∀ x ∈ m.map (fun p => p.1.sum), 0 ≤ x := fun x hx => by
    obtain ⟨q, hq, rfl⟩ := List.mem_map.mp hx
    have := sum_take q.1 (h.it q hq).1.2.1 0
    rw [List.take_zero, List.sum_nil] at this
    exact this.2
  unfold degI
  generalize (sumQ m).map (fun t => t.1.sum) = A at e ⊢
  generalize m.map (fun p => p.1.sum) = B at e pos ⊢
  cases A with
  | nil =>
    rw [List.nil_perm.mp e]
    rfl
  | cons a A =>
    show maxL a A = maxL 0 B
    obtain ⟨h1, h2⟩ := maxL_ok A a
    obtain ⟨k1, k2⟩ := maxL_ok B 0
    have a1 := e.mem_iff.mp h1
    have a2 := k2 _ (List.mem_cons_of_mem _ a1)
    have a3 := pos _ a1
    rcases List.mem_cons.mp k1 with z | z
    · omega
    · have := h2 _ (e.mem_iff.mpr z)
      omega
/-! ### a number told -/
def IsnX (f : List D → M D) : Prop := ∀ (S : Sto) (x : D) (p : Q2) (Q : D → Sto → Prop), PairP x p → 0 < p.2 → Int.gcd p.1 p.2 = 1 → p.1.natAbs < 2 ^ 13500 → p.2.natAbs < 2 ^ 13500 → Q (.bl true) S → Ok (f [x] S) Q
theorem isTup {S : Sto} {x : D} {ds : List D} {Q : D → Sto → Prop} (e : tp? x = some ds) (h : Q (.bl true) S) : Ok (isF Ty5.tup.nm x S) Q := by
  cases x <;> first | (cases e; done) | exact ⟨_, S, rfl, h⟩
theorem isInt {S : Sto} {i : Int} {Q : D → Sto → Prop} (h : Q (.bl true) S) : Ok (isF Ty5.int.nm (.int i) S) Q := ⟨_, S, rfl, h⟩
theorem isBool {S : Sto} {i : Int} {Q : D → Sto → Prop} (h : Q (.bl false) S) : Ok (isF Ty5.bool.nm (.int i) S) Q := ⟨_, S, rfl, h⟩
theorem isnX (G : Gt) (hl : LowX (G.fn "_law_low")) : IsnX (specOf G 2 ir_law_is_number) := by
  intro S x p Q hx h0 hg b1 b2 q
  have low := low_id h0 hg
  have eqs : Mp.eqF (Lib.encI p) x S = .ok true S := by
    have := Enc.q2.eqF (by decide) p p S
    rw [decide_eq_true rfl] at this
    rcases hx.cases with rfl | rfl
    · exact this
    · exact this
  obtain ⟨p1, p2⟩ := p
  dsimp only at h0 b1 b2 low
  refine fn_ok 0 ?_
  show Ok (evS G 0 ir_law_is_number [some x, none] S) _
  unfold ir_law_is_number
  repeat' (walk_at "wp")
  refine isTup hx ?_
  repeat' (walk_at "wp")
  refine q_lenP hx ?_
  repeat' (walk_at "wp")
  · rename_i c
    exact (c rfl).elim
  refine q_iterP hx ?_
  repeat' (walk_at "wp")
  dsimp only
  refine w_fcons (by rfl) (by rfl) ?_
  repeat' (walk_at "wp")
  refine isInt ?_
  repeat' (walk_at "wp")
  refine isBool ?_
  repeat' (walk_at "wp")
  refine w_fcons (by rfl) (by rfl) ?_
  repeat' (walk_at "wp")
  refine isInt ?_
  repeat' (walk_at "wp")
  refine isBool ?_
  repeat' (walk_at "wp")
  refine w_fnil (by rfl) ?_
  repeat' (walk_at "wp")
  refine q_ixp hx rfl ?_
  repeat' (walk_at "wp")
  · refine q_ixp hx rfl ?_
    repeat' (walk_at "wp")
    refine q_ixp hx rfl ?_
    repeat' (walk_at "wp")
    refine hl S _ _ _ h0 b1 b2 ?_
    rw [low]
    repeat' (walk_at "wp")
    refine q_eqx eqs ?_
    repeat' (walk_at "wp")
    exact q
  · rename_i c
    exact (c h0).elim
end Lk4
set_option exponentiation.threshold 20000
namespace Lk4
open PySem Mp Wp Qd
local macro_rules | `(tactic| walk_at "wd") => `(tactic| first
  | assumption | exact lt_of_get (by assumption) | exact lt_of_get (New.at_ (by assumption)) | exact lt_of_get (Wr.at_ (by assumption)) | exact Tp.lt (by assumption)
  | (refine New.lt2 (by assumption) ?_; (walk_at "wd"))
  | (refine Wr.lt2 (by assumption) ?_; (walk_at "wd"))
  | (refine Gr.lt2 (by assumption) ?_; (walk_at "wd")))
local macro_rules | `(tactic| walk_at "wn") => `(tactic| first | assumption | exact Ne.symm (by assumption) | exact New.ne2 (by assumption) (by (walk_at "wd")) | exact Ne.symm (New.ne2 (by assumption) (by (walk_at "wd"))) | omega)
local macro_rules | `(tactic| walk_at "wl") => `(tactic| first
  | assumption | exact New.at_ (by assumption) | exact Wr.at_ (by assumption)
  | (refine New.old (by assumption) _ _ ?_; (walk_at "wl"))
  | (refine Gr.o0 (by assumption) ?_; (walk_at "wl"))
  | (refine Gr.o1 (by assumption) (by (walk_at "wn")) ?_; (walk_at "wl"))
  | (refine Gr.o2 (by assumption) (by (walk_at "wn")) (by (walk_at "wn")) ?_; (walk_at "wl"))
  | (refine Wr.old (by assumption) _ _ (by (walk_at "wn")) ?_; (walk_at "wl")))
local macro_rules | `(tactic| walk_at "ws") => `(tactic| first
  | assumption
  | (refine New.tp (by assumption) ?_; (walk_at "ws"))
  | (refine Gr.tp0 (by assumption) ?_; (walk_at "ws"))
  | (refine Gr.tp1 (by assumption) (by omega) ?_; (walk_at "ws"))
  | (refine Wr.tp (by assumption) (by omega) ?_; (walk_at "ws")))
local macro_rules | `(tactic| walk_at "wz2") => `(tactic| first | assumption | exact le_sz2 (by first | omega | (simp only [List.length_append, List.length_map, List.length_cons, List.length_nil]; omega)))
local macro_rules | `(tactic| walk_at "wz") => `(tactic| first | assumption | exact Lib.le_sz (by first | omega | (simp only [List.length_append, List.length_map, List.length_cons, List.length_nil]; omega)))
local macro_rules | `(tactic| walk_at "wqb") => `(tactic| with_reducible first
  | (apply q_catT; (walk_at "wz")) | (apply q_catL; (walk_at "wl"); (walk_at "wl"); (walk_at "wz"); intro _ _ _)
  | refine q_add ?_ | refine q_sub ?_ | (apply q_mul; first | assumption | exact mulx64 (by omega) (by omega)) | (apply q_mod; first | assumption | omega) | (apply q_fdvx; (first | assumption | omega); assumption) | (apply q_pow; decide))
local macro_rules | `(tactic| walk_at "wqc") => `(tactic| with_reducible first
  | refine q_eqi ?_ | refine q_nei ?_ | refine q_lti ?_ | refine q_gti ?_ | refine q_lei ?_ | refine q_gei ?_ | refine q_is ?_ | refine q_isnot ?_)
local macro_rules | `(tactic| walk_at "wqf") => `(tactic| with_reducible first
  | refine q_lenT ?_ | (apply q_lenL; (walk_at "wl")) | refine q_abs ?_ | (apply q_tupL; (walk_at "wl")) | refine q_listT (fun _ _ _ => ?_) | (apply q_str; assumption))
local macro_rules | `(tactic| walk_at "wqx") => `(tactic| with_reducible first
  | refine q_ixt rfl ?_ | refine q_ixw rfl ?_ | (apply q_ixl; (walk_at "wl"); exact rfl))
local macro_rules | `(tactic| walk_at "wpE") => `(tactic| with_reducible first
  | refine w_var rfl ?_ | refine w_con ?_ | refine w_call ?_ | refine w_ix ?_ | refine w_bin ?_ | refine w_cmp ?_ | refine w_bi ?_
  | refine w_isi ?_ | refine w_tup ?_ | refine w_lst ?_ | refine w_newT (fun _ _ _ => ?_) | refine w_chn ?_ | refine w_andV ?_ | refine w_orV ?_ | refine w_notV ?_ | refine w_neg ?_ | refine w_ife ?_
  | refine w_sl ?_ | refine w_rev ?_ | refine w_isinF ?_ | refine w_isinT ?_ | refine w_app ?_ | refine w_get2 ?_ | refine w_popK ?_ | refine w_comp ?_ | refine w_glob rfl ?_
  | (dsimp only [List.set]; refine w_var rfl ?_))
local macro_rules | `(tactic| walk_at "wpS") => `(tactic| first
  | with_reducible first
    | refine w_asg ?_ | refine w_ret ?_ | refine w_ex ?_ | refine w_nil ?_ | refine w_app1 ?_ | refine w_app0 ?_ | refine w_par ?_ | refine w_sub ?_ | refine w_unp ?_ | refine w_for ?_ | refine w_retN ?_
  | ((with_reducible refine w_if' ?_ ?_ ?_); exact rfl; exact rfl))
local macro_rules | `(tactic| walk_at "wp") => `(tactic| first
  | ((with_reducible refine gE ?_); (walk_at "wpE"))
  | ((with_reducible refine gA ?_); with_reducible first | refine w_acons ?_ | refine w_anil ?_)
  | ((with_reducible refine gS ?_); (walk_at "wpS"))
  | ((with_reducible refine gT ?_); with_reducible first | refine w_tof ?_ | refine w_tand ?_ | refine w_tor ?_ | refine w_tnot ?_ | refine w_yes ?_)
  | ((with_reducible refine gB ?_); (walk_at "wqb"))
  | ((with_reducible refine gC ?_); (walk_at "wqc"))
  | ((with_reducible refine gX ?_); (walk_at "wqx"))
  | ((with_reducible refine gF ?_); (walk_at "wqf"))
  | with_reducible first
    | refine q_truthb ?_ | refine fl_rt ?_ | refine fl_nx ?_ | refine ex_bl ?_ | refine ex_int ?_ | (refine and_le ?_ ?_; exact Lib.le_sz (by simp))
    | refine splitNt ?_ | refine splitNf ?_ | refine splitT ?_ | refine splitF ?_ | refine splitD (fun _ => ?_) (fun _ => ?_) | refine splitND (fun _ => ?_) (fun _ => ?_)
    | refine w_onil ?_ | refine w_ocons ?_ | refine w_itv ?_ | refine w_itr ?_ | refine ok_quiet ?_
    | refine q_slT ?_ | refine q_rev ?_ | refine q_iterT ?_ | (apply q_iterL; (walk_at "wl")) | (apply q_rng1; omega) | (apply q_rng2; omega; omega)
    | (apply q_isDic; (walk_at "wl")) | (apply q_isDcu; (walk_at "wl")) | refine q_truthi ?_
    | (apply ex_app; (walk_at "wl")) | (apply ex_app2; (walk_at "wl"); (walk_at "wz2"); intro _ _)
    | refine splitN (fun _ => ?_) (fun _ => ?_)
  | ((with_reducible apply ex_put); exact rfl)
  | intro _)
def ir_law : Is :=
  (.cons (.asg 1 (.lst (.cons (.bi .list (.cons (.sl (.var 0) .nil (.cons (.con (.int 63)) .nil)) .nil)) (.cons (.con (.int 0)) (.cons (.con (.int 0)) (.cons (.con (.int 0)) .nil))))))
  (.cons (.for_ (.nm 2) (.itr (.cons (.con (.int 3)) .nil))
  (.cons (.asg 3 (.bin .add (.con (.int 1)) (.call "_law_draw" (.cons (.var 1) (.cons (.con (.int 4)) .nil)))))
  (.cons (.asg 4 (.call "_law_drawn" (.cons (.var 1) (.cons (.var 3) .nil))))
  (.cons (.asg 5 (.call "_law_sum" (.cons (.var 3) (.cons (.var 4) .nil))))
  (.cons (.asg 6 (.call "degree" (.cons (.var 5) .nil)))
  (.cons (.ifs (.orV (.notV (.cons (.isi .int (.var 6)) .nil)) (.orV (.cons (.isi .bool (.var 6)) .nil) (.cons (.cmp .ne (.var 6) (.bi .max (.cons (.bin .add (.lst (.cons (.con (.int 0)) .nil)) (.compD [("powers", 7)] 4 [7] .yes (.bi .sum (.cons (.var 7) .nil)))) .nil))) .nil)))
  (.cons (.ret (.con (.bl false)))
  .nil)
  .nil)
  (.cons (.asg 8 (.lst (.cons (.bi .tuple (.cons (.comp [("k", 9)] (.itr (.cons (.var 3) .nil)) [9] .yes (.call "_law_number" (.cons (.var 1) .nil))) .nil)) (.cons (.bin .mul (.tup (.cons (.tup (.cons (.con (.int 0)) (.cons (.con (.int 1)) .nil))) .nil)) (.var 3)) .nil))))
  (.cons (.ex (.app (.var 8) (.bi .tuple (.cons (.comp [("k", 9)] (.itr (.cons (.var 3) .nil)) [9] .yes (.ix (.lst (.cons (.call "_law_number" (.cons (.var 1) .nil)) (.cons (.call "_law_fraction" (.cons (.var 1) .nil)) .nil))) (.call "_law_draw" (.cons (.var 1) (.cons (.con (.int 2)) .nil))))) .nil))))
  (.cons (.for_ (.nm 10) (.itv (.var 8))
  (.cons (.asg 11 (.call "_law_at" (.cons (.var 4) (.cons (.var 10) .nil))))
  (.cons (.asg 12 (.lst (.cons (.call "worth" (.cons (.var 5) (.cons (.var 10) .nil))) (.cons (.call "worth" (.cons (.var 5) (.cons (.var 10) .nil))) .nil))))
  (.cons (.ifs (.orV (.notV (.cons (.call "_law_is_number" (.cons (.ix (.var 12) (.con (.int 0))) .nil)) .nil)) (.cons (.cmp .ne (.var 12) (.bin .mul (.lst (.cons (.call "_law_low" (.cons (.ix (.var 11) (.con (.int 0))) (.cons (.ix (.var 11) (.con (.int 1))) .nil))) .nil)) (.con (.int 2)))) .nil))
  (.cons (.ret (.con (.bl false)))
  .nil)
  .nil)
  .nil))))
  .nil)))))))))
  (.cons (.ret (.con (.bl true)))
  .nil)))
theorem tape_Tp (ns : List Int) : Tp [.lst ((Mp.cut ns none (some 63)).map D.int), .lst ((Mp.cut ns none (some 63)).map D.int), .lst [.loc 1, .int 0, .int 0, .int 0]] 2 0 :=
  ⟨by decide, ⟨Mp.cut ns none (some 63), 0, 0, 0⟩, ⟨rfl, rfl, by decide⟩, Int.le_refl _, Int.le_refl _⟩
theorem spotX {G : Gt} {t : Nat} {k c mm many : Int} {e : Ie} {S : Sto} {x0 x2 x4 x5 x6 x7 x8 x9 x10 x11 x12 : Option D} {Q : D → Sto → Prop} (m0 : 0 ≤ many) (m1 : many ≤ 4) (c0 : 0 ≤ c)
    (he : ∀ i S k, Tp S t k → k < mm → Ok (evE G e [x0, some (.loc t), x2, some (.int many), x4, x5, x6, x7, x8, some (.int i), x10, x11, x12] S) fun d S' => ∃ p, d = Lib.encI p ∧ VB A100 B97 p ∧ Tp S' t (k + c) ∧ Gr [t] S S')
    (st : Tp S t k) (hk : k + 4 * c < mm) (q : ∀ (l : Nat) (S' : Sto) (spot : List Q2), S'[l]? = some (.lst (spot.map Lib.encI)) → (spot.length : Int) = many → (∀ q ∈ spot, VB A100 B97 q) → Tp S' t (k + 4 * c) → Gr [t] S S' → Q (.loc l) S') :
    Ok (evE G (.comp [("k", 9)] (.itr (.cons (.var 3) .nil)) [9] .yes e) [x0, some (.loc t), x2, some (.int many), x4, x5, x6, x7, x8, x9, x10, x11, x12] S) Q := by
  repeat' (walk_at "wp")
  rename_i l S1 w1
  have st1 := w1.tp st
  have tl : t < l := w1.lt st
  have hl : S.length ≤ l := by rw [w1.pl]; exact Nat.le_refl _
  have g1 : Gr [t] S S1 := w1.gr
  have n1 := w1.at_
  clear w1
  refine w_lcN (fun i acc S' => i ≤ many.toNat ∧ ∃ spot : List Q2, acc = spot.map Lib.encI ∧ spot.length = i ∧ (∀ q ∈ spot, VB A100 B97 q) ∧ S'[l]? = some (.lst acc) ∧ Tp S' t (k + i * c) ∧ Gr [t] S S') ⟨Nat.zero_le _, [], rfl, rfl, (fun q hq => by cases hq), n1, st1.le (by omega), g1⟩ (fun i acc S' h => okC_nil) (fun i d acc S' hd h => ?_) (fun acc S' h => ?_)
  · obtain ⟨h1, spot, rfl, h2, h3, h4, h5, h6⟩ := h
    obtain ⟨rfl, hi⟩ := rngD_get hd
    have ic : (i : Int) * c ≤ 4 * c := Int.mul_le_mul_of_nonneg_right (by omega) c0
    refine ⟨_, rfl, ?_⟩
    repeat' (walk_at "wp")
    refine (he _ S' _ h5 (by omega)).imp fun d S2 r => ?_
    obtain ⟨p, rfl, p1, p2, p3⟩ := r
    have l2 : S2[l]? = some (.lst (spot.map Lib.encI)) := p3.o1 (by omega) h4
    refine ⟨l2, le_sz2 (by rw [List.length_map]; omega), fun S3 w3 => ⟨hi, spot ++ [p], by rw [List.map_append]; rfl, by rw [List.length_append, h2]; rfl, fun q hq => ?_, w3.at_, ?_, (h6.trans p3).wr w3 hl⟩⟩
    · rcases List.mem_append.mp hq with z | z
      · exact h3 q z
      · rw [List.mem_singleton.mp z]
        exact p1
    · refine (w3.tp tl p2).le ?_
      have : ((i + 1 : Nat) : Int) * c = (i : Int) * c + c := by
        rw [Int.natCast_add, Int.add_mul]
        omega
      omega
  · obtain ⟨h1, spot, rfl, h2, h3, h4, h5, h6⟩ := h
    rw [rngD_len] at h2 h5
    have ic : ((many.toNat : Nat) : Int) * c ≤ 4 * c := Int.mul_le_mul_of_nonneg_right (by omega) c0
    exact q l S' spot h4 (by omega) h3 (h5.le (by omega)) h6
theorem pyPair {S : Sto} {x : D} {p : Q2} (n : Nat) (h : PairP x p) : D.py S (n + 2) x = some (.tuple [.int p.1, .int p.2]) := by
  rcases h.cases with rfl | rfl <;> rfl
theorem eqPair {S : Sto} {a b : Nat} {x y : D} {r : Q2} (h1 : S[a]? = some (.lst [x, y])) (h2 : S[b]? = some (.lst [Lib.encI r, Lib.encI r])) (hx : PairP x r) (hy : PairP y r) : Mp.eqF (.loc a) (.loc b) S = .ok true S := by
  have key : ∀ (a : Nat) (x y : D), S[a]? = some (.lst [x, y]) → PairP x r → PairP y r → D.py S 12 (.loc a) = some (.list [.tuple [.int r.1, .int r.2], .tuple [.int r.1, .int r.2]]) := fun a x y h1 hx hy => by
    show (match (S[a]?).map rdOb with
      | some (.lst ds) => (ds.mapM (D.py S 11)).map PyData.list
      | _ => none) = _
    rw [h1]
    show ([x, y].mapM (D.py S 11)).map PyData.list = _
    rw [List.mapM_cons, List.mapM_cons, pyPair 9 hx, pyPair 9 hy]
    rfl
  rw [eqF_of (key a x y h1 hx hy) (key b _ _ h2 (PairP.enc r) (PairP.enc r)) (by rfl) (by rfl)]
  congr 1
  simp [PyData.eqv, PyData.eqvAll]
theorem q_tup1 {S : Sto} {d : D} {k : Int} {Q : D → Sto → Prop} (h1 : 1 ≤ k) (h2 : k ≤ 1000) (h : Q (.tup (List.replicate k.toNat d)) S) : Ok (binF .mul (.tup [d]) (.int k) S) Q := by
  have fl : ∀ n : Nat, (List.replicate n [d]).flatten = List.replicate n d := by
    intro n
    induction n with
    | zero => rfl
    | succ n ih => rw [List.replicate_succ, List.flatten_cons, ih, List.replicate_succ]; rfl
  refine ⟨_, S, ?_, h⟩
  show (if k = 1 then mp (.tup [d]) else chk (decide (2 ≤ k ∧ k ≤ 1000 ∧ [d].length ≤ 1000) && !([d] : List D).isEmpty) (mp (.tup (List.replicate k.toNat [d]).flatten)) : M D) S = _
  by_cases e : k = 1
  · subst e
    rfl
  · rw [if_neg e, fl, decide_eq_true (show 2 ≤ k ∧ k ≤ 1000 ∧ [d].length ≤ 1000 from ⟨by omega, h2, by simp⟩)]
    rfl
/-- a spot of so many numbers -/
def SpotD (many : Int) (d : D) : Prop := ∃ spot : List Q2, d = .tup (spot.map Lib.encI) ∧ (spot.length : Int) = many ∧ ∀ q ∈ spot, VB A100 B97 q
theorem w1703_fit : Fit (7 * W1703) (2 ^ 679 * 2 ^ (1552 * 7)) := tot_fit (i := 7) (by omega) (Nat.le_refl _) (Nat.le_refl _)
theorem drx_gq {many : Int} {m : DQ} (h : DrX many 7 m) : ∀ p ∈ m, GQ 7000 p.2 := fun p hp => by
  obtain ⟨_, h2, _⟩ := h.it p hp
  have e1 : 7 * A100 * 2 ^ (97 * 7) ≤ 2 ^ 103 * 2 ^ (97 * 7) := Nat.mul_le_mul_right _ (by decide)
  rw [← Nat.pow_add] at e1
  have := h2.bit (n := 7000) (Nat.lt_of_le_of_lt e1 (Nat.pow_lt_pow_right (by decide) (by decide))) (Nat.pow_lt_pow_right (by decide) (by decide))
  exact ⟨h2.1, this.1, this.2⟩
theorem law4X (G : Gt) (hd : DrawW (G.fn "_law_draw")) (hs : Lk3.SumW (G.fn "_law_sum")) (hdr : DrawnX (G.fn "_law_drawn")) (hdg : DegX (G.fn "degree")) (hn : FrX (G.fn "_law_number") 5 850000000) (hf : FrX (G.fn "_law_fraction") 6 800000000)
    (hat : LawAtX (G.fn "_law_at")) (hw : WorthX (G.fn "worth")) (his : IsnX (G.fn "_law_is_number")) (hl : LowX (G.fn "_law_low")) (ns : List Int) : Ok (specOf G 13 ir_law [.scr ns] []) fun d _ => d = .bl true := by
  refine fn_ok 0 ?_
  show Ok (evS G 0 ir_law [some (.scr ns), none, none, none, none, none, none, none, none, none, none, none, none] []) _
  unfold ir_law
  refine w_asg (ok_of (Lib.tape_run G _ 0 ns rfl) ?_)
  have st0 := tape_Tp ns
  generalize ([.lst ((Mp.cut ns none (some 63)).map D.int), .lst ((Mp.cut ns none (some 63)).map D.int), .lst [.loc 1, .int 0, .int 0, .int 0]] : Sto) = S0 at st0 ⊢
  dsimp only [List.set]
  repeat' (walk_at "wp")
  refine w_forN (fun j δ S' => ∃ (x2 x3 x4 x5 x6 x7 x8 x9 x10 x11 x12 : Option D), δ = [some (.scr ns), some (.loc 2), x2, x3, x4, x5, x6, x7, x8, x9, x10, x11, x12] ∧ j ≤ 3 ∧ Tp S' 2 (1000 * j)) ⟨_, _, _, _, _, _, _, _, _, _, _, rfl, by omega, st0.le (by omega)⟩ (fun j δ S' h => okC_nil) (fun j d δ S' hdd h => ?_) (fun δ S' h => ?_)
  · obtain ⟨x2, x3, x4, x5, x6, x7, x8, x9, x10, x11, x12, rfl, hj, st⟩ := h
    obtain ⟨rfl, hj2⟩ := rngD_get hdd
    have hj2 : j < 3 := hj2
    clear hdd
    refine ⟨_, rfl, ?_⟩
    repeat' (walk_at "wp")
    refine hd S' 2 _ 4 _ st (by omega) (by omega) (by omega) fun r S1 a1 b1 st1 g1 => ?_
    repeat' (walk_at "wp")
    refine hdr S1 2 _ (1 + r) _ st1 (by omega) (by omega) (by omega) fun n S2 m e2 f2 o2 st2 g2 => ?_
    repeat' (walk_at "wp")
    have n2 : 2 < n := Nat.lt_of_lt_of_le st1.lt f2
    have hne : ∀ p ∈ m, p.1 ≠ [] := fun p hp z => by
      have h := (o2.it p hp).1.1
      rw [z] at h
      have h : (0 : Int) = 1 + r := h
      omega
    refine hs S2 n m (1 + r) _ e2 hne (drx_gq o2) (by have := o2.len; omega) fun S3 g3 => ?_
    have st3 := g3.tp0 st2
    have e3 := g3.o0 e2
    clear g1 g2 g3 f2 e2 st2 st1 st hne
    repeat' (walk_at "wp")
    refine hdg S3 _ _ _ (by rw [(sumQ_perm o2.nd fun p hp => (o2.it p hp).2.2).length_eq, List.length_map]; have := o2.len; omega) fun S4 g4 => ?_
    rw [degI_sum o2]
    have st4 := g4.tp0 st3
    have e4 := g4.o0 e3
    clear g4 st3 e3
    repeat' (walk_at "wp")
    refine isInt ?_
    repeat' (walk_at "wp")
    refine isBool ?_
    repeat' (walk_at "wp")
    rename_i z S5 w5
    have e5 := w5.old _ _ e4
    have st5 := w5.tp st4
    have z5 := w5.at_
    have nz := w5.ne e4
    have z2 : 2 < z := w5.lt st4
    clear w5 e4 st4
    refine w_compD rfl e5 fun S6 w6 l S7 w7 => ?_
    have zl : z ≠ l := w7.ne (w6.old _ _ nz.symm z5)
    have l2 : 2 < l := w7.lt (w6.tp n2 st5)
    refine w_lcN (fun i acc S' => i ≤ m.length ∧ acc = ((m.take i).map fun p => p.1.sum).map D.int ∧ S'[l]? = some (.lst acc) ∧ S'[n]? = some (.lk (.dT (encM Lib.encI m))) ∧ S'[z]? = some (.lst [.int 0]) ∧ Tp S' 2 (1000 * j + 1 + 200))
      ⟨Nat.zero_le _, rfl, w7.at_, w7.old _ _ w6.at_, w7.old _ _ (w6.old _ _ nz.symm z5), w7.tp (w6.tp n2 st5)⟩ (fun i acc S' h => okC_one h.2.2.2.1) (fun i d acc S' hdd h => ?_) (fun acc S' h => ?_)
    · obtain ⟨h1, rfl, h2, h3, h4, h5⟩ := h
      obtain ⟨t, e, rfl⟩ := keys_at hdd
      have hi := (List.getElem?_eq_some_iff.mp e).1
      have l7 := o2.len
      refine ⟨_, rfl, ?_⟩
      repeat' (walk_at "wp")
      refine q_sumP (x := tupI t.1) rfl (dInts_map _) ?_
      refine ⟨h2, le_sz2 (by rw [List.length_map, List.length_map, List.length_take]; omega), fun S8 w8 => ⟨hi, ?_, w8.at_, w8.old _ _ (by rintro rfl; rw [h3] at h2; cases h2) h3, w8.old _ _ zl h4, w8.tp l2 h5⟩⟩
      rw [List.take_add_one, e]
      simp only [List.map_append, Option.toList, List.map_cons, List.map_nil]
    · obtain ⟨h1, rfl, h2, h3, h4, h5⟩ := h
      rw [keys_len, List.take_length] at h2
      refine ⟨h3, fun S8 w8 => ?_⟩
      have ln : l ≠ n := by
        rintro rfl
        rw [h3] at h2
        cases h2
      have l8 := w8.old _ _ ln h2
      have z8 := w8.old _ _ nz.symm h4
      have st8 := w8.tp n2 h5
      have e8 := w8.at_
      clear w8 h2 h3 h4 h5 w6 w7 z5 e5 st5
      refine q_catL z8 l8 (Lib.le_sz (by have := o2.len; simp only [List.length_map, List.length_cons, List.length_nil]; omega)) fun c S9 w9 => ?_
      have st9 := w9.tp st8
      have e9 := w9.old _ _ e8
      have c9 := w9.at_
      clear w9 st8 e8 z8 l8
      repeat' (walk_at "wp")
      refine q_maxL (x := 0) (r := m.map fun p => p.1.sum) c9 (show dInts ((0 :: m.map fun p => p.1.sum).map D.int) = _ from dInts_map _) ?_
      clear c9
      refine q_nei (q_truthb (splitND (fun c => (c rfl).elim) fun _ => w_app0 ?_))
      dsimp only [List.set]
      refine w_asg (w_lst (w_acons (w_bi (w_acons (spotX (mm := 850000000) (c := 5) (by omega) (by omega) (by decide) (fun i S k st hk => ?_) st9 (by omega) fun l S1 spot l1 lm ls st1 g1 => ?_)))))
      · repeat' (walk_at "wp")
        exact hn S 2 k _ st hk fun p S' p1 _ p3 p4 => ⟨p, rfl, p1, p3, p4⟩
      have e1 := g1.o1 (by omega) e9
      clear g1 e9 st9
      repeat' (walk_at "wp")
      refine q_tup1 (by omega) (by omega) ?_
      refine w_anil ⟨Lib.le_sz (by simp), fun l8 S2 w2 => ?_⟩
      dsimp only [List.set]
      have st2 := w2.tp st1
      have e2 := w2.old _ _ e1
      have n8 : l8 ≠ n := (w2.ne e1).symm
      have t8 : 2 < l8 := w2.lt st1
      have l82 := w2.at_
      clear w2 st1 e1 l1
      refine w_ex (w_app (w_var rfl ⟨_, _, rfl, l82, w_bi (w_acons (spotX (mm := 700000000) (c := 12) (by omega) (by omega) (by decide) (fun i S k st hk => ?_) st2 (by omega) fun l S1 spot3 l1 lm3 ls3 st1 g1 => ?_))⟩))
      · repeat' (walk_at "wp")
        refine hn S 2 k _ st (by omega) fun p S1 p1 _ p3 p4 => ?_
        repeat' (walk_at "wp")
        refine hf S1 2 _ _ p3 (by omega) fun p' S2 q1 _ q3 q4 => ?_
        repeat' (walk_at "wp")
        rename_i u S3 v3
        have s3 := v3.tp q3
        have tu : 2 < u := v3.lt q3
        have g3 : Gr [2] S S3 := (p4.trans q4).trans v3.gr
        have u3 := v3.at_
        clear v3
        refine hd S3 2 _ 2 _ s3 (by omega) (by omega) (by omega) fun r' S4 a2 b2 s4 g4 => ?_
        have u4 := g4.o1 (by omega) u3
        have : r' = 0 ∨ r' = 1 := by omega
        rcases this with rfl | rfl
        · exact q_ixl u4 rfl ⟨p, rfl, p1, s4.le (by omega), g3.trans g4⟩
        · exact q_ixl u4 rfl ⟨p', rfl, q1, s4.le (by omega), g3.trans g4⟩
      have e1 := g1.o1 (by omega) e2
      have l83 := g1.o1 (by omega) l82
      clear g1 e2 l82 st2
      repeat' (walk_at "wp")
      rename_i S3 w3
      have st3 := w3.tp t8 st1
      have e3 := w3.old _ _ n8.symm e1
      have l84 := w3.at_
      clear w3 e1 l83 st1 l1
      have H : ∀ x ∈ [D.tup (spot.map Lib.encI), D.tup (List.replicate (1 + r).toNat (.tup [.int 0, .int 1]))] ++ [D.tup (spot3.map Lib.encI)], SpotD (1 + r) x := by
        intro x hx
        simp only [List.cons_append, List.nil_append, List.mem_cons, List.not_mem_nil, or_false] at hx
        rcases hx with rfl | rfl | rfl
        · exact ⟨spot, rfl, lm, ls⟩
        · refine ⟨List.replicate (1 + r).toNat (0, 1), by rw [List.map_replicate]; rfl, by rw [List.length_replicate]; omega, fun q hq => ?_⟩
          rw [(List.mem_replicate.mp hq).2]
          exact ⟨(show (0 : Int) < 1 by decide), show 1 ≤ B97 from Nat.pow_pos (by decide), Nat.zero_le _⟩
        · exact ⟨spot3, rfl, lm3, ls3⟩
      generalize [D.tup (spot.map Lib.encI), D.tup (List.replicate (1 + r).toNat (.tup [.int 0, .int 1]))] ++ [D.tup (spot3.map Lib.encI)] = L at l84 H
      clear lm ls lm3 ls3
      repeat' (walk_at "wp")
      have dens : ∀ p ∈ m, 0 < p.2.2 := fun p hp => (o2.it p hp).2.1.1
      have nz : ∀ p ∈ m, p.2.1 ≠ 0 := fun p hp => (o2.it p hp).2.2
      refine w_forN (fun i δ S' => ∃ (x10 x11 x12 : Option D), δ = [some (.scr ns), some (.loc 2), some (.int (0 + (j : Int))), some (.int (1 + r)), some (.loc n), some (encS (1 + r) (sumQ m)), some (.int (maxL 0 (m.map fun p => p.1.sum))), x7, some (.loc l8), x9, x10, x11, x12] ∧ S'[n]? = some (.dT (encM Lib.encI m)) ∧ S'[l8]? = some (.lst L) ∧ Tp S' 2 (1000 * j + 1 + 200 + 4 * 5 + 4 * 12)) ⟨_, _, _, rfl, e3, l84, st3⟩ (fun i δ S' h => ?_) (fun i x δ S' hx h => ?_) (fun δ S' h => ?_)
      · obtain ⟨_, _, _, _, _, h, _⟩ := h
        exact okC_one h
      · obtain ⟨x10, x11, x12, rfl, h1, h2, h3⟩ := h
        obtain ⟨sp, rfl, k1, k2⟩ := H x (List.mem_of_getElem? hx)
        refine ⟨_, rfl, ?_⟩
        repeat' (walk_at "wp")
        have T := o2.tm k1
        have T2 := T.sum o2.nd nz
        have WR := worthR_sum (spot := sp) dens o2.nd nz
        refine hat S' n m sp _ h1 o2.nd T k2 fun r4 S4 w4 v1 v2 => ?_
        have h24 := w4.old _ _ n8 h2
        have st4 := w4.tp n2 h3
        have h14 := w4.at_
        clear w4 h1 h2 h3
        repeat' (walk_at "wp")
        refine hw S4 _ _ sp _ T2 k2 fun y r5 y1 y2 y3 y4 y5 => ?_
        repeat' (walk_at "wp")
        refine hw S4 _ _ sp _ T2 k2 fun y' r6 z1 z2 z3 z4 z5 => ?_
        have er : r6 = r5 := low_uniq z2 y2 z3 y3 (by rw [z5, y5])
        subst er
        have fe := y4.fit w1703_fit
        have fv := v1.fit w1703_fit
        have lo : Lib.lowF r4.1 r4.2 = r6 := by
          have := Lk2.lowF_ok (a := r4.1) (b := r4.2) (by have := v1.1; omega)
          exact low_uniq this.1 y2 this.2 y3 (by rw [val_low v1.1, y5, WR]; exact v2)
        repeat' (walk_at "wp")
        rename_i c S5 w5
        have st5 := w5.tp st4
        have h25 := w5.old _ _ h24
        have h15 := w5.old _ _ h14
        have c5 := w5.at_
        clear w5 st4 h24 h14 v2 y5 z5 WR T T2
        refine q_ixl c5 rfl ?_
        repeat' (walk_at "wp")
        refine his S5 y r6 _ y1 y2 y3 fe.1 fe.2 ?_
        repeat' (walk_at "wp")
        refine q_ixp (PairP.enc r4) rfl ?_
        repeat' (walk_at "wp")
        refine q_ixp (PairP.enc r4) rfl ?_
        repeat' (walk_at "wp")
        refine hl S5 r4.1 r4.2 _ v1.1 fv.1 fv.2 ?_
        rw [lo]
        repeat' (walk_at "wp")
        rename_i e S6 w6
        have c6 := w6.old _ _ c5
        have st6 := w6.tp st5
        have h26 := w6.old _ _ h25
        have h16 := w6.old _ _ h15
        refine q_repL w6.at_ ⟨by decide, by decide, Lib.le_sz (show 2 ≤ 1000 by decide)⟩ fun f S7 w7 => ?_
        refine q_nex (eqPair (w7.old _ _ c6) (show S7[f]? = some (.lst [Lib.encI r6, Lib.encI r6]) from w7.at_) y1 z1) ?_
        repeat' (walk_at "wp")
        exact ⟨_, _, _, rfl, w7.old _ _ h16, w7.old _ _ h26, w7.tp st6⟩
      · obtain ⟨x10, x11, x12, rfl, h1, h2, h3⟩ := h
        repeat' (walk_at "wp")
        exact ⟨_, _, _, _, _, _, _, _, _, _, _, rfl, hj2, h3.le (by omega)⟩
  · obtain ⟨x2, x3, x4, x5, x6, x7, x8, x9, x10, x11, x12, rfl, hj, st⟩ := h
    repeat' (walk_at "wp")
    rfl
end Lk4
namespace Lw
open PySem Mp
def ir_law_draw : Is :=
  (.cons (.ifs (.cons (.cmp .eq (.ix (.var 0) (.con (.int 3))) (.con (.int 0))) .nil)
  (.cons (.asg 2 (.ix (.var 0) (.con (.int 1))))
  (.cons (.sub (.var 0) (.con (.int 1)) (.bin .add (.var 2) (.con (.int 1))))
  (.cons (.asg 3 (.con (.int 0)))
  (.cons (.ifs (.cons (.cmp .gt (.bi .len (.cons (.ix (.var 0) (.con (.int 0))) .nil)) (.con (.int 0))) .nil)
  (.cons (.asg 3 (.ix (.ix (.var 0) (.con (.int 0))) (.bin .mod (.var 2) (.bi .len (.cons (.ix (.var 0) (.con (.int 0))) .nil)))))
  .nil)
  .nil)
  (.cons (.ifs (.orV (.cons (.cmp .ge (.var 2) (.bi .len (.cons (.ix (.var 0) (.con (.int 0))) .nil))) .nil) (.cons (.cmp .lt (.var 3) (.bin .pow (.con (.int 10)) (.con (.int 18)))) .nil))
  (.cons (.asg 4 (.bin .add (.bin .add (.bin .mod (.bin .mul (.var 2) (.var 2)) (.con (.int 10007))) (.bin .mul (.con (.int 61)) (.var 2))) (.con (.int 7))))
  (.cons (.asg 4 (.bin .mod (.bin .mul (.bin .add (.bin .mod (.var 3) (.con (.int 999983))) (.con (.int 3))) (.var 4)) (.con (.int 1000003))))
  (.cons (.ret (.bin .mod (.bin .mod (.bin .add (.bin .fdv (.bin .mod (.bin .mul (.var 4) (.var 4)) (.con (.int 999979))) (.con (.int 3))) (.bin .mul (.con (.int 131)) (.var 2))) (.con (.int 99991))) (.var 1)))
  .nil)))
  .nil)
  (.cons (.sub (.var 0) (.con (.int 2)) (.bin .sub (.var 3) (.bin .pow (.con (.int 10)) (.con (.int 18)))))
  (.cons (.sub (.var 0) (.con (.int 3)) (.con (.int 40)))
  .nil)))))))
  .nil)
  (.cons (.sub (.var 0) (.con (.int 3)) (.bin .sub (.ix (.var 0) (.con (.int 3))) (.con (.int 1))))
  (.cons (.asg 5 (.ix (.var 0) (.con (.int 2))))
  (.cons (.sub (.var 0) (.con (.int 2)) (.bin .fdv (.var 5) (.var 1)))
  (.cons (.ret (.bin .mod (.var 5) (.var 1)))
  .nil)))))
def ir_law_plus : Is :=
  (.cons (.ifs (.cons (.cmp .eq (.bin .mod (.ix (.var 0) (.con (.int 1))) (.ix (.var 1) (.con (.int 1)))) (.con (.int 0))) .nil)
  (.cons (.ret (.tup (.cons (.bin .add (.ix (.var 0) (.con (.int 0))) (.bin .mul (.ix (.var 1) (.con (.int 0))) (.bin .fdv (.ix (.var 0) (.con (.int 1))) (.ix (.var 1) (.con (.int 1)))))) (.cons (.ix (.var 0) (.con (.int 1))) .nil))))
  .nil)
  .nil)
  (.cons (.ifs (.cons (.cmp .eq (.bin .mod (.ix (.var 1) (.con (.int 1))) (.ix (.var 0) (.con (.int 1)))) (.con (.int 0))) .nil)
  (.cons (.ret (.tup (.cons (.bin .add (.ix (.var 1) (.con (.int 0))) (.bin .mul (.ix (.var 0) (.con (.int 0))) (.bin .fdv (.ix (.var 1) (.con (.int 1))) (.ix (.var 0) (.con (.int 1)))))) (.cons (.ix (.var 1) (.con (.int 1))) .nil))))
  .nil)
  .nil)
  (.cons (.asg 2 (.bin .add (.bin .mul (.ix (.var 0) (.con (.int 0))) (.ix (.var 1) (.con (.int 1)))) (.bin .mul (.ix (.var 1) (.con (.int 0))) (.ix (.var 0) (.con (.int 1))))))
  (.cons (.ret (.tup (.cons (.var 2) (.cons (.bin .mul (.ix (.var 0) (.con (.int 1))) (.ix (.var 1) (.con (.int 1)))) .nil))))
  .nil))))
def ir_law_put : Is :=
  (.cons (.asg 3 (.call "_law_plus" (.cons (.get2 (.var 0) (.var 1) (.tup (.cons (.con (.int 0)) (.cons (.con (.int 1)) .nil)))) (.cons (.var 2) .nil))))
  (.cons (.ifs (.cons (.cmp .ne (.ix (.var 3) (.con (.int 0))) (.con (.int 0))) .nil)
  (.cons (.sub (.var 0) (.var 1) (.var 3))
  .nil)
  (.cons (.ifs (.cons (.isin false (.var 1) (.var 0)) .nil)
  (.cons (.ex (.popK (.var 0) (.var 1)))
  .nil)
  .nil)
  .nil))
  .nil))
def ir_law_low : Is :=
  (.cons (.ifs (.cons (.cmp .lt (.var 1) (.con (.int 0))) .nil)
  (.cons (.par 0 1 (.bin .sub (.con (.int 0)) (.var 0)) (.bin .sub (.con (.int 0)) (.var 1)))
  .nil)
  .nil)
  (.cons (.asg 2 (.bi .abs (.cons (.var 0) .nil)))
  (.cons (.asg 3 (.var 1))
  (.cons (.whl (.cons (.cmp .gt (.var 2) (.con (.int 0))) .nil)
  (.cons (.par 2 3 (.bin .mod (.var 3) (.var 2)) (.var 2))
  .nil))
  (.cons (.ret (.tup (.cons (.bin .fdv (.var 0) (.var 3)) (.cons (.bin .fdv (.var 1) (.var 3)) .nil))))
  .nil)))))
def ir_law_number : Is :=
  (.cons (.asg 1 (.call "_law_draw" (.cons (.var 0) (.cons (.con (.int 24)) .nil))))
  (.cons (.asg 2 (.bin .sub (.call "_law_draw" (.cons (.var 0) (.cons (.con (.int 13)) .nil))) (.con (.int 6))))
  (.cons (.ifs (.cons (.cmp .lt (.var 1) (.con (.int 16))) .nil)
  (.cons (.ret (.tup (.cons (.var 2) (.cons (.con (.int 1)) .nil))))
  .nil)
  .nil)
  (.cons (.ifs (.cons (.cmp .lt (.var 1) (.con (.int 23))) .nil)
  (.cons (.ret (.call "_law_low" (.cons (.var 2) (.cons (.bin .add (.con (.int 1)) (.call "_law_draw" (.cons (.var 0) (.cons (.con (.int 7)) .nil)))) .nil))))
  .nil)
  .nil)
  (.cons (.asg 3 (.bin .mul (.call "_law_draw" (.cons (.var 0) (.cons (.bin .pow (.con (.int 10)) (.con (.int 12))) .nil))) (.bin .sub (.con (.int 1)) (.bin .mul (.con (.int 2)) (.call "_law_draw" (.cons (.var 0) (.cons (.con (.int 2)) .nil)))))))
  (.cons (.ret (.call "_law_low" (.cons (.var 3) (.cons (.bin .add (.con (.int 1)) (.call "_law_draw" (.cons (.var 0) (.cons (.bin .pow (.con (.int 10)) (.con (.int 4))) .nil)))) .nil))))
  .nil))))))
def ir_law_fraction : Is :=
  (.cons (.ifs (.cons (.cmp .gt (.call "_law_draw" (.cons (.var 0) (.cons (.con (.int 4)) .nil))) (.con (.int 0))) .nil)
  (.cons (.ret (.call "_law_number" (.cons (.var 0) .nil)))
  .nil)
  .nil)
  (.cons (.asg 1 (.bin .add (.bin .mul (.call "_law_draw" (.cons (.var 0) (.cons (.bin .pow (.con (.int 10)) (.con (.int 15))) .nil))) (.bin .pow (.con (.int 10)) (.con (.int 15)))) (.call "_law_draw" (.cons (.var 0) (.cons (.bin .pow (.con (.int 10)) (.con (.int 15))) .nil)))))
  (.cons (.asg 2 (.bin .add (.bin .add (.con (.int 1)) (.bin .mul (.call "_law_draw" (.cons (.var 0) (.cons (.bin .pow (.con (.int 10)) (.con (.int 15))) .nil))) (.bin .pow (.con (.int 10)) (.con (.int 14))))) (.call "_law_draw" (.cons (.var 0) (.cons (.bin .pow (.con (.int 10)) (.con (.int 14))) .nil)))))
  (.cons (.ret (.call "_law_low" (.cons (.bin .mul (.var 1) (.bin .sub (.con (.int 1)) (.bin .mul (.con (.int 2)) (.call "_law_draw" (.cons (.var 0) (.cons (.con (.int 2)) .nil)))))) (.cons (.var 2) .nil))))
  .nil))))
def ir_law_drawn : Is :=
  (.cons (.asg 2 .newT)
  (.cons (.for_ (.nm 3) (.itr (.cons (.call "_law_draw" (.cons (.var 0) (.cons (.con (.int 8)) .nil))) .nil))
  (.cons (.asg 4 (.bin .mul (.lst (.cons (.con (.int 0)) .nil)) (.var 1)))
  (.cons (.for_ (.nm 5) (.itr (.cons (.call "_law_draw" (.cons (.var 0) (.cons (.ix (.lst (.cons (.con (.int 3)) (.cons (.con (.int 4)) (.cons (.con (.int 6)) (.cons (.con (.int 17)) .nil))))) (.call "_law_draw" (.cons (.var 0) (.cons (.con (.int 4)) .nil)))) .nil))) .nil))
  (.cons (.asg 6 (.call "_law_draw" (.cons (.var 0) (.cons (.var 1) .nil))))
  (.cons (.sub (.var 4) (.var 6) (.bin .add (.ix (.var 4) (.var 6)) (.con (.int 1))))
  .nil)))
  (.cons (.ex (.call "_law_put" (.cons (.var 2) (.cons (.bi .tuple (.cons (.var 4) .nil)) (.cons (.call "_law_fraction" (.cons (.var 0) .nil)) .nil)))))
  .nil))))
  (.cons (.ret (.var 2))
  .nil)))
def ir_law_sum : Is :=
  (.cons (.asg 2 (.lst .nil))
  (.cons (.for_ (.nm 3) (.itv (.bi .sorted (.cons (.var 1) .nil)))
  (.cons (.ifs (.cons (.cmp .ne (.ix (.ix (.var 1) (.var 3)) (.con (.int 0))) (.con (.int 0))) .nil)
  (.cons (.asg 4 (.call "_law_low" (.cons (.ix (.ix (.var 1) (.var 3)) (.con (.int 0))) (.cons (.ix (.ix (.var 1) (.var 3)) (.con (.int 1))) .nil))))
  (.cons (.ex (.app (.var 2) (.tup (.cons (.var 3) (.cons (.var 4) .nil)))))
  .nil))
  .nil)
  .nil))
  (.cons (.ret (.tup (.cons (.var 0) (.cons (.bi .tuple (.cons (.var 2) .nil)) .nil))))
  .nil)))
def ir_degree : Is :=
  (.cons (.ret (.maxd (.comp [("powers", 1), ("number", 2)] (.itv (.ix (.var 0) (.con (.int 1)))) [1, 2] .yes (.bi .sum (.cons (.var 1) .nil))) (.con (.int 0))))
  .nil)
def ir_law_mul : Is :=
  (.cons (.ret (.tup (.cons (.bin .mul (.ix (.var 0) (.con (.int 0))) (.ix (.var 1) (.con (.int 0)))) (.cons (.bin .mul (.ix (.var 0) (.con (.int 1))) (.ix (.var 1) (.con (.int 1)))) .nil))))
  .nil)
def ir_law_at : Is :=
  (.cons (.asg 2 (.tup (.cons (.con (.int 0)) (.cons (.con (.int 1)) .nil))))
  (.cons (.forD (.nm 3) 0
  (.cons (.asg 4 (.ix (.var 0) (.var 3)))
  (.cons (.for_ (.tp [5, 6]) (.itz (.var 3) (.var 1))
  (.cons (.for_ (.nm 7) (.itr (.cons (.var 5) .nil))
  (.cons (.asg 4 (.call "_law_mul" (.cons (.var 4) (.cons (.var 6) .nil))))
  .nil))
  .nil))
  (.cons (.asg 2 (.call "_law_plus" (.cons (.var 2) (.cons (.var 4) .nil))))
  .nil))))
  (.cons (.ret (.var 2))
  .nil)))
def ir_common_measure : Is :=
  (.cons (.whl (.cons (.cmp .ne (.var 1) (.con (.int 0))) .nil)
  (.cons (.par 0 1 (.var 1) (.bin .mod (.var 0) (.var 1)))
  .nil))
  (.cons (.ret (.var 0))
  .nil))
def ir_lowest_terms : Is :=
  (.cons (.ifs (.cons (.cmp .lt (.var 1) (.con (.int 0))) .nil)
  (.cons (.par 0 1 (.bin .sub (.con (.int 0)) (.var 0)) (.bin .sub (.con (.int 0)) (.var 1)))
  .nil)
  .nil)
  (.cons (.asg 2 (.call "common_measure" (.cons (.bi .abs (.cons (.var 0) .nil)) (.cons (.var 1) .nil))))
  (.cons (.ret (.tup (.cons (.bin .fdv (.var 0) (.var 2)) (.cons (.bin .fdv (.var 1) (.var 2)) .nil))))
  .nil)))
def ir_added : Is :=
  (.cons (.ret (.call "lowest_terms" (.cons (.bin .add (.bin .mul (.ix (.var 0) (.con (.int 0))) (.ix (.var 1) (.con (.int 1)))) (.bin .mul (.ix (.var 1) (.con (.int 0))) (.ix (.var 0) (.con (.int 1))))) (.cons (.bin .mul (.ix (.var 0) (.con (.int 1))) (.ix (.var 1) (.con (.int 1)))) .nil))))
  .nil)
def ir_multiplied : Is :=
  (.cons (.ret (.call "lowest_terms" (.cons (.bin .mul (.ix (.var 0) (.con (.int 0))) (.ix (.var 1) (.con (.int 0)))) (.cons (.bin .mul (.ix (.var 0) (.con (.int 1))) (.ix (.var 1) (.con (.int 1)))) .nil))))
  .nil)
def ir_power_of : Is :=
  (.cons (.asg 2 (.glob "UNIT"))
  (.cons (.for_ (.nm 3) (.itr (.cons (.var 1) .nil))
  (.cons (.asg 2 (.call "multiplied" (.cons (.var 2) (.cons (.var 0) .nil))))
  .nil))
  (.cons (.ret (.var 2))
  .nil)))
def ir_worth : Is :=
  (.cons (.asg 2 (.glob "NOUGHT"))
  (.cons (.for_ (.tp [3, 4]) (.itv (.ix (.var 0) (.con (.int 1))))
  (.cons (.for_ (.tp [5, 6]) (.itz (.var 3) (.var 1))
  (.cons (.asg 4 (.call "multiplied" (.cons (.var 4) (.cons (.call "power_of" (.cons (.var 6) (.cons (.var 5) .nil))) .nil))))
  .nil))
  (.cons (.asg 2 (.call "added" (.cons (.var 2) (.cons (.var 4) .nil))))
  .nil)))
  (.cons (.ret (.var 2))
  .nil)))
def ir_law_is_number : Is :=
  (.cons (.ifs (.orV (.notV (.cons (.isi .tup (.var 0)) .nil)) (.cons (.cmp .ne (.bi .len (.cons (.var 0) .nil)) (.con (.int 2))) .nil))
  (.cons (.ret (.con (.bl false)))
  .nil)
  .nil)
  (.cons (.for_ (.nm 1) (.itv (.var 0))
  (.cons (.ifs (.orV (.notV (.cons (.isi .int (.var 1)) .nil)) (.cons (.isi .bool (.var 1)) .nil))
  (.cons (.ret (.con (.bl false)))
  .nil)
  .nil)
  .nil))
  (.cons (.ret (.andV (.cmp .gt (.ix (.var 0) (.con (.int 1))) (.con (.int 0))) (.cmp .eq (.call "_law_low" (.cons (.ix (.var 0) (.con (.int 0))) (.cons (.ix (.var 0) (.con (.int 1))) .nil))) (.var 0))))
  .nil)))
def ir_law : Is :=
  (.cons (.asg 1 (.lst (.cons (.bi .list (.cons (.sl (.var 0) .nil (.cons (.con (.int 63)) .nil)) .nil)) (.cons (.con (.int 0)) (.cons (.con (.int 0)) (.cons (.con (.int 0)) .nil))))))
  (.cons (.for_ (.nm 2) (.itr (.cons (.con (.int 3)) .nil))
  (.cons (.asg 3 (.bin .add (.con (.int 1)) (.call "_law_draw" (.cons (.var 1) (.cons (.con (.int 4)) .nil)))))
  (.cons (.asg 4 (.call "_law_drawn" (.cons (.var 1) (.cons (.var 3) .nil))))
  (.cons (.asg 5 (.call "_law_sum" (.cons (.var 3) (.cons (.var 4) .nil))))
  (.cons (.asg 6 (.call "degree" (.cons (.var 5) .nil)))
  (.cons (.ifs (.orV (.notV (.cons (.isi .int (.var 6)) .nil)) (.orV (.cons (.isi .bool (.var 6)) .nil) (.cons (.cmp .ne (.var 6) (.bi .max (.cons (.bin .add (.lst (.cons (.con (.int 0)) .nil)) (.compD [("powers", 7)] 4 [7] .yes (.bi .sum (.cons (.var 7) .nil)))) .nil))) .nil)))
  (.cons (.ret (.con (.bl false)))
  .nil)
  .nil)
  (.cons (.asg 8 (.lst (.cons (.bi .tuple (.cons (.comp [("k", 9)] (.itr (.cons (.var 3) .nil)) [9] .yes (.call "_law_number" (.cons (.var 1) .nil))) .nil)) (.cons (.bin .mul (.tup (.cons (.tup (.cons (.con (.int 0)) (.cons (.con (.int 1)) .nil))) .nil)) (.var 3)) .nil))))
  (.cons (.ex (.app (.var 8) (.bi .tuple (.cons (.comp [("k", 9)] (.itr (.cons (.var 3) .nil)) [9] .yes (.ix (.lst (.cons (.call "_law_number" (.cons (.var 1) .nil)) (.cons (.call "_law_fraction" (.cons (.var 1) .nil)) .nil))) (.call "_law_draw" (.cons (.var 1) (.cons (.con (.int 2)) .nil))))) .nil))))
  (.cons (.for_ (.nm 10) (.itv (.var 8))
  (.cons (.asg 11 (.call "_law_at" (.cons (.var 4) (.cons (.var 10) .nil))))
  (.cons (.asg 12 (.lst (.cons (.call "worth" (.cons (.var 5) (.cons (.var 10) .nil))) (.cons (.call "worth" (.cons (.var 5) (.cons (.var 10) .nil))) .nil))))
  (.cons (.ifs (.orV (.notV (.cons (.call "_law_is_number" (.cons (.ix (.var 12) (.con (.int 0))) .nil)) .nil)) (.cons (.cmp .ne (.var 12) (.bin .mul (.lst (.cons (.call "_law_low" (.cons (.ix (.var 11) (.con (.int 0))) (.cons (.ix (.var 11) (.con (.int 1))) .nil))) .nil)) (.con (.int 2)))) .nil))
  (.cons (.ret (.con (.bl false)))
  .nil)
  .nil)
  .nil))))
  .nil)))))))))
  (.cons (.ret (.con (.bl true)))
  .nil)))
noncomputable def G0 : Gt := ⟨fun _ _ => mbad, fun x => List.lookup x [("UNIT", .wtup [.int 1, .int 1]), ("NOUGHT", .wtup [.int 0, .int 1])], fun _ _ => false⟩
noncomputable def G1 : Gt := G0.add "_law_draw" 6 ir_law_draw
noncomputable def G2 : Gt := G1.add "_law_plus" 3 ir_law_plus
noncomputable def G3 : Gt := G2.add "_law_put" 4 ir_law_put
noncomputable def G4 : Gt := G3.add "_law_low" 4 ir_law_low
noncomputable def G5 : Gt := G4.add "_law_number" 4 ir_law_number
noncomputable def G6 : Gt := G5.add "_law_fraction" 3 ir_law_fraction
noncomputable def G7 : Gt := G6.add "_law_drawn" 7 ir_law_drawn
noncomputable def G8 : Gt := G7.add "_law_sum" 5 ir_law_sum
noncomputable def G9 : Gt := G8.add "degree" 3 ir_degree
noncomputable def G10 : Gt := G9.add "_law_mul" 2 ir_law_mul
noncomputable def G11 : Gt := G10.add "_law_at" 8 ir_law_at
noncomputable def G12 : Gt := G11.add "common_measure" 2 ir_common_measure
noncomputable def G13 : Gt := G12.add "lowest_terms" 3 ir_lowest_terms
noncomputable def G14 : Gt := G13.add "added" 2 ir_added
noncomputable def G15 : Gt := G14.add "multiplied" 2 ir_multiplied
noncomputable def G16 : Gt := G15.add "power_of" 4 ir_power_of
noncomputable def G17 : Gt := G16.add "worth" 7 ir_worth
noncomputable def G18 : Gt := G17.add "_law_is_number" 2 ir_law_is_number
noncomputable def G19 : Gt := G18.add "law" 13 ir_law
theorem g1_law_draw : G1.fn "_law_draw" = specOf G0 6 ir_law_draw := Gt.add_eq
theorem g2_law_draw : G2.fn "_law_draw" = specOf G0 6 ir_law_draw := (Gt.add_ne (by decide)).trans g1_law_draw
theorem g2_law_plus : G2.fn "_law_plus" = specOf G1 3 ir_law_plus := Gt.add_eq
theorem g3_law_draw : G3.fn "_law_draw" = specOf G0 6 ir_law_draw := (Gt.add_ne (by decide)).trans g2_law_draw
theorem g3_law_plus : G3.fn "_law_plus" = specOf G1 3 ir_law_plus := (Gt.add_ne (by decide)).trans g2_law_plus
theorem g3_law_put : G3.fn "_law_put" = specOf G2 4 ir_law_put := Gt.add_eq
theorem g4_law_draw : G4.fn "_law_draw" = specOf G0 6 ir_law_draw := (Gt.add_ne (by decide)).trans g3_law_draw
theorem g4_law_plus : G4.fn "_law_plus" = specOf G1 3 ir_law_plus := (Gt.add_ne (by decide)).trans g3_law_plus
theorem g4_law_put : G4.fn "_law_put" = specOf G2 4 ir_law_put := (Gt.add_ne (by decide)).trans g3_law_put
theorem g4_law_low : G4.fn "_law_low" = specOf G3 4 ir_law_low := Gt.add_eq
theorem g5_law_draw : G5.fn "_law_draw" = specOf G0 6 ir_law_draw := (Gt.add_ne (by decide)).trans g4_law_draw
theorem g5_law_plus : G5.fn "_law_plus" = specOf G1 3 ir_law_plus := (Gt.add_ne (by decide)).trans g4_law_plus
theorem g5_law_put : G5.fn "_law_put" = specOf G2 4 ir_law_put := (Gt.add_ne (by decide)).trans g4_law_put
theorem g5_law_low : G5.fn "_law_low" = specOf G3 4 ir_law_low := (Gt.add_ne (by decide)).trans g4_law_low
theorem g5_law_number : G5.fn "_law_number" = specOf G4 4 ir_law_number := Gt.add_eq
theorem g6_law_draw : G6.fn "_law_draw" = specOf G0 6 ir_law_draw := (Gt.add_ne (by decide)).trans g5_law_draw
theorem g6_law_plus : G6.fn "_law_plus" = specOf G1 3 ir_law_plus := (Gt.add_ne (by decide)).trans g5_law_plus
theorem g6_law_put : G6.fn "_law_put" = specOf G2 4 ir_law_put := (Gt.add_ne (by decide)).trans g5_law_put
theorem g6_law_low : G6.fn "_law_low" = specOf G3 4 ir_law_low := (Gt.add_ne (by decide)).trans g5_law_low
theorem g6_law_number : G6.fn "_law_number" = specOf G4 4 ir_law_number := (Gt.add_ne (by decide)).trans g5_law_number
theorem g6_law_fraction : G6.fn "_law_fraction" = specOf G5 3 ir_law_fraction := Gt.add_eq
theorem g7_law_draw : G7.fn "_law_draw" = specOf G0 6 ir_law_draw := (Gt.add_ne (by decide)).trans g6_law_draw
theorem g7_law_plus : G7.fn "_law_plus" = specOf G1 3 ir_law_plus := (Gt.add_ne (by decide)).trans g6_law_plus
theorem g7_law_put : G7.fn "_law_put" = specOf G2 4 ir_law_put := (Gt.add_ne (by decide)).trans g6_law_put
theorem g7_law_low : G7.fn "_law_low" = specOf G3 4 ir_law_low := (Gt.add_ne (by decide)).trans g6_law_low
theorem g7_law_number : G7.fn "_law_number" = specOf G4 4 ir_law_number := (Gt.add_ne (by decide)).trans g6_law_number
theorem g7_law_fraction : G7.fn "_law_fraction" = specOf G5 3 ir_law_fraction := (Gt.add_ne (by decide)).trans g6_law_fraction
theorem g7_law_drawn : G7.fn "_law_drawn" = specOf G6 7 ir_law_drawn := Gt.add_eq
theorem g8_law_draw : G8.fn "_law_draw" = specOf G0 6 ir_law_draw := (Gt.add_ne (by decide)).trans g7_law_draw
theorem g8_law_plus : G8.fn "_law_plus" = specOf G1 3 ir_law_plus := (Gt.add_ne (by decide)).trans g7_law_plus
theorem g8_law_put : G8.fn "_law_put" = specOf G2 4 ir_law_put := (Gt.add_ne (by decide)).trans g7_law_put
theorem g8_law_low : G8.fn "_law_low" = specOf G3 4 ir_law_low := (Gt.add_ne (by decide)).trans g7_law_low
theorem g8_law_number : G8.fn "_law_number" = specOf G4 4 ir_law_number := (Gt.add_ne (by decide)).trans g7_law_number
theorem g8_law_fraction : G8.fn "_law_fraction" = specOf G5 3 ir_law_fraction := (Gt.add_ne (by decide)).trans g7_law_fraction
theorem g8_law_drawn : G8.fn "_law_drawn" = specOf G6 7 ir_law_drawn := (Gt.add_ne (by decide)).trans g7_law_drawn
theorem g8_law_sum : G8.fn "_law_sum" = specOf G7 5 ir_law_sum := Gt.add_eq
theorem g9_law_draw : G9.fn "_law_draw" = specOf G0 6 ir_law_draw := (Gt.add_ne (by decide)).trans g8_law_draw
theorem g9_law_plus : G9.fn "_law_plus" = specOf G1 3 ir_law_plus := (Gt.add_ne (by decide)).trans g8_law_plus
theorem g9_law_put : G9.fn "_law_put" = specOf G2 4 ir_law_put := (Gt.add_ne (by decide)).trans g8_law_put
theorem g9_law_low : G9.fn "_law_low" = specOf G3 4 ir_law_low := (Gt.add_ne (by decide)).trans g8_law_low
theorem g9_law_number : G9.fn "_law_number" = specOf G4 4 ir_law_number := (Gt.add_ne (by decide)).trans g8_law_number
theorem g9_law_fraction : G9.fn "_law_fraction" = specOf G5 3 ir_law_fraction := (Gt.add_ne (by decide)).trans g8_law_fraction
theorem g9_law_drawn : G9.fn "_law_drawn" = specOf G6 7 ir_law_drawn := (Gt.add_ne (by decide)).trans g8_law_drawn
theorem g9_law_sum : G9.fn "_law_sum" = specOf G7 5 ir_law_sum := (Gt.add_ne (by decide)).trans g8_law_sum
theorem g9_degree : G9.fn "degree" = specOf G8 3 ir_degree := Gt.add_eq
theorem g10_law_draw : G10.fn "_law_draw" = specOf G0 6 ir_law_draw := (Gt.add_ne (by decide)).trans g9_law_draw
theorem g10_law_plus : G10.fn "_law_plus" = specOf G1 3 ir_law_plus := (Gt.add_ne (by decide)).trans g9_law_plus
theorem g10_law_put : G10.fn "_law_put" = specOf G2 4 ir_law_put := (Gt.add_ne (by decide)).trans g9_law_put
theorem g10_law_low : G10.fn "_law_low" = specOf G3 4 ir_law_low := (Gt.add_ne (by decide)).trans g9_law_low
theorem g10_law_number : G10.fn "_law_number" = specOf G4 4 ir_law_number := (Gt.add_ne (by decide)).trans g9_law_number
theorem g10_law_fraction : G10.fn "_law_fraction" = specOf G5 3 ir_law_fraction := (Gt.add_ne (by decide)).trans g9_law_fraction
theorem g10_law_drawn : G10.fn "_law_drawn" = specOf G6 7 ir_law_drawn := (Gt.add_ne (by decide)).trans g9_law_drawn
theorem g10_law_sum : G10.fn "_law_sum" = specOf G7 5 ir_law_sum := (Gt.add_ne (by decide)).trans g9_law_sum
theorem g10_degree : G10.fn "degree" = specOf G8 3 ir_degree := (Gt.add_ne (by decide)).trans g9_degree
theorem g10_law_mul : G10.fn "_law_mul" = specOf G9 2 ir_law_mul := Gt.add_eq
theorem g11_law_draw : G11.fn "_law_draw" = specOf G0 6 ir_law_draw := (Gt.add_ne (by decide)).trans g10_law_draw
theorem g11_law_plus : G11.fn "_law_plus" = specOf G1 3 ir_law_plus := (Gt.add_ne (by decide)).trans g10_law_plus
theorem g11_law_put : G11.fn "_law_put" = specOf G2 4 ir_law_put := (Gt.add_ne (by decide)).trans g10_law_put
theorem g11_law_low : G11.fn "_law_low" = specOf G3 4 ir_law_low := (Gt.add_ne (by decide)).trans g10_law_low
theorem g11_law_number : G11.fn "_law_number" = specOf G4 4 ir_law_number := (Gt.add_ne (by decide)).trans g10_law_number
theorem g11_law_fraction : G11.fn "_law_fraction" = specOf G5 3 ir_law_fraction := (Gt.add_ne (by decide)).trans g10_law_fraction
theorem g11_law_drawn : G11.fn "_law_drawn" = specOf G6 7 ir_law_drawn := (Gt.add_ne (by decide)).trans g10_law_drawn
theorem g11_law_sum : G11.fn "_law_sum" = specOf G7 5 ir_law_sum := (Gt.add_ne (by decide)).trans g10_law_sum
theorem g11_degree : G11.fn "degree" = specOf G8 3 ir_degree := (Gt.add_ne (by decide)).trans g10_degree
theorem g11_law_mul : G11.fn "_law_mul" = specOf G9 2 ir_law_mul := (Gt.add_ne (by decide)).trans g10_law_mul
theorem g11_law_at : G11.fn "_law_at" = specOf G10 8 ir_law_at := Gt.add_eq
theorem g12_law_draw : G12.fn "_law_draw" = specOf G0 6 ir_law_draw := (Gt.add_ne (by decide)).trans g11_law_draw
theorem g12_law_plus : G12.fn "_law_plus" = specOf G1 3 ir_law_plus := (Gt.add_ne (by decide)).trans g11_law_plus
theorem g12_law_put : G12.fn "_law_put" = specOf G2 4 ir_law_put := (Gt.add_ne (by decide)).trans g11_law_put
theorem g12_law_low : G12.fn "_law_low" = specOf G3 4 ir_law_low := (Gt.add_ne (by decide)).trans g11_law_low
theorem g12_law_number : G12.fn "_law_number" = specOf G4 4 ir_law_number := (Gt.add_ne (by decide)).trans g11_law_number
theorem g12_law_fraction : G12.fn "_law_fraction" = specOf G5 3 ir_law_fraction := (Gt.add_ne (by decide)).trans g11_law_fraction
theorem g12_law_drawn : G12.fn "_law_drawn" = specOf G6 7 ir_law_drawn := (Gt.add_ne (by decide)).trans g11_law_drawn
theorem g12_law_sum : G12.fn "_law_sum" = specOf G7 5 ir_law_sum := (Gt.add_ne (by decide)).trans g11_law_sum
theorem g12_degree : G12.fn "degree" = specOf G8 3 ir_degree := (Gt.add_ne (by decide)).trans g11_degree
theorem g12_law_mul : G12.fn "_law_mul" = specOf G9 2 ir_law_mul := (Gt.add_ne (by decide)).trans g11_law_mul
theorem g12_law_at : G12.fn "_law_at" = specOf G10 8 ir_law_at := (Gt.add_ne (by decide)).trans g11_law_at
theorem g12_common_measure : G12.fn "common_measure" = specOf G11 2 ir_common_measure := Gt.add_eq
theorem g13_law_draw : G13.fn "_law_draw" = specOf G0 6 ir_law_draw := (Gt.add_ne (by decide)).trans g12_law_draw
theorem g13_law_plus : G13.fn "_law_plus" = specOf G1 3 ir_law_plus := (Gt.add_ne (by decide)).trans g12_law_plus
theorem g13_law_put : G13.fn "_law_put" = specOf G2 4 ir_law_put := (Gt.add_ne (by decide)).trans g12_law_put
theorem g13_law_low : G13.fn "_law_low" = specOf G3 4 ir_law_low := (Gt.add_ne (by decide)).trans g12_law_low
theorem g13_law_number : G13.fn "_law_number" = specOf G4 4 ir_law_number := (Gt.add_ne (by decide)).trans g12_law_number
theorem g13_law_fraction : G13.fn "_law_fraction" = specOf G5 3 ir_law_fraction := (Gt.add_ne (by decide)).trans g12_law_fraction
theorem g13_law_drawn : G13.fn "_law_drawn" = specOf G6 7 ir_law_drawn := (Gt.add_ne (by decide)).trans g12_law_drawn
theorem g13_law_sum : G13.fn "_law_sum" = specOf G7 5 ir_law_sum := (Gt.add_ne (by decide)).trans g12_law_sum
theorem g13_degree : G13.fn "degree" = specOf G8 3 ir_degree := (Gt.add_ne (by decide)).trans g12_degree
theorem g13_law_mul : G13.fn "_law_mul" = specOf G9 2 ir_law_mul := (Gt.add_ne (by decide)).trans g12_law_mul
theorem g13_law_at : G13.fn "_law_at" = specOf G10 8 ir_law_at := (Gt.add_ne (by decide)).trans g12_law_at
theorem g13_common_measure : G13.fn "common_measure" = specOf G11 2 ir_common_measure := (Gt.add_ne (by decide)).trans g12_common_measure
theorem g13_lowest_terms : G13.fn "lowest_terms" = specOf G12 3 ir_lowest_terms := Gt.add_eq
theorem g14_law_draw : G14.fn "_law_draw" = specOf G0 6 ir_law_draw := (Gt.add_ne (by decide)).trans g13_law_draw
theorem g14_law_plus : G14.fn "_law_plus" = specOf G1 3 ir_law_plus := (Gt.add_ne (by decide)).trans g13_law_plus
theorem g14_law_put : G14.fn "_law_put" = specOf G2 4 ir_law_put := (Gt.add_ne (by decide)).trans g13_law_put
theorem g14_law_low : G14.fn "_law_low" = specOf G3 4 ir_law_low := (Gt.add_ne (by decide)).trans g13_law_low
theorem g14_law_number : G14.fn "_law_number" = specOf G4 4 ir_law_number := (Gt.add_ne (by decide)).trans g13_law_number
theorem g14_law_fraction : G14.fn "_law_fraction" = specOf G5 3 ir_law_fraction := (Gt.add_ne (by decide)).trans g13_law_fraction
theorem g14_law_drawn : G14.fn "_law_drawn" = specOf G6 7 ir_law_drawn := (Gt.add_ne (by decide)).trans g13_law_drawn
theorem g14_law_sum : G14.fn "_law_sum" = specOf G7 5 ir_law_sum := (Gt.add_ne (by decide)).trans g13_law_sum
theorem g14_degree : G14.fn "degree" = specOf G8 3 ir_degree := (Gt.add_ne (by decide)).trans g13_degree
theorem g14_law_mul : G14.fn "_law_mul" = specOf G9 2 ir_law_mul := (Gt.add_ne (by decide)).trans g13_law_mul
theorem g14_law_at : G14.fn "_law_at" = specOf G10 8 ir_law_at := (Gt.add_ne (by decide)).trans g13_law_at
theorem g14_common_measure : G14.fn "common_measure" = specOf G11 2 ir_common_measure := (Gt.add_ne (by decide)).trans g13_common_measure
theorem g14_lowest_terms : G14.fn "lowest_terms" = specOf G12 3 ir_lowest_terms := (Gt.add_ne (by decide)).trans g13_lowest_terms
theorem g14_added : G14.fn "added" = specOf G13 2 ir_added := Gt.add_eq
theorem g15_law_draw : G15.fn "_law_draw" = specOf G0 6 ir_law_draw := (Gt.add_ne (by decide)).trans g14_law_draw
theorem g15_law_plus : G15.fn "_law_plus" = specOf G1 3 ir_law_plus := (Gt.add_ne (by decide)).trans g14_law_plus
theorem g15_law_put : G15.fn "_law_put" = specOf G2 4 ir_law_put := (Gt.add_ne (by decide)).trans g14_law_put
theorem g15_law_low : G15.fn "_law_low" = specOf G3 4 ir_law_low := (Gt.add_ne (by decide)).trans g14_law_low
theorem g15_law_number : G15.fn "_law_number" = specOf G4 4 ir_law_number := (Gt.add_ne (by decide)).trans g14_law_number
theorem g15_law_fraction : G15.fn "_law_fraction" = specOf G5 3 ir_law_fraction := (Gt.add_ne (by decide)).trans g14_law_fraction
theorem g15_law_drawn : G15.fn "_law_drawn" = specOf G6 7 ir_law_drawn := (Gt.add_ne (by decide)).trans g14_law_drawn
theorem g15_law_sum : G15.fn "_law_sum" = specOf G7 5 ir_law_sum := (Gt.add_ne (by decide)).trans g14_law_sum
theorem g15_degree : G15.fn "degree" = specOf G8 3 ir_degree := (Gt.add_ne (by decide)).trans g14_degree
theorem g15_law_mul : G15.fn "_law_mul" = specOf G9 2 ir_law_mul := (Gt.add_ne (by decide)).trans g14_law_mul
theorem g15_law_at : G15.fn "_law_at" = specOf G10 8 ir_law_at := (Gt.add_ne (by decide)).trans g14_law_at
theorem g15_common_measure : G15.fn "common_measure" = specOf G11 2 ir_common_measure := (Gt.add_ne (by decide)).trans g14_common_measure
theorem g15_lowest_terms : G15.fn "lowest_terms" = specOf G12 3 ir_lowest_terms := (Gt.add_ne (by decide)).trans g14_lowest_terms
theorem g15_added : G15.fn "added" = specOf G13 2 ir_added := (Gt.add_ne (by decide)).trans g14_added
theorem g15_multiplied : G15.fn "multiplied" = specOf G14 2 ir_multiplied := Gt.add_eq
theorem g16_law_draw : G16.fn "_law_draw" = specOf G0 6 ir_law_draw := (Gt.add_ne (by decide)).trans g15_law_draw
theorem g16_law_plus : G16.fn "_law_plus" = specOf G1 3 ir_law_plus := (Gt.add_ne (by decide)).trans g15_law_plus
theorem g16_law_put : G16.fn "_law_put" = specOf G2 4 ir_law_put := (Gt.add_ne (by decide)).trans g15_law_put
theorem g16_law_low : G16.fn "_law_low" = specOf G3 4 ir_law_low := (Gt.add_ne (by decide)).trans g15_law_low
theorem g16_law_number : G16.fn "_law_number" = specOf G4 4 ir_law_number := (Gt.add_ne (by decide)).trans g15_law_number
theorem g16_law_fraction : G16.fn "_law_fraction" = specOf G5 3 ir_law_fraction := (Gt.add_ne (by decide)).trans g15_law_fraction
theorem g16_law_drawn : G16.fn "_law_drawn" = specOf G6 7 ir_law_drawn := (Gt.add_ne (by decide)).trans g15_law_drawn
theorem g16_law_sum : G16.fn "_law_sum" = specOf G7 5 ir_law_sum := (Gt.add_ne (by decide)).trans g15_law_sum
theorem g16_degree : G16.fn "degree" = specOf G8 3 ir_degree := (Gt.add_ne (by decide)).trans g15_degree
theorem g16_law_mul : G16.fn "_law_mul" = specOf G9 2 ir_law_mul := (Gt.add_ne (by decide)).trans g15_law_mul
theorem g16_law_at : G16.fn "_law_at" = specOf G10 8 ir_law_at := (Gt.add_ne (by decide)).trans g15_law_at
theorem g16_common_measure : G16.fn "common_measure" = specOf G11 2 ir_common_measure := (Gt.add_ne (by decide)).trans g15_common_measure
theorem g16_lowest_terms : G16.fn "lowest_terms" = specOf G12 3 ir_lowest_terms := (Gt.add_ne (by decide)).trans g15_lowest_terms
theorem g16_added : G16.fn "added" = specOf G13 2 ir_added := (Gt.add_ne (by decide)).trans g15_added
theorem g16_multiplied : G16.fn "multiplied" = specOf G14 2 ir_multiplied := (Gt.add_ne (by decide)).trans g15_multiplied
theorem g16_power_of : G16.fn "power_of" = specOf G15 4 ir_power_of := Gt.add_eq
theorem g17_law_draw : G17.fn "_law_draw" = specOf G0 6 ir_law_draw := (Gt.add_ne (by decide)).trans g16_law_draw
theorem g17_law_plus : G17.fn "_law_plus" = specOf G1 3 ir_law_plus := (Gt.add_ne (by decide)).trans g16_law_plus
theorem g17_law_put : G17.fn "_law_put" = specOf G2 4 ir_law_put := (Gt.add_ne (by decide)).trans g16_law_put
theorem g17_law_low : G17.fn "_law_low" = specOf G3 4 ir_law_low := (Gt.add_ne (by decide)).trans g16_law_low
theorem g17_law_number : G17.fn "_law_number" = specOf G4 4 ir_law_number := (Gt.add_ne (by decide)).trans g16_law_number
theorem g17_law_fraction : G17.fn "_law_fraction" = specOf G5 3 ir_law_fraction := (Gt.add_ne (by decide)).trans g16_law_fraction
theorem g17_law_drawn : G17.fn "_law_drawn" = specOf G6 7 ir_law_drawn := (Gt.add_ne (by decide)).trans g16_law_drawn
theorem g17_law_sum : G17.fn "_law_sum" = specOf G7 5 ir_law_sum := (Gt.add_ne (by decide)).trans g16_law_sum
theorem g17_degree : G17.fn "degree" = specOf G8 3 ir_degree := (Gt.add_ne (by decide)).trans g16_degree
theorem g17_law_mul : G17.fn "_law_mul" = specOf G9 2 ir_law_mul := (Gt.add_ne (by decide)).trans g16_law_mul
theorem g17_law_at : G17.fn "_law_at" = specOf G10 8 ir_law_at := (Gt.add_ne (by decide)).trans g16_law_at
theorem g17_common_measure : G17.fn "common_measure" = specOf G11 2 ir_common_measure := (Gt.add_ne (by decide)).trans g16_common_measure
theorem g17_lowest_terms : G17.fn "lowest_terms" = specOf G12 3 ir_lowest_terms := (Gt.add_ne (by decide)).trans g16_lowest_terms
theorem g17_added : G17.fn "added" = specOf G13 2 ir_added := (Gt.add_ne (by decide)).trans g16_added
theorem g17_multiplied : G17.fn "multiplied" = specOf G14 2 ir_multiplied := (Gt.add_ne (by decide)).trans g16_multiplied
theorem g17_power_of : G17.fn "power_of" = specOf G15 4 ir_power_of := (Gt.add_ne (by decide)).trans g16_power_of
theorem g17_worth : G17.fn "worth" = specOf G16 7 ir_worth := Gt.add_eq
theorem g18_law_draw : G18.fn "_law_draw" = specOf G0 6 ir_law_draw := (Gt.add_ne (by decide)).trans g17_law_draw
theorem g18_law_plus : G18.fn "_law_plus" = specOf G1 3 ir_law_plus := (Gt.add_ne (by decide)).trans g17_law_plus
theorem g18_law_put : G18.fn "_law_put" = specOf G2 4 ir_law_put := (Gt.add_ne (by decide)).trans g17_law_put
theorem g18_law_low : G18.fn "_law_low" = specOf G3 4 ir_law_low := (Gt.add_ne (by decide)).trans g17_law_low
theorem g18_law_number : G18.fn "_law_number" = specOf G4 4 ir_law_number := (Gt.add_ne (by decide)).trans g17_law_number
theorem g18_law_fraction : G18.fn "_law_fraction" = specOf G5 3 ir_law_fraction := (Gt.add_ne (by decide)).trans g17_law_fraction
theorem g18_law_drawn : G18.fn "_law_drawn" = specOf G6 7 ir_law_drawn := (Gt.add_ne (by decide)).trans g17_law_drawn
theorem g18_law_sum : G18.fn "_law_sum" = specOf G7 5 ir_law_sum := (Gt.add_ne (by decide)).trans g17_law_sum
theorem g18_degree : G18.fn "degree" = specOf G8 3 ir_degree := (Gt.add_ne (by decide)).trans g17_degree
theorem g18_law_mul : G18.fn "_law_mul" = specOf G9 2 ir_law_mul := (Gt.add_ne (by decide)).trans g17_law_mul
theorem g18_law_at : G18.fn "_law_at" = specOf G10 8 ir_law_at := (Gt.add_ne (by decide)).trans g17_law_at
theorem g18_common_measure : G18.fn "common_measure" = specOf G11 2 ir_common_measure := (Gt.add_ne (by decide)).trans g17_common_measure
theorem g18_lowest_terms : G18.fn "lowest_terms" = specOf G12 3 ir_lowest_terms := (Gt.add_ne (by decide)).trans g17_lowest_terms
theorem g18_added : G18.fn "added" = specOf G13 2 ir_added := (Gt.add_ne (by decide)).trans g17_added
theorem g18_multiplied : G18.fn "multiplied" = specOf G14 2 ir_multiplied := (Gt.add_ne (by decide)).trans g17_multiplied
theorem g18_power_of : G18.fn "power_of" = specOf G15 4 ir_power_of := (Gt.add_ne (by decide)).trans g17_power_of
theorem g18_worth : G18.fn "worth" = specOf G16 7 ir_worth := (Gt.add_ne (by decide)).trans g17_worth
theorem g18_law_is_number : G18.fn "_law_is_number" = specOf G17 2 ir_law_is_number := Gt.add_eq
theorem g19_law_draw : G19.fn "_law_draw" = specOf G0 6 ir_law_draw := (Gt.add_ne (by decide)).trans g18_law_draw
theorem g19_law_plus : G19.fn "_law_plus" = specOf G1 3 ir_law_plus := (Gt.add_ne (by decide)).trans g18_law_plus
theorem g19_law_put : G19.fn "_law_put" = specOf G2 4 ir_law_put := (Gt.add_ne (by decide)).trans g18_law_put
theorem g19_law_low : G19.fn "_law_low" = specOf G3 4 ir_law_low := (Gt.add_ne (by decide)).trans g18_law_low
theorem g19_law_number : G19.fn "_law_number" = specOf G4 4 ir_law_number := (Gt.add_ne (by decide)).trans g18_law_number
theorem g19_law_fraction : G19.fn "_law_fraction" = specOf G5 3 ir_law_fraction := (Gt.add_ne (by decide)).trans g18_law_fraction
theorem g19_law_drawn : G19.fn "_law_drawn" = specOf G6 7 ir_law_drawn := (Gt.add_ne (by decide)).trans g18_law_drawn
theorem g19_law_sum : G19.fn "_law_sum" = specOf G7 5 ir_law_sum := (Gt.add_ne (by decide)).trans g18_law_sum
theorem g19_degree : G19.fn "degree" = specOf G8 3 ir_degree := (Gt.add_ne (by decide)).trans g18_degree
theorem g19_law_mul : G19.fn "_law_mul" = specOf G9 2 ir_law_mul := (Gt.add_ne (by decide)).trans g18_law_mul
theorem g19_law_at : G19.fn "_law_at" = specOf G10 8 ir_law_at := (Gt.add_ne (by decide)).trans g18_law_at
theorem g19_common_measure : G19.fn "common_measure" = specOf G11 2 ir_common_measure := (Gt.add_ne (by decide)).trans g18_common_measure
theorem g19_lowest_terms : G19.fn "lowest_terms" = specOf G12 3 ir_lowest_terms := (Gt.add_ne (by decide)).trans g18_lowest_terms
theorem g19_added : G19.fn "added" = specOf G13 2 ir_added := (Gt.add_ne (by decide)).trans g18_added
theorem g19_multiplied : G19.fn "multiplied" = specOf G14 2 ir_multiplied := (Gt.add_ne (by decide)).trans g18_multiplied
theorem g19_power_of : G19.fn "power_of" = specOf G15 4 ir_power_of := (Gt.add_ne (by decide)).trans g18_power_of
theorem g19_worth : G19.fn "worth" = specOf G16 7 ir_worth := (Gt.add_ne (by decide)).trans g18_worth
theorem g19_law_is_number : G19.fn "_law_is_number" = specOf G17 2 ir_law_is_number := (Gt.add_ne (by decide)).trans g18_law_is_number
theorem g19_law : G19.fn "law" = specOf G18 13 ir_law := Gt.add_eq
end Lw
namespace Lw
open PySem Mp Wp Lk4
theorem con_one : G0.con "UNIT" = some (.wtup [.int 1, .int 1]) := rfl
theorem con_zero : G0.con "NOUGHT" = some (.wtup [.int 0, .int 1]) := rfl
theorem drw {f : List D → M D} (h : f = specOf G0 6 ir_law_draw) : DrawW f := by
  rw [h]
  exact drawW G0
theorem plus1 {f : List D → M D} (h : f = specOf G1 3 ir_law_plus) : PlusX f := by
  rw [h]
  exact plusX G1
theorem lowX {f : List D → M D} (h : f = specOf G3 4 ir_law_low) : LowX f := by
  rw [h]
  exact lawLowX G3
theorem low0 {f : List D → M D} (h : f = specOf G3 4 ir_law_low) : LowW f := by
  rw [h]
  exact lowW (Lib.lowOk G3)
theorem num4 {f : List D → M D} (h : f = specOf G4 4 ir_law_number) : FrX f 5 850000000 := by
  rw [h]
  exact numberX G4 (drw g4_law_draw) (lowX g4_law_low)
theorem frac5 {f : List D → M D} (h : f = specOf G5 3 ir_law_fraction) : FrX f 6 800000000 := by
  rw [h]
  exact fractionX G5 (drw g5_law_draw) (lowX g5_law_low) (num4 g5_law_number)
theorem low12 {f : List D → M D} (h : f = specOf G12 3 ir_lowest_terms) : LowX f := by
  rw [h]
  exact lowTermsX G12 (fun a b S h1 h2 => by rw [g12_common_measure]; exact Lib.cmOk G11 a b S h1 h2)
theorem mul14 {f : List D → M D} (h : f = specOf G14 2 ir_multiplied) : MulX f := by
  rw [h]
  exact mulX G14 (low12 g14_lowest_terms)
theorem run_k04 (ns : List Int) : ∃ S, specOf G18 13 ir_law [.scr ns] [] = .ok (.bl true) S := by
  obtain ⟨d, S, e, rfl⟩ := law4X G18 (drw g18_law_draw) (by rw [g18_law_sum]; exact Lk3.sumW G7 (low0 g7_law_low))
    (by
      rw [g18_law_drawn]
      exact drawnX G6 (drw g6_law_draw) (frac5 g6_law_fraction) (by
        rw [g6_law_put]
        exact putX G2 (plus1 g2_law_plus)))
    (by rw [g18_degree]; exact degX G8)
    (num4 g18_law_number) (frac5 g18_law_fraction)
    (by
      rw [g18_law_at]
      exact lawAtX G10 (by rw [g10_law_mul]; exact lawMulX G9) (plus1 g10_law_plus))
    (by
      rw [g18_worth]
      exact worthX G16 (by rw [g16_added]; exact addX G13 (low12 g13_lowest_terms)) (mul14 g16_multiplied) (by rw [g16_power_of]; exact powX G15 (mul14 g15_multiplied) con_one) con_zero)
    (by rw [g18_law_is_number]; exact isnX G17 (lowX g17_law_low))
    (lowX g18_law_low) ns
  exact ⟨S, e⟩
end Lw
namespace Lw
open PySem PySem.Spec PyProof.Rows L2 Mp
def topS (i : Nat) : Stmt := PySem.Challenge.pw_lowwater_k04_degrees_and_worths.main.body.getD i (.Pass ⟨0, 0, 0, 0⟩)
abbrev s0 : Stmt := topS 12
theorem sc0 : FnScope ["tape", "many", "spot", "cell", "some", "rest"] ["tape", "many"] (defScope s0) := ⟨rfl, rfl, rfl, by decide +kernel, rfl, by decide +kernel, by decide +kernel⟩
theorem ck0 : chkB ⟨["tape", "many", "spot", "cell", "some", "rest"], [], ["UNIT", "NOUGHT"], []⟩ (defScope s0) ir_law_draw (defBody s0) = true := by decide +kernel
abbrev s1 : Stmt := topS 14
theorem sc1 : FnScope ["one", "other", "top"] ["one", "other"] (defScope s1) := ⟨rfl, rfl, rfl, by decide +kernel, rfl, by decide +kernel, by decide +kernel⟩
theorem ck1 : chkB ⟨["one", "other", "top"], [("_law_draw", 2)], ["UNIT", "NOUGHT"], []⟩ (defScope s1) ir_law_plus (defBody s1) = true := by decide +kernel
abbrev s2 : Stmt := topS 16
theorem sc2 : FnScope ["found", "powers", "number", "some"] ["found", "powers", "number"] (defScope s2) := ⟨rfl, rfl, rfl, by decide +kernel, rfl, by decide +kernel, by decide +kernel⟩
theorem ck2 : chkB ⟨["found", "powers", "number", "some"], [("_law_plus", 2), ("_law_draw", 2)], ["UNIT", "NOUGHT"], []⟩ (defScope s2) ir_law_put (defBody s2) = true := by decide +kernel
abbrev s3 : Stmt := topS 13
theorem sc3 : FnScope ["top", "bottom", "one", "other"] ["top", "bottom"] (defScope s3) := ⟨rfl, rfl, rfl, by decide +kernel, rfl, by decide +kernel, by decide +kernel⟩
theorem ck3 : chkB ⟨["top", "bottom", "one", "other"], [("_law_put", 3), ("_law_plus", 2), ("_law_draw", 2)], ["UNIT", "NOUGHT"], []⟩ (defScope s3) ir_law_low (defBody s3) = true := by decide +kernel
abbrev s4 : Stmt := topS 20
theorem sc4 : FnScope ["tape", "way", "top", "great"] ["tape"] (defScope s4) := ⟨rfl, rfl, rfl, by decide +kernel, rfl, by decide +kernel, by decide +kernel⟩
theorem ck4 : chkB ⟨["tape", "way", "top", "great"], [("_law_low", 2), ("_law_put", 3), ("_law_plus", 2), ("_law_draw", 2)], ["UNIT", "NOUGHT"], []⟩ (defScope s4) ir_law_number (defBody s4) = true := by decide +kernel
abbrev s5 : Stmt := topS 21
theorem sc5 : FnScope ["tape", "top", "bottom"] ["tape"] (defScope s5) := ⟨rfl, rfl, rfl, by decide +kernel, rfl, by decide +kernel, by decide +kernel⟩
theorem ck5 : chkB ⟨["tape", "top", "bottom"], [("_law_number", 1), ("_law_low", 2), ("_law_put", 3), ("_law_plus", 2), ("_law_draw", 2)], ["UNIT", "NOUGHT"], []⟩ (defScope s5) ir_law_fraction (defBody s5) = true := by decide +kernel
abbrev s6 : Stmt := topS 22
theorem sc6 : FnScope ["tape", "many", "found", "k", "powers", "turn", "letter"] ["tape", "many"] (defScope s6) := ⟨rfl, rfl, rfl, by decide +kernel, rfl, by decide +kernel, by decide +kernel⟩
theorem ck6 : chkB ⟨["tape", "many", "found", "k", "powers", "turn", "letter"], [("_law_fraction", 1), ("_law_number", 1), ("_law_low", 2), ("_law_put", 3), ("_law_plus", 2), ("_law_draw", 2)], ["UNIT", "NOUGHT"], []⟩ (defScope s6) ir_law_drawn (defBody s6) = true := by decide +kernel
abbrev s7 : Stmt := topS 18
theorem sc7 : FnScope ["many", "one", "terms", "powers", "number"] ["many", "one"] (defScope s7) := ⟨rfl, rfl, rfl, by decide +kernel, rfl, by decide +kernel, by decide +kernel⟩
theorem ck7 : chkB ⟨["many", "one", "terms", "powers", "number"], [("_law_drawn", 2), ("_law_fraction", 1), ("_law_number", 1), ("_law_low", 2), ("_law_put", 3), ("_law_plus", 2), ("_law_draw", 2)], ["UNIT", "NOUGHT"], []⟩ (defScope s7) ir_law_sum (defBody s7) = true := by decide +kernel
abbrev s8 : Stmt := topS 8
theorem sc8 : FnScope ["one", "powers", "number"] ["one"] (defScope s8) := ⟨rfl, rfl, rfl, by decide +kernel, rfl, by decide +kernel, by decide +kernel⟩
theorem ck8 : chkB ⟨["one", "powers", "number"], [("_law_sum", 2), ("_law_drawn", 2), ("_law_fraction", 1), ("_law_number", 1), ("_law_low", 2), ("_law_put", 3), ("_law_plus", 2), ("_law_draw", 2)], ["UNIT", "NOUGHT"], []⟩ (defScope s8) ir_degree (defBody s8) = true := by decide +kernel
abbrev s9 : Stmt := topS 15
theorem sc9 : FnScope ["one", "other"] ["one", "other"] (defScope s9) := ⟨rfl, rfl, rfl, by decide +kernel, rfl, by decide +kernel, by decide +kernel⟩
theorem ck9 : chkB ⟨["one", "other"], [("degree", 1), ("_law_sum", 2), ("_law_drawn", 2), ("_law_fraction", 1), ("_law_number", 1), ("_law_low", 2), ("_law_put", 3), ("_law_plus", 2), ("_law_draw", 2)], ["UNIT", "NOUGHT"], []⟩ (defScope s9) ir_law_mul (defBody s9) = true := by decide +kernel
abbrev s10 : Stmt := topS 17
theorem sc10 : FnScope ["one", "spot", "total", "powers", "number", "power", "place", "turn"] ["one", "spot"] (defScope s10) := ⟨rfl, rfl, rfl, by decide +kernel, rfl, by decide +kernel, by decide +kernel⟩
theorem ck10 : chkB ⟨["one", "spot", "total", "powers", "number", "power", "place", "turn"], [("_law_mul", 2), ("degree", 1), ("_law_sum", 2), ("_law_drawn", 2), ("_law_fraction", 1), ("_law_number", 1), ("_law_low", 2), ("_law_put", 3), ("_law_plus", 2), ("_law_draw", 2)], ["UNIT", "NOUGHT"], []⟩ (defScope s10) ir_law_at (defBody s10) = true := by decide +kernel
abbrev s11 : Stmt := topS 3
theorem sc11 : FnScope ["one", "other"] ["one", "other"] (defScope s11) := ⟨rfl, rfl, rfl, by decide +kernel, rfl, by decide +kernel, by decide +kernel⟩
theorem ck11 : chkB ⟨["one", "other"], [("_law_at", 2), ("_law_mul", 2), ("degree", 1), ("_law_sum", 2), ("_law_drawn", 2), ("_law_fraction", 1), ("_law_number", 1), ("_law_low", 2), ("_law_put", 3), ("_law_plus", 2), ("_law_draw", 2)], ["UNIT", "NOUGHT"], []⟩ (defScope s11) ir_common_measure (defBody s11) = true := by decide +kernel
abbrev s12 : Stmt := topS 4
theorem sc12 : FnScope ["top", "bottom", "measure"] ["top", "bottom"] (defScope s12) := ⟨rfl, rfl, rfl, by decide +kernel, rfl, by decide +kernel, by decide +kernel⟩
theorem ck12 : chkB ⟨["top", "bottom", "measure"], [("common_measure", 2), ("_law_at", 2), ("_law_mul", 2), ("degree", 1), ("_law_sum", 2), ("_law_drawn", 2), ("_law_fraction", 1), ("_law_number", 1), ("_law_low", 2), ("_law_put", 3), ("_law_plus", 2), ("_law_draw", 2)], ["UNIT", "NOUGHT"], []⟩ (defScope s12) ir_lowest_terms (defBody s12) = true := by decide +kernel
abbrev s13 : Stmt := topS 5
theorem sc13 : FnScope ["one", "other"] ["one", "other"] (defScope s13) := ⟨rfl, rfl, rfl, by decide +kernel, rfl, by decide +kernel, by decide +kernel⟩
theorem ck13 : chkB ⟨["one", "other"], [("lowest_terms", 2), ("common_measure", 2), ("_law_at", 2), ("_law_mul", 2), ("degree", 1), ("_law_sum", 2), ("_law_drawn", 2), ("_law_fraction", 1), ("_law_number", 1), ("_law_low", 2), ("_law_put", 3), ("_law_plus", 2), ("_law_draw", 2)], ["UNIT", "NOUGHT"], []⟩ (defScope s13) ir_added (defBody s13) = true := by decide +kernel
abbrev s14 : Stmt := topS 6
theorem sc14 : FnScope ["one", "other"] ["one", "other"] (defScope s14) := ⟨rfl, rfl, rfl, by decide +kernel, rfl, by decide +kernel, by decide +kernel⟩
theorem ck14 : chkB ⟨["one", "other"], [("added", 2), ("lowest_terms", 2), ("common_measure", 2), ("_law_at", 2), ("_law_mul", 2), ("degree", 1), ("_law_sum", 2), ("_law_drawn", 2), ("_law_fraction", 1), ("_law_number", 1), ("_law_low", 2), ("_law_put", 3), ("_law_plus", 2), ("_law_draw", 2)], ["UNIT", "NOUGHT"], []⟩ (defScope s14) ir_multiplied (defBody s14) = true := by decide +kernel
abbrev s15 : Stmt := topS 9
theorem sc15 : FnScope ["number", "power", "found", "turn"] ["number", "power"] (defScope s15) := ⟨rfl, rfl, rfl, by decide +kernel, rfl, by decide +kernel, by decide +kernel⟩
theorem ck15 : chkB ⟨["number", "power", "found", "turn"], [("multiplied", 2), ("added", 2), ("lowest_terms", 2), ("common_measure", 2), ("_law_at", 2), ("_law_mul", 2), ("degree", 1), ("_law_sum", 2), ("_law_drawn", 2), ("_law_fraction", 1), ("_law_number", 1), ("_law_low", 2), ("_law_put", 3), ("_law_plus", 2), ("_law_draw", 2)], ["UNIT", "NOUGHT"], []⟩ (defScope s15) ir_power_of (defBody s15) = true := by decide +kernel
abbrev s16 : Stmt := topS 10
theorem sc16 : FnScope ["one", "spot", "total", "powers", "number", "power", "place"] ["one", "spot"] (defScope s16) := ⟨rfl, rfl, rfl, by decide +kernel, rfl, by decide +kernel, by decide +kernel⟩
theorem ck16 : chkB ⟨["one", "spot", "total", "powers", "number", "power", "place"], [("power_of", 2), ("multiplied", 2), ("added", 2), ("lowest_terms", 2), ("common_measure", 2), ("_law_at", 2), ("_law_mul", 2), ("degree", 1), ("_law_sum", 2), ("_law_drawn", 2), ("_law_fraction", 1), ("_law_number", 1), ("_law_low", 2), ("_law_put", 3), ("_law_plus", 2), ("_law_draw", 2)], ["UNIT", "NOUGHT"], []⟩ (defScope s16) ir_worth (defBody s16) = true := by decide +kernel
abbrev s17 : Stmt := topS 19
theorem sc17 : FnScope ["thing", "one"] ["thing"] (defScope s17) := ⟨rfl, rfl, rfl, by decide +kernel, rfl, by decide +kernel, by decide +kernel⟩
theorem ck17 : chkB ⟨["thing", "one"], [("worth", 2), ("power_of", 2), ("multiplied", 2), ("added", 2), ("lowest_terms", 2), ("common_measure", 2), ("_law_at", 2), ("_law_mul", 2), ("degree", 1), ("_law_sum", 2), ("_law_drawn", 2), ("_law_fraction", 1), ("_law_number", 1), ("_law_low", 2), ("_law_put", 3), ("_law_plus", 2), ("_law_draw", 2)], ["UNIT", "NOUGHT"], []⟩ (defScope s17) ir_law_is_number (defBody s17) = true := by decide +kernel
abbrev s18 : Stmt := topS 23
theorem sc18 : FnScope ["script", "tape", "turn", "many", "one", "handed", "found", "powers", "spots", "k", "spot", "due", "told"] ["script"] (defScope s18) := ⟨rfl, rfl, rfl, by decide +kernel, rfl, by decide +kernel, by decide +kernel⟩
theorem ck18 : chkB ⟨["script", "tape", "turn", "many", "one", "handed", "found", "powers", "spots", "k", "spot", "due", "told"], [("_law_is_number", 1), ("worth", 2), ("power_of", 2), ("multiplied", 2), ("added", 2), ("lowest_terms", 2), ("common_measure", 2), ("_law_at", 2), ("_law_mul", 2), ("degree", 1), ("_law_sum", 2), ("_law_drawn", 2), ("_law_fraction", 1), ("_law_number", 1), ("_law_low", 2), ("_law_put", 3), ("_law_plus", 2), ("_law_draw", 2)], ["UNIT", "NOUGHT"], []⟩ (defScope s18) ir_law (defBody s18) = true := by decide +kernel
def spLw (K : PySem.W.Frag) : Sp := fun vs H Q E => ∀ mg : Str → Option Value, spOf K mg (specOf G18 13 ir_law) 1 vs H Q E
theorem all_mk {l : PySem.W.OpenLaw} {w : World} {K : PySem.W.Frag} {h : Heap} {mg : Str → Option Value} {fa f0 f1 f2 f3 f4 f5 f6 f7 f8 f9 f10 f11 f12 f13 f14 f15 f16 f17 f18 : Addr} (X : K.In h) (G : h.Ns mainGlobals mg) (hfa : mg "law" = some (.ref fa))
    {od0 an0 od1 an1 od2 an2 od3 an3 od4 an4 od5 an5 od6 an6 od7 an7 od8 an8 od9 an9 od10 an10 od11 an11 od12 an12 od13 an13 od14 an14 od15 an15 od16 an16 od17 an17 od18 an18 : Option Addr} {sl0 sl1 sl2 sl3 sl4 sl5 sl6 sl7 sl8 sl9 sl10 sl11 sl12 sl13 sl14 sl15 sl16 sl17 sl18 : Array (Option Value)} {oc0 kV0 dc0 pm0 cd0 ct0 oc1 kV1 dc1 pm1 cd1 ct1 oc2 kV2 dc2 pm2 cd2 ct2 oc3 kV3 dc3 pm3 cd3 ct3 oc4 kV4 dc4 pm4 cd4 ct4 oc5 kV5 dc5 pm5 cd5 ct5 oc6 kV6 dc6 pm6 cd6 ct6 oc7 kV7 dc7 pm7 cd7 ct7 oc8 kV8 dc8 pm8 cd8 ct8 oc9 kV9 dc9 pm9 cd9 ct9 oc10 kV10 dc10 pm10 cd10 ct10 oc11 kV11 dc11 pm11 cd11 ct11 oc12 kV12 dc12 pm12 cd12 ct12 oc13 kV13 dc13 pm13 cd13 ct13 oc14 kV14 dc14 pm14 cd14 ct14 oc15 kV15 dc15 pm15 cd15 ct15 oc16 kV16 dc16 pm16 cd16 ct16 oc17 kV17 dc17 pm17 cd17 ct17 oc18 kV18 dc18 pm18 cd18 ct18 : Value}
    (a0 : PySem.W.nsIn K mainGlobals "_law_draw" = some (some (.ref f0))) (l0 : K.lookup f0 = some ⟨oc0, od0, .func (PySem.W.fnOf "_law_draw" "_law_draw" (defArgs s0) (defBody s0) (defScope s0) .none kV0 dc0 pm0 an0 cd0 ct0), sl0⟩) (c0 : PySem.W.codeIn K cd0 "_law_draw" = true) (k0 : PySem.W.keepIn K (.ref f0) = true)
    (a1 : PySem.W.nsIn K mainGlobals "_law_plus" = some (some (.ref f1))) (l1 : K.lookup f1 = some ⟨oc1, od1, .func (PySem.W.fnOf "_law_plus" "_law_plus" (defArgs s1) (defBody s1) (defScope s1) .none kV1 dc1 pm1 an1 cd1 ct1), sl1⟩) (c1 : PySem.W.codeIn K cd1 "_law_plus" = true) (k1 : PySem.W.keepIn K (.ref f1) = true)
    (a2 : PySem.W.nsIn K mainGlobals "_law_put" = some (some (.ref f2))) (l2 : K.lookup f2 = some ⟨oc2, od2, .func (PySem.W.fnOf "_law_put" "_law_put" (defArgs s2) (defBody s2) (defScope s2) .none kV2 dc2 pm2 an2 cd2 ct2), sl2⟩) (c2 : PySem.W.codeIn K cd2 "_law_put" = true) (k2 : PySem.W.keepIn K (.ref f2) = true)
    (a3 : PySem.W.nsIn K mainGlobals "_law_low" = some (some (.ref f3))) (l3 : K.lookup f3 = some ⟨oc3, od3, .func (PySem.W.fnOf "_law_low" "_law_low" (defArgs s3) (defBody s3) (defScope s3) .none kV3 dc3 pm3 an3 cd3 ct3), sl3⟩) (c3 : PySem.W.codeIn K cd3 "_law_low" = true) (k3 : PySem.W.keepIn K (.ref f3) = true)
    (a4 : PySem.W.nsIn K mainGlobals "_law_number" = some (some (.ref f4))) (l4 : K.lookup f4 = some ⟨oc4, od4, .func (PySem.W.fnOf "_law_number" "_law_number" (defArgs s4) (defBody s4) (defScope s4) .none kV4 dc4 pm4 an4 cd4 ct4), sl4⟩) (c4 : PySem.W.codeIn K cd4 "_law_number" = true) (k4 : PySem.W.keepIn K (.ref f4) = true)
    (a5 : PySem.W.nsIn K mainGlobals "_law_fraction" = some (some (.ref f5))) (l5 : K.lookup f5 = some ⟨oc5, od5, .func (PySem.W.fnOf "_law_fraction" "_law_fraction" (defArgs s5) (defBody s5) (defScope s5) .none kV5 dc5 pm5 an5 cd5 ct5), sl5⟩) (c5 : PySem.W.codeIn K cd5 "_law_fraction" = true) (k5 : PySem.W.keepIn K (.ref f5) = true)
    (a6 : PySem.W.nsIn K mainGlobals "_law_drawn" = some (some (.ref f6))) (l6 : K.lookup f6 = some ⟨oc6, od6, .func (PySem.W.fnOf "_law_drawn" "_law_drawn" (defArgs s6) (defBody s6) (defScope s6) .none kV6 dc6 pm6 an6 cd6 ct6), sl6⟩) (c6 : PySem.W.codeIn K cd6 "_law_drawn" = true) (k6 : PySem.W.keepIn K (.ref f6) = true)
    (a7 : PySem.W.nsIn K mainGlobals "_law_sum" = some (some (.ref f7))) (l7 : K.lookup f7 = some ⟨oc7, od7, .func (PySem.W.fnOf "_law_sum" "_law_sum" (defArgs s7) (defBody s7) (defScope s7) .none kV7 dc7 pm7 an7 cd7 ct7), sl7⟩) (c7 : PySem.W.codeIn K cd7 "_law_sum" = true) (k7 : PySem.W.keepIn K (.ref f7) = true)
    (a8 : PySem.W.nsIn K mainGlobals "degree" = some (some (.ref f8))) (l8 : K.lookup f8 = some ⟨oc8, od8, .func (PySem.W.fnOf "degree" "degree" (defArgs s8) (defBody s8) (defScope s8) .none kV8 dc8 pm8 an8 cd8 ct8), sl8⟩) (c8 : PySem.W.codeIn K cd8 "degree" = true) (k8 : PySem.W.keepIn K (.ref f8) = true)
    (a9 : PySem.W.nsIn K mainGlobals "_law_mul" = some (some (.ref f9))) (l9 : K.lookup f9 = some ⟨oc9, od9, .func (PySem.W.fnOf "_law_mul" "_law_mul" (defArgs s9) (defBody s9) (defScope s9) .none kV9 dc9 pm9 an9 cd9 ct9), sl9⟩) (c9 : PySem.W.codeIn K cd9 "_law_mul" = true) (k9 : PySem.W.keepIn K (.ref f9) = true)
    (a10 : PySem.W.nsIn K mainGlobals "_law_at" = some (some (.ref f10))) (l10 : K.lookup f10 = some ⟨oc10, od10, .func (PySem.W.fnOf "_law_at" "_law_at" (defArgs s10) (defBody s10) (defScope s10) .none kV10 dc10 pm10 an10 cd10 ct10), sl10⟩) (c10 : PySem.W.codeIn K cd10 "_law_at" = true) (k10 : PySem.W.keepIn K (.ref f10) = true)
    (a11 : PySem.W.nsIn K mainGlobals "common_measure" = some (some (.ref f11))) (l11 : K.lookup f11 = some ⟨oc11, od11, .func (PySem.W.fnOf "common_measure" "common_measure" (defArgs s11) (defBody s11) (defScope s11) .none kV11 dc11 pm11 an11 cd11 ct11), sl11⟩) (c11 : PySem.W.codeIn K cd11 "common_measure" = true) (k11 : PySem.W.keepIn K (.ref f11) = true)
    (a12 : PySem.W.nsIn K mainGlobals "lowest_terms" = some (some (.ref f12))) (l12 : K.lookup f12 = some ⟨oc12, od12, .func (PySem.W.fnOf "lowest_terms" "lowest_terms" (defArgs s12) (defBody s12) (defScope s12) .none kV12 dc12 pm12 an12 cd12 ct12), sl12⟩) (c12 : PySem.W.codeIn K cd12 "lowest_terms" = true) (k12 : PySem.W.keepIn K (.ref f12) = true)
    (a13 : PySem.W.nsIn K mainGlobals "added" = some (some (.ref f13))) (l13 : K.lookup f13 = some ⟨oc13, od13, .func (PySem.W.fnOf "added" "added" (defArgs s13) (defBody s13) (defScope s13) .none kV13 dc13 pm13 an13 cd13 ct13), sl13⟩) (c13 : PySem.W.codeIn K cd13 "added" = true) (k13 : PySem.W.keepIn K (.ref f13) = true)
    (a14 : PySem.W.nsIn K mainGlobals "multiplied" = some (some (.ref f14))) (l14 : K.lookup f14 = some ⟨oc14, od14, .func (PySem.W.fnOf "multiplied" "multiplied" (defArgs s14) (defBody s14) (defScope s14) .none kV14 dc14 pm14 an14 cd14 ct14), sl14⟩) (c14 : PySem.W.codeIn K cd14 "multiplied" = true) (k14 : PySem.W.keepIn K (.ref f14) = true)
    (a15 : PySem.W.nsIn K mainGlobals "power_of" = some (some (.ref f15))) (l15 : K.lookup f15 = some ⟨oc15, od15, .func (PySem.W.fnOf "power_of" "power_of" (defArgs s15) (defBody s15) (defScope s15) .none kV15 dc15 pm15 an15 cd15 ct15), sl15⟩) (c15 : PySem.W.codeIn K cd15 "power_of" = true) (k15 : PySem.W.keepIn K (.ref f15) = true)
    (a16 : PySem.W.nsIn K mainGlobals "worth" = some (some (.ref f16))) (l16 : K.lookup f16 = some ⟨oc16, od16, .func (PySem.W.fnOf "worth" "worth" (defArgs s16) (defBody s16) (defScope s16) .none kV16 dc16 pm16 an16 cd16 ct16), sl16⟩) (c16 : PySem.W.codeIn K cd16 "worth" = true) (k16 : PySem.W.keepIn K (.ref f16) = true)
    (a17 : PySem.W.nsIn K mainGlobals "_law_is_number" = some (some (.ref f17))) (l17 : K.lookup f17 = some ⟨oc17, od17, .func (PySem.W.fnOf "_law_is_number" "_law_is_number" (defArgs s17) (defBody s17) (defScope s17) .none kV17 dc17 pm17 an17 cd17 ct17), sl17⟩) (c17 : PySem.W.codeIn K cd17 "_law_is_number" = true) (k17 : PySem.W.keepIn K (.ref f17) = true)
    (a18 : PySem.W.nsIn K mainGlobals "law" = some (some (.ref f18))) (l18 : K.lookup f18 = some ⟨oc18, od18, .func (PySem.W.fnOf "law" "law" (defArgs s18) (defBody s18) (defScope s18) .none kV18 dc18 pm18 an18 cd18 ct18), sl18⟩) (c18 : PySem.W.codeIn K cd18 "law" = true) (k18 : PySem.W.keepIn K (.ref f18) = true)
    {ct0_a : Addr} {ct0_d : Option Addr} {ct0_n : Nat} {ct0_s : Array (Option Value)} {ct0_t0 ct0_t1 : Tok} (cn0 : PySem.W.nsIn K mainGlobals "UNIT" = some (some (.ref ct0_a))) (cl0 : K.lookup ct0_a = some ⟨.type "tuple", ct0_d, .seq #[.int 1 ct0_t0, .int 1 ct0_t1] ct0_n, ct0_s⟩)
    {ct1_a : Addr} {ct1_d : Option Addr} {ct1_n : Nat} {ct1_s : Array (Option Value)} {ct1_t0 ct1_t1 : Tok} (cn1 : PySem.W.nsIn K mainGlobals "NOUGHT" = some (some (.ref ct1_a))) (cl1 : K.lookup ct1_a = some ⟨.type "tuple", ct1_d, .seq #[.int 0 ct1_t0, .int 1 ct1_t1] ct1_n, ct1_s⟩)
    (zv : PySem.W.nsIn K mainGlobals "ValueError" = some none)
    (ea0 : PySem.W.nsIn K mainGlobals "LowwaterError" = some none)
    (ea1 : PySem.W.nsIn K mainGlobals "NoRow" = some none)
    (ea2 : PySem.W.nsIn K mainGlobals "NoQuotient" = some none)
    (ea3 : PySem.W.nsIn K mainGlobals "TooGreat" = some none)
    (ea4 : PySem.W.nsIn K mainGlobals "NoText" = some none)
    (ea5 : PySem.W.nsIn K mainGlobals "NotSecond" = some none)
    (ea6 : PySem.W.nsIn K mainGlobals "NotStraight" = some none)
    (ea7 : PySem.W.nsIn K mainGlobals "TooMany" = some none)
    (ea8 : PySem.W.nsIn K mainGlobals "NoLine" = some none)
    (z0 : PySem.W.nsIn K mainGlobals "len" = some none)
    (z1 : PySem.W.nsIn K mainGlobals "abs" = some none)
    (z2 : PySem.W.nsIn K mainGlobals "int" = some none)
    (z3 : PySem.W.nsIn K mainGlobals "str" = some none)
    (z4 : PySem.W.nsIn K mainGlobals "tuple" = some none)
    (z5 : PySem.W.nsIn K mainGlobals "list" = some none)
    (z6 : PySem.W.nsIn K mainGlobals "sum" = some none)
    (z7 : PySem.W.nsIn K mainGlobals "max" = some none)
    (z8 : PySem.W.nsIn K mainGlobals "min" = some none)
    (z9 : PySem.W.nsIn K mainGlobals "all" = some none)
    (z10 : PySem.W.nsIn K mainGlobals "any" = some none)
    (z11 : PySem.W.nsIn K mainGlobals "isinstance" = some none)
    (z12 : PySem.W.nsIn K mainGlobals "bool" = some none)
    (z13 : PySem.W.nsIn K mainGlobals "range" = some none)
    (z14 : PySem.W.nsIn K mainGlobals "zip" = some none)
    (z15 : PySem.W.nsIn K mainGlobals "enumerate" = some none)
    (z16 : PySem.W.nsIn K mainGlobals "reversed" = some none)
    (z17 : PySem.W.nsIn K mainGlobals "sorted" = some none)
    (z18 : PySem.W.nsIn K mainGlobals "dict" = some none)
    : ∃ fd : FuncData, (∀ (s : Shared) (v : Value), BindsTo s fd ⟨[v], []⟩ [("script", v)]) ∧ ∀ base : Heap, K.In base → base.Ns mainGlobals mg → FnOk l.prog w K mg base (L2.CX l.prog w) 19 fa fd ["script"] (spLw K) := by
  have e := hfa.symm.trans (PySem.W.mg_of X G a18)
  cases e
  refine ⟨PySem.W.fnOf "law" "law" (defArgs s18) (defBody s18) (defScope s18) .none kV18 dc18 pm18 an18 cd18 ct18, fun s v => .of_eq rfl, fun base _ _ => ?_⟩
  have hz : ∀ x ∈ biNames, mg x = none := by
    intro x hx
    simp only [biNames, List.mem_cons, List.not_mem_nil, or_false] at hx
    rcases hx with rfl | rfl | rfl | rfl | rfl | rfl | rfl | rfl | rfl | rfl | rfl | rfl | rfl | rfl | rfl | rfl | rfl | rfl | rfl
    · exact PySem.W.mg_none_of X G z0
    · exact PySem.W.mg_none_of X G z1
    · exact PySem.W.mg_none_of X G z2
    · exact PySem.W.mg_none_of X G z3
    · exact PySem.W.mg_none_of X G z4
    · exact PySem.W.mg_none_of X G z5
    · exact PySem.W.mg_none_of X G z6
    · exact PySem.W.mg_none_of X G z7
    · exact PySem.W.mg_none_of X G z8
    · exact PySem.W.mg_none_of X G z9
    · exact PySem.W.mg_none_of X G z10
    · exact PySem.W.mg_none_of X G z11
    · exact PySem.W.mg_none_of X G z12
    · exact PySem.W.mg_none_of X G z13
    · exact PySem.W.mg_none_of X G z14
    · exact PySem.W.mg_none_of X G z15
    · exact PySem.W.mg_none_of X G z16
    · exact PySem.W.mg_none_of X G z17
    · exact PySem.W.mg_none_of X G z18
  have conF : ∀ x ∈ (["UNIT", "NOUGHT"] : List Str), ∃ d u v, G0.con x = some d ∧ mg x = some u ∧ RelV v u ∧ ∀ m H, VR K m H d v := by
    intro x hx
    simp only [List.mem_cons, List.not_mem_nil, or_false] at hx
    rcases hx with rfl | rfl
    · refine ⟨.wtup [.int 1, .int 1], _, .ref ct0_a, rfl, PySem.W.mg_of X G cn0, rfl, fun m H => ⟨ct0_a, [V.int 1, V.int 1], rfl, .inr ⟨_, _, _, cl0, rfl, rfl, small1000 (Nat.le_of_ble_eq_true rfl), ?_⟩, ?_⟩⟩
      · exact .cons ⟨_, rfl⟩ (.cons ⟨_, rfl⟩ (.nil))
      · exact ⟨_, _, rfl, rfl, ⟨_, _, rfl, rfl, rfl⟩⟩
    · refine ⟨.wtup [.int 0, .int 1], _, .ref ct1_a, rfl, PySem.W.mg_of X G cn1, rfl, fun m H => ⟨ct1_a, [V.int 0, V.int 1], rfl, .inr ⟨_, _, _, cl1, rfl, rfl, small1000 (Nat.le_of_ble_eq_true rfl), ?_⟩, ?_⟩⟩
      · exact .cons ⟨_, rfl⟩ (.cons ⟨_, rfl⟩ (.nil))
      · exact ⟨_, _, rfl, rfl, ⟨_, _, rfl, rfl, rfl⟩⟩
  have ki : ∀ c C, PySem.W.nsIn K mainGlobals c = some (some (.ref C)) → mg c = some (.ref C) := fun c C e => PySem.W.mg_of X G e
  have hx : ∀ c ∈ exnAll, mg c = none := by
    intro c hc
    simp only [exnAll, List.mem_cons, List.not_mem_nil, or_false] at hc
    rcases hc with rfl | rfl | rfl | rfl | rfl | rfl | rfl | rfl | rfl
    · exact PySem.W.mg_none_of X G ea0
    · exact PySem.W.mg_none_of X G ea1
    · exact PySem.W.mg_none_of X G ea2
    · exact PySem.W.mg_none_of X G ea3
    · exact PySem.W.mg_none_of X G ea4
    · exact PySem.W.mg_none_of X G ea5
    · exact PySem.W.mg_none_of X G ea6
    · exact PySem.W.mg_none_of X G ea7
    · exact PySem.W.mg_none_of X G ea8
  have g0 : Glob l.prog w K mg base G0 [] ["UNIT", "NOUGHT"] [] 0 := ⟨hz, conF, fun f n h => (by cases h), ext_none hx ki (PySem.W.mg_none_of X G zv), fun c h => (by cases h)⟩
  have F0 := fun_mk (st := s0) l0 c0 k0
  have g1 := g0.def_ F0 sc0 (PySem.W.mg_of X G a0) k0 (F0.binds (ps := ["tape", "many"]) fun _ _ _ _ _ _ us hl => match us, hl with | [_, _], _ => rfl) ck0 (a := 6) rfl rfl
  have F1 := fun_mk (st := s1) l1 c1 k1
  have g2 := g1.def_ F1 sc1 (PySem.W.mg_of X G a1) k1 (F1.binds (ps := ["one", "other"]) fun _ _ _ _ _ _ us hl => match us, hl with | [_, _], _ => rfl) ck1 (a := 3) rfl rfl
  have F2 := fun_mk (st := s2) l2 c2 k2
  have g3 := g2.def_ F2 sc2 (PySem.W.mg_of X G a2) k2 (F2.binds (ps := ["found", "powers", "number"]) fun _ _ _ _ _ _ us hl => match us, hl with | [_, _, _], _ => rfl) ck2 (a := 4) rfl rfl
  have F3 := fun_mk (st := s3) l3 c3 k3
  have g4 := g3.def_ F3 sc3 (PySem.W.mg_of X G a3) k3 (F3.binds (ps := ["top", "bottom"]) fun _ _ _ _ _ _ us hl => match us, hl with | [_, _], _ => rfl) ck3 (a := 4) rfl rfl
  have F4 := fun_mk (st := s4) l4 c4 k4
  have g5 := g4.def_ F4 sc4 (PySem.W.mg_of X G a4) k4 (F4.binds (ps := ["tape"]) fun _ _ _ _ _ _ us hl => match us, hl with | [_], _ => rfl) ck4 (a := 4) rfl rfl
  have F5 := fun_mk (st := s5) l5 c5 k5
  have g6 := g5.def_ F5 sc5 (PySem.W.mg_of X G a5) k5 (F5.binds (ps := ["tape"]) fun _ _ _ _ _ _ us hl => match us, hl with | [_], _ => rfl) ck5 (a := 3) rfl rfl
  have F6 := fun_mk (st := s6) l6 c6 k6
  have g7 := g6.def_ F6 sc6 (PySem.W.mg_of X G a6) k6 (F6.binds (ps := ["tape", "many"]) fun _ _ _ _ _ _ us hl => match us, hl with | [_, _], _ => rfl) ck6 (a := 7) rfl rfl
  have F7 := fun_mk (st := s7) l7 c7 k7
  have g8 := g7.def_ F7 sc7 (PySem.W.mg_of X G a7) k7 (F7.binds (ps := ["many", "one"]) fun _ _ _ _ _ _ us hl => match us, hl with | [_, _], _ => rfl) ck7 (a := 5) rfl rfl
  have F8 := fun_mk (st := s8) l8 c8 k8
  have g9 := g8.def_ F8 sc8 (PySem.W.mg_of X G a8) k8 (F8.binds (ps := ["one"]) fun _ _ _ _ _ _ us hl => match us, hl with | [_], _ => rfl) ck8 (a := 3) rfl rfl
  have F9 := fun_mk (st := s9) l9 c9 k9
  have g10 := g9.def_ F9 sc9 (PySem.W.mg_of X G a9) k9 (F9.binds (ps := ["one", "other"]) fun _ _ _ _ _ _ us hl => match us, hl with | [_, _], _ => rfl) ck9 (a := 2) rfl rfl
  have F10 := fun_mk (st := s10) l10 c10 k10
  have g11 := g10.def_ F10 sc10 (PySem.W.mg_of X G a10) k10 (F10.binds (ps := ["one", "spot"]) fun _ _ _ _ _ _ us hl => match us, hl with | [_, _], _ => rfl) ck10 (a := 8) rfl rfl
  have F11 := fun_mk (st := s11) l11 c11 k11
  have g12 := g11.def_ F11 sc11 (PySem.W.mg_of X G a11) k11 (F11.binds (ps := ["one", "other"]) fun _ _ _ _ _ _ us hl => match us, hl with | [_, _], _ => rfl) ck11 (a := 2) rfl rfl
  have F12 := fun_mk (st := s12) l12 c12 k12
  have g13 := g12.def_ F12 sc12 (PySem.W.mg_of X G a12) k12 (F12.binds (ps := ["top", "bottom"]) fun _ _ _ _ _ _ us hl => match us, hl with | [_, _], _ => rfl) ck12 (a := 3) rfl rfl
  have F13 := fun_mk (st := s13) l13 c13 k13
  have g14 := g13.def_ F13 sc13 (PySem.W.mg_of X G a13) k13 (F13.binds (ps := ["one", "other"]) fun _ _ _ _ _ _ us hl => match us, hl with | [_, _], _ => rfl) ck13 (a := 2) rfl rfl
  have F14 := fun_mk (st := s14) l14 c14 k14
  have g15 := g14.def_ F14 sc14 (PySem.W.mg_of X G a14) k14 (F14.binds (ps := ["one", "other"]) fun _ _ _ _ _ _ us hl => match us, hl with | [_, _], _ => rfl) ck14 (a := 2) rfl rfl
  have F15 := fun_mk (st := s15) l15 c15 k15
  have g16 := g15.def_ F15 sc15 (PySem.W.mg_of X G a15) k15 (F15.binds (ps := ["number", "power"]) fun _ _ _ _ _ _ us hl => match us, hl with | [_, _], _ => rfl) ck15 (a := 4) rfl rfl
  have F16 := fun_mk (st := s16) l16 c16 k16
  have g17 := g16.def_ F16 sc16 (PySem.W.mg_of X G a16) k16 (F16.binds (ps := ["one", "spot"]) fun _ _ _ _ _ _ us hl => match us, hl with | [_, _], _ => rfl) ck16 (a := 7) rfl rfl
  have F17 := fun_mk (st := s17) l17 c17 k17
  have g18 := g17.def_ F17 sc17 (PySem.W.mg_of X G a17) k17 (F17.binds (ps := ["thing"]) fun _ _ _ _ _ _ us hl => match us, hl with | [_], _ => rfl) ck17 (a := 2) rfl rfl
  have F18 := fun_mk (st := s18) l18 c18 k18
  refine FnOk.imp (sp := spOf K mg (specOf G18 13 ir_law) 1) ?_ fun vs H Q E h => h mg
  exact def_ok F18 sc18 g18 ck18 fun ds S _ nb => let ⟨n, e⟩ := specOf_run G18 13 ir_law ds S nb; ⟨n, .inr e⟩
end Lw
open PySem PySem.W PyProof.Rows
set_option maxHeartbeats 0 in
theorem PySem.Challenge.cw_lowwater_k04_degrees_and_worths_holds : PySem.Challenge.rw_lowwater_k04_degrees_and_worths.Holds := by
  w_on; o_law; k_head; (case hw => w_witness2)
  k_fill
  refine L2.walk_of (l := PySem.Challenge.rw_lowwater_k04_degrees_and_worths) (n := 63) (k := 19) (x := "script") (CX := fun w => L2.CX (PySem.Challenge.rw_lowwater_k04_degrees_and_worths).prog w) (sp := fun w => Lw.spLw _) rfl (by decide) rfl ⟨rfl, by decide, by decide⟩ (fun w h Y => PySem.W.kIn_of Y) ?F (fun w H a ns hl ho hs mg => Mp.law_sp (mg := mg) (fun ns _ => Lw.run_k04 ns) H a ns hl ho hs) ?C
  case F =>
    intro w mg fa h KX G hmg
    refine' Lw.all_mk KX G hmg ?a0 ?l0 ?c0 ?k0 ?a1 ?l1 ?c1 ?k1 ?a2 ?l2 ?c2 ?k2 ?a3 ?l3 ?c3 ?k3 ?a4 ?l4 ?c4 ?k4 ?a5 ?l5 ?c5 ?k5 ?a6 ?l6 ?c6 ?k6 ?a7 ?l7 ?c7 ?k7 ?a8 ?l8 ?c8 ?k8 ?a9 ?l9 ?c9 ?k9 ?a10 ?l10 ?c10 ?k10 ?a11 ?l11 ?c11 ?k11 ?a12 ?l12 ?c12 ?k12 ?a13 ?l13 ?c13 ?k13 ?a14 ?l14 ?c14 ?k14 ?a15 ?l15 ?c15 ?k15 ?a16 ?l16 ?c16 ?k16 ?a17 ?l17 ?c17 ?k17 ?a18 ?l18 ?c18 ?k18 ?cn0 ?cl0 ?cn1 ?cl1 ?zv ?ea0 ?ea1 ?ea2 ?ea3 ?ea4 ?ea5 ?ea6 ?ea7 ?ea8 ?z0 ?z1 ?z2 ?z3 ?z4 ?z5 ?z6 ?z7 ?z8 ?z9 ?z10 ?z11 ?z12 ?z13 ?z14 ?z15 ?z16 ?z17 ?z18
    (case a0 => k_is); (case l0 => k_is); (case c0 => k_is); (case k0 => k_is); (case a1 => k_is); (case l1 => k_is); (case c1 => k_is); (case k1 => k_is); (case a2 => k_is); (case l2 => k_is); (case c2 => k_is); (case k2 => k_is); (case a3 => k_is); (case l3 => k_is); (case c3 => k_is); (case k3 => k_is); (case a4 => k_is); (case l4 => k_is); (case c4 => k_is); (case k4 => k_is); (case a5 => k_is); (case l5 => k_is); (case c5 => k_is); (case k5 => k_is); (case a6 => k_is); (case l6 => k_is); (case c6 => k_is); (case k6 => k_is); (case a7 => k_is); (case l7 => k_is); (case c7 => k_is); (case k7 => k_is); (case a8 => k_is); (case l8 => k_is); (case c8 => k_is); (case k8 => k_is); (case a9 => k_is); (case l9 => k_is); (case c9 => k_is); (case k9 => k_is); (case a10 => k_is); (case l10 => k_is); (case c10 => k_is); (case k10 => k_is); (case a11 => k_is); (case l11 => k_is); (case c11 => k_is); (case k11 => k_is); (case a12 => k_is); (case l12 => k_is); (case c12 => k_is); (case k12 => k_is); (case a13 => k_is); (case l13 => k_is); (case c13 => k_is); (case k13 => k_is); (case a14 => k_is); (case l14 => k_is); (case c14 => k_is); (case k14 => k_is); (case a15 => k_is); (case l15 => k_is); (case c15 => k_is); (case k15 => k_is); (case a16 => k_is); (case l16 => k_is); (case c16 => k_is); (case k16 => k_is); (case a17 => k_is); (case l17 => k_is); (case c17 => k_is); (case k17 => k_is); (case a18 => k_is); (case l18 => k_is); (case c18 => k_is); (case k18 => k_is)
    (case cn0 => k_is); (case cl0 => k_is); (case cn1 => k_is); (case cl1 => k_is)
    (case zv => k_is)
    (case ea0 => k_is); (case ea1 => k_is); (case ea2 => k_is); (case ea3 => k_is); (case ea4 => k_is); (case ea5 => k_is); (case ea6 => k_is); (case ea7 => k_is); (case ea8 => k_is)
    (case z0 => k_is); (case z1 => k_is); (case z2 => k_is); (case z3 => k_is); (case z4 => k_is); (case z5 => k_is); (case z6 => k_is); (case z7 => k_is); (case z8 => k_is); (case z9 => k_is); (case z10 => k_is); (case z11 => k_is); (case z12 => k_is); (case z13 => k_is); (case z14 => k_is); (case z15 => k_is); (case z16 => k_is); (case z17 => k_is); (case z18 => k_is)
  case C =>
    intro w H s e s' hx
    exact (match hx with | ⟨_, _, _, _, _, _, _, _, _, _, _, _, z⟩ => z)
